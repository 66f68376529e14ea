import PyProof.Rows.All
import Wide.All
import OpenK.AllK
import Wide.FinOn
import HandS.Zip
import KE.KDictZip
import PyProof.ListNew
import KE.GoesEnum
import KE.GoesMore
import HandS.ForMost
import HandS.Wide
import HandS.Walk
import HandS.Deep
import HandS.IsInst
import KE.SortKeyed
import HandS.TupAny
import HandS.Style
import HandS.Small
import HandS.More
import HandS.DictComp
import HandS.Defaults
import HandS.HeadEnd
import HandS.HeadHook2
import HandS.HeadHook4
import HandS.Head2
import KE.DataEq
import KE.KStateDown
import Lean
import HandS.Words
import HandS.WordsExc
import HandS.Head0
import HandS.Head1
import PySem.Challenge.RW_leapcart_k03_whole_the_common_middle_sta
set_option Elab.async false
set_option linter.all false
set_option maxRecDepth 100000
set_option maxHeartbeats 4000000
set_option autoImplicit false
set_option exponentiation.threshold 10000
/-! list(zip(xs, ys)) of two lists. -/
namespace Lc
open PySem PySem.Spec PyProof.Rows L2
theorem zip_no_len : typeLookup (.type "zip") "__len__" = pure none := am_miss_of_fast (by decide +kernel)
theorem zip_no_hint : typeLookup (.type "zip") "__length_hint__" = pure none := am_miss_of_fast (by decide +kernel)
/-- the zip at its i-th turn -/
structure ZSt (z TI TO i1 i2 a b S : Addr) (i : Nat) (h : Heap) : Prop where
  zs : (IsZip h z TI TO .none ∧ (∃ x y, IsPair h TO x y)) ∨ ∃ T f oT, IsZipHeld h z TI TO T f ∧ h.get? T = some oT ∧ T ≠ z ∧ T ≠ i1 ∧ T ≠ i2
  ti : IsPair h TI (.ref i1) (.ref i2)
  h1 : h.IsListIter i1 a i
  h2 : h.IsListIter i2 b i
  lt : ∀ c ∈ [z, TI, TO, i1, i2], c < h.objs.size
section
variable {X : Cx} {pins : List (Addr × Obj)} {σ : L2.St}
theorem zip_loop {A : Around} (hh : A.in1.handled = none) {z TI TO i1 i2 a b S : Addr} {xs ys : List V} {n : Nat} {res : Value} {R : Result → Shared → Prop} (D : ZipApart z TI TO i1 i2 a b)
    (hS : S ∉ [z, TI, TO, i1, i2]) (J : Nat → List V → Hp → Prop) (hn : n = min xs.length ys.length) (hz : n ≤ sizeLine)
    (hJ : ∀ i acc H T x y, J i acc H → xs[i]? = some x → ys[i]? = some y → H T = none → H S = some (.lst acc) → J (i + 1) (acc ++ [.ref T]) (upd (upd H T (.tup [x, y])) S (.lst (acc ++ [.ref T]))))
    (hq : ∀ i acc H, J i acc H → SqL X.K H a xs ∧ SqL X.K H b ys)
    (hR : ∀ s' H' acc', Inv X pins σ H' s' → J n acc' H' → H' S = some (.lst acc') → R (.ok (.ret res)) s') :
    ∀ (k i : Nat) (s : Shared) (H : Hp) (acc : List V), n - i = k → i ≤ n → Inv X pins σ H s → (∀ c ∈ [z, TI, TO, i1, i2], FpOk X pins H c) → ZSt z TI TO i1 i2 a b S i s.heap → H S = some (.lst acc) → acc.length = i → J i acc H →
    codeAny (model X.prog X.w) A (.builtin "list.extend.loop" ⟨[.ref S, .ref z, res], []⟩) R s := by
  intro k
  induction k with
  | zero =>
    intro i s H acc hk hi I hf st hSa hl j
    have hin : i = n := by omega
    subst hin
    refine codeAny_builtin F.entry_extend_loop ?_
    rw [Around.under_plainId F.plain_extend_loop _]
    show wpAny _ A.in1 (pyNext (.ref z) >>= _) _ _ s
    obtain ⟨q1, q2⟩ := hq _ _ _ j
    obtain ⟨its, rv, p, _⟩ := I.list q1
    obtain ⟨its2, rv2, p2, _⟩ := I.list q2
    have l1 := rv.length
    have l2 := rv2.length
    have he : its.toArray[i]? = none ∨ its2.toArray[i]? = none := by
      by_cases h : xs.length ≤ i
      · exact .inl (by simp; omega)
      · exact .inr (by simp; omega)
    have fin : ∀ h' : Heap, (∀ c o, c ∉ [z, TI, TO, i1, i2] → s.heap.get? c = some o → h'.get? c = some o) → R (.ok (.ret res)) { s with heap := h' } := fun h' hk' =>
      hR _ H acc (I.turnedL (t' := s.toks) (ch := [z, TI, TO, i1, i2]) (fun c o hb q => hk' c o hb q) hf) j hSa
    rcases st.zs with ⟨hz0, x, y, hTO⟩ | ⟨T, f, oT, hz0, hT, d1, d2, d3⟩
    · exact wpAny_bind (wpAny_pyNext_zip_end hh D hz0 st.ti hTO st.h1 st.h2 p.isList p2.isList he fun h' hk' => wpAny_pure (fin h' fun c o hb q =>
        hk' c o (fun q' => hb (by simp [q'])) (fun q' => hb (by simp [q'])) (fun q' => hb (by simp [q'])) (fun q' => hb (by simp [q'])) q))
    · exact wpAny_bind (wpAny_pyNext_zip_end_held hh D hz0 hT st.ti st.h1 st.h2 p.isList p2.isList he fun h' hk' => wpAny_pure (fin h' fun c o hb q =>
        hk' c o (fun q' => hb (by simp [q'])) (fun q' => hb (by simp [q'])) (fun q' => hb (by simp [q'])) q))
  | succ k ih =>
    intro i s H acc hk hi I hf st hSa hl j
    have hlt : i < n := by omega
    refine codeAny_builtin F.entry_extend_loop ?_
    rw [Around.under_plainId F.plain_extend_loop _]
    show wpAny _ A.in1 (pyNext (.ref z) >>= _) _ _ s
    obtain ⟨q1, q2⟩ := hq _ _ _ j
    obtain ⟨its, rv, p, _⟩ := I.list q1
    obtain ⟨its2, rv2, p2, _⟩ := I.list q2
    have hx : xs[i]? = some (xs[i]'(by omega)) := List.getElem?_eq_getElem _
    have hy : ys[i]? = some (ys[i]'(by omega)) := List.getElem?_eq_getElem _
    generalize xs[i]'(by omega) = x at hx
    generalize ys[i]'(by omega) = y at hy
    obtain ⟨u, hu, ru⟩ := rv.get hx
    obtain ⟨u2, hu2, ru2⟩ := rv2.get hy
    have hzl : z < s.heap.objs.size := by
      rcases st.zs with ⟨hz0, _⟩ | ⟨_, _, _, hz0, _⟩
      · exact Heap.lt_size hz0
      · exact Heap.lt_size hz0
    have step : ∀ h' : Heap, (∃ T f oT, IsZipHeld h' z TI TO T f ∧ h'.get? T = some oT ∧ T ≠ z ∧ T ≠ i1 ∧ T ≠ i2) → h'.IsListIter i1 a (i + 1) → h'.IsListIter i2 b (i + 1) → IsPair h' s.heap.objs.size u u2 → h'.objs.size = s.heap.objs.size + 1 →
        (∀ c o, c ∉ [z, TO, i1, i2] → s.heap.get? c = some o → h'.get? c = some o) →
        wpAny (model X.prog X.w) A.in1 (do updateSeq S (·.push (.ref s.heap.objs.size)); again (.builtin "list.extend.loop" ⟨[.ref S, .ref z, res], []⟩))
          (fun fin s' => match fin with | .done f => R (.ok f) s' | .again c' => c'.quiet = true ∧ codeAny (model X.prog X.w) A c' R s') (fun e s' => R (.error e) s') { s with heap := h' } := by
      intro h' hzh h1' h2' hT hsz hk'
      have new : ObjOk X.prog X.w (upd H s.heap.objs.size (.tup [x, y])) h' s.heap.objs.size (.tup [x, y]) :=
        ⟨by show 2 ≤ sizeLine; decide, [u, u2], .cons ru (.cons ru2 .nil), ⟨_, hT, rfl, _, rfl⟩⟩
      have I1 : Inv X pins σ (upd H s.heap.objs.size (.tup [x, y])) { s with heap := h' } :=
        I.turnedNew (t' := s.toks) (ch := [z, TI, TO, i1, i2]) (fun c o hb q => hk' c o (fun q' => hb (by simp only [List.mem_cons, List.not_mem_nil, or_false] at q' ⊢; rcases q' with q' | q' | q' | q' <;> simp [q'])) q) hf (Nat.le_refl _) new
      have hTn : H s.heap.objs.size = none := I.hok.fresh (Nat.le_refl _)
      have hST : S ≠ s.heap.objs.size := fun e => by rw [e, hTn] at hSa; cases hSa
      have hS1 : upd H s.heap.objs.size (.tup [x, y]) S = some (.lst acc) := by rw [upd_ne hST]; exact hSa
      obtain ⟨zz, its3, m, rv3, e3⟩ := I1.hok S _ hS1
      have hl3 := rv3.length
      refine wpAny_bind (wpAny_updateSeq e3 rfl (wpAny_pure ⟨plainId_quiet F.plain_extend_loop _, ?_⟩) (by rw [List.size_toArray, ← hl3]; exact zz) (by show (its3.toArray.push _).size ≤ sizeLine + 1; rw [Array.size_push, List.size_toArray, ← hl3]; exact Nat.add_le_add_right zz 1))
      have eS := Heap.get?_update_self (Obj.mapSeq (·.push (Value.ref s.heap.objs.size))) e3 rfl
      have oth : ∀ c o, c ≠ S → h'.get? c = some o → (h'.update S (Obj.mapSeq (·.push (Value.ref s.heap.objs.size)))).get? c = some o := fun c o hc e => (Heap.get?_update_other _ _ (Ne.symm hc)).trans e
      have eS' : (h'.update S (Obj.mapSeq (·.push (Value.ref s.heap.objs.size)))).get? S = some { cls := .type "list", data := .seq (its3 ++ [Value.ref s.heap.objs.size]).toArray (m + 1) } := by
        rw [eS]
        simp [Obj.mapSeq]
      have hsz2 : (h'.update S (Obj.mapSeq (·.push (Value.ref s.heap.objs.size)))).objs.size = h'.objs.size := (Heap.SameBut.update ..).1
      have I2 : Inv X pins σ (upd (upd H s.heap.objs.size (.tup [x, y])) S (.lst (acc ++ [.ref s.heap.objs.size]))) { s with heap := h'.update S (Obj.mapSeq (·.push (Value.ref s.heap.objs.size))) } := by
        refine I1.write (t' := s.toks) (x := S) (e := S) (by rw [hS1]; trivial) (.inl rfl) (fun b o hb e => oth b o hb e) ⟨_, eS'⟩ ⟨?_, its3 ++ [Value.ref s.heap.objs.size], m + 1, ?_, eS'⟩
        · rw [List.length_append, hl]; simp; omega
        · exact rv3.append (.cons rfl .nil)
      have nS : ∀ c ∈ [z, TI, TO, i1, i2], c ≠ S := fun c hc e => hS (e ▸ hc)
      have hkeep : ∀ c ∈ [z, TI, TO, i1, i2], ∀ o, h'.get? c = some o → (h'.update S (Obj.mapSeq (·.push (Value.ref s.heap.objs.size)))).get? c = some o := fun c hc o e => oth c o (nS c hc) e
      refine ih (i + 1) _ _ (acc ++ [.ref s.heap.objs.size]) (by omega) hlt I2 (fun c hc => ?_) ⟨?_, ?_, ?_, ?_, ?_⟩ upd_same (by simp [hl]) (hJ i acc H _ x y j hx hy hTn hSa)
      · obtain ⟨f1, f2⟩ := hf c hc
        refine ⟨?_, f2⟩
        rw [upd_ne (nS c hc), upd_ne (Nat.ne_of_lt (st.lt c hc))]
        exact f1
      · obtain ⟨T, f, oT, g1, g2, g3, g4, g5⟩ := hzh
        refine .inr ⟨T, f, ?_⟩
        by_cases e : T = S
        · subst e; exact ⟨_, hkeep z (by simp) _ g1, eS', g3, g4, g5⟩
        · exact ⟨oT, hkeep z (by simp) _ g1, oth T _ e g2, g3, g4, g5⟩
      · exact hkeep TI (by simp) _ (hk' TI _ (by simp; exact ⟨D.TIz, D.TITO, D.TIi1, D.TIi2⟩) st.ti)
      · exact h1'.at fun o q => hkeep i1 (by simp) o q
      · exact h2'.at fun o q => hkeep i2 (by simp) o q
      · intro c hc
        have := st.lt c hc
        show c < (h'.update S _).objs.size
        rw [hsz2, hsz]
        exact Nat.lt_succ_of_lt this
    rcases st.zs with ⟨hz0, x0, y0, hTO⟩ | ⟨T, f, oT, hz0, hT, d1, d2, d3⟩
    · refine wpAny_bind (wpAny_pyNext_zip_item D hz0 st.ti hTO st.h1 st.h2 p.isList p2.isList (x := u) (y := u2) (by simpa using hu) (by simpa using hu2) fun h' z' TO' h1' h2' hT hsz hk' => ?_)
      have l1 := st.lt z (by simp)
      have l2 := st.lt i1 (by simp)
      have l3 := st.lt i2 (by simp)
      exact step h' ⟨_, false, _, z', hT, Nat.ne_of_gt l1, Nat.ne_of_gt l2, Nat.ne_of_gt l3⟩ h1' h2' hT hsz fun c o hb q => hk' c o (fun q' => hb (by simp [q'])) (fun q' => hb (by simp [q'])) (fun q' => hb (by simp [q'])) (fun q' => hb (by simp [q'])) q
    · refine wpAny_bind (wpAny_pyNext_zip_item_held D hz0 hT st.ti st.h1 st.h2 p.isList p2.isList (x := u) (y := u2) (by simpa using hu) (by simpa using hu2) fun h' z' h1' h2' hT' hsz hk' => ?_)
      exact step h' ⟨T, true, oT, z', hk' T _ d1 d2 d3 hT, d1, d2, d3⟩ h1' h2' hT' hsz fun c o hb q => hk' c o (fun q' => hb (by simp [q'])) (fun q' => hb (by simp [q'])) (fun q' => hb (by simp [q'])) q
theorem list_init_zip {A : Around} (hh : A.in1.handled = none) {z TI TO i1 i2 a b S : Addr} {xs ys : List V} {R : Result → Shared → Prop} {s : Shared} {H : Hp} (D : ZipApart z TI TO i1 i2 a b)
    (hS : S ∉ [z, TI, TO, i1, i2]) (J : Nat → List V → Hp → Prop) (hz : min xs.length ys.length ≤ sizeLine)
    (hJ : ∀ i acc H T x y, J i acc H → xs[i]? = some x → ys[i]? = some y → H T = none → H S = some (.lst acc) → J (i + 1) (acc ++ [.ref T]) (upd (upd H T (.tup [x, y])) S (.lst (acc ++ [.ref T]))))
    (hq : ∀ i acc H, J i acc H → SqL X.K H a xs ∧ SqL X.K H b ys)
    (hR : ∀ s' H' acc', Inv X pins σ H' s' → J (min xs.length ys.length) acc' H' → H' S = some (.lst acc') → R (.ok (.ret .none)) s')
    (I : Inv X pins σ H s) (hf : ∀ c ∈ [z, TI, TO, i1, i2], FpOk X pins H c) (st : ZSt z TI TO i1 i2 a b S 0 s.heap) (hSa : H S = some (.lst [])) (hS0 : s.heap.get? S = some { cls := .type "list", data := .seq #[] }) (j : J 0 [] H) :
    wpAny (model X.prog X.w) A.in1 (Builtin.«list.__init__» ⟨[.ref S, .ref z], []⟩)
      (fun fin s' => match fin with | .done f => R (.ok f) s' | .again c' => c'.quiet = true ∧ codeAny (model X.prog X.w) A c' R s') (fun e s' => R (.error e) s') s := by
  have hzT : ∀ s' : Shared, ZSt z TI TO i1 i2 a b S 0 s'.heap → s'.TypeIs (.ref z) "zip" := fun s' st => by
    rcases st.zs with ⟨hz0, _⟩ | ⟨_, _, _, hz0, _⟩
    · exact ⟨_, hz0, rfl⟩
    · exact ⟨_, hz0, rfl⟩
  have upd1 : ∀ {s' : Shared} {h' : Heap} {m' : Nat}, Inv X pins σ H s' → ZSt z TI TO i1 i2 a b S 0 s'.heap → (∀ c o, c ≠ S → s'.heap.get? c = some o → h'.get? c = some o) → h'.objs.size = s'.heap.objs.size → h'.get? S = some { cls := .type "list", data := .seq #[] m' } →
      Inv X pins σ H { s' with heap := h' } ∧ ZSt z TI TO i1 i2 a b S 0 h' := by
    intro s' h' m' I' st' oth hsz e'
    have nS : ∀ c ∈ [z, TI, TO, i1, i2], c ≠ S := fun c hc e => hS (e ▸ hc)
    constructor
    · have w := I'.write (t' := s'.toks) (x := S) (e := S) (o := .lst []) (by rw [hSa]; trivial) (.inl rfl) (fun b o hb e => oth b o hb e) ⟨_, e'⟩ ⟨Nat.zero_le _, [], m', .nil, e'⟩
      have eH : upd H S (.lst []) = H := by
        funext c
        by_cases hc : c = S
        · rw [hc, upd_same, hSa]
        · rw [upd_ne hc]
      rw [eH] at w
      exact w
    · refine ⟨?_, oth TI _ (nS TI (by simp)) st'.ti, st'.h1.at fun o q => oth i1 o (nS i1 (by simp)) q, st'.h2.at fun o q => oth i2 o (nS i2 (by simp)) q, fun c hc => by rw [hsz]; exact st'.lt c hc⟩
      rcases st'.zs with ⟨hz0, x, y, hTO⟩ | ⟨T, f, oT, hz0, hT, d1, d2, d3⟩
      · exact .inl ⟨oth z _ (nS z (by simp)) hz0, x, y, oth TO _ (nS TO (by simp)) hTO⟩
      · by_cases e : T = S
        · subst e; exact .inr ⟨_, f, _, oth z _ (nS z (by simp)) hz0, e', d1, d2, d3⟩
        · exact .inr ⟨T, f, oT, oth z _ (nS z (by simp)) hz0, oth T _ e hT, d1, d2, d3⟩
  show wpAny _ A.in1 (do let old ← Builtin.List.listItems (.ref S); Builtin.List.listUpdate (.ref S) (fun _ => #[]); letGo old.toList.reverse; Builtin.List.listExtendWith (.ref S) (.ref z) .none) _ _ s
  refine wpAny_bind ?_
  unfold Builtin.List.listItems
  refine wpAny_bind (wpAny_seqItems hS0 rfl (wpAny_pure ?_))
  show wpAny _ A.in1 (updateSeq S (fun _ => #[]) >>= fun _ => letGo (#[] : Array Value).toList.reverse >>= fun _ => Builtin.List.listExtendWith (.ref S) (.ref z) .none) _ _ s
  refine wpAny_bind (wpAny_updateSeq hS0 rfl ?_)
  have hS2 := Heap.get?_update_self (Obj.mapSeq (fun _ => (#[] : Array Value))) hS0 rfl
  obtain ⟨I2, st2⟩ := upd1 I st (fun c o hc e => (Heap.get?_update_other _ _ (Ne.symm hc)).trans e) (Heap.SameBut.update ..).1 hS2
  refine wpAny_bind (wpAny_letGo ?_)
  unfold Builtin.List.listExtendWith
  refine wpAny_bind (wpAny_typeOf (hzT _ st2) ?_)
  have hSz : S ≠ z := fun e => hS (by simp [e])
  have h1 : Builtin.List.listSameRef (.ref S) (.ref z) = false := by simp [Builtin.List.listSameRef, hSz]
  have h2 : (Value.type "zip" == Value.type "list") = false := by decide
  have h3 : (Value.type "zip" == Value.type "tuple") = false := by decide
  simp only [h1, h2, h3, Bool.or_false, Bool.false_eq_true, if_false]
  have hit : ∀ {Q : Value → Shared → Prop} {E : Value → Shared → Prop} {s' : Shared}, ZSt z TI TO i1 i2 a b S 0 s'.heap → Q (.ref z) s' → wpAny (model X.prog X.w) A.in1 (pyIter (.ref z)) Q E s' := fun {Q E s'} st h => by
    rcases st.zs with ⟨hz0, _⟩ | ⟨_, f, _, hz0, _⟩
    · exact wpAny_pyIter_zip hz0 h
    · have hT : s'.TypeIs (.ref z) "zip" := ⟨_, hz0, rfl⟩
      refine wpAny_pyIter_slot hT F.slot_zip_iter (wpAny_call_entry F.slot_zip_iter hT F.entry_zip_iter ?_ (F.args_zip_iter_1 _))
      show wpAny _ _ (ret (.ref z)) _ _ s'
      exact wpAny_pure ⟨_, rfl, "zip", _, hT, F.slot_zip_next.lookup, h⟩
  refine wpAny_bind (hit st2 ?_)
  refine wpAny_bind (wpAny_holding ?_)
  unfold Builtin.List.listLengthHint
  refine wpAny_bind (wpAny_specialOf (hzT _ st2) zip_no_len ?_)
  show wpAny _ A.in1 (specialOf (Value.ref z) (Str.ofString "__length_hint__") >>= _) _ _ _
  refine wpAny_bind (wpAny_specialOf (hzT _ st2) zip_no_hint ?_)
  refine wpAny_pure ?_
  show wpAny _ A.in1 (rule "list.extend.makes-room" >>= fun _ => Builtin.List.listTouch (.ref S) >>= fun _ =>
    again (.builtin "list.extend.loop" ⟨[.ref S, .ref z, .none], []⟩)) _ _ _
  refine wpAny_bind (wpAny_rule ?_)
  refine wpAny_bind ?_
  show wpAny _ A.in1 (updateSeq S (·.push .none) >>= fun _ => updateSeq S (·.pop)) _ _ _
  refine wpAny_bind (wpAny_updateSeq hS2 rfl ?_)
  have hS3 := Heap.get?_update_self (Obj.mapSeq (·.push Value.none)) hS2 rfl
  refine wpAny_updateSeq (hz := by seq_fits) hS3 rfl ?_
  have hS4 := Heap.get?_update_self (Obj.mapSeq (·.pop)) hS3 rfl
  obtain ⟨I4, st4⟩ := upd1 I2 st2 (fun c o hc e => (Heap.get?_update_other _ _ (Ne.symm hc)).trans ((Heap.get?_update_other _ _ (Ne.symm hc)).trans e)) ((Heap.SameBut.update ..).1.trans (Heap.SameBut.update ..).1) hS4
  exact wpAny_pure ⟨plainId_quiet F.plain_extend_loop _, zip_loop hh D hS J rfl hz hJ hq hR _ 0 _ H [] rfl (Nat.zero_le _) I4 hf st4 hSa rfl j⟩
/-- list(zip(e, e2)) -/
def tListZip (K : PySem.W.Frag) (ta : TA) : TE := fun σ H Q => ta σ H fun vs H1 => ∃ (a b : Addr) (xs ys : List V), vs = [.ref a, .ref b] ∧ SqL K H1 a xs ∧ SqL K H1 b ys ∧ min xs.length ys.length ≤ sizeLine ∧
  ∀ S, H1 S = none → ∃ J : Nat → List V → Hp → Prop, J 0 [] (upd H1 S (.lst [])) ∧
    (∀ i acc H T x y, J i acc H → xs[i]? = some x → ys[i]? = some y → H T = none → H S = some (.lst acc) → J (i + 1) (acc ++ [.ref T]) (upd (upd H T (.tup [x, y])) S (.lst (acc ++ [.ref T])))) ∧
    (∀ i acc H, J i acc H → SqL K H a xs ∧ SqL K H b ys) ∧ ∀ acc H, J (min xs.length ys.length) acc H → H S = some (.lst acc) → Q (.ref S) H
theorem pe_listZip {X : Cx} {e e2 : Expr} {ta : TA} {p p2 q pos : Pos} (hg : Gl X "list") (hm : X.mg "list" = none) (hg2 : Gl X "zip") (hm2 : X.mg "zip" = none) (ha : PA X [e, e2] ta) (hc : X.calm = true)
    (hs : starEach [e, e2] X.env = (false, eval e X.env) :: starEach [e2] X.env := by rfl) (hpl : ∀ pos, (backTo pos (starEach [e2] X.env)).any (·.1) = false := by intro pos; rfl) :
    PE X (.Call (.Name "list" p) [.Call (.Name "zip" p2) [e, e2] [] q] [] pos) (tListZip X.K ta) := by
  refine ⟨fun pins s σ H Q I h => ?_⟩
  refine Call_ (ld_blt I hg hm boot_list ?_)
  refine PyProof.Rows.callWith_type1 (PyProof.Rows.args_cons ?_ rfl) rfl rfl
  refine Call_ (ld_blt I hg2 hm2 PyProof.Rows.boot_zip (PyProof.Rows.callWith_type1 (thn (ha.run q pins s σ H _ I h) fun us s1 ⟨vs, H1, I1, r1, q1⟩ => ?_) hs (hpl _)))
  obtain ⟨a, b, xs, ys, ex, hqx, hqy, hz, q1⟩ := q1
  subst ex
  cases r1 with
  | cons r rr =>
    cases rr with
    | cons r' rr =>
      cases rr
      cases r
      cases r'
      obtain ⟨its, rv, p1, _⟩ := I1.list hqx
      obtain ⟨its2, rv2, p2, _⟩ := I1.list hqy
      refine call_zip_2 p1.isList p2.isList fun h' hz' hTI hTO h1 h2 hsz hk => ?_
      have I2 : Inv X pins σ H1 { s1 with heap := h' } := I1.kept (t' := s1.toks) hk
      refine PyProof.Rows.args_nil ?_
      generalize hs2 : ({ s1 with heap := h' } : Shared) = s2 at I2
      have hs2h : s2.heap = h' := by rw [← hs2]
      have zlt : s1.heap.objs.size + 4 < h'.objs.size := Heap.lt_size hz'
      have fresh5 : ∀ c, c ∈ [s1.heap.objs.size + 4, s1.heap.objs.size + 2, s1.heap.objs.size + 3, s1.heap.objs.size, s1.heap.objs.size + 1] → FpOk X pins H1 c := fun c hcm => by
        have e' : c = s1.heap.objs.size + 4 ∨ c = s1.heap.objs.size + 2 ∨ c = s1.heap.objs.size + 3 ∨ c = s1.heap.objs.size ∨ c = s1.heap.objs.size + 1 := by simpa using hcm
        have hle : s1.heap.objs.size ≤ c := by
          rcases e' with z | z | z | z | z
          · rw [z]; exact Nat.le_add_right _ _
          · rw [z]; exact Nat.le_add_right _ _
          · rw [z]; exact Nat.le_add_right _ _
          · rw [z]; exact Nat.le_refl _
          · rw [z]; exact Nat.le_add_right _ _
        exact I1.fpOk hle (I1.hok.fresh hle)
      have lt5 : ∀ c, c ∈ [s1.heap.objs.size + 4, s1.heap.objs.size + 2, s1.heap.objs.size + 3, s1.heap.objs.size, s1.heap.objs.size + 1] → c < h'.objs.size := fun c hcm => by
        have e' : c = s1.heap.objs.size + 4 ∨ c = s1.heap.objs.size + 2 ∨ c = s1.heap.objs.size + 3 ∨ c = s1.heap.objs.size ∨ c = s1.heap.objs.size + 1 := by simpa using hcm
        rcases e' with z | z | z | z | z <;> (rw [z]; exact Nat.lt_of_le_of_lt (by simp) zlt)
      refine callType_codes (Q₁ := fun obj s₁ => obj = .ref s2.heap.objs.size ∧ s₁ = { s2 with heap := s2.heap.push { cls := .type "list", data := .seq #[] } }) F.called_list (F.typeCall_list_1 _) F.entry_list_init
        (code_list_new _ ⟨rfl, rfl⟩) fun obj s₁ h₁ => ?_
      obtain ⟨rfl, rfl⟩ := h₁
      have hS : (s2.heap.push { cls := .type "list", data := .seq #[] }).get? s2.heap.objs.size = some { cls := .type "list", data := .seq #[] } := Heap.get?_push_size _ rfl
      have I3 : Inv X pins σ (upd H1 s2.heap.objs.size (.lst [])) { s2 with heap := s2.heap.push { cls := .type "list", data := .seq #[] } } :=
        I2.laid (t' := s2.toks) (fun b o e => Heap.get?_push_of_some _ e) (Nat.le_refl _) ⟨Nat.zero_le _, [], 0, .nil, hS⟩
      have hSn : H1 s2.heap.objs.size = none := I2.hok.fresh (Nat.le_refl _)
      obtain ⟨J, j0, jS, jq, jQ⟩ := q1 _ hSn
      have hSf : s2.heap.objs.size ∉ [s1.heap.objs.size + 4, s1.heap.objs.size + 2, s1.heap.objs.size + 3, s1.heap.objs.size, s1.heap.objs.size + 1] := fun hm => by
        have := lt5 _ hm
        rw [hs2h] at this
        exact absurd this (Nat.lt_irrefl _)
      have up : ∀ c o, h'.get? c = some o → (s2.heap.push { cls := .type "list", data := .seq #[] }).get? c = some o := fun c o e => Heap.get?_push_of_some _ (by rw [hs2h]; exact e)
      refine ⟨⟨_, hS, rfl⟩, F.args_list_init_2 _ _, list_init_zip (X := X) (pins := pins) (σ := σ) (A := X.A.in1) (I.ok.hd hc) (PySem.W.ktu_apart s1.heap.objs.size a b p1.lt p2.lt) hSf J hz jS jq (fun s' H' acc' I' j' hS' => ?_) I3 (fun c hcm => ?_) ⟨?_, ?_, ?_, ?_, ?_⟩ upd_same hS j0⟩
      · exact ⟨rfl, .ref s2.heap.objs.size, H', I', rfl, jQ acc' H' j' hS'⟩
      · obtain ⟨f1, f2⟩ := fresh5 c hcm
        refine ⟨?_, f2⟩
        rw [upd_ne (show c ≠ s2.heap.objs.size from fun e => hSf (by rw [← e]; exact hcm))]
        exact f1
      · exact .inl ⟨up _ _ hz', _, _, up _ _ hTO⟩
      · exact up _ _ hTI
      · exact h1.at fun o q => up _ o q
      · exact h2.at fun o q => up _ o q
      · intro c hcm
        have := lt5 c hcm
        show c < (s2.heap.push _).objs.size
        rw [Heap.size_push, hs2h]
        exact Nat.lt_succ_of_lt this
end
end Lc
/-! zip of a tuple and a list. -/
namespace Lc
open PySem PySem.Spec PyProof.Rows L2
def ItzM (K : PySem.W.Frag) (a b : Addr) : It :=
  ⟨fun i H => ∃ (xs ys : List V) (x y : V), SqT K H a xs ∧ SqL K H b ys ∧ xs[i]? = some x ∧ ys[i]? = some y,
    fun i H v H' => ∃ T x y, v = .ref T ∧ H T = none ∧ H' = upd H T (.tup [x, y]) ∧ (∀ xs, SqT K H a xs → xs[i]? = some x) ∧ ∀ ys, SqL K H b ys → ys[i]? = some y,
    fun i H => ∃ xs ys : List V, SqT K H a xs ∧ SqL K H b ys ∧ (xs.length = i ∧ i ≤ ys.length ∨ ys.length = i ∧ i ≤ xs.length)⟩
theorem turn_zipM {P : Program} {w : World} {K : PySem.W.Frag} {elts : List Expr} {kk : Nat} {tpos : Pos} {a b z TI TO i1 i2 : Addr} (D : ZipSep2 z TI TO i1 i2 [i1, a] [i2, b]) (ha : a ≠ i1) (hb' : b ≠ i2) :
    Turn P w K (.Tuple elts kk tpos) (ItzM K a b) [z, TI, TO, i1, i2] z (fun i h => IsZip h z TI TO .none ∧ IsPair h TI (.ref i1) (.ref i2) ∧ (∃ x y, IsPair h TO x y) ∧ h.IsTupleIter i1 a i ∧ h.IsListIter i2 b i) where
  mem := by simp
  obj := fun i h st c hc => by
    obtain ⟨hz, hTI, ⟨x, y, hTO⟩, ⟨o1, e1, _, d1⟩, ⟨o2, e2, _, d2⟩⟩ := st
    have e' : c = z ∨ c = TI ∨ c = TO ∨ c = i1 ∨ c = i2 := by simpa using hc
    rcases e' with q | q | q | q | q
    · rw [q]; exact ⟨_, hz, fun v q => nomatch q⟩
    · rw [q]; exact ⟨_, hTI, fun v q => nomatch q⟩
    · rw [q]; exact ⟨_, hTO, fun v q => nomatch q⟩
    · rw [q]; exact ⟨o1, e1, fun v q => by rw [d1] at q; cases q⟩
    · rw [q]; exact ⟨o2, e2, fun v q => by rw [d2] at q; cases q⟩
  keep := fun i h h' st k => by
    obtain ⟨hz, hTI, ⟨x, y, hTO⟩, h1, h2⟩ := st
    exact ⟨k z (by simp) _ hz, k TI (by simp) _ hTI, ⟨x, y, k TO (by simp) _ hTO⟩, h1.at fun o q => k i1 (by simp) o q, h2.at fun o q => k i2 (by simp) o q⟩
  item := by
    intro X hP hw hK hc i pins s σ H E I hf st hg
    subst hP hw hK
    obtain ⟨hz, hTI, ⟨x0, y0, hTO⟩, h1, h2⟩ := st
    obtain ⟨xs, ys, x, y, hqx, hqy, hx, hy⟩ := hg
    obtain ⟨its, rv, p, _⟩ := I.tuple hqx
    obtain ⟨its2, rv2, p2, _⟩ := I.list hqy
    obtain ⟨u, hu, ru⟩ := rv.get hx
    obtain ⟨u2, hu2, ru2⟩ := rv2.get hy
    have hzl : z < s.heap.objs.size := Heap.lt_size hz
    have hd : X.A.in1.handled = none := I.ok.hd hc
    have lt1 : i < its.toArray.size := by
      rw [List.size_toArray]; exact (List.getElem?_eq_some_iff.mp hu).1
    have lt2 : i < its2.toArray.size := by
      rw [List.size_toArray]; exact (List.getElem?_eq_some_iff.mp hu2).1
    refine wpAny_pyNext_zipD2_item D (Draws.tuple hd i1 a ha its.toArray) (Draws.list hd i2 b hb' its2.toArray) hz hTI hTO ⟨h1, p⟩ ⟨h2, p2.isList⟩ lt1 lt2 fun w1 w2 h' tk q1 q2 z' TO' st1 st2 hT hsz hk => ?_
    have ew1 : u = w1 := by
      have : its.toArray[i]? = some u := by simpa using hu
      rw [this] at q1; exact Option.some.inj q1
    have ew2 : u2 = w2 := by
      have : its2.toArray[i]? = some u2 := by simpa using hu2
      rw [this] at q2; exact Option.some.inj q2
    subst ew1 ew2
    refine ⟨_, rfl, wpAny_letOwnedTupleGo_zip (s := { s with heap := h', toks := tk }) z' fun h'' z'' sb => ?_⟩
    have hT2 : h''.get? s.heap.objs.size = some { cls := .type "tuple", data := .seq #[u, u2] } := (sb.2 _ (Nat.ne_of_gt hzl)).trans hT
    have new : ObjOk X.prog X.w (upd H s.heap.objs.size (.tup [x, y])) h'' s.heap.objs.size (.tup [x, y]) :=
      ⟨by show 2 ≤ sizeLine; decide, [u, u2], .cons ru (.cons ru2 .nil), ⟨_, hT2, rfl, _, rfl⟩⟩
    have I1 : Inv X pins σ (upd H s.heap.objs.size (.tup [x, y])) { s with heap := h'', toks := tk } :=
      I.turnedNew (t' := tk) (ch := [z, TI, TO, i1, i2]) (fun c o hb q => (sb.2 c (fun q' => hb (by simp [q']))).trans (hk c o (fun q' => hb (by simp [q'])) (fun q' => hb (by simp [q'])) (fun q' => hb (by simp [q'])) (fun q' => hb (by simp [q'])) q)) hf (Nat.le_refl _) new
    refine ⟨.ref s.heap.objs.size, _, I1, rfl, ⟨_, x, y, rfl, I.hok.fresh (Nat.le_refl _), rfl, fun l hl => by rw [I.tuple_inj hl hqx]; exact hx, fun l hl => by rw [I.list_inj hl hqy]; exact hy⟩, ⟨z'', ?_, ⟨u, u2, ?_⟩, ?_, ?_⟩, fun c hcm => ?_⟩
    · exact (sb.2 _ D.TIz).trans (hk _ _ D.TIz D.TITO D.TIi1 D.TIi2 hTI)
    · exact (sb.2 _ D.TOz).trans TO'
    · exact st1.1.at fun o q => (sb.2 _ (Ne.symm D.zi1)).trans q
    · exact st2.1.at fun o q => (sb.2 _ (Ne.symm D.zi2)).trans q
    · have hlt : c < s.heap.objs.size := by
        have e' : c = z ∨ c = TI ∨ c = TO ∨ c = i1 ∨ c = i2 := by simpa using hcm
        rcases e' with q | q | q | q | q
        · rw [q]; exact hzl
        · rw [q]; exact Heap.lt_size hTI
        · rw [q]; exact Heap.lt_size hTO
        · rw [q]; obtain ⟨_, e1, _⟩ := h1; exact Heap.lt_size e1
        · rw [q]; obtain ⟨_, e2, _⟩ := h2; exact Heap.lt_size e2
      rw [upd_ne (Nat.ne_of_lt hlt)]
      exact (hf c hcm).1
  done := by
    intro X hP hw hK hc i pins s σ H E I hf st hg
    subst hP hw hK
    obtain ⟨hz, hTI, ⟨x0, y0, hTO⟩, h1, h2⟩ := st
    obtain ⟨xs, ys, hqx, hqy, hend⟩ := hg
    obtain ⟨its, rv, p, _⟩ := I.tuple hqx
    obtain ⟨its2, rv2, p2, _⟩ := I.list hqy
    have l1 := rv.length
    have l2 := rv2.length
    have hd : X.A.in1.handled = none := I.ok.hd hc
    exact wpAny_pyNext_zipD2_end D (Draws.tuple hd i1 a ha its.toArray) (Draws.list hd i2 b hb' its2.toArray) hz hTI hTO ⟨h1, p⟩ ⟨h2, p2.isList⟩ (by rw [List.size_toArray]; omega) (by rw [List.size_toArray]; omega) (by rw [List.size_toArray, List.size_toArray]; omega) fun h' tk hk => ⟨rfl, I.turnedL (t' := tk) (ch := [z, TI, TO, i1, i2]) (fun c o hb q =>
      hk c o (fun q' => hb (by simp [q'])) (fun q' => hb (by simp [q'])) (fun q' => hb (by simp [q'])) (fun q' => hb (by simp [q'])) q) hf⟩
  self := fun A i s Q E st h => wpAny_pyIter_zip st.1 h
def iZipB (K : PySem.W.Frag) (ta : TA) : TI := fun σ H R => ta σ H fun vs H1 => ∃ a b xs ys, vs = [.ref a, .ref b] ∧
  ((SqL K H1 a xs ∧ SqL K H1 b ys ∧ R (Itz K a b) H1) ∨ (SqT K H1 a xs ∧ SqT K H1 b ys ∧ R (RZ.ItzT K a b) H1) ∨ (SqT K H1 a xs ∧ SqL K H1 b ys ∧ R (ItzM K a b) H1))
theorem pi_zipB {X : Cx} {e e2 : Expr} {ta : TA} {p pos tpos : Pos} {elts : List Expr} {kk : Nat} (hg : Gl X "zip") (hm : X.mg "zip" = none) (ha : PA X [e, e2] ta)
    (hs : starEach [e, e2] X.env = (false, eval e X.env) :: starEach [e2] X.env := by rfl) (hpl : (backTo pos (starEach [e2] X.env)).any (·.1) = false := by rfl) :
    PI X (.Tuple elts kk tpos) (.Call (.Name "zip" p) [e, e2] [] pos) (iZipB X.K ta) := by
  refine ⟨fun pins s σ H R I h => ?_⟩
  refine Call_ (ld_blt I hg hm PyProof.Rows.boot_zip (PyProof.Rows.callWith_type1 (thn (ha.run pos pins s σ H _ I h) fun us s1 ⟨vs, H1, I1, r1, q1⟩ => ?_) hs hpl))
  obtain ⟨a, b, xs, ys, ex, q1⟩ := q1
  subst ex
  cases r1 with
  | cons r rr =>
    cases rr with
    | cons r' rr =>
      cases rr
      cases r
      cases r'
      have fresh5 : ∀ c, c ∈ [s1.heap.objs.size + 4, s1.heap.objs.size + 2, s1.heap.objs.size + 3, s1.heap.objs.size, s1.heap.objs.size + 1] → FpOk X pins H1 c := fun c hcm => by
        have e' : c = s1.heap.objs.size + 4 ∨ c = s1.heap.objs.size + 2 ∨ c = s1.heap.objs.size + 3 ∨ c = s1.heap.objs.size ∨ c = s1.heap.objs.size + 1 := by simpa using hcm
        have hle : s1.heap.objs.size ≤ c := by
          rcases e' with z | z | z | z | z
          · rw [z]; exact Nat.le_add_right _ _
          · rw [z]; exact Nat.le_add_right _ _
          · rw [z]; exact Nat.le_add_right _ _
          · rw [z]; exact Nat.le_refl _
          · rw [z]; exact Nat.le_add_right _ _
        exact I1.fpOk hle (I1.hok.fresh hle)
      rcases q1 with ⟨hqx, hqy, q⟩ | ⟨hqx, hqy, q⟩ | ⟨hqx, hqy, q⟩
      · obtain ⟨its, rv, p1, _⟩ := I1.list hqx
        obtain ⟨its2, rv2, p2, _⟩ := I1.list hqy
        refine call_zip_2 p1.isList p2.isList fun h' hz hTI hTO h1 h2 hsz hk => wpAny_pyIter_zip hz ?_
        have I2 : Inv X pins σ H1 { s1 with heap := h' } := I1.kept (t' := s1.toks) hk
        exact ⟨s1.heap.objs.size + 4, [s1.heap.objs.size + 4, s1.heap.objs.size + 2, s1.heap.objs.size + 3, s1.heap.objs.size, s1.heap.objs.size + 1], _, _, H1, rfl, I2, turn_zip (PySem.W.ktu_apart s1.heap.objs.size a b p1.lt p2.lt), ⟨hz, hTI, ⟨_, _, hTO⟩, h1, h2⟩, fresh5, q⟩
      · obtain ⟨its, rv, p1, _⟩ := I1.tuple hqx
        obtain ⟨its2, rv2, p2, _⟩ := I1.tuple hqy
        obtain ⟨o1, ho1, _⟩ := id p1
        obtain ⟨o2, ho2, _⟩ := id p2
        refine RZ.call_zipT (show s1.heap.IsTuple a its.toArray from p1) (show s1.heap.IsTuple b its2.toArray from p2) fun h' hz hTI hTO h1 h2 hsz hk => wpAny_pyIter_zip hz ?_
        have I2 : Inv X pins σ H1 { s1 with heap := h' } := I1.kept (t' := s1.toks) hk
        exact ⟨s1.heap.objs.size + 4, [s1.heap.objs.size + 4, s1.heap.objs.size + 2, s1.heap.objs.size + 3, s1.heap.objs.size, s1.heap.objs.size + 1], _, _, H1, rfl, I2, RZ.turn_zipT (PySem.W.ktu_apart s1.heap.objs.size a b (Heap.lt_size ho1) (Heap.lt_size ho2)), ⟨hz, hTI, ⟨_, _, hTO⟩, h1, h2⟩, fresh5, q⟩
      · obtain ⟨its, rv, p1, _⟩ := I1.tuple hqx
        obtain ⟨its2, rv2, p2, _⟩ := I1.list hqy
        obtain ⟨o1, ho1, _⟩ := id p1
        have la : a < s1.heap.objs.size := Heap.lt_size ho1
        have lb : b < s1.heap.objs.size := p2.lt
        refine zip_begins2 (begins_tuple a its.toArray) (begins_list b its2.toArray) (show s1.heap.IsTuple a its.toArray from p1) p2.isList fun h' hz hTI hTO g1 g2 hsz hk => wpAny_pyIter_zip hz ?_
        have I2 : Inv X pins σ H1 { s1 with heap := h' } := I1.kept (t' := s1.toks) hk
        have sep := zip_sep2 (N := s1.heap.objs.size) (fp1 := [a]) (fp2 := [b]) (fun c hc => by simp at hc; rw [hc]; exact la) (fun c hc => by simp at hc; rw [hc]; exact lb)
        exact ⟨s1.heap.objs.size + 4, [s1.heap.objs.size + 4, s1.heap.objs.size + 2, s1.heap.objs.size + 3, s1.heap.objs.size, s1.heap.objs.size + 1], _, _, H1, rfl, I2, turn_zipM sep (Nat.ne_of_lt la) (Nat.ne_of_lt (Nat.lt_succ_of_lt lb)), ⟨hz, hTI, ⟨_, _, hTO⟩, ⟨_, g1, rfl, rfl⟩, ⟨_, g2, rfl, rfl⟩⟩, fresh5, q⟩
end Lc
/-! An evaluator over plain data for the part of Python that the program and the laws are written in. -/
namespace Lc
open PySem

abbrev D := PyData

/-- what a thing that is changed in place holds: a list; a dict (its keys tuples, or ints and texts) -/
inductive C where
  | l (xs : List D)
  | d (t : Bool) (kvs : List (D × D))
/-- what a local name holds, as far as it is told -/
inductive Slot where
  | no
  | dat (d : D)
  | own (p : Bool) (c : C)
  | scr (ns : List Int)
  | hid
abbrev Env := List Slot
/-- what an expression gives -/
inductive R where
  | dat (d : D)
  | slot (i : Nat)
  | new (c : C)
/-- what is seen through it -/
inductive Ob where
  | d (x : D)
  | k (t : Bool) (kvs : List (D × D))
  | s (ns : List Int)

/-- built-in functions and classes that are called -/
inductive BI where
  | abs | len | min | sum | all | tuple | list | str | set | sorted | dict
  deriving DecidableEq

inductive Tg where
  | nm (i : Nat)
  | tp (ts : List Nat)
  | pp (a b c d : Nat)   -- (a, b), (c, d)
  | np (a b c : Nat)   -- a, (b, c)

mutual
inductive E where
  | var (i : Nat)
  | cst (d : D)
  | glo (x : Str)
  | bin (op : Operator) (a b : E)
  | neg (a : E)
  | not_ (a : E)
  | cmp (op : CmpOp) (a b : E)
  | chain (o1 o2 : CmpOp) (a b c : E)
  | and_ (es : EL)
  | or_ (es : EL)
  | ite (c a b : E)
  | tup (es : EL)
  | lst (es : EL)
  | idx (a b : E)
  | sl (a : E) (lo hi : EO)
  | rev (a : E)
  | call (f : Str) (es : EL)
  | blt (f : BI) (es : EL)
  | isi (a : E) (tys : List String)
  | lc (elt : E) (tg : Tg) (src : Src) (cond : EO) (vs : List Nat)
  | lc2 (elt : E) (tg : Tg) (src : Src) (tg1 : Tg) (e1 : E) (vs vs1 : List Nat)
  | dc (key val : E) (tg : Tg) (src : Src) (vs : List Nat)
  | dnew
  | getD (d k x : E)
  | lzip (a b : E)
inductive EL where
  | nil
  | cons (e : E) (r : EL)
inductive EO where
  | no
  | so (e : E)
inductive Src where
  | seq (e : E)
  | rng (e : E)
  | enum (e : E)
  | zip (a b : E)
end

mutual
inductive S where
  | set (i : Nat) (own : Bool) (e : E)
  | par (is : List Nat) (os : List Bool) (es : EL)
  | unp (tg : Tg) (e : E)
  | sub (i : Nat) (ix e : E)
  | app (i : Nat) (e : E)
  | ins (i : Nat) (k e : E)
  | rem (i : Nat) (e : E)
  | expr (e : E)
  | rai
  | ret (e : E)
  | ite (c : E) (a b : SL)
  | for_ (tg : Tg) (src : Src) (body : SL) (fg : List Nat)
  | whl (c : E) (body : SL) (fg : List Nat)
inductive SL where
  | nil
  | cons (s : S) (r : SL)
end

/-! ### states -/
def rd (env : Env) (i : Nat) : Option R := match env[i]? with
  | some (.dat d) => some (.dat d)
  | some (.own _ _) => some (.slot i)
  | some (.scr _) => some (.slot i)
  | _ => none
def C.ob : C → Ob
  | .l xs => .d (.list xs)
  | .d t kvs => .k t kvs
def look (env : Env) : R → Option Ob
  | .dat d => some (.d d)
  | .slot i => (match env[i]? with
    | some (.dat d) => some (.d d)
    | some (.own _ c) => some c.ob
    | some (.scr ns) => some (.s ns)
    | _ => none)
  | .new c => some c.ob
def Ob.dat : Ob → Option D
  | .d x => some x
  | _ => none
def lookD (env : Env) (r : R) : Option D := (look env r).bind Ob.dat
def lookL (env : Env) : List R → Option (List Ob)
  | [] => some []
  | r :: rs => (look env r).bind fun o => (lookL env rs).map fun os => o :: os
def frz (env : Env) : R → Option (D × Env)
  | .dat d => some (d, env)
  | .slot i => (match env[i]? with
    | some (.dat d) => some (d, env)
    | some (.own false (.l xs)) => some (.list xs, env.set i (.dat (.list xs)))
    | _ => none)
  | .new (.l xs) => some (.list xs, env)
  | .new (.d _ _) => none
def frzL : List R → Env → Option (List D × Env)
  | [], env => some ([], env)
  | r :: rs, env => (frz env r).bind fun p => (frzL rs p.2).map fun q => (p.1 :: q.1, q.2)
/-- may the slot be stored to -/
def Slot.par : Slot → Bool
  | .own true _ => true
  | .scr _ => true
  | .hid => true
  | _ => false
def freeS (env : Env) (i : Nat) : Bool := match env[i]? with
  | some s => !s.par
  | none => false
def wip (env : Env) : List Nat → Env
  | [] => env
  | i :: is => if freeS env i then (wip env is).set i .no else wip env is
/-- a comprehension's own names must hold no list of one's own -/
def wipOk (env : Env) (vs : List Nat) : Bool := vs.all fun i => match env[i]? with
  | some .no => true
  | some (.dat _) => true
  | _ => false
def unwip (e0 e1 : Env) : List Nat → Env
  | [] => e1
  | i :: is => (unwip e0 e1 is).set i (e0.getD i .no)

/-! ### operations -/
mutual
def deq : D → D → Bool
  | .none, .none => true
  | .bool a, .bool b => a == b
  | .int i, .int j => decide (i = j)
  | .str x, .str y => decide (x = y)
  | .list xs, .list ys => deqL xs ys
  | .tuple xs, .tuple ys => deqL xs ys
  | .dict xs, .dict ys => deqK xs ys
  | _, _ => false
def deqL : List D → List D → Bool
  | [], [] => true
  | x :: xs, y :: ys => deq x y && deqL xs ys
  | _, _ => false
def deqK : List (D × D) → List (D × D) → Bool
  | [], [] => true
  | (x, y) :: xs, (u, v) :: ys => deq x u && deq y v && deqK xs ys
  | _, _ => false
end
mutual
theorem deq_iff : ∀ (x y : D), deq x y = true ↔ x = y
  | .none, y => by cases y <;> simp [deq]
  | .bool a, y => by cases y <;> simp [deq]
  | .int a, y => by cases y <;> simp [deq]
  | .str a, y => by cases y <;> simp [deq]
  | .list a, y => by cases y <;> simp [deq, deqL_iff a]
  | .tuple a, y => by cases y <;> simp [deq, deqL_iff a]
  | .dict a, y => by cases y <;> simp [deq, deqK_iff a]
theorem deqL_iff : ∀ (x y : List D), deqL x y = true ↔ x = y
  | [], y => by cases y <;> simp [deqL]
  | x :: xs, y => by cases y <;> simp [deqL, deq_iff x, deqL_iff xs]
theorem deqK_iff : ∀ (x y : List (D × D)), deqK x y = true ↔ x = y
  | [], y => by cases y <;> simp [deqK]
  | (x, u) :: xs, y => by
    cases y with
    | nil => simp [deqK]
    | cons z zs => obtain ⟨a, b⟩ := z; simp [deqK, deq_iff x, deq_iff u, deqK_iff xs]
end
instance : DecidableEq D := fun x y => decidable_of_iff (deq x y = true) (deq_iff x y)
def dget (kvs : List (D × D)) (k : D) : Option D := (kvs.find? fun x => decide (x.1 = k)).map (·.2)
def dput (kvs : List (D × D)) (k v : D) : List (D × D) := if kvs.any (fun x => decide (x.1 = k)) then kvs.map (fun x => if x.1 = k then (x.1, v) else x) else kvs ++ [(k, v)]
mutual
/-- what may be a part of a key: ints, texts, tuples of such -/
def keyD : D → Bool
  | .int _ => true
  | .str _ => true
  | .tuple ds => keyDs ds
  | _ => false
def keyDs : List D → Bool
  | [] => true
  | d :: ds => keyD d && keyDs ds
end
def isTupD : D → Bool
  | .tuple _ => true
  | _ => false
/-- may this be a key of such a dict -/
def dkOk (t : Bool) (k : D) : Bool := keyD k && (isTupD k == t) && decide (k.depth ≤ 7)
def okI (i : Int) : Bool := decide (i.natAbs.log2 < 8000)
def binop : Operator → D → D → Option R
  | .Add, .int i, .int j => some (.dat (.int (i + j)))
  | .Add, .str x, .str y => if x.length + y.length ≤ sizeLine then some (.dat (.str (x ++ y))) else none
  | .Add, .list xs, .list ys => if xs.length + ys.length ≤ sizeLine then some (.new (.l (xs ++ ys))) else none
  | .Add, .tuple xs, .tuple ys => if xs.length + ys.length ≤ sizeLine then some (.dat (.tuple (xs ++ ys))) else none
  | .Sub, .int i, .int j => some (.dat (.int (i - j)))
  | .Mult, .int i, .int j => if okI i && okI j then some (.dat (.int (i * j))) else none
  | .FloorDiv, .int i, .int j => if decide (0 < j) && okI j then some (.dat (.int (i / j))) else none
  | .Mod, .int i, .int j => if 0 < j then some (.dat (.int (i % j))) else none
  | .Pow, .int i, .int j => if decide (0 ≤ j) && decide (j ≤ 1000) && decide (i.natAbs < 2 ^ 64) then some (.dat (.int (i ^ j.toNat))) else none
  | _, _, _ => none
def flat : D → Bool
  | .none => true
  | .bool _ => true
  | .int _ => true
  | .str _ => true
  | _ => false
/-- one sign in a text, or a flat thing among flat things, or any data -/
def isIn (x : D) (xs : List D) : Bool := xs.any fun y => PyData.eqv y x
def eqOk (x y : D) : Bool := decide (min x.depth y.depth ≤ 60)
def inFlat (x : D) (xs : List D) : Bool := flat x && xs.all flat
def inOk (x : D) (xs : List D) : Bool := inFlat x xs || (decide (x.depth ≤ 60) && decide (PyData.depthAll xs ≤ 60))
def isNone : D → Bool
  | .none => true
  | _ => false
def cmpop : CmpOp → D → D → Option Bool
  | .Eq, x, y => if eqOk x y then some (PyData.eqv x y) else none
  | .NotEq, x, y => if eqOk x y then some (!PyData.eqv x y) else none
  | .Lt, .int i, .int j => some (decide (i < j))
  | .Lt, .str i, .str j => some (decide (i.cps.toList < j.cps.toList))
  | .LtE, .int i, .int j => some (decide (i ≤ j))
  | .Gt, .int i, .int j => some (decide (j < i))
  | .GtE, .int i, .int j => some (decide (j ≤ i))
  | .In, .str ⟨⟨[c]⟩⟩, .str z => some (decide (c ∈ z.cps.toList))
  | .NotIn, .str ⟨⟨[c]⟩⟩, .str z => some (!decide (c ∈ z.cps.toList))
  | .In, x, .list ys => if inOk x ys then some (isIn x ys) else none
  | .In, x, .tuple ys => if inFlat x ys then some (isIn x ys) else none
  | .NotIn, x, .list ys => if inOk x ys then some (!isIn x ys) else none
  | .NotIn, x, .tuple ys => if inFlat x ys then some (!isIn x ys) else none
  | .Is, x, .none => some (isNone x)
  | .IsNot, x, .none => some (!isNone x)
  | _, _, _ => none
def cmpOb (op : CmpOp) (x : D) (o : Ob) : Option Bool := match o with
  | .d y => cmpop op x y
  | .k false kvs => (match op with
    | .In => if dkOk false x then some (dget kvs x).isSome else none
    | .NotIn => if dkOk false x then some (!(dget kvs x).isSome) else none
    | _ => none)
  | _ => none
def index (o : Ob) (i : D) : Option R := match o, i with
  | .k false kvs, k => if dkOk false k then (dget kvs k).map .dat else none
  | .d (.list xs), .int i => (L2.atI xs i).map .dat
  | .d (.tuple xs), .int i => (L2.atI xs i).map .dat
  | .d (.str z), .int i => (L2.atI z.cps.toList i).map fun c => .dat (.str ⟨#[c]⟩)
  | .s ns, .int i => (L2.atI ns i).map fun n => .dat (.int n)
  | _, _ => none
def cut {α : Type} (xs : List α) (lo hi : Option Int) : List α := (xs.drop (HT.sIx xs.length 0 lo)).take (HT.sIx xs.length xs.length hi - HT.sIx xs.length 0 lo)
def slice (d : D) (lo hi : Option Int) : Option R := match d with
  | .list xs => some (.new (.l (cut xs lo hi)))
  | .tuple xs => some (.dat (.tuple (cut xs lo hi)))
  | .str z => some (.dat (.str ⟨(cut z.cps.toList lo hi).toArray⟩))
  | _ => none
def revs (d : D) : Option R := match d with
  | .list xs => some (.new (.l xs.reverse))
  | _ => none
def allInts : List D → Option (List Int)
  | [] => some []
  | .int i :: r => (allInts r).map (i :: ·)
  | _ => none
def allBools : List D → Option (List Bool)
  | [] => some []
  | .bool i :: r => (allBools r).map (i :: ·)
  | _ => none
def isTupNE : D → Bool
  | .tuple (_ :: _) => true
  | _ => false
def noTupN : D → Bool
  | .tuple _ => false
  | .none => false
  | _ => true
/-- may these be sorted -/
def sortOk (ds : List D) : Bool := ds.all (fun d => ds.all fun e => PySem.W.alike d e) && (ds.all isTupNE || ds.all noTupN) && ds.all fun d => decide (d.depth ≤ 60)
def sortD (ds : List D) : List D := ds.mergeSort (PySem.W.dataLe false id)
def pairD : D → Option (D × D)
  | .tuple [k, v] => if dkOk false k then some (k, v) else none
  | _ => none
def pairsD : List D → Option (List (D × D))
  | [] => some []
  | d :: ds => (pairD d).bind fun p => (pairsD ds).map fun ps => p :: ps
def mergeD (kvs : List (D × D)) (new : List (D × D)) : List (D × D) := new.foldl (fun acc p => dput acc p.1 p.2) kvs
def intKeys : List (D × D) → Bool
  | [] => true
  | (.int _, _) :: r => intKeys r
  | _ => false
def intKs : List (D × D) → Option (List Int)
  | [] => some []
  | (.int i, _) :: r => (intKs r).map (i :: ·)
  | _ => none
def bi : BI → List Ob → Option R
  | .sorted, [.k false kvs] => if kvs.length < 64 then (intKs kvs).map fun ks => .new (.l ((ks.mergeSort fun a b => decide (a ≤ b)).map .int)) else none
  | .sorted, [.d (.list xs)] => if sortOk xs then some (.new (.l (sortD xs))) else none
  | .dict, [.d (.list xs)] => (pairsD xs).map fun kvs => .new (.d false (mergeD [] kvs))
  | .abs, [.d (.int i)] => some (.dat (.int (if i < 0 then -i else i)))
  | .len, [.d (.list xs)] => some (.dat (.int xs.length))
  | .len, [.d (.tuple xs)] => some (.dat (.int xs.length))
  | .len, [.d (.str z)] => some (.dat (.int z.length))
  | .len, [.s ns] => some (.dat (.int ns.length))
  | .min, [.d (.int i), .d (.int j)] => some (.dat (.int (if j < i then j else i)))
  | .sum, [.d (.list xs)] => (allInts xs).map fun ns => .dat (.int ns.sum)
  | .all, [.d (.list xs)] => (allBools xs).map fun bs => .dat (.bool (bs.all id))
  | .tuple, [.d (.list xs)] => some (.dat (.tuple xs))
  | .tuple, [.d (.tuple xs)] => some (.dat (.tuple xs))
  | .list, [.d (.list xs)] => some (.new (.l xs))
  | .list, [.d (.tuple xs)] => some (.new (.l xs))
  | _, _ => none
def tyName : D → String
  | .none => "NoneType"
  | .bool _ => "bool"
  | .int _ => "int"
  | .str _ => "str"
  | .list _ => "list"
  | .tuple _ => "tuple"
  | .dict _ => "dict"
def isTy (d : D) (t : String) : Bool := tyName d == t || (tyName d == "bool" && t == "int")
/-- a def by what it gives: which parameters it may change, and its value with what the parameters hold then -/
structure FS where
  md : List Bool
  fn : List Slot → Option (R × List Slot)
structure Tab where
  fns : Str → Option FS
  cs : Str → Option D
/-- the arguments as the def's slots -/
def pass : List Bool → List R → Env → Option (List Slot × Env)
  | [], [], env => some ([], env)
  | false :: ms, .slot i :: rs, env => (match env[i]? with
    | some (.scr ns) => (pass ms rs env).map fun q => (.scr ns :: q.1, q.2)
    | _ => (frz env (.slot i)).bind fun p => (pass ms rs p.2).map fun q => (.dat p.1 :: q.1, q.2))
  | false :: ms, r :: rs, env => (frz env r).bind fun p => (pass ms rs p.2).map fun q => (.dat p.1 :: q.1, q.2)
  | true :: ms, .slot i :: rs, env => (match env[i]? with
    | some (.own p c) => (pass ms rs env).bind fun q => if rs.all (fun r => match r with | .slot j => i != j | _ => true) then some (.own true c :: q.1, q.2) else none
    | _ => none)
  | true :: ms, .new c :: rs, env => (pass ms rs env).map fun q => (.own true c :: q.1, q.2)
  | _, _, _ => none
/-- what the caller's own lists hold behind the call -/
def back : List Bool → List R → List Slot → Env → Env
  | true :: ms, .slot i :: rs, o :: os, env => (match env[i]?, o with
    | some (.own p _), .own _ c => back ms rs os (env.set i (.own p c))
    | _, _ => back ms rs os env)
  | _ :: ms, _ :: rs, _ :: os, env => back ms rs os env
  | _, _, _, env => env
/-- stores to a target -/
def asgN : List Nat → List D → Env → Option Env
  | [], [], env => some env
  | i :: is, d :: ds, env => if freeS env i then asgN is ds (env.set i (.dat d)) else none
  | _, _, _ => none
def asg : Tg → D → Env → Option Env
  | .nm i, d, env => if freeS env i then some (env.set i (.dat d)) else none
  | .tp ts, .tuple ds, env => asgN ts ds env
  | .pp a b c d, .tuple [.tuple xs, .tuple ys], env => (asgN [a, b] xs env).bind fun env => asgN [c, d] ys env
  | .np a b c, .tuple [x, .tuple ys], env => (asgN [a] [x] env).bind fun env => asgN [b, c] ys env
  | _, _, _ => none
def tgSlots : Tg → List Nat
  | .nm i => [i]
  | .tp is => is
  | .pp a b c d => [a, b, c, d]
  | .np a b c => [a, b, c]
def zipD : List D → List D → List D
  | x :: xs, y :: ys => .tuple [x, y] :: zipD xs ys
  | _, _ => []
def enumD : Nat → List D → List D
  | _, [] => []
  | n, x :: xs => .tuple [.int n, x] :: enumD (n + 1) xs
def seqOf : Ob → Option (List D)
  | .d (.list xs) => some xs
  | .d (.tuple xs) => some xs
  | .d (.str z) => some (z.cps.toList.map fun c => .str ⟨#[c]⟩)
  | _ => none
/-- a list of one's own that is walked is out of sight meanwhile -/
def lockS (env : Env) : R → Option Nat
  | .slot i => (match env[i]? with
    | some (.own _ _) => some i
    | _ => none)
  | _ => none
def lock (env : Env) : Option Nat → Env
  | some i => env.set i .hid
  | none => env
def unlock (e0 e1 : Env) : Option Nat → Env
  | some i => e1.set i (e0.getD i .no)
  | none => e1
def dcGo (f : D → Env → Option (D × D × Env)) : List D → Env → List (D × D) → Option (List (D × D) × Env)
  | [], env, acc => some (acc, env)
  | x :: xs, env, acc => (f x env).bind fun p => if dkOk false p.1 && decide (acc.length < sizeLine) then dcGo f xs p.2.2 (dput acc p.1 p.2.1) else none
def lc2Go (f : D → Env → Option (List D × Env)) : List D → Env → Option (List D × Env)
  | [], env => some ([], env)
  | x :: xs, env => (f x env).bind fun p => (lc2Go f xs p.2).map fun q => (p.1 ++ q.1, q.2)
def lcGo (f : D → Env → Option (Option D × Env)) : List D → Env → Option (List D × Env)
  | [], env => some ([], env)
  | x :: xs, env => (f x env).bind fun p => (lcGo f xs p.2).map fun q => (match p.1 with | some y => y :: q.1 | none => q.1, q.2)
def isDic (r : Option Ob) : Bool := match r with
  | some (.k false _) => true
  | _ => false
def truth (r : Option Ob) : Option Bool := match r with
  | some (.d (.bool b)) => some b
  | _ => none

section
variable (T : Tab)
mutual
def ev : E → Env → Option (R × Env)
  | .var i, env => (rd env i).map fun r => (r, env)
  | .cst d, env => some (.dat d, env)
  | .glo x, env => (T.cs x).map fun d => (.dat d, env)
  | .bin op a b, env => (ev a env).bind fun p => (ev b p.2).bind fun q => (lookD q.2 p.1).bind fun x => (lookD q.2 q.1).bind fun y => (binop op x y).map fun r => (r, q.2)
  | .neg a, env => (ev a env).bind fun p => (lookD p.2 p.1).bind fun x => (match x with
    | .int i => some (.dat (.int (-i)), p.2)
    | _ => none)
  | .not_ a, env => (ev a env).bind fun p => (truth (look p.2 p.1)).map fun b => (.dat (.bool (!b)), p.2)
  | .cmp op a b, env => (ev a env).bind fun p => (ev b p.2).bind fun q => (lookD q.2 p.1).bind fun x => (look q.2 q.1).bind fun y => (cmpOb op x y).map fun r => (.dat (.bool r), q.2)
  | .chain o1 o2 a b c, env => (ev a env).bind fun p => (ev b p.2).bind fun q => (lookD q.2 p.1).bind fun x => (lookD q.2 q.1).bind fun y => (cmpop o1 x y).bind fun k =>
      if k then (ev c q.2).bind fun z => (lookD z.2 q.1).bind fun y => (lookD z.2 z.1).bind fun w => (cmpop o2 y w).map fun r => (.dat (.bool r), z.2) else some (.dat (.bool false), q.2)
  | .and_ es, env => (evAnd es env).map fun p => (.dat (.bool p.1), p.2)
  | .or_ es, env => (evOr es env).map fun p => (.dat (.bool p.1), p.2)
  | .ite c a b, env => (ev c env).bind fun p => (truth (look p.2 p.1)).bind fun k => if k then ev a p.2 else ev b p.2
  | .tup es, env => (evL es env).bind fun p => (frzL p.1 p.2).bind fun q => if q.1.length ≤ 1000 then some (.dat (.tuple q.1), q.2) else none
  | .lst es, env => (evL es env).bind fun p => (frzL p.1 p.2).bind fun q => if q.1.length ≤ 1000 then some (.new (.l q.1), q.2) else none
  | .idx a b, env => (ev a env).bind fun p => (ev b p.2).bind fun q => (look q.2 p.1).bind fun o => (lookD q.2 q.1).bind fun i => (index o i).map fun r => (r, q.2)
  | .sl a lo hi, env => (ev a env).bind fun p => (evO lo p.2).bind fun l => (evO hi l.2).bind fun h => (lookD h.2 p.1).bind fun d => (slice d l.1 h.1).map fun r => (r, h.2)
  | .rev a, env => (ev a env).bind fun p => (lookD p.2 p.1).bind fun d => (revs d).map fun r => (r, p.2)
  | .call f es, env => (evL es env).bind fun p => (T.fns f).bind fun g => (pass g.md p.1 p.2).bind fun q => (g.fn q.1).bind fun o =>
      (match o.1 with
        | .slot _ => none
        | r => some (r, back g.md p.1 o.2 q.2))
  | .blt f es, env => (evL es env).bind fun p => (lookL p.2 p.1).bind fun os => (bi f os).map fun r => (r, p.2)
  | .isi a tys, env => (ev a env).bind fun p => (lookD p.2 p.1).map fun d => (.dat (.bool (tys.any (isTy d))), p.2)
  | .lc elt tg src cond vs, env => (evSrc src env).bind fun p => if wipOk p.2.2 vs then
      (lcGo (fun x env => (asg tg x (wip env vs)).bind fun e1 => (evC cond e1).bind fun k => if k.1 then (ev elt k.2).bind fun y => (frz y.2 y.1).map fun z => (some z.1, unwip env z.2 vs) else some (none, unwip env k.2 vs))
        p.1 (lock p.2.2 p.2.1)).map fun q => (.new (.l q.1), unlock p.2.2 q.2 p.2.1) else none
  | .lc2 elt tg src tg1 d1 vs vs1, env => (evSrc src env).bind fun p => if wipOk p.2.2 vs then
      (lc2Go (fun x env => (asg tg x (wip env vs)).bind fun e1 => (ev d1 e1).bind fun p1 => (match p1.1 with
        | .dat (.list xs) => if wipOk p1.2 vs1 then
          (lcGo (fun x env => (asg tg1 x (wip env vs1)).bind fun e1 => (ev elt e1).bind fun y => (frz y.2 y.1).map fun z => (some z.1, unwip env z.2 vs1)) xs p1.2).map fun q => (q.1, unwip env q.2 vs) else none
        | _ => none)) p.1 (lock p.2.2 p.2.1)).bind fun q => if q.1.length ≤ 100000 then some (.new (.l q.1), unlock p.2.2 q.2 p.2.1) else none else none
  | .dc key val tg src vs, env => (evSrc src env).bind fun p => if wipOk p.2.2 vs then
      (dcGo (fun x env => (asg tg x (wip env vs)).bind fun e1 => (ev key e1).bind fun a => (frz a.2 a.1).bind fun kd => (ev val kd.2).bind fun b => (frz b.2 b.1).map fun y => (kd.1, y.1, unwip env y.2 vs))
        p.1 (lock p.2.2 p.2.1) []).map fun q => (.new (.d false q.1), unlock p.2.2 q.2 p.2.1) else none
  | .dnew, env => some (.new (.d false []), env)
  | .getD d k x, env => (ev d env).bind fun p => if isDic (look p.2 p.1) then (ev k p.2).bind fun q => (ev x q.2).bind fun z => (frz z.2 z.1).bind fun w => (look w.2 p.1).bind fun o => (lookD w.2 q.1).bind fun kd => (match o with
    | .k false kvs => if dkOk false kd then some (.dat ((dget kvs kd).getD w.1), w.2) else none
    | _ => none) else none
  | .lzip a b, env => (ev a env).bind fun p => (ev b p.2).bind fun q => (frz q.2 p.1).bind fun x => (frz x.2 q.1).bind fun y => (match x.1, y.1 with
    | .list xs, .list ys => some (.new (.l (zipD xs ys)), y.2)
    | _, _ => none)
def evL : EL → Env → Option (List R × Env)
  | .nil, env => some ([], env)
  | .cons e r, env => (ev e env).bind fun p => (evL r p.2).map fun q => (p.1 :: q.1, q.2)
def evAnd : EL → Env → Option (Bool × Env)
  | .nil, _ => none
  | .cons e .nil, env => (ev e env).bind fun p => (truth (look p.2 p.1)).map fun k => (k, p.2)
  | .cons e (.cons e2 r), env => (ev e env).bind fun p => (truth (look p.2 p.1)).bind fun k => if k then evAnd (.cons e2 r) p.2 else some (false, p.2)
def evOr : EL → Env → Option (Bool × Env)
  | .nil, _ => none
  | .cons e .nil, env => (ev e env).bind fun p => (truth (look p.2 p.1)).map fun k => (k, p.2)
  | .cons e (.cons e2 r), env => (ev e env).bind fun p => (truth (look p.2 p.1)).bind fun k => if k then some (true, p.2) else evOr (.cons e2 r) p.2
def evO : EO → Env → Option (Option Int × Env)
  | .no, env => some (none, env)
  | .so e, env => (ev e env).bind fun p => (lookD p.2 p.1).bind fun d => (match d with
    | .int i => some (some i, p.2)
    | _ => none)
def evC : EO → Env → Option (Bool × Env)
  | .no, env => some (true, env)
  | .so e, env => (ev e env).bind fun p => (truth (look p.2 p.1)).map fun k => (k, p.2)
/-- the items, what is out of sight, the state -/
def evSrc : Src → Env → Option (List D × Option Nat × Env)
  | .seq e, env => (ev e env).bind fun p => (look p.2 p.1).bind fun o => (seqOf o).map fun xs => (xs, lockS p.2 p.1, p.2)
  | .rng e, env => (ev e env).bind fun p => (lookD p.2 p.1).bind fun d => (match d with
    | .int n => if 0 ≤ n ∧ n ≤ 1000000 then some ((List.range n.toNat).map (fun k => .int (Int.ofNat k)), none, p.2) else none
    | _ => none)
  | .enum e, env => (ev e env).bind fun p => (lookD p.2 p.1).bind fun d => (match d with
    | .list xs => some (enumD 0 xs, lockS p.2 p.1, p.2)
    | _ => none)
  | .zip a b, env => (ev a env).bind fun p => (ev b p.2).bind fun q => (frz q.2 p.1).bind fun x => (frz x.2 q.1).bind fun y => (match x.1, y.1 with
    | .list xs, .list ys => some (zipD xs ys, none, y.2)
    | .tuple xs, .tuple ys => some (zipD xs ys, none, y.2)
    | .tuple xs, .list ys => some (zipD xs ys, none, y.2)
    | _, _ => none)
end

inductive Fl where
  | nx
  | rt (r : R)
def forGo (step : D → Env → Option (Fl × Env)) : List D → Env → Option (Fl × Env)
  | [], env => some (.nx, env)
  | x :: xs, env => (step x env).bind fun p => (match p.1 with
    | .nx => forGo step xs p.2
    | .rt r => some (.rt r, p.2))
def whlGo (c : Env → Option (Bool × Env)) (step : Env → Option (Fl × Env)) : Nat → Env → Option (Fl × Env)
  | 0, _ => none
  | n + 1, env => (c env).bind fun k => if k.1 then (step k.2).bind fun p => (match p.1 with
    | .nx => whlGo c step n p.2
    | .rt r => some (.rt r, p.2)) else some (.nx, k.2)
/-- a value as it will stand in a slot: a list of one's own where it is to be changed -/
def nrm (own : Bool) (env : Env) (r : R) : Option (Slot × Env) := match own, r with
  | true, .new c => some (.own false c, env)
  | false, .new (.d t kvs) => some (.own false (.d t kvs), env)
  | true, _ => none
  | false, r => (frz env r).map fun p => (.dat p.1, p.2)
def nrmL : List Bool → List R → Env → Option (List Slot × Env)
  | [], [], env => some ([], env)
  | o :: os, r :: rs, env => (nrm o env r).bind fun p => (nrmL os rs p.2).map fun q => (p.1 :: q.1, q.2)
  | _, _, _ => none
def ownS (env : Env) (i : Nat) : Bool := match env[i]? with
  | some (.own _ _) => true
  | _ => false
def ownL (env : Env) (i : Nat) : Bool := match env[i]? with
  | some (.own _ (.l _)) => true
  | _ => false
def putL : List Nat → List Slot → Env → Option Env
  | [], [], env => some env
  | i :: is, s :: ss, env => if freeS env i then putL is ss (env.set i s) else none
  | _, _, _ => none
mutual
def ex (fu : Nat) : S → Env → Option (Fl × Env)
  | .set i own e, env => (ev T e env).bind fun p => (nrm own p.2 p.1).bind fun q => if freeS q.2 i then some (.nx, q.2.set i q.1) else none
  | .par is os es, env => (evL T es env).bind fun p => (nrmL os p.1 p.2).bind fun q => if is.Nodup then (putL is q.1 q.2).map fun q => (.nx, q) else none
  | .unp tg e, env => (ev T e env).bind fun p => (frz p.2 p.1).bind fun q => (asg tg q.1 q.2).map fun q => (.nx, q)
  | .sub i ix e, env => (ev T e env).bind fun p => (frz p.2 p.1).bind fun v => if ownS v.2 i then (ev T ix v.2).bind fun k => (lookD k.2 k.1).bind fun kd => (match k.2[i]? with
    | some (.own p (.l xs)) => (match kd with
      | .int j => (L2.ixN xs.length j).map fun n => (.nx, k.2.set i (.own p (.l (xs.set n v.1))))
      | _ => none)
    | some (.own p (.d t kvs)) => if !t && dkOk t kd && decide (kvs.length < sizeLine) then some (.nx, k.2.set i (.own p (.d t (dput kvs kd v.1)))) else none
    | _ => none) else none
  | .app i e, env => if ownL env i then (ev T e env).bind fun p => (frz p.2 p.1).bind fun v => (match v.2[i]? with
    | some (.own p (.l xs)) => if xs.length < sizeLine then some (.nx, v.2.set i (.own p (.l (xs ++ [v.1])))) else none
    | _ => none) else none
  | .ins i k e, env => if ownL env i then (ev T k env).bind fun kp => (ev T e kp.2).bind fun p => (frz p.2 p.1).bind fun v => (lookD v.2 kp.1).bind fun kd => (match v.2[i]?, kd with
    | some (.own p (.l xs)), .int j => if decide (0 ≤ j) && decide (j ≤ xs.length) && decide (xs.length < sizeLine) then some (.nx, v.2.set i (.own p (.l (xs.take j.toNat ++ v.1 :: xs.drop j.toNat)))) else none
    | _, _ => none) else none
  | .rem i e, env => none
  | .rai, env => none
  | .expr e, env => (ev T e env).map fun p => (.nx, p.2)
  | .ret e, env => (ev T e env).map fun p => (.rt p.1, p.2)
  | .ite c a b, env => (ev T c env).bind fun p => (truth (look p.2 p.1)).bind fun k => if k then exL fu a p.2 else exL fu b p.2
  | .for_ tg src body fg, env => (evSrc T src env).bind fun p => (forGo (fun x env => (asg tg x env).bind fun e1 => (exL fu body e1).map fun q => (q.1, wip q.2 fg)) p.1 (wip (lock p.2.2 p.2.1) fg)).map fun q => (q.1, unlock p.2.2 q.2 p.2.1)
  | .whl c body fg, env => whlGo (fun env => (ev T c env).bind fun p => (truth (look p.2 p.1)).map fun k => (k, p.2)) (fun env => (exL fu body env).map fun q => (q.1, wip q.2 fg)) fu (wip env fg)
def exL (fu : Nat) : SL → Env → Option (Fl × Env)
  | .nil, env => some (.nx, env)
  | .cons s r, env => (ex fu s env).bind fun p => (match p.1 with
    | .nx => exL fu r p.2
    | .rt r => some (.rt r, p.2))
end
/-- what the parameters hold behind the def, as far as they are the caller's -/
def outs : List Slot → Env → List Slot
  | [], _ => []
  | s :: as, [] => .no :: outs as []
  | s :: as, t :: env => (if s.par then t else .no) :: outs as env
/-- a def's value -/
def fin (env : Env) : R → Option R
  | .slot i => (match env[i]? with
    | some (.dat d) => some (.dat d)
    | some (.own false c) => some (.new c)
    | _ => none)
  | r => some r
def run (fu n : Nat) (body : SL) (as : List Slot) : Option (R × List Slot) :=
  (exL T fu body (as ++ List.replicate n .no)).bind fun p => (match p.1 with
    | .nx => some (.dat .none, outs as p.2)
    | .rt r => (fin p.2 r).map fun r => (r, outs as p.2))
end
end Lc
/-! How plain data stands in the abstract heap. -/
namespace Lc
open PySem L2

/-- the written part, with the program and the world -/
structure Kw where
  k : PySem.W.Frag
  P : Program
  w : World
instance : Coe Kw PySem.W.Frag := ⟨Kw.k⟩
def strG (x : Str) : Prop := PyData.strOk x = true ∧ x.length ≤ sizeLine
mutual
def Rp (K : Kw) (F : Hp) : D → V → Prop
  | .none, v => v = .non
  | .bool b, v => v = .bl b
  | .int i, v => v = .int i
  | .str x, v => v = .str x ∧ strG x
  | .list ds, v => ds.length ≤ sizeLine ∧ ∃ a vs, v = .ref a ∧ F a = some (.lst vs) ∧ RpL K F ds vs
  | .tuple ds, v => ds.length ≤ sizeLine ∧ ∃ a vs, v = .ref a ∧ SqT K F a vs ∧ RpL K F ds vs
  | .dict _, _ => False
def RpL (K : Kw) (F : Hp) : List D → List V → Prop
  | [], vs => vs = []
  | d :: ds, vs => ∃ v r, vs = v :: r ∧ Rp K F d v ∧ RpL K F ds r
end
def Le (F F' : Hp) : Prop := ∀ a o, F a = some o → F' a = some o
theorem Le.refl (F : Hp) : Le F F := fun _ _ h => h
theorem Le.trans {F G H : Hp} (a : Le F G) (b : Le G H) : Le F H := fun x o h => b x o (a x o h)
theorem Le.new {F : Hp} {p : Addr} {o : HO} (h : F p = none) : Le F (upd F p o) := fun a u e => by
  rw [upd_ne (ne_of_none e h)]; exact e
theorem Le.tup {K : Kw} {F F' : Hp} {a : Addr} {xs : List V} (e : Le F F') (h : SqT K F a xs) : SqT K F' a xs := by
  rcases h with (h | ⟨o, h⟩) | h
  · exact .inl (.inl (e _ _ h))
  · exact .inl (.inr ⟨o, e _ _ h⟩)
  · exact .inr h
theorem Le.lstq {K : Kw} {F F' : Hp} {a : Addr} {xs : List V} (e : Le F F') (h : SqL K F a xs) : SqL K F' a xs := by
  rcases h with (h | ⟨o, h⟩) | h
  · exact .inl (.inl (e _ _ h))
  · exact .inl (.inr ⟨o, e _ _ h⟩)
  · exact .inr h
section
variable {K : Kw} {F F' H : Hp}
mutual
theorem Rp.mono (e : Le F F') : ∀ (d : D) (v : V), Rp K F d v → Rp K F' d v
  | .none, _, h => h
  | .bool _, _, h => h
  | .int _, _, h => h
  | .str _, _, h => h
  | .list ds, v, h => by
    rw [Rp] at h ⊢
    obtain ⟨z, a, vs, e1, e2, e3⟩ := h
    exact ⟨z, a, vs, e1, e _ _ e2, RpL.mono e ds vs e3⟩
  | .tuple ds, v, h => by
    rw [Rp] at h ⊢
    obtain ⟨z, a, vs, e1, e2, e3⟩ := h
    exact ⟨z, a, vs, e1, e.tup e2, RpL.mono e ds vs e3⟩
  | .dict _, _, h => by rw [Rp] at h; exact h.elim
theorem RpL.mono (e : Le F F') : ∀ (ds : List D) (vs : List V), RpL K F ds vs → RpL K F' ds vs
  | [], _, h => h
  | d :: ds, vs, h => by
    rw [RpL] at h ⊢
    obtain ⟨v, r, e1, e2, e3⟩ := h
    exact ⟨v, r, e1, Rp.mono e d v e2, RpL.mono e ds r e3⟩
end
mutual
theorem Rp.dp : ∀ (d : D) (v : V), Rp K F d v → Dp K F v d
  | .none, _, h => by rw [Rp] at h; subst h; exact .non
  | .bool _, _, h => by rw [Rp] at h; subst h; exact .bl _
  | .int _, _, h => by rw [Rp] at h; subst h; exact .int _
  | .str _, _, h => by rw [Rp] at h; obtain ⟨h, _⟩ := h; subst h; exact .str _
  | .list ds, v, h => by
    rw [Rp] at h
    obtain ⟨z, a, vs, e1, e2, e3⟩ := h
    subst e1
    exact .lst (SqL.of e2) (RpL.dp ds vs e3)
  | .tuple ds, v, h => by
    rw [Rp] at h
    obtain ⟨z, a, vs, e1, e2, e3⟩ := h
    subst e1
    exact .tup e2 (RpL.dp ds vs e3)
  | .dict _, _, h => by rw [Rp] at h; exact h.elim
theorem RpL.dp : ∀ (ds : List D) (vs : List V), RpL K F ds vs → DpAll K F vs ds
  | [], _, h => by rw [RpL] at h; subst h; exact .nil
  | d :: ds, vs, h => by
    rw [RpL] at h
    obtain ⟨v, r, e1, e2, e3⟩ := h
    subst e1
    exact .cons (Rp.dp d v e2) (RpL.dp ds r e3)
end
mutual
theorem Rp.lay : ∀ (d : D) (v : V), Rp K F d v → d.canLay0 = true
  | .none, _, _ => rfl
  | .bool _, _, _ => rfl
  | .int _, _, _ => rfl
  | .str x, _, h => by rw [Rp] at h; rw [PyData.canLay0]; exact h.2.1
  | .list ds, v, h => by
    rw [Rp] at h
    obtain ⟨z, a, vs, e1, e2, e3⟩ := h
    rw [PyData.canLay0]; exact RpL.lay ds vs e3
  | .tuple ds, v, h => by
    rw [Rp] at h
    obtain ⟨z, a, vs, e1, e2, e3⟩ := h
    rw [PyData.canLay0]; exact RpL.lay ds vs e3
  | .dict _, _, h => by rw [Rp] at h; exact h.elim
theorem RpL.lay : ∀ (ds : List D) (vs : List V), RpL K F ds vs → PyData.canLayAll0 ds = true
  | [], _, h => rfl
  | d :: ds, vs, h => by
    rw [RpL] at h
    obtain ⟨v, r, e1, e2, e3⟩ := h
    rw [PyData.canLayAll0, Rp.lay d v e2, RpL.lay ds r e3]; rfl
end
theorem RpL.length : ∀ {ds : List D} {vs : List V}, RpL K F ds vs → vs.length = ds.length
  | [], _, h => by rw [RpL] at h; subst h; rfl
  | d :: ds, vs, h => by
    rw [RpL] at h
    obtain ⟨v, r, e1, e2, e3⟩ := h
    subst e1
    simp [RpL.length e3]
theorem RpL.get : ∀ {ds : List D} {vs : List V} {i : Nat} {d : D}, RpL K F ds vs → ds[i]? = some d → ∃ v, vs[i]? = some v ∧ Rp K F d v
  | [], _, _, _, h, e => by simp at e
  | d :: ds, vs, 0, d', h, e => by
    rw [RpL] at h
    obtain ⟨v, r, e1, e2, e3⟩ := h
    subst e1
    simp at e; subst e
    exact ⟨v, rfl, e2⟩
  | d :: ds, vs, i + 1, d', h, e => by
    rw [RpL] at h
    obtain ⟨v, r, e1, e2, e3⟩ := h
    subst e1
    simpa using RpL.get e3 (i := i) (d := d') (by simpa using e)
theorem RpL.get' : ∀ {ds : List D} {vs : List V} {i : Nat} {v : V}, RpL K F ds vs → vs[i]? = some v → ∃ d, ds[i]? = some d ∧ Rp K F d v := fun {ds vs i v} h e => by
  have l := h.length
  have hi : i < vs.length := (List.getElem?_eq_some_iff.mp e).1
  obtain ⟨w, h1, h2⟩ := h.get (i := i) (d := ds[i]'(by omega)) (by simp)
  rw [e] at h1; cases h1
  exact ⟨_, by simp, h2⟩
theorem RpL.nil : RpL K F [] [] := by rw [RpL]
theorem RpL.cons {d : D} {v : V} {ds : List D} {vs : List V} (h : Rp K F d v) (t : RpL K F ds vs) : RpL K F (d :: ds) (v :: vs) := by
  rw [RpL]; exact ⟨v, vs, rfl, h, t⟩
theorem RpL.append : ∀ {ds es : List D} {vs ws : List V}, RpL K F ds vs → RpL K F es ws → RpL K F (ds ++ es) (vs ++ ws)
  | [], _, _, _, h, t => by rw [RpL] at h; subst h; exact t
  | d :: ds, es, vs, ws, h, t => by
    rw [RpL] at h
    obtain ⟨v, r, e1, e2, e3⟩ := h
    subst e1
    exact RpL.cons e2 (RpL.append e3 t)
theorem RpL.drop : ∀ {ds : List D} {vs : List V} (n : Nat), RpL K F ds vs → RpL K F (ds.drop n) (vs.drop n)
  | _, _, 0, h => h
  | [], _, n + 1, h => by rw [RpL] at h; subst h; exact RpL.nil
  | d :: ds, vs, n + 1, h => by
    rw [RpL] at h
    obtain ⟨v, r, e1, e2, e3⟩ := h
    subst e1
    exact RpL.drop n e3
theorem RpL.take : ∀ {ds : List D} {vs : List V} (n : Nat), RpL K F ds vs → RpL K F (ds.take n) (vs.take n)
  | _, _, 0, h => by simpa using RpL.nil
  | [], _, n + 1, h => by rw [RpL] at h; subst h; exact RpL.nil
  | d :: ds, vs, n + 1, h => by
    rw [RpL] at h
    obtain ⟨v, r, e1, e2, e3⟩ := h
    subst e1
    exact RpL.cons e2 (RpL.take n e3)
theorem RpL.set {d : D} {v : V} (hd : Rp K F d v) : ∀ {ds : List D} {vs : List V} (n : Nat), RpL K F ds vs → RpL K F (ds.set n d) (vs.set n v)
  | [], _, n, h => by rw [RpL] at h; subst h; exact RpL.nil
  | x :: ds, vs, 0, h => by
    rw [RpL] at h
    obtain ⟨w, r, e1, e2, e3⟩ := h
    subst e1
    exact RpL.cons hd e3
  | x :: ds, vs, n + 1, h => by
    rw [RpL] at h
    obtain ⟨w, r, e1, e2, e3⟩ := h
    subst e1
    exact RpL.cons e2 (RpL.set hd n e3)
theorem RpL.reverse : ∀ {ds : List D} {vs : List V}, RpL K F ds vs → RpL K F ds.reverse vs.reverse
  | [], _, h => by rw [RpL] at h; subst h; exact RpL.nil
  | x :: ds, vs, h => by
    rw [RpL] at h
    obtain ⟨w, r, e1, e2, e3⟩ := h
    subst e1
    rw [List.reverse_cons, List.reverse_cons]
    exact RpL.append (RpL.reverse e3) (RpL.cons e2 RpL.nil)
theorem RpL.ints : ∀ {ds : List D} {vs : List V} {ns : List Int}, RpL K F ds vs → allInts ds = some ns → vs = ns.map V.int
  | [], _, _, h, e => by rw [RpL] at h; subst h; simp [allInts] at e; subst e; rfl
  | d :: ds, vs, ns, h, e => by
    rw [RpL] at h
    obtain ⟨w, r, e1, e2, e3⟩ := h
    subst e1
    cases d <;> simp [allInts] at e
    obtain ⟨ms, h1, h2⟩ := e
    subst h2
    rw [Rp] at e2; subst e2
    rw [RpL.ints e3 h1]; rfl
theorem RpL.bls : ∀ {ds : List D} {vs : List V} {ns : List Bool}, RpL K F ds vs → allBools ds = some ns → vs = ns.map V.bl
  | [], _, _, h, e => by rw [RpL] at h; subst h; simp [allBools] at e; subst e; rfl
  | d :: ds, vs, ns, h, e => by
    rw [RpL] at h
    obtain ⟨w, r, e1, e2, e3⟩ := h
    subst e1
    cases d <;> simp [allBools] at e
    obtain ⟨ms, h1, h2⟩ := e
    subst h2
    rw [Rp] at e2; subst e2
    rw [RpL.bls e3 h1]; rfl
end

/-! ### dicts -/
mutual
def hashD (w : World) : D → Int
  | .int i => hashInt i
  | .str x => hashStr w x
  | .tuple ds => reduceHash (Builtin.Tuple.tupleHashOf (hashDs w ds))
  | _ => 0
def hashDs (w : World) : List D → List Int
  | [] => []
  | d :: ds => hashD w d :: hashDs w ds
end
/-- the object of a dict whose keys are tuples -/
def TD (w : World) (a : Addr) (es : List (D × Addr × V)) (h : Heap) : Prop :=
  (a == sysModules) = false ∧ ∃ vs : List (D × Addr × Value), Paired (fun (p : D × Addr × V) (q : D × Addr × Value) => p.1 = q.1 ∧ p.2.1 = q.2.1 ∧ RelV p.2.2 q.2.2) es vs ∧
    ∃ o es' ep, h.get? a = some o ∧ o.ExactDict ∧ o.data = .dict es' ep ∧ es'.toList = vs.map fun x => (⟨hashD w x.1, .ref x.2.1, x.2.2⟩ : DictEntry)
def DicO (K : Kw) (F : Hp) (a : Addr) (t : Bool) (kvs : List (D × D)) (o : HO) : Prop :=
  kvs.length ≤ sizeLine ∧ (kvs.map (·.1)).Nodup ∧ (match t with
  | false => ∃ ks : List (Key × V), o = .dK ks ∧ Paired (fun (p : D × D) (q : Key × V) => Rp K F p.1 (kV q.1) ∧ Rp K F p.2 q.2) kvs ks
  | true => ∃ es : List (D × Addr × V), o = .ext (TD K.w a es) ∧ Paired (fun (p : D × D) (q : D × Addr × V) => q.1 = p.1 ∧ dkOk true p.1 = true ∧ Rp K F p.1 (.ref q.2.1) ∧ Rp K F p.2 q.2.2) kvs es)
theorem paired_imp {α β : Type} {R S : α → β → Prop} (k : ∀ a b, R a b → S a b) : ∀ {xs : List α} {ys : List β}, Paired R xs ys → Paired S xs ys
  | _, _, .nil => .nil
  | _, _, .cons h t => .cons (k _ _ h) (paired_imp k t)
theorem DicO.mono {K : Kw} {F F' : Hp} (e : Le F F') {a : Addr} {t : Bool} {kvs : List (D × D)} {o : HO} (h : DicO K F a t kvs o) : DicO K F' a t kvs o := by
  obtain ⟨z, n, h⟩ := h
  refine ⟨z, n, ?_⟩
  cases t with
  | false =>
    obtain ⟨ks, h1, h2⟩ := h
    exact ⟨ks, h1, paired_imp (fun _ _ ⟨x, y⟩ => ⟨Rp.mono e _ _ x, Rp.mono e _ _ y⟩) h2⟩
  | true =>
    obtain ⟨es, h1, h2⟩ := h
    exact ⟨es, h1, paired_imp (fun _ _ ⟨x, y, z, u⟩ => ⟨x, y, Rp.mono e _ _ z, Rp.mono e _ _ u⟩) h2⟩
/-- a thing's content -/
def Cnt (K : Kw) (F : Hp) (a : Addr) : C → HO → Prop
  | .l xs, o => xs.length ≤ sizeLine ∧ ∃ vs, o = .lst vs ∧ RpL K F xs vs
  | .d t kvs, o => DicO K F a t kvs o
theorem Cnt.mono {K : Kw} {F F' : Hp} (e : Le F F') {a : Addr} : ∀ {c : C} {o : HO}, Cnt K F a c o → Cnt K F' a c o
  | .l xs, o, ⟨z, vs, h1, h2⟩ => ⟨z, vs, h1, RpL.mono e _ _ h2⟩
  | .d t kvs, o, h => DicO.mono e h
/-! ### states -/
def Slot.isOwn : Slot → Bool
  | .own _ _ => true
  | _ => false
def Slot.kind : Slot → Nat
  | .no => 0
  | .dat _ => 1
  | .own _ _ => 2
  | .scr _ => 4
  | .hid => 5
def SlotOk (K : Kw) (H F : Hp) (o : Option (Option V)) : Slot → Prop
  | .no => True
  | .dat d => ∃ v, o = some (some v) ∧ Rp K F d v
  | .own _ c => ∃ a u, o = some (some (.ref a)) ∧ H a = some u ∧ F a = none ∧ Cnt K F a c u
  | .scr ns => ∃ a, o = some (some (.ref a)) ∧ SqL K F a (ns.map V.int)
  | .hid => True
def Owns (env : Env) (σ : L2.St) (i : Nat) (a : Addr) : Prop := σ[i]? = some (some (.ref a)) ∧ ∃ s : Slot, env[i]? = some s ∧ s.isOwn = true
def Owned (env : Env) (σ : L2.St) (a : Addr) : Prop := ∃ i, Owns env σ i a
structure Sat (K : Kw) (env : Env) (σ : L2.St) (H F : Hp) : Prop where
  fle : Le F H
  len : env.length = σ.length
  sl : ∀ (i : Nat) (s : Slot), env[i]? = some s → SlotOk K H F (σ[i]?) s
  inj : ∀ (i j : Nat) (a : Addr), Owns env σ i a → Owns env σ j a → i = j
structure Ext (env : Env) (σ : L2.St) (H F : Hp) (env' : Env) (σ' : L2.St) (H' F' : Hp) : Prop where
  f : Le F F'
  fn : ∀ a o, F' a = some o → F a = none → H a = none ∨ Owned env σ a
  h : ∀ a o, H a = some o → ¬ Owned env σ a → H' a = some o
  dm : ∀ a, H a ≠ none → H' a ≠ none
  ow : ∀ a, Owned env' σ' a → Owned env σ a ∨ H a = none
  pr : ∀ (i : Nat) (s : Slot), env[i]? = some s → s.par = true → ∃ s' : Slot, env'[i]? = some s' ∧ s'.par = true ∧ s'.kind = s.kind ∧ σ'[i]? = σ[i]?
section
variable {K : Kw} {env env1 env2 : Env} {σ σ1 σ2 : L2.St} {H H1 H2 F F1 F2 : Hp}
theorem Sat.owned_some (s : Sat K env σ H F) {a : Addr} (h : Owned env σ a) : H a ≠ none ∧ F a = none := by
  obtain ⟨i, e, sl, h1, h2⟩ := h
  have := s.sl i sl h1
  cases sl with
  | no => cases h2
  | dat d => cases h2
  | scr d => cases h2
  | hid => cases h2
  | own p c =>
    obtain ⟨b, u, e1, e2, e3, _⟩ := this
    rw [e] at e1; cases e1
    exact ⟨by rw [e2]; simp, e3⟩
theorem Ext.refl : Ext env σ H F env σ H F :=
  ⟨Le.refl F, fun a o h n => (by rw [h] at n; cases n), fun _ _ h _ => h, fun _ h => h, fun a h => .inl h, fun i s h p => ⟨s, h, p, rfl, rfl⟩⟩
theorem Ext.trans (x : Ext env σ H F env1 σ1 H1 F1) (y : Ext env1 σ1 H1 F1 env2 σ2 H2 F2) : Ext env σ H F env2 σ2 H2 F2 := by
  have hn : ∀ a, H1 a = none → H a = none ∨ Owned env σ a := fun a h => by
    by_cases hh : H a = none
    · exact .inl hh
    · by_cases ho : Owned env σ a
      · exact .inr ho
      · obtain ⟨o, e⟩ := Option.ne_none_iff_exists'.mp hh
        rw [x.h a o e ho] at h; cases h
  refine ⟨x.f.trans y.f, fun a o h n => ?_, fun a o h n => ?_, fun a h => y.dm a (x.dm a h), fun a h => ?_, fun i s h p => ?_⟩
  · by_cases hf : F1 a = none
    · rcases y.fn a o h hf with z | z
      · exact hn a z
      · rcases x.ow a z with z | z
        · exact .inr z
        · exact .inl z
    · obtain ⟨o1, e⟩ := Option.ne_none_iff_exists'.mp hf
      exact x.fn a o1 e n
  · refine y.h a o (x.h a o h n) fun z => ?_
    rcases x.ow a z with z | z
    · exact n z
    · rw [z] at h; cases h
  · rcases y.ow a h with z | z
    · exact x.ow a z
    · rcases hn a z with z | z
      · exact .inr z
      · exact .inl z
  · obtain ⟨s1, h1, p1, k1, e1⟩ := x.pr i s h p
    obtain ⟨s2, h2, p2, k2, e2⟩ := y.pr i s1 h1 p1
    exact ⟨s2, h2, p2, k2.trans k1, e2.trans e1⟩

/-- what an expression's value is, Hs the heap ahead of it -/
def RepR (K : Kw) (env : Env) (σ : L2.St) (H F Hs : Hp) (v : V) : R → Prop
  | .dat d => Rp K F d v
  | .slot i => σ[i]? = some (some v)
  | .new c => ∃ a u, v = .ref a ∧ H a = some u ∧ F a = none ∧ Cnt K F a c u ∧ ¬ Owned env σ a ∧ Hs a = none
/-- nothing that is tracked has changed; some things are new -/
structure Grow (H F H' F' : Hp) : Prop where
  h : Le H H'
  f : Le F F'
  fn : ∀ a o, F' a = some o → F a = none → H a = none
  fle : Le F' H'
theorem Sat.grow (s : Sat K env σ H F) (g : Grow H F H1 F1) : Sat K env σ H1 F1 := by
  have nf : ∀ a, H a ≠ none → F a = none → F1 a = none := fun a h n => by
    cases e : F1 a with
    | none => rfl
    | some o => exact absurd (g.fn a o e n) h
  refine ⟨g.fle, s.len, fun i sl h => ?_, s.inj⟩
  have := s.sl i sl h
  cases sl with
  | no => trivial
  | dat d => obtain ⟨v, e, r⟩ := this; exact ⟨v, e, Rp.mono g.f _ _ r⟩
  | own p c =>
    obtain ⟨a, u, e1, e2, e3, e4⟩ := this
    exact ⟨a, u, e1, g.h _ _ e2, nf a (by rw [e2]; simp) e3, e4.mono g.f⟩
  | scr ns => obtain ⟨a, e1, e2⟩ := this; exact ⟨a, e1, g.f.lstq e2⟩
  | hid => trivial
theorem Grow.ext (s : Sat K env σ H F) (g : Grow H F H1 F1) : Ext env σ H F env σ H1 F1 :=
  ⟨g.f, fun a o h n => .inl (g.fn a o h n), fun a o h _ => g.h a o h, fun a h => (by obtain ⟨o, e⟩ := Option.ne_none_iff_exists'.mp h; rw [g.h a o e]; simp), fun a h => .inl h, fun i s h p => ⟨s, h, p, rfl, rfl⟩⟩
theorem Grow.refl (h : Le F H) : Grow H F H F := ⟨Le.refl H, Le.refl F, fun a o h n => (by rw [h] at n; cases n), h⟩
theorem Grow.tup (h : Le F H) {p : Addr} (n : H p = none) (vs : List V) : Grow H F (upd H p (.tup vs)) (upd F p (.tup vs)) := by
  have nF : F p = none := by
    cases e : F p with
    | none => rfl
    | some o => rw [h p o e] at n; cases n
  refine ⟨Le.new n, Le.new nF, fun a o e z => ?_, fun a o e => ?_⟩
  · by_cases ha : a = p
    · subst ha; exact n
    · rw [upd_ne ha, z] at e; cases e
  · by_cases ha : a = p
    · subst ha; rw [upd_same] at e ⊢; exact e
    · rw [upd_ne ha] at e ⊢; exact h a o e
theorem Grow.lst (h : Le F H) {p : Addr} (n : H p = none) (vs : List V) : Grow H F (upd H p (.lst vs)) F :=
  ⟨Le.new n, Le.refl F, fun a o e z => (by rw [z] at e; cases e), h.trans (Le.new n)⟩
theorem Le.none_of (h : Le F H) {a : Addr} (n : H a = none) : F a = none := by
  cases e : F a with
  | none => rfl
  | some o => rw [h a o e] at n; cases n
theorem Sat.notOwned (s : Sat K env σ H F) {a : Addr} (n : H a = none) : ¬ Owned env σ a := fun h => (s.owned_some h).1 n
theorem RepR.ext {Hs : Hp} {v : V} {r : R} (x : Ext env σ H F env1 σ H1 F1) (h : RepR K env σ H F Hs v r) : RepR K env1 σ H1 F1 Hs v r := by
  cases r with
  | dat d => exact Rp.mono x.f _ _ h
  | slot i => exact h
  | new c =>
    obtain ⟨a, u, e1, e2, e3, e4, e5, e6⟩ := h
    refine ⟨a, u, e1, x.h a _ e2 e5, ?_, e4.mono x.f, fun o => ?_, e6⟩
    · cases e : F1 a with
      | none => rfl
      | some o =>
        rcases x.fn a o e e3 with q | q
        · rw [q] at e2; cases e2
        · exact absurd q e5
    · rcases x.ow a o with q | q
      · exact e5 q
      · rw [q] at e2; cases e2
/-- what is seen -/
def Vw (K : Kw) (H F : Hp) (d : D) (v : V) : Prop := match d with
  | .list xs => xs.length ≤ sizeLine ∧ ∃ a vs, v = .ref a ∧ H a = some (.lst vs) ∧ RpL K F xs vs
  | d => Rp K F d v
def ObOk (K : Kw) (H F : Hp) (v : V) : Ob → Prop
  | .d x => Vw K H F x v
  | .k t kvs => ∃ a o, v = .ref a ∧ H a = some o ∧ DicO K F a t kvs o
  | .s ns => ∃ a, v = .ref a ∧ SqL K F a (ns.map V.int)
theorem Vw.of (h : Le F H) {d : D} {v : V} (r : Rp K F d v) : Vw K H F d v := by
  unfold Vw
  cases d with
  | list xs =>
    rw [Rp] at r
    obtain ⟨z, a, vs, e1, e2, e3⟩ := r
    exact ⟨z, a, vs, e1, h a _ e2, e3⟩
  | _ => exact r
theorem Vw.rp (h : Le F H) {d : D} {v : V} (r : Vw K H F d v) : Rp K H d v := by
  unfold Vw at r
  cases d with
  | list xs =>
    obtain ⟨z, a, vs, e1, e2, e3⟩ := r
    rw [Rp]
    exact ⟨z, a, vs, e1, e2, RpL.mono h _ _ e3⟩
  | _ => exact Rp.mono h _ _ r
theorem ob_ok {a : Addr} {o : HO} {c : C} (h : H a = some o) (r : Cnt K F a c o) : ObOk K H F (.ref a) c.ob := by
  cases c with
  | l xs => obtain ⟨z, vs, e1, e2⟩ := r; subst e1; exact ⟨z, a, vs, rfl, h, e2⟩
  | d t kvs => exact ⟨a, o, rfl, h, r⟩
theorem look_ok (s : Sat K env σ H F) {Hs : Hp} {v : V} {r : R} {o : Ob} (h : RepR K env σ H F Hs v r) (e : look env r = some o) : ObOk K H F v o := by
  cases r with
  | dat d => simp only [look, Option.some.injEq] at e; subst e; exact Vw.of s.fle h
  | new c =>
    simp only [look, Option.some.injEq] at e; subst e
    obtain ⟨a, u, e1, e2, e3, e4, _⟩ := h
    subst e1
    exact ob_ok e2 e4
  | slot i =>
    simp only [look] at e
    have h : σ[i]? = some (some v) := h
    cases q : env[i]? with
    | none => rw [q] at e; cases e
    | some sl =>
      rw [q] at e
      have ok := s.sl i sl q
      rw [h] at ok
      cases sl with
      | no => cases e
      | dat d =>
        simp only [Option.some.injEq] at e; subst e
        obtain ⟨v', e', r⟩ := ok; cases e'
        exact Vw.of s.fle r
      | own p c =>
        simp only [Option.some.injEq] at e; subst e
        obtain ⟨a, u, e1, e2, e3, e4⟩ := ok; cases e1
        exact ob_ok e2 e4
      | scr ns =>
        simp only [Option.some.injEq] at e; subst e
        obtain ⟨a, e1, e2⟩ := ok; cases e1
        exact ⟨a, rfl, e2⟩
      | hid => cases e
theorem lookD_ok (s : Sat K env σ H F) {Hs : Hp} {v : V} {r : R} {d : D} (h : RepR K env σ H F Hs v r) (e : lookD env r = some d) : Vw K H F d v := by
  unfold lookD at e
  cases q : look env r with
  | none => rw [q] at e; cases e
  | some o =>
    rw [q] at e
    have := look_ok s h q
    cases o with
    | d x => simp only [Option.bind_some, Ob.dat, Option.some.injEq] at e; subst e; exact this
    | k t kvs => cases e
    | s ns => cases e
end
end Lc
/-! Lists of one's own that become plain data; several values at once. -/
namespace Lc
open PySem L2
section
variable {K : Kw} {env env0 env1 env2 : Env} {σ σ0 σ1 σ2 : L2.St} {H H0 H1 H2 F F0 F1 F2 : Hp}

theorem get_set_ne {α : Type} {xs : List α} {i j : Nat} {x : α} (h : i ≠ j) : (xs.set i x)[j]? = xs[j]? := List.getElem?_set_ne h
theorem get_set_same {α : Type} {xs : List α} {i : Nat} {x : α} (h : i < xs.length) : (xs.set i x)[i]? = some x := List.getElem?_set_self h
theorem lt_of_get {α : Type} {xs : List α} {i : Nat} {x : α} (h : xs[i]? = some x) : i < xs.length := (List.getElem?_eq_some_iff.mp h).1

/-- a slot is forgotten, or told otherwise, while its value stays -/
theorem Sat.reslot (s : Sat K env σ H F) (i : Nat) (t : Slot) (ok : i < env.length → SlotOk K H F (σ[i]?) t) (ho : t.isOwn = true → ∃ s', env[i]? = some s' ∧ s'.isOwn = true) : Sat K (env.set i t) σ H F := by
  have own : ∀ j a, Owns (env.set i t) σ j a → Owns env σ j a := fun j a ⟨h1, s', h2, h3⟩ => by
    by_cases hj : i = j
    · subst hj
      have hl : i < env.length := by simpa using lt_of_get h2
      rw [get_set_same hl] at h2
      cases h2
      exact ⟨h1, ho h3⟩
    · rw [get_set_ne hj] at h2
      exact ⟨h1, s', h2, h3⟩
  refine ⟨s.fle, by simpa using s.len, fun j s' h => ?_, fun j k a h1 h2 => s.inj j k a (own j a h1) (own k a h2)⟩
  by_cases hj : i = j
  · subst hj
    have hl : i < env.length := by simpa using lt_of_get h
    rw [get_set_same hl] at h
    cases h
    exact ok hl
  · rw [get_set_ne hj] at h
    exact s.sl j s' h
theorem owned_set {i : Nat} {t : Slot} (ht : t.isOwn = false) {a : Addr} (h : Owned (env.set i t) σ a) : Owned env σ a := by
  obtain ⟨j, h1, s', h2, h3⟩ := h
  by_cases hj : i = j
  · subst hj
    have hl : i < env.length := by simpa using lt_of_get h2
    rw [get_set_same hl] at h2
    cases h2
    rw [ht] at h3; cases h3
  · rw [get_set_ne hj] at h2
    exact ⟨j, h1, s', h2, h3⟩
/-- what a list becomes when it is frozen: F with it -/
theorem frz_at {a : Addr} {vs : List V} (s : Sat K env σ H F) (hH : H a = some (.lst vs)) (hF : F a = none) (no : ¬ Owned env σ a) : Sat K env σ H (upd F a (.lst vs)) := by
  have fle : Le (upd F a (.lst vs)) H := fun b o e => by
    by_cases hb : b = a
    · subst hb; rw [upd_same] at e; rw [hH]; exact e
    · rw [upd_ne hb] at e; exact s.fle b o e
  have up : Le F (upd F a (.lst vs)) := Le.new hF
  refine ⟨fle, s.len, fun i sl h => ?_, s.inj⟩
  have ok := s.sl i sl h
  cases sl with
  | no => trivial
  | hid => trivial
  | dat d => obtain ⟨v, e, r⟩ := ok; exact ⟨v, e, Rp.mono up _ _ r⟩
  | own p c =>
    obtain ⟨b, u, e1, e2, e3, e4⟩ := ok
    have hb : b ≠ a := fun e => by subst e; exact no ⟨i, e1, _, h, rfl⟩
    exact ⟨b, u, e1, e2, by rw [upd_ne hb]; exact e3, e4.mono up⟩
  | scr ns => obtain ⟨b, e1, e2⟩ := ok; exact ⟨b, e1, up.lstq e2⟩
def R.isNew : R → Bool
  | .new _ => true
  | _ => false
def NewAt (v : V) (r : R) (a : Addr) : Prop := r.isNew = true ∧ v = .ref a
/-- one value frozen -/
theorem frz_ok {d : D} {r : R} {v : V} (s : Sat K env σ H F) (x : Ext env0 σ0 H0 F0 env σ H F) (h : RepR K env σ H F H0 v r) (e : frz env r = some (d, env1)) :
    ∃ F1, Sat K env1 σ H F1 ∧ Ext env0 σ0 H0 F0 env1 σ H F1 ∧ Rp K F1 d v ∧ Le F F1 ∧ (∀ b, F b = none → F1 b ≠ none → NewAt v r b ∨ Owned env σ b) ∧ (∀ b, Owned env1 σ b → Owned env σ b) ∧
      (∀ (j : Nat), (∀ i, r = .slot i → i ≠ j) → env1[j]? = env[j]?) := by
  have triv : env1 = env → Rp K F d v → ∃ F1, Sat K env1 σ H F1 ∧ Ext env0 σ0 H0 F0 env1 σ H F1 ∧ Rp K F1 d v ∧ Le F F1 ∧ (∀ b, F b = none → F1 b ≠ none → NewAt v r b ∨ Owned env σ b) ∧ (∀ b, Owned env1 σ b → Owned env σ b) ∧ (∀ (j : Nat), (∀ i, r = .slot i → i ≠ j) → env1[j]? = env[j]?) := fun e1 q => by
    subst e1
    exact ⟨F, s, x, q, Le.refl F, fun b n1 n2 => absurd n1 n2, fun _ h => h, fun _ _ => rfl⟩
  cases r with
  | dat d' =>
    simp only [frz, Option.some.injEq, Prod.mk.injEq] at e
    obtain ⟨e1, e2⟩ := e
    subst e1
    exact triv e2.symm h
  | new c =>
    cases c with
    | d t kvs => cases e
    | l xs =>
    simp only [frz, Option.some.injEq, Prod.mk.injEq] at e
    obtain ⟨e1, e2⟩ := e
    subst e1 e2
    obtain ⟨a, u, e1, e2, e3, ⟨z, vs, eu, e4⟩, e5, e6⟩ := h
    subst eu
    have up : Le F (upd F a (.lst vs)) := Le.new e3
    refine ⟨upd F a (.lst vs), frz_at s e2 e3 e5, ⟨x.f.trans up, fun b o q n => ?_, x.h, x.dm, x.ow, x.pr⟩, ?_, up, fun b n1 n2 => ?_, fun _ q => q, fun _ _ => rfl⟩
    · by_cases hb : b = a
      · subst hb; exact .inl e6
      · rw [upd_ne hb] at q; exact x.fn b o q n
    · rw [Rp]
      exact ⟨z, a, vs, e1, upd_same, RpL.mono up _ _ e4⟩
    · by_cases hb : b = a
      · subst hb; exact .inl ⟨rfl, e1⟩
      · rw [upd_ne hb] at n2; exact absurd n1 n2
  | slot i =>
    have h : σ[i]? = some (some v) := h
    simp only [frz] at e
    cases q : env[i]? with
    | none => rw [q] at e; cases e
    | some sl =>
      rw [q] at e
      have ok := s.sl i sl q
      rw [h] at ok
      cases sl with
      | no => cases e
      | hid => cases e
      | scr ns => cases e
      | dat d' =>
        simp only [Option.some.injEq, Prod.mk.injEq] at e
        obtain ⟨e1, e2⟩ := e
        subst e1
        obtain ⟨w, e3, r⟩ := ok
        cases e3
        exact triv e2.symm r
      | own p c =>
        cases p with
        | true => cases e
        | false =>
          cases c with
          | d t kvs => cases e
          | l xs =>
          simp only [Option.some.injEq, Prod.mk.injEq] at e
          obtain ⟨e1, e2⟩ := e
          subst e1 e2
          obtain ⟨a, u, e1, e2, e3, z, vs, eu, e4⟩ := ok
          cases e1
          subst eu
          have up : Le F (upd F a (.lst vs)) := Le.new e3
          have hl := lt_of_get q
          have s1 : Sat K (env.set i .no) σ H F := s.reslot i .no (fun _ => trivial) (fun z => nomatch z)
          have no1 : ¬ Owned (env.set i .no) σ a := fun ⟨j, h1, s', h2, h3⟩ => by
            by_cases hj : i = j
            · subst hj; rw [get_set_same hl] at h2; cases h2; cases h3
            · rw [get_set_ne hj] at h2
              exact hj (s.inj i j a ⟨h, _, q, rfl⟩ ⟨h1, s', h2, h3⟩)
          have s2 := frz_at s1 e2 e3 no1
          have rp : Rp K (upd F a (.lst vs)) (.list xs) (.ref a) := by
            rw [Rp]; exact ⟨z, a, vs, rfl, upd_same, RpL.mono up _ _ e4⟩
          have s3 : Sat K ((env.set i .no).set i (.dat (.list xs))) σ H (upd F a (.lst vs)) := s2.reslot i _ (fun _ => ⟨_, h, rp⟩) (fun z => nomatch z)
          rw [List.set_set] at s3
          have oa : Owned env σ a := ⟨i, h, _, q, rfl⟩
          have ow : ∀ b, Owned (env.set i (.dat (.list xs))) σ b → Owned env σ b := fun b => owned_set rfl
          refine ⟨upd F a (.lst vs), s3, ⟨x.f.trans up, fun b o q2 n => ?_, x.h, x.dm, fun b hb => x.ow b (ow b hb), fun j sj hj pj => ?_⟩, rp, up, fun b n1 n2 => ?_, ow, fun j hj => get_set_ne (hj i rfl)⟩
          · by_cases hb : b = a
            · subst hb
              rcases x.ow b oa with z | z
              · exact .inr z
              · exact .inl z
            · rw [upd_ne hb] at q2; exact x.fn b o q2 n
          · obtain ⟨s', h1, h2, h3, h4⟩ := x.pr j sj hj pj
            refine ⟨s', ?_, h2, h3, h4⟩
            by_cases hij : i = j
            · subst hij; rw [q] at h1; cases h1; cases h2
            · rw [get_set_ne hij]; exact h1
          · by_cases hb : b = a
            · subst hb; exact .inr oa
            · rw [upd_ne hb] at n2; exact absurd n1 n2
/-- several values -/
inductive RepL (K : Kw) (env : Env) (σ : L2.St) (H F Hs : Hp) : List V → List R → Prop
  | nil : RepL K env σ H F Hs [] []
  | cons {v : V} {r : R} {vs : List V} {rs : List R} : RepR K env σ H F Hs v r → RepL K env σ H F Hs vs rs → (∀ (a : Addr) (i : Nat) (w : V) (r' : R), NewAt v r a → vs[i]? = some w → rs[i]? = some r' → ¬ NewAt w r' a) → RepL K env σ H F Hs (v :: vs) (r :: rs)
theorem RepR.start {Hs Hs' : Hp} {v : V} {r : R} (k : ∀ a, Hs a = none → Hs' a = none) (h : RepR K env σ H F Hs v r) : RepR K env σ H F Hs' v r := by
  cases r with
  | dat d => exact h
  | slot i => exact h
  | new c => obtain ⟨a, u, e1, e2, e3, e4, e5, e6⟩ := h; exact ⟨a, u, e1, e2, e3, e4, e5, k a e6⟩
theorem RepL.start {Hs Hs' : Hp} (k : ∀ a, Hs a = none → Hs' a = none) : ∀ {vs : List V} {rs : List R}, RepL K env σ H F Hs vs rs → RepL K env σ H F Hs' vs rs
  | _, _, .nil => .nil
  | _, _, .cons a b c => .cons (a.start k) (RepL.start k b) c
theorem RepL.ext {Hs : Hp} (x : Ext env σ H F env1 σ H1 F1) : ∀ {vs : List V} {rs : List R}, RepL K env σ H F Hs vs rs → RepL K env1 σ H1 F1 Hs vs rs
  | _, _, .nil => .nil
  | _, _, .cons a b c => .cons (a.ext x) (RepL.ext x b) c
theorem RepR.fresh {Hs : Hp} {v : V} {r : R} {a : Addr} (h : RepR K env σ H F Hs v r) (n : NewAt v r a) : Hs a = none ∧ H a ≠ none := by
  obtain ⟨n1, n2⟩ := n
  cases r with
  | dat d => cases n1
  | slot i => cases n1
  | new c => obtain ⟨b, u, e1, e2, e3, e4, e5, e6⟩ := h; subst n2; cases e1; exact ⟨e6, by rw [e2]; simp⟩
theorem RepL.fresh {Hs : Hp} : ∀ {vs : List V} {rs : List R} {i : Nat} {v : V} {r : R} {a : Addr}, RepL K env σ H F Hs vs rs → vs[i]? = some v → rs[i]? = some r → NewAt v r a → Hs a = none ∧ H a ≠ none
  | _, _, _, _, _, _, .nil, h, _, _ => by simp at h
  | _, _, 0, _, _, _, .cons a b c, h1, h2, n => by simp at h1 h2; subst h1 h2; exact a.fresh n
  | _, _, i + 1, _, _, _, .cons a b c, h1, h2, n => RepL.fresh (i := i) b (by simpa using h1) (by simpa using h2) n
theorem RepL.length {Hs : Hp} : ∀ {vs : List V} {rs : List R}, RepL K env σ H F Hs vs rs → vs.length = rs.length
  | _, _, .nil => rfl
  | _, _, .cons a b c => by simp [RepL.length b]
theorem Ext.dmn (x : Ext env σ H F env1 σ1 H1 F1) (a : Addr) (h : H1 a = none) : H a = none := by
  cases e : H a with
  | none => rfl
  | some o => exact absurd h (x.dm a (by rw [e]; simp))
/-- a value, then more -/
theorem RepL.push {v : V} {r : R} {vs : List V} {rs : List R} (h : RepR K env σ H F H0 v r) (x0 : Ext env0 σ H0 F0 env σ H F) (x : Ext env σ H F env1 σ H1 F1) (t : RepL K env1 σ H1 F1 H vs rs) : RepL K env1 σ H1 F1 H0 (v :: vs) (r :: rs) := by
  refine .cons (h.ext x) (t.start fun a => x0.dmn a) fun a i w r' n h1 h2 n2 => ?_
  exact (h.fresh n).2 (t.fresh h1 h2 n2).1
/-- a value that waits while another one is frozen -/
theorem RepR.frz {Hs : Hp} {v w : V} {r r' : R} (h : RepR K env σ H F Hs v r) (up : Le F F1) (k : ∀ b, F b = none → F1 b ≠ none → NewAt w r' b ∨ Owned env σ b) (ow : ∀ b, Owned env1 σ b → Owned env σ b) (ne : ∀ a, NewAt w r' a → ¬ NewAt v r a) : RepR K env1 σ H F1 Hs v r := by
  cases r with
  | dat d => exact Rp.mono up _ _ h
  | slot i => exact h
  | new c =>
    obtain ⟨a, u, e1, e2, e3, e4, e5, e6⟩ := h
    refine ⟨a, u, e1, e2, ?_, e4.mono up, fun q => e5 (ow a q), e6⟩
    cases q : F1 a with
    | none => rfl
    | some o =>
      rcases k a e3 (by rw [q]; simp) with n | n
      · exact absurd ⟨rfl, e1⟩ (ne a n)
      · exact absurd n e5
theorem RepL.frz {Hs : Hp} {w : V} {r' : R} (up : Le F F1) (k : ∀ b, F b = none → F1 b ≠ none → NewAt w r' b ∨ Owned env σ b) (ow : ∀ b, Owned env1 σ b → Owned env σ b) :
    ∀ {vs : List V} {rs : List R}, RepL K env σ H F Hs vs rs → (∀ (a : Addr) (i : Nat) (v : V) (r : R), NewAt w r' a → vs[i]? = some v → rs[i]? = some r → ¬ NewAt v r a) → RepL K env1 σ H F1 Hs vs rs
  | _, _, .nil, _ => .nil
  | _, _, .cons a b c, ne => .cons (a.frz up k ow fun x n => ne x 0 _ _ n rfl rfl) (RepL.frz up k ow b fun x i v r n h1 h2 => ne x (i + 1) v r n (by simpa using h1) (by simpa using h2)) c
theorem frzL_ok : ∀ {rs : List R} {vs : List V} {ds : List D} {env env1 : Env} {F : Hp}, Sat K env σ H F → Ext env0 σ0 H0 F0 env σ H F → RepL K env σ H F H0 vs rs → frzL rs env = some (ds, env1) →
    ∃ F1, Sat K env1 σ H F1 ∧ Ext env0 σ0 H0 F0 env1 σ H F1 ∧ RpL K F1 ds vs ∧ Le F F1
  | [], vs, ds, env, env1, F, s, x, h, e => by
    cases h
    simp only [frzL, Option.some.injEq, Prod.mk.injEq] at e
    obtain ⟨e1, e2⟩ := e
    subst e1 e2
    exact ⟨F, s, x, RpL.nil, Le.refl F⟩
  | r :: rs, vs, ds, env, env1, F, s, x, h, e => by
    cases h with
    | cons h1 h2 h3 =>
      simp only [frzL, Option.bind_eq_some_iff, Option.map_eq_some_iff] at e
      obtain ⟨p, e1, q, e2, e3⟩ := e
      obtain ⟨d, envm⟩ := p
      obtain ⟨ds', env'⟩ := q
      simp only [Prod.mk.injEq] at e3
      obtain ⟨e3, e4⟩ := e3
      subst e3 e4
      obtain ⟨Fm, sm, xm, rp, up, k, ow, _⟩ := frz_ok s x h1 e1
      obtain ⟨F1, s1, x1, rl, up1⟩ := frzL_ok sm xm (h2.frz up k ow fun a i v r n q1 q2 => h3 a i v r n q1 q2) e2
      exact ⟨F1, s1, x1, RpL.cons (Rp.mono up1 _ _ rp) rl, up.trans up1⟩
end
end Lc
/-! The operations: what the evaluator reckons is what the layer's rules give. -/
namespace L2
abbrev Cx.kw (X : Cx) : Lc.Kw := ⟨X.K, X.prog, X.w⟩
end L2
namespace Lc
open PySem L2
section
variable {X : Cx} {K : Kw} {env : Env} {σ : L2.St} {H F Hs : Hp} {Q : VK}
/-- what is wanted behind an operation that changes nothing -/
def Gv (K : Kw) (env : Env) (σ : L2.St) (H F Hs : Hp) (res : R) (Q : VK) : Prop :=
  ∀ v H' F', Sat K env σ H' F' → Ext env σ H F env σ H' F' → RepR K env σ H' F' Hs v res → Q v H'
theorem give_dat (s : Sat K env σ H F) {d : D} {v : V} (g : Gv K env σ H F Hs (.dat d) Q) (r : Rp K F d v) : Q v H := g v H F s Ext.refl r
theorem give_tup (s : Sat K env σ H F) {ds : List D} {vs : List V} {p : Addr} (g : Gv K env σ H F Hs (.dat (.tuple ds)) Q) (r : RpL K F ds vs) (z : ds.length ≤ sizeLine) (n : H p = none) : Q (.ref p) (upd H p (.tup vs)) := by
  have gr := Grow.tup s.fle n vs
  refine g _ _ _ (s.grow gr) (gr.ext s) ?_
  show Rp K _ (.tuple ds) _
  rw [Rp]
  exact ⟨z, p, vs, rfl, SqT.of upd_same, RpL.mono gr.f _ _ r⟩
theorem give_lst (s : Sat K env σ H F) (hs : ∀ a, H a = none → Hs a = none) {ds : List D} {vs : List V} {p : Addr} (g : Gv K env σ H F Hs (.new (.l ds)) Q) (r : RpL K F ds vs) (z : ds.length ≤ sizeLine) (n : H p = none) : Q (.ref p) (upd H p (.lst vs)) := by
  have gr := Grow.lst s.fle n vs
  exact g _ _ _ (s.grow gr) (gr.ext s) ⟨p, _, rfl, upd_same, s.fle.none_of n, ⟨z, vs, rfl, r⟩, s.notOwned n, hs p n⟩

theorem Vw.int {i : Int} {v : V} (h : Vw K H F (.int i) v) : v = .int i := by
  have h : Rp K F (.int i) v := h
  rw [Rp] at h; exact h
theorem Vw.bl {b : Bool} {v : V} (h : Vw K H F (.bool b) v) : v = .bl b := by
  have h : Rp K F (.bool b) v := h
  rw [Rp] at h; exact h
theorem Vw.non {v : V} (h : Vw K H F .none v) : v = .non := by
  have h : Rp K F .none v := h
  rw [Rp] at h; exact h
theorem Vw.str {x : Str} {v : V} (h : Vw K H F (.str x) v) : v = .str x ∧ strG x := by
  have h : Rp K F (.str x) v := h
  rw [Rp] at h; exact h
theorem Vw.lst {xs : List D} {v : V} (h : Vw K H F (.list xs) v) : xs.length ≤ sizeLine ∧ ∃ a vs, v = .ref a ∧ H a = some (.lst vs) ∧ RpL K F xs vs := h
theorem Vw.tup {xs : List D} {v : V} (h : Vw K H F (.tuple xs) v) : xs.length ≤ sizeLine ∧ ∃ a vs, v = .ref a ∧ SqT K F a vs ∧ RpL K F xs vs := by
  have h : Rp K F (.tuple xs) v := h
  rw [Rp] at h; exact h
theorem Vw.dict {xs : List (D × D)} {v : V} (h : Vw K H F (.dict xs) v) : False := by
  have h : Rp K F (.dict xs) v := h
  rw [Rp] at h; exact h
theorem rp_int {i : Int} : Rp K F (.int i) (.int i) := by rw [Rp]
theorem rp_bl {b : Bool} : Rp K F (.bool b) (.bl b) := by rw [Rp]
theorem rp_non : Rp K F .none .non := by rw [Rp]
theorem rp_str {x : Str} (h : strG x) : Rp K F (.str x) (.str x) := by rw [Rp]; exact ⟨rfl, h⟩

theorem okI_log {i : Int} (h : okI i = true) : i.natAbs.log2 < 8000 := of_decide_eq_true h
/-! ### a op b -/
def rAddD (K : Kw) : R2 := fun x y H Q => (∃ i j, x = .int i ∧ y = .int j ∧ Q (.int (i + j)) H) ∨ (∃ i j, x = .str i ∧ y = .str j ∧ i.length + j.length ≤ sizeLine ∧ Q (.str (i ++ j)) H) ∨ rCat x y H Q ∨ rCatA K x y H Q
theorem op_addD : OpR X (binaryOp .Add) (rAddD X.kw) := OpR.or op_add (OpR.or op_add_str (OpR.or op_cat op_catA))
def rPowD : R2 := rI CPow fun i j => .int (i ^ j.toNat)
def rBin (K : Kw) : Operator → R2
  | .Add => rAddD K
  | .Sub => rI0 fun i j => .int (i - j)
  | .Mult => rI CMulW fun i j => .int (i * j)
  | .FloorDiv => rI CDivW fun i j => .int (i / j)
  | .Mod => rI (fun _ j => 0 < j) fun i j => .int (i % j)
  | .Pow => rPowD
  | _ => fun _ _ _ _ => False
theorem opr_never {f : Value → Value → Sem Value} : OpR X f (fun _ _ _ _ => False) := fun _ _ _ _ _ _ _ _ _ _ _ _ h => h.elim
theorem op_bin : ∀ op : Operator, OpR X (binaryOp op) (rBin X.kw op)
  | .Add => op_addD
  | .Sub => op_sub
  | .Mult => op_mulW
  | .FloorDiv => op_fdivW
  | .Mod => op_mod
  | .Pow => op_pow
  | .MatMult => opr_never
  | .Div => opr_never
  | .LShift => opr_never
  | .RShift => opr_never
  | .BitOr => opr_never
  | .BitXor => opr_never
  | .BitAnd => opr_never
theorem strG_append {x y : Str} (hx : strG x) (hy : strG y) (h : x.length + y.length ≤ sizeLine) : strG (x ++ y) := by
  refine ⟨?_, ?_⟩
  · have h1 := hx.1
    have h2 := hy.1
    unfold PyData.strOk at *
    show (x.cps ++ y.cps).all _ = true
    rw [Array.all_append, h1, h2]; rfl
  · show (x.cps ++ y.cps).size ≤ sizeLine
    rw [Array.size_append]; exact h
theorem binop_ok (s : Sat K env σ H F) (hs : ∀ a, H a = none → Hs a = none) {op : Operator} {d e : D} {x y : V} {res : R} (hx : Vw K H F d x) (hy : Vw K H F e y) (h : binop op d e = some res) (g : Gv K env σ H F Hs res Q) : rBin K op x y H Q := by
  unfold binop at h
  split at h
  · cases h
    exact .inl ⟨_, _, hx.int, hy.int, give_dat s g rp_int⟩
  · split at h
    · rename_i hz
      cases h
      obtain ⟨ex, gx⟩ := hx.str
      obtain ⟨ey, gy⟩ := hy.str
      exact .inr (.inl ⟨_, _, ex, ey, hz, give_dat s g (rp_str (strG_append gx gy hz))⟩)
    · cases h
  · split at h
    · rename_i hz
      cases h
      obtain ⟨_, a, vs, e1, e2, e3⟩ := hx.lst
      obtain ⟨_, b, ws, e4, e5, e6⟩ := hy.lst
      have r := e3.append e6
      exact .inr (.inr (.inl ⟨a, b, vs, ws, e1, e4, e2, e5, by rw [e3.length, e6.length]; exact hz, fun p n => give_lst s hs g r (by rw [List.length_append]; exact hz) n⟩))
    · cases h
  · split at h
    · rename_i xs ys hz
      cases h
      obtain ⟨_, a, vs, e1, e2, e3⟩ := hx.tup
      obtain ⟨_, b, ws, e4, e5, e6⟩ := hy.tup
      have r := e3.append e6
      have l1 := e3.length
      have l2 := e6.length
      refine .inr (.inr (.inr ⟨a, b, vs, ws, e1, e4, s.fle.tup e2, s.fle.tup e5, by rw [l1, l2]; exact hz, fun q => ?_, fun _ q => ?_, fun _ _ p n => give_tup s g r (by rw [List.length_append]; exact hz) n⟩))
      · have : xs = [] := List.length_eq_zero_iff.mp (by rw [← l1, q]; rfl)
        subst this
        exact give_dat s g (by rw [Rp]; exact ⟨by simpa using hz, b, ws, rfl, e5, by simpa using e6⟩)
      · have : ys = [] := List.length_eq_zero_iff.mp (by rw [← l2, q]; rfl)
        subst this
        exact give_dat s g (by rw [Rp]; exact ⟨by simpa using hz, a, vs, rfl, e2, by simpa using e3⟩)
    · cases h
  · cases h
    exact ⟨_, _, hx.int, hy.int, give_dat s g rp_int⟩
  · split at h
    · rename_i hz
      cases h
      rw [Bool.and_eq_true] at hz
      have h1 := okI_log hz.1
      have h2 := okI_log hz.2
      exact ⟨_, _, hx.int, hy.int, (by show _ < _; omega), give_dat s g rp_int⟩
    · cases h
  · split at h
    · rename_i hz
      cases h
      rw [Bool.and_eq_true] at hz
      have h1 := of_decide_eq_true hz.1
      have h2 := okI_log hz.2
      exact ⟨_, _, hx.int, hy.int, ⟨h1, by omega⟩, give_dat s g rp_int⟩
    · cases h
  · split at h
    · rename_i hz
      cases h
      exact ⟨_, _, hx.int, hy.int, hz, give_dat s g rp_int⟩
    · cases h
  · split at h
    · rename_i hz
      cases h
      rw [Bool.and_eq_true, Bool.and_eq_true] at hz
      exact ⟨_, _, hx.int, hy.int, ⟨of_decide_eq_true hz.1.1, by have := of_decide_eq_true hz.1.2; omega, of_decide_eq_true hz.2⟩, give_dat s g rp_int⟩
    · cases h
  · cases h
/-! ### comparisons -/
theorem op_eqM (hu : X.A.units + 64 < cLine) : OpR X (compareOp .Eq) (fun x y H Q => ∃ d e, Rp X.kw H d x ∧ Rp X.kw H e y ∧ eqOk d e = true ∧ Q (.bl (PyData.eqv d e)) H) := by
  intro pins s σ H x y v u Q I rx ry h
  obtain ⟨d, e, hd, he, ok, q⟩ := h
  obtain ⟨as, ra⟩ := Dp.reads I d x v (Rp.dp d x hd) rx
  obtain ⟨bs, rb⟩ := Dp.reads I e y u (Rp.dp e y he) ry
  have ok := of_decide_eq_true ok
  exact SeqAt.compareEq_reads ra rb (Rp.lay d x hd) (Rp.lay e y he) (by omega) ⟨.bl _, H, I, rfl, q⟩
theorem op_neM (hu : X.A.units + 64 < cLine) : OpR X (compareOp .NotEq) (fun x y H Q => ∃ d e, Rp X.kw H d x ∧ Rp X.kw H e y ∧ eqOk d e = true ∧ Q (.bl (!PyData.eqv d e)) H) := by
  intro pins s σ H x y v u Q I rx ry h
  obtain ⟨d, e, hd, he, ok, q⟩ := h
  obtain ⟨as, ra⟩ := Dp.reads I d x v (Rp.dp d x hd) rx
  obtain ⟨bs, rb⟩ := Dp.reads I e y u (Rp.dp e y he) ry
  have ok := of_decide_eq_true ok
  exact SeqAt.compareNe_reads ra rb (Rp.lay d x hd) (Rp.lay e y he) (by omega) ⟨.bl _, H, I, rfl, q⟩
theorem eqV_flat {d e : D} {x y : V} (hd : flat d = true) (he : flat e = true) (rd : Rp K F d x) (re : Rp K F e y) : flatV x = true ∧ flatV y = true ∧ eqV x y = PyData.eqv d e := by
  cases d with
  | list _ => cases hd
  | tuple _ => cases hd
  | dict _ => cases hd
  | none => rw [Rp] at rd; subst rd; cases e with
    | none => rw [Rp] at re; subst re; exact ⟨rfl, rfl, rfl⟩
    | bool _ => rw [Rp] at re; subst re; exact ⟨rfl, rfl, rfl⟩
    | int _ => rw [Rp] at re; subst re; exact ⟨rfl, rfl, rfl⟩
    | str _ => rw [Rp] at re; obtain ⟨re, _⟩ := re; subst re; exact ⟨rfl, rfl, rfl⟩
    | list _ => cases he
    | tuple _ => cases he
    | dict _ => cases he
  | bool _ => rw [Rp] at rd; subst rd; cases e with
    | none => rw [Rp] at re; subst re; exact ⟨rfl, rfl, rfl⟩
    | bool _ => rw [Rp] at re; subst re; exact ⟨rfl, rfl, rfl⟩
    | int _ => rw [Rp] at re; subst re; exact ⟨rfl, rfl, rfl⟩
    | str _ => rw [Rp] at re; obtain ⟨re, _⟩ := re; subst re; exact ⟨rfl, rfl, rfl⟩
    | list _ => cases he
    | tuple _ => cases he
    | dict _ => cases he
  | int _ => rw [Rp] at rd; subst rd; cases e with
    | none => rw [Rp] at re; subst re; exact ⟨rfl, rfl, rfl⟩
    | bool _ => rw [Rp] at re; subst re; exact ⟨rfl, rfl, rfl⟩
    | int _ => rw [Rp] at re; subst re; exact ⟨rfl, rfl, rfl⟩
    | str _ => rw [Rp] at re; obtain ⟨re, _⟩ := re; subst re; exact ⟨rfl, rfl, rfl⟩
    | list _ => cases he
    | tuple _ => cases he
    | dict _ => cases he
  | str _ => rw [Rp] at rd; obtain ⟨rd, _⟩ := rd; subst rd; cases e with
    | none => rw [Rp] at re; subst re; exact ⟨rfl, rfl, rfl⟩
    | bool _ => rw [Rp] at re; subst re; exact ⟨rfl, rfl, rfl⟩
    | int _ => rw [Rp] at re; subst re; exact ⟨rfl, rfl, rfl⟩
    | str _ => rw [Rp] at re; obtain ⟨re, _⟩ := re; subst re; exact ⟨rfl, rfl, rfl⟩
    | list _ => cases he
    | tuple _ => cases he
    | dict _ => cases he
theorem inV_flat {d : D} {x : V} (hd : flat d = true) (rd : Rp K F d x) : ∀ {ds : List D} {vs : List V}, RpL K F ds vs → ds.all flat = true → vs.all flatV = true ∧ inV x vs = isIn d ds
  | [], vs, h, _ => by rw [RpL] at h; subst h; exact ⟨rfl, rfl⟩
  | e :: ds, vs, h, hf => by
    rw [RpL] at h
    obtain ⟨v, r, e1, e2, e3⟩ := h
    subst e1
    rw [List.all_cons, Bool.and_eq_true] at hf
    obtain ⟨h1, h2⟩ := inV_flat hd rd e3 hf.2
    obtain ⟨k1, k2, k3⟩ := eqV_flat hf.1 hd e2 rd
    refine ⟨by rw [List.all_cons, k1, h1]; rfl, ?_⟩
    unfold inV isIn at *
    rw [List.any_cons, List.any_cons, h2, k3]
theorem shaped_of {d : D} (h : d.canLay0 = true) (z : d.depth ≤ 64) : SeqAt.shaped d = true := by
  unfold SeqAt.shaped
  rw [h, decide_eq_true z]; rfl
def rInM (K : Kw) (neg : Bool) : R2 := fun x y H Q => rIn K neg x y H Q ∨ (if neg then rNotInD K x y H Q else rInD K x y H Q)
def rCmp (K : Kw) : CmpOp → R2
  | .Eq => fun x y H Q => ∃ d e, Rp K H d x ∧ Rp K H e y ∧ eqOk d e = true ∧ Q (.bl (PyData.eqv d e)) H
  | .NotEq => fun x y H Q => ∃ d e, Rp K H d x ∧ Rp K H e y ∧ eqOk d e = true ∧ Q (.bl (!PyData.eqv d e)) H
  | .Lt => fun x y H Q => (∃ i j, x = .int i ∧ y = .int j ∧ Q (.bl (decide (i < j))) H) ∨ (∃ i j, x = .str i ∧ y = .str j ∧ Q (.bl (decide (i.cps.toList < j.cps.toList))) H)
  | .LtE => rI0 fun i j => .bl (decide (i ≤ j))
  | .Gt => rI0 fun i j => .bl (decide (j < i))
  | .GtE => rI0 fun i j => .bl (decide (j ≤ i))
  | .In => fun x y H Q => (∃ c z, x = .str ⟨#[c]⟩ ∧ y = .str z ∧ Q (.bl (decide (c ∈ z.cps.toList))) H) ∨ rIn K false x y H Q ∨ rInD K x y H Q
  | .NotIn => fun x y H Q => (∃ c z, x = .str ⟨#[c]⟩ ∧ y = .str z ∧ Q (.bl (!decide (c ∈ z.cps.toList))) H) ∨ rIn K true x y H Q ∨ rNotInD K x y H Q
  | .Is => fun x y H Q => y = .non ∧ Q (.bl (decide (x = .non))) H
  | .IsNot => fun x y H Q => y = .non ∧ Q (.bl (!decide (x = .non))) H
theorem op_cmp (hr : Room 0 X.A) : ∀ op : CmpOp, OpR X (compareOp op) (rCmp X.kw op)
  | .Eq => op_eqM hr.units
  | .NotEq => op_neM hr.units
  | .Lt => OpR.or op_lt op_lt_str
  | .LtE => op_le
  | .Gt => op_gt
  | .GtE => op_ge
  | .In => OpR.or op_in_sign (OpR.or op_in_seq (op_inD (by have := hr.un; omega)))
  | .NotIn => OpR.or op_notIn_sign (OpR.or op_notIn_seq (op_notInD (by have := hr.un; omega)))
  | .Is => op_isN
  | .IsNot => op_notN
theorem none_iff {d : D} {x : V} (h : Vw K H F d x) : decide (x = .non) = isNone d := by
  cases d with
  | none => rw [h.non]; rfl
  | bool _ => rw [h.bl]; rfl
  | int _ => rw [h.int]; rfl
  | str _ => rw [h.str.1]; rfl
  | list _ => obtain ⟨_, a, vs, e, _⟩ := h.lst; rw [e]; rfl
  | tuple _ => obtain ⟨_, a, vs, e, _⟩ := h.tup; rw [e]; rfl
  | dict _ => exact h.dict.elim
theorem in_list (s : Sat K env σ H F) {d : D} {x y : V} {ys : List D} (hx : Vw K H F d x) (hy : Vw K H F (.list ys) y) (h : inOk d ys = true) (neg : Bool) (q : Q (.bl (if neg then !isIn d ys else isIn d ys)) H) : rIn K neg x y H Q ∨ (if neg then rNotInD K x y H Q else rInD K x y H Q) := by
  have hy' := hy.rp s.fle
  have hx' := hx.rp s.fle
  unfold inOk at h
  rw [Bool.or_eq_true] at h
  rcases h with h | h
  · left
    unfold inFlat at h
    rw [Bool.and_eq_true] at h
    rw [Rp] at hy'
    obtain ⟨_, a, vs, e1, e2, e3⟩ := hy'
    subst e1
    obtain ⟨h1, h2⟩ := inV_flat h.1 hx' e3 h.2
    refine ⟨a, vs, rfl, .inl (SqL.of e2), ?_, h1, ?_⟩
    · cases d with
      | none => rw [hx.non]; rfl
      | bool _ => rw [hx.bl]; rfl
      | int _ => rw [hx.int]; rfl
      | str _ => rw [hx.str.1]; rfl
      | list _ => cases h.1
      | tuple _ => cases h.1
      | dict _ => cases h.1
    · rw [h2]; exact q
  · right
    rw [Bool.and_eq_true] at h
    have h1 := of_decide_eq_true h.1
    have h2 := of_decide_eq_true h.2
    have z1 : SeqAt.shaped d = true := shaped_of (Rp.lay _ _ hx') (by omega)
    have z2 : SeqAt.shaped (.list ys) = true := shaped_of (Rp.lay _ _ hy') (by rw [PyData.depth]; omega)
    cases neg with
    | true => exact ⟨d, ys, Rp.dp _ _ hx', Rp.dp _ _ hy', z1, z2, q⟩
    | false => exact ⟨d, ys, Rp.dp _ _ hx', Rp.dp _ _ hy', z1, z2, q⟩
theorem in_tup (s : Sat K env σ H F) {d : D} {x y : V} {ys : List D} (hx : Vw K H F d x) (hy : Vw K H F (.tuple ys) y) (h : inFlat d ys = true) (neg : Bool) (q : Q (.bl (if neg then !isIn d ys else isIn d ys)) H) : rIn K neg x y H Q := by
  have hy' := hy.rp s.fle
  have hx' := hx.rp s.fle
  unfold inFlat at h
  rw [Bool.and_eq_true] at h
  rw [Rp] at hy'
  obtain ⟨_, a, vs, e1, e2, e3⟩ := hy'
  subst e1
  obtain ⟨h1, h2⟩ := inV_flat h.1 hx' e3 h.2
  refine ⟨a, vs, rfl, .inr e2, ?_, h1, ?_⟩
  · cases d with
    | none => rw [hx.non]; rfl
    | bool _ => rw [hx.bl]; rfl
    | int _ => rw [hx.int]; rfl
    | str _ => rw [hx.str.1]; rfl
    | list _ => cases h.1
    | tuple _ => cases h.1
    | dict _ => cases h.1
  · rw [h2]; exact q
theorem cmpop_ok (s : Sat K env σ H F) {op : CmpOp} {d e : D} {x y : V} {b : Bool} (hx : Vw K H F d x) (hy : Vw K H F e y) (h : cmpop op d e = some b) (q : Q (.bl b) H) : rCmp K op x y H Q := by
  unfold cmpop at h
  split at h
  · split at h
    · cases h; exact ⟨_, _, hx.rp s.fle, hy.rp s.fle, by assumption, q⟩
    · cases h
  · split at h
    · cases h; exact ⟨_, _, hx.rp s.fle, hy.rp s.fle, by assumption, q⟩
    · cases h
  · cases h; exact .inl ⟨_, _, hx.int, hy.int, q⟩
  · cases h; exact .inr ⟨_, _, hx.str.1, hy.str.1, q⟩
  · cases h; exact ⟨_, _, hx.int, hy.int, q⟩
  · cases h; exact ⟨_, _, hx.int, hy.int, q⟩
  · cases h; exact ⟨_, _, hx.int, hy.int, q⟩
  · cases h; exact .inl ⟨_, _, hx.str.1, hy.str.1, q⟩
  · cases h; exact .inl ⟨_, _, hx.str.1, hy.str.1, q⟩
  · split at h
    · cases h
      exact .inr (in_list s hx hy (by assumption) false q)
    · cases h
  · split at h
    · cases h
      exact .inr (.inl (in_tup s hx hy (by assumption) false q))
    · cases h
  · split at h
    · cases h
      exact .inr (in_list s hx hy (by assumption) true q)
    · cases h
  · split at h
    · cases h
      exact .inr (.inl (in_tup s hx hy (by assumption) true q))
    · cases h
  · cases h
    refine ⟨hy.non, ?_⟩
    rw [none_iff hx]; exact q
  · cases h
    refine ⟨hy.non, ?_⟩
    rw [none_iff hx]; exact q
  · cases h
end
end Lc
/-! Items, slices, built-in functions. -/
namespace Lc
open PySem L2
section
variable {X : Cx} {K : Kw} {env : Env} {σ : L2.St} {H F Hs : Hp} {Q : VK}
theorem ObOk.vw {d : D} {x : V} (h : ObOk K H F x (.d d)) : Vw K H F d x := h
theorem atI_rp {ds : List D} {vs : List V} {i : Int} {d : D} (h : RpL K F ds vs) (e : atI ds i = some d) : ∃ v, atI vs i = some v ∧ Rp K F d v := by
  unfold atI at e ⊢
  rw [h.length]
  cases q : ixN ds.length i with
  | none => rw [q] at e; cases e
  | some j =>
    rw [q] at e
    exact h.get e
theorem atI_map {α β : Type} {f : α → β} {xs : List α} {i : Int} {x : α} (e : atI xs i = some x) : atI (xs.map f) i = some (f x) := by
  unfold atI at e ⊢
  rw [List.length_map]
  cases q : ixN xs.length i with
  | none => rw [q] at e; cases e
  | some j =>
    rw [q] at e
    have e : xs[j]? = some x := e
    show (xs.map f)[j]? = some (f x)
    rw [List.getElem?_map, e]; rfl
theorem strG_one {z : Str} {c : Nat} (h : strG z) (m : c ∈ z.cps.toList) : strG ⟨#[c]⟩ := by
  refine ⟨?_, ?_⟩
  · have h1 := h.1
    unfold PyData.strOk at *
    rw [Array.all_eq_true_iff_forall_mem] at h1 ⊢
    intro x hx
    have : x = c := by simpa using hx
    subst this
    exact h1 x (by simpa using m)
  · show 1 ≤ sizeLine
    decide
theorem index_ok (s : Sat K env σ H F) {o : Ob} {d : D} {x y : V} {res : R} (hx : ObOk K H F x o) (hy : Vw K H F d y) (ho : ∀ t kvs, o ≠ .k t kvs) (h : index o d = some res) (g : Gv K env σ H F Hs res Q) : rIx K x y H Q := by
  unfold index at h
  split at h
  · exact absurd rfl (ho _ _)
  · rw [Option.map_eq_some_iff] at h
    obtain ⟨z, h1, h2⟩ := h
    subst h2
    obtain ⟨_, a, vs, e1, e2, e3⟩ := hx.vw.lst
    obtain ⟨v, h3, h4⟩ := atI_rp e3 h1
    exact .inl ⟨a, vs, _, v, e1, hy.int, SqL.of e2, h3, give_dat s g h4⟩
  · rw [Option.map_eq_some_iff] at h
    obtain ⟨z, h1, h2⟩ := h
    subst h2
    obtain ⟨_, a, vs, e1, e2, e3⟩ := hx.vw.tup
    obtain ⟨v, h3, h4⟩ := atI_rp e3 h1
    exact .inr (.inl ⟨a, vs, _, v, e1, hy.int, s.fle.tup e2, h3, give_dat s g h4⟩)
  · rw [Option.map_eq_some_iff] at h
    obtain ⟨c, h1, h2⟩ := h
    subst h2
    obtain ⟨e1, e2⟩ := hx.vw.str
    obtain ⟨j, _, hj, _⟩ := atI_get h1
    exact .inr (.inr ⟨_, _, c, e1, hy.int, e2.2, h1, give_dat s g (rp_str (strG_one e2 (List.mem_of_getElem? hj)))⟩)
  · rw [Option.map_eq_some_iff] at h
    obtain ⟨n, h1, h2⟩ := h
    subst h2
    obtain ⟨a, e1, e2⟩ := hx
    exact .inl ⟨a, _, _, .int n, e1, hy.int, s.fle.lstq e2, atI_map h1, give_dat s g rp_int⟩
  · cases h
/-! ### slices -/
theorem cut_rp {ds : List D} {vs : List V} (h : RpL K F ds vs) (lo hi : Option Int) : RpL K F (cut ds lo hi) (cutV vs lo hi) := by
  unfold cut cutV
  rw [h.length]
  exact (h.drop _).take _
theorem cut_length {α : Type} (xs : List α) (lo hi : Option Int) : (cut xs lo hi).length ≤ xs.length := by
  unfold cut
  rw [List.length_take, List.length_drop]; omega
theorem strG_cut {z : Str} (h : strG z) (lo hi : Option Int) : strG ⟨(cut z.cps.toList lo hi).toArray⟩ := by
  refine ⟨?_, ?_⟩
  · have h1 := h.1
    unfold PyData.strOk at *
    rw [Array.all_eq_true_iff_forall_mem] at h1 ⊢
    intro x hx
    have hx : x ∈ cut z.cps.toList lo hi := by simpa using hx
    unfold cut at hx
    exact h1 x (by simpa using List.mem_of_mem_drop (List.mem_of_mem_take hx))
  · show (cut z.cps.toList lo hi).toArray.size ≤ sizeLine
    have := cut_length z.cps.toList lo hi
    have h2 : z.cps.size ≤ sizeLine := h.2
    rw [List.size_toArray]
    rw [Array.length_toList] at this
    exact Nat.le_trans this h2
def rSl (K : Kw) : V → Option Int → Option Int → Hp → VK → Prop := fun x lo hi H Q => rSlL K x lo hi H Q ∨ rSlA K x lo hi H Q ∨ rSlS x lo hi H Q
theorem sl_any : SlR X (rSl X.kw) := SlR.or sl_list (SlR.or sl_tupA sl_str)
theorem cut_whole {α : Type} {xs : List α} {lo hi : Option Int} (h : HT.sIx xs.length 0 lo = 0 ∧ HT.sIx xs.length xs.length hi = xs.length) : cut xs lo hi = xs := by
  unfold cut
  rw [h.1, h.2]
  simp
theorem slice_ok (s : Sat K env σ H F) (hs : ∀ a, H a = none → Hs a = none) {d : D} {x : V} {res : R} {lo hi : Option Int} (hx : Vw K H F d x) (h : slice d lo hi = some res) (g : Gv K env σ H F Hs res Q) : rSl K x lo hi H Q := by
  unfold slice at h
  split at h
  · cases h
    obtain ⟨z, a, vs, e1, e2, e3⟩ := hx.lst
    exact .inl ⟨a, vs, e1, SqL.of e2, fun p n => give_lst s hs g (cut_rp e3 lo hi) (Nat.le_trans (cut_length _ _ _) z) n⟩
  · rename_i xs
    cases h
    obtain ⟨z, a, vs, e1, e2, e3⟩ := hx.tup
    refine .inr (.inl ⟨a, vs, e1, s.fle.tup e2, fun w => ?_, fun _ p n => give_tup s g (cut_rp e3 lo hi) (Nat.le_trans (cut_length _ _ _) z) n⟩)
    rw [e3.length] at w
    rw [cut_whole w] at g
    exact give_dat s g (by rw [Rp]; exact ⟨z, a, vs, rfl, e2, e3⟩)
  · cases h
    obtain ⟨e1, e2⟩ := hx.str
    exact .inr (.inr ⟨_, e1, e2.2, give_dat s g (rp_str (strG_cut e2 lo hi))⟩)
  · cases h
theorem revs_ok (s : Sat K env σ H F) (hs : ∀ a, H a = none → Hs a = none) {d : D} {x : V} {res : R} (hx : Vw K H F d x) (h : revs d = some res) (g : Gv K env σ H F Hs res Q) : ∃ a xs, x = .ref a ∧ SqL K H a xs ∧ ∀ p, H p = none → Q (.ref p) (upd H p (.lst xs.reverse)) := by
  unfold revs at h
  split at h
  · cases h
    obtain ⟨z, a, vs, e1, e2, e3⟩ := hx.lst
    exact ⟨a, vs, e1, SqL.of e2, fun p n => give_lst s hs g e3.reverse (by simpa using z) n⟩
  · cases h
/-! ### built-in functions -/
inductive ObL (K : Kw) (H F : Hp) : List V → List Ob → Prop
  | nil : ObL K H F [] []
  | cons {v : V} {o : Ob} {vs : List V} {os : List Ob} : ObOk K H F v o → ObL K H F vs os → ObL K H F (v :: vs) (o :: os)
theorem lookL_ok (s : Sat K env σ H F) : ∀ {rs : List R} {vs : List V} {os : List Ob}, RepL K env σ H F Hs vs rs → lookL env rs = some os → ObL K H F vs os
  | [], _, os, h, e => by cases h; simp [lookL] at e; subst e; exact .nil
  | r :: rs, _, os, h, e => by
    cases h with
    | cons h1 h2 h3 =>
      simp only [lookL, Option.bind_eq_some_iff, Option.map_eq_some_iff] at e
      obtain ⟨o, e1, os', e2, e3⟩ := e
      subst e3
      exact .cons (look_ok s h1 e1) (lookL_ok s h2 e2)
theorem ObL.one {vs : List V} {o : Ob} (h : ObL K H F vs [o]) : ∃ v, vs = [v] ∧ ObOk K H F v o := by
  cases h with
  | cons a b => cases b; exact ⟨_, rfl, a⟩
theorem ObL.two {vs : List V} {o o' : Ob} (h : ObL K H F vs [o, o']) : ∃ v w, vs = [v, w] ∧ ObOk K H F v o ∧ ObOk K H F w o' := by
  cases h with
  | cons a b =>
    obtain ⟨w, rfl, c⟩ := b.one
    exact ⟨_, w, rfl, a, c⟩
def biName : BI → Str
  | .abs => "abs"
  | .len => "len"
  | .min => "min"
  | .sum => "sum"
  | .all => "all"
  | .tuple => "tuple"
  | .list => "list"
  | .str => "str"
  | .set => "set"
  | .sorted => "sorted"
  | .dict => "dict"
end
end Lc
/-! Dicts: what the evaluator reckons is what the layer's rules give. -/
namespace Lc
open PySem L2
section
variable {X : Cx} {K : Kw} {env : Env} {σ : L2.St} {H F Hs : Hp} {Q : VK}
def kD : Key → D
  | .inl i => .int i
  | .inr x => .str x
theorem kD_inj {a b : Key} (h : kD a = kD b) : a = b := by
  cases a <;> cases b <;> simp [kD] at h <;> rw [h]
theorem rp_kV {d : D} {k : Key} (h : Rp K F d (kV k)) : d = kD k := by
  cases d with
  | none => rw [Rp] at h; cases k <;> cases h
  | bool _ => rw [Rp] at h; cases k <;> cases h
  | int _ => rw [Rp] at h; cases k <;> cases h; rfl
  | str _ => rw [Rp] at h; obtain ⟨h, _⟩ := h; cases k <;> cases h; rfl
  | list _ => rw [Rp] at h; obtain ⟨_, a, vs, h, _⟩ := h; cases k <;> cases h
  | tuple _ => rw [Rp] at h; obtain ⟨_, a, vs, h, _⟩ := h; cases k <;> cases h
  | dict _ => rw [Rp] at h; exact h.elim
abbrev KvK (K : Kw) (F : Hp) : List (D × D) → List (Key × V) → Prop := Paired (fun (p : D × D) (q : Key × V) => Rp K F p.1 (kV q.1) ∧ Rp K F p.2 q.2)
theorem kvk_any {kvs : List (D × D)} {ks : List (Key × V)} (h : KvK K F kvs ks) (k : Key) : (kvs.any fun x => decide (x.1 = kD k)) = ks.any fun kv => decide (kv.1 = k) := by
  induction h with
  | nil => rfl
  | @cons p q ps qs h t ih =>
    rw [List.any_cons, List.any_cons, ih]
    congr 1
    rw [rp_kV h.1]
    by_cases e : q.1 = k
    · rw [e]; simp
    · rw [decide_eq_false e, decide_eq_false fun z => e (kD_inj z)]
theorem kvk_map {kvs : List (D × D)} {ks : List (Key × V)} (h : KvK K F kvs ks) {k : Key} {d : D} {v : V} (r : Rp K F d v) : KvK K F (kvs.map fun x => if x.1 = kD k then (x.1, d) else x) (ks.map fun kv => if kv.1 = k then (kv.1, v) else kv) := by
  induction h with
  | nil => exact .nil
  | @cons p q ps qs h t ih =>
    rw [List.map_cons, List.map_cons]
    refine .cons ?_ ih
    by_cases e : q.1 = k
    · have e' : p.1 = kD k := by rw [rp_kV h.1, e]
      rw [if_pos e, if_pos e']; exact ⟨h.1, r⟩
    · have e' : ¬ p.1 = kD k := fun z => e (kD_inj (by rw [← rp_kV h.1, z]))
      rw [if_neg e, if_neg e']; exact h
theorem kvk_length {kvs : List (D × D)} {ks : List (Key × V)} (h : KvK K F kvs ks) : kvs.length = ks.length := Paired.length h
theorem kvk_put {kvs : List (D × D)} {ks : List (Key × V)} (h : KvK K F kvs ks) {k : Key} {kd d : D} {v : V} (rk : Rp K F kd (kV k)) (r : Rp K F d v) : KvK K F (dput kvs kd d) (putK ks k v) := by
  have e := rp_kV rk
  subst e
  unfold dput putK
  rw [kvk_any h k]
  split
  · exact kvk_map h r
  · exact Paired.snoc h ⟨rk, r⟩
theorem dput_keys (kvs : List (D × D)) (k v : D) : (dput kvs k v).map (·.1) = if k ∈ kvs.map (·.1) then kvs.map (·.1) else kvs.map (·.1) ++ [k] := by
  unfold dput
  have h1 : (kvs.any fun x => decide (x.1 = k)) = true ↔ k ∈ kvs.map (·.1) := by
    rw [List.any_eq_true]
    constructor
    · rintro ⟨x, hx, e⟩
      exact List.mem_map.mpr ⟨x, hx, of_decide_eq_true e⟩
    · intro h
      obtain ⟨x, hx, e⟩ := List.mem_map.mp h
      exact ⟨x, hx, decide_eq_true e⟩
  by_cases h : k ∈ kvs.map (·.1)
  · rw [if_pos h, if_pos (h1.mpr h), List.map_map]
    apply List.map_congr_left
    intro x _
    show (if x.1 = k then (x.1, v) else x).1 = x.1
    split <;> rfl
  · rw [if_neg h, if_neg (fun z => h (h1.mp z)), List.map_append]; rfl
theorem dput_nodup {kvs : List (D × D)} {k v : D} (h : (kvs.map (·.1)).Nodup) : ((dput kvs k v).map (·.1)).Nodup := by
  rw [dput_keys]
  split
  · exact h
  · rename_i hk
    rw [List.nodup_append]
    exact ⟨h, by simp, fun a ha b hb => by simp at hb; subst hb; intro e; subst e; exact hk ha⟩
theorem dput_length (kvs : List (D × D)) (k v : D) : (dput kvs k v).length ≤ kvs.length + 1 := by
  unfold dput
  split
  · simp
  · simp
theorem kvk_get {kvs : List (D × D)} {ks : List (Key × V)} (h : KvK K F kvs ks) (k : Key) : (dget kvs (kD k) = none ∧ valV ks k = none) ∨ ∃ d v, dget kvs (kD k) = some d ∧ valV ks k = some v ∧ Rp K F d v := by
  induction h with
  | nil => exact .inl ⟨rfl, rfl⟩
  | @cons p q ps qs h t ih =>
    by_cases e : q.1 = k
    · right
      have e' : p.1 = kD k := by rw [rp_kV h.1, e]
      refine ⟨p.2, q.2, ?_, valV_pos e, h.2⟩
      unfold dget
      rw [List.find?_cons_of_pos (by simp [e'])]; rfl
    · have e' : ¬ p.1 = kD k := fun z => e (kD_inj (by rw [← rp_kV h.1, z]))
      have a : dget (p :: ps) (kD k) = dget ps (kD k) := by
        unfold dget
        rw [List.find?_cons_of_neg (by simp [e'])]
      rw [a, valV_neg e]
      exact ih
/-- a key of this kind -/
theorem key_k {d : D} {y : V} (h : dkOk false d = true) (r : Vw K H F d y) : ∃ k, y = kV k ∧ Rp K F d (kV k) := by
  unfold dkOk at h
  cases d with
  | int i => exact ⟨.inl i, r.int, by rw [Rp]; rfl⟩
  | str x => exact ⟨.inr x, r.str.1, by rw [Rp]; exact ⟨rfl, r.str.2⟩⟩
  | none => simp [keyD] at h
  | bool _ => simp [keyD] at h
  | list _ => simp [keyD] at h
  | dict _ => simp [keyD] at h
  | tuple _ => simp [isTupD] at h
/-- what becomes of a dict, stored to -/
theorem dic_putK {a : Addr} {kvs : List (D × D)} {o : HO} {kd d : D} {k : Key} {v : V} (h : DicO K F a false kvs o) (hz : kvs.length < sizeLine) (rk : Rp K F kd (kV k)) (r : Rp K F d v) :
    ∃ ks, o = .dK ks ∧ ks.length < sizeLine ∧ DicO K F a false (dput kvs kd d) (.dK (putK ks k v)) := by
  obtain ⟨z, n, ks, e, p⟩ := h
  refine ⟨ks, e, by rw [← kvk_length p]; exact hz, ?_, dput_nodup n, _, rfl, kvk_put p rk r⟩
  have := dput_length kvs kd d
  omega
end
end Lc
/-! sorted of a list of data. -/
namespace Lc
open PySem L2
section
variable {X : Cx} {K : Kw} {H F : Hp}
theorem vals_cons {x : V} {xs : List V} {us : List Value} (h : Vals (x :: xs) us) : ∃ u t, us = u :: t ∧ RelV x u ∧ Vals xs t := by
  cases h with
  | cons a b => exact ⟨_, _, rfl, a, b⟩
theorem each_reads {X : Cx} {pins : List (Addr × Obj)} {σ : L2.St} {H : Hp} {s : Shared} (I : Inv X pins σ H s) {h' : Heap} (k : ∀ b o, s.heap.get? b = some o → h'.get? b = some o) :
    ∀ {ds : List D} {xs : List V} {us : List Value}, RpL X.kw H ds xs → Vals xs us → PySem.W.EachIs (fun v d => ∃ as, Reads h' v d as) us ds
  | [], xs, us, r, v => by
    rw [RpL] at r; subst r
    cases v
    exact .nil
  | d :: ds, xs, us, r, v => by
    rw [RpL] at r
    obtain ⟨x, t, rfl, r1, r2⟩ := r
    obtain ⟨u, t', rfl, v1, v2⟩ := vals_cons v
    obtain ⟨as, q⟩ := Dp.reads I d x u (Rp.dp d x r1) v1
    exact .cons ⟨as, PyProof.Rows.Reads.keeps k q⟩ (each_reads I k r2 v2)
theorem each_rel : ∀ {ds : List D} {xs : List V} {us : List Value}, RpL K F ds xs → Vals xs us → PySem.W.EachIs (fun v d => ∃ x, RelV x v ∧ Rp K F d x) us ds
  | [], xs, us, r, v => by
    rw [RpL] at r; subst r
    cases v
    exact .nil
  | d :: ds, xs, us, r, v => by
    rw [RpL] at r
    obtain ⟨x, t, rfl, r1, r2⟩ := r
    obtain ⟨u, t', rfl, v1, v2⟩ := vals_cons v
    exact .cons ⟨x, v1, r1⟩ (each_rel r2 v2)
theorem rel_each : ∀ {us : List Value} {ds : List D}, PySem.W.EachIs (fun v d => ∃ x, RelV x v ∧ Rp K F d x) us ds → ∃ xs, Vals xs us ∧ RpL K F ds xs
  | _, _, .nil => ⟨[], .nil, RpL.nil⟩
  | _, _, .cons ⟨x, h1, h2⟩ t => by
    obtain ⟨xs, h3, h4⟩ := rel_each t
    exact ⟨x :: xs, .cons h1 h3, RpL.cons h2 h4⟩
theorem sortOk_of {ds : List D} (h : sortOk ds = true) : PySem.W.AllAlike ds ∧ PySem.W.Sortable ds ∧ ∀ d ∈ ds, d.depth ≤ 60 := by
  unfold sortOk at h
  rw [Bool.and_eq_true, Bool.and_eq_true, Bool.or_eq_true] at h
  obtain ⟨⟨h1, h2⟩, h3⟩ := h
  refine ⟨fun d hd e he => ?_, ?_, fun d hd => ?_⟩
  · exact List.all_eq_true.mp (List.all_eq_true.mp h1 d hd) e he
  · rcases h2 with h2 | h2
    · left
      intro d hd
      have := List.all_eq_true.mp h2 d hd
      cases d with
      | tuple xs => cases xs with
        | nil => cases this
        | cons x r => exact ⟨x, r, rfl⟩
      | _ => cases this
    · right
      intro d hd
      have := List.all_eq_true.mp h2 d hd
      cases d with
      | tuple xs => cases this
      | none => cases this
      | _ => exact ⟨(fun z => nomatch z), (fun _ z => nomatch z)⟩
  · exact of_decide_eq_true (List.all_eq_true.mp h3 d hd)
def rSortD (K : Kw) : List V → Hp → VK → Prop := fun vs H Q => ∃ (a : Addr) (xs : List V) (ds : List D) (F : Hp), vs = [.ref a] ∧ SqL K H a xs ∧ Le F H ∧ RpL K F ds xs ∧ sortOk ds = true ∧
  ∀ (p : Addr) (zs : List V), RpL K F (sortD ds) zs → H p = none → Q (.ref p) (upd H p (.lst zs))
theorem cr_sortedD (hu : X.A.units + 200 < cLine) : CallR X (.builtin "sorted") (rSortD X.kw) := by
  intro pins s σ H vs us Q I r h
  obtain ⟨a, xs, ds, F, rfl, hs, le, rp, ok, q⟩ := h
  obtain ⟨al, so, dp⟩ := sortOk_of ok
  obtain ⟨its, rv, hl, hz⟩ := I.list hs
  rw [Vals.ref1 r]
  have rpH := RpL.mono le _ _ rp
  have e1 := each_reads I (h' := PySem.W.sortingHeap (PySem.W.copyHeap s.heap its) (s.heap.objs.size + 1) its) (fun b o e => PySem.W.sorting_copy_old e) rpH rv
  have hu1 : ∀ d, d ∈ ds → X.A.in1.in1.units + d.depth < cLine := fun d hd => by
    have := dp d hd
    show X.A.units + 1 + 1 + d.depth < cLine
    omega
  refine PySem.W.sorted_vals hl.isList (PySem.W.SortsAt.data e1 al so hu1) (by rw [← rv.length]; exact hz) ?_
  have ko : PySem.W.KeyedOut false (ds.map id) its (PySem.W.sortVals (PySem.W.dataKind (PySem.W.sortingHeap (PySem.W.copyHeap s.heap its) (s.heap.objs.size + 1) its) ds) false its its) := by
    rw [List.map_id]
    exact ⟨_, its, al, rfl, e1⟩
  have out := PySem.W.keyedOut_each (R := fun v d => ∃ x, RelV x v ∧ Rp X.kw F d x) id ko (each_rel rp rv)
  obtain ⟨zs, v1, v2⟩ := rel_each out
  generalize hov : PySem.W.sortVals (PySem.W.dataKind (PySem.W.sortingHeap (PySem.W.copyHeap s.heap its) (s.heap.objs.size + 1) its) ds) false its its = ov at v1 ⊢
  obtain ⟨ep, he'⟩ := PyProof.Rows.sortedAll_at s.heap its ov.toArray
  have hlen : zs.length ≤ sizeLine := by
    have l1 : zs.length = (sortD ds).length := v2.length
    rw [l1]
    unfold sortD
    rw [List.length_mergeSort, ← rp.length]
    exact hz
  exact ⟨.ref _, upd H (s.heap.objs.size + 1) (.lst zs), I.laid (t' := s.toks) (fun _ _ => PyProof.Rows.sortedAll_old) (Nat.le_succ _) ⟨hlen, ov, ep, v1, he'⟩, rfl, q _ zs v2 (I.hok.fresh (Nat.le_succ _))⟩
end
section
variable {X : Cx} {K : Kw} {env : Env} {σ : L2.St} {H F Hs : Hp} {Q : VK}
def rSortI : List V → Hp → VK → Prop := fun xs H Q => ∃ (a : Addr) (kvs : List (Key × V)) (ks : List Int), xs = [.ref a] ∧ Rd H a (.dK kvs) ∧ kvs.map (·.1) = ks.map Sum.inl ∧ ks.length < 64 ∧
  ∀ (ys : List Int) (p : Addr), ys.Perm ks → ys.Pairwise (· ≤ ·) → H p = none → Q (.ref p) (upd H p (.lst (ys.map V.int)))
theorem sort_unique : ∀ {xs ys : List Int}, xs.Perm ys → xs.Pairwise (· ≤ ·) → ys.Pairwise (· ≤ ·) → xs = ys
  | [], ys, h, _, _ => by rw [List.nil_perm.mp h]
  | x :: xs, [], h, _, _ => by have := h.length_eq; simp at this
  | x :: xs, y :: ys, h, h1, h2 => by
    rw [List.pairwise_cons] at h1 h2
    have e : x = y := by
      have a1 : x ∈ y :: ys := h.mem_iff.mp List.mem_cons_self
      have a2 : y ∈ x :: xs := h.mem_iff.mpr List.mem_cons_self
      rcases List.mem_cons.mp a1 with e | e
      · exact e
      · rcases List.mem_cons.mp a2 with e' | e'
        · exact e'.symm
        · exact Int.le_antisymm (h1.1 y e') (h2.1 x e)
    subst e
    rw [sort_unique h.cons_inv h1.2 h2.2]
theorem sort_int {xs ys : List Int} (h : ys.Perm xs) (h2 : ys.Pairwise (· ≤ ·)) : ys = xs.mergeSort fun a b => decide (a ≤ b) := by
  have p := List.pairwise_mergeSort (le := fun a b : Int => decide (a ≤ b)) (by intro a b c h1 h2; simp at h1 h2 ⊢; omega) (by intro a b; simp; omega) xs
  refine sort_unique (h.trans (List.mergeSort_perm _ _).symm) h2 (p.imp fun hab => by simpa using hab)
theorem int_keys {K : Kw} {F : Hp} {kvs : List (D × D)} {ks : List (Key × V)} (h : KvK K F kvs ks) : ∀ {is : List Int}, intKs kvs = some is → ks.map (·.1) = is.map Sum.inl ∧ is.length = kvs.length := by
  induction h with
  | nil => intro is e; simp [intKs] at e; subst e; exact ⟨rfl, rfl⟩
  | @cons p q ps qs h t ih =>
    intro is e
    obtain ⟨pk, pv⟩ := p
    cases pk with
    | int i =>
      simp only [intKs, Option.map_eq_some_iff] at e
      obtain ⟨js, e1, e2⟩ := e
      subst e2
      obtain ⟨i1, i2⟩ := ih e1
      have hk : q.1 = .inl i := by
        have r : Rp K F (.int i) (kV q.1) := h.1
        rw [Rp] at r
        cases hq : q.1 with
        | inl j => rw [hq] at r; simp only [kV] at r; cases r; rfl
        | inr z => rw [hq] at r; simp only [kV] at r; cases r
      refine ⟨by rw [List.map_cons, List.map_cons, hk, i1], by simp [i2]⟩
    | _ => simp [intKs] at e
theorem rp_ints {K : Kw} {F : Hp} : ∀ (is : List Int), RpL K F (is.map .int) (is.map V.int)
  | [] => RpL.nil
  | i :: is => RpL.cons rp_int (rp_ints is)
def rBi (K : Kw) : BI → List V → Hp → VK → Prop
  | .abs => fun xs H Q => ∃ i, xs = [.int i] ∧ Q (.int (if i < 0 then -i else i)) H
  | .len => fun xs H Q => (∃ p ys, xs = [.ref p] ∧ (SqL K H p ys ∨ SqT K H p ys) ∧ Q (.int ys.length) H) ∨ (∃ z, xs = [.str z] ∧ z.length ≤ sizeLine ∧ Q (.int z.length) H)
  | .min => fun xs H Q => ∃ i j, xs = [.int i, .int j] ∧ Q (.int (if j < i then j else i)) H
  | .sum => rSum K
  | .all => rAll K
  | .tuple => fun xs H Q => ∃ p ys, xs = [.ref p] ∧ ((SqL K H p ys ∧ ∀ l, H l = none → Q (.ref l) (upd H l (.tup ys))) ∨ (SqT K H p ys ∧ Q (.ref p) H))
  | .list => fun xs H Q => ∃ p ys, xs = [.ref p] ∧ (SqL K H p ys ∨ SqT K H p ys) ∧ ∀ l, H l = none → Q (.ref l) (upd H l (.lst ys))
  | .sorted => fun xs H Q => rSortD K xs H Q ∨ rSortI xs H Q
  | .dict => fun xs H Q => ∃ (a : Addr) (ps : List Addr) (kvs : List (Key × V)), xs = [.ref a] ∧ SqL K H a (ps.map V.ref) ∧ Paired (fun p kv => SqT K H p [kV kv.1, kv.2]) ps kvs ∧
    ∀ p, H p = none → Q (.ref p) (upd H p (.dK (mergeK [] kvs)))
  | _ => fun _ _ _ => False
theorem pairs_ok {K : Kw} {F : Hp} : ∀ {ds : List D} {vs : List V} {kvs : List (D × D)}, RpL K F ds vs → pairsD ds = some kvs → ∃ (ps : List Addr) (ks : List (Key × V)), vs = ps.map V.ref ∧ Paired (fun p kv => SqT K F p [kV kv.1, kv.2]) ps ks ∧ KvK K F kvs ks
  | [], _, _, r, e => by
    rw [RpL] at r; subst r
    simp [pairsD] at e; subst e
    exact ⟨[], [], rfl, .nil, .nil⟩
  | d :: ds, _, _, r, e => by
    rw [RpL] at r
    obtain ⟨v, t, rfl, r1, r2⟩ := r
    simp only [pairsD, Option.bind_eq_some_iff, Option.map_eq_some_iff] at e
    obtain ⟨⟨k, x⟩, e1, ps', e2, e3⟩ := e
    subst e3
    obtain ⟨ps, ks, rfl, h2, h3⟩ := pairs_ok r2 e2
    cases d with
    | tuple xs =>
      match xs, e1 with
      | [k', x'], e1 =>
        simp only [pairD] at e1
        split at e1
        · rename_i hk
          cases e1
          rw [Rp] at r1
          obtain ⟨_, a, ws, rfl, sq, rl⟩ := r1
          rw [RpL] at rl
          obtain ⟨w1, t1, rfl, q1, rl⟩ := rl
          rw [RpL] at rl
          obtain ⟨w2, t2, rfl, q2, rl⟩ := rl
          rw [RpL] at rl; subst rl
          have : ∃ kk, w1 = kV kk := by
            unfold dkOk at hk
            cases k with
            | int i => rw [Rp] at q1; exact ⟨.inl i, q1⟩
            | str z => rw [Rp] at q1; exact ⟨.inr z, q1.1⟩
            | none => simp [keyD] at hk
            | bool _ => simp [keyD] at hk
            | list _ => simp [keyD] at hk
            | dict _ => simp [keyD] at hk
            | tuple _ => simp [isTupD] at hk
          obtain ⟨kk, rfl⟩ := this
          exact ⟨a :: ps, (kk, w2) :: ks, rfl, .cons sq h2, .cons ⟨q1, q2⟩ h3⟩
        · cases e1
    | _ => simp [pairD] at e1
theorem merge_ok {K : Kw} {F : Hp} {new : List (D × D)} {ns : List (Key × V)} (h : KvK K F new ns) : ∀ {kvs : List (D × D)} {ks : List (Key × V)}, KvK K F kvs ks → KvK K F (mergeD kvs new) (mergeK ks ns) := by
  induction h with
  | nil => intro kvs ks q; exact q
  | @cons p q ps qs h t ih => intro kvs ks r; exact ih (kvk_put r h.1 h.2)
theorem merge_nd : ∀ {new kvs : List (D × D)}, (kvs.map (·.1)).Nodup → ((mergeD kvs new).map (·.1)).Nodup
  | [], _, h => h
  | p :: new, _, h => merge_nd (new := new) (dput_nodup h)
theorem merge_length : ∀ (new kvs : List (D × D)), (mergeD kvs new).length ≤ kvs.length + new.length
  | [], _ => Nat.le_refl _
  | p :: new, kvs => by
    have h1 := merge_length new (dput kvs p.1 p.2)
    have h2 := dput_length kvs p.1 p.2
    show (mergeD (dput kvs p.1 p.2) new).length ≤ _
    simp only [List.length_cons]
    omega
theorem pairs_length : ∀ {ds : List D} {kvs : List (D × D)}, pairsD ds = some kvs → kvs.length = ds.length
  | [], _, e => by simp [pairsD] at e; subst e; rfl
  | d :: ds, _, e => by
    simp only [pairsD, Option.bind_eq_some_iff, Option.map_eq_some_iff] at e
    obtain ⟨p, e1, ps', e2, e3⟩ := e
    subst e3
    simp [pairs_length e2]
theorem give_dic (s : Sat K env σ H F) (hs : ∀ a, H a = none → Hs a = none) {t : Bool} {kvs : List (D × D)} {o : HO} {p : Addr} (g : Gv K env σ H F Hs (.new (.d t kvs)) Q) (r : DicO K F p t kvs o) (n : H p = none) : Q (.ref p) (upd H p o) := by
  have gr : Grow H F (upd H p o) F := ⟨Le.new n, Le.refl F, fun a u e z => (by rw [z] at e; cases e), s.fle.trans (Le.new n)⟩
  exact g _ _ _ (s.grow gr) (gr.ext s) ⟨p, _, rfl, upd_same, s.fle.none_of n, r, s.notOwned n, hs p n⟩
theorem bi_ok (s : Sat K env σ H F) (hs : ∀ a, H a = none → Hs a = none) {f : BI} {os : List Ob} {vs : List V} {res : R} (hx : ObL K H F vs os) (h : bi f os = some res) (g : Gv K env σ H F Hs res Q) : rBi K f vs H Q := by
  unfold bi at h
  split at h
  · rename_i kvs
    split at h
    · rename_i hl
      rw [Option.map_eq_some_iff] at h
      obtain ⟨is, h1, h2⟩ := h
      subst h2
      obtain ⟨v, rfl, hv⟩ := hx.one
      obtain ⟨a, o, rfl, ho, _, _, ks, rfl, kv⟩ := hv
      obtain ⟨q1, q2⟩ := int_keys kv h1
      refine .inr ⟨a, ks, is, rfl, .inl ho, q1, by omega, fun ys p hp hs2 n => ?_⟩
      rw [sort_int hp hs2]
      refine give_lst s hs g (rp_ints _) ?_ n
      rw [List.length_map, List.length_mergeSort, q2]
      exact Nat.le_trans (Nat.le_of_lt hl) (by decide)
    · cases h
  · split at h
    · rename_i ok
      cases h
      obtain ⟨v, rfl, h1⟩ := hx.one
      obtain ⟨z, a, ws, e1, e2, e3⟩ := h1.vw.lst
      refine .inl ⟨a, ws, _, F, by rw [e1], SqL.of e2, s.fle, e3, ok, fun p zs r n => give_lst s hs g r ?_ n⟩
      unfold sortD
      rw [List.length_mergeSort]; exact z
    · cases h
  · rw [Option.map_eq_some_iff] at h
    obtain ⟨kvs, h1, h2⟩ := h
    subst h2
    obtain ⟨v, rfl, hv⟩ := hx.one
    obtain ⟨z, a, ws, e1, e2, e3⟩ := hv.vw.lst
    obtain ⟨ps, ks, rfl, p2, p3⟩ := pairs_ok e3 h1
    have sub : ∀ {ps : List Addr} {ks : List (Key × V)}, Paired (fun p (kv : Key × V) => SqT K F p [kV kv.1, kv.2]) ps ks → Paired (fun p (kv : Key × V) => SqT K H p [kV kv.1, kv.2]) ps ks := fun h => paired_imp (fun _ _ q => s.fle.tup q) h
    refine ⟨a, ps, ks, by rw [e1], SqL.of e2, sub p2, fun p n => give_dic s hs g (t := false) ⟨?_, merge_nd (by simp), _, rfl, merge_ok p3 .nil⟩ n⟩
    have := merge_length kvs []
    have := pairs_length h1
    simp only [List.length_nil] at *
    omega
  · cases h
    obtain ⟨v, rfl, h1⟩ := hx.one
    exact ⟨_, by rw [h1.vw.int], give_dat s g rp_int⟩
  · cases h
    obtain ⟨v, rfl, h1⟩ := hx.one
    obtain ⟨z, a, ws, e1, e2, e3⟩ := h1.vw.lst
    exact .inl ⟨a, ws, by rw [e1], .inl (SqL.of e2), by rw [e3.length]; exact give_dat s g rp_int⟩
  · cases h
    obtain ⟨v, rfl, h1⟩ := hx.one
    obtain ⟨z, a, ws, e1, e2, e3⟩ := h1.vw.tup
    exact .inl ⟨a, ws, by rw [e1], .inr (s.fle.tup e2), by rw [e3.length]; exact give_dat s g rp_int⟩
  · cases h
    obtain ⟨v, rfl, h1⟩ := hx.one
    obtain ⟨e1, e2⟩ := h1.vw.str
    exact .inr ⟨_, by rw [e1], e2.2, give_dat s g rp_int⟩
  · rename_i ns
    cases h
    obtain ⟨v, rfl, a, e1, e2⟩ := hx.one
    refine .inl ⟨a, _, by rw [e1], .inl (s.fle.lstq e2), ?_⟩
    rw [List.length_map]; exact give_dat s g rp_int
  · cases h
    obtain ⟨v, w, rfl, h1, h2⟩ := hx.two
    exact ⟨_, _, by rw [h1.vw.int, h2.vw.int], give_dat s g rp_int⟩
  · rw [Option.map_eq_some_iff] at h
    obtain ⟨ns, h1, h2⟩ := h
    subst h2
    obtain ⟨v, rfl, hv⟩ := hx.one
    obtain ⟨z, a, ws, e1, e2, e3⟩ := hv.vw.lst
    refine ⟨a, ns, by rw [e1], ?_, give_dat s g rp_int⟩
    rw [← e3.ints h1]; exact SqL.of e2
  · rw [Option.map_eq_some_iff] at h
    obtain ⟨ns, h1, h2⟩ := h
    subst h2
    obtain ⟨v, rfl, hv⟩ := hx.one
    obtain ⟨z, a, ws, e1, e2, e3⟩ := hv.vw.lst
    refine ⟨a, ns, by rw [e1], ?_, give_dat s g rp_bl⟩
    rw [← e3.bls h1]; exact SqL.of e2
  · cases h
    obtain ⟨v, rfl, hv⟩ := hx.one
    obtain ⟨z, a, ws, e1, e2, e3⟩ := hv.vw.lst
    exact ⟨a, ws, by rw [e1], .inl ⟨SqL.of e2, fun p n => give_tup s g e3 z n⟩⟩
  · cases h
    obtain ⟨v, rfl, hv⟩ := hx.one
    obtain ⟨z, a, ws, e1, e2, e3⟩ := hv.vw.tup
    exact ⟨a, ws, by rw [e1], .inr ⟨s.fle.tup e2, give_dat s g (by rw [Rp]; exact ⟨z, a, ws, rfl, e2, e3⟩)⟩⟩
  · cases h
    obtain ⟨v, rfl, hv⟩ := hx.one
    obtain ⟨z, a, ws, e1, e2, e3⟩ := hv.vw.lst
    exact ⟨a, ws, by rw [e1], .inl (SqL.of e2), fun p n => give_lst s hs g e3 z n⟩
  · cases h
    obtain ⟨v, rfl, hv⟩ := hx.one
    obtain ⟨z, a, ws, e1, e2, e3⟩ := hv.vw.tup
    exact ⟨a, ws, by rw [e1], .inr (s.fle.tup e2), fun p n => give_lst s hs g e3 z n⟩
  · cases h
theorem index_dic {kvs : List (D × D)} {d : D} {x y : V} {res : R} (s : Sat K env σ H F) (hx : ObOk K H F x (.k false kvs)) (hy : Vw K H F d y) (h : index (.k false kvs) d = some res) (g : Gv K env σ H F Hs res Q) : ∃ a v, x = .ref a ∧ DGet H a y (some v) ∧ Q v H := by
  simp only [index] at h
  split at h
  · rename_i hk
    rw [Option.map_eq_some_iff] at h
    obtain ⟨e, h1, h2⟩ := h
    subst h2
    obtain ⟨a, o, rfl, ho, _, _, ks, rfl, kv⟩ := hx
    obtain ⟨k, rfl, rk⟩ := key_k hk hy
    have ed := rp_kV rk
    subst ed
    rcases kvk_get kv k with ⟨q, _⟩ | ⟨d', v, q1, q2, q3⟩
    · rw [h1] at q; cases q
    · rw [h1] at q1; cases q1
      refine ⟨a, v, rfl, ?_, give_dat s g q3⟩
      rw [← q2]
      exact DGet.k ho
  · cases h
theorem in_dic {kvs : List (D × D)} {d : D} {x y : V} (hx : ObOk K H F x (.k false kvs)) (hy : Vw K H F d y) (hk : dkOk false d = true) : ∃ a o, x = .ref a ∧ DGet H a y o ∧ o.isSome = (dget kvs d).isSome := by
  obtain ⟨a, o, rfl, ho, _, _, ks, rfl, kv⟩ := hx
  obtain ⟨k, rfl, rk⟩ := key_k hk hy
  have ed := rp_kV rk
  subst ed
  refine ⟨a, valV ks k, rfl, DGet.k ho, ?_⟩
  rcases kvk_get kv k with ⟨q1, q2⟩ | ⟨d', v, q1, q2, q3⟩
  · rw [q1, q2]; rfl
  · rw [q1, q2]; rfl
end
end Lc
/-! Arguments handed to a def, and what comes back. -/
namespace Lc
open PySem L2
section
variable {K : Kw} {env env0 env1 : Env} {σ σ0 : L2.St} {H H0 H1 F F0 F1 : Hp}
/-- how the def's slots stand to the caller's values -/
inductive Link (K : Kw) (env : Env) (σ : L2.St) (H F H0 : Hp) : List Bool → List R → List V → List Slot → Prop
  | nil : Link K env σ H F H0 [] [] [] []
  | dat {d : D} {v : V} {r : R} {ms : List Bool} {rs : List R} {vs : List V} {as : List Slot} : Rp K F d v → Link K env σ H F H0 ms rs vs as → Link K env σ H F H0 (false :: ms) (r :: rs) (v :: vs) (.dat d :: as)
  | scr {ns : List Int} {a : Addr} {r : R} {ms : List Bool} {rs : List R} {vs : List V} {as : List Slot} : SqL K F a (ns.map V.int) → Link K env σ H F H0 ms rs vs as → Link K env σ H F H0 (false :: ms) (r :: rs) (.ref a :: vs) (.scr ns :: as)
  | own {i : Nat} {p : Bool} {xs : C} {v : V} {ms : List Bool} {rs : List R} {vs : List V} {as : List Slot} : env[i]? = some (.own p xs) → σ[i]? = some (some v) → (∀ r ∈ rs, r ≠ .slot i) → Link K env σ H F H0 ms rs vs as →
      Link K env σ H F H0 (true :: ms) (.slot i :: rs) (v :: vs) (.own true xs :: as)
  | new {c : C} {v : V} {ms : List Bool} {rs : List R} {vs : List V} {as : List Slot} : RepR K env σ H F H0 v (.new c) → Link K env σ H F H0 ms rs vs as →
      Link K env σ H F H0 (true :: ms) (.new c :: rs) (v :: vs) (.own true c :: as)
theorem all_ne {i : Nat} : ∀ {rs : List R}, (rs.all fun r => match r with | .slot j => i != j | _ => true) = true → ∀ r ∈ rs, r ≠ .slot i
  | [], _, r, h => nomatch h
  | q :: rs, h, r, hr => by
    rw [List.all_cons, Bool.and_eq_true] at h
    rcases List.mem_cons.mp hr with e | e
    · subst e
      intro z
      subst z
      simp at h
    · exact all_ne h.2 r e
/-- new things stand apart -/
def Apart (vs : List V) (rs : List R) : Prop := ∀ (i j : Nat) (v w : V) (r q : R) (a : Addr), vs[i]? = some v → rs[i]? = some r → vs[j]? = some w → rs[j]? = some q → NewAt v r a → NewAt w q a → i = j
theorem RepL.apart {Hs : Hp} : ∀ {vs : List V} {rs : List R}, RepL K env σ H F Hs vs rs → Apart vs rs
  | _, _, .nil => fun i j v w r q a h => by simp at h
  | _, _, .cons h1 h2 h3 => fun i j v w r q a e1 e2 e3 e4 n1 n2 => by
    cases i with
    | zero =>
      cases j with
      | zero => rfl
      | succ j =>
        simp at e1 e2
        subst e1 e2
        exact absurd n2 (h3 a j w q n1 (by simpa using e3) (by simpa using e4))
    | succ i =>
      cases j with
      | zero =>
        simp at e3 e4
        subst e3 e4
        exact absurd n1 (h3 a i v r n2 (by simpa using e1) (by simpa using e2))
      | succ j => rw [RepL.apart h2 i j v w r q a (by simpa using e1) (by simpa using e2) (by simpa using e3) (by simpa using e4) n1 n2]
/-- what pass brings about -/
structure Passed (K : Kw) (H F F1 H0 : Hp) (σ : L2.St) (env env1 : Env) (md : List Bool) (rs : List R) (vs : List V) (as : List Slot) : Prop where
  up : Le F F1
  link : Link K env1 σ H F1 H0 md rs vs as
  keep : ∀ (j : Nat), (∀ r ∈ rs, r ≠ .slot j) → env1[j]? = env[j]?
  lists : ∀ (j : Nat) (p : Bool) (c : C), env1[j]? = some (.own p c) → env[j]? = some (.own p c)
  fz : ∀ b, F b = none → F1 b ≠ none → (∃ (i : Nat) (v : V) (r : R), vs[i]? = some v ∧ rs[i]? = some r ∧ NewAt v r b) ∨ Owned env σ b
  ow : ∀ b, Owned env1 σ b → Owned env σ b
theorem pass_ok : ∀ {md : List Bool} {rs : List R} {vs : List V} {as : List Slot} {env env1 : Env} {F : Hp}, Sat K env σ H F → Ext env0 σ0 H0 F0 env σ H F → RepL K env σ H F H0 vs rs → pass md rs env = some (as, env1) →
    ∃ F1, Sat K env1 σ H F1 ∧ Ext env0 σ0 H0 F0 env1 σ H F1 ∧ Passed K H F F1 H0 σ env env1 md rs vs as := by
  intro md
  induction md with
  | nil =>
    intro rs vs as env env1 F s x h e
    cases rs with
    | nil =>
      cases h
      simp only [pass, Option.some.injEq, Prod.mk.injEq] at e
      obtain ⟨e1, e2⟩ := e
      subst e1 e2
      exact ⟨F, s, x, Le.refl F, .nil, fun _ _ => rfl, fun _ _ _ q => q, fun b n1 n2 => absurd n1 n2, fun _ q => q⟩
    | cons r rs => simp [pass] at e
  | cons m ms ih =>
    intro rs vs as env env1 F s x h e
    cases rs with
    | nil => cases m <;> simp [pass] at e
    | cons r rs =>
      cases h with
      | @cons v _ vs _ h1 h2 h3 =>
      -- a value that is frozen, then the rest
      have fz : (frz env r).bind (fun p => (pass ms rs p.2).map fun q => (Slot.dat p.1 :: q.1, q.2)) = some (as, env1) → m = false → ∃ F1, Sat K env1 σ H F1 ∧ Ext env0 σ0 H0 F0 env1 σ H F1 ∧ Passed K H F F1 H0 σ env env1 (m :: ms) (r :: rs) (v :: vs) as := by
        intro ef hm
        rw [Option.bind_eq_some_iff] at ef
        obtain ⟨⟨d, envm⟩, e1, ef⟩ := ef
        rw [Option.map_eq_some_iff] at ef
        obtain ⟨⟨as', env'⟩, e2, e3⟩ := ef
        cases e3
        rw [hm]
        obtain ⟨Fm, sm, xm, rp, up, k, ow, keep⟩ := frz_ok s x h1 e1
        obtain ⟨F1, s1, x1, p1⟩ := ih sm xm (h2.frz up k ow fun a i v r n q1 q2 => h3 a i v r n q1 q2) e2
        refine ⟨F1, s1, x1, up.trans p1.up, .dat (Rp.mono p1.up _ _ rp) p1.link, fun j hj => ?_, fun j p xs q => ?_, fun b n1 n2 => ?_, fun b q => ow b (p1.ow b q)⟩
        · rw [p1.keep j fun r' hr => hj r' (List.mem_cons_of_mem _ hr)]
          exact keep j fun i hi => fun z => hj r List.mem_cons_self (by rw [hi, z])
        · have q2 := p1.lists j p xs q
          by_cases hr : ∃ i, r = .slot i ∧ i = j
          · obtain ⟨i, hi, hij⟩ := hr
            subst hij hi
            simp only [frz] at e1
            cases w : env[i]? with
            | none => rw [w] at e1; cases e1
            | some sl =>
              rw [w] at e1
              cases sl with
              | dat d' => simp only [Option.some.injEq, Prod.mk.injEq] at e1; rw [← e1.2] at q2; rw [w] at q2; exact q2
              | own p' c =>
                cases p' with
                | true => cases e1
                | false =>
                  cases c with
                  | d t kvs => cases e1
                  | l ys =>
                  simp only [Option.some.injEq, Prod.mk.injEq] at e1
                  rw [← e1.2, get_set_same (lt_of_get w)] at q2
                  cases q2
              | no => cases e1
              | scr _ => cases e1
              | hid => cases e1
          · rw [← keep j fun i hi => fun z => hr ⟨i, hi, z⟩]; exact q2
        · by_cases hm : Fm b = none
          · rcases p1.fz b hm n2 with ⟨i, v', r', q1, q2, q3⟩ | q
            · exact .inl ⟨i + 1, v', r', by simpa using q1, by simpa using q2, q3⟩
            · exact .inr (ow b q)
          · rcases k b n1 hm with q | q
            · exact .inl ⟨0, v, r, rfl, rfl, q⟩
            · exact .inr q
      cases m with
      | false =>
        cases r with
        | slot i =>
          simp only [pass] at e
          cases q : env[i]? with
          | none => rw [q] at e; exact fz e rfl
          | some sl =>
            rw [q] at e
            cases sl with
            | scr ns =>
              simp only [Option.map_eq_some_iff] at e
              obtain ⟨⟨as', env'⟩, e2, e3⟩ := e
              simp only [Prod.mk.injEq] at e3
              obtain ⟨e3, e4⟩ := e3
              subst e3 e4
              obtain ⟨F1, s1, x1, p1⟩ := ih s x h2 e2
              have ok := s.sl i _ q
              have h1 : σ[i]? = some (some v) := h1
              rw [h1] at ok
              obtain ⟨a, ea, sq⟩ := ok
              cases ea
              refine ⟨F1, s1, x1, p1.up, .scr (p1.up.lstq sq) p1.link, fun j hj => p1.keep j fun r' hr => hj r' (List.mem_cons_of_mem _ hr), p1.lists, fun b n1 n2 => ?_, p1.ow⟩
              rcases p1.fz b n1 n2 with ⟨i, v', r', q1, q2, q3⟩ | q
              · exact .inl ⟨i + 1, v', r', by simpa using q1, by simpa using q2, q3⟩
              · exact .inr q
            | no => exact fz e rfl
            | dat _ => exact fz e rfl
            | own _ _ => exact fz e rfl
            | hid => exact fz e rfl
        | dat d => exact fz e rfl
        | new xs => exact fz e rfl
      | true =>
        cases r with
        | dat d => simp [pass] at e
        | new c =>
          simp only [pass, Option.map_eq_some_iff] at e
          obtain ⟨⟨as', env'⟩, e2, e3⟩ := e
          simp only [Prod.mk.injEq] at e3
          obtain ⟨e3, e4⟩ := e3
          subst e3 e4
          obtain ⟨F1, s1, x1, p1⟩ := ih s x h2 e2
          refine ⟨F1, s1, x1, p1.up, .new ?_ p1.link, fun j hj => p1.keep j fun r' hr => hj r' (List.mem_cons_of_mem _ hr), p1.lists, fun b n1 n2 => ?_, p1.ow⟩
          · obtain ⟨a, u, e1, e2, e3, e4, e5, e6⟩ := h1
            refine ⟨a, u, e1, e2, ?_, e4.mono p1.up, fun q => e5 (p1.ow a q), e6⟩
            cases q : F1 a with
            | none => rfl
            | some o =>
              rcases p1.fz a e3 (by rw [q]; simp) with ⟨i, v', r', q1, q2, q3⟩ | q3
              · exact absurd q3 (h3 a i v' r' ⟨rfl, e1⟩ q1 q2)
              · exact absurd q3 e5
          · rcases p1.fz b n1 n2 with ⟨i, v', r', q1, q2, q3⟩ | q
            · exact .inl ⟨i + 1, v', r', by simpa using q1, by simpa using q2, q3⟩
            · exact .inr q
        | slot i =>
          simp only [pass] at e
          cases q : env[i]? with
          | none => rw [q] at e; cases e
          | some sl =>
            rw [q] at e
            cases sl with
            | no => cases e
            | dat _ => cases e
            | scr _ => cases e
            | hid => cases e
            | own p xs =>
              simp only [Option.bind_eq_some_iff] at e
              obtain ⟨⟨as', env'⟩, e2, e3⟩ := e
              split at e3
              · rename_i hall
                simp only [Option.some.injEq, Prod.mk.injEq] at e3
                obtain ⟨e3, e4⟩ := e3
                subst e3 e4
                obtain ⟨F1, s1, x1, p1⟩ := ih s x h2 e2
                have ne := all_ne hall
                refine ⟨F1, s1, x1, p1.up, .own (by rw [p1.keep i ne]; exact q) h1 ne p1.link, fun j hj => p1.keep j fun r' hr => hj r' (List.mem_cons_of_mem _ hr), p1.lists, fun b n1 n2 => ?_, p1.ow⟩
                rcases p1.fz b n1 n2 with ⟨i, v', r', q1, q2, q3⟩ | q
                · exact .inl ⟨i + 1, v', r', by simpa using q1, by simpa using q2, q3⟩
                · exact .inr q
              · cases e3
theorem Link.length : ∀ {ms : List Bool} {rs : List R} {vs : List V} {as : List Slot}, Link K env σ H F H0 ms rs vs as → as.length = vs.length ∧ as.length = ms.length
  | _, _, _, _, .nil => ⟨rfl, rfl⟩
  | _, _, _, _, .dat _ b => by have := Link.length b; simp; omega
  | _, _, _, _, .scr _ b => by have := Link.length b; simp; omega
  | _, _, _, _, .own _ _ _ b => by have := Link.length b; simp; omega
  | _, _, _, _, .new _ b => by have := Link.length b; simp; omega
theorem Link.par : ∀ {ms : List Bool} {rs : List R} {vs : List V} {as : List Slot}, Link K env σ H F H0 ms rs vs as → ∀ t ∈ as, t.isOwn = true → t.par = true
  | _, _, _, _, .nil => fun t h => nomatch h
  | _, _, _, _, .dat _ b => fun t h o => by
    rcases List.mem_cons.mp h with e | e
    · subst e; cases o
    · exact Link.par b t e o
  | _, _, _, _, .scr _ b => fun t h o => by
    rcases List.mem_cons.mp h with e | e
    · subst e; cases o
    · exact Link.par b t e o
  | _, _, _, _, .own _ _ _ b => fun t h o => by
    rcases List.mem_cons.mp h with e | e
    · subst e; rfl
    · exact Link.par b t e o
  | _, _, _, _, .new _ b => fun t h o => by
    rcases List.mem_cons.mp h with e | e
    · subst e; rfl
    · exact Link.par b t e o
theorem Link.ok (s : Sat K env σ H F) : ∀ {ms : List Bool} {rs : List R} {vs : List V} {as : List Slot} {k : Nat} {t : Slot}, Link K env σ H F H0 ms rs vs as → as[k]? = some t → SlotOk K H F ((vs.map some)[k]?) t
  | _, _, _, _, _, _, .nil, e => by simp at e
  | _, _, _, _, 0, _, .dat a b, e => by simp at e; subst e; exact ⟨_, by simp, a⟩
  | _, _, _, _, 0, _, .scr a b, e => by simp at e; subst e; exact ⟨_, by simp, a⟩
  | _, _, _, _, 0, _, .own (i := i) a b c d, e => by
    simp at e; subst e
    obtain ⟨x, u, e1, e2, e3, e4⟩ := s.sl i _ a
    rw [b] at e1; cases e1
    exact ⟨x, u, by simp, e2, e3, e4⟩
  | _, _, _, _, 0, _, .new a b, e => by
    simp at e; subst e
    obtain ⟨x, u, e1, e2, e3, e4, _⟩ := a
    subst e1
    exact ⟨x, u, by simp, e2, e3, e4⟩
  | _, _, _, _, k + 1, _, .dat a b, e => by simpa using Link.ok s (k := k) b (by simpa using e)
  | _, _, _, _, k + 1, _, .scr a b, e => by simpa using Link.ok s (k := k) b (by simpa using e)
  | _, _, _, _, k + 1, _, .own a b c d, e => by simpa using Link.ok s (k := k) d (by simpa using e)
  | _, _, _, _, k + 1, _, .new a b, e => by simpa using Link.ok s (k := k) b (by simpa using e)
/-- what the def may change is the caller's own, or new -/
theorem Link.owns : ∀ {ms : List Bool} {rs : List R} {vs : List V} {as : List Slot} {k : Nat} {a : Addr}, Link K env σ H F H0 ms rs vs as → Owns as (vs.map some) k a →
    (∃ i p xs, ms[k]? = some true ∧ rs[k]? = some (.slot i) ∧ env[i]? = some (.own p xs) ∧ σ[i]? = some (some (.ref a)) ∧ as[k]? = some (.own true xs)) ∨ (∃ c, vs[k]? = some (.ref a) ∧ rs[k]? = some (.new c) ∧ RepR K env σ H F H0 (.ref a) (.new c))
  | _, _, _, _, _, _, .nil, ⟨e, _⟩ => by simp at e
  | _, _, _, _, 0, _, .dat a b, ⟨e, s', e2, e3⟩ => by simp at e2; subst e2; cases e3
  | _, _, _, _, 0, _, .scr a b, ⟨e, s', e2, e3⟩ => by simp at e2; subst e2; cases e3
  | _, _, _, _, 0, _, .own (i := i) (p := p) (xs := xs) a b c d, ⟨e, s', e2, e3⟩ => by
    simp at e; subst e
    exact .inl ⟨i, p, xs, rfl, rfl, a, b, rfl⟩
  | _, _, _, _, 0, _, .new (c := c) a b, ⟨e, s', e2, e3⟩ => by
    simp at e; subst e
    exact .inr ⟨c, rfl, rfl, a⟩
  | _, _, _, _, k + 1, _, .dat a b, ⟨e, s', e2, e3⟩ => by simpa using Link.owns (k := k) b ⟨by simpa using e, s', by simpa using e2, e3⟩
  | _, _, _, _, k + 1, _, .scr a b, ⟨e, s', e2, e3⟩ => by simpa using Link.owns (k := k) b ⟨by simpa using e, s', by simpa using e2, e3⟩
  | _, _, _, _, k + 1, _, .own a b c d, ⟨e, s', e2, e3⟩ => by simpa using Link.owns (k := k) d ⟨by simpa using e, s', by simpa using e2, e3⟩
  | _, _, _, _, k + 1, _, .new a b, ⟨e, s', e2, e3⟩ => by simpa using Link.owns (k := k) b ⟨by simpa using e, s', by simpa using e2, e3⟩
theorem Link.once : ∀ {ms : List Bool} {rs : List R} {vs : List V} {as : List Slot} {k l i : Nat}, Link K env σ H F H0 ms rs vs as → ms[k]? = some true → ms[l]? = some true → rs[k]? = some (.slot i) → rs[l]? = some (.slot i) → k = l
  | _, _, _, _, _, _, _, .nil, e, _, _, _ => by simp at e
  | _, _, _, _, 0, 0, _, _, _, _, _, _ => rfl
  | _, _, _, _, 0, l + 1, _, .dat a b, e, _, _, _ => by simp at e
  | _, _, _, _, 0, l + 1, _, .scr a b, e, _, _, _ => by simp at e
  | _, _, _, _, 0, l + 1, _, .own a b c d, e1, e2, e3, e4 => by
    simp at e3 e4
    subst e3
    exact absurd rfl (c _ (List.mem_of_getElem? e4))
  | _, _, _, _, 0, l + 1, _, .new a b, _, _, e, _ => by simp at e
  | _, _, _, _, k + 1, 0, _, .dat a b, _, e, _, _ => by simp at e
  | _, _, _, _, k + 1, 0, _, .scr a b, _, e, _, _ => by simp at e
  | _, _, _, _, k + 1, 0, _, .own a b c d, e1, e2, e3, e4 => by
    simp at e3 e4
    subst e4
    exact absurd rfl (c _ (List.mem_of_getElem? e3))
  | _, _, _, _, k + 1, 0, _, .new a b, _, _, _, e => by simp at e
  | _, _, _, _, k + 1, l + 1, _, .dat a b, e1, e2, e3, e4 => by simpa using Link.once (k := k) (l := l) b (by simpa using e1) (by simpa using e2) (by simpa using e3) (by simpa using e4)
  | _, _, _, _, k + 1, l + 1, _, .scr a b, e1, e2, e3, e4 => by simpa using Link.once (k := k) (l := l) b (by simpa using e1) (by simpa using e2) (by simpa using e3) (by simpa using e4)
  | _, _, _, _, k + 1, l + 1, _, .own a b c d, e1, e2, e3, e4 => by simpa using Link.once (k := k) (l := l) d (by simpa using e1) (by simpa using e2) (by simpa using e3) (by simpa using e4)
  | _, _, _, _, k + 1, l + 1, _, .new a b, e1, e2, e3, e4 => by simpa using Link.once (k := k) (l := l) b (by simpa using e1) (by simpa using e2) (by simpa using e3) (by simpa using e4)
theorem Link.sat (s : Sat K env σ H F) {ms : List Bool} {rs : List R} {vs : List V} {as : List Slot} (ap : Apart vs rs) (l : Link K env σ H F H0 ms rs vs as) : Sat K as (vs.map some) H F := by
  refine ⟨s.fle, by simpa using l.length.1, fun k t e => l.ok s e, fun k k' a h1 h2 => ?_⟩
  rcases l.owns h1 with ⟨i, p, xs, a1, a2, a3, a4, _⟩ | ⟨c, a1, a2, a3⟩
  · rcases l.owns h2 with ⟨j, p', xs', b1, b2, b3, b4, _⟩ | ⟨c', b1, b2, b3⟩
    · have : i = j := s.inj i j a ⟨a4, _, a3, rfl⟩ ⟨b4, _, b3, rfl⟩
      subst this
      exact l.once a1 b1 a2 b2
    · obtain ⟨x, u, e1, e2, e3, e4, e5, e6⟩ := b3
      cases e1
      exact absurd ⟨i, a4, _, a3, rfl⟩ e5
  · rcases l.owns h2 with ⟨j, p', xs', b1, b2, b3, b4, _⟩ | ⟨c', b1, b2, b3⟩
    · obtain ⟨x, u, e1, e2, e3, e4, e5, e6⟩ := a3
      cases e1
      exact absurd ⟨j, b4, _, b3, rfl⟩ e5
    · exact ap k k' _ _ _ _ a a1 a2 b1 b2 ⟨rfl, rfl⟩ ⟨rfl, rfl⟩
/-- where the caller's slots stand behind the call -/
theorem back_keep : ∀ {ms : List Bool} {rs : List R} {os : List Slot} {env : Env} {j : Nat}, (∀ (k : Nat), ms[k]? = some true → rs[k]? ≠ some (.slot j)) → (back ms rs os env)[j]? = env[j]? := by
  intro ms
  induction ms with
  | nil => intro rs os env j _; cases rs <;> cases os <;> rfl
  | cons m ms ih =>
    intro rs os env j h
    cases rs with
    | nil => cases m <;> cases os <;> rfl
    | cons r rs =>
      cases os with
      | nil => cases m <;> cases r <;> rfl
      | cons o os =>
        have h' : ∀ (k : Nat), ms[k]? = some true → rs[k]? ≠ some (.slot j) := fun k hk => by simpa using h (k + 1) (by simpa using hk)
        cases m with
        | false => rw [show back (false :: ms) (r :: rs) (o :: os) env = back ms rs os env by cases r <;> rfl]; exact ih h'
        | true =>
          cases r with
          | dat d => exact ih h'
          | new d => exact ih h'
          | slot i =>
            have hij : i ≠ j := fun e => by
              subst e
              exact h 0 rfl rfl
            simp only [back]
            split
            · rw [ih h', get_set_ne hij]
            · exact ih h'
theorem back_at : ∀ {ms : List Bool} {rs : List R} {os : List Slot} {env : Env} {k i : Nat} {p q : Bool} {xs ys : C}, (∀ (l : Nat), ms[l]? = some true → rs[l]? = some (.slot i) → l = k) → ms[k]? = some true → rs[k]? = some (.slot i) → os[k]? = some (.own q ys) → env[i]? = some (.own p xs) →
    (back ms rs os env)[i]? = some (.own p ys) := by
  intro ms
  induction ms with
  | nil => intro rs os env k i p q xs ys _ h; simp at h
  | cons m ms ih =>
    intro rs os env k i p q xs ys u h1 h2 h3 h4
    cases rs with
    | nil => simp at h2
    | cons r rs =>
      cases os with
      | nil => simp at h3
      | cons o os =>
        cases k with
        | zero =>
          simp at h1 h2 h3
          subst h1 h2 h3
          simp only [back, h4]
          rw [back_keep fun l hl hr => by have := u (l + 1) (by simpa using hl) (by simpa using hr); omega, get_set_same (lt_of_get h4)]
        | succ k =>
          have u' : ∀ (l : Nat), ms[l]? = some true → rs[l]? = some (.slot i) → l = k := fun l a b => by have := u (l + 1) (by simpa using a) (by simpa using b); omega
          have g1 : ms[k]? = some true := by simpa using h1
          have g2 : rs[k]? = some (.slot i) := by simpa using h2
          have g3 : os[k]? = some (.own q ys) := by simpa using h3
          cases m with
          | false => rw [show back (false :: ms) (r :: rs) (o :: os) env = back ms rs os env by cases r <;> rfl]; exact ih u' g1 g2 g3 h4
          | true =>
            cases r with
            | dat d => exact ih u' g1 g2 g3 h4
            | new d => exact ih u' g1 g2 g3 h4
            | slot j =>
              have hij : j ≠ i := fun e => by
                subst e
                have := u 0 rfl rfl
                omega
              simp only [back]
              split
              · exact ih u' g1 g2 g3 (by rw [get_set_ne hij]; exact h4)
              · exact ih u' g1 g2 g3 h4
theorem back_length : ∀ {ms : List Bool} {rs : List R} {os : List Slot} {env : Env}, (back ms rs os env).length = env.length := by
  intro ms
  induction ms with
  | nil => intro rs os env; cases rs <;> cases os <;> rfl
  | cons m ms ih =>
    intro rs os env
    cases rs with
    | nil => cases m <;> cases os <;> rfl
    | cons r rs =>
      cases os with
      | nil => cases m <;> cases r <;> rfl
      | cons o os =>
        cases m with
        | false => rw [show back (false :: ms) (r :: rs) (o :: os) env = back ms rs os env by cases r <;> rfl]; exact ih
        | true =>
          cases r with
          | dat d => exact ih
          | new d => exact ih
          | slot i =>
            simp only [back]
            split
            · rw [ih, List.length_set]
            · exact ih
/-- the caller behind the call -/
theorem back_ok {ms : List Bool} {rs : List R} {vs : List V} {as os : List Slot} (s : Sat K env σ H F) (x : Ext env0 σ0 H0 F0 env σ H F) (l : Link K env σ H F H0 ms rs vs as)
    (s1 : Sat K os (vs.map some) H1 F1) (x1 : Ext as (vs.map some) H F os (vs.map some) H1 F1) : Sat K (back ms rs os env) σ H1 F1 ∧ Ext env0 σ0 H0 F0 (back ms rs os env) σ H1 F1 ∧ ∀ a, Owned (back ms rs os env) σ a → Owned env σ a := by
  have own : ∀ a, Owned as (vs.map some) a → Owned env σ a ∨ (H0 a = none ∧ ¬ Owned env σ a) := fun a ⟨k, h⟩ => by
    rcases l.owns h with ⟨i, p, xs, _, _, a3, a4, _⟩ | ⟨c, _, _, x, u, e1, e2, e3, e4, e5, e6⟩
    · exact .inl ⟨i, a4, _, a3, rfl⟩
    · cases e1; exact .inr ⟨e6, e5⟩
  -- a slot is handed over, or it is not
  have two : ∀ (j : Nat) (p : Bool) (xs : C), env[j]? = some (.own p xs) → (∃ a ys u, σ[j]? = some (some (.ref a)) ∧ (back ms rs os env)[j]? = some (.own p ys) ∧ H1 a = some u ∧ F1 a = none ∧ Cnt K F1 a ys u) := by
    intro j p xs hj
    obtain ⟨a, u, e1, e2, e3, e4⟩ := s.sl j _ hj
    by_cases hk : ∃ k : Nat, ms[k]? = some true ∧ rs[k]? = some (R.slot j)
    · obtain ⟨k, k1, k2⟩ := hk
      have hl := l.length
      have hlt : k < as.length := by rw [hl.2]; exact lt_of_get k1
      -- the def's slot
      have hv : ∃ v, vs[k]? = some v := by
        have : k < vs.length := by rw [← hl.1]; exact hlt
        exact ⟨vs[k], by simp⟩
      obtain ⟨v, hv⟩ := hv
      have key : ∀ {ms : List Bool} {rs : List R} {vs : List V} {as : List Slot} {k : Nat} {v : V}, Link K env σ H F H0 ms rs vs as → ms[k]? = some true → rs[k]? = some (.slot j) → vs[k]? = some v → as[k]? = some (.own true xs) ∧ σ[j]? = some (some v) := by
        intro ms rs vs as k v l
        induction l generalizing k with
        | nil => intro e; simp at e
        | dat _ _ ih => intro e1 e2 e3; cases k with
          | zero => simp at e1
          | succ k => simpa using ih (k := k) (by simpa using e1) (by simpa using e2) (by simpa using e3)
        | scr _ _ ih => intro e1 e2 e3; cases k with
          | zero => simp at e1
          | succ k => simpa using ih (k := k) (by simpa using e1) (by simpa using e2) (by simpa using e3)
        | own a b c d ih => intro e1 e2 e3; cases k with
          | zero =>
            simp at e2 e3
            subst e2 e3
            rw [hj] at a; cases a
            exact ⟨rfl, b⟩
          | succ k => simpa using ih (k := k) (by simpa using e1) (by simpa using e2) (by simpa using e3)
        | new _ _ ih => intro e1 e2 e3; cases k with
          | zero => simp at e2
          | succ k => simpa using ih (k := k) (by simpa using e1) (by simpa using e2) (by simpa using e3)
      obtain ⟨hk1, hk2⟩ := key l k1 k2 hv
      obtain ⟨t, t1, t2, t3, t4⟩ := x1.pr k _ hk1 rfl
      cases t with
      | no => cases t3
      | dat _ => cases t3
      | scr _ => cases t3
      | hid => cases t3
      | own q ys =>
        obtain ⟨b, us, f1, f2, f3, f4⟩ := s1.sl k _ t1
        have : b = a := by
          rw [List.getElem?_map, hv] at f1
          rw [hk2] at e1
          simp at f1 e1
          rw [f1] at e1
          simpa using e1
        subst this
        exact ⟨b, ys, us, e1, back_at (fun l' a' b' => l.once a' k1 b' k2) k1 k2 t1 hj, f2, f3, f4⟩
    · have hb : (back ms rs os env)[j]? = env[j]? := back_keep fun k k1 k2 => hk ⟨k, k1, k2⟩
      have no : ¬ Owned as (vs.map some) a := fun ⟨k, h⟩ => by
        rcases l.owns h with ⟨i, p', xs', a1, a2, a3, a4, _⟩ | ⟨c, _, _, x, u, g1, g2, g3, g4, g5, g6⟩
        · have : i = j := s.inj i j a ⟨a4, _, a3, rfl⟩ ⟨e1, _, hj, rfl⟩
          subst this
          exact hk ⟨k, a1, a2⟩
        · cases g1
          exact g5 ⟨j, e1, _, hj, rfl⟩
      refine ⟨a, xs, u, e1, by rw [hb]; exact hj, x1.h a _ e2 no, ?_, e4.mono x1.f⟩
      cases q : F1 a with
      | none => rfl
      | some o =>
        rcases x1.fn a o q e3 with w | w
        · rw [w] at e2; cases e2
        · exact absurd w no
  have same : ∀ (j : Nat), (∀ p xs, env[j]? ≠ some (.own p xs)) → (back ms rs os env)[j]? = env[j]? := fun j hj => back_keep fun k k1 k2 => by
    have hv : ∃ v, vs[k]? = some v := by
      have : k < vs.length := by rw [← l.length.1, l.length.2]; exact lt_of_get k1
      exact ⟨vs[k], by simp⟩
    obtain ⟨v, hv⟩ := hv
    have key : ∀ {ms : List Bool} {rs : List R} {vs : List V} {as : List Slot} {k : Nat}, Link K env σ H F H0 ms rs vs as → ms[k]? = some true → rs[k]? = some (.slot j) → ∃ p xs, env[j]? = some (.own p xs) := by
      intro ms rs vs as k l
      induction l generalizing k with
      | nil => intro e; simp at e
      | dat _ _ ih => intro e1 e2; cases k with
        | zero => simp at e1
        | succ k => exact ih (k := k) (by simpa using e1) (by simpa using e2)
      | scr _ _ ih => intro e1 e2; cases k with
        | zero => simp at e1
        | succ k => exact ih (k := k) (by simpa using e1) (by simpa using e2)
      | own a b c d ih => intro e1 e2; cases k with
        | zero => simp at e2; subst e2; exact ⟨_, _, a⟩
        | succ k => exact ih (k := k) (by simpa using e1) (by simpa using e2)
      | new _ _ ih => intro e1 e2; cases k with
        | zero => simp at e2
        | succ k => exact ih (k := k) (by simpa using e1) (by simpa using e2)
    obtain ⟨p, xs, h⟩ := key l k1 k2
    exact hj p xs h
  have owb : ∀ j a, Owns (back ms rs os env) σ j a → Owns env σ j a := fun j a ⟨h1, t, h2, h3⟩ => by
    by_cases hj : ∃ p xs, env[j]? = some (.own p xs)
    · obtain ⟨p, xs, hj⟩ := hj
      exact ⟨h1, _, hj, rfl⟩
    · rw [same j fun p xs h => hj ⟨p, xs, h⟩] at h2
      exact ⟨h1, t, h2, h3⟩
  refine ⟨⟨s1.fle, by rw [back_length]; exact s.len, fun j t h => ?_, fun i j a h1 h2 => s.inj i j a (owb i a h1) (owb j a h2)⟩, ⟨x.f.trans x1.f, fun a o h n => ?_, fun a o h n => ?_, fun a h => x1.dm a (x.dm a h), fun a ⟨j, h⟩ => x.ow a ⟨j, owb j a h⟩, fun j t h p => ?_⟩, fun a ⟨j, h⟩ => ⟨j, owb j a h⟩⟩
  · by_cases hj : ∃ p xs, env[j]? = some (.own p xs)
    · obtain ⟨p, xs, hj⟩ := hj
      obtain ⟨a, ys, u, e1, e2, e4, e5, e6⟩ := two j p xs hj
      rw [e2] at h; cases h
      exact ⟨a, u, e1, e4, e5, e6⟩
    · rw [same j fun p xs h => hj ⟨p, xs, h⟩] at h
      have ok := s.sl j t h
      cases t with
      | no => trivial
      | hid => trivial
      | dat d => obtain ⟨v, e, r⟩ := ok; exact ⟨v, e, Rp.mono x1.f _ _ r⟩
      | scr ns => obtain ⟨a, e, r⟩ := ok; exact ⟨a, e, x1.f.lstq r⟩
      | own p xs => exact absurd ⟨p, xs, h⟩ hj
  · by_cases hf : F a = none
    · rcases x1.fn a o h hf with w | w
      · exact .inl (x.dmn a w)
      · rcases own a w with w | w
        · rcases x.ow a w with z | z
          · exact .inr z
          · exact .inl z
        · exact .inl w.1
    · obtain ⟨o1, e⟩ := Option.ne_none_iff_exists'.mp hf
      exact x.fn a o1 e n
  · refine x1.h a o (x.h a o h n) fun w => ?_
    rcases own a w with w | w
    · rcases x.ow a w with z | z
      · exact n z
      · rw [z] at h; cases h
    · rw [w.1] at h; cases h
  · obtain ⟨t', h1, h2, h3, h4⟩ := x.pr j t h p
    by_cases hj : ∃ p xs, env[j]? = some (.own p xs)
    · obtain ⟨q, xs, hj⟩ := hj
      obtain ⟨a, ys, u, e1, e2, _⟩ := two j q xs hj
      rw [hj] at h1; cases h1
      exact ⟨_, e2, by cases q <;> first | exact h2 | rfl, h3, h4⟩
    · exact ⟨t', by rw [same j fun p xs h => hj ⟨p, xs, h⟩]; exact h1, h2, h3, h4⟩
/-- a def's promise, by what it gives -/
def spOf (K : Kw) (fs : FS) : Sp := fun vs H Q _ => ∃ F as r os, Sat K as (vs.map some) H F ∧ as.length = fs.md.length ∧ (∀ t ∈ as, t.isOwn = true → t.par = true) ∧ fs.fn as = some (r, os) ∧
  ∀ v H' F', Sat K os (vs.map some) H' F' → Ext as (vs.map some) H F os (vs.map some) H' F' → RepR K os (vs.map some) H' F' H v r → Q v H'
end
end Lc
/-! Does a text say what the evaluator's own syntax says? -/
namespace Lc
open PySem L2
def visB (sc : Scope) (x : Str) : Bool := match sc.names.lookup x with
  | some .local => true
  | some .cell => true
  | some .free => true
  | _ => false
def locB (sc : Scope) (x : Str) : Bool := match sc.names.lookup x with
  | some .local => true
  | some .cell => true
  | _ => false
def gloB (sc : Scope) (x : Str) : Bool := match sc.names.lookup x with
  | some .globalImplicit => true
  | _ => false
def nameOk (x : Str) : Bool := !(x == ("__debug__" : Str)) && !(x == ("__classdict__" : Str))
def ckC (d : D) (c : Const) : Bool := match d, c with
  | .none, .none => true
  | .bool b, .bool b' => b == b'
  | .int i, .int j => decide (i = j)
  | .str x, .str y => decide (x = y) && PyData.strOk x && decide (x.length ≤ sizeLine)
  | _, _ => false
def tyOk (t : String) : Bool := decide (t ∈ ["int", "bool", "str", "tuple", "list"])
def ckTy (t : String) (e : Expr) (sc : Scope) : Bool := match e with
  | .Name x _ => decide (x = Str.ofString t) && gloB sc x && tyOk t
  | _ => false
def ckTys : List String → List Expr → Scope → Bool
  | [], [], _ => true
  | t :: ts, e :: es, sc => ckTy t e sc && ckTys ts es sc
  | _, _, _ => false
section
variable (N : List Str)
/-- a name that is stored to (fn: names whose cells are this block's) -/
def ckN (i : Nat) (e : Expr) (sc : Scope) (blk : Bool) : Bool := match e with
  | .Name x _ => decide (N[i]? = some x) && (if blk then (match sc.names.lookup x with | some .local => true | _ => false) else locB sc x)
  | _ => false
def ckNs : List Nat → List Expr → Scope → Bool → Bool
  | [], [], _, _ => true
  | i :: is, e :: es, sc, b => ckN N i e sc b && ckNs is es sc b
  | _, _, _, _ => false
def ckTg (t : Tg) (e : Expr) (sc : Scope) (b : Bool) : Bool := match t, e with
  | .nm i, e => ckN N i e sc b
  | .tp is, .Tuple es _ _ => ckNs N is es sc b
  | .pp i j k l, .Tuple [.Tuple es _ _, .Tuple fs _ _] _ _ => ckNs N [i, j] es sc b && ckNs N [k, l] fs sc b
  | .np i k l, .Tuple [e0, .Tuple fs _ _] _ _ => ckN N i e0 sc b && ckNs N [k, l] fs sc b
  | _, _ => false
def isTupE (e : Expr) : Bool := match e with
  | .Tuple _ _ _ => true
  | _ => false
mutual
def ckE : E → Expr → Scope → Bool
  | .var i, e, sc => (match e with
    | .Name x _ => decide (N[i]? = some x) && visB sc x && nameOk x
    | _ => false)
  | .cst d, e, sc => (match e with
    | .Constant c _ _ => ckC d c
    | _ => false)
  | .glo y, e, sc => (match e with
    | .Name x _ => decide (x = y) && gloB sc x && nameOk x
    | _ => false)
  | .bin op a b, e, sc => (match e with
    | .BinOp a' op' b' _ => decide (op = op') && ckE a a' sc && ckE b b' sc
    | _ => false)
  | .neg a, e, sc => (match e with
    | .UnaryOp .USub a' _ => ckE a a' sc
    | _ => false)
  | .not_ a, e, sc => (match e with
    | .UnaryOp .Not a' _ => ckE a a' sc
    | _ => false)
  | .cmp op a b, e, sc => (match e with
    | .Compare a' [op'] [b'] _ => decide (op = op') && ckE a a' sc && ckE b b' sc
    | _ => false)
  | .chain o1 o2 a b c, e, sc => (match e with
    | .Compare a' [p1, p2] [b', c'] _ => decide (o1 = p1) && decide (o2 = p2) && ckE a a' sc && ckE b b' sc && ckE c c' sc
    | _ => false)
  | .and_ es, e, sc => (match e with
    | .BoolOp .And es' _ => ckL es es' sc
    | _ => false)
  | .or_ es, e, sc => (match e with
    | .BoolOp .Or es' _ => ckL es es' sc
    | _ => false)
  | .ite c a b, e, sc => (match e with
    | .IfExp c' a' b' _ => ckT c c' sc && ckE a a' sc && ckE b b' sc
    | _ => false)
  | .tup es, e, sc => (match e with
    | .Tuple es' _ _ => ckL es es' sc
    | _ => false)
  | .lst es, e, sc => (match e with
    | .List es' _ => ckL es es' sc
    | _ => false)
  | .idx a b, e, sc => (match e with
    | .Subscript a' b' _ => ckE a a' sc && ckE b b' sc
    | _ => false)
  | .sl a lo hi, e, sc => (match e with
    | .Subscript a' (.Slice lo' hi' none _) _ => ckE a a' sc && ckO lo lo' sc && ckO hi hi' sc
    | _ => false)
  | .rev a, e, sc => (match e with
    | .Subscript a' (.Slice none none (some (.UnaryOp .USub (.Constant (.int 1) _ _) _)) _) _ => ckE a a' sc
    | _ => false)
  | .call f es, e, sc => (match e with
    | .Call (.Name x _) (a :: as) [] _ => decide (x = f) && gloB sc x && nameOk x && ckL es (a :: as) sc
    | _ => false)
  | .blt f es, e, sc => (match e with
    | .Call (.Name x _) (a :: as) [] _ => decide (x = biName f) && gloB sc x && ckL es (a :: as) sc
    | _ => false)
  | .isi a tys, e, sc => (match e with
    | .Call (.Name _ _) [_, .Tuple _ _ _] [] _ => false
    | .Call (.Name x _) [a', t] [] _ => decide (x = ("isinstance" : Str)) && gloB sc x && ckE a a' sc && (match tys with
      | [ty] => ckTy ty t sc
      | _ => false)
    | _ => false)
  | .lc elt tg src cond vs, e, sc => (match e with
    | .ListComp elt' [⟨tg', iter', ifs', 0⟩] scope _ => blkC N sc scope (vs.map fun i => (N.getD i Str.empty, i)) && ((tgSlots tg).all fun i => vs.contains i) && ckSrc src tg' iter' sc && ckTg N tg tg' (relS scope sc) true && ckI cond ifs' (relS scope sc) && ckE elt elt' (relS scope sc)
    | _ => false)
  | .lc2 elt tg src tg1 d1 vs vs1, e, sc => (match e with
    | .ListComp elt' [⟨tg', iter', [], 0⟩, ⟨tg1', iter1', [], 0⟩] scope _ => blkC N sc scope (vs.map fun i => (N.getD i Str.empty, i)) && ((tgSlots tg).all fun i => vs.contains i) && ((tgSlots tg1).all fun i => vs1.contains i) && ckSrc src tg' iter' sc && ckTg N tg tg' (relS scope sc) true && (vs1.all fun i => vs.contains i) && ckE d1 iter1' (relS scope sc) && ckTg N tg1 tg1' (relS scope sc) true && ckE elt elt' (relS scope sc)
    | _ => false)
  | .dc key val tg src vs, e, sc => (match e with
    | .DictComp key' val' [⟨tg', iter', [], 0⟩] scope _ => blkC N sc scope (vs.map fun i => (N.getD i Str.empty, i)) && ((tgSlots tg).all fun i => vs.contains i) && ckSrc src tg' iter' sc && ckTg N tg tg' (relS scope sc) true && ckE key key' (relS scope sc) && ckE val val' (relS scope sc)
    | _ => false)
  | .dnew, e, _ => (match e with
    | .Dict [] [] _ => true
    | _ => false)
  | .getD d k x, e, sc => (match e with
    | .Call (.Attribute (.Name y p) m apos) [k', x'] [] cpos => decide (m = ("get" : Str)) && ckE d (.Name y p) sc && ckE k k' sc && ckE x x' sc && (apos.endLine == cpos.line)
    | _ => false)
  | .lzip a b, e, sc => (match e with
    | .Call (.Name x _) [.Call (.Name y _) [a', b'] [] _] [] _ => decide (x = ("list" : Str)) && gloB sc x && decide (y = ("zip" : Str)) && gloB sc y && ckE a a' sc && ckE b b' sc
    | _ => false)
def ckT : E → Expr → Scope → Bool
  | .not_ a, e, sc => (match e with
    | .UnaryOp .Not a' _ => ckT a a' sc
    | _ => false)
  | .and_ es, e, sc => (match e with
    | .BoolOp .And es' _ => ckTL es es' sc
    | _ => false)
  | .or_ es, e, sc => (match e with
    | .BoolOp .Or es' _ => ckTL es es' sc
    | _ => false)
  | .ite _ _ _, _, _ => false
  | .cmp op a b, e, sc => (match e with
    | .Compare a' [op'] [b'] _ => decide (op = op') && ckE a a' sc && ckE b b' sc
    | _ => false)
  | .chain o1 o2 a b c, e, sc => (match e with
    | .Compare a' [p1, p2] [b', c'] _ => decide (o1 = p1) && decide (o2 = p2) && ckE a a' sc && ckE b b' sc && ckE c c' sc
    | _ => false)
  | .var i, e, sc => (match e with
    | .Name x _ => decide (N[i]? = some x) && visB sc x && nameOk x
    | _ => false)
  | .call f es, e, sc => (match e with
    | .Call (.Name x _) (a :: as) [] _ => decide (x = f) && gloB sc x && nameOk x && ckL es (a :: as) sc
    | _ => false)
  | .blt f es, e, sc => (match e with
    | .Call (.Name x _) (a :: as) [] _ => decide (x = biName f) && gloB sc x && ckL es (a :: as) sc
    | _ => false)
  | .isi a tys, e, sc => (match e with
    | .Call (.Name _ _) [_, .Tuple _ _ _] [] _ => false
    | .Call (.Name x _) [a', t] [] _ => decide (x = ("isinstance" : Str)) && gloB sc x && ckE a a' sc && (match tys with
      | [ty] => ckTy ty t sc
      | _ => false)
    | _ => false)
  | .idx a b, e, sc => (match e with
    | .Subscript a' b' _ => ckE a a' sc && ckE b b' sc
    | _ => false)
  | _, _, _ => false
def ckL : EL → List Expr → Scope → Bool
  | .nil, es, _ => (match es with
    | [] => true
    | _ => false)
  | .cons a r, es, sc => (match es with
    | a' :: r' => ckE a a' sc && ckL r r' sc
    | _ => false)
def ckTL : EL → List Expr → Scope → Bool
  | .nil, es, _ => (match es with
    | [] => true
    | _ => false)
  | .cons a r, es, sc => (match es with
    | a' :: r' => ckT a a' sc && ckTL r r' sc
    | _ => false)
def ckO : EO → Option Expr → Scope → Bool
  | .no, o, _ => (match o with
    | none => true
    | _ => false)
  | .so a, o, sc => (match o with
    | some a' => ckE a a' sc
    | _ => false)
def ckI : EO → List Expr → Scope → Bool
  | .no, es, _ => (match es with
    | [] => true
    | _ => false)
  | .so a, es, sc => (match es with
    | [a'] => ckT a a' sc
    | _ => false)
def ckSrc : Src → Expr → Expr → Scope → Bool
  | .seq a, _, e, sc => ckE a e sc
  | .rng a, _, e, sc => (match e with
    | .Call (.Name x _) [a'] [] _ => decide (x = ("range" : Str)) && gloB sc x && ckE a a' sc
    | _ => false)
  | .enum a, tg, e, sc => (match e with
    | .Call (.Name x _) [a'] [] _ => decide (x = ("enumerate" : Str)) && gloB sc x && ckE a a' sc && isTupE tg
    | _ => false)
  | .zip a b, tg, e, sc => (match e with
    | .Call (.Name x _) [a', b'] [] _ => decide (x = ("zip" : Str)) && gloB sc x && ckE a a' sc && ckE b b' sc && isTupE tg
    | _ => false)
end
end
end Lc
/-! The evaluator's expressions are the machine's. -/
namespace Lc
open PySem L2

/-- the names of built-ins that are used -/
def bNames : List Str := ["abs", "len", "min", "sum", "all", "tuple", "list", "str", "set", "sorted", "isinstance", "range", "enumerate", "zip", "int", "bool", "dict"]
/-- what is known of the context -/
structure Cok (T : Tab) (N : List Str) (X : Cx) : Prop where
  calm : X.calm = true
  hN : X.N = N
  nd : N.Nodup
  xe : X.xe = fun _ _ => False
  room : Room 0 X.A
  fns : ∀ x fs, T.fns x = some fs → ∃ (f : Addr) (fd : FuncData) (ps : List Str) (k : Nat), X.mg x = some (.ref f) ∧ PySem.W.keepIn X.kw (.ref f) = true ∧ Binds X.kw fd ps [] ∧ Room k X.A ∧ ps.length = fs.md.length ∧ FnOk X.prog X.w X.kw X.mg X.base CX0 k f fd ps (spOf X.kw fs)
  cs : ∀ x d, T.cs x = some d → ∃ (v : V) (u : Value), X.mg x = some u ∧ RelV v u ∧ ∀ F, Rp X.kw F d v
  blt : ∀ x ∈ bNames, X.mg x = none
theorem Cok.blk {T : Tab} {N : List Str} {X : Cx} (c : Cok T N X) (s : Shared) (H : Hp) (scope : Scope) (cenv : PySem.Env) (fp : List Addr) : Cok T N (X.blk s H scope cenv fp) :=
  ⟨c.calm, c.hN, c.nd, rfl, c.room, c.fns, c.cs, c.blt⟩

section
variable (T : Tab) (K : Kw)
def tEv (e : E) : TE := fun σ H Q => ∃ env F r env', Sat K env σ H F ∧ ev T e env = some (r, env') ∧ ∀ v H' F', Sat K env' σ H' F' → Ext env σ H F env' σ H' F' → RepR K env' σ H' F' H v r → Q v H'
def tEvT (e : E) : TT := fun σ H Q => ∃ env F r env' b, Sat K env σ H F ∧ ev T e env = some (r, env') ∧ truth (look env' r) = some b ∧ ∀ H' F', Sat K env' σ H' F' → Ext env σ H F env' σ H' F' → Q b H'
def tEvL (es : EL) : TA := fun σ H Q => ∃ env F rs env', Sat K env σ H F ∧ evL T es env = some (rs, env') ∧ ∀ vs H' F', Sat K env' σ H' F' → Ext env σ H F env' σ H' F' → RepL K env' σ H' F' H vs rs → Q vs H'
def tEvA (es : EL) : TE := fun σ H Q => ∃ env F b env', Sat K env σ H F ∧ evAnd T es env = some (b, env') ∧ ∀ H' F', Sat K env' σ H' F' → Ext env σ H F env' σ H' F' → Q (.bl b) H'
def tEvB (es : EL) : TE := fun σ H Q => ∃ env F b env', Sat K env σ H F ∧ evOr T es env = some (b, env') ∧ ∀ H' F', Sat K env' σ H' F' → Ext env σ H F env' σ H' F' → Q (.bl b) H'
def tEvAT (es : EL) : TT := fun σ H Q => ∃ env F b env', Sat K env σ H F ∧ evAnd T es env = some (b, env') ∧ ∀ H' F', Sat K env' σ H' F' → Ext env σ H F env' σ H' F' → Q b H'
def tEvBT (es : EL) : TT := fun σ H Q => ∃ env F b env', Sat K env σ H F ∧ evOr T es env = some (b, env') ∧ ∀ H' F', Sat K env' σ H' F' → Ext env σ H F env' σ H' F' → Q b H'
def tEvO (o : EO) : TO := fun σ H Q => ∃ env F i env', Sat K env σ H F ∧ evO T o env = some (i, env') ∧ ∀ H' F', Sat K env' σ H' F' → Ext env σ H F env' σ H' F' → Q i H'
def tEvC (o : EO) : TT := fun σ H Q => ∃ env F b env', Sat K env σ H F ∧ evC T o env = some (b, env') ∧ ∀ H' F', Sat K env' σ H' F' → Ext env σ H F env' σ H' F' → Q b H'
end
section
variable {X : Cx} {e : Expr} {T : Tab} {N : List Str}
theorem PE.weak {t t' : TE} (h : PE X e t) (k : ∀ σ H Q, t' σ H Q → t σ H Q) : PE X e t' := ⟨fun pins s σ H Q I w => h.run pins s σ H Q I (k σ H Q w)⟩
theorem PE.or {t t' : TE} (h : PE X e t) (h' : PE X e t') : PE X e (fun σ H Q => t σ H Q ∨ t' σ H Q) := ⟨fun pins s σ H Q I w => w.elim (h.run pins s σ H Q I) (h'.run pins s σ H Q I)⟩
theorem PT.or {t t' : TT} (h : PT X e t) (h' : PT X e t') : PT X e (fun σ H Q => t σ H Q ∨ t' σ H Q) := ⟨fun pins s σ H Q I w => w.elim (h.run pins s σ H Q I) (h'.run pins s σ H Q I)⟩
theorem PT.weak {t t' : TT} (h : PT X e t) (k : ∀ σ H Q, t' σ H Q → t σ H Q) : PT X e t' := ⟨fun pins s σ H Q I w => h.run pins s σ H Q I (k σ H Q w)⟩
theorem PW.weak {t t' : TT} (h : PW X e t) (k : ∀ σ H Q, t' σ H Q → t σ H Q) : PW X e t' := ⟨fun wh pins s σ H Q I w => h.run wh pins s σ H Q I (k σ H Q w)⟩
theorem PA.weak {es : List Expr} {t t' : TA} (h : PA X es t) (k : ∀ σ H Q, t' σ H Q → t σ H Q) : PA X es t' := ⟨fun p pins s σ H Q I w => h.run p pins s σ H Q I (k σ H Q w)⟩
theorem PO.weak {o : Option Expr} {t t' : TO} (h : PO X o t) (k : ∀ σ H Q, t' σ H Q → t σ H Q) : PO X o t' := ⟨fun pins s σ H Q I w => h.run pins s σ H Q I (k σ H Q w)⟩
theorem PI.weak {tg : Expr} {t t' : TI} (h : PI X tg e t) (k : ∀ σ H Q, t' σ H Q → t σ H Q) : PI X tg e t' := ⟨fun pins s σ H Q I w => h.run pins s σ H Q I (k σ H Q w)⟩
theorem PTs.weak {es : List Expr} {t t' : TT} (h : PTs X es t) (k : ∀ σ H Q, t' σ H Q → t σ H Q) : PTs X es t' := ⟨fun pins s σ H Q I w => h.run pins s σ H Q I (k σ H Q w)⟩

theorem vis_of {sc : Scope} {x : Str} (h : visB sc x = true) : Vis sc x := by
  unfold visB at h
  split at h
  · exact .inl (by assumption)
  · exact .inr (.inl (by assumption))
  · exact .inr (.inr (by assumption))
  · cases h
theorem loc_of {sc : Scope} {x : Str} (h : locB sc x = true) : Loc sc x := by
  unfold locB at h
  split at h
  · exact .inl (by assumption)
  · exact .inr (by assumption)
  · cases h
theorem glo_of {sc : Scope} {x : Str} (h : gloB sc x = true) : sc.names.lookup x = some .globalImplicit := by
  unfold gloB at h
  split at h
  · assumption
  · cases h
theorem name_of {x : Str} (h : nameOk x = true) : (x == ("__debug__" : Str)) = false ∧ (x == ("__classdict__" : Str)) = false := by
  unfold nameOk at h
  rw [Bool.and_eq_true, Bool.not_eq_true', Bool.not_eq_true'] at h
  exact h
theorem band {a b : Bool} (h : (a && b) = true) : a = true ∧ b = true := Bool.and_eq_true_iff.mp h
/-- what a checked text is not -/
theorem ck_plain : ∀ {a : E} {e : Expr} {sc : Scope}, ckE N a e sc = true → (∀ x p, e ≠ .Starred x p) ∧ (∀ l u s p, e ≠ .Slice l u s p) ∧ (∀ x k p, e ≠ .Set x k p) := by
  intro a e sc h
  cases e <;> first
    | (refine ⟨fun _ _ z => ?_, fun _ _ _ _ z => ?_, fun _ _ _ z => ?_⟩ <;> (cases z; done))
    | (exfalso; cases a <;> simp [ckE] at h)
theorem noStar {e : Expr} {es : List Expr} {env : PySem.Env} (h : ∀ x p, e ≠ .Starred x p) : starEach (e :: es) env = (false, eval e env) :: starEach es env := by
  cases e <;> first
    | rfl
    | exact absurd rfl (h _ _)
theorem noSlice {b : Expr} (h : ∀ l u s p, b ≠ .Slice l u s p) : PlainIx b := by
  intro o i
  cases b <;> first
    | rfl
    | exact absurd rfl (h _ _ _ _)
theorem noMark {op : CmpOp} {b : Expr} (h : ∀ x k p, b ≠ .Set x k p) : behindInMarks op b = false := by
  cases b <;> first
    | rfl
    | exact absurd rfl (h _ _ _)
theorem noFold {b : Expr} {env : PySem.Env} (h : ∀ x k p, b ≠ .Set x k p) : ∀ x, foldedSetIterable b env x = pure x := by
  intro x
  cases b <;> first
    | rfl
    | exact absurd rfl (h _ _ _)
theorem ckL_stars : ∀ {es : EL} {exs : List Expr} {sc : Scope} {env : PySem.Env}, ckL N es exs sc = true → ∀ pos, (backTo pos (starEach exs env)).any (·.1) = false
  | .nil, [], _, _, _ => fun _ => rfl
  | .nil, _ :: _, _, _, h => by simp [ckL] at h
  | .cons _ _, [], _, _, h => by simp [ckL] at h
  | .cons a r, e :: es, sc, env, h => fun pos => by
    simp only [ckL] at h
    obtain ⟨h1, h2⟩ := band h
    rw [noStar (ck_plain h1).1]
    show ((false || (backTo pos (starEach es env)).any (·.1))) = false
    rw [ckL_stars h2 pos]; rfl
theorem rr_int {K : Kw} {env : Env} {σ : L2.St} {H F Hs : Hp} {i : Int} : RepR K env σ H F Hs (.int i) (.dat (.int i)) := by
  show Rp K F _ _
  exact rp_int
theorem rr_bl {K : Kw} {env : Env} {σ : L2.St} {H F Hs : Hp} {i : Bool} : RepR K env σ H F Hs (.bl i) (.dat (.bool i)) := by
  show Rp K F _ _
  exact rp_bl
theorem truth_ok {K : Kw} {env : Env} {σ : L2.St} {H F Hs : Hp} {v : V} {r : R} {b : Bool} (s : Sat K env σ H F) (p : RepR K env σ H F Hs v r) (h : truth (look env r) = some b) : v = .bl b := by
  unfold truth at h
  split at h
  · rename_i b' q
    cases h
    exact (look_ok s p q).vw.bl
  · cases h

/-! ### one construct at a time -/
theorem snd_var {i : Nat} {sc : Scope} (c : Cok T N X) (hsc : X.env.scope = sc) (h : ckE N (.var i) e sc = true) : PE X e (tEv T X.kw (.var i)) := by
  cases e <;> simp only [ckE, Bool.false_eq_true] at h
  rename_i x pos
  obtain ⟨h1, h3⟩ := band h
  obtain ⟨h1, h2⟩ := band h1
  have h1 := of_decide_eq_true h1
  obtain ⟨n1, n2⟩ := name_of h3
  refine PE.weak (pe_var (i := i) (by rw [c.hN]; exact h1) (by rw [hsc]; exact vis_of h2) n1 n2) fun σ H Q ⟨env, F, r, env', s, e, k⟩ => ?_
  simp only [ev, Option.map_eq_some_iff] at e
  obtain ⟨r', e1, e2⟩ := e
  cases e2
  unfold rd at e1
  split at e1
  · rename_i d q
    cases e1
    obtain ⟨v, e2, rp⟩ := s.sl i _ q
    exact ⟨v, e2, k v H F s Ext.refl rp⟩
  · rename_i p kvs q
    cases e1
    obtain ⟨a, u, e2, _⟩ := s.sl i _ q
    exact ⟨_, e2, k _ H F s Ext.refl e2⟩
  · rename_i ns q
    cases e1
    obtain ⟨a, e2, _⟩ := s.sl i _ q
    exact ⟨_, e2, k _ H F s Ext.refl e2⟩
  · cases e1
theorem snd_cst {d : D} {sc : Scope} (h : ckE N (.cst d) e sc = true) : PE X e (tEv T X.kw (.cst d)) := by
  cases e <;> simp only [ckE, Bool.false_eq_true] at h
  rename_i cn j pos
  have fin : ∀ (v : V), (∀ F, Rp X.kw F d v) → ∀ σ H Q, tEv T X.kw (.cst d) σ H Q → tC v σ H Q := fun v rp σ H Q ⟨env, F, r, env', s, e, k⟩ => by
    simp only [ev, Option.some.injEq, Prod.mk.injEq] at e
    obtain ⟨e1, e2⟩ := e
    subst e1 e2
    exact k v H F s Ext.refl (rp F)
  unfold ckC at h
  split at h
  · exact PE.weak pe_non (fin _ fun F => rp_non)
  · have := eq_of_beq h
    subst this
    exact PE.weak pe_bl (fin _ fun F => rp_bl)
  · have := of_decide_eq_true h
    subst this
    exact PE.weak pe_int (fin _ fun F => rp_int)
  · obtain ⟨h1, h2⟩ := band h
    obtain ⟨h1, h3⟩ := band h1
    have := of_decide_eq_true h1
    subst this
    exact PE.weak pe_str (fin _ fun F => rp_str ⟨h3, of_decide_eq_true h2⟩)
  · cases h
theorem snd_glo {y : Str} {sc : Scope} (c : Cok T N X) (hsc : X.env.scope = sc) (h : ckE N (.glo y) e sc = true) : PE X e (tEv T X.kw (.glo y)) := by
  cases e <;> simp only [ckE, Bool.false_eq_true] at h
  rename_i x pos
  obtain ⟨h1, h3⟩ := band h
  obtain ⟨h1, h2⟩ := band h1
  have := of_decide_eq_true h1
  subst this
  refine ⟨fun pins st σ H Q I w => ?_⟩
  obtain ⟨env, F, r, env', s, e, k⟩ := id w
  simp only [ev, Option.map_eq_some_iff] at e
  obtain ⟨d, e1, e2⟩ := e
  cases e2
  obtain ⟨v, u, m, rv, rp⟩ := c.cs x d e1
  exact (pe_glob (v := v) (show X.env.scope.names.lookup x = _ by rw [hsc]; exact glo_of h2) m rv (name_of h3).1).run pins st σ H Q I (k v H F s Ext.refl (rp F))
theorem snd_bin {op : Operator} {a b : E} {ea eb : Expr} {pos : Pos} (ha : PE X ea (tEv T X.kw a)) (hb : PE X eb (tEv T X.kw b)) : PE X (.BinOp ea op eb pos) (tEv T X.kw (.bin op a b)) := by
  refine PE.weak (pe_op (op_bin op) ha hb) fun σ H Q ⟨env, F, r, env', s, e, k⟩ => ?_
  simp only [ev, Option.bind_eq_some_iff, Option.map_eq_some_iff] at e
  obtain ⟨⟨r1, env1⟩, e1, ⟨r2, env2⟩, e2, x, ex, y, ey, res, eb, e3⟩ := e
  cases e3
  exact ⟨env, F, r1, env1, s, e1, fun v H1 F1 s1 x1 p1 => ⟨env1, F1, r2, env2, s1, e2, fun w H2 F2 s2 x2 p2 => binop_ok s2 (fun a n => x1.dmn a (x2.dmn a n)) (lookD_ok s2 (p1.ext x2) ex) (lookD_ok s2 p2 ey) eb fun v' H' F' s' x' p' => k v' H' F' s' ((x1.trans x2).trans x') p'⟩⟩
theorem snd_neg {a : E} {ea : Expr} {pos : Pos} (ha : PE X ea (tEv T X.kw a)) : PE X (.UnaryOp .USub ea pos) (tEv T X.kw (.neg a)) := by
  refine PE.weak (pe_un un_neg ha) fun σ H Q ⟨env, F, r, env', s, e, k⟩ => ?_
  simp only [ev, Option.bind_eq_some_iff] at e
  obtain ⟨⟨r1, env1⟩, e1, x, ex, e3⟩ := e
  split at e3
  · cases e3
    exact ⟨env, F, r1, env1, s, e1, fun v H1 F1 s1 x1 p1 => ⟨_, (lookD_ok s1 p1 ex).int, k _ H1 F1 s1 x1 rr_int⟩⟩
  · cases e3
theorem snd_not {a : E} {ea : Expr} {pos : Pos} (ha : PE X ea (tEv T X.kw a)) : PE X (.UnaryOp .Not ea pos) (tEv T X.kw (.not_ a)) := by
  refine PE.weak (pe_not ha) fun σ H Q ⟨env, F, r, env', s, e, k⟩ => ?_
  simp only [ev, Option.bind_eq_some_iff, Option.map_eq_some_iff] at e
  obtain ⟨⟨r1, env1⟩, e1, b, eb, e3⟩ := e
  cases e3
  exact ⟨env, F, r1, env1, s, e1, fun v H1 F1 s1 x1 p1 => ⟨b, truth_ok s1 p1 eb, k _ H1 F1 s1 x1 rr_bl⟩⟩
theorem Cok.hu0 (c : Cok T N X) : X.A.units + 1 < cLine := by have := c.room.un; omega
/-- what a comparison with a dict asks -/
def tDc_ (op : CmpOp) (ta tb : TE) : TE := match op with
  | .In => tDIn ta tb
  | .NotIn => tDNotIn ta tb
  | _ => fun _ _ _ => False
theorem pc_dc (c : Cok T N X) {op : CmpOp} {ta tb : TE} {ea eb : Expr} {pos : Pos} (ha : PE X ea ta) (hb : PE X eb tb) (hm : behindInMarks op eb = false) : PE X (.Compare ea [op] [eb] pos) (tDc_ op ta tb) := by
  cases op with
  | In => exact pe_cmp (pc_din c.hu0 ha hb) hm
  | NotIn => exact pe_cmp (pc_dnotin c.hu0 ha hb) hm
  | _ => exact ⟨fun pins st σ H Q I w => w.elim⟩
theorem pt_dc (c : Cok T N X) {op : CmpOp} {ta tb : TE} {ea eb : Expr} {pos : Pos} (ha : PE X ea ta) (hb : PE X eb tb) (hm : behindInMarks op eb = false) : PT X (.Compare ea [op] [eb] pos) (tB (tDc_ op ta tb)) := by
  cases op with
  | In => exact pt_cmp (pc_din c.hu0 ha hb) hm
  | NotIn => exact pt_cmp (pc_dnotin c.hu0 ha hb) hm
  | _ => exact ⟨fun pins st σ H Q I w => w.elim⟩
theorem snd_cmp {op : CmpOp} {a b : E} {ea eb : Expr} {pos : Pos} (c : Cok T N X) (ha : PE X ea (tEv T X.kw a)) (hb : PE X eb (tEv T X.kw b)) (hm : behindInMarks op eb = false) : PE X (.Compare ea [op] [eb] pos) (tEv T X.kw (.cmp op a b)) := by
  refine PE.weak (PE.or (pe_cmpR (op_cmp c.room op) ha hb hm) (pc_dc c ha hb hm)) fun σ H Q ⟨env, F, r, env', s, e, k⟩ => ?_
  simp only [ev, Option.bind_eq_some_iff, Option.map_eq_some_iff] at e
  obtain ⟨⟨r1, env1⟩, e1, ⟨r2, env2⟩, e2, x, ex, y, ey, res, eb, e3⟩ := e
  cases e3
  cases y with
  | d y =>
    left
    have ey : lookD env2 r2 = some y := by unfold lookD; rw [ey]; rfl
    exact ⟨env, F, r1, env1, s, e1, fun v H1 F1 s1 x1 p1 => ⟨env1, F1, r2, env2, s1, e2, fun w H2 F2 s2 x2 p2 => cmpop_ok s2 (lookD_ok s2 (p1.ext x2) ex) (lookD_ok s2 p2 ey) eb (k _ H2 F2 s2 (x1.trans x2) rr_bl)⟩⟩
  | s ns => cases eb
  | k t kvs =>
    right
    cases t with
    | true => cases eb
    | false =>
    simp only [cmpOb] at eb
    split at eb
    · split at eb
      · rename_i hk
        cases eb
        refine ⟨env, F, r1, env1, s, e1, fun v H1 F1 s1 x1 p1 => ⟨env1, F1, r2, env2, s1, e2, fun w H2 F2 s2 x2 p2 => ?_⟩⟩
        obtain ⟨ad, o, h1, h2, h3⟩ := in_dic (look_ok s2 p2 ey) (lookD_ok s2 (p1.ext x2) ex) hk
        exact ⟨ad, o, h1, h2, by rw [h3]; exact k _ H2 F2 s2 (x1.trans x2) rr_bl⟩
      · cases eb
    · split at eb
      · rename_i hk
        cases eb
        refine ⟨env, F, r1, env1, s, e1, fun v H1 F1 s1 x1 p1 => ⟨env1, F1, r2, env2, s1, e2, fun w H2 F2 s2 x2 p2 => ?_⟩⟩
        obtain ⟨ad, o, h1, h2, h3⟩ := in_dic (look_ok s2 p2 ey) (lookD_ok s2 (p1.ext x2) ex) hk
        exact ⟨ad, o, h1, h2, by rw [h3]; exact k _ H2 F2 s2 (x1.trans x2) rr_bl⟩
      · cases eb
    · cases eb
theorem snd_cmpT {op : CmpOp} {a b : E} {ea eb : Expr} {pos : Pos} (c : Cok T N X) (ha : PE X ea (tEv T X.kw a)) (hb : PE X eb (tEv T X.kw b)) (hm : behindInMarks op eb = false) : PT X (.Compare ea [op] [eb] pos) (tEvT T X.kw (.cmp op a b)) := by
  refine PT.weak (PT.or (pt_cmpR (op_cmp c.room op) ha hb hm) (pt_dc c ha hb hm)) fun σ H Q ⟨env, F, r, env', b, s, e, tr, k⟩ => ?_
  simp only [ev, Option.bind_eq_some_iff, Option.map_eq_some_iff] at e
  obtain ⟨⟨r1, env1⟩, e1, ⟨r2, env2⟩, e2, x, ex, y, ey, res, eb, e3⟩ := e
  cases e3
  simp only [look, truth, Option.some.injEq] at tr
  subst tr
  cases y with
  | d y =>
    left
    have ey : lookD env2 r2 = some y := by unfold lookD; rw [ey]; rfl
    exact ⟨env, F, r1, env1, s, e1, fun v H1 F1 s1 x1 p1 => ⟨env1, F1, r2, env2, s1, e2, fun w H2 F2 s2 x2 p2 => cmpop_ok s2 (lookD_ok s2 (p1.ext x2) ex) (lookD_ok s2 p2 ey) eb ⟨_, rfl, k H2 F2 s2 (x1.trans x2)⟩⟩⟩
  | s ns => cases eb
  | k t kvs =>
    right
    cases t with
    | true => cases eb
    | false =>
    simp only [cmpOb] at eb
    split at eb
    · split at eb
      · rename_i hk
        cases eb
        refine ⟨env, F, r1, env1, s, e1, fun v H1 F1 s1 x1 p1 => ⟨env1, F1, r2, env2, s1, e2, fun w H2 F2 s2 x2 p2 => ?_⟩⟩
        obtain ⟨ad, o, h1, h2, h3⟩ := in_dic (look_ok s2 p2 ey) (lookD_ok s2 (p1.ext x2) ex) hk
        exact ⟨ad, o, h1, h2, _, by rw [h3], k H2 F2 s2 (x1.trans x2)⟩
      · cases eb
    · split at eb
      · rename_i hk
        cases eb
        refine ⟨env, F, r1, env1, s, e1, fun v H1 F1 s1 x1 p1 => ⟨env1, F1, r2, env2, s1, e2, fun w H2 F2 s2 x2 p2 => ?_⟩⟩
        obtain ⟨ad, o, h1, h2, h3⟩ := in_dic (look_ok s2 p2 ey) (lookD_ok s2 (p1.ext x2) ex) hk
        exact ⟨ad, o, h1, h2, _, by rw [h3], k H2 F2 s2 (x1.trans x2)⟩
      · cases eb
    · cases eb
theorem lastM {o1 o2 : CmpOp} {b c : Expr} (h : behindInMarks o2 c = false) : lastMarks [o1, o2] [b, c] = false := h
theorem snd_chain {o1 o2 : CmpOp} {a b d : E} {ea eb ed : Expr} {pos : Pos} (c : Cok T N X) (ha : PE X ea (tEv T X.kw a)) (hb : PE X eb (tEv T X.kw b)) (hd : PE X ed (tEv T X.kw d)) (hm : behindInMarks o2 ed = false) : PE X (.Compare ea [o1, o2] [eb, ed] pos) (tEv T X.kw (.chain o1 o2 a b d)) := by
  refine PE.weak (pe_chain (op_cmp c.room o1) (op_cmp c.room o2) ha hb hd (lastM hm)) fun σ H Q ⟨env, F, r, env', s, e, k⟩ => ?_
  simp only [ev, Option.bind_eq_some_iff] at e
  obtain ⟨⟨r1, env1⟩, e1, ⟨r2, env2⟩, e2, x, ex, y, ey, res, eb, e3⟩ := e
  refine ⟨env, F, r1, env1, s, e1, fun v H1 F1 s1 x1 p1 => ⟨env1, F1, r2, env2, s1, e2, fun w H2 F2 s2 x2 p2 => cmpop_ok s2 (lookD_ok s2 (p1.ext x2) ex) (lookD_ok s2 p2 ey) eb ⟨res, rfl, ?_⟩⟩⟩
  cases res with
  | true =>
    simp only [if_true, Option.bind_eq_some_iff, Option.map_eq_some_iff] at e3
    obtain ⟨⟨r3, env3⟩, e4, y', ey', z, ez, q, eq, e5⟩ := e3
    cases e5
    exact ⟨env2, F2, r3, env3, s2, e4, fun u H3 F3 s3 x3 p3 => cmpop_ok s3 (lookD_ok s3 (p2.ext x3) ey') (lookD_ok s3 p3 ez) eq (k _ H3 F3 s3 ((x1.trans x2).trans x3) rr_bl)⟩
  | false =>
    rw [if_neg Bool.false_ne_true] at e3
    cases e3
    exact k _ H2 F2 s2 (x1.trans x2) rr_bl
theorem snd_chainT {o1 o2 : CmpOp} {a b d : E} {ea eb ed : Expr} {pos : Pos} (c : Cok T N X) (ha : PE X ea (tEv T X.kw a)) (hb : PE X eb (tEv T X.kw b)) (hd : PE X ed (tEv T X.kw d)) (hm : behindInMarks o2 ed = false) : PT X (.Compare ea [o1, o2] [eb, ed] pos) (tEvT T X.kw (.chain o1 o2 a b d)) := by
  refine PT.weak (pt_chain (op_cmp c.room o1) (op_cmp c.room o2) ha hb hd (lastM hm)) fun σ H Q ⟨env, F, r, env', bb, s, e, tr, k⟩ => ?_
  simp only [ev, Option.bind_eq_some_iff] at e
  obtain ⟨⟨r1, env1⟩, e1, ⟨r2, env2⟩, e2, x, ex, y, ey, res, eb, e3⟩ := e
  refine ⟨env, F, r1, env1, s, e1, fun v H1 F1 s1 x1 p1 => ⟨env1, F1, r2, env2, s1, e2, fun w H2 F2 s2 x2 p2 => cmpop_ok s2 (lookD_ok s2 (p1.ext x2) ex) (lookD_ok s2 p2 ey) eb ⟨res, rfl, ?_⟩⟩⟩
  cases res with
  | true =>
    simp only [if_true, Option.bind_eq_some_iff, Option.map_eq_some_iff] at e3
    obtain ⟨⟨r3, env3⟩, e4, y', ey', z, ez, q, eq, e5⟩ := e3
    cases e5
    simp only [look, truth, Option.some.injEq] at tr
    subst tr
    exact ⟨env2, F2, r3, env3, s2, e4, fun u H3 F3 s3 x3 p3 => cmpop_ok s3 (lookD_ok s3 (p2.ext x3) ey') (lookD_ok s3 p3 ez) eq ⟨_, rfl, k H3 F3 s3 ((x1.trans x2).trans x3)⟩⟩
  | false =>
    rw [if_neg Bool.false_ne_true] at e3
    cases e3
    simp only [look, truth, Option.some.injEq] at tr
    subst tr
    exact ⟨_, rfl, k H2 F2 s2 (x1.trans x2)⟩
theorem snd_ite {c a b : E} {ec ea eb : Expr} {pos : Pos} (hc : PT X ec (tEvT T X.kw c)) (ha : PE X ea (tEv T X.kw a)) (hb : PE X eb (tEv T X.kw b)) : PE X (.IfExp ec ea eb pos) (tEv T X.kw (.ite c a b)) := by
  refine PE.weak (pe_ifExp hc ha hb) fun σ H Q ⟨env, F, r, env', s, e, k⟩ => ?_
  simp only [ev, Option.bind_eq_some_iff] at e
  obtain ⟨⟨r1, env1⟩, e1, b', eb, e3⟩ := e
  refine ⟨env, F, r1, env1, b', s, e1, eb, fun H1 F1 s1 x1 => ?_⟩
  cases b' with
  | true =>
    rw [if_pos rfl] at e3 ⊢
    exact ⟨env1, F1, r, env', s1, e3, fun v H2 F2 s2 x2 p2 => k v H2 F2 s2 (x1.trans x2) (p2.start fun a n => x1.dmn a n)⟩
  | false =>
    rw [if_neg Bool.false_ne_true] at e3 ⊢
    exact ⟨env1, F1, r, env', s1, e3, fun v H2 F2 s2 x2 p2 => k v H2 F2 s2 (x1.trans x2) (p2.start fun a n => x1.dmn a n)⟩
theorem snd_tup {es : EL} {exs : List Expr} {k : Nat} {pos : Pos} (h : PA X exs (tEvL T X.kw es)) : PE X (.Tuple exs k pos) (tEv T X.kw (.tup es)) := by
  refine PE.weak (pe_tup h) fun σ H Q ⟨env, F, r, env', s, e, k⟩ => ?_
  simp only [ev, Option.bind_eq_some_iff] at e
  obtain ⟨⟨rs, env1⟩, e1, ⟨ds, env2⟩, e2, e3⟩ := e
  split at e3
  · rename_i hz
    cases e3
    refine ⟨env, F, rs, env1, s, e1, fun vs H1 F1 s1 x1 p1 => ?_⟩
    obtain ⟨F2, s2, x2, rl, up⟩ := frzL_ok s1 x1 p1 e2
    have hz2 : ds.length ≤ sizeLine := Nat.le_trans hz (by decide)
    refine ⟨by rw [rl.length]; exact hz2, fun p n => ?_⟩
    exact give_tup (Hs := H) s2 (fun v H' F' s' x' p' => k v H' F' s' (x2.trans x') p') rl hz2 n
  · cases e3
theorem snd_lst {es : EL} {exs : List Expr} {pos : Pos} (h : PA X exs (tEvL T X.kw es)) : PE X (.List exs pos) (tEv T X.kw (.lst es)) := by
  refine PE.weak (pe_lst h) fun σ H Q ⟨env, F, r, env', s, e, k⟩ => ?_
  simp only [ev, Option.bind_eq_some_iff] at e
  obtain ⟨⟨rs, env1⟩, e1, ⟨ds, env2⟩, e2, e3⟩ := e
  split at e3
  · rename_i hz
    cases e3
    refine ⟨env, F, rs, env1, s, e1, fun vs H1 F1 s1 x1 p1 => ?_⟩
    obtain ⟨F2, s2, x2, rl, up⟩ := frzL_ok s1 x1 p1 e2
    have hz2 : ds.length ≤ sizeLine := Nat.le_trans hz (by decide)
    refine ⟨by rw [rl.length]; exact hz2, fun p n => ?_⟩
    exact give_lst (Hs := H) s2 (fun a n => x1.dmn a n) (fun v H' F' s' x' p' => k v H' F' s' (x2.trans x') p') rl hz2 n
  · cases e3
theorem snd_idx {a b : E} {ea eb : Expr} {pos : Pos} (c : Cok T N X) (ha : PE X ea (tEv T X.kw a)) (hb : PE X eb (tEv T X.kw b)) (hs : PlainIx eb) : PE X (.Subscript ea eb pos) (tEv T X.kw (.idx a b)) := by
  refine PE.weak (PE.or (pe_ix ix_seq ha hb hs) (pe_dget c.hu0 ha hb hs)) fun σ H Q ⟨env, F, r, env', s, e, k⟩ => ?_
  simp only [ev, Option.bind_eq_some_iff, Option.map_eq_some_iff] at e
  obtain ⟨⟨r1, env1⟩, e1, ⟨r2, env2⟩, e2, x, ex, y, ey, res, eb, e3⟩ := e
  cases e3
  have seq : (∀ t kvs, x ≠ .k t kvs) → tOp (rIx X.kw) (tEv T X.kw a) (tEv T X.kw b) σ H Q := fun ho =>
    ⟨env, F, r1, env1, s, e1, fun v H1 F1 s1 x1 p1 => ⟨env1, F1, r2, env2, s1, e2, fun w H2 F2 s2 x2 p2 => index_ok (Hs := H) s2 (look_ok s2 (p1.ext x2) ex) (lookD_ok s2 p2 ey) ho eb fun v' H' F' s' x' p' => k v' H' F' s' ((x1.trans x2).trans x') p'⟩⟩
  cases x with
  | d _ => exact .inl (seq fun _ _ z => nomatch z)
  | s _ => exact .inl (seq fun _ _ z => nomatch z)
  | k t kvs =>
    right
    cases t with
    | true => cases eb
    | false => exact ⟨env, F, r1, env1, s, e1, fun v H1 F1 s1 x1 p1 => ⟨env1, F1, r2, env2, s1, e2, fun w H2 F2 s2 x2 p2 => index_dic (Hs := H) s2 (look_ok s2 (p1.ext x2) ex) (lookD_ok s2 p2 ey) eb fun v' H' F' s' x' p' => k v' H' F' s' ((x1.trans x2).trans x') p'⟩⟩
theorem snd_sl {a : E} {lo hi : EO} {ea : Expr} {l h : Option Expr} {p2 pos : Pos} (ha : PE X ea (tEv T X.kw a)) (hl : PO X l (tEvO T X.kw lo)) (hh : PO X h (tEvO T X.kw hi)) : PE X (.Subscript ea (.Slice l h none p2) pos) (tEv T X.kw (.sl a lo hi)) := by
  refine PE.weak (pe_slice sl_any ha hl hh) fun σ H Q ⟨env, F, r, env', s, e, k⟩ => ?_
  simp only [ev, Option.bind_eq_some_iff, Option.map_eq_some_iff] at e
  obtain ⟨⟨r1, env1⟩, e1, ⟨i, env2⟩, e2, ⟨j, env3⟩, e3, d, ed, res, er, e4⟩ := e
  cases e4
  exact ⟨env, F, r1, env1, s, e1, fun v H1 F1 s1 x1 p1 => ⟨env1, F1, i, env2, s1, e2, fun H2 F2 s2 x2 => ⟨env2, F2, j, env3, s2, e3, fun H3 F3 s3 x3 =>
    slice_ok (Hs := H) s3 (fun a n => x1.dmn a (x2.dmn a (x3.dmn a n))) (lookD_ok s3 ((p1.ext x2).ext x3) ed) er fun v' H' F' s' x' p' => k v' H' F' s' (((x1.trans x2).trans x3).trans x') p'⟩⟩⟩
theorem snd_rev {a : E} {ea : Expr} {j : Nat} {p1 p2 p3 pos : Pos} (ha : PE X ea (tEv T X.kw a)) : PE X (.Subscript ea (.Slice none none (some (.UnaryOp .USub (.Constant (.int 1) j p1) p2)) p3) pos) (tEv T X.kw (.rev a)) := by
  refine PE.weak (pe_revL ha) fun σ H Q ⟨env, F, r, env', s, e, k⟩ => ?_
  simp only [ev, Option.bind_eq_some_iff, Option.map_eq_some_iff] at e
  obtain ⟨⟨r1, env1⟩, e1, d, ed, res, er, e4⟩ := e
  cases e4
  exact ⟨env, F, r1, env1, s, e1, fun v H1 F1 s1 x1 p1 => revs_ok (Hs := H) s1 (fun a n => x1.dmn a n) (lookD_ok s1 p1 ed) er fun v' H' F' s' x' p' => k v' H' F' s' (x1.trans x') p'⟩
/-! ### lists of expressions -/
theorem snd_nil : PA X [] (tEvL T X.kw .nil) := PA.weak pa_nil fun σ H Q ⟨env, F, rs, env', s, e, k⟩ => by
  simp only [evL, Option.some.injEq, Prod.mk.injEq] at e
  obtain ⟨e1, e2⟩ := e
  subst e1 e2
  exact k [] H F s Ext.refl .nil
theorem snd_cons {a : E} {r : EL} {ea : Expr} {er : List Expr} (ha : PE X ea (tEv T X.kw a)) (hr : PA X er (tEvL T X.kw r)) (hs : ∀ x p, ea ≠ .Starred x p) : PA X (ea :: er) (tEvL T X.kw (.cons a r)) := by
  refine PA.weak (pa_cons ha hr (noStar hs)) fun σ H Q ⟨env, F, rs, env', s, e, k⟩ => ?_
  simp only [evL, Option.bind_eq_some_iff, Option.map_eq_some_iff] at e
  obtain ⟨⟨r1, env1⟩, e1, ⟨rs', env2⟩, e2, e3⟩ := e
  cases e3
  exact ⟨env, F, r1, env1, s, e1, fun v H1 F1 s1 x1 p1 => ⟨env1, F1, rs', env2, s1, e2, fun vs H2 F2 s2 x2 p2 => k (v :: vs) H2 F2 s2 (x1.trans x2) (RepL.push p1 x1 x2 p2)⟩⟩
theorem snd_no : PO X none (tEvO T X.kw .no) := PO.weak po_none fun σ H Q ⟨env, F, i, env', s, e, k⟩ => by
  simp only [evO, Option.some.injEq, Prod.mk.injEq] at e
  obtain ⟨e1, e2⟩ := e
  subst e1 e2
  exact k H F s Ext.refl
theorem snd_so {a : E} {ea : Expr} (ha : PE X ea (tEv T X.kw a)) : PO X (some ea) (tEvO T X.kw (.so a)) := by
  refine PO.weak (po_some ha) fun σ H Q ⟨env, F, i, env', s, e, k⟩ => ?_
  simp only [evO, Option.bind_eq_some_iff] at e
  obtain ⟨⟨r1, env1⟩, e1, d, ed, e3⟩ := e
  split at e3
  · cases e3
    exact ⟨env, F, r1, env1, s, e1, fun v H1 F1 s1 x1 p1 => ⟨_, (lookD_ok s1 p1 ed).int, k H1 F1 s1 x1⟩⟩
  · cases e3
theorem snd_blt {f : BI} {es : EL} {x : Str} {a : Expr} {as : List Expr} {p pos : Pos} {sc : Scope} (c : Cok T N X) (hsc : X.env.scope = sc) (hx : x = biName f) (hg : gloB sc x = true) (hl : ckL N es (a :: as) sc = true) (h : PA X (a :: as) (tEvL T X.kw es)) :
    PE X (.Call (.Name x p) (a :: as) [] pos) (tEv T X.kw (.blt f es)) := by
  have hg' : Gl X x := by
    show X.env.scope.names.lookup x = _
    rw [hsc]; exact glo_of hg
  have st : starEach (a :: as) X.env = (false, eval a X.env) :: starEach as X.env := by
    cases es with
    | nil => simp [ckL] at hl
    | cons b r => simp only [ckL] at hl; exact noStar (ck_plain (band hl).1).1
  have pl : ∀ pos, (backTo pos (starEach as X.env)).any (·.1) = false := by
    cases es with
    | nil => simp [ckL] at hl
    | cons b r => simp only [ckL] at hl; exact fun pos => ckL_stars (band hl).2 pos
  have fin : ∀ σ H Q, tEv T X.kw (.blt f es) σ H Q → tCB (rBi X.kw f) (tEvL T X.kw es) σ H Q := fun σ H Q ⟨env, F, r, env', s, e, k⟩ => by
    simp only [ev, Option.bind_eq_some_iff, Option.map_eq_some_iff] at e
    obtain ⟨⟨rs, env1⟩, e1, os, e2, res, er, e4⟩ := e
    cases e4
    exact ⟨env, F, rs, env1, s, e1, fun vs H1 F1 s1 x1 p1 => bi_ok (Hs := H) s1 (fun a n => x1.dmn a n) (lookL_ok s1 p1 e2) er fun v' H' F' s' x' p' => k v' H' F' s' (x1.trans x') p'⟩
  subst hx
  have never : (∀ os, bi f os = none) → PE X (.Call (.Name (biName f) p) (a :: as) [] pos) (tEv T X.kw (.blt f es)) := fun nv => ⟨fun pins st σ H Q I w => by
    exfalso
    obtain ⟨env, F, r, env', s, e, k⟩ := id w
    simp only [ev, Option.bind_eq_some_iff, Option.map_eq_some_iff] at e
    obtain ⟨⟨rs, env1⟩, e1, os, e2, res, er, e4⟩ := e
    rw [nv] at er
    cases er⟩
  cases f with
  | abs => exact PE.weak (pe_callB call_abs hg' (c.blt _ (by decide +kernel)) (by decide +kernel) h (by decide) (by decide) st (pl _)) fin
  | len => exact PE.weak (pe_callB (CallR.or call_len_seq call_len_str) hg' (c.blt _ (by decide +kernel)) (by decide +kernel) h (by decide) (by decide) st (pl _)) fin
  | min => exact PE.weak (pe_callB (call_min2 c.calm) hg' (c.blt _ (by decide +kernel)) (by decide +kernel) h (by decide) (by decide) st (pl _)) fin
  | sum => exact PE.weak (pe_callB (cr_sum c.calm) hg' (c.blt _ (by decide +kernel)) (by decide +kernel) h (by decide) (by decide) st (pl _)) fin
  | all => exact PE.weak (pe_callB (cr_all c.calm) hg' (c.blt _ (by decide +kernel)) (by decide +kernel) h (by decide) (by decide) st (pl _)) fin
  | tuple => exact PE.weak (pe_callTy call_tuple_of hg' (c.blt _ (by decide +kernel)) (by decide +kernel) h (by decide) (by decide) st (pl _)) fin
  | list => exact PE.weak (pe_callTy call_list_of hg' (c.blt _ (by decide +kernel)) (by decide +kernel) h (by decide) (by decide) st (pl _)) fin
  | str => exact never fun _ => rfl
  | set => exact never fun _ => rfl
  | sorted => exact PE.weak (pe_callB (CallR.or (cr_sortedD (by have := c.room.un; omega)) (call_sortedDI c.calm)) hg' (c.blt _ (by decide +kernel)) (by decide +kernel) h (by decide) (by decide) st (pl _)) fin
  | dict => exact PE.weak (pe_callTy (call_dictP c.calm) hg' (c.blt _ (by decide +kernel)) (by decide +kernel) h (by decide) (by decide) st (pl _)) fin
end
end Lc
/-! Slots forgotten, a comprehension's own names, lists out of sight. -/
namespace Lc
open PySem L2
section
variable {K : Kw} {env env0 env1 env2 : Env} {σ σ0 σ1 σ2 : L2.St} {H H0 H1 H2 F F0 F1 F2 : Hp}
theorem wip_length : ∀ (vs : List Nat), (wip env vs).length = env.length
  | [] => rfl
  | v :: vs => by
    unfold wip
    split
    · rw [List.length_set, wip_length vs]
    · exact wip_length vs
theorem wip_out {j : Nat} : ∀ {vs : List Nat}, j ∉ vs → (wip env vs)[j]? = env[j]?
  | [], _ => rfl
  | v :: vs, h => by
    simp only [List.mem_cons, not_or] at h
    unfold wip
    split
    · rw [get_set_ne (fun e => h.1 e.symm)]; exact wip_out h.2
    · exact wip_out h.2
/-- a slot of the forgotten: told as nothing, or as it was (if it may not be forgotten) -/
theorem wip_at {j : Nat} {t : Slot} : ∀ {vs : List Nat}, (wip env vs)[j]? = some t → t = .no ∨ env[j]? = some t
  | [], h => .inr h
  | v :: vs, h => by
    unfold wip at h
    split at h
    · by_cases hj : v = j
      · subst hj
        rw [get_set_same (by simpa using lt_of_get h)] at h
        cases h
        exact .inl rfl
      · rw [get_set_ne hj] at h
        exact wip_at h
    · exact wip_at h
theorem wip_par {j : Nat} {t : Slot} : ∀ {vs : List Nat}, env[j]? = some t → t.par = true → (wip env vs)[j]? = some t
  | [], h, _ => h
  | v :: vs, h, p => by
    unfold wip
    split
    · rename_i hf
      have hj : v ≠ j := fun e => by
        subst e
        unfold freeS at hf
        rw [h] at hf
        simp [p] at hf
      rw [get_set_ne hj]; exact wip_par h p
    · exact wip_par h p
/-- slots are forgotten -/
theorem Sat.wip (s : Sat K env σ H F) (vs : List Nat) : Sat K (wip env vs) σ H F ∧ Ext env σ H F (wip env vs) σ H F := by
  have own : ∀ j a, Owns (Lc.wip env vs) σ j a → Owns env σ j a := fun j a ⟨h1, t, h2, h3⟩ => by
    rcases wip_at h2 with e | e
    · subst e; cases h3
    · exact ⟨h1, t, e, h3⟩
  refine ⟨⟨s.fle, by rw [wip_length]; exact s.len, fun j t h => ?_, fun i j a h1 h2 => s.inj i j a (own i a h1) (own j a h2)⟩, ⟨Le.refl F, fun a o h n => (by rw [h] at n; cases n), fun _ _ h _ => h, fun _ h => h, fun a ⟨j, h⟩ => .inl ⟨j, own j a h⟩, fun j t h p => ⟨t, wip_par h p, p, rfl, rfl⟩⟩⟩
  rcases wip_at h with e | e
  · subst e; trivial
  · exact s.sl j t e
/-! ### a comprehension's own names -/
theorem wipOk_at {vs : List Nat} (h : wipOk env vs = true) {j : Nat} (hj : j ∈ vs) : env[j]? = some .no ∨ ∃ d, env[j]? = some (.dat d) := by
  unfold wipOk at h
  have := List.all_eq_true.mp h j hj
  split at this
  · left; assumption
  · right; exact ⟨_, by assumption⟩
  · cases this
theorem wip_in {j : Nat} : ∀ {vs : List Nat}, wipOk env vs = true → j ∈ vs → (wip env vs)[j]? = some .no
  | v :: vs, h, hj => by
    have h0 : wipOk env vs = true := by
      unfold wipOk at h ⊢
      rw [List.all_cons, Bool.and_eq_true] at h
      exact h.2
    have hf : freeS env v = true := by
      unfold freeS
      rcases wipOk_at h List.mem_cons_self with e | ⟨d, e⟩ <;> (rw [e]; rfl)
    have hl : v < env.length := by
      rcases wipOk_at h List.mem_cons_self with e | ⟨d, e⟩ <;> exact lt_of_get e
    unfold wip
    rw [if_pos hf]
    by_cases e : v = j
    · subst e
      rw [get_set_same (by rw [wip_length]; exact hl)]
    · rw [get_set_ne e]
      rcases List.mem_cons.mp hj with z | z
      · exact absurd z.symm e
      · exact wip_in h0 z
theorem wipe_get {j : Nat} : ∀ {vs : List Nat}, j ∉ vs → (wipe σ vs)[j]? = σ[j]? := fun h => wipe_out h
theorem Sat.wipe (s : Sat K env σ H F) {vs : List Nat} (ok : wipOk env vs = true) : Sat K (Lc.wip env vs) (L2.wipe σ vs) H F := by
  have own : ∀ j a, Owns (Lc.wip env vs) (L2.wipe σ vs) j a → Owns env σ j a := fun j a ⟨h1, t, h2, h3⟩ => by
    by_cases hj : j ∈ vs
    · rw [wip_in ok hj] at h2; cases h2; cases h3
    · rw [wip_out hj] at h2; rw [wipe_get hj] at h1; exact ⟨h1, t, h2, h3⟩
  refine ⟨s.fle, by rw [wip_length, wipe_length]; exact s.len, fun j t h => ?_, fun i j a h1 h2 => s.inj i j a (own i a h1) (own j a h2)⟩
  by_cases hj : j ∈ vs
  · rw [wip_in ok hj] at h; cases h; trivial
  · rw [wip_out hj] at h; rw [wipe_get hj]; exact s.sl j t h
theorem unwip_length : ∀ (vs : List Nat), (unwip env0 env1 vs).length = env1.length
  | [] => rfl
  | v :: vs => by unfold unwip; rw [List.length_set, unwip_length vs]
theorem unwip_out {j : Nat} : ∀ {vs : List Nat}, j ∉ vs → (unwip env0 env1 vs)[j]? = env1[j]?
  | [], _ => rfl
  | v :: vs, h => by
    simp only [List.mem_cons, not_or] at h
    unfold unwip
    rw [get_set_ne (fun e => h.1 e.symm)]; exact unwip_out h.2
theorem unwip_in {j : Nat} (hl : j < env1.length) : ∀ {vs : List Nat}, j ∈ vs → (unwip env0 env1 vs)[j]? = some (env0.getD j .no)
  | v :: vs, h => by
    unfold unwip
    by_cases e : v = j
    · subst e; rw [get_set_same (by rw [unwip_length]; exact hl)]
    · rw [get_set_ne e]
      rcases List.mem_cons.mp h with z | z
      · exact absurd z.symm e
      · exact unwip_in hl z
/-- behind the block: its own names as they were -/
theorem Sat.unwipe (s : Sat K env σ H F) {vs : List Nat} (ok : wipOk env vs = true) (s1 : Sat K env1 σ1 H1 F1) (x : Ext (Lc.wip env vs) (L2.wipe σ vs) H F env1 σ1 H1 F1) (ag : ∀ (j : Nat), j ∉ vs → σ1[j]? = σ[j]?) (hl : σ1.length = σ.length) :
    Sat K (unwip env env1 vs) σ H1 F1 ∧ Ext env σ H F (unwip env env1 vs) σ H1 F1 ∧ (∀ a, Owned (unwip env env1 vs) σ a → Owned env1 σ1 a) ∧ wipOk (unwip env env1 vs) vs = true := by
  have len : env1.length = env.length := by rw [s1.len, hl, s.len]
  have inn : ∀ (j : Nat) (t : Slot), j ∈ vs → (unwip env env1 vs)[j]? = some t → env[j]? = some t := fun j t hj h => by
    have hlt : j < env1.length := by have := lt_of_get h; rwa [unwip_length] at this
    rw [unwip_in hlt hj] at h
    rw [List.getD_eq_getElem?_getD] at h
    have hlt2 : j < env.length := by omega
    rw [List.getElem?_eq_getElem hlt2] at h ⊢
    simpa using h
  have own : ∀ j a, Owns (unwip env env1 vs) σ j a → Owns env1 σ1 j a := fun j a ⟨h1, t, h2, h3⟩ => by
    by_cases hj : j ∈ vs
    · have := inn j t hj h2
      rcases wipOk_at ok hj with e | ⟨d, e⟩ <;> (rw [e] at this; cases this; cases h3)
    · rw [unwip_out hj] at h2; exact ⟨by rw [ag j hj]; exact h1, t, h2, h3⟩
  have own0 : ∀ a, Owned (Lc.wip env vs) (L2.wipe σ vs) a → Owned env σ a := fun a ⟨j, h1, t, h2, h3⟩ => by
    by_cases hj : j ∈ vs
    · rw [wip_in ok hj] at h2; cases h2; cases h3
    · rw [wip_out hj] at h2; rw [wipe_get hj] at h1; exact ⟨j, h1, t, h2, h3⟩
  refine ⟨⟨s1.fle, by rw [unwip_length, len]; exact s.len, fun j t h => ?_, fun i j a h1 h2 => s1.inj i j a (own i a h1) (own j a h2)⟩, ⟨x.f, fun a o h n => ?_, fun a o h n => x.h a o h fun z => n (own0 a z), x.dm, fun a ⟨j, h⟩ => ?_, fun j t h p => ?_⟩, fun a ⟨j, h⟩ => ⟨j, own j a h⟩, ?_⟩
  · by_cases hj : j ∈ vs
    · have e := inn j t hj h
      have ok' := s.sl j t e
      rcases wipOk_at ok hj with q | ⟨d, q⟩
      · rw [q] at e; cases e; trivial
      · rw [q] at e; cases e
        obtain ⟨v, e1, e2⟩ := ok'
        exact ⟨v, e1, Rp.mono x.f _ _ e2⟩
    · rw [unwip_out hj] at h
      have := s1.sl j t h
      rw [ag j hj] at this
      exact this
  · rcases x.fn a o h n with z | z
    · exact .inl z
    · exact .inr (own0 a z)
  · rcases x.ow a ⟨j, own j a h⟩ with z | z
    · exact .inl (own0 a z)
    · exact .inr z
  · have hj : j ∉ vs := fun hj => by
      rcases wipOk_at ok hj with e | ⟨d, e⟩ <;> (rw [e] at h; cases h; cases p)
    obtain ⟨t', h1, h2, h3, h4⟩ := x.pr j t (by rw [wip_out hj]; exact h) p
    refine ⟨t', by rw [unwip_out hj]; exact h1, h2, h3, rfl⟩
  · refine List.all_eq_true.mpr fun j hj => ?_
    have hlt : j < env.length := by
      rcases wipOk_at ok hj with e | ⟨d, e⟩ <;> exact lt_of_get e
    rw [unwip_in (by omega) hj, List.getD_eq_getElem?_getD]
    rcases wipOk_at ok hj with e | ⟨d, e⟩ <;> (rw [e]; rfl)
/-! ### a list that is walked -/
theorem lockS_some {r : R} {i : Nat} (h : lockS env r = some i) : r = .slot i ∧ ∃ p xs, env[i]? = some (.own p xs) := by
  cases r with
  | slot j =>
    simp only [lockS] at h
    split at h
    · rename_i p xs q
      cases h
      exact ⟨rfl, p, xs, q⟩
    · cases h
  | _ => cases h
theorem lock_length {l : Option Nat} : (lock env l).length = env.length := by
  cases l with
  | none => rfl
  | some i => exact List.length_set
theorem Sat.lock (s : Sat K env σ H F) {r : R} : Sat K (Lc.lock env (lockS env r)) σ H F := by
  cases q : lockS env r with
  | none => exact s
  | some i => exact s.reslot i .hid (fun _ => trivial) (fun z => nomatch z)
theorem lock_own {l : Option Nat} {a : Addr} (h : Owned (lock env l) σ a) : Owned env σ a := by
  cases l with
  | none => exact h
  | some i => exact owned_set rfl h
/-- behind the walk it is there again -/
theorem Sat.unlock (s : Sat K env σ H F) {r : R} (s1 : Sat K env1 σ1 H1 F1) (x : Ext (Lc.lock env (lockS env r)) σ H F env1 σ1 H1 F1) :
    Sat K (unlock env env1 (lockS env r)) σ1 H1 F1 ∧ Ext env σ H F (unlock env env1 (lockS env r)) σ1 H1 F1 ∧ ∀ b, Owned (unlock env env1 (lockS env r)) σ1 b → Owned env1 σ1 b ∨ Owned env σ b := by
  cases q : lockS env r with
  | none => rw [q] at x; exact ⟨s1, x, fun b h => .inl h⟩
  | some i =>
    rw [q] at x
    obtain ⟨rfl, p, xs, hi⟩ := lockS_some q
    obtain ⟨a, vs, e1, e2, e3, e4⟩ := s.sl i _ hi
    have hl := lt_of_get hi
    have hid : (Lc.lock env (some i))[i]? = some .hid := get_set_same hl
    obtain ⟨t, h1, h2, h3, h4⟩ := x.pr i .hid hid rfl
    have no : ¬ Owned (Lc.lock env (some i)) σ a := fun ⟨j, k1, t', k2, k3⟩ => by
      by_cases hj : i = j
      · subst hj; rw [hid] at k2; cases k2; cases k3
      · have k2 : env[j]? = some t' := by rw [← k2]; exact (get_set_ne hj).symm
        exact hj (s.inj i j a ⟨e1, _, hi, rfl⟩ ⟨k1, t', k2, k3⟩)
    have hH : H1 a = some vs := x.h a _ e2 no
    have hF : F1 a = none := by
      cases w : F1 a with
      | none => rfl
      | some o =>
        rcases x.fn a o w e3 with z | z
        · rw [z] at e2; cases e2
        · exact absurd z no
    have no1 : ¬ Owned env1 σ1 a := fun w => by
      rcases x.ow a w with z | z
      · exact no z
      · rw [z] at e2; cases e2
    have g0 : env.getD i .no = .own p xs := by rw [List.getD_eq_getElem?_getD, hi]; rfl
    have hl1 := lt_of_get h1
    show Sat K (env1.set i (env.getD i .no)) σ1 H1 F1 ∧ Ext env σ H F (env1.set i (env.getD i .no)) σ1 H1 F1 ∧ ∀ b, Owned (env1.set i (env.getD i .no)) σ1 b → Owned env1 σ1 b ∨ Owned env σ b
    rw [g0]
    have e1' : σ1[i]? = some (some (.ref a)) := by rw [h4]; exact e1
    have own : ∀ j b, Owns (env1.set i (.own p xs)) σ1 j b → (j = i ∧ b = a) ∨ Owns env1 σ1 j b := fun j b ⟨k1, t', k2, k3⟩ => by
      by_cases hj : i = j
      · subst hj
        rw [e1'] at k1
        cases k1
        exact .inl ⟨rfl, rfl⟩
      · rw [get_set_ne hj] at k2
        exact .inr ⟨k1, t', k2, k3⟩
    refine ⟨⟨s1.fle, by rw [List.length_set]; exact s1.len, fun j t' h => ?_, fun j k b k1 k2 => ?_⟩, ⟨x.f, fun b o h n => ?_, fun b o h n => x.h b o h fun w => n (lock_own w), x.dm, fun b ⟨j, h⟩ => ?_, fun j t' h pp => ?_⟩, fun b ⟨j, h⟩ => ?_⟩
    · by_cases hj : i = j
      · subst hj
        rw [get_set_same hl1] at h
        cases h
        exact ⟨a, vs, e1', hH, hF, e4.mono x.f⟩
      · rw [get_set_ne hj] at h
        exact s1.sl j t' h
    · rcases own j b k1 with ⟨r1, r2⟩ | w1
      · rcases own k b k2 with ⟨r3, r4⟩ | w2
        · rw [r1, r3]
        · subst r2; exact absurd ⟨k, w2⟩ no1
      · rcases own k b k2 with ⟨r3, r4⟩ | w2
        · subst r4; exact absurd ⟨j, w1⟩ no1
        · exact s1.inj j k b w1 w2
    · rcases x.fn b o h n with w | w
      · exact .inl w
      · exact .inr (lock_own w)
    · rcases own j b h with ⟨r1, r2⟩ | w
      · subst r1 r2; exact .inl ⟨j, e1, _, hi, rfl⟩
      · rcases x.ow b ⟨j, w⟩ with w | w
        · exact .inl (lock_own w)
        · exact .inr w
    · by_cases hj : i = j
      · subst hj
        rw [hi] at h; cases h
        exact ⟨_, get_set_same hl1, pp, rfl, h4⟩
      · obtain ⟨t2, k1, k2, k3, k4⟩ := x.pr j t' (by rw [← h]; exact get_set_ne hj) pp
        exact ⟨t2, by rw [get_set_ne hj]; exact k1, k2, k3, k4⟩
    · rcases own j b h with ⟨r1, r2⟩ | w
      · subst r1 r2; exact .inr ⟨j, e1, _, hi, rfl⟩
      · exact .inl ⟨j, w⟩
end
end Lc
/-! Calls, and, or, isinstance, what is walked, comprehensions. -/
namespace Lc
open PySem L2
section
variable {X : Cx} {T : Tab} {N : List Str}
theorem snd_call {f : Str} {es : EL} {x : Str} {a : Expr} {as : List Expr} {p pos : Pos} {sc : Scope} (c : Cok T N X) (hsc : X.env.scope = sc) (hx : x = f) (hg : gloB sc x = true) (hn : nameOk x = true) (hl : ckL N es (a :: as) sc = true) (h : PA X (a :: as) (tEvL T X.kw es)) :
    PE X (.Call (.Name x p) (a :: as) [] pos) (tEv T X.kw (.call f es)) := by
  subst hx
  have hg' : Gl X x := by
    show X.env.scope.names.lookup x = _
    rw [hsc]; exact glo_of hg
  have st : starEach (a :: as) X.env = (false, eval a X.env) :: starEach as X.env := by
    cases es with
    | nil => simp [ckL] at hl
    | cons b r => simp only [ckL] at hl; exact noStar (ck_plain (band hl).1).1
  have pl : ∀ pos, (backTo pos (starEach as X.env)).any (·.1) = false := by
    cases es with
    | nil => simp [ckL] at hl
    | cons b r => simp only [ckL] at hl; exact fun pos => ckL_stars (band hl).2 pos
  refine ⟨fun pins sh σ H Q I w => ?_⟩
  obtain ⟨env, F, r, env', s, e, k⟩ := id w
  simp only [ev, Option.bind_eq_some_iff] at e
  obtain ⟨⟨rs, env1⟩, e1, g, eg, ⟨as', env2⟩, ep, ⟨r0, os⟩, eo, e3⟩ := e
  obtain ⟨fa, fd, ps, kk, m, kp, b, rm, hps, G⟩ := c.fns x g eg
  refine (pe_call G rm hg' m kp b .nil pass0 h (name_of hn).1 st (pl _)).run pins sh σ H Q I ?_
  refine ⟨env, F, rs, env1, s, e1, fun vs H1 F1 s1 x1 p1 => ?_⟩
  obtain ⟨F2, s2, x2, ps2⟩ := pass_ok s1 x1 p1 ep
  have lk := ps2.link
  have r0n : r0 = r ∧ env' = back g.md rs os env2 ∧ ∀ i, r0 ≠ .slot i := by
    revert e3
    cases r0 with
    | slot i => intro e3; cases e3
    | dat d => intro e3; cases e3; exact ⟨rfl, rfl, fun _ z => nomatch z⟩
    | new d => intro e3; cases e3; exact ⟨rfl, rfl, fun _ z => nomatch z⟩
  obtain ⟨q1, q2, q3⟩ := r0n
  subst q1 q2
  show spOf X.kw g (vs ++ []) H1 Q E0
  rw [List.append_nil]
  refine ⟨F2, as', r0, os, lk.sat s2 p1.apart, lk.length.2, lk.par, eo, fun v H' F' s' x' p' => ?_⟩
  obtain ⟨s3, x3, ow⟩ := back_ok s2 x2 lk s' x'
  refine k v H' F' s3 x3 ?_
  cases r0 with
  | slot i => exact absurd rfl (q3 i)
  | dat d => exact p'
  | new ys =>
    obtain ⟨ad, ws, f1, f2, f3, f4, f5, f6⟩ := p'
    exact ⟨ad, ws, f1, f2, f3, f4, fun o => s2.notOwned f6 (ow ad o), x1.dmn ad f6⟩
/-! ### and, or -/
theorem snd_and1 {a : E} {ea : Expr} {pos : Pos} (ha : PE X ea (tEv T X.kw a)) : PE X (.BoolOp .And [ea] pos) (tEvA T X.kw (.cons a .nil)) := by
  refine PE.weak (pe_one ha) fun σ H Q ⟨env, F, b, env', s, e, k⟩ => ?_
  simp only [evAnd, Option.bind_eq_some_iff, Option.map_eq_some_iff] at e
  obtain ⟨⟨r1, env1⟩, e1, b', eb, e3⟩ := e
  cases e3
  exact ⟨env, F, r1, env1, s, e1, fun v H1 F1 s1 x1 p1 => by rw [truth_ok s1 p1 eb]; exact k H1 F1 s1 x1⟩
theorem snd_or1 {a : E} {ea : Expr} {pos : Pos} (ha : PE X ea (tEv T X.kw a)) : PE X (.BoolOp .Or [ea] pos) (tEvB T X.kw (.cons a .nil)) := by
  refine PE.weak (pe_one ha) fun σ H Q ⟨env, F, b, env', s, e, k⟩ => ?_
  simp only [evOr, Option.bind_eq_some_iff, Option.map_eq_some_iff] at e
  obtain ⟨⟨r1, env1⟩, e1, b', eb, e3⟩ := e
  cases e3
  exact ⟨env, F, r1, env1, s, e1, fun v H1 F1 s1 x1 p1 => by rw [truth_ok s1 p1 eb]; exact k H1 F1 s1 x1⟩
theorem snd_andC {a a2 : E} {r : EL} {ea eb : Expr} {er : List Expr} {pos : Pos} (ha : PE X ea (tEv T X.kw a)) (hr : PE X (.BoolOp .And (eb :: er) pos) (tEvA T X.kw (.cons a2 r))) : PE X (.BoolOp .And (ea :: eb :: er) pos) (tEvA T X.kw (.cons a (.cons a2 r))) := by
  refine PE.weak (pe_and ha hr) fun σ H Q ⟨env, F, b, env', s, e, k⟩ => ?_
  simp only [evAnd, Option.bind_eq_some_iff] at e
  obtain ⟨⟨r1, env1⟩, e1, b', eb, e3⟩ := e
  refine ⟨env, F, r1, env1, s, e1, fun v H1 F1 s1 x1 p1 => ⟨b', truth_ok s1 p1 eb, ?_⟩⟩
  cases b' with
  | true =>
    rw [if_pos rfl] at e3 ⊢
    exact ⟨env1, F1, b, env', s1, e3, fun H2 F2 s2 x2 => k H2 F2 s2 (x1.trans x2)⟩
  | false =>
    rw [if_neg Bool.false_ne_true] at e3 ⊢
    cases e3
    exact k H1 F1 s1 x1
theorem snd_orC {a a2 : E} {r : EL} {ea eb : Expr} {er : List Expr} {pos : Pos} (ha : PE X ea (tEv T X.kw a)) (hr : PE X (.BoolOp .Or (eb :: er) pos) (tEvB T X.kw (.cons a2 r))) : PE X (.BoolOp .Or (ea :: eb :: er) pos) (tEvB T X.kw (.cons a (.cons a2 r))) := by
  refine PE.weak (pe_or ha hr) fun σ H Q ⟨env, F, b, env', s, e, k⟩ => ?_
  simp only [evOr, Option.bind_eq_some_iff] at e
  obtain ⟨⟨r1, env1⟩, e1, b', eb, e3⟩ := e
  refine ⟨env, F, r1, env1, s, e1, fun v H1 F1 s1 x1 p1 => ⟨b', truth_ok s1 p1 eb, ?_⟩⟩
  cases b' with
  | true =>
    rw [if_pos rfl] at e3 ⊢
    cases e3
    exact k H1 F1 s1 x1
  | false =>
    rw [if_neg Bool.false_ne_true] at e3 ⊢
    exact ⟨env1, F1, b, env', s1, e3, fun H2 F2 s2 x2 => k H2 F2 s2 (x1.trans x2)⟩
theorem snd_and1T {a : E} {ea : Expr} {pos : Pos} (ha : PT X ea (tEvT T X.kw a)) : PW X (.BoolOp .And [ea] pos) (tEvAT T X.kw (.cons a .nil)) := by
  refine PW.weak (pw_and1 ha) fun σ H Q ⟨env, F, b, env', s, e, k⟩ => ?_
  simp only [evAnd, Option.bind_eq_some_iff, Option.map_eq_some_iff] at e
  obtain ⟨⟨r1, env1⟩, e1, b', eb, e3⟩ := e
  cases e3
  exact ⟨env, F, r1, env1, _, s, e1, eb, fun H1 F1 s1 x1 => k H1 F1 s1 x1⟩
theorem snd_or1T {a : E} {ea : Expr} {pos : Pos} (ha : PT X ea (tEvT T X.kw a)) : PW X (.BoolOp .Or [ea] pos) (tEvBT T X.kw (.cons a .nil)) := by
  refine PW.weak (pw_or1 ha) fun σ H Q ⟨env, F, b, env', s, e, k⟩ => ?_
  simp only [evOr, Option.bind_eq_some_iff, Option.map_eq_some_iff] at e
  obtain ⟨⟨r1, env1⟩, e1, b', eb, e3⟩ := e
  cases e3
  exact ⟨env, F, r1, env1, _, s, e1, eb, fun H1 F1 s1 x1 => k H1 F1 s1 x1⟩
theorem snd_andCT {a a2 : E} {r : EL} {ea eb : Expr} {er : List Expr} {pos : Pos} (ha : PT X ea (tEvT T X.kw a)) (hr : PW X (.BoolOp .And (eb :: er) pos) (tEvAT T X.kw (.cons a2 r))) : PW X (.BoolOp .And (ea :: eb :: er) pos) (tEvAT T X.kw (.cons a (.cons a2 r))) := by
  refine PW.weak (pw_and ha hr) fun σ H Q ⟨env, F, b, env', s, e, k⟩ => ?_
  simp only [evAnd, Option.bind_eq_some_iff] at e
  obtain ⟨⟨r1, env1⟩, e1, b', eb, e3⟩ := e
  refine ⟨env, F, r1, env1, b', s, e1, eb, fun H1 F1 s1 x1 => ?_⟩
  cases b' with
  | true =>
    rw [if_pos rfl] at e3 ⊢
    exact ⟨env1, F1, b, env', s1, e3, fun H2 F2 s2 x2 => k H2 F2 s2 (x1.trans x2)⟩
  | false =>
    rw [if_neg Bool.false_ne_true] at e3 ⊢
    cases e3
    exact k H1 F1 s1 x1
theorem snd_orCT {a a2 : E} {r : EL} {ea eb : Expr} {er : List Expr} {pos : Pos} (ha : PT X ea (tEvT T X.kw a)) (hr : PW X (.BoolOp .Or (eb :: er) pos) (tEvBT T X.kw (.cons a2 r))) : PW X (.BoolOp .Or (ea :: eb :: er) pos) (tEvBT T X.kw (.cons a (.cons a2 r))) := by
  refine PW.weak (pw_or ha hr) fun σ H Q ⟨env, F, b, env', s, e, k⟩ => ?_
  simp only [evOr, Option.bind_eq_some_iff] at e
  obtain ⟨⟨r1, env1⟩, e1, b', eb, e3⟩ := e
  refine ⟨env, F, r1, env1, b', s, e1, eb, fun H1 F1 s1 x1 => ?_⟩
  cases b' with
  | true =>
    rw [if_pos rfl] at e3 ⊢
    cases e3
    exact k H1 F1 s1 x1
  | false =>
    rw [if_neg Bool.false_ne_true] at e3 ⊢
    exact ⟨env1, F1, b, env', s1, e3, fun H2 F2 s2 x2 => k H2 F2 s2 (x1.trans x2)⟩
theorem snd_andV {es : EL} {ee : Expr} (h : PE X ee (tEvA T X.kw es)) : PE X ee (tEv T X.kw (.and_ es)) := PE.weak h fun σ H Q ⟨env, F, r, env', s, e, k⟩ => by
  simp only [ev, Option.map_eq_some_iff] at e
  obtain ⟨⟨b, env1⟩, e1, e3⟩ := e
  cases e3
  exact ⟨env, F, b, _, s, e1, fun H1 F1 s1 x1 => k _ H1 F1 s1 x1 rr_bl⟩
theorem snd_orV {es : EL} {ee : Expr} (h : PE X ee (tEvB T X.kw es)) : PE X ee (tEv T X.kw (.or_ es)) := PE.weak h fun σ H Q ⟨env, F, r, env', s, e, k⟩ => by
  simp only [ev, Option.map_eq_some_iff] at e
  obtain ⟨⟨b, env1⟩, e1, e3⟩ := e
  cases e3
  exact ⟨env, F, b, _, s, e1, fun H1 F1 s1 x1 => k _ H1 F1 s1 x1 rr_bl⟩
theorem snd_andT {es : EL} {ee : Expr} (h : PW X ee (tEvAT T X.kw es)) : PT X ee (tEvT T X.kw (.and_ es)) := PT.weak h.pt fun σ H Q ⟨env, F, r, env', b, s, e, tr, k⟩ => by
  simp only [ev, Option.map_eq_some_iff] at e
  obtain ⟨⟨b', env1⟩, e1, e3⟩ := e
  cases e3
  simp only [look, truth, Option.some.injEq] at tr
  subst tr
  exact ⟨env, F, _, _, s, e1, fun H1 F1 s1 x1 => k H1 F1 s1 x1⟩
theorem snd_orT {es : EL} {ee : Expr} (h : PW X ee (tEvBT T X.kw es)) : PT X ee (tEvT T X.kw (.or_ es)) := PT.weak h.pt fun σ H Q ⟨env, F, r, env', b, s, e, tr, k⟩ => by
  simp only [ev, Option.map_eq_some_iff] at e
  obtain ⟨⟨b', env1⟩, e1, e3⟩ := e
  cases e3
  simp only [look, truth, Option.some.injEq] at tr
  subst tr
  exact ⟨env, F, _, _, s, e1, fun H1 F1 s1 x1 => k H1 F1 s1 x1⟩
theorem snd_notT {a : E} {ea : Expr} {pos : Pos} (ha : PT X ea (tEvT T X.kw a)) : PT X (.UnaryOp .Not ea pos) (tEvT T X.kw (.not_ a)) := by
  refine PT.weak (pt_not ha) fun σ H Q ⟨env, F, r, env', b, s, e, tr, k⟩ => ?_
  simp only [ev, Option.bind_eq_some_iff, Option.map_eq_some_iff] at e
  obtain ⟨⟨r1, env1⟩, e1, b', eb, e3⟩ := e
  cases e3
  simp only [look, truth, Option.some.injEq] at tr
  subst tr
  exact ⟨env, F, r1, _, b', s, e1, eb, fun H1 F1 s1 x1 => k H1 F1 s1 x1⟩
/-- a plain test -/
theorem snd_val {a : E} {ea : Expr} (ha : PE X ea (tEv T X.kw a)) (he : ∀ whole, isTrue ea X.env whole = (do let v ← whole; standAt ea.pos; holding [v] (truthy v))) : PT X ea (tEvT T X.kw a) := by
  refine PT.weak (pt_val ha he) fun σ H Q ⟨env, F, r, env', b, s, e, tr, k⟩ => ?_
  exact ⟨env, F, r, env', s, e, fun v H1 F1 s1 x1 p1 => ⟨b, truth_ok s1 p1 tr, k H1 F1 s1 x1⟩⟩
/-! ### isinstance -/
def tyBoot (t : String) : Bool := decide (bootBuiltins (Str.ofString t) = some (.type t))
theorem ty_of {K : Kw} {H F : Hp} (h : Le F H) {d : D} {v : V} (r : Vw K H F d v) : TyX K H v (.type (tyName d)) := by
  cases d with
  | none => rw [r.non]; exact .base .non
  | bool b => rw [r.bl]; exact .base (.bl b)
  | int i => rw [r.int]; exact .base (.int i)
  | str x => rw [r.str.1]; exact .base (.str x)
  | list xs => obtain ⟨_, a, vs, e, e2, _⟩ := r.lst; rw [e]; exact .base (.lst e2)
  | tuple xs =>
    obtain ⟨_, a, vs, e, e2, _⟩ := r.tup
    rw [e]
    rcases h.tup e2 with (q | ⟨o, q⟩) | ⟨o, its, n, q1, q2, _⟩
    · exact .base (.tup q)
    · exact .fTuple q
    · exact .kTuple q1 q2
  | dict _ => exact r.dict.elim
theorem kit_all : ∀ d : D, ∀ t : String, tyOk t = true → (∀ z, d ≠ .dict z) → kitB (tyName d) t = some (isTy d t) := by
  intro d t h hd
  have h := of_decide_eq_true h
  simp only [List.mem_cons, List.not_mem_nil, or_false] at h
  rcases h with rfl | rfl | rfl | rfl | rfl <;> cases d <;> first
    | exact absurd rfl (hd _)
    | (show kitB _ _ = some _; simp only [isTy, tyName]; decide +kernel)
theorem boot_ty {t : String} (h : tyOk t = true) : bootBuiltins (Str.ofString t) = some (.type t) := by
  have h := of_decide_eq_true h
  simp only [List.mem_cons, List.not_mem_nil, or_false] at h
  rcases h with rfl | rfl | rfl | rfl | rfl <;> decide +kernel
theorem mem_ty {t : String} (h : tyOk t = true) : Str.ofString t ∈ bNames ∧ Str.ofString t ≠ "__name__" ∧ (Str.ofString t == ("__debug__" : Str)) = false := by
  have h := of_decide_eq_true h
  simp only [List.mem_cons, List.not_mem_nil, or_false] at h
  rcases h with rfl | rfl | rfl | rfl | rfl <;> decide +kernel
theorem pe_ty {t : String} {e : Expr} {sc : Scope} (c : Cok T N X) (hsc : X.env.scope = sc) (h : ckTy t e sc = true) : PE X e (tC (.ty t)) ∧ (∀ x p, e ≠ .Starred x p) ∧ tyOk t = true := by
  cases e <;> simp only [ckTy, Bool.false_eq_true] at h
  rename_i x pos
  obtain ⟨h1, h3⟩ := band h
  obtain ⟨h1, h2⟩ := band h1
  have := of_decide_eq_true h1
  subst this
  obtain ⟨m1, m2, m3⟩ := mem_ty h3
  exact ⟨pe_bltn (show X.env.scope.names.lookup _ = _ by rw [hsc]; exact glo_of h2) (c.blt _ m1) (boot_ty h3) rfl m2 m3, (fun _ _ z => nomatch z), h3⟩
theorem noDict {K : Kw} {H F : Hp} {d : D} {v : V} (r : Vw K H F d v) : ∀ z, d ≠ .dict z := fun z e => by subst e; exact r.dict
theorem boot_isi : bootBuiltins "isinstance" = some (.builtin "isinstance") := by decide +kernel
theorem snd_isi1 {a : E} {ty : String} {x : Str} {ea et : Expr} {p pos : Pos} {sc : Scope} (c : Cok T N X) (hsc : X.env.scope = sc) (hx : x = ("isinstance" : Str)) (hg : gloB sc x = true) (ha : PE X ea (tEv T X.kw a)) (hs : ∀ x p, ea ≠ .Starred x p) (ht : ckTy ty et sc = true) :
    PE X (.Call (.Name x p) [ea, et] [] pos) (tEv T X.kw (.isi a [ty])) := by
  subst hx
  obtain ⟨pt, st, ok⟩ := pe_ty c hsc ht
  have hg' : Gl X "isinstance" := by
    show X.env.scope.names.lookup _ = _
    rw [hsc]; exact glo_of hg
  refine PE.weak (pe_callB call_isi hg' (c.blt _ (by decide +kernel)) boot_isi (pa_cons ha (pa_cons pt pa_nil (noStar st)) (noStar hs)) (by decide) (by decide) (noStar hs) (by rw [noStar st]; rfl)) fun σ H Q ⟨env, F, r, env', s, e, k⟩ => ?_
  simp only [ev, Option.bind_eq_some_iff, Option.map_eq_some_iff] at e
  obtain ⟨⟨r1, env1⟩, e1, d, ed, e3⟩ := e
  cases e3
  refine ⟨env, F, r1, env1, s, e1, fun v H1 F1 s1 x1 p1 => ?_⟩
  have vw := lookD_ok s1 p1 ed
  refine ⟨v, .ty ty, .type (tyName d), .type ty, isTy d ty, rfl, .ty ty, ty_of s1.fle vw, kit_ty (kit_all d ty ok (noDict vw)), ?_⟩
  refine k _ H1 F1 s1 x1 ?_
  rw [List.any_cons, List.any_nil, Bool.or_false]
  exact rr_bl
end
end Lc
/-! Targets, what is walked, comprehensions. -/
namespace Lc
open PySem L2
section
variable {X : Cx} {T : Tab} {N : List Str} {K : Kw} {env env1 : Env} {σ σ1 : L2.St} {H H1 F F1 : Hp}
/-! ### stores -/
theorem free_lt {i : Nat} (h : freeS env i = true) : i < env.length := by
  unfold freeS at h
  split at h
  · exact lt_of_get (by assumption)
  · cases h
/-- a value into a slot -/
theorem Sat.put (s : Sat K env σ H F) {i : Nat} {v : V} {t : Slot} (hf : freeS env i = true) (ok : SlotOk K H F (some (some v)) t) (hp : t.par = false)
    (no : t.isOwn = true → ∀ a, v = .ref a → ¬ Owned env σ a) (fr : t.isOwn = true → ∀ a, v = .ref a → F a = none) {env0 : Env} {σ0 : L2.St} {H0 F0 : Hp} (x : Ext env0 σ0 H0 F0 env σ H F) (hn : t.isOwn = true → ∀ a, v = .ref a → H0 a = none) :
    Sat K (env.set i t) (σ.set i (some v)) H F ∧ Ext env0 σ0 H0 F0 (env.set i t) (σ.set i (some v)) H F := by
  have hl := free_lt hf
  have hl2 : i < σ.length := by rw [← s.len]; exact hl
  have own : ∀ j a, Owns (env.set i t) (σ.set i (some v)) j a → (j = i ∧ v = .ref a ∧ t.isOwn = true) ∨ (j ≠ i ∧ Owns env σ j a) := fun j a ⟨h1, t', h2, h3⟩ => by
    by_cases hj : i = j
    · subst hj
      rw [get_set_same hl] at h2
      rw [get_set_same hl2] at h1
      cases h2
      have : v = .ref a := by simpa using h1
      exact .inl ⟨rfl, this, h3⟩
    · rw [get_set_ne hj] at h1 h2
      exact .inr ⟨fun e => hj e.symm, h1, t', h2, h3⟩
  refine ⟨⟨s.fle, by rw [List.length_set, List.length_set]; exact s.len, fun j t' h => ?_, fun j k a h1 h2 => ?_⟩, ⟨x.f, x.fn, x.h, x.dm, fun a ⟨j, h⟩ => ?_, fun j t' h p => ?_⟩⟩
  · by_cases hj : i = j
    · subst hj
      rw [get_set_same hl] at h
      rw [get_set_same hl2]
      cases h
      exact ok
    · rw [get_set_ne hj] at h ⊢
      exact s.sl j t' h
  · rcases own j a h1 with ⟨e1, e2, e3⟩ | ⟨e1, e2⟩
    · rcases own k a h2 with ⟨f1, f2, f3⟩ | ⟨f1, f2⟩
      · rw [e1, f1]
      · exact absurd ⟨k, f2⟩ (no e3 a e2)
    · rcases own k a h2 with ⟨f1, f2, f3⟩ | ⟨f1, f2⟩
      · exact absurd ⟨j, e2⟩ (no f3 a f2)
      · exact s.inj j k a e2 f2
  · rcases own j a h with ⟨e1, e2, e3⟩ | ⟨e1, e2⟩
    · exact .inr (hn e3 a e2)
    · exact x.ow a ⟨j, e2⟩
  · obtain ⟨t2, h1, h2, h3, h4⟩ := x.pr j t' h p
    have hj : i ≠ j := fun e => by
      subst e
      unfold freeS at hf
      rw [h1] at hf
      simp [h2] at hf
    exact ⟨t2, by rw [get_set_ne hj]; exact h1, h2, h3, by rw [get_set_ne hj]; exact h4⟩
/-- a target's reading -/
def tTg (K : Kw) (tg : Tg) : TG := fun v σ H Q => ∃ env F d env', Sat K env σ H F ∧ Rp K F d v ∧ asg tg d env = some env' ∧
  ∀ σ', Sat K env' σ' H F → Ext env σ H F env' σ' H F → (∀ (j : Nat), j ∉ tgSlots tg → σ'[j]? = σ[j]?) → σ'.length = σ.length → Q σ' H
def tNs (K : Kw) (is : List Nat) : TGs := fun vs σ H Q => ∃ env F ds env', Sat K env σ H F ∧ RpL K F ds vs ∧ asgN is ds env = some env' ∧
  ∀ σ', Sat K env' σ' H F → Ext env σ H F env' σ' H F → (∀ (j : Nat), j ∉ is → σ'[j]? = σ[j]?) → σ'.length = σ.length → Q σ' H
theorem PG.weak {tg : Expr} {t t' : TG} (h : PG X tg t) (k : ∀ v σ H Q, t' v σ H Q → t v σ H Q) : PG X tg t' := ⟨fun pins s σ H v u Q I r w => h.run pins s σ H v u Q I r (k v σ H Q w)⟩
theorem PGs.weak {tg : List Expr} {t t' : TGs} (h : PGs X tg t) (k : ∀ v σ H Q, t' v σ H Q → t v σ H Q) : PGs X tg t' := ⟨fun pins s σ H v u Q I r w => h.run pins s σ H v u Q I r (k v σ H Q w)⟩
/-- where names may be stored -/
structure Sok (N : List Str) (X : Cx) (sc : Scope) (b : Bool) : Prop where
  hN : X.N = N
  nd : N.Nodup
  sc : X.env.scope = sc
  fn : b = false → ∀ x, X.fn x = true
theorem pg_n {i : Nat} {e : Expr} {sc : Scope} {b : Bool} (c : Sok N X sc b) (h : ckN N i e sc b = true) : PG X e (gName i) ∧ ∃ x p, e = .Name x p := by
  unfold ckN at h
  split at h
  · rename_i x pos
    obtain ⟨h1, h2⟩ := band h
    have h1 := of_decide_eq_true h1
    refine ⟨?_, x, pos, rfl⟩
    cases b with
    | true =>
      rw [if_pos rfl] at h2
      have hl : sc.names.lookup x = some .local := by
        split at h2
        · assumption
        · cases h2
      exact pg_name (by rw [c.hN]; exact c.nd) (by rw [c.hN]; exact h1) (.inl (by rw [c.sc]; exact hl)) (.inr (by rw [c.sc]; exact hl))
    | false =>
      rw [if_neg Bool.false_ne_true] at h2
      exact pg_name (by rw [c.hN]; exact c.nd) (by rw [c.hN]; exact h1) (by rw [c.sc]; exact loc_of h2) (.inl (c.fn rfl x))
  · cases h
theorem each_name {x : Str} {p : Pos} {es : List Expr} {env : PySem.Env} : assignEach (.Name x p :: es) env = (false, assign (.Name x p) env) :: assignEach es env := rfl
theorem pg_ns : ∀ {is : List Nat} {es : List Expr} {sc : Scope} {b : Bool}, Sok N X sc b → ckNs N is es sc b = true → PGs X es (tNs X.kw is) ∧ (assignEach es X.env).length = is.length ∧ (assignEach es X.env).findIdx? (·.1) = none
  | [], [], _, _, c, h => ⟨PGs.weak pgs_nil fun vs σ H Q ⟨env, F, ds, env', s, r, e, k⟩ => by
      cases ds with
      | nil => rw [RpL] at r; subst r; simp [asgN] at e; subst e; exact ⟨rfl, k σ s Ext.refl (fun _ _ => rfl) rfl⟩
      | cons d ds => simp [asgN] at e, rfl, rfl⟩
  | [], _ :: _, _, _, c, h => by simp [ckNs] at h
  | _ :: _, [], _, _, c, h => by simp [ckNs] at h
  | i :: is, e :: es, sc, b, c, h => by
    simp only [ckNs] at h
    obtain ⟨h1, h2⟩ := band h
    obtain ⟨p1, x, p, rfl⟩ := pg_n c h1
    obtain ⟨p2, l2, f2⟩ := pg_ns c h2
    refine ⟨PGs.weak (pgs_cons p1 p2 rfl) fun vs σ H Q ⟨env, F, ds, env', s, r, e, k⟩ => ?_, by rw [each_name]; simp [l2], ?_⟩
    · cases ds with
      | nil => simp [asgN] at e
      | cons d ds =>
        rw [RpL] at r
        obtain ⟨v, w, e1, e2, e3⟩ := r
        simp only [asgN] at e
        split at e
        · rename_i hf
          obtain ⟨s1, x1⟩ := s.put (t := .dat d) hf ⟨v, rfl, e2⟩ rfl (fun z => nomatch z) (fun z => nomatch z) (Ext.refl (env := env) (σ := σ) (H := H) (F := F)) (fun z => nomatch z)
          refine ⟨v, w, e1, env.set i (.dat d), F, ds, env', s1, e3, e, fun σ' s' x' k' l' => k σ' s' (x1.trans x') (fun j hj => ?_) (by rw [l', List.length_set])⟩
          simp only [List.mem_cons, not_or] at hj
          rw [k' j hj.2, get_set_ne (fun z => hj.1 z.symm)]
        · cases e
    · rw [each_name, List.findIdx?_cons]
      simp only [Bool.false_eq_true, if_false]
      rw [f2]; rfl
theorem asgN_len : ∀ {is : List Nat} {ds : List D} {env env1 : Env}, asgN is ds env = some env1 → ds.length = is.length
  | [], [], _, _, _ => rfl
  | [], _ :: _, _, _, e => by simp [asgN] at e
  | _ :: _, [], _, _, e => by simp [asgN] at e
  | i :: is, d :: ds, env, env1, e => by
    simp only [asgN] at e
    split at e
    · simp [asgN_len e]
    · cases e
theorem pg_tupN {is : List Nat} {es : List Expr} {sc : Scope} {b : Bool} {kk : Nat} {pos : Pos} (hc : X.calm = true) (c : Sok N X sc b) (h : ckNs N is es sc b = true) : PG X (.Tuple es kk pos) (tTg X.kw (.tp is)) := by
  obtain ⟨p, l, f⟩ := pg_ns c h
  refine PG.weak (pg_tup hc p l f) fun v σ H Q ⟨env, F, d, env', s, r, e, k⟩ => ?_
  cases d <;> simp [asg] at e
  rename_i ds
  rw [Rp] at r
  obtain ⟨z, a, vs, e1, e2, e3⟩ := r
  have hlen := asgN_len e
  exact ⟨a, vs, e1, s.fle.tup e2, by rw [e3.length]; exact hlen, env, F, ds, env', s, e3, e, fun σ' s' x' k' l' => k σ' s' x' k' l'⟩
theorem asg_pp {a b c d : Nat} {dd : D} {env' : Env} (e : asg (.pp a b c d) dd env = some env') : ∃ xs ys envm, dd = .tuple [.tuple xs, .tuple ys] ∧ asg (.tp [a, b]) (.tuple xs) env = some envm ∧ asg (.tp [c, d]) (.tuple ys) envm = some env' := by
  unfold asg at e
  split at e
  · exact nomatch (by assumption : Tg.pp a b c d = Tg.nm _)
  · exact nomatch (by assumption : Tg.pp a b c d = Tg.tp _)
  · have q := (by assumption : Tg.pp a b c d = Tg.pp _ _ _ _)
    cases q
    rw [Option.bind_eq_some_iff] at e
    obtain ⟨envm, e1, e2⟩ := e
    exact ⟨_, _, envm, rfl, e1, e2⟩
  · exact nomatch (by assumption : Tg.pp a b c d = Tg.np _ _ _)
  · cases e
theorem asg_np {a c d : Nat} {dd : D} {env' : Env} (e : asg (.np a c d) dd env = some env') : ∃ x ys envm, dd = .tuple [x, .tuple ys] ∧ asgN [a] [x] env = some envm ∧ asg (.tp [c, d]) (.tuple ys) envm = some env' := by
  unfold asg at e
  split at e
  · exact nomatch (by assumption : Tg.np a c d = Tg.nm _)
  · exact nomatch (by assumption : Tg.np a c d = Tg.tp _)
  · exact nomatch (by assumption : Tg.np a c d = Tg.pp _ _ _ _)
  · have q := (by assumption : Tg.np a c d = Tg.np _ _ _)
    cases q
    rw [Option.bind_eq_some_iff] at e
    obtain ⟨envm, e1, e2⟩ := e
    exact ⟨_, _, envm, rfl, e1, e2⟩
  · cases e
theorem snd_tg {tg : Tg} {e : Expr} {sc : Scope} {b : Bool} (hc : X.calm = true) (c : Sok N X sc b) (h : ckTg N tg e sc b = true) : PG X e (tTg X.kw tg) := by
  unfold ckTg at h
  split at h
  · rename_i i
    obtain ⟨p, _⟩ := pg_n c h
    refine PG.weak p fun v σ H Q ⟨env, F, d, env', s, r, e, k⟩ => ?_
    simp only [asg] at e
    split at e
    · rename_i hf
      cases e
      obtain ⟨s1, x1⟩ := s.put (t := .dat d) hf ⟨v, rfl, r⟩ rfl (fun z => nomatch z) (fun z => nomatch z) (Ext.refl (env := env) (σ := σ) (H := H) (F := F)) (fun z => nomatch z)
      exact k _ s1 x1 (fun j hj => get_set_ne (by simp [tgSlots] at hj; exact fun e => hj e.symm)) List.length_set
    · cases e
  · exact pg_tupN hc c h
  · obtain ⟨h1, h2⟩ := band h
    rename_i i j k l es _ _ fs _ _ _ _
    refine PG.weak (pg_tup hc (pgs_cons (pg_tupN hc c h1) (pgs_cons (pg_tupN hc c h2) pgs_nil rfl) rfl) rfl rfl) fun v σ H Q ⟨env, F, d, env', s, r, e, kk⟩ => ?_
    obtain ⟨xs, ys, envm, rfl, e1, e2⟩ := asg_pp e
    rw [Rp] at r
    obtain ⟨z, a, vs, f1, f2, f3⟩ := r
    rw [RpL] at f3
    obtain ⟨v1, r1, g1, g2, g3⟩ := f3
    rw [RpL] at g3
    obtain ⟨v2, r2, g4, g5, g6⟩ := g3
    rw [RpL] at g6
    subst g1 g4 g6
    refine ⟨a, _, f1, s.fle.tup f2, rfl, v1, [v2], rfl, env, F, .tuple xs, envm, s, g2, e1, fun σ1 s1 x1 k1 l1 => ⟨v2, [], rfl, envm, F, .tuple ys, env', s1, g5, e2, fun σ2 s2 x2 k2 l2 => ⟨rfl, kk σ2 s2 (x1.trans x2) (fun m hm => ?_) (l2.trans l1)⟩⟩⟩
    simp [tgSlots] at hm
    rw [k2 m (by simp [tgSlots]; omega), k1 m (by simp [tgSlots]; omega)]
  · obtain ⟨h1, h2⟩ := band h
    rename_i i k l e0 fs _ _ _ _
    have h1' : ckNs N [i] [e0] sc b = true := by simp only [ckNs, h1, Bool.and_self]
    obtain ⟨p0, x, px, rfl⟩ := pg_n c h1
    refine PG.weak (pg_tup hc (pgs_cons p0 (pgs_cons (pg_tupN hc c h2) pgs_nil rfl) rfl) rfl rfl) fun v σ H Q ⟨env, F, d, env', s, r, e, kk⟩ => ?_
    obtain ⟨x, ys, envm, rfl, e1, e2⟩ := asg_np e
    rw [Rp] at r
    obtain ⟨z, a, vs, f1, f2, f3⟩ := r
    rw [RpL] at f3
    obtain ⟨v1, r1, g1, g2, g3⟩ := f3
    rw [RpL] at g3
    obtain ⟨v2, r2, g4, g5, g6⟩ := g3
    rw [RpL] at g6
    subst g1 g4 g6
    simp only [asgN] at e1
    split at e1
    · rename_i hf
      cases e1
      obtain ⟨s1, x1⟩ := s.put (t := .dat x) hf ⟨v1, rfl, g2⟩ rfl (fun z => nomatch z) (fun z => nomatch z) (Ext.refl (env := env) (σ := σ) (H := H) (F := F)) (fun z => nomatch z)
      refine ⟨a, _, f1, s.fle.tup f2, rfl, v1, [v2], rfl, ⟨v2, [], rfl, _, F, .tuple ys, env', s1, g5, e2, fun σ2 s2 x2 k2 l2 => ⟨rfl, kk σ2 s2 (x1.trans x2) (fun m hm => ?_) (l2.trans List.length_set)⟩⟩⟩
      simp [tgSlots] at hm
      rw [k2 m (by simp [tgSlots]; omega), get_set_ne (fun e => hm.1 e.symm)]
    · cases e1
  · cases h
/-! ### what is walked -/
/-- it gives these, one after another, whatever is done meanwhile -/
def Wk (K : Kw) (env : Env) (σ : L2.St) (H F : Hp) (J : It) (items : List D) : Prop := items.length ≤ sizeLine ∧ ∃ (G : Hp → Prop) (Y : Nat → Hp → V → Hp → Prop), Walk J items.length G Y ∧
  (∀ env2 σ2 H2 F2, Sat K env2 σ2 H2 F2 → Ext env σ H F env2 σ2 H2 F2 → G H2) ∧
  (∀ (i : Nat) x d env2 σ2 H2 F2 H3, Sat K env2 σ2 H2 F2 → Ext env σ H F env2 σ2 H2 F2 → Y i H2 x H3 → items[i]? = some d → ∃ F3, Grow H2 F2 H3 F3 ∧ Rp K F3 d x)
def tSrc (T : Tab) (K : Kw) (src : Src) : TI := fun σ H R => ∃ env F items lk env', Sat K env σ H F ∧ evSrc T src env = some (items, lk, env') ∧ (lk = none ∨ ∃ r, lk = lockS env' r) ∧
  ∀ J H' F', Sat K env' σ H' F' → Ext env σ H F env' σ H' F' → Wk K (lock env' lk) σ H' F' J items → R J H'
/-- a list that is seen stands still while it is walked -/
theorem listed {Hs : Hp} {v : V} {r : R} {xs : List D} (s : Sat K env σ H F) (p : RepR K env σ H F Hs v r) (e : look env r = some (.d (.list xs))) :
    ∃ a vs, v = .ref a ∧ H a = some (.lst vs) ∧ RpL K F xs vs ∧ (F a = some (.lst vs) ∨ ¬ Owned (lock env (lockS env r)) σ a) := by
  have fr : ∀ {d : D}, Rp K F (.list xs) v → ∃ a vs, v = .ref a ∧ H a = some (.lst vs) ∧ RpL K F xs vs ∧ (F a = some (.lst vs) ∨ ¬ Owned (lock env (lockS env r)) σ a) := fun {d} rp => by
    rw [Rp] at rp
    obtain ⟨z, a, vs, e1, e2, e3⟩ := rp
    exact ⟨a, vs, e1, s.fle a _ e2, e3, .inl e2⟩
  cases r with
  | dat d => simp only [look, Option.some.injEq, Ob.d.injEq] at e; subst e; exact fr (d := .none) p
  | new c =>
    cases c with
    | d t kvs => simp [look, C.ob] at e
    | l ys =>
    simp only [look, C.ob, Option.some.injEq, Ob.d.injEq, PyData.list.injEq] at e; subst e
    obtain ⟨a, u, e1, e2, e3, ⟨z, vs, eu, e4⟩, e5, e6⟩ := p
    subst eu
    exact ⟨a, vs, e1, e2, e4, .inr fun o => e5 (lock_own o)⟩
  | slot i =>
    have p : σ[i]? = some (some v) := p
    simp only [look] at e
    split at e
    · rename_i d q
      simp only [Option.some.injEq, Ob.d.injEq] at e; subst e
      obtain ⟨w, e1, e2⟩ := s.sl i _ q
      rw [p] at e1; cases e1
      exact fr (d := .none) e2
    · rename_i pp c q
      cases c with
      | d t kvs => simp [C.ob] at e
      | l ys =>
      simp only [C.ob, Option.some.injEq, Ob.d.injEq, PyData.list.injEq] at e; subst e
      obtain ⟨a, u, e1, e2, e3, z, vs, eu, e4⟩ := s.sl i _ q
      subst eu
      rw [p] at e1; cases e1
      refine ⟨a, vs, rfl, e2, e4, .inr ?_⟩
      have hl : lockS env (.slot i) = some i := by simp only [lockS, q]
      rw [hl]
      rintro ⟨j, k1, t, k2, k3⟩
      by_cases hj : i = j
      · subst hj
        have : (lock env (some i))[i]? = some .hid := get_set_same (lt_of_get q)
        rw [this] at k2; cases k2; cases k3
      · have k2 : env[j]? = some t := by rw [← k2]; exact (get_set_ne hj).symm
        exact hj (s.inj i j a ⟨p, _, q, rfl⟩ ⟨k1, t, k2, k3⟩)
    · cases e
    · cases e
theorem still {a : Addr} {vs : List V} (h : H a = some (.lst vs)) (w : F a = some (.lst vs) ∨ ¬ Owned env σ a) {env2 : Env} {σ2 : L2.St} {H2 F2 : Hp} (s2 : Sat K env2 σ2 H2 F2) (x : Ext env σ H F env2 σ2 H2 F2) : H2 a = some (.lst vs) := by
  rcases w with w | w
  · exact s2.fle a _ (x.f a _ w)
  · exact x.h a _ h w
theorem wk_list {a : Addr} {vs : List V} {xs : List D} (hz : xs.length ≤ sizeLine) (h : H a = some (.lst vs)) (w : F a = some (.lst vs) ∨ ¬ Owned env σ a) (r : RpL K F xs vs) : Wk K env σ H F (Itl K a) xs := by
  refine ⟨hz, fun H => SqL K H a vs, YAt vs, by rw [← r.length]; exact walk_list, fun env2 σ2 H2 F2 s2 x => SqL.of (still h w s2 x), fun i x d env2 σ2 H2 F2 H3 s2 ex y e => ?_⟩
  obtain ⟨y1, y2⟩ := y
  subst y1
  obtain ⟨d', e1, e2⟩ := r.get' y2
  rw [e] at e1; cases e1
  exact ⟨F2, Grow.refl s2.fle, Rp.mono ex.f _ _ e2⟩
theorem wk_tup {a : Addr} {vs : List V} {xs : List D} (hz : xs.length ≤ sizeLine) (h : SqT K F a vs) (r : RpL K F xs vs) : Wk K env σ H F (Itt K a) xs := by
  refine ⟨hz, fun H => SqT K H a vs, YAt vs, by rw [← r.length]; exact walk_tup, fun env2 σ2 H2 F2 s2 x => s2.fle.tup (x.f.tup h), fun i x d env2 σ2 H2 F2 H3 s2 ex y e => ?_⟩
  obtain ⟨y1, y2⟩ := y
  subst y1
  obtain ⟨d', e1, e2⟩ := r.get' y2
  rw [e] at e1; cases e1
  exact ⟨F2, Grow.refl s2.fle, Rp.mono ex.f _ _ e2⟩
theorem wk_str {z : Str} (g : strG z) : Wk K env σ H F (Its z) (z.cps.toList.map fun c => .str ⟨#[c]⟩) := by
  refine ⟨by rw [List.length_map, Array.length_toList]; exact g.2, fun _ => True, _, by rw [List.length_map, Array.length_toList]; exact walk_str, fun _ _ _ _ _ _ => trivial, fun i x d env2 σ2 H2 F2 H3 s2 ex y e => ?_⟩
  obtain ⟨y1, c, y2, y3⟩ := y
  subst y1 y3
  rw [List.getElem?_map, Array.getElem?_toList, y2] at e
  cases e
  have hm : c ∈ z.cps.toList := by
    rw [← Array.getElem?_toList] at y2
    exact List.mem_of_getElem? y2
  exact ⟨F2, Grow.refl s2.fle, rp_str (strG_one g hm)⟩
theorem wk_range {n : Nat} (hz : n ≤ sizeLine) : Wk K env σ H F (Itr 0 n) ((List.range n).map fun k => .int (Int.ofNat k)) := by
  refine ⟨by rw [List.length_map, List.length_range]; exact hz, fun _ => True, _, by rw [List.length_map, List.length_range]; exact walk_range, fun _ _ _ _ _ _ => trivial, fun i x d env2 σ2 H2 F2 H3 s2 ex y e => ?_⟩
  obtain ⟨y1, y2⟩ := y
  subst y1 y2
  rw [List.getElem?_map] at e
  cases q : (List.range n)[i]? with
  | none => rw [q] at e; cases e
  | some m =>
    rw [q] at e
    cases e
    have : m = i := by
      obtain ⟨h1, h2⟩ := List.getElem?_eq_some_iff.mp q
      simpa using h2.symm
    subst this
    refine ⟨F2, Grow.refl s2.fle, ?_⟩
    rw [Rp]
    simp
theorem snd_seq {a : E} {ea tg : Expr} (ha : PE X ea (tEv T X.kw a)) : PI X tg ea (tSrc T X.kw (.seq a)) := by
  refine ⟨fun pins st σ H R I w => ?_⟩
  obtain ⟨env, F, items, lk, env', s, e, _, k⟩ := id w
  simp only [evSrc, Option.bind_eq_some_iff, Option.map_eq_some_iff] at e
  obtain ⟨⟨r1, env1⟩, e1, o, eo, xs, ex, e3⟩ := e
  cases e3
  unfold seqOf at ex
  split at ex
  · cases ex
    refine (pi_list ha).run pins st σ H R I ⟨env, F, r1, env1, s, e1, fun v H1 F1 s1 x1 p1 => ?_⟩
    obtain ⟨ad, vs, f1, f2, f3, f4⟩ := listed s1 p1 eo
    exact ⟨ad, f1, ⟨vs, SqL.of f2⟩, k _ H1 F1 s1 x1 (wk_list (look_ok s1 p1 eo).vw.lst.1 f2 f4 f3)⟩
  · cases ex
    refine (pi_tup ha).run pins st σ H R I ⟨env, F, r1, env1, s, e1, fun v H1 F1 s1 x1 p1 => ?_⟩
    obtain ⟨z, ad, vs, f1, f2, f3⟩ := (look_ok s1 p1 eo).vw.tup
    exact ⟨ad, f1, ⟨vs, s1.fle.tup f2⟩, k _ H1 F1 s1 x1 (wk_tup z f2 f3)⟩
  · cases ex
    refine (pi_str ha).run pins st σ H R I ⟨env, F, r1, env1, s, e1, fun v H1 F1 s1 x1 p1 => ?_⟩
    obtain ⟨f1, f2⟩ := (look_ok s1 p1 eo).vw.str
    exact ⟨_, f1, k _ H1 F1 s1 x1 (wk_str f2)⟩
  · cases ex
theorem snd_rng {a : E} {ea tg : Expr} {x : Str} {p pos : Pos} {sc : Scope} (c : Cok T N X) (hsc : X.env.scope = sc) (hx : x = ("range" : Str)) (hg : gloB sc x = true) (ha : PE X ea (tEv T X.kw a)) (hs : ∀ x p, ea ≠ .Starred x p) :
    PI X tg (.Call (.Name x p) [ea] [] pos) (tSrc T X.kw (.rng a)) := by
  subst hx
  have hg' : Gl X "range" := by
    show X.env.scope.names.lookup _ = _
    rw [hsc]; exact glo_of hg
  refine PI.weak (pi_range1 hg' (c.blt _ (by decide +kernel)) (pa_cons ha pa_nil (noStar hs)) (noStar hs)) fun σ H R ⟨env, F, items, lk, env', s, e, _, k⟩ => ?_
  simp only [evSrc, Option.bind_eq_some_iff] at e
  obtain ⟨⟨r1, env1⟩, e1, d, ed, e3⟩ := e
  split at e3
  · rename_i n
    split at e3
    · rename_i hz
      cases e3
      refine ⟨env, F, r1, env1, s, e1, fun v H1 F1 s1 x1 p1 => ?_⟩
      exact ⟨n, by rw [(lookD_ok s1 p1 ed).int], by omega, by omega, k _ H1 F1 s1 x1 (wk_range (by show n.toNat ≤ 16777216; omega))⟩
    · cases e3
  · cases e3
theorem enum_get : ∀ {xs : List D} {n i : Nat} {d : D}, (enumD n xs)[i]? = some d → ∃ x, xs[i]? = some x ∧ d = .tuple [.int ((n + i : Nat) : Int), x]
  | [], _, _, _, h => by simp [enumD] at h
  | x :: xs, n, 0, d, h => by simp [enumD] at h; exact ⟨x, rfl, h.symm⟩
  | x :: xs, n, i + 1, d, h => by
    simp only [enumD, List.getElem?_cons_succ] at h
    obtain ⟨y, h1, h2⟩ := enum_get h
    exact ⟨y, by simpa using h1, by rw [h2, show n + 1 + i = n + (i + 1) by omega]⟩
theorem enum_len : ∀ {xs : List D} {n : Nat}, (enumD n xs).length = xs.length
  | [], _ => rfl
  | x :: xs, n => by simp [enumD, enum_len]
theorem grow_pair {v1 v2 : V} {d1 d2 : D} {p : Addr} (h : Le F H) (n : H p = none) (r1 : Rp K F d1 v1) (r2 : Rp K F d2 v2) : ∃ F3, Grow H F (upd H p (.tup [v1, v2])) F3 ∧ Rp K F3 (.tuple [d1, d2]) (.ref p) := by
  have g := Grow.tup h n [v1, v2]
  refine ⟨_, g, ?_⟩
  rw [Rp]
  exact ⟨by show 2 ≤ sizeLine; decide, p, _, rfl, SqT.of upd_same, RpL.cons (Rp.mono g.f _ _ r1) (RpL.cons (Rp.mono g.f _ _ r2) RpL.nil)⟩
theorem wk_enum {a : Addr} {vs : List V} {xs : List D} (hz : xs.length ≤ sizeLine) (h : H a = some (.lst vs)) (w : F a = some (.lst vs) ∨ ¬ Owned env σ a) (r : RpL K F xs vs) : Wk K env σ H F (Ite K a) (enumD 0 xs) := by
  refine ⟨by rw [enum_len]; exact hz, fun H => SqL K H a vs, _, by rw [enum_len, ← r.length]; exact walk_enum, fun env2 σ2 H2 F2 s2 x => SqL.of (still h w s2 x), fun i x d env2 σ2 H2 F2 H3 s2 ex y e => ?_⟩
  obtain ⟨p, x1, x2, y1, y2, y3, y4, y5⟩ := y
  subst y1 y3
  cases y4
  obtain ⟨d', e1, e2⟩ := enum_get e
  obtain ⟨d2, f1, f2⟩ := r.get' y5
  rw [e1] at f1; cases f1
  subst e2
  rw [Nat.zero_add]
  exact grow_pair s2.fle y2 rp_int (Rp.mono ex.f _ _ f2)
theorem snd_enum {a : E} {ea tg : Expr} {x : Str} {p pos : Pos} {sc : Scope} (c : Cok T N X) (hsc : X.env.scope = sc) (hx : x = ("enumerate" : Str)) (hg : gloB sc x = true) (ht : isTupE tg = true) (ha : PE X ea (tEv T X.kw a)) (hs : ∀ x p, ea ≠ .Starred x p) :
    PI X tg (.Call (.Name x p) [ea] [] pos) (tSrc T X.kw (.enum a)) := by
  subst hx
  have hg' : Gl X "enumerate" := by
    show X.env.scope.names.lookup _ = _
    rw [hsc]; exact glo_of hg
  cases tg <;> simp only [isTupE, Bool.false_eq_true] at ht
  refine PI.weak (pi_enum hg' (c.blt _ (by decide +kernel)) (pa_cons ha pa_nil (noStar hs)) (noStar hs)) fun σ H R ⟨env, F, items, lk, env', s, e, _, k⟩ => ?_
  simp only [evSrc, Option.bind_eq_some_iff] at e
  obtain ⟨⟨r1, env1⟩, e1, d, ed, e3⟩ := e
  split at e3
  · rename_i xs
    cases e3
    refine ⟨env, F, r1, env1, s, e1, fun v H1 F1 s1 x1 p1 => ?_⟩
    have eo : look env1 r1 = some (.d (.list xs)) := by
      unfold lookD at ed
      cases q : look env1 r1 with
      | none => simp [q] at ed
      | some o => cases o <;> simp [q, Ob.dat] at ed; subst ed; rfl
    obtain ⟨ad, vs, f1, f2, f3, f4⟩ := listed s1 p1 eo
    exact ⟨ad, vs, by rw [f1], SqL.of f2, k _ H1 F1 s1 x1 (wk_enum (look_ok s1 p1 eo).vw.lst.1 f2 f4 f3)⟩
  · cases e3
theorem zip_get : ∀ {xs ys : List D} {i : Nat} {d : D}, (zipD xs ys)[i]? = some d → ∃ x y, xs[i]? = some x ∧ ys[i]? = some y ∧ d = .tuple [x, y]
  | [], _, _, _, h => by simp [zipD] at h
  | _ :: _, [], _, _, h => by simp [zipD] at h
  | x :: xs, y :: ys, 0, d, h => by simp [zipD] at h; exact ⟨x, y, rfl, rfl, h.symm⟩
  | x :: xs, y :: ys, i + 1, d, h => by
    simp only [zipD, List.getElem?_cons_succ] at h
    obtain ⟨a, b, h1, h2, h3⟩ := zip_get h
    exact ⟨a, b, by simpa using h1, by simpa using h2, h3⟩
theorem zip_at : ∀ {xs ys : List D} {i : Nat} {x y : D}, xs[i]? = some x → ys[i]? = some y → (zipD xs ys)[i]? = some (.tuple [x, y])
  | [], _, _, _, _, h, _ => by simp at h
  | _ :: _, [], _, _, _, _, h => by simp at h
  | a :: xs, b :: ys, 0, x, y, h1, h2 => by simp at h1 h2; subst h1 h2; rfl
  | a :: xs, b :: ys, i + 1, x, y, h1, h2 => by
    simp only [zipD, List.getElem?_cons_succ] at h1 h2 ⊢
    exact zip_at h1 h2
theorem zip_len : ∀ {xs ys : List D}, (zipD xs ys).length = min xs.length ys.length
  | [], _ => by simp [zipD]
  | _ :: _, [] => by simp [zipD]
  | x :: xs, y :: ys => by simp only [zipD, List.length_cons, zip_len]; omega
theorem wk_zip {a b : Addr} {vs ws : List V} {xs ys : List D} (hz : xs.length ≤ sizeLine) (h : F a = some (.lst vs)) (h' : F b = some (.lst ws)) (r : RpL K F xs vs) (r' : RpL K F ys ws) : Wk K env σ H F (Itz K a b) (zipD xs ys) := by
  refine ⟨by rw [zip_len]; omega, fun H => SqL K H a vs ∧ SqL K H b ws, _, by rw [zip_len]; exact walk_zip (by rw [r.length, r'.length]), fun env2 σ2 H2 F2 s2 x => ⟨SqL.of (s2.fle a _ (x.f a _ h)), SqL.of (s2.fle b _ (x.f b _ h'))⟩, fun i x d env2 σ2 H2 F2 H3 s2 ex y e => ?_⟩
  obtain ⟨p, x1, x2, y1, y2, y3, y4, y5⟩ := y
  subst y1 y3
  obtain ⟨d1, d2, e1, e2, e3⟩ := zip_get e
  obtain ⟨c1, f1, f2⟩ := r.get' y4
  obtain ⟨c2, f3, f4⟩ := r'.get' y5
  rw [e1] at f1; cases f1
  rw [e2] at f3; cases f3
  subst e3
  exact grow_pair s2.fle y2 (Rp.mono ex.f _ _ f2) (Rp.mono ex.f _ _ f4)
theorem walk_zipT {a b : Addr} {xs ys : List V} {n : Nat} (hn : n = min xs.length ys.length) : Walk (RZ.ItzT K a b) n (fun H => SqT K H a xs ∧ SqT K H b ys) (YPair (fun i => xs[i]?) (fun i => ys[i]?)) := by
  subst hn
  refine ⟨fun i _ hi q => ?_, fun _ q => ⟨xs, ys, q.1, q.2, by omega⟩, fun i H v H' _ q y => ?_⟩
  · exact ⟨xs, ys, xs[i]'(by omega), ys[i]'(by omega), q.1, q.2, by simp, by simp⟩
  · obtain ⟨p, x, z, h1, h2, h3, h4, h5⟩ := y
    exact ⟨p, x, z, h1, h2, h3, h4 xs q.1, h5 ys q.2⟩
theorem wk_zipT {a b : Addr} {vs ws : List V} {xs ys : List D} (hz : xs.length ≤ sizeLine) (h : SqT K F a vs) (h' : SqT K F b ws) (r : RpL K F xs vs) (r' : RpL K F ys ws) : Wk K env σ H F (RZ.ItzT K a b) (zipD xs ys) := by
  refine ⟨by rw [zip_len]; omega, fun H => SqT K H a vs ∧ SqT K H b ws, _, by rw [zip_len]; exact walk_zipT (by rw [r.length, r'.length]), fun env2 σ2 H2 F2 s2 x => ⟨s2.fle.tup (x.f.tup h), s2.fle.tup (x.f.tup h')⟩, fun i x d env2 σ2 H2 F2 H3 s2 ex y e => ?_⟩
  obtain ⟨p, x1, x2, y1, y2, y3, y4, y5⟩ := y
  subst y1 y3
  obtain ⟨d1, d2, e1, e2, e3⟩ := zip_get e
  obtain ⟨c1, f1, f2⟩ := r.get' y4
  obtain ⟨c2, f3, f4⟩ := r'.get' y5
  rw [e1] at f1; cases f1
  rw [e2] at f3; cases f3
  subst e3
  exact grow_pair s2.fle y2 (Rp.mono ex.f _ _ f2) (Rp.mono ex.f _ _ f4)
theorem walk_zipM {a b : Addr} {xs ys : List V} {n : Nat} (hn : n = min xs.length ys.length) : Walk (ItzM K a b) n (fun H => SqT K H a xs ∧ SqL K H b ys) (YPair (fun i => xs[i]?) (fun i => ys[i]?)) := by
  subst hn
  refine ⟨fun i _ hi q => ?_, fun _ q => ⟨xs, ys, q.1, q.2, by omega⟩, fun i H v H' _ q y => ?_⟩
  · exact ⟨xs, ys, xs[i]'(by omega), ys[i]'(by omega), q.1, q.2, by simp, by simp⟩
  · obtain ⟨p, x, z, h1, h2, h3, h4, h5⟩ := y
    exact ⟨p, x, z, h1, h2, h3, h4 xs q.1, h5 ys q.2⟩
theorem wk_zipM {a b : Addr} {vs ws : List V} {xs ys : List D} (hz : xs.length ≤ sizeLine) (h : SqT K F a vs) (h' : F b = some (.lst ws)) (r : RpL K F xs vs) (r' : RpL K F ys ws) : Wk K env σ H F (ItzM K a b) (zipD xs ys) := by
  refine ⟨by rw [zip_len]; omega, fun H => SqT K H a vs ∧ SqL K H b ws, _, by rw [zip_len]; exact walk_zipM (by rw [r.length, r'.length]), fun env2 σ2 H2 F2 s2 x => ⟨s2.fle.tup (x.f.tup h), SqL.of (s2.fle b _ (x.f b _ h'))⟩, fun i x d env2 σ2 H2 F2 H3 s2 ex y e => ?_⟩
  obtain ⟨p, x1, x2, y1, y2, y3, y4, y5⟩ := y
  subst y1 y3
  obtain ⟨d1, d2, e1, e2, e3⟩ := zip_get e
  obtain ⟨c1, f1, f2⟩ := r.get' y4
  obtain ⟨c2, f3, f4⟩ := r'.get' y5
  rw [e1] at f1; cases f1
  rw [e2] at f3; cases f3
  subst e3
  exact grow_pair s2.fle y2 (Rp.mono ex.f _ _ f2) (Rp.mono ex.f _ _ f4)
theorem snd_zip {a b : E} {ea eb tg : Expr} {x : Str} {p pos : Pos} {sc : Scope} (c : Cok T N X) (hsc : X.env.scope = sc) (hx : x = ("zip" : Str)) (hg : gloB sc x = true) (ht : isTupE tg = true) (ha : PE X ea (tEv T X.kw a)) (hb : PE X eb (tEv T X.kw b)) (hs : ∀ x p, ea ≠ .Starred x p) (hs2 : ∀ x p, eb ≠ .Starred x p) :
    PI X tg (.Call (.Name x p) [ea, eb] [] pos) (tSrc T X.kw (.zip a b)) := by
  subst hx
  have hg' : Gl X "zip" := by
    show X.env.scope.names.lookup _ = _
    rw [hsc]; exact glo_of hg
  cases tg <;> simp only [isTupE, Bool.false_eq_true] at ht
  refine PI.weak (pi_zipB hg' (c.blt _ (by decide +kernel)) (pa_cons ha (pa_cons hb pa_nil (noStar hs2)) (noStar hs)) (noStar hs) (by rw [noStar hs2]; rfl)) fun σ H R ⟨env, F, items, lk, env', s, e, _, k⟩ => ?_
  simp only [evSrc, Option.bind_eq_some_iff] at e
  obtain ⟨⟨r1, env1⟩, e1, ⟨r2, env2⟩, e2, ⟨d1, env3⟩, e3, ⟨d2, env4⟩, e4, e5⟩ := e
  refine ⟨env, F, r1, env1, s, e1, fun v H1 F1 s1 x1 p1 => ⟨env1, F1, r2, env2, s1, e2, fun w H2 F2 s2 x2 p2 => ?_⟩⟩
  have pl := RepL.push p1 x1 x2 (.cons p2 .nil fun _ _ _ _ _ h => by simp at h)
  have x12 := x1.trans x2
  have fl : frzL [r1, r2] env2 = some ([d1, d2], env4) := by
    simp only [frzL]
    have e3 : frz env2 r1 = some (d1, env3) := e3
    have e4 : frz env3 r2 = some (d2, env4) := e4
    rw [e3]
    simp [e4]
  obtain ⟨F3, s3, x3, rl, up⟩ := frzL_ok s2 x12 pl fl
  rw [RpL] at rl
  obtain ⟨v1, q1, g1, g2, g3⟩ := rl
  rw [RpL] at g3
  obtain ⟨v2, q2, g4, g5, g6⟩ := g3
  cases g1
  cases g4
  dsimp only at e5
  split at e5
  · cases e5
    rw [Rp] at g2 g5
    obtain ⟨gz, a1, vs1, f1, f2, f3⟩ := g2
    obtain ⟨_, a2, vs2, f4, f5, f6⟩ := g5
    exact ⟨a1, a2, vs1, vs2, by rw [f1, f4], .inl ⟨SqL.of (s3.fle _ _ f2), SqL.of (s3.fle _ _ f5), k _ H2 F3 s3 x3 (wk_zip gz f2 f5 f3 f6)⟩⟩
  · cases e5
    rw [Rp] at g2 g5
    obtain ⟨gz, a1, vs1, f1, f2, f3⟩ := g2
    obtain ⟨_, a2, vs2, f4, f5, f6⟩ := g5
    exact ⟨a1, a2, vs1, vs2, by rw [f1, f4], .inr (.inl ⟨s3.fle.tup f2, s3.fle.tup f5, k _ H2 F3 s3 x3 (wk_zipT gz f2 f5 f3 f6)⟩)⟩
  · cases e5
    rw [Rp] at g2
    rw [Rp] at g5
    obtain ⟨gz, a1, vs1, f1, f2, f3⟩ := g2
    obtain ⟨_, a2, vs2, f4, f5, f6⟩ := g5
    exact ⟨a1, a2, vs1, vs2, by rw [f1, f4], .inr (.inr ⟨s3.fle.tup f2, SqL.of (s3.fle _ _ f5), k _ H2 F3 s3 x3 (wk_zipM gz f2 f5 f3 f6)⟩)⟩
  · cases e5
end
end Lc
/-! Comprehensions; all expressions. -/
namespace Lc
open PySem L2
section
variable {X : Cx} {T : Tab} {N : List Str} {K : Kw} {env env0 env1 : Env} {σ σ0 σ1 : L2.St} {H H0 H1 F F0 F1 : Hp}
/-- an object that is nobody's stays nobody's -/
theorem Ext.nobody (x : Ext env σ H F env1 σ1 H1 F1) {a : Addr} {o : HO} (h : H a = some o) (f : F a = none) (n : ¬ Owned env σ a) : H1 a = some o ∧ F1 a = none ∧ ¬ Owned env1 σ1 a := by
  refine ⟨x.h a o h n, ?_, fun w => ?_⟩
  · cases q : F1 a with
    | none => rfl
    | some u =>
      rcases x.fn a u q f with z | z
      · rw [z] at h; cases h
      · exact absurd z n
  · rcases x.ow a w with z | z
    · exact n z
    · rw [z] at h; cases h
/-- it is changed -/
theorem Sat.nobody (s : Sat K env σ H F) {a : Addr} (o : HO) (f : F a = none) (n : ¬ Owned env σ a) : Sat K env σ (upd H a o) F := by
  refine ⟨fun b u e => ?_, s.len, fun i t h => ?_, s.inj⟩
  · have hb : b ≠ a := fun z => by subst z; rw [f] at e; cases e
    rw [upd_ne hb]; exact s.fle b u e
  · have ok := s.sl i t h
    cases t with
    | no => trivial
    | hid => trivial
    | dat d => exact ok
    | scr ns => exact ok
    | own p c =>
      obtain ⟨b, vs, e1, e2, e3, e4⟩ := ok
      have hb : b ≠ a := fun q => by subst q; exact n ⟨i, e1, _, h, rfl⟩
      exact ⟨b, vs, e1, by rw [upd_ne hb]; exact e2, e3, e4⟩
theorem Ext.change (x : Ext env0 σ0 H0 F0 env σ H F) {a : Addr} (o : HO) (h : H0 a = none) : Ext env0 σ0 H0 F0 env σ (upd H a o) F := by
  refine ⟨x.f, x.fn, fun b u e n => ?_, fun b e => ?_, x.ow, x.pr⟩
  · rw [upd_ne (ne_of_none e h)]; exact x.h b u e n
  · by_cases hb : b = a
    · subst hb; rw [upd_same]; simp
    · rw [upd_ne hb]; exact x.dm b e
theorem wipe_idem {vs : List Nat} (l : σ1.length = σ.length) (ag : ∀ (j : Nat), j ∉ vs → σ1[j]? = (wipe σ vs)[j]?) : wipe σ1 vs = wipe σ vs := by
  have wi : ∀ (τ : L2.St) (j : Nat), j ∈ vs → j < τ.length → (wipe τ vs)[j]? = some none := by
    intro τ j
    induction vs with
    | nil => intro h; simp at h
    | cons v vs ih =>
      intro h hl
      unfold wipe
      by_cases e : v = j
      · subst e; rw [get_set_same (by rw [wipe_length]; exact hl)]
      · rw [get_set_ne e]
        rcases List.mem_cons.mp h with z | z
        · exact absurd z.symm e
        · clear ag
          have ih2 : ∀ (ws : List Nat), j ∈ ws → (wipe τ ws)[j]? = some none := by
            intro ws
            induction ws with
            | nil => intro h; simp at h
            | cons w ws ihw =>
              intro hw
              unfold wipe
              by_cases e : w = j
              · subst e; rw [get_set_same (by rw [wipe_length]; exact hl)]
              · rw [get_set_ne e]
                rcases List.mem_cons.mp hw with z | z
                · exact absurd z.symm e
                · exact ihw z
          exact ih2 vs z
  apply List.ext_getElem?
  intro j
  by_cases hj : j ∈ vs
  · by_cases hl : j < σ.length
    · rw [wi σ1 j hj (by omega), wi σ j hj hl]
    · rw [List.getElem?_eq_none (by rw [wipe_length]; omega), List.getElem?_eq_none (by rw [wipe_length]; omega)]
  · rw [wipe_get hj, ag j hj]
theorem unlock_any {lk : Option Nat} (hk : lk = none ∨ ∃ r, lk = lockS env r) (s : Sat K env σ H F) (s1 : Sat K env1 σ1 H1 F1) (x : Ext (lock env lk) σ H F env1 σ1 H1 F1) :
    Sat K (unlock env env1 lk) σ1 H1 F1 ∧ Ext env σ H F (unlock env env1 lk) σ1 H1 F1 ∧ ∀ b, Owned (unlock env env1 lk) σ1 b → Owned env1 σ1 b ∨ Owned env σ b := by
  rcases hk with e | ⟨r, e⟩
  · subst e; exact ⟨s1, x, fun b h => .inl h⟩
  · subst e; exact s.unlock s1 x
theorem lock_any {lk : Option Nat} (hk : lk = none ∨ ∃ r, lk = lockS env r) (s : Sat K env σ H F) : Sat K (lock env lk) σ H F := by
  rcases hk with e | ⟨r, e⟩
  · subst e; exact s
  · subst e; exact s.lock
theorem lock_wipOk {lk : Option Nat} (hk : lk = none ∨ ∃ r, lk = lockS env r) {vs : List Nat} (h : wipOk env vs = true) : wipOk (lock env lk) vs = true := by
  rcases hk with e | ⟨r, e⟩
  · subst e; exact h
  · cases q : lockS env r with
    | none => subst e; rw [q]; exact h
    | some i =>
      rw [e, q]
      obtain ⟨_, p, xs, hi⟩ := lockS_some q
      refine List.all_eq_true.mpr fun j hj => ?_
      have hij : i ≠ j := fun z => by
        subst z
        rcases wipOk_at h hj with w | ⟨d, w⟩ <;> (rw [hi] at w; cases w)
      have : (lock env (some i))[j]? = env[j]? := get_set_ne hij
      rw [this]
      rcases wipOk_at h hj with w | ⟨d, w⟩ <;> (rw [w])
theorem snd_lc {elt : E} {tg : Tg} {src : Src} {cond : EO} {vs : List Nat} {ee tge iter : Expr} {ifs : List Expr} {scope : Scope} {pos : Pos} (c : Cok T N X)
    (ok : BlkOk X.N X.env.scope scope (vs.map fun i => (N.getD i Str.empty, i))) (hv : ∀ i ∈ tgSlots tg, i ∈ vs) (hi : PI X tge iter (tSrc T X.kw src)) (hset : ∀ x k p, iter ≠ .Set x k p)
    (hg : ∀ (s : Shared) (H : Hp) (C : Addr) (cl : List (Str × Addr)) (fp : List Addr), PG (X.blk s H scope (compEnvC scope cl C X.env) fp) tge (tTg X.kw tg))
    (ht : ∀ (s : Shared) (H : Hp) (C : Addr) (cl : List (Str × Addr)) (fp : List Addr), PTs (X.blk s H scope (compEnvC scope cl C X.env) fp) ifs (tEvC T X.kw cond))
    (he : ∀ (s : Shared) (H : Hp) (C : Addr) (cl : List (Str × Addr)) (fp : List Addr), PE (X.blk s H scope (compEnvC scope cl C X.env) fp) ee (tEv T X.kw elt)) :
    (PE X (.ListComp ee [⟨tge, iter, ifs, 0⟩] scope pos) (tLc (tSrc T X.kw src) (tTg X.kw tg) (tEvC T X.kw cond) (tEv T X.kw elt) vs)) ∧
      ∀ σ H Q, tEv T X.kw (.lc elt tg src cond vs) σ H Q → tLc (tSrc T X.kw src) (tTg X.kw tg) (tEvC T X.kw cond) (tEv T X.kw elt) vs σ H Q := by
  have hmap : ((vs.map fun i => (N.getD i Str.empty, i)).map fun x => x.2) = vs := by
    rw [List.map_map]
    exact List.map_id vs
  constructor
  · have := pe_lc (pos := pos) c.calm (by rw [c.hN]; exact c.nd) hi ok hg ht he (noFold hset)
    rw [hmap] at this
    exact this
  · intro σ H Q ⟨env, F, r, env', s, e, k⟩
    simp only [ev, Option.bind_eq_some_iff] at e
    obtain ⟨⟨items, lk, env1⟩, e1, e2⟩ := e
    split at e2
    case isFalse => cases e2
    rename_i wok
    rw [Option.map_eq_some_iff] at e2
    obtain ⟨⟨final, envF⟩, e2, e3⟩ := e2
    cases e3
    have hk : lk = none ∨ ∃ r, lk = lockS env1 r := by
      cases src with
      | seq a =>
        simp only [evSrc, Option.bind_eq_some_iff, Option.map_eq_some_iff] at e1
        obtain ⟨⟨r1, _⟩, _, o, _, xs, _, e3⟩ := e1
        cases e3
        exact .inr ⟨r1, rfl⟩
      | rng a =>
        simp only [evSrc, Option.bind_eq_some_iff] at e1
        obtain ⟨⟨r1, _⟩, _, d, _, e3⟩ := e1
        split at e3
        · split at e3
          · cases e3; exact .inl rfl
          · cases e3
        · cases e3
      | enum a =>
        simp only [evSrc, Option.bind_eq_some_iff] at e1
        obtain ⟨⟨r1, _⟩, _, d, _, e3⟩ := e1
        split at e3
        · cases e3; exact .inr ⟨r1, rfl⟩
        · cases e3
      | zip a b =>
        simp only [evSrc, Option.bind_eq_some_iff] at e1
        obtain ⟨_, _, _, _, _, _, ⟨d2, env4⟩, _, e5⟩ := e1
        dsimp only at e5
        split at e5
        · cases e5; exact .inl rfl
        · cases e5; exact .inl rfl
        · cases e5; exact .inl rfl
        · cases e5
    generalize hf : (fun x env => (asg tg x (wip env vs)).bind fun e1 => (evC T cond e1).bind fun k => if k.1 then (ev T elt k.2).bind fun y => (frz y.2 y.1).map fun z => (some z.1, unwip env z.2 vs) else some (none, unwip env k.2 vs)) = f at e2
    refine ⟨env, F, items, lk, env1, s, e1, hk, fun J H1 F1 s1 x1 wk D hD => ?_⟩
    obtain ⟨hz, G, Y, w, hG, hY⟩ := wk
    have sL := lock_any hk s1
    have gr := Grow.lst sL.fle hD ([] : List V)
    have F1D : F1 D = none := s1.fle.none_of hD
    refine lc_it w (fun i Hi => ∃ envi Fi acc ds rest, Sat X.kw envi σ Hi Fi ∧ Ext (lock env1 lk) σ H1 F1 envi σ Hi Fi ∧ Hi D = some (.lst acc) ∧ Fi D = none ∧ ¬ Owned envi σ D ∧ RpL X.kw Fi ds acc ∧ ds.length ≤ i ∧ wipOk envi vs = true ∧ lcGo f (items.drop i) envi = some (rest, envF) ∧ ds ++ rest = final) ?_ ?_ ?_ ?_
    · exact ⟨lock env1 lk, F1, [], [], final, sL.grow gr, gr.ext sL, upd_same, F1D, sL.notOwned hD, RpL.nil, Nat.le_refl _, lock_wipOk hk wok, e2, rfl⟩
    · rintro i Hi hi ⟨envi, Fi, acc, ds, rest, si, xi, _⟩
      exact hG envi σ Hi Fi si xi
    · rintro i x Hi H' hi ⟨envi, Fi, acc, ds, rest, si, xi, hDi, fDi, oDi, rl, hlen, wi, go, fin⟩ y
      have hlt : i < items.length := hi
      obtain ⟨F2, g2, rp⟩ := hY i x items[i] envi σ Hi Fi H' si xi y (by simp)
      have s2 := si.grow g2
      have x2 := g2.ext si
      obtain ⟨hD2, fD2, oD2⟩ := x2.nobody hDi fDi oDi
      rw [List.drop_eq_getElem_cons hlt] at go
      simp only [lcGo, Option.bind_eq_some_iff, Option.map_eq_some_iff] at go
      obtain ⟨⟨yo, envn⟩, g1, ⟨rest', envF'⟩, g3, g4⟩ := go
      cases g4
      rw [← hf] at g1
      simp only [Option.bind_eq_some_iff] at g1
      obtain ⟨ea, ga, ⟨kb, ek⟩, gk, g5⟩ := g1
      have sw := s2.wipe wi
      refine ⟨wip envi vs, F2, items[i], ea, sw, rp, ga, fun σ2 sa xa ag la => ⟨?_, ?_⟩⟩
      · exact wipe_idem (by rw [la, wipe_length]) fun j hj => ag j fun z => hj (hv j z)
      · have ag2 : ∀ (j : Nat), j ∉ vs → σ2[j]? = σ[j]? := fun j hj => by rw [ag j fun z => hj (hv j z), wipe_get hj]
        have la2 : σ2.length = σ.length := by rw [la, wipe_length]
        have oDw : ¬ Owned (wip envi vs) (wipe σ vs) D := fun z => sw.owned_some z |>.1 |> fun _ => by
          obtain ⟨j, h1, t, h2, h3⟩ := z
          by_cases hj : j ∈ vs
          · rw [wip_in wi hj] at h2; cases h2; cases h3
          · rw [wip_out hj] at h2; rw [wipe_get hj] at h1; exact oD2 ⟨j, h1, t, h2, h3⟩
        refine ⟨ea, F2, kb, ek, sa, gk, fun H3 F3 s3 x3 => ?_⟩
        have x03 := xa.trans x3
        obtain ⟨hD3, fD3, oD3⟩ := x03.nobody hD2 fD2 oDw
        cases kb with
        | true =>
          simp only [if_true, Option.bind_eq_some_iff, Option.map_eq_some_iff] at g5 ⊢
          obtain ⟨⟨ry, ey⟩, gy, ⟨dz, ez⟩, gz, g6⟩ := g5
          cases g6
          refine ⟨ek, F3, ry, ey, s3, gy, fun yv H4 F4 s4 x4 p4 => ?_⟩
          obtain ⟨hD4, fD4, oD4⟩ := x4.nobody hD3 fD3 oD3
          obtain ⟨F5, s5, x5, rp5, up5, k5, ow5, _⟩ := frz_ok s4 x4 p4 gz
          have fD5 : F5 D = none := by
            cases q : F5 D with
            | none => rfl
            | some o =>
              rcases k5 D fD4 (by rw [q]; simp) with n | n
              · have := (p4.fresh n).1; rw [hD3] at this; cases this
              · exact absurd n oD4
          obtain ⟨s6, x6, ow6, wi6⟩ := s2.unwipe wi s5 (x03.trans x5) ag2 la2
          have oD6 : ¬ Owned (unwip envi ez vs) σ D := fun z => oD4 (ow5 D (ow6 D z))
          have x06 := (xi.trans x2).trans x6
          have ra : acc.length = ds.length := rl.length
          refine ⟨acc, hD4, by omega, unwip envi ez vs, F5, acc ++ [yv], ds ++ [dz], rest', s6.nobody _ fD5 oD6, x06.change _ hD, upd_same, fD5, oD6, ?_, by simp; omega, wi6, g3, ?_⟩
          · exact RpL.append (RpL.mono (g2.f.trans (x03.trans x5).f) _ _ rl) (RpL.cons rp5 RpL.nil)
          · rw [List.append_assoc]; exact fin
        | false =>
          rw [if_neg Bool.false_ne_true] at g5
          cases g5
          refine iteF ?_
          obtain ⟨s6, x6, ow6, wi6⟩ := s2.unwipe wi s3 x03 ag2 la2
          have oD6 : ¬ Owned (unwip envi ek vs) σ D := fun z => oD3 (ow6 D z)
          refine ⟨unwip envi ek vs, F3, acc, ds, rest', s6, (xi.trans x2).trans x6, hD3, fD3, oD6, RpL.mono (g2.f.trans x03.f) _ _ rl, by omega, wi6, g3, fin⟩
    · rintro Hn ⟨envi, Fi, acc, ds, rest, si, xi, hDi, fDi, oDi, rl, hlen, wi, go, fin⟩
      rw [List.drop_length] at go
      simp only [lcGo, Option.some.injEq, Prod.mk.injEq] at go
      obtain ⟨g1, g2⟩ := go
      subst g1 g2
      rw [List.append_nil] at fin
      subst fin
      obtain ⟨s7, x7, ow7⟩ := unlock_any hk s1 si xi
      refine k _ Hn Fi s7 (x1.trans x7) ⟨D, _, rfl, hDi, fDi, ⟨by show ds.length ≤ sizeLine; omega, acc, rfl, rl⟩, fun z => ?_, x1.dmn D hD⟩
      rcases ow7 D z with z | z
      · exact oDi z
      · exact s1.notOwned hD z
end
end Lc
/-! Dict comprehensions, d.get, comprehensions of two clauses. -/
namespace Lc
open PySem L2
section
variable {X : Cx} {T : Tab} {N : List Str} {K : Kw} {env env0 env1 : Env} {σ σ0 σ1 : L2.St} {H H0 H1 F F0 F1 : Hp}
theorem src_lk0 {src : Src} {env env1 : Env} {items : List D} {lk : Option Nat} (e1 : evSrc T src env = some (items, lk, env1)) : lk = none ∨ ∃ r, lk = lockS env1 r := by
  cases src with
  | seq a =>
    simp only [evSrc, Option.bind_eq_some_iff, Option.map_eq_some_iff] at e1
    obtain ⟨⟨r1, _⟩, _, o, _, xs, _, e3⟩ := e1
    cases e3
    exact .inr ⟨r1, rfl⟩
  | rng a =>
    simp only [evSrc, Option.bind_eq_some_iff] at e1
    obtain ⟨⟨r1, _⟩, _, d, _, e3⟩ := e1
    split at e3
    · split at e3
      · cases e3; exact .inl rfl
      · cases e3
    · cases e3
  | enum a =>
    simp only [evSrc, Option.bind_eq_some_iff] at e1
    obtain ⟨⟨r1, _⟩, _, d, _, e3⟩ := e1
    split at e3
    · cases e3; exact .inr ⟨r1, rfl⟩
    · cases e3
  | zip a b =>
    simp only [evSrc, Option.bind_eq_some_iff] at e1
    obtain ⟨_, _, _, _, _, _, ⟨d2, env4⟩, _, e5⟩ := e1
    dsimp only at e5
    split at e5
    · cases e5; exact .inl rfl
    · cases e5; exact .inl rfl
    · cases e5; exact .inl rfl
    · cases e5
/-- a dict comprehension's walk -/
theorem dc_it {J : It} {n : Nat} {G : Hp → Prop} {Y : Nat → Hp → V → Hp → Prop} (w : Walk J n G Y) {g : TG} {tt : TT} {tk tv : TE} {vs : List Nat} {σ : L2.St} {H1 : Hp} {D : Addr} {Qd : Hp → Prop} (Pv : Nat → Hp → Prop) (h0 : Pv 0 (upd H1 D (.dK []))) (hG : ∀ i H, i ≤ n → Pv i H → G H)
    (hs : ∀ i x H H', i < n → Pv i H → Y i H x H' → g x (wipe σ vs) H' fun σ2 H2 => wipe σ2 vs = wipe σ vs ∧ tt σ2 H2 fun b H3 =>
      if b = true then tk σ2 H3 fun y H4 => tv σ2 H4 fun z H5 => ∃ kvs k, y = kV k ∧ H5 D = some (.dK kvs) ∧ kvs.length < sizeLine ∧ Pv (i + 1) (upd H5 D (.dK (putK kvs k z))) else Pv (i + 1) H3) (hd : ∀ H, Pv n H → Qd H) :
    ∃ W : Nat → Nat → Hp → Prop, (∃ m, W 0 m (upd H1 D (.dK []))) ∧ ∀ i m H, W i m H →
      (J.stop i H ∧ Qd H) ∨ (J.go i H ∧ ∃ Nx : Hp → Prop, (∀ H', Nx H' → ∃ m', m' < m ∧ W (i + 1) m' H') ∧ ∀ x H', J.yld i H x H' → g x (wipe σ vs) H' fun σ2 H2 => wipe σ2 vs = wipe σ vs ∧ tt σ2 H2 fun b H3 =>
        if b = true then tk σ2 H3 fun y H4 => tv σ2 H4 fun z H5 => ∃ kvs k, y = kV k ∧ H5 D = some (.dK kvs) ∧ kvs.length < sizeLine ∧ Nx (upd H5 D (.dK (putK kvs k z))) else Nx H3) := by
  refine ⟨fun i m H => m = n - i ∧ i ≤ n ∧ Pv i H, ⟨n, by simp, Nat.zero_le _, h0⟩, ?_⟩
  rintro i m H ⟨rfl, hi, p⟩
  have q := hG i H hi p
  by_cases hlt : i < n
  · exact .inr ⟨w.goes i H hlt q, Pv (i + 1), fun H' p' => ⟨n - (i + 1), by omega, rfl, hlt, p'⟩, fun x H' y => hs i x H H' hlt p (w.yields i H x H' hlt q y)⟩
  · have e : i = n := by omega
    subst e
    exact .inl ⟨w.stops H q, hd H p⟩
theorem snd_dc {key val : E} {tg : Tg} {src : Src} {vs : List Nat} {ke ve tge iter : Expr} {scope : Scope} {pos : Pos} (c : Cok T N X)
    (ok : BlkOk X.N X.env.scope scope (vs.map fun i => (N.getD i Str.empty, i))) (hv : ∀ i ∈ tgSlots tg, i ∈ vs) (hi : PI X tge iter (tSrc T X.kw src)) (hset : ∀ x k p, iter ≠ .Set x k p)
    (hg : ∀ (s : Shared) (H : Hp) (C : Addr) (cl : List (Str × Addr)) (fp : List Addr), PG (X.blk s H scope (compEnvC scope cl C X.env) fp) tge (tTg X.kw tg))
    (hk : ∀ (s : Shared) (H : Hp) (C : Addr) (cl : List (Str × Addr)) (fp : List Addr), PE (X.blk s H scope (compEnvC scope cl C X.env) fp) ke (tEv T X.kw key))
    (he : ∀ (s : Shared) (H : Hp) (C : Addr) (cl : List (Str × Addr)) (fp : List Addr), PE (X.blk s H scope (compEnvC scope cl C X.env) fp) ve (tEv T X.kw val)) :
    PE X (.DictComp ke ve [⟨tge, iter, [], 0⟩] scope pos) (tEv T X.kw (.dc key val tg src vs)) := by
  have hmap : ((vs.map fun i => (N.getD i Str.empty, i)).map fun x => x.2) = vs := by
    rw [List.map_map]
    exact List.map_id vs
  have base := pe_dc (pos := pos) c.calm (by rw [c.hN]; exact c.nd) hi ok hg (fun _ _ _ _ _ => pts_nil) hk he (noFold hset)
  rw [hmap] at base
  refine PE.weak base fun σ H Q ⟨env, F, r, env', s, e, k⟩ => ?_
  simp only [ev, Option.bind_eq_some_iff] at e
  obtain ⟨⟨items, lk, env1⟩, e1, e2⟩ := e
  split at e2
  case isFalse => cases e2
  rename_i wok
  rw [Option.map_eq_some_iff] at e2
  obtain ⟨⟨final, envF⟩, e2, e3⟩ := e2
  cases e3
  have hkk := src_lk0 e1
  generalize hf : (fun x env => (asg tg x (wip env vs)).bind fun e1 => (ev T key e1).bind fun a => (frz a.2 a.1).bind fun kd => (ev T val kd.2).bind fun b => (frz b.2 b.1).map fun y => (kd.1, y.1, unwip env y.2 vs)) = f at e2
  refine ⟨env, F, items, lk, env1, s, e1, hkk, fun J H1 F1 s1 x1 wk D hD => ?_⟩
  obtain ⟨hz, G, Y, w, hG, hY⟩ := wk
  have sL := lock_any hkk s1
  have F1D : F1 D = none := s1.fle.none_of hD
  have gr : Grow H1 F1 (upd H1 D (.dK [])) F1 := ⟨Le.new hD, Le.refl F1, fun a o e z => (by rw [z] at e; cases e), sL.fle.trans (Le.new hD)⟩
  refine dc_it w (fun i Hi => ∃ envi Fi ks ds, Sat X.kw envi σ Hi Fi ∧ Ext (lock env1 lk) σ H1 F1 envi σ Hi Fi ∧ Hi D = some (.dK ks) ∧ Fi D = none ∧ ¬ Owned envi σ D ∧ KvK X.kw Fi ds ks ∧ (ds.map (·.1)).Nodup ∧ ds.length ≤ i ∧ wipOk envi vs = true ∧ dcGo f (items.drop i) envi ds = some (final, envF)) ?_ ?_ ?_ ?_
  · exact ⟨lock env1 lk, F1, [], [], sL.grow gr, gr.ext sL, upd_same, F1D, sL.notOwned hD, .nil, by simp, Nat.le_refl _, lock_wipOk hkk wok, e2⟩
  · rintro i Hi hi ⟨envi, Fi, ks, ds, si, xi, _⟩
    exact hG envi σ Hi Fi si xi
  · rintro i x Hi H' hi ⟨envi, Fi, ks, ds, si, xi, hDi, fDi, oDi, rl, nd, hlen, wi, go⟩ y
    have hlt : i < items.length := hi
    obtain ⟨F2, g2, rp⟩ := hY i x items[i] envi σ Hi Fi H' si xi y (by simp)
    have s2 := si.grow g2
    have x2 := g2.ext si
    obtain ⟨hD2, fD2, oD2⟩ := x2.nobody hDi fDi oDi
    rw [List.drop_eq_getElem_cons hlt] at go
    simp only [dcGo, Option.bind_eq_some_iff] at go
    obtain ⟨⟨kd, vd, envn⟩, g1, g3⟩ := go
    split at g3
    case isFalse => cases g3
    rename_i hkz
    obtain ⟨hkd, hsz⟩ := band hkz
    have hsz := of_decide_eq_true hsz
    rw [← hf] at g1
    simp only [Option.bind_eq_some_iff, Option.map_eq_some_iff] at g1
    obtain ⟨ea, ga, ⟨rk, ek⟩, gk, ⟨kd', efk⟩, gfk, ⟨rv, ev'⟩, gv, ⟨vd', efv⟩, gfv, g5⟩ := g1
    cases g5
    have sw := s2.wipe wi
    refine ⟨wip envi vs, F2, items[i], ea, sw, rp, ga, fun σ2 sa xa ag la => ⟨?_, ?_⟩⟩
    · exact wipe_idem (by rw [la, wipe_length]) fun j hj => ag j fun z => hj (hv j z)
    · have ag2 : ∀ (j : Nat), j ∉ vs → σ2[j]? = σ[j]? := fun j hj => by rw [ag j fun z => hj (hv j z), wipe_get hj]
      have la2 : σ2.length = σ.length := by rw [la, wipe_length]
      have oDw : ¬ Owned (wip envi vs) (wipe σ vs) D := fun z => sw.owned_some z |>.1 |> fun _ => by
        obtain ⟨j, h1, t, h2, h3⟩ := z
        by_cases hj : j ∈ vs
        · rw [wip_in wi hj] at h2; cases h2; cases h3
        · rw [wip_out hj] at h2; rw [wipe_get hj] at h1; exact oD2 ⟨j, h1, t, h2, h3⟩
      simp only [tYes, if_true]
      refine ⟨ea, F2, rk, ek, sa, gk, fun yk H4 F4 s4 x4 p4 => ?_⟩
      obtain ⟨F5, s5, x5, rp5, up5, k5, ow5, _⟩ := frz_ok s4 x4 p4 gfk
      refine ⟨efk, F5, rv, ev', s5, gv, fun yv H6 F6 s6 x6 p6 => ?_⟩
      obtain ⟨F7, s7, x7, rp7, up7, k7, ow7, _⟩ := frz_ok s6 x6 p6 gfv
      have rpk : Rp X.kw F7 kd' yk := Rp.mono (x6.f.trans up7) _ _ rp5
      have xall := xa.trans (x5.trans x7)
      obtain ⟨hD7, fD7, oD7⟩ := xall.nobody hD2 fD2 oDw
      obtain ⟨kk, ek1, rk1⟩ := key_k (H := H6) hkd (Vw.of s7.fle rpk)
      subst ek1
      obtain ⟨s8, x8, ow8, wi8⟩ := s2.unwipe wi s7 xall ag2 la2
      have oD8 : ¬ Owned (unwip envi efv vs) σ D := fun z => oD7 (ow8 D z)
      have x08 := (xi.trans x2).trans x8
      have hl2 : ds.length = ks.length := kvk_length rl
      have rl7 : KvK X.kw F7 ds ks := paired_imp (fun _ _ ⟨p, q⟩ => ⟨Rp.mono (g2.f.trans xall.f) _ _ p, Rp.mono (g2.f.trans xall.f) _ _ q⟩) rl
      refine ⟨ks, kk, rfl, hD7, by omega, unwip envi efv vs, F7, putK ks kk yv, dput ds kd' vd', s8.nobody _ fD7 oD8, x08.change _ hD, upd_same, fD7, oD8, kvk_put rl7 rk1 rp7, dput_nodup nd, ?_, wi8, g3⟩
      have := dput_length ds kd' vd'
      omega
  · rintro Hn ⟨envi, Fi, ks, ds, si, xi, hDi, fDi, oDi, rl, nd, hlen, wi, go⟩
    rw [List.drop_length] at go
    simp only [dcGo, Option.some.injEq, Prod.mk.injEq] at go
    obtain ⟨g1, g2⟩ := go
    subst g1 g2
    obtain ⟨s7, x7, ow7⟩ := unlock_any hkk s1 si xi
    refine k _ Hn Fi s7 (x1.trans x7) ⟨D, _, rfl, hDi, fDi, ⟨by show ds.length ≤ sizeLine; omega, nd, ks, rfl, rl⟩, fun z => ?_, x1.dmn D hD⟩
    rcases ow7 D z with z | z
    · exact oDi z
    · exact s1.notOwned hD z
theorem snd_dnew {pos : Pos} : PE X (.Dict [] [] pos) (tEv T X.kw .dnew) := by
  refine PE.weak pe_dnewK fun σ H Q ⟨env, F, r, env', s, e, k⟩ => ?_
  simp only [ev, Option.some.injEq, Prod.mk.injEq] at e
  obtain ⟨e1, e2⟩ := e
  subst e1 e2
  intro p hp
  exact give_dic (Hs := H) s (fun a h => h) (fun v H' F' s' x' p' => k v H' F' s' x' p') (t := false) ⟨by simp, by simp, [], rfl, .nil⟩ hp
theorem snd_getD {d k x : E} {y m : Str} {p apos cpos : Pos} {ek ex : Expr} (c : Cok T N X) (hm : m = ("get" : Str)) (hd : PE X (.Name y p) (tEv T X.kw d)) (hk : PE X ek (tEv T X.kw k)) (hx : PE X ex (tEv T X.kw x)) (hs1 : ∀ x p, ek ≠ .Starred x p) (hs2 : ∀ x p, ex ≠ .Starred x p) (hl : (apos.endLine == cpos.line) = true) :
    PE X (.Call (.Attribute (.Name y p) m apos) [ek, ex] [] cpos) (tEv T X.kw (.getD d k x)) := by
  subst hm
  have st : starEach [ex] X.env = (false, eval ex X.env) :: starEach [] X.env := noStar hs2
  have st1 : starEach [ek, ex] X.env = (false, eval ek X.env) :: starEach [ex] X.env := noStar hs1
  refine PE.weak (pe_dget2 c.hu0 hd hk hx ⟨rfl, by rw [st1, st]; rfl, hl, by rw [st1, st]; rfl⟩) fun σ H Q ⟨env, F, r, env', s, e, kk⟩ => ?_
  simp only [ev, Option.bind_eq_some_iff] at e
  obtain ⟨⟨r1, env1⟩, e1, e⟩ := e
  split at e
  case isFalse => cases e
  rename_i isd
  simp only [Option.bind_eq_some_iff] at e
  obtain ⟨⟨r2, env2⟩, e2, ⟨r3, env3⟩, e3, ⟨dd, env4⟩, e4, o, eo, kd, ekd, e5⟩ := e
  split at e5
  · rename_i kvs
    split at e5
    · rename_i hkd
      cases e5
      refine ⟨env, F, r1, env1, s, e1, fun v H1 F1 s1 x1 p1 => ?_⟩
      have isd : ∃ kvs0, look env1 r1 = some (.k false kvs0) := by
        unfold isDic at isd
        split at isd
        · exact ⟨_, by assumption⟩
        · cases isd
      obtain ⟨kvs0, lk0⟩ := isd
      obtain ⟨a, u, rfl, hu, _, _, ks0, rfl, _⟩ := look_ok s1 p1 lk0
      refine ⟨a, rfl, .inl ⟨ks0, .inl hu⟩, env1, F1, r2, env2, s1, e2, fun v2 H2 F2 s2 x2 p2 => ⟨env2, F2, r3, env3, s2, e3, fun v3 H3 F3 s3 x3 p3 => ?_⟩⟩
      obtain ⟨F4, s4, x4, rp4, up4, kf4, ow4, _⟩ := frz_ok s3 x3 p3 e4
      have q1 := (p1.ext x2).ext x3
      have q1 : RepR X.kw env4 σ H3 F4 H (.ref a) r1 := q1.frz up4 kf4 ow4 fun b n1 n2 => by
        have h1 := (p1.fresh n2).2
        have h2 := (p3.fresh n1).1
        exact x2.dm b h1 h2
      have q2 : RepR X.kw env4 σ H3 F4 H1 v2 r2 := (p2.ext x3).frz up4 kf4 ow4 fun b n1 n2 => (p2.fresh n2).2 (p3.fresh n1).1
      obtain ⟨a', u', ea, hu', _, _, ks, rfl, kv⟩ := look_ok s4 q1 eo
      cases ea
      obtain ⟨kk', rfl, rk⟩ := key_k hkd (lookD_ok s4 q2 ekd)
      have ed := rp_kV rk
      subst ed
      refine ⟨valV ks kk', DGet.k hu', ?_⟩
      rcases kvk_get kv kk' with ⟨g1, g2⟩ | ⟨d', w', g1, g2, g3⟩
      · rw [g2]
        rw [g1] at kk
        exact kk _ H3 F4 s4 ((x1.trans x2).trans x4) rp4
      · rw [g2]
        rw [g1] at kk
        exact kk _ H3 F4 s4 ((x1.trans x2).trans x4) g3
    · cases e5
  · cases e5
/-! ### two clauses -/
/-- an object that is nobody's, as it was -/
theorem Ext.swap (x : Ext env σ H F env1 σ1 H1 F1) {D : Addr} (o : HO) (h : H D ≠ none) : Ext env σ (upd H D o) F env1 σ1 (upd H1 D o) F1 := by
  have up : ∀ a, a ≠ D → upd H D o a = H a := fun a h => upd_ne h
  refine ⟨x.f, fun a u e n => ?_, fun a u e n => ?_, fun a e => ?_, fun a e => ?_, x.pr⟩
  · rcases x.fn a u e n with q | q
    · left
      have : a ≠ D := fun z => by subst z; exact h q
      rw [up a this]; exact q
    · exact .inr q
  · by_cases z : a = D
    · subst z; rw [upd_same] at e ⊢; exact e
    · rw [upd_ne z] at e ⊢; exact x.h a u e n
  · by_cases z : a = D
    · subst z; rw [upd_same]; simp
    · rw [upd_ne z] at e ⊢; exact x.dm a e
  · rcases x.ow a e with q | q
    · exact .inl q
    · right
      have : a ≠ D := fun z => by subst z; exact h q
      rw [up a this]; exact q
theorem upd_back {D : Addr} {o : HO} (h : H D = some o) : upd H D o = H := by
  funext a
  by_cases z : a = D
  · subst z; rw [upd_same, h]
  · rw [upd_ne z]
theorem loop_it {J : It} {n : Nat} {G : Hp → Prop} {Y : Nat → Hp → V → Hp → Prop} (w : Walk J n G Y) {step : (Hp → Prop) → V → Hp → Prop} {st : Hp} {Qd : Hp → Prop} (Pv : Nat → Hp → Prop) (h0 : Pv 0 st) (hG : ∀ i H, i ≤ n → Pv i H → G H)
    (hs : ∀ i x H H', i < n → Pv i H → Y i H x H' → step (Pv (i + 1)) x H') (hd : ∀ H, Pv n H → Qd H) :
    ∃ W : Nat → Nat → Hp → Prop, (∃ m, W 0 m st) ∧ ∀ i m H, W i m H → (J.stop i H ∧ Qd H) ∨ (J.go i H ∧ ∃ Nx : Hp → Prop, (∀ H', Nx H' → ∃ m', m' < m ∧ W (i + 1) m' H') ∧ ∀ x H', J.yld i H x H' → step Nx x H') := by
  refine ⟨fun i m H => m = n - i ∧ i ≤ n ∧ Pv i H, ⟨n, by simp, Nat.zero_le _, h0⟩, ?_⟩
  rintro i m H ⟨rfl, hi, p⟩
  have q := hG i H hi p
  by_cases hlt : i < n
  · exact .inr ⟨w.goes i H hlt q, Pv (i + 1), fun H' p' => ⟨n - (i + 1), by omega, rfl, hlt, p'⟩, fun x H' y => hs i x H H' hlt p (w.yields i H x H' hlt q y)⟩
  · have e : i = n := by omega
    subst e
    exact .inl ⟨w.stops H q, hd H p⟩
theorem nobody_wipe {vs : List Nat} {D : Addr} (wi : wipOk env vs = true) (oD : ¬ Owned env σ D) : ¬ Owned (wip env vs) (wipe σ vs) D := fun ⟨j, h1, t, h2, h3⟩ => by
  by_cases hj : j ∈ vs
  · rw [wip_in wi hj] at h2; cases h2; cases h3
  · rw [wip_out hj] at h2; rw [wipe_get hj] at h1; exact oD ⟨j, h1, t, h2, h3⟩
theorem snd_lc2 {elt d1 : E} {tg tg1 : Tg} {src : Src} {vs vs1 : List Nat} {ee tge iter tge1 iter1 : Expr} {scope : Scope} {pos : Pos} (c : Cok T N X)
    (ok : BlkOk X.N X.env.scope scope (vs.map fun i => (N.getD i Str.empty, i))) (hv : ∀ i ∈ tgSlots tg, i ∈ vs) (hv1 : ∀ i ∈ tgSlots tg1, i ∈ vs1) (hvv : ∀ i ∈ vs1, i ∈ vs) (hi : PI X tge iter (tSrc T X.kw src)) (hset : ∀ x k p, iter ≠ .Set x k p)
    (hg : ∀ (s : Shared) (H : Hp) (C : Addr) (cl : List (Str × Addr)) (fp : List Addr), PG (X.blk s H scope (compEnvC scope cl C X.env) fp) tge (tTg X.kw tg))
    (hi1 : ∀ (s : Shared) (H : Hp) (C : Addr) (cl : List (Str × Addr)) (fp : List Addr), PE (X.blk s H scope (compEnvC scope cl C X.env) fp) iter1 (tEv T X.kw d1)) (hset1 : ∀ x k p, iter1 ≠ .Set x k p)
    (hg1 : ∀ (s : Shared) (H : Hp) (C : Addr) (cl : List (Str × Addr)) (fp : List Addr), PG (X.blk s H scope (compEnvC scope cl C X.env) fp) tge1 (tTg X.kw tg1))
    (he : ∀ (s : Shared) (H : Hp) (C : Addr) (cl : List (Str × Addr)) (fp : List Addr), PE (X.blk s H scope (compEnvC scope cl C X.env) fp) ee (tEv T X.kw elt)) :
    PE X (.ListComp ee [⟨tge, iter, [], 0⟩, ⟨tge1, iter1, [], 0⟩] scope pos) (tEv T X.kw (.lc2 elt tg src tg1 d1 vs vs1)) := by
  have hmap : ((vs.map fun i => (N.getD i Str.empty, i)).map fun x => x.2) = vs := by
    rw [List.map_map]
    exact List.map_id vs
  have base := pe_lc2 (pos := pos) (vs1 := vs1) (wi1 := iList X.K (tEv T X.kw d1)) c.calm (by rw [c.hN]; exact c.nd) hi ok (by rw [hmap]; exact hvv) hg (fun _ _ _ _ _ => pts_nil) (fun s H C cl fp => pi_list (hi1 s H C cl fp)) hg1 (fun _ _ _ _ _ => pts_nil) he (noFold hset) (fun env => noFold hset1)
  rw [hmap] at base
  refine PE.weak base fun σ H Q ⟨env, F, r, env', s, e, k⟩ => ?_
  simp only [ev, Option.bind_eq_some_iff] at e
  obtain ⟨⟨items, lk, env1⟩, e1, e2⟩ := e
  split at e2
  case isFalse => cases e2
  rename_i wok
  rw [Option.bind_eq_some_iff] at e2
  obtain ⟨⟨final, envF⟩, e2, e3⟩ := e2
  split at e3
  case isFalse => cases e3
  rename_i hfin
  cases e3
  have hkk := src_lk0 e1
  generalize hf1 : (fun x env => (asg tg1 x (wip env vs1)).bind fun e1 => (ev T elt e1).bind fun y => (frz y.2 y.1).map fun z => (some z.1, unwip env z.2 vs1)) = f1 at e2
  generalize hf : (fun x env => (asg tg x (wip env vs)).bind fun e1 => (ev T d1 e1).bind fun p1 => (match p1.1 with
        | .dat (.list xs) => if wipOk p1.2 vs1 then (lcGo f1 xs p1.2).map fun q => (q.1, unwip env q.2 vs) else none
        | _ => none)) = f at e2
  refine ⟨env, F, items, lk, env1, s, e1, hkk, fun J H1 F1 s1 x1 wk D hD => ?_⟩
  obtain ⟨hz, G, Y, w, hG, hY⟩ := wk
  have sL := lock_any hkk s1
  have gr := Grow.lst sL.fle hD ([] : List V)
  have F1D : F1 D = none := s1.fle.none_of hD
  refine loop_it w (fun i Hi => ∃ envi Fi acc ds rest, Sat X.kw envi σ Hi Fi ∧ Ext (lock env1 lk) σ H1 F1 envi σ Hi Fi ∧ Hi D = some (.lst acc) ∧ Fi D = none ∧ ¬ Owned envi σ D ∧ RpL X.kw Fi ds acc ∧ wipOk envi vs = true ∧ lc2Go f (items.drop i) envi = some (rest, envF) ∧ ds ++ rest = final) ?_ ?_ ?_ ?_
  · exact ⟨lock env1 lk, F1, [], [], final, sL.grow gr, gr.ext sL, upd_same, F1D, sL.notOwned hD, RpL.nil, lock_wipOk hkk wok, e2, rfl⟩
  · rintro i Hi hi ⟨envi, Fi, acc, ds, rest, si, xi, _⟩
    exact hG envi σ Hi Fi si xi
  · rintro i x Hi H' hi ⟨envi, Fi, acc, ds, rest, si, xi, hDi, fDi, oDi, rl, wi, go, fin⟩ y
    have hlt : i < items.length := hi
    obtain ⟨F2, g2, rp⟩ := hY i x items[i] envi σ Hi Fi H' si xi y (by simp)
    have s2 := si.grow g2
    have x2 := g2.ext si
    obtain ⟨hD2, fD2, oD2⟩ := x2.nobody hDi fDi oDi
    rw [List.drop_eq_getElem_cons hlt] at go
    simp only [lc2Go, Option.bind_eq_some_iff, Option.map_eq_some_iff] at go
    obtain ⟨⟨ys, envn⟩, g1, ⟨rest', envF'⟩, g3, g4⟩ := go
    cases g4
    rw [← hf] at g1
    simp only [Option.bind_eq_some_iff] at g1
    obtain ⟨ea, ga, ⟨p1r, env2⟩, gd, g5⟩ := g1
    dsimp only at g5
    split at g5
    case h_2 => cases g5
    rename_i _ xs
    split at g5
    case isFalse => cases g5
    rename_i w2
    rw [Option.map_eq_some_iff] at g5
    obtain ⟨⟨ys', envG⟩, g5, g6⟩ := g5
    cases g6
    have sw := s2.wipe wi
    refine ⟨wip envi vs, F2, items[i], ea, sw, rp, ga, fun σ2 sa xa ag la => ⟨?_, ?_⟩⟩
    · exact wipe_idem (by rw [la, wipe_length]) fun j hj => ag j fun z => hj (hv j z)
    · have ag2 : ∀ (j : Nat), j ∉ vs → σ2[j]? = σ[j]? := fun j hj => by rw [ag j fun z => hj (hv j z), wipe_get hj]
      have la2 : σ2.length = σ.length := by rw [la, wipe_length]
      have oDw := nobody_wipe wi oD2
      simp only [tYes, if_true]
      refine ⟨ea, F2, .dat (.list xs), env2, sa, gd, fun v H4 F4 s4 x4 p4 => ?_⟩
      have p4 : Rp X.kw F4 (.list xs) v := p4
      rw [Rp] at p4
      obtain ⟨zx, a, ws, rfl, ha4, rl4⟩ := p4
      have x04 := xa.trans x4
      obtain ⟨hD4, fD4, oD4⟩ := x04.nobody hD2 fD2 oDw
      refine ⟨a, rfl, ⟨ws, SqL.of (s4.fle a _ ha4)⟩, ?_⟩
      refine loop_it (walk_list (xs := ws)) (fun j Hj => ∃ envj Fj accj dsj rest, Sat X.kw envj σ2 Hj Fj ∧ Le F4 Fj ∧ Ext (wip envi vs) (wipe σ vs) H' F2 envj σ2 (upd Hj D (.lst acc)) Fj ∧ Hj D = some (.lst accj) ∧ Fj D = none ∧ ¬ Owned envj σ2 D ∧ RpL X.kw Fj dsj accj ∧ wipOk envj vs1 = true ∧ lcGo f1 (xs.drop j) envj = some (rest, envG) ∧ dsj ++ rest = ds ++ ys') ?_ ?_ ?_ ?_
      · exact ⟨env2, F4, acc, ds, ys', s4, Le.refl F4, by rw [upd_back hD4]; exact x04, hD4, fD4, oD4, RpL.mono (g2.f.trans x04.f) _ _ rl, w2, g5, rfl⟩
      · rintro j Hj hj ⟨envj, Fj, accj, dsj, rest, sj, lj, _⟩
        exact SqL.of (sj.fle a _ (lj a _ ha4))
      · rintro j x1' Hj Hj' hj ⟨envj, Fj, accj, dsj, rest, sj, lj, xj, hDj, fDj, oDj, rlj, wj, goj, finj⟩ ⟨yj1, yj2⟩
        subst yj1
        obtain ⟨d', hd1, hd2⟩ := rl4.get' yj2
        have hlt1 : j < xs.length := lt_of_get hd1
        have ed : xs[j] = d' := by
          rw [List.getElem?_eq_getElem hlt1] at hd1
          exact Option.some.inj hd1
        rw [List.drop_eq_getElem_cons hlt1, ed] at goj
        simp only [lcGo, Option.bind_eq_some_iff, Option.map_eq_some_iff] at goj
        obtain ⟨⟨yo, envn1⟩, k1, ⟨rest1, envG'⟩, k3, k4⟩ := goj
        cases k4
        rw [← hf1] at k1
        simp only [Option.bind_eq_some_iff, Option.map_eq_some_iff] at k1
        obtain ⟨ea1, ga1, ⟨ry, ey⟩, gy, ⟨dz, ez⟩, gz, k5⟩ := k1
        cases k5
        have sw1 := sj.wipe wj
        have oDw1 := nobody_wipe wj oDj
        refine ⟨wip envj vs1, Fj, d', ea1, sw1, Rp.mono lj _ _ hd2, ga1, fun σ3 sa1 xa1 ag1 la1 => ⟨?_, ?_⟩⟩
        · exact wipe_idem (by rw [la1, wipe_length]) fun j hj => ag1 j fun z => hj (hv1 j z)
        · have ag3 : ∀ (j : Nat), j ∉ vs1 → σ3[j]? = σ2[j]? := fun j hj => by rw [ag1 j fun z => hj (hv1 j z), wipe_get hj]
          have la3 : σ3.length = σ2.length := by rw [la1, wipe_length]
          simp only [tYes, if_true]
          refine ⟨ea1, Fj, ry, ey, sa1, gy, fun yv H7 F7 s7 x7 p7 => ?_⟩
          obtain ⟨hDa, fDa, oDa⟩ := xa1.nobody hDj fDj oDw1
          obtain ⟨hD7, fD7, oD7⟩ := x7.nobody hDa fDa oDa
          obtain ⟨F8, s8, x8, rp8, up8, k8, ow8, _⟩ := frz_ok s7 x7 p7 gz
          have fD8 : F8 D = none := by
            cases q : F8 D with
            | none => rfl
            | some o =>
              rcases k8 D fD7 (by rw [q]; simp) with n | n
              · have := (p7.fresh n).1; rw [hDa] at this; cases this
              · exact absurd n oD7
          have x38 := xa1.trans x8
          obtain ⟨s9, x9, ow9, wi9⟩ := sj.unwipe wj s8 x38 ag3 la3
          have oD9 : ¬ Owned (unwip envj ez vs1) σ2 D := fun z => oD7 (ow8 D (ow9 D z))
          have ra : accj.length = dsj.length := rlj.length
          have hle : dsj.length ≤ final.length := by
            have h1 := congrArg List.length finj
            have h2 := congrArg List.length fin
            simp only [List.length_append, List.length_cons] at h1 h2
            omega
          have hsz : accj.length < sizeLine := by
            have : (100000 : Nat) < sizeLine := by decide
            have hfin : final.length ≤ 100000 := hfin
            omega
          refine ⟨accj, hD7, hsz, unwip envj ez vs1, F8, accj ++ [yv], dsj ++ [dz], rest1, s9.nobody _ fD8 oD9, lj.trans x9.f, ?_, upd_same, fD8, oD9, ?_, wi9, k3, ?_⟩
          · rw [upd_upd]
            exact xj.trans (x9.swap (.lst acc) (by rw [hDj]; simp))
          · exact RpL.append (RpL.mono x9.f _ _ rlj) (RpL.cons rp8 RpL.nil)
          · rw [List.append_assoc]; exact finj
      · rintro Hj ⟨envj, Fj, accj, dsj, rest, sj, lj, xj, hDj, fDj, oDj, rlj, wj, goj, finj⟩
        rw [rl4.length, List.drop_length] at goj
        simp only [lcGo, Option.some.injEq, Prod.mk.injEq] at goj
        obtain ⟨q1, q2⟩ := goj
        subst q1 q2
        rw [List.append_nil] at finj
        have sh := sj.nobody (.lst acc) fDj oDj
        obtain ⟨s9, x9, ow9, wi9⟩ := s2.unwipe wi sh xj ag2 la2
        have oD9 : ¬ Owned (unwip envi envj vs) σ D := fun z => oDj (ow9 D z)
        have hb : upd (upd Hj D (.lst acc)) D (.lst accj) = Hj := by rw [upd_upd, upd_back hDj]
        have s10 := s9.nobody (.lst accj) fDj oD9
        have x10 := (((xi.trans x2).trans x9).change (.lst accj) hD)
        rw [hb] at s10 x10
        refine ⟨unwip envi envj vs, Fj, accj, ds ++ ys', rest', s10, x10, hDj, fDj, oD9, by rw [← finj]; exact rlj, wi9, g3, ?_⟩
        rw [List.append_assoc]; exact fin
  · rintro Hn ⟨envi, Fi, acc, ds, rest, si, xi, hDi, fDi, oDi, rl, wi, go, fin⟩
    rw [List.drop_length] at go
    simp only [lc2Go, Option.some.injEq, Prod.mk.injEq] at go
    obtain ⟨g1, g2⟩ := go
    subst g1 g2
    rw [List.append_nil] at fin
    subst fin
    obtain ⟨s7, x7, ow7⟩ := unlock_any hkk s1 si xi
    have hfin : ds.length ≤ 100000 := hfin
    have : (100000 : Nat) < sizeLine := by decide
    refine k _ Hn Fi s7 (x1.trans x7) ⟨D, _, rfl, hDi, fDi, ⟨by show ds.length ≤ sizeLine; omega, acc, rfl, rl⟩, fun z => ?_, x1.dmn D hD⟩
    rcases ow7 D z with z | z
    · exact oDi z
    · exact s1.notOwned hD z
end
end Lc
/-! list(zip(a, b)). -/
namespace Lc
open PySem L2
section
variable {X : Cx} {T : Tab} {N : List Str} {K : Kw} {env env0 env1 : Env} {σ σ0 σ1 : L2.St} {H H0 H1 F F0 F1 : Hp}
theorem snd_lzip {a b : E} {ea eb : Expr} {x y : Str} {p p2 q pos : Pos} {sc : Scope} (c : Cok T N X) (hsc : X.env.scope = sc) (hx : x = ("list" : Str)) (hg : gloB sc x = true) (hy : y = ("zip" : Str)) (hg2 : gloB sc y = true) (ha : PE X ea (tEv T X.kw a)) (hb : PE X eb (tEv T X.kw b)) (hs : ∀ x p, ea ≠ .Starred x p) (hs2 : ∀ x p, eb ≠ .Starred x p) :
    PE X (.Call (.Name x p) [.Call (.Name y p2) [ea, eb] [] q] [] pos) (tEv T X.kw (.lzip a b)) := by
  subst hx hy
  have hg' : Gl X "list" := by
    show X.env.scope.names.lookup _ = _
    rw [hsc]; exact glo_of hg
  have hg2' : Gl X "zip" := by
    show X.env.scope.names.lookup _ = _
    rw [hsc]; exact glo_of hg2
  refine PE.weak (pe_listZip hg' (c.blt _ (by decide +kernel)) hg2' (c.blt _ (by decide +kernel)) (pa_cons ha (pa_cons hb pa_nil (noStar hs2)) (noStar hs)) c.calm (noStar hs) (fun pos => by rw [noStar hs2]; rfl)) fun σ H Q ⟨env, F, r, env', s, e, k⟩ => ?_
  simp only [ev, Option.bind_eq_some_iff] at e
  obtain ⟨⟨r1, env1⟩, e1, ⟨r2, env2⟩, e2, ⟨d1, env3⟩, e3, ⟨d2, env4⟩, e4, e5⟩ := e
  refine ⟨env, F, r1, env1, s, e1, fun v H1 F1 s1 x1 p1 => ⟨env1, F1, r2, env2, s1, e2, fun w H2 F2 s2 x2 p2 => ?_⟩⟩
  have pl := RepL.push p1 x1 x2 (.cons p2 .nil fun _ _ _ _ _ h => by simp at h)
  have x12 := x1.trans x2
  have fl : frzL [r1, r2] env2 = some ([d1, d2], env4) := by
    simp only [frzL]
    have e3 : frz env2 r1 = some (d1, env3) := e3
    have e4 : frz env3 r2 = some (d2, env4) := e4
    rw [e3]
    simp [e4]
  obtain ⟨F3, s3, x3, rl, up⟩ := frzL_ok s2 x12 pl fl
  rw [RpL] at rl
  obtain ⟨v1, q1, g1, g2, g3⟩ := rl
  rw [RpL] at g3
  obtain ⟨v2, q2, g4, g5, g6⟩ := g3
  cases g1
  cases g4
  dsimp only at e5
  split at e5
  · rename_i xs ys
    cases e5
    rw [Rp] at g2 g5
    obtain ⟨gz, a1, vs1, f1, f2, f3⟩ := g2
    obtain ⟨gz2, a2, vs2, f4, f5, f6⟩ := g5
    have l1 := f3.length
    have l2 := f6.length
    have hmin : min vs1.length vs2.length ≤ sizeLine := by omega
    refine ⟨a1, a2, vs1, vs2, by rw [f1, f4], SqL.of (s3.fle _ _ f2), SqL.of (s3.fle _ _ f5), hmin, fun S hS => ?_⟩
    have gr := Grow.lst s3.fle hS ([] : List V)
    have FS : F3 S = none := s3.fle.none_of hS
    refine ⟨fun i acc Hi => ∃ Fi, Sat X.kw env' σ Hi Fi ∧ Ext env' σ H2 F3 env' σ Hi Fi ∧ Hi S = some (.lst acc) ∧ Fi S = none ∧ ¬ Owned env' σ S ∧ RpL X.kw Fi ((zipD xs ys).take i) acc, ⟨F3, s3.grow gr, gr.ext s3, upd_same, FS, s3.notOwned hS, by simpa using RpL.nil⟩, ?_, ?_, ?_⟩
    · rintro i acc Hi U x y ⟨Fi, si, xi, hSi, fSi, oSi, rl⟩ ex ey hU _
      obtain ⟨dx, k1, k2⟩ := f3.get' ex
      obtain ⟨dy, k3, k4⟩ := f6.get' ey
      obtain ⟨F4, g4, rp4⟩ := grow_pair si.fle hU (Rp.mono xi.f _ _ k2) (Rp.mono xi.f _ _ k4)
      have s4 := si.grow g4
      have x4 := g4.ext si
      obtain ⟨hS4, fS4, oS4⟩ := x4.nobody hSi fSi oSi
      refine ⟨F4, s4.nobody _ fS4 oS4, (xi.trans x4).change _ hS, upd_same, fS4, oS4, ?_⟩
      have ez : (zipD xs ys)[i]? = some (.tuple [dx, dy]) := zip_at k1 k3
      rw [List.take_add_one, ez]
      exact RpL.append (RpL.mono g4.f _ _ rl) (RpL.cons rp4 RpL.nil)
    · rintro i acc Hi ⟨Fi, si, xi, _⟩
      exact ⟨SqL.of (si.fle _ _ (xi.f _ _ f2)), SqL.of (si.fle _ _ (xi.f _ _ f5))⟩
    · rintro acc Hi ⟨Fi, si, xi, hSi, fSi, oSi, rl⟩ _
      have ln : (zipD xs ys).length = min vs1.length vs2.length := by rw [zip_len, l1, l2]
      rw [← ln, List.take_length] at rl
      exact k _ Hi Fi si (x3.trans xi) ⟨S, _, rfl, hSi, fSi, ⟨by rw [ln]; exact hmin, acc, rfl, rl⟩, oSi, x12.dmn S hS⟩
  · cases e5
end
end Lc
/-! All expressions. -/
namespace Lc
open PySem L2
section
variable {X : Cx} {T : Tab} {N : List Str} {K : Kw} {env env0 env1 : Env} {σ σ0 σ1 : L2.St} {H H0 H1 F F0 F1 : Hp}
/-! ### all expressions -/
theorem ckS_plain {src : Src} {tg e : Expr} {sc : Scope} (h : ckSrc N src tg e sc = true) : ∀ x k p, e ≠ .Set x k p := by
  cases src with
  | seq a => simp only [ckSrc] at h; exact (ck_plain h).2.2
  | rng a => intro x k p z; subst z; simp [ckSrc] at h
  | enum a => intro x k p z; subst z; simp [ckSrc] at h
  | zip a b => intro x k p z; subst z; simp [ckSrc] at h
theorem snd_ci {cond : EO} {ifs : List Expr} {sc : Scope} (h : ckI N cond ifs sc = true) (ih : ∀ a e, cond = .so a → ckT N a e sc = true → PT X e (tEvT T X.kw a)) : PTs X ifs (tEvC T X.kw cond) := by
  cases cond with
  | no =>
    cases ifs with
    | nil =>
      refine PTs.weak pts_nil fun σ H Q ⟨env, F, b, env', s, e, k⟩ => ?_
      simp only [evC, Option.some.injEq, Prod.mk.injEq] at e
      obtain ⟨e1, e2⟩ := e
      subst e1 e2
      exact k H F s Ext.refl
    | cons _ _ => simp [ckI] at h
  | so a =>
    match ifs, h with
    | [e], h =>
      simp only [ckI] at h
      refine PTs.weak (pts_one (ih a e rfl h)) fun σ H Q ⟨env, F, b, env', s, e, k⟩ => ?_
      simp only [evC, Option.bind_eq_some_iff, Option.map_eq_some_iff] at e
      obtain ⟨⟨r1, env1⟩, e1, b', eb, e3⟩ := e
      cases e3
      exact ⟨env, F, r1, _, _, s, e1, eb, fun H1 F1 s1 x1 => k H1 F1 s1 x1⟩
    | [], h => simp [ckI] at h
    | _ :: _ :: _, h => simp [ckI] at h
end
mutual
theorem sndE {T : Tab} {N : List Str} : ∀ (a : E) {X : Cx} {e : Expr} {sc : Scope}, Cok T N X → X.env.scope = sc → ckE N a e sc = true → PE X e (tEv T X.kw a)
  | .var i, X, e, sc, c, hs, h => snd_var c hs h
  | .cst d, X, e, sc, c, hs, h => snd_cst h
  | .glo y, X, e, sc, c, hs, h => snd_glo c hs h
  | .bin op a b, X, e, sc, c, hs, h => by
    cases e <;> simp only [ckE, Bool.false_eq_true] at h
    obtain ⟨h1, h3⟩ := band h
    obtain ⟨h1, h2⟩ := band h1
    have := of_decide_eq_true h1
    subst this
    exact snd_bin (sndE a c hs h2) (sndE b c hs h3)
  | .neg a, X, e, sc, c, hs, h => by
    unfold ckE at h
    split at h
    · exact snd_neg (sndE a c hs h)
    · cases h
  | .not_ a, X, e, sc, c, hs, h => by
    unfold ckE at h
    split at h
    · exact snd_not (sndE a c hs h)
    · cases h
  | .cmp op a b, X, e, sc, c, hs, h => by
    unfold ckE at h
    split at h
    · obtain ⟨h1, h3⟩ := band h
      obtain ⟨h1, h2⟩ := band h1
      have := of_decide_eq_true h1
      subst this
      exact snd_cmp c (sndE a c hs h2) (sndE b c hs h3) (noMark (ck_plain h3).2.2)
    · cases h
  | .chain o1 o2 a b d, X, e, sc, c, hs, h => by
    unfold ckE at h
    split at h
    · obtain ⟨h1, h5⟩ := band h
      obtain ⟨h1, h4⟩ := band h1
      obtain ⟨h1, h3⟩ := band h1
      obtain ⟨h1, h2⟩ := band h1
      have := of_decide_eq_true h1
      have := of_decide_eq_true h2
      subst_vars
      exact snd_chain c (sndE a c rfl h3) (sndE b c rfl h4) (sndE d c rfl h5) (noMark (ck_plain h5).2.2)
    · cases h
  | .and_ es, X, e, sc, c, hs, h => by
    unfold ckE at h
    split at h
    · exact snd_andV (sndA es c hs h)
    · cases h
  | .or_ es, X, e, sc, c, hs, h => by
    unfold ckE at h
    split at h
    · exact snd_orV (sndB es c hs h)
    · cases h
  | .ite t a b, X, e, sc, c, hs, h => by
    unfold ckE at h
    split at h
    · obtain ⟨h1, h3⟩ := band h
      obtain ⟨h1, h2⟩ := band h1
      exact snd_ite (sndT t c hs h1) (sndE a c hs h2) (sndE b c hs h3)
    · cases h
  | .tup es, X, e, sc, c, hs, h => by
    unfold ckE at h
    split at h
    · exact snd_tup (sndL es c hs h)
    · cases h
  | .lst es, X, e, sc, c, hs, h => by
    unfold ckE at h
    split at h
    · exact snd_lst (sndL es c hs h)
    · cases h
  | .idx a b, X, e, sc, c, hs, h => by
    unfold ckE at h
    split at h
    · obtain ⟨h1, h2⟩ := band h
      exact snd_idx c (sndE a c hs h1) (sndE b c hs h2) (noSlice (ck_plain h2).2.1)
    · cases h
  | .sl a lo hi, X, e, sc, c, hs, h => by
    unfold ckE at h
    split at h
    · obtain ⟨h1, h3⟩ := band h
      obtain ⟨h1, h2⟩ := band h1
      exact snd_sl (sndE a c hs h1) (sndO lo c hs h2) (sndO hi c hs h3)
    · cases h
  | .rev a, X, e, sc, c, hs, h => by
    unfold ckE at h
    split at h
    · exact snd_rev (sndE a c hs h)
    · cases h
  | .call f es, X, e, sc, c, hs, h => by
    unfold ckE at h
    split at h
    · obtain ⟨h1, h4⟩ := band h
      obtain ⟨h1, h3⟩ := band h1
      obtain ⟨h1, h2⟩ := band h1
      exact snd_call c hs (of_decide_eq_true h1) h2 h3 h4 (sndL es c hs h4)
    · cases h
  | .blt f es, X, e, sc, c, hs, h => by
    unfold ckE at h
    split at h
    · obtain ⟨h1, h4⟩ := band h
      obtain ⟨h1, h2⟩ := band h1
      exact snd_blt c hs (of_decide_eq_true h1) h2 h4 (sndL es c hs h4)
    · cases h
  | .isi a tys, X, e, sc, c, hs, h => by
    unfold ckE at h
    split at h
    · cases h
    · obtain ⟨h1, h4⟩ := band h
      obtain ⟨h1, h3⟩ := band h1
      obtain ⟨h1, h2⟩ := band h1
      split at h4
      · exact snd_isi1 c hs (of_decide_eq_true h1) h2 (sndE a c hs h3) (ck_plain h3).1 h4
      · cases h4
    · cases h
  | .lc elt tg src cond vs, X, e, sc, c, hs, h => by
    unfold ckE at h
    split at h
    · obtain ⟨h1, h6⟩ := band h
      obtain ⟨h1, h5⟩ := band h1
      obtain ⟨h1, h4⟩ := band h1
      obtain ⟨h1, h3⟩ := band h1
      obtain ⟨h1, h2⟩ := band h1
      obtain ⟨p1, p2⟩ := snd_lc (pos := _) (elt := elt) (tg := tg) (src := src) (cond := cond) (vs := vs) c (by rw [c.hN, hs]; exact blkOk_by h1) (fun i hi => by simpa using List.all_eq_true.mp h2 i hi) (sndS src c hs h3) (ckS_plain h3)
        (fun s H C cl fp => snd_tg (b := true) c.calm ⟨c.hN, c.nd, by subst hs; rfl, fun z => nomatch z⟩ h4)
        (fun s H C cl fp => snd_ci h5 fun a e ea ha => by subst ea; exact sndT a (c.blk s H _ _ fp) (by subst hs; rfl) ha)
        (fun s H C cl fp => sndE elt (c.blk s H _ _ fp) (by subst hs; rfl) h6)
      exact PE.weak p1 p2
    · cases h
  | .lc2 elt tg src tg1 d1 vs vs1, X, e, sc, c, hs, h => by
    unfold ckE at h
    split at h
    · rename_i elt' tg' iter' tg1' iter1' scope pos'
      obtain ⟨h1, h8⟩ := band h
      obtain ⟨h1, h7⟩ := band h1
      obtain ⟨h1, h6⟩ := band h1
      obtain ⟨h1, h9⟩ := band h1
      obtain ⟨h1, h5⟩ := band h1
      obtain ⟨h1, h4⟩ := band h1
      obtain ⟨h1, h3⟩ := band h1
      obtain ⟨h1, h2⟩ := band h1
      have ok : BlkOk X.N X.env.scope scope (vs.map fun i => (N.getD i Str.empty, i)) := by rw [c.hN, hs]; exact blkOk_by h1
      exact snd_lc2 c ok (fun i hi => by simpa using List.all_eq_true.mp h2 i hi) (fun i hi => by simpa using List.all_eq_true.mp h3 i hi) (fun i hi => by simpa using List.all_eq_true.mp h9 i hi) (sndS src c hs h4) (ckS_plain h4)
        (fun s H C cl fp => snd_tg (b := true) c.calm ⟨c.hN, c.nd, by subst hs; rfl, fun z => nomatch z⟩ h5)
        (fun s H C cl fp => sndE d1 (c.blk s H _ _ fp) (by subst hs; rfl) h6) (ck_plain h6).2.2
        (fun s H C cl fp => snd_tg (b := true) c.calm ⟨c.hN, c.nd, by subst hs; rfl, fun z => nomatch z⟩ h7)
        (fun s H C cl fp => sndE elt (c.blk s H _ _ fp) (by subst hs; rfl) h8)
    · cases h
  | .dc key val tg src vs, X, e, sc, c, hs, h => by
    unfold ckE at h
    split at h
    · rename_i key' val' tg' iter' scope pos'
      obtain ⟨h1, h6⟩ := band h
      obtain ⟨h1, h5⟩ := band h1
      obtain ⟨h1, h4⟩ := band h1
      obtain ⟨h1, h3⟩ := band h1
      obtain ⟨h1, h2⟩ := band h1
      have ok : BlkOk X.N X.env.scope scope (vs.map fun i => (N.getD i Str.empty, i)) := by rw [c.hN, hs]; exact blkOk_by h1
      exact snd_dc c ok (fun i hi => by simpa using List.all_eq_true.mp h2 i hi) (sndS src c hs h3) (ckS_plain h3)
        (fun s H C cl fp => snd_tg (b := true) c.calm ⟨c.hN, c.nd, by subst hs; rfl, fun z => nomatch z⟩ h4)
        (fun s H C cl fp => sndE key (c.blk s H _ _ fp) (by subst hs; rfl) h5)
        (fun s H C cl fp => sndE val (c.blk s H _ _ fp) (by subst hs; rfl) h6)
    · cases h
  | .dnew, X, e, sc, c, hs, h => by
    unfold ckE at h
    split at h
    · exact snd_dnew
    · cases h
  | .getD d k x, X, e, sc, c, hs, h => by
    unfold ckE at h
    split at h
    · obtain ⟨h1, h5⟩ := band h
      obtain ⟨h1, h4⟩ := band h1
      obtain ⟨h1, h3⟩ := band h1
      obtain ⟨h1, h2⟩ := band h1
      exact snd_getD c (of_decide_eq_true h1) (sndE d c hs h2) (sndE k c hs h3) (sndE x c hs h4) (ck_plain h3).1 (ck_plain h4).1 h5
    · cases h
  | .lzip a b, X, e, sc, c, hs, h => by
    unfold ckE at h
    split at h
    · obtain ⟨h1, h6⟩ := band h
      obtain ⟨h1, h5⟩ := band h1
      obtain ⟨h1, h4⟩ := band h1
      obtain ⟨h1, h3⟩ := band h1
      obtain ⟨h1, h2⟩ := band h1
      exact snd_lzip c hs (of_decide_eq_true h1) h2 (of_decide_eq_true h3) h4 (sndE a c hs h5) (sndE b c hs h6) (ck_plain h5).1 (ck_plain h6).1
    · cases h
theorem sndT {T : Tab} {N : List Str} : ∀ (a : E) {X : Cx} {e : Expr} {sc : Scope}, Cok T N X → X.env.scope = sc → ckT N a e sc = true → PT X e (tEvT T X.kw a)
  | .not_ a, X, e, sc, c, hs, h => by
    unfold ckT at h
    split at h
    · exact snd_notT (sndT a c hs h)
    · cases h
  | .and_ es, X, e, sc, c, hs, h => by
    unfold ckT at h
    split at h
    · exact snd_andT (sndAT es c hs h)
    · cases h
  | .or_ es, X, e, sc, c, hs, h => by
    unfold ckT at h
    split at h
    · exact snd_orT (sndBT es c hs h)
    · cases h
  | .ite _ _ _, X, e, sc, c, hs, h => by simp [ckT] at h
  | .cmp op a b, X, e, sc, c, hs, h => by
    unfold ckT at h
    split at h
    · obtain ⟨h1, h3⟩ := band h
      obtain ⟨h1, h2⟩ := band h1
      have := of_decide_eq_true h1
      subst this
      exact snd_cmpT c (sndE a c hs h2) (sndE b c hs h3) (noMark (ck_plain h3).2.2)
    · cases h
  | .chain o1 o2 a b d, X, e, sc, c, hs, h => by
    unfold ckT at h
    split at h
    · obtain ⟨h1, h5⟩ := band h
      obtain ⟨h1, h4⟩ := band h1
      obtain ⟨h1, h3⟩ := band h1
      obtain ⟨h1, h2⟩ := band h1
      have := of_decide_eq_true h1
      have := of_decide_eq_true h2
      subst_vars
      exact snd_chainT c (sndE a c rfl h3) (sndE b c rfl h4) (sndE d c rfl h5) (noMark (ck_plain h5).2.2)
    · cases h
  | .var i, X, e, sc, c, hs, h => by
    have h' : ckE N (.var i) e sc = true := h
    cases e <;> simp only [ckT, Bool.false_eq_true] at h
    exact snd_val (snd_var c hs h') fun _ => rfl
  | .call f es, X, e, sc, c, hs, h => by
    unfold ckT at h
    split at h
    · obtain ⟨h1, h4⟩ := band h
      obtain ⟨h1, h3⟩ := band h1
      obtain ⟨h1, h2⟩ := band h1
      exact snd_val (snd_call c hs (of_decide_eq_true h1) h2 h3 h4 (sndL es c hs h4)) fun _ => rfl
    · cases h
  | .blt f es, X, e, sc, c, hs, h => by
    unfold ckT at h
    split at h
    · obtain ⟨h1, h4⟩ := band h
      obtain ⟨h1, h2⟩ := band h1
      exact snd_val (snd_blt c hs (of_decide_eq_true h1) h2 h4 (sndL es c hs h4)) fun _ => rfl
    · cases h
  | .isi a tys, X, e, sc, c, hs, h => by
    unfold ckT at h
    split at h
    · cases h
    · obtain ⟨h1, h4⟩ := band h
      obtain ⟨h1, h3⟩ := band h1
      obtain ⟨h1, h2⟩ := band h1
      split at h4
      · exact snd_val (snd_isi1 c hs (of_decide_eq_true h1) h2 (sndE a c hs h3) (ck_plain h3).1 h4) fun _ => rfl
      · cases h4
    · cases h
  | .idx a b, X, e, sc, c, hs, h => by
    unfold ckT at h
    split at h
    · obtain ⟨h1, h2⟩ := band h
      exact snd_val (snd_idx c (sndE a c hs h1) (sndE b c hs h2) (noSlice (ck_plain h2).2.1)) fun _ => rfl
    · cases h
  | .cst _, X, e, sc, c, hs, h => by simp [ckT] at h
  | .glo _, X, e, sc, c, hs, h => by simp [ckT] at h
  | .bin _ _ _, X, e, sc, c, hs, h => by simp [ckT] at h
  | .neg _, X, e, sc, c, hs, h => by simp [ckT] at h
  | .tup _, X, e, sc, c, hs, h => by simp [ckT] at h
  | .lst _, X, e, sc, c, hs, h => by simp [ckT] at h
  | .sl _ _ _, X, e, sc, c, hs, h => by simp [ckT] at h
  | .rev _, X, e, sc, c, hs, h => by simp [ckT] at h
  | .lc _ _ _ _ _, X, e, sc, c, hs, h => by simp [ckT] at h
  | .lc2 _ _ _ _ _ _ _, X, e, sc, c, hs, h => by simp [ckT] at h
  | .dc _ _ _ _ _, X, e, sc, c, hs, h => by simp [ckT] at h
  | .dnew, X, e, sc, c, hs, h => by simp [ckT] at h
  | .getD _ _ _, X, e, sc, c, hs, h => by simp [ckT] at h
  | .lzip _ _, X, e, sc, c, hs, h => by simp [ckT] at h
theorem sndL {T : Tab} {N : List Str} : ∀ (es : EL) {X : Cx} {exs : List Expr} {sc : Scope}, Cok T N X → X.env.scope = sc → ckL N es exs sc = true → PA X exs (tEvL T X.kw es)
  | .nil, X, exs, sc, c, hs, h => by
    cases exs with
    | nil => exact snd_nil
    | cons _ _ => simp [ckL] at h
  | .cons a r, X, exs, sc, c, hs, h => by
    cases exs with
    | nil => simp [ckL] at h
    | cons e es =>
      simp only [ckL] at h
      obtain ⟨h1, h2⟩ := band h
      exact snd_cons (sndE a c hs h1) (sndL r c hs h2) (ck_plain h1).1
theorem sndA {T : Tab} {N : List Str} : ∀ (es : EL) {X : Cx} {exs : List Expr} {sc : Scope} {pos : Pos}, Cok T N X → X.env.scope = sc → ckL N es exs sc = true → PE X (.BoolOp .And exs pos) (tEvA T X.kw es)
  | .nil, X, exs, sc, pos, c, hs, h => ⟨fun _ _ _ _ _ _ w => by
      obtain ⟨env, F, b, env', s, e, k⟩ := w
      simp [evAnd] at e⟩
  | .cons a .nil, X, exs, sc, pos, c, hs, h => by
    match exs, h with
    | [e], h => simp only [ckL, Bool.and_true] at h; exact snd_and1 (sndE a c hs h)
    | [], h => simp [ckL] at h
    | _ :: _ :: _, h => simp [ckL] at h
  | .cons a (.cons b r), X, exs, sc, pos, c, hs, h => by
    match exs, h with
    | e :: e2 :: es, h =>
      have h' : (ckE N a e sc && ckL N (.cons b r) (e2 :: es) sc) = true := by simpa only [ckL] using h
      obtain ⟨h1, h2⟩ := band h'
      exact snd_andC (sndE a c hs h1) (sndA (.cons b r) c hs h2)
    | [], h => simp [ckL] at h
    | [_], h => simp [ckL] at h
theorem sndB {T : Tab} {N : List Str} : ∀ (es : EL) {X : Cx} {exs : List Expr} {sc : Scope} {pos : Pos}, Cok T N X → X.env.scope = sc → ckL N es exs sc = true → PE X (.BoolOp .Or exs pos) (tEvB T X.kw es)
  | .nil, X, exs, sc, pos, c, hs, h => ⟨fun _ _ _ _ _ _ w => by
      obtain ⟨env, F, b, env', s, e, k⟩ := w
      simp [evOr] at e⟩
  | .cons a .nil, X, exs, sc, pos, c, hs, h => by
    match exs, h with
    | [e], h => simp only [ckL, Bool.and_true] at h; exact snd_or1 (sndE a c hs h)
    | [], h => simp [ckL] at h
    | _ :: _ :: _, h => simp [ckL] at h
  | .cons a (.cons b r), X, exs, sc, pos, c, hs, h => by
    match exs, h with
    | e :: e2 :: es, h =>
      have h' : (ckE N a e sc && ckL N (.cons b r) (e2 :: es) sc) = true := by simpa only [ckL] using h
      obtain ⟨h1, h2⟩ := band h'
      exact snd_orC (sndE a c hs h1) (sndB (.cons b r) c hs h2)
    | [], h => simp [ckL] at h
    | [_], h => simp [ckL] at h
theorem sndAT {T : Tab} {N : List Str} : ∀ (es : EL) {X : Cx} {exs : List Expr} {sc : Scope} {pos : Pos}, Cok T N X → X.env.scope = sc → ckTL N es exs sc = true → PW X (.BoolOp .And exs pos) (tEvAT T X.kw es)
  | .nil, X, exs, sc, pos, c, hs, h => ⟨fun _ _ _ _ _ _ _ w => by
      obtain ⟨env, F, b, env', s, e, k⟩ := w
      simp [evAnd] at e⟩
  | .cons a .nil, X, exs, sc, pos, c, hs, h => by
    match exs, h with
    | [e], h => simp only [ckTL, Bool.and_true] at h; exact snd_and1T (sndT a c hs h)
    | [], h => simp [ckTL] at h
    | _ :: _ :: _, h => simp [ckTL] at h
  | .cons a (.cons b r), X, exs, sc, pos, c, hs, h => by
    match exs, h with
    | e :: e2 :: es, h =>
      have h' : (ckT N a e sc && ckTL N (.cons b r) (e2 :: es) sc) = true := by simpa only [ckTL] using h
      obtain ⟨h1, h2⟩ := band h'
      exact snd_andCT (sndT a c hs h1) (sndAT (.cons b r) c hs h2)
    | [], h => simp [ckTL] at h
    | [_], h => simp [ckTL] at h
theorem sndBT {T : Tab} {N : List Str} : ∀ (es : EL) {X : Cx} {exs : List Expr} {sc : Scope} {pos : Pos}, Cok T N X → X.env.scope = sc → ckTL N es exs sc = true → PW X (.BoolOp .Or exs pos) (tEvBT T X.kw es)
  | .nil, X, exs, sc, pos, c, hs, h => ⟨fun _ _ _ _ _ _ _ w => by
      obtain ⟨env, F, b, env', s, e, k⟩ := w
      simp [evOr] at e⟩
  | .cons a .nil, X, exs, sc, pos, c, hs, h => by
    match exs, h with
    | [e], h => simp only [ckTL, Bool.and_true] at h; exact snd_or1T (sndT a c hs h)
    | [], h => simp [ckTL] at h
    | _ :: _ :: _, h => simp [ckTL] at h
  | .cons a (.cons b r), X, exs, sc, pos, c, hs, h => by
    match exs, h with
    | e :: e2 :: es, h =>
      have h' : (ckT N a e sc && ckTL N (.cons b r) (e2 :: es) sc) = true := by simpa only [ckTL] using h
      obtain ⟨h1, h2⟩ := band h'
      exact snd_orCT (sndT a c hs h1) (sndBT (.cons b r) c hs h2)
    | [], h => simp [ckTL] at h
    | [_], h => simp [ckTL] at h
theorem sndO {T : Tab} {N : List Str} : ∀ (o : EO) {X : Cx} {e : Option Expr} {sc : Scope}, Cok T N X → X.env.scope = sc → ckO N o e sc = true → PO X e (tEvO T X.kw o)
  | .no, X, e, sc, c, hs, h => by
    cases e with
    | none => exact snd_no
    | some _ => simp [ckO] at h
  | .so a, X, e, sc, c, hs, h => by
    cases e with
    | none => simp [ckO] at h
    | some e => simp only [ckO] at h; exact snd_so (sndE a c hs h)
theorem sndS {T : Tab} {N : List Str} : ∀ (src : Src) {X : Cx} {tg e : Expr} {sc : Scope}, Cok T N X → X.env.scope = sc → ckSrc N src tg e sc = true → PI X tg e (tSrc T X.kw src)
  | .seq a, X, tg, e, sc, c, hs, h => by
    simp only [ckSrc] at h
    exact snd_seq (sndE a c hs h)
  | .rng a, X, tg, e, sc, c, hs, h => by
    unfold ckSrc at h
    split at h
    · obtain ⟨h1, h3⟩ := band h
      obtain ⟨h1, h2⟩ := band h1
      exact snd_rng c hs (of_decide_eq_true h1) h2 (sndE a c hs h3) (ck_plain h3).1
    · cases h
  | .enum a, X, tg, e, sc, c, hs, h => by
    unfold ckSrc at h
    split at h
    · obtain ⟨h1, h4⟩ := band h
      obtain ⟨h1, h3⟩ := band h1
      obtain ⟨h1, h2⟩ := band h1
      exact snd_enum c hs (of_decide_eq_true h1) h2 h4 (sndE a c hs h3) (ck_plain h3).1
    · cases h
  | .zip a b, X, tg, e, sc, c, hs, h => by
    unfold ckSrc at h
    split at h
    · obtain ⟨h1, h5⟩ := band h
      obtain ⟨h1, h4⟩ := band h1
      obtain ⟨h1, h3⟩ := band h1
      obtain ⟨h1, h2⟩ := band h1
      exact snd_zip c hs (of_decide_eq_true h1) h2 h5 (sndE a c hs h3) (sndE b c hs h4) (ck_plain h3).1 (ck_plain h4).1
    · cases h
end
end Lc
/-! Statements. -/
namespace Lc
open PySem L2
/-! ### does a statement's text say so -/
/-- is the comprehension's value stored ahead of its names' return -/
def swapB (e : Expr) (x : Str) (p : Pos) (sc : Scope) : Bool := match e with
  | .ListComp _ _ s _ => sc.names.lookup x == some .local && p.line == e.pos.line && !(s.names.any fun (n, k) => n == x && (k == .local || k == .cell))
  | .SetComp _ _ s _ => sc.names.lookup x == some .local && p.line == e.pos.line && !(s.names.any fun (n, k) => n == x && (k == .local || k == .cell))
  | .DictComp _ _ _ s _ => sc.names.lookup x == some .local && p.line == e.pos.line && !(s.names.any fun (n, k) => n == x && (k == .local || k == .cell))
  | _ => false
theorem swap_ok {e : Expr} {x : Str} {p : Pos} {l : Nat} {env : PySem.Env} {sc : Scope} (hk : env.blockKind = .function) (hs : env.scope = sc) : swapsWith e (some (.Name x p)) l env = pure (swapB e x p sc) := by
  subst hs
  have e1 : (env.blockKind == ScopeKind.function) = true := by rw [hk]; rfl
  cases e <;> first
    | rfl
    | (show (pure _ : Sem Bool) = _; rw [e1, Bool.true_and]; rfl)
def starB (e : Expr) : Bool := match e with
  | .Starred _ _ => true
  | _ => false
def nmAt (line : Nat) (sc : Scope) (e : Expr) : Option Str := match e with
  | .Name id pos => if sc.names.lookup id == some .local && pos.line == line then some id else none
  | _ => none
/-- what is known of the order of the stores -/
def swp (ts vs : List Expr) (sc : Scope) : Option (Option (List Str)) :=
  if !(ts.length == 2 || ts.length == 3) || vs.length != ts.length then some none
  else if vs.any starB then some none
  else if (ts.filterMap (nmAt ((ts.head?.map (·.pos.line)).getD 0) sc)).length != ts.length || (ts.filterMap (nmAt ((ts.head?.map (·.pos.line)).getD 0) sc)).eraseDups.length != (ts.filterMap (nmAt ((ts.head?.map (·.pos.line)).getD 0) sc)).length then some none
  else if vs.all (foldedForSure 8) then some none
  else if vs.all (constantsAlone 8) then none
  else some (some (ts.filterMap (nmAt ((ts.head?.map (·.pos.line)).getD 0) sc)))
theorem swp_ok {ts vs : List Expr} {k k2 : Nat} {p p2 : Pos} {env : PySem.Env} {sc : Scope} {r : Option (List Str)} (hk : env.blockKind = .function) (hs : env.scope = sc) (h : swp ts vs sc = some r) : swappedStores [.Tuple ts k p] (.Tuple vs k2 p2) env = pure r := by
  subst hs
  have e1 : (env.blockKind != ScopeKind.function) = false := by rw [hk]; rfl
  have key : ∃ u : Sem (Option (List Str)), swappedStores [.Tuple ts k p] (.Tuple vs k2 p2) env = (if (!(ts.length == 2 || ts.length == 3) || vs.length != ts.length || env.blockKind != ScopeKind.function) = true then pure none
    else if vs.any starB = true then pure none
    else if ((ts.filterMap (nmAt ((ts.head?.map (·.pos.line)).getD 0) env.scope)).length != ts.length || (ts.filterMap (nmAt ((ts.head?.map (·.pos.line)).getD 0) env.scope)).eraseDups.length != (ts.filterMap (nmAt ((ts.head?.map (·.pos.line)).getD 0) env.scope)).length) = true then pure none
    else if vs.all (foldedForSure 8) = true then pure none
    else if vs.all (constantsAlone 8) = true then u
    else pure (some (ts.filterMap (nmAt ((ts.head?.map (·.pos.line)).getD 0) env.scope)))) := ⟨_, rfl⟩
  obtain ⟨u, key⟩ := key
  rw [key, e1, Bool.or_false]
  clear key
  unfold swp at h
  split at h
  · rename_i c1; rw [if_pos c1]; cases h; rfl
  · rename_i c1
    rw [if_neg c1]
    split at h
    · rename_i c2; rw [if_pos c2]; cases h; rfl
    · rename_i c2
      rw [if_neg c2]
      split at h
      · rename_i c3; rw [if_pos c3]; cases h; rfl
      · rename_i c3
        rw [if_neg c3]
        split at h
        · rename_i c4; rw [if_pos c4]; cases h; rfl
        · rename_i c4
          rw [if_neg c4]
          split at h
          · cases h
          · rename_i c5
            rw [if_neg c5]; cases h; rfl
section
variable (N : List Str)
def unpOk (ts : List Expr) (e : Expr) (sc : Scope) : Bool := match e with
  | .Tuple vs _ _ => decide (swp ts vs sc = some none)
  | _ => true
def ckLoc (i : Nat) (x : Str) (sc : Scope) : Bool := decide (N[i]? = some x) && locB sc x
mutual
def ckS : S → Stmt → Scope → Bool
  | .set i _ e, st, sc => (match st with
    | .Assign [.Name x p] e' _ => decide (N[i]? = some x) && locB sc x && ckE N e e' sc && (!(swapB e' x p sc) || (match e with | .lc _ _ _ _ _ => true | _ => false))
    | _ => false)
  | .par is _ es, st, sc => (match st with
    | .Assign [.Tuple [.Name x px, .Name y py] _ _] (.Tuple [a, b] _ _) _ => decide (is.map (fun i => N[i]?) = [some x, some y]) && decide (swp [.Name x px, .Name y py] [a, b] sc = some (some [x, y])) && ckL N es [a, b] sc
    | .Assign [.Tuple [.Name x px, .Name y py, .Name z pz] _ _] (.Tuple [a, b, c] _ _) _ => decide (is.map (fun i => N[i]?) = [some x, some y, some z]) && decide (swp [.Name x px, .Name y py, .Name z pz] [a, b, c] sc = some (some [x, y, z])) && ckL N es [a, b, c] sc
    | _ => false)
  | .unp tg e, st, sc => (match st with
    | .Assign [.Tuple ts k p] e' _ => ckTg N tg (.Tuple ts k p) sc false && ckE N e e' sc && unpOk ts e' sc
    | _ => false)
  | .sub i ix e, st, sc => (match st with
    | .Assign [.Subscript (.Name x p) ix' _] e' _ => decide (N[i]? = some x) && visB sc x && nameOk x && ckE N ix ix' sc && ckE N e e' sc
    | _ => false)
  | .app i e, st, sc => (match st with
    | .Expr (.Call (.Attribute (.Name x p) m apos) [e'] [] cpos) _ => decide (m = ("append" : Str)) && decide (N[i]? = some x) && visB sc x && nameOk x && ckE N e e' sc && (apos.endLine == cpos.line)
    | _ => false)
  | .ins i k e, st, sc => (match st with
    | .Expr (.Call (.Attribute (.Name x p) m apos) [k', e'] [] cpos) _ => decide (m = ("insert" : Str)) && decide (N[i]? = some x) && visB sc x && nameOk x && ckE N k k' sc && ckE N e e' sc && (apos.endLine == cpos.line)
    | _ => false)
  | .rem _ _, _, _ => false
  | .rai, st, _ => (match st with
    | .Raise _ _ _ => true
    | _ => false)
  | .expr e, st, sc => (match st with
    | .Expr (.Call f as ks p) _ => ckE N e (.Call f as ks p) sc
    | _ => false)
  | .ret e, st, sc => (match st with
    | .Return (some e') _ => ckE N e e' sc
    | _ => false)
  | .ite c a b, st, sc => (match st with
    | .If c' a' b' _ => ckT N c c' sc && ckSL a a' sc && ckSL b b' sc
    | _ => false)
  | .for_ tg src body _, st, sc => (match st with
    | .For tg' iter' body' [] _ => ckSrc N src tg' iter' sc && ckTg N tg tg' sc false && ckSL body body' sc
    | _ => false)
  | .whl c body _, st, sc => (match st with
    | .While c' body' [] _ => ckT N c c' sc && ckSL body body' sc
    | _ => false)
def ckSL : SL → List Stmt → Scope → Bool
  | .nil, sts, _ => (match sts with
    | [] => true
    | _ => false)
  | .cons s r, sts, sc => (match sts with
    | s' :: r' => ckS s s' sc && ckSL r r' sc
    | _ => false)
end
end
section
variable {X : Cx} {T : Tab} {N : List Str} {K : Kw} {env env0 env1 : Env} {σ σ0 σ1 : L2.St} {H H0 H1 F F0 F1 : Hp}
theorem PS.weak {st : Stmt} {t t' : TS} (h : PS X st t) (k : ∀ D σ H, t' D σ H → t D σ H) : PS X st t' := ⟨fun pins s σ H D I w => h.run pins s σ H D I (k D σ H w)⟩
theorem PSs.weak {st : List Stmt} {t t' : TS} (h : PSs X st t) (k : ∀ D σ H, t' D σ H → t D σ H) : PSs X st t' := ⟨fun pins s σ H D I w => h.run pins s σ H D I (k D σ H w)⟩
/-- a thing of one's own gets another content -/
theorem Sat.store (s : Sat K env σ H F) {i : Nat} {p : Bool} {xs ys : C} {a : Addr} {u : HO} (hi : env[i]? = some (.own p xs)) (ha : σ[i]? = some (some (.ref a))) (r : Cnt K F a ys u) :
    Sat K (env.set i (.own p ys)) σ (upd H a u) F ∧ Ext env σ H F (env.set i (.own p ys)) σ (upd H a u) F := by
  obtain ⟨b, u0, e1, e2, e3, e4⟩ := s.sl i _ hi
  rw [ha] at e1; cases e1
  have oa : Owned env σ a := ⟨i, ha, _, hi, rfl⟩
  have hl := lt_of_get hi
  have own : ∀ j b, Owns (env.set i (.own p ys)) σ j b → Owns env σ j b := fun j b ⟨h1, t, h2, h3⟩ => by
    by_cases hj : i = j
    · subst hj; exact ⟨h1, _, hi, rfl⟩
    · rw [get_set_ne hj] at h2; exact ⟨h1, t, h2, h3⟩
  refine ⟨⟨fun b o e => ?_, by rw [List.length_set]; exact s.len, fun j t h => ?_, fun j k b h1 h2 => s.inj j k b (own j b h1) (own k b h2)⟩, ⟨Le.refl F, fun b o h n => (by rw [h] at n; cases n), fun b o h n => ?_, fun b h => ?_, fun b ⟨j, h⟩ => .inl ⟨j, own j b h⟩, fun j t h pp => ?_⟩⟩
  · have hb : b ≠ a := fun q => by subst q; rw [e3] at e; cases e
    rw [upd_ne hb]; exact s.fle b o e
  · by_cases hj : i = j
    · subst hj
      rw [get_set_same hl] at h; cases h
      exact ⟨a, u, ha, upd_same, e3, r⟩
    · rw [get_set_ne hj] at h
      have ok := s.sl j t h
      cases t with
      | no => trivial
      | hid => trivial
      | dat d => exact ok
      | scr ns => exact ok
      | own q zs =>
        obtain ⟨b, us, f1, f2, f3, f4⟩ := ok
        have hb : b ≠ a := fun q => by subst q; exact hj (s.inj i j b ⟨ha, _, hi, rfl⟩ ⟨f1, _, h, rfl⟩)
        exact ⟨b, us, f1, by rw [upd_ne hb]; exact f2, f3, f4⟩
  · have hb : b ≠ a := fun q => by subst q; exact n oa
    rw [upd_ne hb]; exact h
  · by_cases hb : b = a
    · subst hb; rw [upd_same]; simp
    · rw [upd_ne hb]; exact h
  · by_cases hj : i = j
    · subst hj; rw [hi] at h; cases h
      exact ⟨_, get_set_same hl, by cases p <;> first | exact pp | rfl, rfl, rfl⟩
    · exact ⟨t, by rw [get_set_ne hj]; exact h, pp, rfl, rfl⟩
theorem owned_put {i : Nat} {t : Slot} {v : V} {a : Addr} (hl : i < env.length) (hl2 : i < σ.length) (h : Owned (env.set i t) (σ.set i (some v)) a) : (v = .ref a ∧ t.isOwn = true) ∨ Owned env σ a := by
  obtain ⟨j, h1, t', h2, h3⟩ := h
  by_cases hj : i = j
  · subst hj
    rw [get_set_same hl] at h2
    rw [get_set_same hl2] at h1
    cases h2
    exact .inl ⟨by simpa using h1, h3⟩
  · rw [get_set_ne hj] at h1 h2
    exact .inr ⟨j, h1, t', h2, h3⟩
/-- a value as it will stand in a slot -/
def toSlot : R → Slot
  | .dat d => .dat d
  | .new c => .own false c
  | .slot _ => .no
def R.plain : R → Bool
  | .slot _ => false
  | _ => true
theorem put_ok {v : V} {r : R} {i : Nat} (s : Sat K env σ H F) (x : Ext env0 σ0 H0 F0 env σ H F) (p : RepR K env σ H F H0 v r) (hr : r.plain = true) (hf : freeS env i = true) :
    Sat K (env.set i (toSlot r)) (σ.set i (some v)) H F ∧ Ext env0 σ0 H0 F0 (env.set i (toSlot r)) (σ.set i (some v)) H F := by
  cases r with
  | slot _ => cases hr
  | dat d => exact s.put (t := .dat d) hf ⟨v, rfl, p⟩ rfl (fun z => nomatch z) (fun z => nomatch z) x (fun z => nomatch z)
  | new c =>
    obtain ⟨a, u, e1, e2, e3, e4, e5, e6⟩ := p
    subst e1
    exact s.put (t := .own false c) hf ⟨a, u, rfl, e2, e3, e4⟩ rfl (fun _ b hb => by cases hb; exact e5) (fun _ b hb => by cases hb; exact e3) x (fun _ b hb => by cases hb; exact e6)
theorem RepR.put {Hs : Hp} {v w : V} {r r' : R} {i : Nat} (h : RepR K env σ H F Hs v r) (hr : r.plain = true) (hl : i < env.length) (hl2 : i < σ.length) (ne : ∀ a, NewAt w r' a → ¬ NewAt v r a) : RepR K (env.set i (toSlot r')) (σ.set i (some w)) H F Hs v r := by
  cases r with
  | slot _ => cases hr
  | dat d => exact h
  | new c =>
    obtain ⟨a, u, e1, e2, e3, e4, e5, e6⟩ := h
    refine ⟨a, u, e1, e2, e3, e4, fun o => ?_, e6⟩
    rcases owned_put hl hl2 o with ⟨q1, q2⟩ | q
    · refine ne a ⟨?_, q1⟩ ⟨rfl, e1⟩
      cases r' <;> first | rfl | cases q2
    · exact e5 q
theorem RepL.put {Hs : Hp} {w : V} {r' : R} {i : Nat} (hl : i < env.length) (hl2 : i < σ.length) : ∀ {vs : List V} {rs : List R}, RepL K env σ H F Hs vs rs → (∀ r ∈ rs, r.plain = true) → (∀ (a : Addr) (i : Nat) (v : V) (r : R), NewAt w r' a → vs[i]? = some v → rs[i]? = some r → ¬ NewAt v r a) → RepL K (env.set i (toSlot r')) (σ.set i (some w)) H F Hs vs rs
  | _, _, .nil, _, _ => .nil
  | _, _, .cons a b c, hr, ne => .cons (a.put (hr _ List.mem_cons_self) hl hl2 fun x n => ne x 0 _ _ n rfl rfl) (RepL.put hl hl2 b (fun r h => hr r (List.mem_cons_of_mem _ h)) fun x i v r n h1 h2 => ne x (i + 1) v r n (by simpa using h1) (by simpa using h2)) c
theorem nrm_ok {own : Bool} {v : V} {r : R} {t : Slot} {env2 : Env} (s : Sat K env σ H F) (x : Ext env0 σ0 H0 F0 env σ H F) (p : RepR K env σ H F H0 v r) (e : nrm own env r = some (t, env2)) :
    ∃ F1 r1, t = toSlot r1 ∧ r1.plain = true ∧ Sat K env2 σ H F1 ∧ Ext env0 σ0 H0 F0 env2 σ H F1 ∧ RepR K env2 σ H F1 H0 v r1 ∧ Le F F1 ∧ (∀ b, F b = none → F1 b ≠ none → NewAt v r b ∨ Owned env σ b) ∧ (∀ b, Owned env2 σ b → Owned env σ b) ∧ (∀ b, NewAt v r1 b → NewAt v r b) := by
  have fz : own = false → (frz env r).map (fun p => (Slot.dat p.1, p.2)) = some (t, env2) → ∃ F1 r1, t = toSlot r1 ∧ r1.plain = true ∧ Sat K env2 σ H F1 ∧ Ext env0 σ0 H0 F0 env2 σ H F1 ∧ RepR K env2 σ H F1 H0 v r1 ∧ Le F F1 ∧ (∀ b, F b = none → F1 b ≠ none → NewAt v r b ∨ Owned env σ b) ∧ (∀ b, Owned env2 σ b → Owned env σ b) ∧ (∀ b, NewAt v r1 b → NewAt v r b) := fun _ ef => by
    rw [Option.map_eq_some_iff] at ef
    obtain ⟨⟨d, env3⟩, e1, e2⟩ := ef
    cases e2
    obtain ⟨F1, s1, x1, rp, up, k, ow, _⟩ := frz_ok s x p e1
    exact ⟨F1, .dat d, rfl, rfl, s1, x1, rp, up, k, ow, fun b ⟨z, _⟩ => nomatch z⟩
  cases own with
  | true =>
    cases r with
    | new c =>
      simp only [nrm, Option.some.injEq, Prod.mk.injEq] at e
      obtain ⟨e1, e2⟩ := e
      subst e1 e2
      exact ⟨F, .new c, rfl, rfl, s, x, p, Le.refl F, fun b n1 n2 => absurd n1 n2, fun _ h => h, fun _ h => h⟩
    | dat d => simp [nrm] at e
    | slot i => simp [nrm] at e
  | false =>
    cases r with
    | new c =>
      cases c with
      | l xs => exact fz rfl e
      | d t kvs =>
      simp only [nrm, Option.some.injEq, Prod.mk.injEq] at e
      obtain ⟨e1, e2⟩ := e
      subst e1 e2
      exact ⟨F, .new (.d t kvs), rfl, rfl, s, x, p, Le.refl F, fun b n1 n2 => absurd n1 n2, fun _ h => h, fun _ h => h⟩
    | dat d => exact fz rfl e
    | slot i => exact fz rfl e
theorem nrmL_ok : ∀ {os : List Bool} {rs : List R} {vs : List V} {ts : List Slot} {env env2 : Env} {F : Hp}, Sat K env σ H F → Ext env0 σ0 H0 F0 env σ H F → RepL K env σ H F H0 vs rs → nrmL os rs env = some (ts, env2) →
    ∃ F1 rs1, ts = rs1.map toSlot ∧ (∀ r ∈ rs1, r.plain = true) ∧ Sat K env2 σ H F1 ∧ Ext env0 σ0 H0 F0 env2 σ H F1 ∧ RepL K env2 σ H F1 H0 vs rs1 ∧ Le F F1 ∧ (∀ b, F b = none → F1 b ≠ none → (∃ (i : Nat) (v : V) (r : R), vs[i]? = some v ∧ rs[i]? = some r ∧ NewAt v r b) ∨ Owned env σ b) ∧ (∀ b, Owned env2 σ b → Owned env σ b) ∧ (∀ (i : Nat) (v : V) (r1 : R) (b : Addr), vs[i]? = some v → rs1[i]? = some r1 → NewAt v r1 b → ∃ r, rs[i]? = some r ∧ NewAt v r b)
  | [], [], vs, ts, env, env2, F, s, x, h, e => by
    cases h
    simp only [nrmL, Option.some.injEq, Prod.mk.injEq] at e
    obtain ⟨e1, e2⟩ := e
    subst e1 e2
    exact ⟨F, [], rfl, (fun _ h => nomatch h), s, x, .nil, Le.refl F, fun b n1 n2 => absurd n1 n2, fun _ h => h, fun i v r1 b h => by simp at h⟩
  | [], _ :: _, vs, ts, env, env2, F, s, x, h, e => by simp [nrmL] at e
  | _ :: _, [], vs, ts, env, env2, F, s, x, h, e => by simp [nrmL] at e
  | o :: os, r :: rs, vs, ts, env, env2, F, s, x, h, e => by
    cases h with
    | @cons v _ vs _ h1 h2 h3 =>
      simp only [nrmL, Option.bind_eq_some_iff, Option.map_eq_some_iff] at e
      obtain ⟨⟨t, envm⟩, e1, ⟨ts', env'⟩, e2, e3⟩ := e
      cases e3
      obtain ⟨Fm, r1, q1, q2, sm, xm, rm, um, km, om, nm⟩ := nrm_ok s x h1 e1
      obtain ⟨F1, rs1, p1, p2, s1, x1, rl, u1, k1, o1, n1⟩ := nrmL_ok sm xm (h2.frz um km om fun a i v r n q1 q2 => h3 a i v r n q1 q2) e2
      have keep : RepR K env' σ H F1 H0 v r1 := by
        cases r1 with
        | slot _ => cases q2
        | dat d => exact Rp.mono u1 _ _ rm
        | new c =>
          obtain ⟨a, ws, f1, f2, f3, f4, f5, f6⟩ := rm
          refine ⟨a, ws, f1, f2, ?_, f4.mono u1, fun q => f5 (o1 a q), f6⟩
          cases q : F1 a with
          | none => rfl
          | some u =>
            rcases k1 a f3 (by rw [q]; simp) with ⟨i, v', r', g1, g2, g3⟩ | g
            · exact absurd g3 (h3 a i v' r' (nm a ⟨rfl, f1⟩) g1 g2)
            · exact absurd g f5
      refine ⟨F1, r1 :: rs1, by rw [q1, p1]; rfl, fun r' hr => ?_, s1, x1, .cons keep rl fun a i w r' n g1 g2 g3 => ?_, um.trans u1, fun b b1 b2 => ?_, fun b hb => om b (o1 b hb), fun i v' r' b g1 g2 g3 => ?_⟩
      · rcases List.mem_cons.mp hr with z | z
        · subst z; exact q2
        · exact p2 r' z
      · obtain ⟨r0, w1, w2⟩ := n1 i w r' a g1 g2 g3
        exact h3 a i w r0 (nm a n) g1 w1 w2
      · by_cases hm : Fm b = none
        · rcases k1 b hm b2 with ⟨i, v', r', g1, g2, g3⟩ | g
          · exact .inl ⟨i + 1, v', r', by simpa using g1, by simpa using g2, g3⟩
          · exact .inr (om b g)
        · rcases km b b1 hm with g | g
          · exact .inl ⟨0, v, r, rfl, rfl, g⟩
          · exact .inr g
      · cases i with
        | zero =>
          simp at g1 g2
          subst g1 g2
          exact ⟨r, rfl, nm b g3⟩
        | succ i => simpa using n1 i v' r' b (by simpa using g1) (by simpa using g2) g3
/-- stores one after another -/
theorem putL_ok : ∀ {is : List Nat} {rs : List R} {vs : List V} {env env2 : Env} {σ : L2.St}, Sat K env σ H F → Ext env0 σ0 H0 F0 env σ H F → RepL K env σ H F H0 vs rs → (∀ r ∈ rs, r.plain = true) → putL is (rs.map toSlot) env = some env2 →
    is.length = vs.length ∧ Sat K env2 ((is.zip vs).foldl (fun τ p => τ.set p.1 (some p.2)) σ) H F ∧ Ext env0 σ0 H0 F0 env2 ((is.zip vs).foldl (fun τ p => τ.set p.1 (some p.2)) σ) H F
  | [], [], vs, env, env2, σ, s, x, h, hp, e => by
    cases h
    simp only [putL, List.map_nil, Option.some.injEq] at e
    subst e
    exact ⟨rfl, s, x⟩
  | [], _ :: _, vs, env, env2, σ, s, x, h, hp, e => by simp [putL] at e
  | _ :: _, [], vs, env, env2, σ, s, x, h, hp, e => by simp [putL] at e
  | i :: is, r :: rs, vs, env, env2, σ, s, x, h, hp, e => by
    cases h with
    | @cons v _ vs _ h1 h2 h3 =>
      simp only [List.map_cons, putL] at e
      split at e
      · rename_i hf
        obtain ⟨s1, x1⟩ := put_ok s x h1 (hp r List.mem_cons_self) hf
        have hl := free_lt hf
        have hl2 : i < σ.length := by rw [← s.len]; exact hl
        obtain ⟨l, s2, x2⟩ := putL_ok s1 x1 (h2.put hl hl2 (fun r h => hp r (List.mem_cons_of_mem _ h)) fun a i v r n q1 q2 => h3 a i v r n q1 q2) (fun r h => hp r (List.mem_cons_of_mem _ h)) e
        exact ⟨by simp [l], s2, x2⟩
      · cases e
end
end Lc
/-! Statements are the machine's. -/
namespace Lc
open PySem L2
section
variable {X : Cx} {T : Tab} {N : List Str} {K : Kw} {env env0 env1 : Env} {σ σ0 σ1 : L2.St} {H H0 H1 F F0 F1 : Hp}
/-- a statement's reading -/
def tEx (K : Kw) (f : Env → Option (Fl × Env)) : TS := fun D σ H => ∃ env F fl env', Sat K env σ H F ∧ f env = some (fl, env') ∧
  (fl = .nx → ∀ σ' H' F', Sat K env' σ' H' F' → Ext env σ H F env' σ' H' F' → D.nx σ' H') ∧
  (∀ r, fl = .rt r → ∀ v σ' H' F', Sat K env' σ' H' F' → Ext env σ H F env' σ' H' F' → RepR K env' σ' H' F' H v r → D.rt v H')
/-- what is known of a def's context -/
structure Bok (T : Tab) (N : List Str) (X : Cx) (sc : Scope) : Prop where
  c : Cok T N X
  kind : sc.kind = .function
  fn : ∀ x, X.fn x = true
  sc : X.env.scope = sc
theorem Bok.blk {sc : Scope} (b : Bok T N X sc) : X.env.blockKind = .function := by
  unfold PySem.Env.blockKind
  rw [b.sc, b.kind]
  rfl
theorem Bok.sok {sc : Scope} (b : Bok T N X sc) : Sok N X sc false := ⟨b.c.hN, b.c.nd, b.sc, fun _ => b.fn⟩
theorem RepR.own {Hs : Hp} {v : V} {r : R} (h : RepR K env σ H F Hs v r) (k : ∀ a, Hs a = none → Owned env1 σ a → Owned env σ a) : RepR K env1 σ H F Hs v r := by
  cases r with
  | dat d => exact h
  | slot i => exact h
  | new c => obtain ⟨a, u, e1, e2, e3, e4, e5, e6⟩ := h; exact ⟨a, u, e1, e2, e3, e4, fun o => e5 (k a e6 o), e6⟩
theorem snd_nilS : PSs X [] (tEx X.kw (fun env => some (.nx, env))) := PSs.weak pss_nil fun D σ H ⟨env, F, fl, env', s, e, k1, k2⟩ => by
  cases e
  exact k1 rfl σ H F s Ext.refl
theorem snd_consS {st : Stmt} {rest : List Stmt} {fu : Nat} {a : S} {r : SL} (h1 : PS X st (tEx X.kw (ex T fu a))) (h2 : PSs X rest (tEx X.kw (exL T fu r))) : PSs X (st :: rest) (tEx X.kw (exL T fu (.cons a r))) := by
  refine PSs.weak (pss_cons h1 h2) fun D σ H ⟨env, F, fl, env', s, e, k1, k2⟩ => ?_
  simp only [exL, Option.bind_eq_some_iff] at e
  obtain ⟨⟨fl1, env1⟩, e1, e2⟩ := e
  cases fl1 with
  | nx =>
    exact ⟨env, F, .nx, env1, s, e1, fun _ σ1 H1 F1 s1 x1 => ⟨env1, F1, fl, env', s1, e2, fun hn σ2 H2 F2 s2 x2 => k1 hn _ _ _ s2 (x1.trans x2), fun r hr v σ2 H2 F2 s2 x2 p2 => k2 r hr v _ _ _ s2 (x1.trans x2) (p2.start x1.dmn)⟩, fun r hr => nomatch hr⟩
  | rt r0 =>
    cases e2
    exact ⟨env, F, .rt r0, env1, s, e1, fun hn => (nomatch hn), fun r hr v σ1 H1 F1 s1 x1 p1 => k2 r hr v σ1 H1 F1 s1 x1 p1⟩
theorem snd_ret {a : E} {e : Expr} {pos : Pos} {fu : Nat} (h : PE X e (tEv T X.kw a)) : PS X (.Return (some e) pos) (tEx X.kw (ex T fu (.ret a))) := by
  refine PS.weak (ps_ret h) fun D σ H ⟨env, F, fl, env', s, e, k1, k2⟩ => ?_
  simp only [ex, Option.map_eq_some_iff] at e
  obtain ⟨⟨r, env1⟩, e1, e2⟩ := e
  cases e2
  exact ⟨env, F, r, _, s, e1, fun v H1 F1 s1 x1 p1 => k2 r rfl v σ H1 F1 s1 x1 p1⟩
theorem snd_exprS {a : E} {f : Expr} {as : List Expr} {ks : List Keyword} {p pos : Pos} {fu : Nat} (h : PE X (.Call f as ks p) (tEv T X.kw a)) : PS X (.Expr (.Call f as ks p) pos) (tEx X.kw (ex T fu (.expr a))) := by
  refine PS.weak (ps_expr h) fun D σ H ⟨env, F, fl, env', s, e, k1, k2⟩ => ?_
  simp only [ex, Option.map_eq_some_iff] at e
  obtain ⟨⟨r, env1⟩, e1, e2⟩ := e
  cases e2
  exact ⟨env, F, r, _, s, e1, fun v H1 F1 s1 x1 p1 => k1 rfl σ H1 F1 s1 x1⟩
theorem snd_iteS {c : E} {a b : SL} {ce : Expr} {sa sb : List Stmt} {pos : Pos} {fu : Nat} (hc : PT X ce (tEvT T X.kw c)) (ha : PSs X sa (tEx X.kw (exL T fu a))) (hb : PSs X sb (tEx X.kw (exL T fu b))) : PS X (.If ce sa sb pos) (tEx X.kw (ex T fu (.ite c a b))) := by
  refine PS.weak (ps_if hc ha hb) fun D σ H ⟨env, F, fl, env', s, e, k1, k2⟩ => ?_
  simp only [ex, Option.bind_eq_some_iff] at e
  obtain ⟨⟨r, env1⟩, e1, b', eb, e2⟩ := e
  refine ⟨env, F, r, env1, b', s, e1, eb, fun H1 F1 s1 x1 => ?_⟩
  have fin : ∀ {f : Env → Option (Fl × Env)}, f env1 = some (fl, env') → tEx X.kw f D σ H1 := fun {f} ef =>
    ⟨env1, F1, fl, env', s1, ef, fun hn σ2 H2 F2 s2 x2 => k1 hn _ _ _ s2 (x1.trans x2), fun r hr v σ2 H2 F2 s2 x2 p2 => k2 r hr v _ _ _ s2 (x1.trans x2) (p2.start x1.dmn)⟩
  cases b' with
  | true => rw [if_pos rfl] at e2; show (if true = true then _ else _); rw [if_pos rfl]; exact fin e2
  | false => rw [if_neg Bool.false_ne_true] at e2; show (if false = true then _ else _); rw [if_neg Bool.false_ne_true]; exact fin e2
/-! ### stores -/
theorem set_red {i : Nat} {own : Bool} {a : E} {fu : Nat} {D : Ends} (h : tEx K (ex T fu (.set i own a)) D σ H) : tAsg (tEv T K a) (gName i) D σ H := by
  obtain ⟨env, F, fl, env', s, e, k1, k2⟩ := h
  simp only [ex, Option.bind_eq_some_iff] at e
  obtain ⟨⟨r, env1⟩, e1, ⟨t, env2⟩, e2, e3⟩ := e
  split at e3
  · rename_i hf
    cases e3
    refine ⟨env, F, r, env1, s, e1, fun v H1 F1 s1 x1 p1 => ?_⟩
    obtain ⟨F2, r1, q1, q2, s2, x2, p2, _⟩ := nrm_ok s1 x1 p1 e2
    have q1 : t = toSlot r1 := q1
    obtain ⟨s3, x3⟩ := put_ok s2 x2 p2 q2 hf
    rw [← q1] at s3 x3
    exact k1 rfl _ _ _ s3 x3
  · cases e3
theorem snd_setS {i : Nat} {own : Bool} {a : E} {e : Expr} {x : Str} {p pos : Pos} {sc : Scope} {fu : Nat} (b : Bok T N X sc) (hi : N[i]? = some x) (hx : locB sc x = true) (h : PE X e (tEv T X.kw a)) (hs : swapB e x p sc = false) : PS X (.Assign [.Name x p] e pos) (tEx X.kw (ex T fu (.set i own a))) :=
  PS.weak (ps_set (i := i) (by rw [b.c.hN]; exact b.c.nd) (by rw [b.c.hN]; exact hi) (by rw [b.sc]; exact loc_of hx) h (by rw [swap_ok b.blk b.sc, hs]) (.inl (b.fn x))) fun D σ H w => set_red w
theorem snd_setLcS {i : Nat} {own : Bool} {elt : E} {tg : Tg} {src : Src} {cond : EO} {vs : List Nat} {e : Expr} {x : Str} {p pos : Pos} {sc : Scope} {fu : Nat} (b : Bok T N X sc) (hi : N[i]? = some x) (hl : locB sc x = true) (h : ckE N (.lc elt tg src cond vs) e sc = true) :
    PS X (.Assign [.Name x p] e pos) (tEx X.kw (ex T fu (.set i own (.lc elt tg src cond vs)))) := by
  by_cases hs : swapB e x p sc = true
  case neg => exact snd_setS b hi hl (sndE _ b.c b.sc h) (by simpa using hs)
  have hs' := hs
  have hc := b.c
  have hsc := b.sc
  unfold ckE at h
  split at h
  · rename_i elt' tg' iter' ifs' scope pos'
    obtain ⟨h1, h6⟩ := band h
    obtain ⟨h1, h5⟩ := band h1
    obtain ⟨h1, h4⟩ := band h1
    obtain ⟨h1, h3⟩ := band h1
    obtain ⟨h1, h2⟩ := band h1
    have ok : BlkOk X.N X.env.scope scope (vs.map fun i => (N.getD i Str.empty, i)) := by rw [hc.hN, hsc]; exact blkOk_by h1
    have hv : ∀ i ∈ tgSlots tg, i ∈ vs := fun i hi => by simpa using List.all_eq_true.mp h2 i hi
    have g1 : ∀ (s : Shared) (H : Hp) (C : Addr) (cl : List (Str × Addr)) (fp : List Addr), PG (X.blk s H scope (compEnvC scope cl C X.env) fp) tg' (tTg X.kw tg) := fun s H C cl fp => snd_tg (b := true) hc.calm ⟨hc.hN, hc.nd, by subst hsc; rfl, fun z => nomatch z⟩ h4
    have g2 : ∀ (s : Shared) (H : Hp) (C : Addr) (cl : List (Str × Addr)) (fp : List Addr), PTs (X.blk s H scope (compEnvC scope cl C X.env) fp) ifs' (tEvC T X.kw cond) := fun s H C cl fp => snd_ci h5 fun a e ea ha => by subst ea; exact sndT a (hc.blk s H _ _ fp) (by subst hsc; rfl) ha
    have g3 : ∀ (s : Shared) (H : Hp) (C : Addr) (cl : List (Str × Addr)) (fp : List Addr), PE (X.blk s H scope (compEnvC scope cl C X.env) fp) elt' (tEv T X.kw elt) := fun s H C cl fp => sndE elt (hc.blk s H _ _ fp) (by subst hsc; rfl) h6
    obtain ⟨_, p2⟩ := snd_lc (pos := pos') (elt := elt) (tg := tg) (src := src) (cond := cond) (vs := vs) hc ok hv (sndS src hc hsc h3) (ckS_plain h3) g1 g2 g3
    have hloc : sc.names.lookup x = some .local := by
      simp only [swapB] at hs
      obtain ⟨z, _⟩ := band hs
      obtain ⟨z, _⟩ := band z
      exact eq_of_beq z
    have base := ps_setLc (i := i) (py := p) (pos := pos') (spos := pos) hc.calm (by rw [hc.hN]; exact hc.nd) (by rw [hc.hN]; exact hi) (by rw [hsc]; exact hloc) (by rw [swap_ok b.blk hsc, hs']) (sndS src hc hsc h3) ok g1 g2 g3 (noFold (ckS_plain h3))
    have hmap : ((vs.map fun i => (N.getD i Str.empty, i)).map fun x => x.2) = vs := by
      rw [List.map_map]
      exact List.map_id vs
    rw [hmap] at base
    refine PS.weak base fun D σ H w => ?_
    exact p2 σ H _ (set_red w)
  · cases h
theorem snd_unp {tg : Tg} {a : E} {ts : List Expr} {k : Nat} {p pos : Pos} {e : Expr} {sc : Scope} {fu : Nat} (b : Bok T N X sc) (hg : ckTg N tg (.Tuple ts k p) sc false = true) (h : PE X e (tEv T X.kw a)) (hw : unpOk ts e sc = true) :
    PS X (.Assign [.Tuple ts k p] e pos) (tEx X.kw (ex T fu (.unp tg a))) := by
  have w1 : swapsWithSole [.Tuple ts k p] e pos.line X.env = pure false := by
    cases e <;> rfl
  have w2 : swappedStores [.Tuple ts k p] e X.env = pure none := by
    cases e <;> first
      | rfl
      | exact swp_ok b.blk b.sc (of_decide_eq_true hw)
  refine PS.weak (ps_asg h (snd_tg b.c.calm b.sok hg) w1 w2 rfl) fun D σ H ⟨env, F, fl, env', s, e, k1, k2⟩ => ?_
  simp only [ex, Option.bind_eq_some_iff, Option.map_eq_some_iff] at e
  obtain ⟨⟨r, env1⟩, e1, ⟨d, env2⟩, e2, env3, e3, e4⟩ := e
  cases e4
  refine ⟨env, F, r, env1, s, e1, fun v H1 F1 s1 x1 p1 => ?_⟩
  obtain ⟨F2, s2, x2, rp, _⟩ := frz_ok s1 x1 p1 e2
  exact ⟨env2, F2, d, _, s2, rp, e3, fun σ' s' x' _ _ => k1 rfl σ' H1 F2 s' (x2.trans x')⟩
theorem names_at {ts : List Expr} {line : Nat} {sc : Scope} {x : Str} {p : Pos} (h : nmAt line sc (.Name x p) = some x) : sc.names.lookup x = some .local := by
  simp only [nmAt] at h
  split at h
  · rename_i q
    exact eq_of_beq (band q).1
  · cases h
theorem swp_local {ts vs : List Expr} {sc : Scope} {ns : List Str} (h : swp ts vs sc = some (some ns)) : ∀ x p, Expr.Name x p ∈ ts → sc.names.lookup x = some .local := by
  unfold swp at h
  split at h
  · cases h
  · split at h
    · cases h
    · split at h
      · cases h
      · rename_i c3
        intro x p hm
        simp only [Bool.or_eq_true, bne_iff_ne, ne_eq, not_or, Decidable.not_not] at c3
        obtain ⟨c3, _⟩ := c3
        have key : ∀ {l : List Expr}, (l.filterMap (nmAt ((ts.head?.map (·.pos.line)).getD 0) sc)).length = l.length → ∀ y ∈ l, (nmAt ((ts.head?.map (·.pos.line)).getD 0) sc y).isSome = true := by
          intro l
          induction l with
          | nil => intro _ y hy; cases hy
          | cons z l ih =>
            intro hl y hy
            have le := List.length_filterMap_le (nmAt ((ts.head?.map (·.pos.line)).getD 0) sc) l
            cases q : nmAt ((ts.head?.map (·.pos.line)).getD 0) sc z with
            | none =>
              rw [List.filterMap_cons_none q] at hl
              simp at hl
              omega
            | some u =>
              rw [List.filterMap_cons_some q] at hl
              rcases List.mem_cons.mp hy with e | e
              · subst e; rw [q]; rfl
              · exact ih (by simpa using hl) y e
        have := key c3 _ hm
        simp only [nmAt] at this
        split at this
        · rename_i q
          exact eq_of_beq (band q).1
        · cases this
theorem snd_par2 {i j : Nat} {os : List Bool} {es : EL} {x y : Str} {px py p p2 pos : Pos} {k k2 : Nat} {a b : Expr} {sc : Scope} {fu : Nat} (bk : Bok T N X sc) (hi : N[i]? = some x) (hj : N[j]? = some y) (hw : swp [.Name x px, .Name y py] [a, b] sc = some (some [x, y])) (h : PA X [a, b] (tEvL T X.kw es)) :
    PS X (.Assign [.Tuple [.Name x px, .Name y py] k p] (.Tuple [a, b] k2 p2) pos) (tEx X.kw (ex T fu (.par [i, j] os es))) := by
  by_cases hij : i = j
  · subst hij
    refine ⟨fun pins st σ H D I w => ?_⟩
    exfalso
    obtain ⟨env, F, fl, env', s, e, k1, k2⟩ := id w
    simp only [ex, Option.bind_eq_some_iff] at e
    obtain ⟨⟨rs, env1⟩, e1, ⟨ts, env2⟩, e2, e3⟩ := e
    rw [if_neg (by simp)] at e3
    cases e3
  have l1 := swp_local hw x px (by simp)
  have l2 := swp_local hw y py (by simp)
  refine PS.weak (ps_par (i := i) (j := j) bk.c.calm (by rw [bk.c.hN]; exact bk.c.nd) (by rw [bk.c.hN]; exact hi) (by rw [bk.c.hN]; exact hj) hij (by rw [bk.sc]; exact l1) (by rw [bk.sc]; exact l2) h (swp_ok bk.blk bk.sc hw) rfl) fun D σ H ⟨env, F, fl, env', s, e, k1, k2⟩ => ?_
  simp only [ex, Option.bind_eq_some_iff] at e
  obtain ⟨⟨rs, env1⟩, e1, ⟨ts, env2⟩, e2, e3⟩ := e
  split at e3
  · rw [Option.map_eq_some_iff] at e3
    obtain ⟨env3, e3, e4⟩ := e3
    cases e4
    refine ⟨env, F, rs, env1, s, e1, fun vs H1 F1 s1 x1 p1 => ?_⟩
    obtain ⟨F2, rs1, q1, q2, s2, x2, p2, _⟩ := nrmL_ok s1 x1 p1 e2
    have e3 : putL [i, j] (rs1.map toSlot) env2 = some env' := by rw [← q1]; exact e3
    obtain ⟨l, s3, x3⟩ := putL_ok s2 x2 p2 q2 e3
    match vs, l with
    | [v, w], _ => exact ⟨v, w, rfl, k1 rfl _ _ _ s3 x3⟩
  · cases e3
theorem snd_par3 {i j l : Nat} {os : List Bool} {es : EL} {x y z : Str} {px py pz p p2 pos : Pos} {k k2 : Nat} {a b c : Expr} {sc : Scope} {fu : Nat} (bk : Bok T N X sc) (hi : N[i]? = some x) (hj : N[j]? = some y) (hl : N[l]? = some z) (hw : swp [.Name x px, .Name y py, .Name z pz] [a, b, c] sc = some (some [x, y, z])) (h : PA X [a, b, c] (tEvL T X.kw es)) :
    PS X (.Assign [.Tuple [.Name x px, .Name y py, .Name z pz] k p] (.Tuple [a, b, c] k2 p2) pos) (tEx X.kw (ex T fu (.par [i, j, l] os es))) := by
  by_cases hnd : [i, j, l].Nodup
  case neg =>
    refine ⟨fun pins st σ H D I w => ?_⟩
    exfalso
    obtain ⟨env, F, fl, env', s, e, k1, k2⟩ := id w
    simp only [ex, Option.bind_eq_some_iff] at e
    obtain ⟨⟨rs, env1⟩, e1, ⟨ts, env2⟩, e2, e3⟩ := e
    rw [if_neg hnd] at e3
    cases e3
  have hij : i ≠ j := by simp at hnd; omega
  have hil : i ≠ l := by simp at hnd; omega
  have hjl : j ≠ l := by simp at hnd; omega
  have l1 := swp_local hw x px (by simp)
  have l2 := swp_local hw y py (by simp)
  have l3 := swp_local hw z pz (by simp)
  refine PS.weak (ps_par3 (i := i) (j := j) (l := l) bk.c.calm (by rw [bk.c.hN]; exact bk.c.nd) (by rw [bk.c.hN]; exact hi) (by rw [bk.c.hN]; exact hj) (by rw [bk.c.hN]; exact hl) hij hil hjl (by rw [bk.sc]; exact l1) (by rw [bk.sc]; exact l2) (by rw [bk.sc]; exact l3) h (swp_ok bk.blk bk.sc hw) rfl) fun D σ H ⟨env, F, fl, env', s, e, k1, k2⟩ => ?_
  simp only [ex, Option.bind_eq_some_iff] at e
  obtain ⟨⟨rs, env1⟩, e1, ⟨ts, env2⟩, e2, e3⟩ := e
  rw [if_pos hnd] at e3
  · rw [Option.map_eq_some_iff] at e3
    obtain ⟨env3, e3, e4⟩ := e3
    cases e4
    refine ⟨env, F, rs, env1, s, e1, fun vs H1 F1 s1 x1 p1 => ?_⟩
    obtain ⟨F2, rs1, q1, q2, s2, x2, p2, _⟩ := nrmL_ok s1 x1 p1 e2
    have e3 : putL [i, j, l] (rs1.map toSlot) env2 = some env' := by rw [← q1]; exact e3
    obtain ⟨l, s3, x3⟩ := putL_ok s2 x2 p2 q2 e3
    match vs, l with
    | [u, v, w], _ => exact ⟨u, v, w, rfl, k1 rfl _ _ _ s3 x3⟩
/-- the object behind a name -/
theorem own_at (s : Sat K env σ H F) {i : Nat} {p : Bool} {c : C} (h : env[i]? = some (.own p c)) : ∃ a u, σ[i]? = some (some (.ref a)) ∧ H a = some u ∧ F a = none ∧ Cnt K F a c u := s.sl i _ h
theorem ownS_at (s : Sat K env σ H F) {i : Nat} (h : ownS env i = true) : ∃ a, σ[i]? = some (some (.ref a)) := by
  unfold ownS at h
  split at h
  · rename_i p c q
    obtain ⟨a, u, e, _⟩ := own_at s q
    exact ⟨a, e⟩
  · cases h
theorem pe_nm {i : Nat} {x : Str} {p : Pos} {sc : Scope} (b : Bok T N X sc) (hi : N[i]? = some x) (hv : visB sc x = true) (hn : nameOk x = true) : PE X (.Name x p) (tVar i) :=
  pe_var (i := i) (by rw [b.c.hN]; exact hi) (by rw [b.sc]; exact vis_of hv) (name_of hn).1 (name_of hn).2
theorem PSet.or {t t' : TSet} (h : PSet X t) (h' : PSet X t') : PSet X (fun o i v H Q => t o i v H Q ∨ t' o i v H Q) := by
  intro pins s σ H o i v ov iv u Q I ro ri rv w
  rcases w with w | w
  · exact h pins s σ H o i v ov iv u Q I ro ri rv w
  · exact h' pins s σ H o i v ov iv u Q I ro ri rv w
theorem Cok.hu (c : Cok T N X) : X.A.units + 1 < cLine := by have := c.room.un; omega
theorem snd_sub {i : Nat} {ix a : E} {x : Str} {p p2 pos : Pos} {ei e : Expr} {sc : Scope} {fu : Nat} (b : Bok T N X sc) (hi : N[i]? = some x) (hv : visB sc x = true) (hn : nameOk x = true) (h1 : PE X ei (tEv T X.kw ix)) (h2 : PE X e (tEv T X.kw a)) (hpl : ∀ l u s p, ei ≠ .Slice l u s p) :
    PS X (.Assign [.Subscript (.Name x p) ei p2] e pos) (tEx X.kw (ex T fu (.sub i ix a))) := by
  have w1 : swapsWithSole [.Subscript (.Name x p) ei p2] e pos.line X.env = pure false := by
    cases e <;> rfl
  have w2 : swappedStores [.Subscript (.Name x p) ei p2] e X.env = pure none := by
    cases e <;> rfl
  have ha : ∀ v, assign (.Subscript (.Name x p) ei p2) X.env v = (do
      let ov ← holding [v] (eval (.Name x p) X.env)
      let iv ← holding [v, ov] (eval ei X.env)
      standAt p2
      holding [v, ov, iv] (setItem ov iv v)
      release [v, ov, iv] []) := by
    intro v
    cases ei <;> first
      | rfl
      | exact absurd rfl (hpl _ _ _ _)
  refine PS.weak (ps_asg h2 (pg_sub (pe_nm b hi hv hn) h1 (PSet.or set_list (set_dict b.c.hu)) ha) w1 w2 rfl) fun D σ H ⟨env, F, fl, env', s, e, k1, k2⟩ => ?_
  simp only [ex, Option.bind_eq_some_iff] at e
  obtain ⟨⟨r, env1⟩, e1, ⟨d, env2⟩, e2, e3⟩ := e
  split at e3
  · rename_i hown
    simp only [Option.bind_eq_some_iff] at e3
    obtain ⟨⟨rk, env3⟩, e3, kd, e4, e5⟩ := e3
    refine ⟨env, F, r, env1, s, e1, fun v H1 F1 s1 x1 p1 => ?_⟩
    obtain ⟨F2, s2, x2, rp, _⟩ := frz_ok s1 x1 p1 e2
    obtain ⟨ad, had⟩ := ownS_at s2 hown
    refine ⟨_, had, env2, F2, rk, env3, s2, e3, fun v3 H3 F3 s3 x3 p3 => ?_⟩
    have vk := lookD_ok s3 p3 e4
    split at e5
    · rename_i pp xs q
      split at e5
      · rename_i j
        rw [Option.map_eq_some_iff] at e5
        obtain ⟨n, e5, e6⟩ := e5
        cases e6
        obtain ⟨a', u, g1, g2, g3, z, vs, g4, g5⟩ := own_at s3 q
        subst g4
        rw [had] at g1
        cases g1
        refine .inl ⟨ad, vs, j, n, rfl, vk.int, g2, by rw [g5.length]; exact e5, ?_⟩
        obtain ⟨s4, x4⟩ := s3.store (ys := .l (xs.set n d)) (u := .lst (vs.set n v)) q had ⟨by rw [List.length_set]; exact z, _, rfl, g5.set (Rp.mono x3.f _ _ rp) n⟩
        exact k1 rfl σ _ F3 s4 ((x2.trans x3).trans x4)
      · cases e5
    · rename_i pp t kvs q
      split at e5
      · rename_i hc
        cases e5
        obtain ⟨hc, hz⟩ := band hc
        obtain ⟨ht, hk⟩ := band hc
        have hz := of_decide_eq_true hz
        cases t with
        | true => cases ht
        | false =>
          obtain ⟨a', u, g1, g2, g3, g4⟩ := own_at s3 q
          rw [had] at g1
          cases g1
          obtain ⟨k, ek, rk⟩ := key_k hk vk
          obtain ⟨ks, eu, hz2, dn⟩ := dic_putK (a := ad) g4 hz rk (Rp.mono x3.f _ _ rp)
          subst eu ek
          refine .inr ⟨ad, _, rfl, DPut.k g2 hz2, ?_⟩
          obtain ⟨s4, x4⟩ := s3.store (ys := .d false (dput kvs kd d)) q had dn
          exact k1 rfl σ _ F3 s4 ((x2.trans x3).trans x4)
      · cases e5
    · cases e5
  · cases e3
end
end Lc
/-! Statements, loops, whole defs. -/
namespace Lc
open PySem L2
section
variable {X : Cx} {T : Tab} {N : List Str} {K : Kw} {env env0 env1 : Env} {σ σ0 σ1 : L2.St} {H H0 H1 F F0 F1 : Hp}
theorem ownL_at (s : Sat K env σ H F) {i : Nat} (h : ownL env i = true) : ∃ a vs, σ[i]? = some (some (.ref a)) ∧ H a = some (.lst vs) := by
  unfold ownL at h
  split at h
  · rename_i p c q
    obtain ⟨a, u, e, e2, _, _, vs, e3, _⟩ := own_at s q
    subst e3
    exact ⟨a, vs, e, e2⟩
  · cases h
theorem snd_app {i : Nat} {a : E} {x m : Str} {p apos cpos pos : Pos} {e : Expr} {sc : Scope} {fu : Nat} (b : Bok T N X sc) (hm : m = ("append" : Str)) (hi : N[i]? = some x) (hv : visB sc x = true) (hn : nameOk x = true) (h : PE X e (tEv T X.kw a)) (hs : ∀ x p, e ≠ .Starred x p) (hl : (apos.endLine == cpos.line) = true) :
    PS X (.Expr (.Call (.Attribute (.Name x p) m apos) [e] [] cpos) pos) (tEx X.kw (ex T fu (.app i a))) := by
  subst hm
  have st : starEach [e] X.env = (false, eval e X.env) :: starEach [] X.env := noStar hs
  refine PS.weak (ps_expr (pe_bm PySem.F.plainAttrs_list PySem.F.slot_list_append PySem.F.type_list_append mt_append (pe_nm b hi hv hn) (pa_cons h pa_nil st) rfl (by rw [st]; rfl) hl st rfl)) fun D σ H ⟨env, F, fl, env', s, e, k1, k2⟩ => ?_
  simp only [ex] at e
  split at e
  · rename_i ho
    simp only [Option.bind_eq_some_iff] at e
    obtain ⟨⟨r, env1⟩, e1, ⟨d, env2⟩, e2, e3⟩ := e
    obtain ⟨ad, vs0, had, hH0⟩ := ownL_at s ho
    refine ⟨_, had, .inl ⟨rfl, vs0, SqL.of hH0⟩, env, F, r, env1, s, e1, fun v H1 F1 s1 x1 p1 => ?_⟩
    obtain ⟨F2, s2, x2, rp, _⟩ := frz_ok s1 x1 p1 e2
    split at e3
    · rename_i pp xs q
      split at e3
      · rename_i hz
        cases e3
        obtain ⟨a', u, g1, g2, g3, z, vs, g4, g5⟩ := own_at s2 q
        subst g4
        rw [had] at g1
        cases g1
        refine ⟨ad, vs, v, rfl, rfl, g2, by rw [g5.length]; exact hz, ?_⟩
        obtain ⟨s4, x4⟩ := s2.store (ys := .l (xs ++ [d])) (u := .lst (vs ++ [v])) q had ⟨by rw [List.length_append]; exact hz, _, rfl, g5.append (RpL.cons rp RpL.nil)⟩
        exact k1 rfl σ _ F2 s4 (x2.trans x4)
      · cases e3
    · cases e3
  · cases e
theorem snd_ins {i : Nat} {k a : E} {x m : Str} {p apos cpos pos : Pos} {ek e : Expr} {sc : Scope} {fu : Nat} (b : Bok T N X sc) (hm : m = ("insert" : Str)) (hi : N[i]? = some x) (hv : visB sc x = true) (hn : nameOk x = true) (hk : PE X ek (tEv T X.kw k)) (h : PE X e (tEv T X.kw a)) (hs1 : ∀ x p, ek ≠ .Starred x p) (hs : ∀ x p, e ≠ .Starred x p) (hl : (apos.endLine == cpos.line) = true) :
    PS X (.Expr (.Call (.Attribute (.Name x p) m apos) [ek, e] [] cpos) pos) (tEx X.kw (ex T fu (.ins i k a))) := by
  subst hm
  have st : starEach [e] X.env = (false, eval e X.env) :: starEach [] X.env := noStar hs
  have st1 : starEach [ek, e] X.env = (false, eval ek X.env) :: starEach [e] X.env := noStar hs1
  refine PS.weak (ps_expr (pe_bm PySem.F.plainAttrs_list PySem.F.slot_list_insert PySem.F.type_list_insert mt_insert (pe_nm b hi hv hn) (pa_cons hk (pa_cons h pa_nil st) st1) rfl (by rw [st1, st]; rfl) hl st1 (by rw [st]; rfl))) fun D σ H ⟨env, F, fl, env', s, e, k1, k2⟩ => ?_
  simp only [ex] at e
  split at e
  · rename_i ho
    simp only [Option.bind_eq_some_iff] at e
    obtain ⟨⟨rk, envk⟩, ek, ⟨r, env1⟩, e1, ⟨d, env2⟩, e2, kd, e3, e4⟩ := e
    obtain ⟨ad, vs0, had, hH0⟩ := ownL_at s ho
    refine ⟨_, had, .inl ⟨rfl, vs0, SqL.of hH0⟩, env, F, rk, envk, s, ek, fun vk Hk Fk sk xk pk => ⟨envk, Fk, r, env1, sk, e1, fun v H1 F1 s1 x1 p1 => ?_⟩⟩
    have xx := xk.trans x1
    obtain ⟨F2, s2, x2, rp, up, kf, ow, _⟩ := frz_ok s1 x1 p1 e2
    have pk2 := (pk.ext x1)
    have pk3 : RepR X.kw env2 σ H1 F2 H vk rk := pk2.frz up kf ow fun a n1 n2 => by
      have := (pk.fresh n2).2
      have := (p1.fresh n1).1
      contradiction
    have kv := lookD_ok s2 pk3 e3
    split at e4
    · rename_i pp xs j q
      split at e4
      · rename_i hz
        cases e4
        obtain ⟨hz, h3⟩ := band hz
        obtain ⟨h1, h2⟩ := band hz
        have h1 := of_decide_eq_true h1
        have h2 := of_decide_eq_true h2
        have h3 := of_decide_eq_true h3
        obtain ⟨a', u, g1, g2, g3, z, vs, g4, g5⟩ := own_at s2 q
        subst g4
        rw [had] at g1
        cases g1
        have hsz : sizeLine < 2 ^ 62 := by decide
        refine ⟨ad, vs, j, v, rfl, by rw [kv.int], g2, by rw [g5.length]; exact h3, h1, by omega, ?_⟩
        have key : RpL X.kw F2 (xs.take j.toNat ++ d :: xs.drop j.toNat) (vs.take j.toNat ++ [v] ++ vs.drop j.toNat) := by
          rw [List.append_assoc]
          exact (g5.take _).append (RpL.cons rp (g5.drop _))
        obtain ⟨s4, x4⟩ := s2.store (ys := .l (xs.take j.toNat ++ d :: xs.drop j.toNat)) (u := .lst (vs.take j.toNat ++ [v] ++ vs.drop j.toNat)) q had ⟨by simp; omega, _, rfl, key⟩
        exact k1 rfl σ _ F2 s4 ((xk.trans x2).trans x4)
      · cases e4
    · cases e4
  · cases e
theorem src_lk {src : Src} {env env1 : Env} {items : List D} {lk : Option Nat} (e1 : evSrc T src env = some (items, lk, env1)) : lk = none ∨ ∃ r, lk = lockS env1 r := by
  cases src with
  | seq a =>
    simp only [evSrc, Option.bind_eq_some_iff, Option.map_eq_some_iff] at e1
    obtain ⟨⟨r1, _⟩, _, o, _, xs, _, e3⟩ := e1
    cases e3
    exact .inr ⟨r1, rfl⟩
  | rng a =>
    simp only [evSrc, Option.bind_eq_some_iff] at e1
    obtain ⟨⟨r1, _⟩, _, d, _, e3⟩ := e1
    split at e3
    · split at e3
      · cases e3; exact .inl rfl
      · cases e3
    · cases e3
  | enum a =>
    simp only [evSrc, Option.bind_eq_some_iff] at e1
    obtain ⟨⟨r1, _⟩, _, d, _, e3⟩ := e1
    split at e3
    · cases e3; exact .inr ⟨r1, rfl⟩
    · cases e3
  | zip a b =>
    simp only [evSrc, Option.bind_eq_some_iff] at e1
    obtain ⟨_, _, _, _, _, _, ⟨d2, env4⟩, _, e5⟩ := e1
    dsimp only at e5
    split at e5
    · cases e5; exact .inl rfl
    · cases e5; exact .inl rfl
    · cases e5; exact .inl rfl
    · cases e5
theorem Cok.never (c : Cok T N X) : PassesOwn (model X.prog X.w) X.A X.env X.xe := by
  rw [c.xe]; exact PassesOwn.never
theorem snd_for {tg : Tg} {src : Src} {body : SL} {fg : List Nat} {tge iter : Expr} {sts : List Stmt} {pos : Pos} {sc : Scope} {fu : Nat} (b : Bok T N X sc) (hi : PI X tge iter (tSrc T X.kw src)) (hset : ∀ x k p, iter ≠ .Set x k p) (hg : PG X tge (tTg X.kw tg)) (hb : PSs X sts (tEx X.kw (exL T fu body))) :
    PS X (.For tge iter sts [] pos) (tEx X.kw (ex T fu (.for_ tg src body fg))) := by
  refine PS.weak (ps_for b.c.never b.c.calm hi hg hb (noFold hset)) fun D σ H ⟨env, F, fl, env', s, e, k1, k2⟩ => ?_
  simp only [ex, Option.bind_eq_some_iff, Option.map_eq_some_iff] at e
  obtain ⟨⟨items, lk, env1⟩, e1, ⟨fl1, envF⟩, e2, e3⟩ := e
  cases e3
  have hk := src_lk e1
  generalize hf : (fun x env => (asg tg x env).bind fun e1 => (exL T fu body e1).map fun q => (q.1, wip q.2 fg)) = f at e2
  refine ⟨env, F, items, lk, env1, s, e1, hk, fun J H1 F1 s1 x1 wk => ?_⟩
  obtain ⟨hz, G, Y, w, hG, hY⟩ := wk
  have sL := lock_any hk s1
  obtain ⟨s0, x0⟩ := sL.wip fg
  refine for_it w (fun i σi Hi => ∃ envi Fi, Sat X.kw envi σi Hi Fi ∧ Ext (lock env1 lk) σ H1 F1 envi σi Hi Fi ∧ forGo f (items.drop i) envi = some (fl1, envF)) ?_ ?_ ?_ ?_
  · exact ⟨_, F1, s0, x0, e2⟩
  · rintro i σi Hi hi ⟨envi, Fi, si, xi, _⟩
    exact hG envi σi Hi Fi si xi
  · rintro i x σi Hi H' hi ⟨envi, Fi, si, xi, go⟩ y
    have hlt : i < items.length := hi
    obtain ⟨F2, g2, rp⟩ := hY i x items[i] envi σi Hi Fi H' si xi y (by simp)
    have s2 := si.grow g2
    have x2 := g2.ext si
    rw [List.drop_eq_getElem_cons hlt] at go
    simp only [forGo, Option.bind_eq_some_iff] at go
    obtain ⟨⟨flb, envb⟩, g1, g3⟩ := go
    rw [← hf] at g1
    simp only [Option.bind_eq_some_iff, Option.map_eq_some_iff] at g1
    obtain ⟨ea, ga, ⟨flc, envc⟩, gb, gc⟩ := g1
    cases gc
    refine ⟨envi, F2, items[i], ea, s2, rp, ga, fun σ2 sa xa ag la => ?_⟩
    have xpre := (xi.trans x2).trans xa
    refine ⟨ea, F2, flc, envc, sa, gb, fun hn σ3 H3 F3 s3 x3 => ?_, fun r hr v σ3 H3 F3 s3 x3 p3 => ?_⟩
    · subst hn
      obtain ⟨s4, x4⟩ := s3.wip fg
      exact ⟨_, F3, s4, (xpre.trans x3).trans x4, g3⟩
    · subst hr
      cases g3
      obtain ⟨s4, x4⟩ := s3.wip fg
      have xall := (xpre.trans x3).trans x4
      obtain ⟨s7, x7, ow7⟩ := unlock_any hk s1 s4 xall
      refine k2 r rfl v σ3 H3 F3 s7 (x1.trans x7) ?_
      cases r with
      | dat d => exact p3
      | slot j => exact p3
      | new c =>
        obtain ⟨a, u, f1, f2, f3, f4, f5, f6⟩ := p3
        have hH1 : H1 a = none := xi.dmn a (x2.dmn a f6)
        refine ⟨a, u, f1, f2, f3, f4, fun o => ?_, x1.dmn a hH1⟩
        rcases ow7 a o with z | z
        · obtain ⟨j, j1, t, j2, j3⟩ := z
          rcases wip_at j2 with q | q
          · subst q; cases j3
          · exact f5 ⟨j, j1, t, q, j3⟩
        · exact s1.notOwned hH1 z
  · rintro σn Hn ⟨envi, Fi, si, xi, go⟩
    rw [List.drop_length] at go
    simp only [forGo, Option.some.injEq, Prod.mk.injEq] at go
    obtain ⟨g1, g2⟩ := go
    subst g1 g2
    obtain ⟨s7, x7, ow7⟩ := unlock_any hk s1 si xi
    exact k1 rfl σn Hn Fi s7 (x1.trans x7)
theorem snd_whl {c : E} {body : SL} {fg : List Nat} {ce : Expr} {sts : List Stmt} {pos : Pos} {sc : Scope} {fu : Nat} (b : Bok T N X sc) (hc : PT X ce (tEvT T X.kw c)) (hb : PSs X sts (tEx X.kw (exL T fu body))) :
    PS X (.While ce sts [] pos) (tEx X.kw (ex T fu (.whl c body fg))) := by
  refine PS.weak (ps_while b.c.never hc hb) fun D σ H ⟨env, F, fl, env', s, e, k1, k2⟩ => ?_
  simp only [ex] at e
  generalize hf : (fun env => (ev T c env).bind fun p => (truth (look p.2 p.1)).map fun k => (k, p.2)) = f at e
  generalize hg : (fun env => (exL T fu body env).map fun q => (q.1, wip q.2 fg)) = g at e
  obtain ⟨s0, x0⟩ := s.wip fg
  refine ⟨fun m σi Hi => ∃ envi Fi, Sat X.kw envi σi Hi Fi ∧ Ext env σ H F envi σi Hi Fi ∧ whlGo f g m envi = some (fl, env'), ⟨fu, _, F, s0, x0, e⟩, ?_⟩
  rintro m σi Hi ⟨envi, Fi, si, xi, go⟩
  cases m with
  | zero => simp [whlGo] at go
  | succ m =>
    simp only [whlGo, Option.bind_eq_some_iff] at go
    obtain ⟨⟨kb, ek⟩, g1, g2⟩ := go
    rw [← hf] at g1
    simp only [Option.bind_eq_some_iff, Option.map_eq_some_iff] at g1
    obtain ⟨⟨r, er⟩, g3, kb', g4, g5⟩ := g1
    cases g5
    refine ⟨envi, Fi, r, er, kb, si, g3, g4, fun H3 F3 s3 x3 => ?_⟩
    have xpre := xi.trans x3
    dsimp only at g2
    cases kb with
    | true =>
      simp only [if_true, Option.bind_eq_some_iff] at g2
      obtain ⟨⟨flb, envb⟩, g6, g7⟩ := g2
      rw [← hg] at g6
      simp only [Option.map_eq_some_iff] at g6
      obtain ⟨⟨flc, envc⟩, g6, g8⟩ := g6
      cases g8
      refine iteT ?_
      refine ⟨fun σ' H' => ∃ envi Fi, Sat X.kw envi σ' H' Fi ∧ Ext env σ H F envi σ' H' Fi ∧ whlGo f g m envi = some (fl, env'), fun σ' H' z => ⟨m, Nat.lt_succ_self m, z⟩, ?_⟩
      refine ⟨er, F3, flc, envc, s3, g6, fun hn σ4 H4 F4 s4 x4 => ?_, fun r hr v σ4 H4 F4 s4 x4 p4 => ?_⟩
      · subst hn
        obtain ⟨s5, x5⟩ := s4.wip fg
        exact ⟨_, F4, s5, (xpre.trans x4).trans x5, g7⟩
      · subst hr
        cases g7
        obtain ⟨s5, x5⟩ := s4.wip fg
        refine k2 r rfl v σ4 H4 F4 s5 ((xpre.trans x4).trans x5) ?_
        have p5 := p4.start xpre.dmn
        cases r with
        | dat d => exact p5
        | slot j => exact p5
        | new c =>
          obtain ⟨a, u, f1, f2, f3, f4, f5, f6⟩ := p5
          refine ⟨a, u, f1, f2, f3, f4, fun ⟨j, j1, t, j2, j3⟩ => ?_, f6⟩
          rcases wip_at j2 with q | q
          · subst q; cases j3
          · exact f5 ⟨j, j1, t, q, j3⟩
    | false =>
      rw [if_neg Bool.false_ne_true] at g2
      cases g2
      refine iteF ?_
      exact k1 rfl σi H3 F3 s3 xpre
end
end Lc
/-! Whole defs. -/
namespace Lc
open PySem L2
mutual
theorem sndSt {T : Tab} {N : List Str} {X : Cx} {fu : Nat} : ∀ (a : S) {st : Stmt} {sc : Scope}, Bok T N X sc → ckS N a st sc = true → PS X st (tEx X.kw (ex T fu a))
  | .set i own e, st, sc, b, h => by
    unfold ckS at h
    split at h
    · obtain ⟨h1, h4⟩ := band h
      obtain ⟨h1, h3⟩ := band h1
      obtain ⟨h1, h2⟩ := band h1
      have hNi := of_decide_eq_true h1
      rw [Bool.or_eq_true] at h4
      rcases h4 with h4 | h4
      · exact snd_setS b hNi h2 (sndE e b.c b.sc h3) (by simpa using h4)
      · cases e with
        | lc _ _ _ _ _ => exact snd_setLcS b hNi h2 h3
        | _ => cases h4
    · cases h
  | .par is os es, st, sc, b, h => by
    unfold ckS at h
    split at h
    · obtain ⟨h1, h3⟩ := band h
      obtain ⟨h1, h2⟩ := band h1
      have h1 := of_decide_eq_true h1
      have h2 := of_decide_eq_true h2
      have hl : is.length = 2 := by simpa using congrArg List.length h1
      match is, hl, h1 with
      | [i, j], _, h1 =>
        simp only [List.map_cons, List.map_nil, List.cons.injEq, and_true] at h1
        exact snd_par2 b h1.1 h1.2 h2 (sndL es b.c b.sc h3)
    · obtain ⟨h1, h3⟩ := band h
      obtain ⟨h1, h2⟩ := band h1
      have h1 := of_decide_eq_true h1
      have h2 := of_decide_eq_true h2
      have hl : is.length = 3 := by simpa using congrArg List.length h1
      match is, hl, h1 with
      | [i, j, l], _, h1 =>
        simp only [List.map_cons, List.map_nil, List.cons.injEq, and_true] at h1
        exact snd_par3 b h1.1 h1.2.1 h1.2.2 h2 (sndL es b.c b.sc h3)
    · cases h
  | .unp tg e, st, sc, b, h => by
    unfold ckS at h
    split at h
    · obtain ⟨h1, h3⟩ := band h
      obtain ⟨h1, h2⟩ := band h1
      exact snd_unp b h1 (sndE e b.c b.sc h2) h3
    · cases h
  | .sub i ix e, st, sc, b, h => by
    unfold ckS at h
    split at h
    · obtain ⟨h1, h5⟩ := band h
      obtain ⟨h1, h4⟩ := band h1
      obtain ⟨h1, h3⟩ := band h1
      obtain ⟨h1, h2⟩ := band h1
      exact snd_sub b (of_decide_eq_true h1) h2 h3 (sndE ix b.c b.sc h4) (sndE e b.c b.sc h5) (ck_plain h4).2.1
    · cases h
  | .app i e, st, sc, b, h => by
    unfold ckS at h
    split at h
    · obtain ⟨h1, h6⟩ := band h
      obtain ⟨h1, h5⟩ := band h1
      obtain ⟨h1, h4⟩ := band h1
      obtain ⟨h1, h3⟩ := band h1
      obtain ⟨h1, h2⟩ := band h1
      exact snd_app b (of_decide_eq_true h1) (of_decide_eq_true h2) h3 h4 (sndE e b.c b.sc h5) (ck_plain h5).1 h6
    · cases h
  | .ins i k e, st, sc, b, h => by
    unfold ckS at h
    split at h
    · obtain ⟨h1, h7⟩ := band h
      obtain ⟨h1, h6⟩ := band h1
      obtain ⟨h1, h5⟩ := band h1
      obtain ⟨h1, h4⟩ := band h1
      obtain ⟨h1, h3⟩ := band h1
      obtain ⟨h1, h2⟩ := band h1
      exact snd_ins b (of_decide_eq_true h1) (of_decide_eq_true h2) h3 h4 (sndE k b.c b.sc h5) (sndE e b.c b.sc h6) (ck_plain h5).1 (ck_plain h6).1 h7
    · cases h
  | .rem i e, st, sc, b, h => by simp [ckS] at h
  | .rai, st, sc, b, h => ⟨fun pins s σ H I D w => by
    obtain ⟨env, F, fl, env', s, e, k⟩ := w
    simp [ex] at e⟩
  | .expr e, st, sc, b, h => by
    unfold ckS at h
    split at h
    · exact snd_exprS (sndE e b.c b.sc h)
    · cases h
  | .ret e, st, sc, b, h => by
    unfold ckS at h
    split at h
    · exact snd_ret (sndE e b.c b.sc h)
    · cases h
  | .ite c a e, st, sc, b, h => by
    unfold ckS at h
    split at h
    · obtain ⟨h1, h3⟩ := band h
      obtain ⟨h1, h2⟩ := band h1
      exact snd_iteS (sndT c b.c b.sc h1) (sndSl a b h2) (sndSl e b h3)
    · cases h
  | .for_ tg src body fg, st, sc, b, h => by
    unfold ckS at h
    split at h
    · obtain ⟨h1, h3⟩ := band h
      obtain ⟨h1, h2⟩ := band h1
      exact snd_for b (sndS src b.c b.sc h1) (ckS_plain h1) (snd_tg b.c.calm b.sok h2) (sndSl body b h3)
    · cases h
  | .whl c body fg, st, sc, b, h => by
    unfold ckS at h
    split at h
    · obtain ⟨h1, h2⟩ := band h
      exact snd_whl b (sndT c b.c b.sc h1) (sndSl body b h2)
    · cases h
theorem sndSl {T : Tab} {N : List Str} {X : Cx} {fu : Nat} : ∀ (a : SL) {sts : List Stmt} {sc : Scope}, Bok T N X sc → ckSL N a sts sc = true → PSs X sts (tEx X.kw (exL T fu a))
  | .nil, sts, sc, b, h => by
    unfold ckSL at h
    split at h
    · exact PSs.weak snd_nilS fun D σ H w => by simpa [exL] using w
    · cases h
  | .cons s r, sts, sc, b, h => by
    unfold ckSL at h
    split at h
    · obtain ⟨h1, h2⟩ := band h
      exact snd_consS (sndSt s b h1) (sndSl r b h2)
    · cases h
end
section
variable {K : Kw} {env env1 : Env} {σ σ1 : L2.St} {H H1 F F1 : Hp} {as : List Slot} {vs : List V} {n : Nat}
theorem start_eq {N : List Str} (h : N.length - vs.length = n) : L2.start N vs = vs.map some ++ List.replicate n none := by
  unfold L2.start; rw [h]
theorem get_l {α : Type} {xs ys : List α} {i : Nat} (h : i < xs.length) : (xs ++ ys)[i]? = xs[i]? := List.getElem?_append_left h
theorem get_r {i n : Nat} {t : Slot} (h : (as ++ List.replicate n Slot.no)[i]? = some t) : as[i]? = some t ∨ t = .no := by
  by_cases hi : i < as.length
  · rw [get_l hi] at h; exact .inl h
  · rw [List.getElem?_append_right (by omega), List.getElem?_replicate] at h
    split at h
    · cases h; exact .inr rfl
    · cases h
theorem sat_start (s : Sat K as (vs.map some) H F) : Sat K (as ++ List.replicate n .no) (vs.map some ++ List.replicate n none) H F := by
  have hl := s.len
  have own : ∀ i a, Owns (as ++ List.replicate n .no) (vs.map some ++ List.replicate n none) i a → Owns as (vs.map some) i a := fun i a ⟨h1, t, h2, h3⟩ => by
    rcases get_r h2 with q | q
    · rw [get_l (by rw [← hl]; exact lt_of_get q)] at h1
      exact ⟨h1, t, q, h3⟩
    · subst q; cases h3
  refine ⟨s.fle, by simp [hl], fun i t h => ?_, fun i j a h1 h2 => s.inj i j a (own i a h1) (own j a h2)⟩
  rcases get_r h with q | q
  · have ok := s.sl i t q
    rw [get_l (by rw [← hl]; exact lt_of_get q)]
    exact ok
  · subst q; trivial
theorem own_start (s : Sat K as (vs.map some) H F) {i : Nat} {a : Addr} (h : Owns (as ++ List.replicate n .no) (vs.map some ++ List.replicate n none) i a) : Owns as (vs.map some) i a := by
  obtain ⟨h1, t, h2, h3⟩ := h
  rcases get_r h2 with q | q
  · rw [get_l (by rw [← s.len]; exact lt_of_get q)] at h1
    exact ⟨h1, t, q, h3⟩
  · subst q; cases h3
theorem outs_length : ∀ {as : List Slot} {env : Env}, (outs as env).length = as.length
  | [], _ => by simp [outs]
  | s :: as, [] => by
    simp only [outs, List.length_cons]
    rw [outs_length]
  | s :: as, t :: env => by
    simp only [outs, List.length_cons]
    rw [outs_length]
theorem outs_at : ∀ {as : List Slot} {env : Env} {i : Nat} {t : Slot}, (outs as env)[i]? = some t → t = .no ∨ ∃ s : Slot, as[i]? = some s ∧ s.par = true ∧ env[i]? = some t
  | [], _, _, _, h => by simp [outs] at h
  | s :: as, [], 0, u, h => by
    simp only [outs, List.getElem?_cons_zero, Option.some.injEq] at h
    exact .inl h.symm
  | s :: as, [], i + 1, u, h => by
    simp only [outs, List.getElem?_cons_succ] at h
    rcases outs_at h with q | ⟨_, _, _, q⟩
    · exact .inl q
    · simp at q
  | s :: as, t :: env, 0, u, h => by
    simp only [outs, List.getElem?_cons_zero, Option.some.injEq] at h
    split at h
    · rename_i hp
      subst h
      exact .inr ⟨s, rfl, hp, rfl⟩
    · exact .inl h.symm
  | s :: as, t :: env, i + 1, u, h => by
    simp only [outs, List.getElem?_cons_succ] at h ⊢
    exact outs_at h
theorem outs_par : ∀ {as : List Slot} {env : Env} {i : Nat} {s t : Slot}, as[i]? = some s → s.par = true → env[i]? = some t → (outs as env)[i]? = some t
  | [], _, _, _, _, h, _, _ => by simp at h
  | _ :: _, [], _, _, _, _, _, h => by simp at h
  | s :: as, t :: env, 0, _, _, h1, h2, h3 => by
    simp at h1 h3
    subst h1 h3
    simp [outs, h2]
  | s :: as, t :: env, i + 1, _, _, h1, h2, h3 => by
    simp only [outs, List.getElem?_cons_succ] at h1 h3 ⊢
    exact outs_par h1 h2 h3
/-- the def's end, as the caller sees it -/
theorem def_end (s : Sat K as (vs.map some) H F) (hp : ∀ t ∈ as, t.isOwn = true → t.par = true) (s1 : Sat K env1 σ1 H1 F1) (x : Ext (as ++ List.replicate n .no) (vs.map some ++ List.replicate n none) H F env1 σ1 H1 F1) :
    Sat K (outs as env1) (vs.map some) H1 F1 ∧ Ext as (vs.map some) H F (outs as env1) (vs.map some) H1 F1 ∧ (∀ i a, Owns (outs as env1) (vs.map some) i a → Owns env1 σ1 i a ∧ ∃ t : Slot, env1[i]? = some t ∧ t.par = true) ∧
      (∀ a, Owned env1 σ1 a → H a = none ∨ ∃ i : Nat, Owns env1 σ1 i a ∧ ∃ t : Slot, env1[i]? = some t ∧ t.par = true) := by
  have st : ∀ (i : Nat) (u : Slot), as[i]? = some u → u.par = true → ∃ s' : Slot, env1[i]? = some s' ∧ s'.par = true ∧ s'.kind = u.kind ∧ σ1[i]? = (vs.map some)[i]? := fun i u hu pu => by
    have hi := lt_of_get hu
    obtain ⟨s', h1, h2, h3, h4⟩ := x.pr i u (by rw [get_l hi]; exact hu) pu
    rw [get_l (by rw [← s.len]; exact hi)] at h4
    exact ⟨s', h1, h2, h3, h4⟩
  have own : ∀ i a, Owns (outs as env1) (vs.map some) i a → Owns env1 σ1 i a ∧ ∃ t : Slot, env1[i]? = some t ∧ t.par = true := fun i a ⟨h1, t, h2, h3⟩ => by
    rcases outs_at h2 with q | ⟨u, q1, q2, q3⟩
    · subst q; cases h3
    · obtain ⟨s', g1, g2, g3, g4⟩ := st i u q1 q2
      rw [g1] at q3; cases q3
      exact ⟨⟨by rw [g4]; exact h1, _, g1, h3⟩, _, g1, g2⟩
  refine ⟨⟨s1.fle, by rw [outs_length]; exact s.len, fun i t h => ?_, fun i j a h1 h2 => s1.inj i j a (own i a h1).1 (own j a h2).1⟩, ⟨x.f, fun a o h nn => ?_, fun a o h nn => ?_, x.dm, fun a ⟨i, h⟩ => ?_, fun i t h p => ?_⟩, own, fun a h => ?_⟩
  · rcases outs_at h with q | ⟨u, q1, q2, q3⟩
    · subst q; trivial
    · obtain ⟨s', g1, g2, g3, g4⟩ := st i u q1 q2
      rw [g1] at q3; cases q3
      rw [← g4]; exact s1.sl i _ g1
  · rcases x.fn a o h nn with q | ⟨i, q⟩
    · exact .inl q
    · exact .inr ⟨i, own_start s q⟩
  · exact x.h a o h fun ⟨i, q⟩ => nn ⟨i, own_start s q⟩
  · rcases x.ow a ⟨i, (own i a h).1⟩ with ⟨j, q⟩ | q
    · exact .inl ⟨j, own_start s q⟩
    · exact .inr q
  · obtain ⟨s', g1, g2, g3, g4⟩ := st i t h p
    exact ⟨s', outs_par h p g1, g2, g3, rfl⟩
  · rcases x.ow a h with ⟨j, q⟩ | q
    · obtain ⟨q1, t, q2, q3⟩ := own_start s q
      have pt := hp t (List.mem_of_getElem? q2) q3
      obtain ⟨s', g1, g2, g3, g4⟩ := st j t q2 pt
      refine .inr ⟨j, ⟨by rw [g4]; exact q1, s', g1, ?_⟩, s', g1, g2⟩
      cases t <;> first | (cases q3; done) | skip
      cases s' <;> first | rfl | cases g3
    · exact .inl q
end
/-- what a program's top has left, as far as the evaluator's table says -/
structure Glob (T : Tab) (P : Program) (w : World) (K : PySem.W.Frag) (mg : Str → Option Value) (base : Heap) (k : Nat) : Prop where
  fns : ∀ x fs, T.fns x = some fs → ∃ (f : Addr) (fd : FuncData) (ps : List Str), mg x = some (.ref f) ∧ PySem.W.keepIn K (.ref f) = true ∧ Binds K fd ps [] ∧ ps.length = fs.md.length ∧ FnOk P w K mg base CX0 k f fd ps (spOf ⟨K, P, w⟩ fs)
  cs : ∀ x d, T.cs x = some d → ∃ (v : V) (u : Value), mg x = some u ∧ RelV v u ∧ ∀ F, Rp ⟨K, P, w⟩ F d v
  blt : ∀ x ∈ bNames, mg x = none
section
variable {P : Program} {w : World} {K : PySem.W.Frag} {mg : Str → Option Value} {base : Heap} {T : Tab} {k fu : Nat} {x qual : Str} {params : Arguments} {sts : List Stmt} {scope : Scope} {f : Addr} {fd : FuncData} {N ps : List Str} {body : SL} {fs : FS}
/-- a def keeps what its evaluation gives -/
theorem def_ok (F : FunD K x qual params sts scope [] [] f fd) (S : FnScope N ps scope) (G : Glob T P w K mg base k) (ck : ckSL N body sts scope = true) (hmd : ps.length = fs.md.length)
    (hrun : ∀ as r os, as.length = ps.length → fs.fn as = some (r, os) → run T fu (N.length - ps.length) body as = some (r, os)) : FnOk P w K mg base CX0 (k + 1) f fd ps (spOf ⟨K, P, w⟩ fs) := by
  have vlen : ∀ {vs : List V} {H : Hp} {F : Hp} {as : List Slot}, Sat ⟨K, P, w⟩ as (vs.map some) H F → as.length = fs.md.length → vs.length = ps.length := fun s h => by
    have := s.len
    rw [List.length_map] at this
    omega
  refine F.ok S (fun vs H Q E ⟨F, as, r, os, s, hl, _⟩ => vlen s hl) fun cdv A outer sh H vs Q E hr h => ?_
  obtain ⟨F0, as, r, os, s, hl, hpar, ef, fin⟩ := h
  have e := hrun as r os (by omega) ef
  have hvl := vlen s hl
  have B : Bok T N (cxOf CX0 P w K mg base N qual scope f cdv A outer sh H E).nox scope := by
    refine ⟨⟨rfl, rfl, S.nd, rfl, hr.mono (Nat.zero_le _), fun x fs h => ?_, G.cs, G.blt⟩, S.kind, fun _ => rfl, rfl⟩
    obtain ⟨f, fd, ps, h1, h2, h3, h4, h5⟩ := G.fns x fs h
    exact ⟨f, fd, ps, k, h1, h2, h3, hr, h4, h5⟩
  refine ⟨_, PSs.nox (sndSl (T := T) (fu := fu) body B ck), ?_⟩
  rw [start_eq (n := N.length - ps.length) (by rw [hvl])]
  unfold run at e
  rw [Option.bind_eq_some_iff] at e
  obtain ⟨⟨fl, env1⟩, e1, e2⟩ := e
  have ss := sat_start (n := N.length - ps.length) s
  refine ⟨_, F0, fl, env1, ss, e1, fun hn σ1 H1 F1 s1 x1 => ?_, fun r1 hr1 v σ1 H1 F1 s1 x1 p1 => ?_⟩
  · subst hn
    cases e2
    obtain ⟨s2, x2, _, _⟩ := def_end s hpar s1 x1
    exact fin _ H1 F1 s2 x2 (by show Rp _ _ _ _; rw [Rp])
  · subst hr1
    simp only [Option.map_eq_some_iff] at e2
    obtain ⟨r2, e2, e3⟩ := e2
    cases e3
    obtain ⟨s2, x2, ow, fr⟩ := def_end s hpar s1 x1
    refine fin v H1 F1 s2 x2 ?_
    cases r1 with
    | dat d => cases e2; exact p1
    | new c =>
      cases e2
      obtain ⟨a, u, f1, f2, f3, f4, f5, f6⟩ := p1
      exact ⟨a, u, f1, f2, f3, f4, fun ⟨i, o⟩ => f5 ⟨i, (ow i a o).1⟩, f6⟩
    | slot i =>
      have p1 : σ1[i]? = some (some v) := p1
      simp only [Lc.fin] at e2
      split at e2
      · rename_i d q
        cases e2
        obtain ⟨v', g1, g2⟩ := s1.sl i _ q
        rw [p1] at g1; cases g1
        exact g2
      · rename_i c q
        cases e2
        obtain ⟨a, u, g1, g2, g3, g4⟩ := s1.sl i _ q
        rw [p1] at g1; cases g1
        have ho : Owns env1 σ1 i a := ⟨p1, _, q, rfl⟩
        have key : ∀ j, Owns env1 σ1 j a → (∃ t : Slot, env1[j]? = some t ∧ t.par = true) → False := fun j hj ⟨t, t1, t2⟩ => by
          have := s1.inj i j a ho hj
          subst this
          rw [q] at t1; cases t1; cases t2
        refine ⟨a, u, rfl, g2, g3, g4, fun ⟨j, o⟩ => key j (ow j a o).1 (ow j a o).2, ?_⟩
        rcases fr a ⟨i, ho⟩ with z | ⟨j, z1, z2⟩
        · exact z
        · exact (key j z1 z2).elim
      · cases e2
end
end Lc
/-! The table of a text's defs, one behind another; the end. -/
namespace Lc
open PySem L2
/-- a def: its name, its names by slot, how many are parameters, which of these it changes, its body -/
structure Df where
  x : Str
  N : List Str
  md : List Bool
  body : SL
  fu : Nat
def Df.ps (d : Df) : List Str := d.N.take d.md.length
def Df.fs (d : Df) (T : Tab) : FS := ⟨d.md, run T d.fu (d.N.length - d.ps.length) d.body⟩
def Tab.add (T : Tab) (x : Str) (fs : FS) : Tab := ⟨fun y => if y = x then some fs else T.fns y, T.cs⟩
def tabOf (cs : Str → Option D) : List Df → Tab
  | [] => ⟨fun _ => none, cs⟩
  | d :: ds => (tabOf cs ds).add d.x (d.fs (tabOf cs ds))
section
variable {T : Tab} {P : Program} {w : World} {K : PySem.W.Frag} {mg : Str → Option Value} {base : Heap} {k : Nat}
theorem Glob.add (G : Glob T P w K mg base k) {x : Str} {fs : FS} {f : Addr} {fd : FuncData} {ps : List Str} (hf : mg x = some (.ref f)) (kp : PySem.W.keepIn K (.ref f) = true) (b : Binds K fd ps []) (hps : ps.length = fs.md.length) (h : FnOk P w K mg base CX0 (k + 1) f fd ps (spOf ⟨K, P, w⟩ fs)) :
    Glob (T.add x fs) P w K mg base (k + 1) := by
  refine ⟨fun y gs hy => ?_, G.cs, G.blt⟩
  simp only [Tab.add] at hy
  split at hy
  · rename_i e
    cases hy
    subst e
    exact ⟨f, fd, ps, hf, kp, b, hps, h⟩
  · obtain ⟨f', fd', ps', h1, h2, h3, h4, h5⟩ := G.fns y gs hy
    exact ⟨f', fd', ps', h1, h2, h3, h4, h5.mono (Nat.le_succ k)⟩
/-- the def stands in the text, and the text says what the syntax says -/
structure DfOk (d : Df) (K : PySem.W.Frag) (mg : Str → Option Value) : Prop where
  ex : ∃ (st : Stmt) (f : Addr) (fd : FuncData), FunD K d.x d.x (defArgs st) (defBody st) (defScope st) [] [] f fd ∧ mg d.x = some (.ref f) ∧ FnScope d.N d.ps (defScope st) ∧ ckSL d.N d.body (defBody st) (defScope st) = true ∧ d.ps.length = d.md.length ∧ Binds K fd d.ps []
theorem glob_all {cs : Str → Option D} (hcs : ∀ x d, cs x = some d → ∃ (v : V) (u : Value), mg x = some u ∧ RelV v u ∧ ∀ F, Rp ⟨K, P, w⟩ F d v) (hb : ∀ x ∈ bNames, mg x = none) : ∀ (ds : List Df), (∀ d ∈ ds, DfOk d K mg) → Glob (tabOf cs ds) P w K mg base ds.length
  | [], _ => ⟨fun x fs h => (nomatch h), hcs, hb⟩
  | d :: ds, h => by
    have G := glob_all hcs hb ds fun e he => h e (List.mem_cons_of_mem _ he)
    obtain ⟨st, f, fd, F, hmg, S, ck, hl, b⟩ := (h d List.mem_cons_self).ex
    exact G.add hmg F.kp b hl (def_ok (fu := d.fu) (fs := d.fs (tabOf cs ds)) F S G ck hl fun as r os _ e => e)
/-- the law's promise -/
def spLaw (K : PySem.W.Frag) (P : Program) (w : World) (fs : FS) : Sp := spOf ⟨K, P, w⟩ fs
theorem law_sp {fs : FS} {n : Nat} (hmd : fs.md = [false]) (hl : ∀ ns : List Int, ns.length ≤ n → ∃ os, fs.fn [.scr ns] = some (.dat (.bool true), os)) (H : Hp) (a : Addr) (ns : List Int) (hn : ns.length ≤ n) (hS : SqL K H a (ns.map V.int)) :
    spOf ⟨K, P, w⟩ fs [.ref a] H (fun v _ => v = .bl true) fun _ _ _ => False := by
  obtain ⟨os, e⟩ := hl ns hn
  refine ⟨H, [.scr ns], _, os, ⟨Le.refl H, rfl, fun i t h => ?_, fun i j b h1 h2 => ?_⟩, by rw [hmd]; rfl, fun t ht ho => ?_, e, fun v H' F' _ _ p => ?_⟩
  · cases i with
    | zero => simp at h; subst h; exact ⟨a, rfl, hS⟩
    | succ i => simp at h
  · obtain ⟨h1, t, h2, h3⟩ := h1
    cases i with
    | zero => simp at h2; subst h2; cases h3
    | succ i => simp at h2
  · simp at ht; subst ht; cases ho
  · have p : Rp _ _ _ _ := p
    rw [Rp] at p
    exact p
end
/-- a def is called -/
def Calls (T : Tab) (f : Str) (md : List Bool) (as : List Slot) (r : R) (os : List Slot) : Prop := ∃ fs, T.fns f = some fs ∧ fs.md = md ∧ fs.fn as = some (r, os)
theorem ev_call {T : Tab} {f : Str} {es : EL} {env env1 env2 : Env} {rs : List R} {md : List Bool} {as os : List Slot} {r : R} (h1 : evL T es env = some (rs, env1)) (h2 : pass md rs env1 = some (as, env2)) (h : Calls T f md as r os) (hr : ∀ i, r ≠ .slot i) :
    ev T (.call f es) env = some (r, back md rs os env2) := by
  obtain ⟨fs, e1, e2, e3⟩ := h
  subst e2
  cases r with
  | slot i => exact absurd rfl (hr i)
  | dat d => simp only [ev, h1, Option.bind_some, e1, h2, e3]
  | new c => simp only [ev, h1, Option.bind_some, e1, h2, e3]
end Lc
/-! The evaluator step by step: rows for simp only, each opening what stands first alone. -/
namespace Lc
open PySem L2
variable {T : Tab}
def rdS (i : Nat) : Option Slot → Option R
  | some (.dat d) => some (.dat d)
  | some (.own _ _) => some (.slot i)
  | some (.scr _) => some (.slot i)
  | _ => none
theorem rdS_dat {i : Nat} {d : D} : rdS i (some (.dat d)) = some (.dat d) := rfl
theorem rdS_own {i : Nat} {p : Bool} {c : C} : rdS i (some (.own p c)) = some (.slot i) := rfl
theorem rdS_scr {i : Nat} {ns : List Int} : rdS i (some (.scr ns)) = some (.slot i) := rfl
def loS : Option Slot → Option Ob
  | some (.dat d) => some (.d d)
  | some (.own _ c) => some c.ob
  | some (.scr ns) => some (.s ns)
  | _ => none
theorem loS_dat {d : D} : loS (some (.dat d)) = some (.d d) := rfl
theorem loS_own {p : Bool} {c : C} : loS (some (.own p c)) = some c.ob := rfl
theorem loS_scr {ns : List Int} : loS (some (.scr ns)) = some (.s ns) := rfl
theorem ob_l {xs : List D} : C.ob (.l xs) = .d (.list xs) := rfl
theorem ob_d {t : Bool} {kvs : List (D × D)} : C.ob (.d t kvs) = .k t kvs := rfl
theorem look_dat {env : Env} {d : D} : look env (.dat d) = some (.d d) := rfl
theorem look_new {env : Env} {c : C} : look env (.new c) = some c.ob := rfl
theorem look_slot {env : Env} {i : Nat} : look env (.slot i) = loS env[i]? := by
  simp only [look]
  cases env[i]? with
  | none => rfl
  | some s => cases s <;> rfl
theorem lookD_dat {env : Env} {d : D} : lookD env (.dat d) = some d := rfl
theorem lookD_new {env : Env} {c : C} : lookD env (.new c) = c.ob.dat := rfl
theorem lookD_slot {env : Env} {i : Nat} : lookD env (.slot i) = (loS env[i]?).bind Ob.dat := by
  unfold lookD; rw [look_slot]
theorem obd {x : D} : Ob.dat (.d x) = some x := rfl
def b2 {α : Type} (f : D → D → Option α) : Option D → Option D → Option α
  | some x, some y => f x y
  | _, _ => none
theorem b2_some {α : Type} {f : D → D → Option α} {x y : D} : b2 f (some x) (some y) = f x y := rfl
def fst_ {α : Type} (e : Env) (z : α) : α × Env := (z, e)
theorem fst_eq {α : Type} {e : Env} {z : α} : fst_ e z = (z, e) := rfl
/-! ### expressions -/
theorem ev_var {i : Nat} {env : Env} : ev T (.var i) env = (rdS i env[i]?).map (fst_ env) := by
  have h : rd env i = rdS i env[i]? := by
    unfold rd
    cases env[i]? with
    | none => rfl
    | some s => cases s <;> rfl
  rw [ev, h]; rfl
theorem ev_cst {d : D} {env : Env} : ev T (.cst d) env = some (.dat d, env) := by rw [ev]
def datE (e : Env) (d : D) : R × Env := (.dat d, e)
theorem datE_eq {e : Env} {d : D} : datE e d = (.dat d, e) := rfl
theorem ev_glo {x : Str} {env : Env} : ev T (.glo x) env = (T.cs x).map (datE env) := by rw [ev]; rfl
def kBin2 (op : Operator) (r : R) : R × Env → Option (R × Env) := fun q => (b2 (binop op) (lookD q.2 r) (lookD q.2 q.1)).map (fst_ q.2)
theorem kBin2_eq {op : Operator} {r q : R} {e : Env} : kBin2 op r (q, e) = (b2 (binop op) (lookD e r) (lookD e q)).map (fst_ e) := rfl
def kBin1 (T : Tab) (op : Operator) (b : E) : R × Env → Option (R × Env) := fun p => (ev T b p.2).bind (kBin2 op p.1)
theorem kBin1_eq {op : Operator} {b : E} {r : R} {e : Env} : kBin1 T op b (r, e) = (ev T b e).bind (kBin2 op r) := rfl
theorem b2_bind {α β : Type} {f : D → D → Option α} {g : α → β} (x y : Option D) : (x.bind fun x => y.bind fun y => (f x y).map g) = (b2 f x y).map g := by
  cases x <;> cases y <;> rfl
theorem ev_bin {op : Operator} {a b : E} {env : Env} : ev T (.bin op a b) env = (ev T a env).bind (kBin1 T op b) := by
  rw [ev]
  congr 1; funext p
  unfold kBin1
  congr 1; funext q
  exact b2_bind _ _
def kNeg : R × Env → Option (R × Env) := fun p => (lookD p.2 p.1).bind fun x => match x with
  | .int i => some (.dat (.int (-i)), p.2)
  | _ => none
theorem kNeg_eq {r : R} {e : Env} : kNeg (r, e) = (lookD e r).bind fun x => (match x with
  | .int i => some (.dat (.int (-i)), e)
  | _ => none) := rfl
theorem ev_neg {a : E} {env : Env} : ev T (.neg a) env = (ev T a env).bind kNeg := by rw [ev]; rfl
def nots (e : Env) (b : Bool) : R × Env := (.dat (.bool (!b)), e)
theorem nots_eq {e : Env} {b : Bool} : nots e b = (.dat (.bool (!b)), e) := rfl
def truR (e : Env) (r : R) : Option Bool := truth (look e r)
theorem truR_dat {e : Env} {b : Bool} : truR e (.dat (.bool b)) = some b := rfl
theorem truR_slot {e : Env} {i : Nat} : truR e (.slot i) = truth (loS e[i]?) := by unfold truR; rw [look_slot]
theorem truth_b {b : Bool} : truth (some (.d (.bool b))) = some b := rfl
def kNot : R × Env → Option (R × Env) := fun p => (truR p.2 p.1).map (nots p.2)
theorem kNot_eq {r : R} {e : Env} : kNot (r, e) = (truR e r).map (nots e) := rfl
theorem ev_not {a : E} {env : Env} : ev T (.not_ a) env = (ev T a env).bind kNot := by rw [ev]; rfl
def blE (e : Env) (b : Bool) : R × Env := (.dat (.bool b), e)
theorem blE_eq {e : Env} {b : Bool} : blE e b = (.dat (.bool b), e) := rfl
def cmpB (op : CmpOp) : Option D → Option Ob → Option Bool
  | some x, some o => cmpOb op x o
  | _, _ => none
theorem cmpB_d {op : CmpOp} {x y : D} : cmpB op (some x) (some (.d y)) = cmpop op x y := rfl
theorem cmpB_in {x : D} {kvs : List (D × D)} (h : dkOk false x = true) : cmpB .In (some x) (some (.k false kvs)) = some (dget kvs x).isSome := by simp only [cmpB, cmpOb, h, if_true]
theorem cmpB_ni {x : D} {kvs : List (D × D)} (h : dkOk false x = true) : cmpB .NotIn (some x) (some (.k false kvs)) = some (!(dget kvs x).isSome) := by simp only [cmpB, cmpOb, h, if_true]
def kCmp2 (op : CmpOp) (r : R) : R × Env → Option (R × Env) := fun q => (cmpB op (lookD q.2 r) (look q.2 q.1)).map (blE q.2)
theorem kCmp2_eq {op : CmpOp} {r q : R} {e : Env} : kCmp2 op r (q, e) = (cmpB op (lookD e r) (look e q)).map (blE e) := rfl
def kCmp1 (T : Tab) (op : CmpOp) (b : E) : R × Env → Option (R × Env) := fun p => (ev T b p.2).bind (kCmp2 op p.1)
theorem kCmp1_eq {op : CmpOp} {b : E} {r : R} {e : Env} : kCmp1 T op b (r, e) = (ev T b e).bind (kCmp2 op r) := rfl
theorem ev_cmp {op : CmpOp} {a b : E} {env : Env} : ev T (.cmp op a b) env = (ev T a env).bind (kCmp1 T op b) := by
  rw [ev]
  congr 1; funext p
  unfold kCmp1
  congr 1; funext q
  unfold kCmp2
  cases lookD q.2 p.1 <;> cases look q.2 q.1 <;> rfl
def kCh4 (o2 : CmpOp) (q : R) : R × Env → Option (R × Env) := fun z => (b2 (cmpop o2) (lookD z.2 q) (lookD z.2 z.1)).map (blE z.2)
theorem kCh4_eq {o2 : CmpOp} {q z : R} {e : Env} : kCh4 o2 q (z, e) = (b2 (cmpop o2) (lookD e q) (lookD e z)).map (blE e) := rfl
def kCh3 (T : Tab) (o2 : CmpOp) (c : E) (q : R × Env) : Bool → Option (R × Env) := fun k => if k then (ev T c q.2).bind (kCh4 o2 q.1) else some (.dat (.bool false), q.2)
theorem kCh3_true {o2 : CmpOp} {c : E} {q : R} {e : Env} : kCh3 T o2 c (q, e) true = (ev T c e).bind (kCh4 o2 q) := rfl
theorem kCh3_false {o2 : CmpOp} {c : E} {q : R} {e : Env} : kCh3 T o2 c (q, e) false = some (.dat (.bool false), e) := rfl
def kCh2 (T : Tab) (o1 o2 : CmpOp) (c : E) (r : R) : R × Env → Option (R × Env) := fun q => (b2 (cmpop o1) (lookD q.2 r) (lookD q.2 q.1)).bind (kCh3 T o2 c q)
theorem kCh2_eq {o1 o2 : CmpOp} {c : E} {r q : R} {e : Env} : kCh2 T o1 o2 c r (q, e) = (b2 (cmpop o1) (lookD e r) (lookD e q)).bind (kCh3 T o2 c (q, e)) := rfl
def kCh1 (T : Tab) (o1 o2 : CmpOp) (b c : E) : R × Env → Option (R × Env) := fun p => (ev T b p.2).bind (kCh2 T o1 o2 c p.1)
theorem kCh1_eq {o1 o2 : CmpOp} {b c : E} {r : R} {e : Env} : kCh1 T o1 o2 b c (r, e) = (ev T b e).bind (kCh2 T o1 o2 c r) := rfl
theorem ev_chain {o1 o2 : CmpOp} {a b c : E} {env : Env} : ev T (.chain o1 o2 a b c) env = (ev T a env).bind (kCh1 T o1 o2 b c) := by
  rw [ev]
  congr 1; funext p
  unfold kCh1
  congr 1; funext q
  unfold kCh2
  cases lookD q.2 p.1 with
  | none => rfl
  | some x =>
    cases lookD q.2 q.1 with
    | none => rfl
    | some y =>
      show (cmpop o1 x y).bind _ = (cmpop o1 x y).bind _
      congr 1; funext k
      unfold kCh3
      cases k with
      | false => rfl
      | true =>
        show (ev T c q.2).bind _ = (ev T c q.2).bind _
        congr 1; funext z
        exact b2_bind _ _
def kIte2 (T : Tab) (a b : E) (e : Env) : Bool → Option (R × Env) := fun k => if k then ev T a e else ev T b e
theorem kIte2_true {a b : E} {e : Env} : kIte2 T a b e true = ev T a e := rfl
theorem kIte2_false {a b : E} {e : Env} : kIte2 T a b e false = ev T b e := rfl
def kIte (T : Tab) (a b : E) : R × Env → Option (R × Env) := fun p => (truR p.2 p.1).bind (kIte2 T a b p.2)
theorem kIte_eq {a b : E} {r : R} {e : Env} : kIte T a b (r, e) = (truR e r).bind (kIte2 T a b e) := rfl
theorem ev_ite {c a b : E} {env : Env} : ev T (.ite c a b) env = (ev T c env).bind (kIte T a b) := by rw [ev]; rfl
theorem ev_and {es : EL} {env : Env} : ev T (.and_ es) env = (evAnd T es env).map fun p => (.dat (.bool p.1), p.2) := by rw [ev]
theorem ev_or {es : EL} {env : Env} : ev T (.or_ es) env = (evOr T es env).map fun p => (.dat (.bool p.1), p.2) := by rw [ev]
def kTru : R × Env → Option (Bool × Env) := fun p => (truR p.2 p.1).map (fst_ p.2)
theorem kTru_eq {r : R} {e : Env} : kTru (r, e) = (truR e r).map (fst_ e) := rfl
theorem evAnd_one {a : E} {env : Env} : evAnd T (.cons a .nil) env = (ev T a env).bind kTru := by rw [evAnd]; rfl
theorem evOr_one {a : E} {env : Env} : evOr T (.cons a .nil) env = (ev T a env).bind kTru := by rw [evOr]; rfl
def kAnd2 (T : Tab) (r : EL) (e : Env) : Bool → Option (Bool × Env) := fun k => if k then evAnd T r e else some (false, e)
theorem kAnd2_true {r : EL} {e : Env} : kAnd2 T r e true = evAnd T r e := rfl
theorem kAnd2_false {r : EL} {e : Env} : kAnd2 T r e false = some (false, e) := rfl
def kAnd (T : Tab) (r : EL) : R × Env → Option (Bool × Env) := fun p => (truR p.2 p.1).bind (kAnd2 T r p.2)
theorem kAnd_eq {r : EL} {q : R} {e : Env} : kAnd T r (q, e) = (truR e q).bind (kAnd2 T r e) := rfl
theorem evAnd_cons {a b : E} {r : EL} {env : Env} : evAnd T (.cons a (.cons b r)) env = (ev T a env).bind (kAnd T (.cons b r)) := by rw [evAnd]; rfl
def kOr2 (T : Tab) (r : EL) (e : Env) : Bool → Option (Bool × Env) := fun k => if k then some (true, e) else evOr T r e
theorem kOr2_true {r : EL} {e : Env} : kOr2 T r e true = some (true, e) := rfl
theorem kOr2_false {r : EL} {e : Env} : kOr2 T r e false = evOr T r e := rfl
def kOr (T : Tab) (r : EL) : R × Env → Option (Bool × Env) := fun p => (truR p.2 p.1).bind (kOr2 T r p.2)
theorem kOr_eq {r : EL} {q : R} {e : Env} : kOr T r (q, e) = (truR e q).bind (kOr2 T r e) := rfl
theorem evOr_cons {a b : E} {r : EL} {env : Env} : evOr T (.cons a (.cons b r)) env = (ev T a env).bind (kOr T (.cons b r)) := by rw [evOr]; rfl
/-! ### several -/
def consE (r : R) (q : List R × Env) : List R × Env := (r :: q.1, q.2)
theorem consE_eq {r : R} {rs : List R} {e : Env} : consE r (rs, e) = (r :: rs, e) := rfl
def kL (T : Tab) (r : EL) : R × Env → Option (List R × Env) := fun p => (evL T r p.2).map (consE p.1)
theorem kL_eq {r : EL} {q : R} {e : Env} : kL T r (q, e) = (evL T r e).map (consE q) := rfl
theorem evL_nil {env : Env} : evL T .nil env = some ([], env) := by rw [evL]
theorem evL_cons {a : E} {r : EL} {env : Env} : evL T (.cons a r) env = (ev T a env).bind (kL T r) := by rw [evL]; rfl
theorem frz_dat {env : Env} {d : D} : frz env (.dat d) = some (d, env) := rfl
theorem frz_new {env : Env} {xs : List D} : frz env (.new (.l xs)) = some (.list xs, env) := rfl
def fzS (env : Env) (i : Nat) : Option Slot → Option (D × Env)
  | some (.dat d) => some (d, env)
  | some (.own false (.l xs)) => some (.list xs, env.set i (.dat (.list xs)))
  | _ => none
theorem fzS_dat {env : Env} {i : Nat} {d : D} : fzS env i (some (.dat d)) = some (d, env) := rfl
theorem fzS_own {env : Env} {i : Nat} {xs : List D} : fzS env i (some (.own false (.l xs))) = some (.list xs, env.set i (.dat (.list xs))) := rfl
theorem frz_slot {env : Env} {i : Nat} : frz env (.slot i) = fzS env i env[i]? := by
  simp only [frz]
  cases env[i]? with
  | none => rfl
  | some s =>
    cases s with
    | own p c => cases p <;> cases c <;> rfl
    | _ => rfl
def kF2 (d : D) (q : List D × Env) : List D × Env := (d :: q.1, q.2)
theorem kF2_eq {d : D} {ds : List D} {e : Env} : kF2 d (ds, e) = (d :: ds, e) := rfl
def kF (rs : List R) : D × Env → Option (List D × Env) := fun p => (frzL rs p.2).map (kF2 p.1)
theorem kF_eq {rs : List R} {d : D} {e : Env} : kF rs (d, e) = (frzL rs e).map (kF2 d) := rfl
theorem frzL_nil {env : Env} : frzL [] env = some ([], env) := rfl
theorem frzL_cons {r : R} {rs : List R} {env : Env} : frzL (r :: rs) env = (frz env r).bind (kF rs) := rfl
def kTup2 : List D × Env → Option (R × Env) := fun q => if q.1.length ≤ 1000 then some (.dat (.tuple q.1), q.2) else none
theorem kTup2_eq {ds : List D} {e : Env} (h : ds.length ≤ 1000) : kTup2 (ds, e) = some (.dat (.tuple ds), e) := by unfold kTup2; rw [if_pos h]
def kTup : List R × Env → Option (R × Env) := fun p => (frzL p.1 p.2).bind kTup2
theorem kTup_eq {rs : List R} {e : Env} : kTup (rs, e) = (frzL rs e).bind kTup2 := rfl
theorem ev_tup {es : EL} {env : Env} : ev T (.tup es) env = (evL T es env).bind kTup := by rw [ev]; rfl
def kLst2 : List D × Env → Option (R × Env) := fun q => if q.1.length ≤ 1000 then some (.new (.l q.1), q.2) else none
theorem kLst2_eq {ds : List D} {e : Env} (h : ds.length ≤ 1000) : kLst2 (ds, e) = some (.new (.l ds), e) := by unfold kLst2; rw [if_pos h]
def kLst : List R × Env → Option (R × Env) := fun p => (frzL p.1 p.2).bind kLst2
theorem kLst_eq {rs : List R} {e : Env} : kLst (rs, e) = (frzL rs e).bind kLst2 := rfl
theorem ev_lst {es : EL} {env : Env} : ev T (.lst es) env = (evL T es env).bind kLst := by rw [ev]; rfl
/-! ### items, slices -/
def ixOb : Option Ob → Option D → Option R
  | some o, some i => index o i
  | _, _ => none
theorem ixOb_eq {o : Ob} {i : D} : ixOb (some o) (some i) = index o i := rfl
def kIx2 (r : R) : R × Env → Option (R × Env) := fun q => (ixOb (look q.2 r) (lookD q.2 q.1)).map (fst_ q.2)
theorem kIx2_eq {r q : R} {e : Env} : kIx2 r (q, e) = (ixOb (look e r) (lookD e q)).map (fst_ e) := rfl
def kIx (T : Tab) (b : E) : R × Env → Option (R × Env) := fun p => (ev T b p.2).bind (kIx2 p.1)
theorem kIx_eq {b : E} {r : R} {e : Env} : kIx T b (r, e) = (ev T b e).bind (kIx2 r) := rfl
theorem ev_idx {a b : E} {env : Env} : ev T (.idx a b) env = (ev T a env).bind (kIx T b) := by
  rw [ev]
  congr 1; funext p
  unfold kIx
  congr 1; funext q
  unfold kIx2
  cases look q.2 p.1 <;> cases lookD q.2 q.1 <;> rfl
def kO : R × Env → Option (Option Int × Env) := fun p => (lookD p.2 p.1).bind fun d => match d with
  | .int i => some (some i, p.2)
  | _ => none
theorem kO_eq {r : R} {e : Env} : kO (r, e) = (lookD e r).bind fun d => (match d with
  | .int i => some (some i, e)
  | _ => none) := rfl
theorem evO_no {env : Env} : evO T .no env = some (none, env) := by rw [evO]
theorem evO_so {a : E} {env : Env} : evO T (.so a) env = (ev T a env).bind kO := by rw [evO]; rfl
def kSl3 (r : R) (lo : Option Int) : Option Int × Env → Option (R × Env) := fun h => (lookD h.2 r).bind fun d => (slice d lo h.1).map (fst_ h.2)
theorem kSl3_eq {r : R} {lo hi : Option Int} {e : Env} : kSl3 r lo (hi, e) = (lookD e r).bind fun d => (slice d lo hi).map (fst_ e) := rfl
def kSl2 (T : Tab) (hi : EO) (r : R) : Option Int × Env → Option (R × Env) := fun l => (evO T hi l.2).bind (kSl3 r l.1)
theorem kSl2_eq {hi : EO} {r : R} {lo : Option Int} {e : Env} : kSl2 T hi r (lo, e) = (evO T hi e).bind (kSl3 r lo) := rfl
def kSl (T : Tab) (lo hi : EO) : R × Env → Option (R × Env) := fun p => (evO T lo p.2).bind (kSl2 T hi p.1)
theorem kSl_eq {lo hi : EO} {r : R} {e : Env} : kSl T lo hi (r, e) = (evO T lo e).bind (kSl2 T hi r) := rfl
theorem ev_sl {a : E} {lo hi : EO} {env : Env} : ev T (.sl a lo hi) env = (ev T a env).bind (kSl T lo hi) := by rw [ev]; rfl
def kRev : R × Env → Option (R × Env) := fun p => (lookD p.2 p.1).bind fun d => (revs d).map (fst_ p.2)
theorem kRev_eq {r : R} {e : Env} : kRev (r, e) = (lookD e r).bind fun d => (revs d).map (fst_ e) := rfl
theorem ev_rev {a : E} {env : Env} : ev T (.rev a) env = (ev T a env).bind kRev := by rw [ev]; rfl
/-! ### calls -/
def kC4 (md : List Bool) (rs : List R) (e : Env) : R × List Slot → Option (R × Env) := fun o => match o.1 with
  | .slot _ => none
  | r => some (r, back md rs o.2 e)
theorem kC4_dat {md : List Bool} {rs : List R} {e : Env} {d : D} {os : List Slot} : kC4 md rs e (.dat d, os) = some (.dat d, back md rs os e) := rfl
theorem kC4_new {md : List Bool} {rs : List R} {e : Env} {c : C} {os : List Slot} : kC4 md rs e (.new c, os) = some (.new c, back md rs os e) := rfl
def kC3 (g : FS) (rs : List R) : List Slot × Env → Option (R × Env) := fun q => (g.fn q.1).bind (kC4 g.md rs q.2)
theorem kC3_eq {md : List Bool} {fn : List Slot → Option (R × List Slot)} {rs : List R} {as : List Slot} {e : Env} : kC3 ⟨md, fn⟩ rs (as, e) = (fn as).bind (kC4 md rs e) := rfl
def kC2 (p : List R × Env) : FS → Option (R × Env) := fun g => (pass g.md p.1 p.2).bind (kC3 g p.1)
theorem kC2_eq {rs : List R} {e : Env} {md : List Bool} {fn : List Slot → Option (R × List Slot)} : kC2 (rs, e) ⟨md, fn⟩ = (pass md rs e).bind (kC3 ⟨md, fn⟩ rs) := rfl
def kC (T : Tab) (f : Str) : List R × Env → Option (R × Env) := fun p => (T.fns f).bind (kC2 p)
theorem kC_eq {f : Str} {rs : List R} {e : Env} : kC T f (rs, e) = (T.fns f).bind (kC2 (rs, e)) := rfl
theorem ev_callE {f : Str} {es : EL} {env : Env} : ev T (.call f es) env = (evL T es env).bind (kC T f) := by rw [ev]; rfl
def kP (r : D) (q : List Slot × Env) : List Slot × Env := (.dat r :: q.1, q.2)
theorem kP_eq {r : D} {as : List Slot} {e : Env} : kP r (as, e) = (.dat r :: as, e) := rfl
def kPs (s : Slot) (q : List Slot × Env) : List Slot × Env := (s :: q.1, q.2)
theorem kPs_eq {s : Slot} {as : List Slot} {e : Env} : kPs s (as, e) = (s :: as, e) := rfl
def kPf (ms : List Bool) (rs : List R) : D × Env → Option (List Slot × Env) := fun p => (pass ms rs p.2).map (kP p.1)
theorem kPf_eq {ms : List Bool} {rs : List R} {d : D} {e : Env} : kPf ms rs (d, e) = (pass ms rs e).map (kP d) := rfl
theorem pass_nil {env : Env} : pass [] [] env = some ([], env) := rfl
theorem pass_dat {ms : List Bool} {d : D} {rs : List R} {env : Env} : pass (false :: ms) (.dat d :: rs) env = (pass ms rs env).map (kP d) := rfl
theorem pass_new {ms : List Bool} {xs : List D} {rs : List R} {env : Env} : pass (false :: ms) (.new (.l xs) :: rs) env = (pass ms rs env).map (kP (.list xs)) := rfl
theorem pass_newT {ms : List Bool} {c : C} {rs : List R} {env : Env} : pass (true :: ms) (.new c :: rs) env = (pass ms rs env).map (kPs (.own true c)) := rfl
def psS (ms : List Bool) (rs : List R) (env : Env) (i : Nat) : Option Slot → Option (List Slot × Env)
  | some (.scr ns) => (pass ms rs env).map (kPs (.scr ns))
  | s => (fzS env i s).bind (kPf ms rs)
theorem psS_scr {ms : List Bool} {rs : List R} {env : Env} {i : Nat} {ns : List Int} : psS ms rs env i (some (.scr ns)) = (pass ms rs env).map (kPs (.scr ns)) := rfl
theorem psS_dat {ms : List Bool} {rs : List R} {env : Env} {i : Nat} {d : D} : psS ms rs env i (some (.dat d)) = (pass ms rs env).map (kP d) := rfl
theorem psS_own {ms : List Bool} {rs : List R} {env : Env} {i : Nat} {xs : List D} : psS ms rs env i (some (.own false (.l xs))) = (pass ms rs (env.set i (.dat (.list xs)))).map (kP (.list xs)) := rfl
theorem pass_slotF {ms : List Bool} {i : Nat} {rs : List R} {env : Env} : pass (false :: ms) (.slot i :: rs) env = psS ms rs env i env[i]? := by
  simp only [pass]
  split
  · rename_i h; rw [h]; rfl
  · rename_i h
    rw [frz_slot]
    cases hq : env[i]? with
    | none => rfl
    | some s =>
      cases s with
      | scr ns => exact absurd hq (h ns)
      | _ => rfl
def noS (i : Nat) (rs : List R) : Bool := rs.all fun r => match r with
  | .slot j => i != j
  | _ => true
def ptS (ms : List Bool) (rs : List R) (env : Env) (i : Nat) : Option Slot → Option (List Slot × Env)
  | some (.own p c) => if noS i rs then (pass ms rs env).map (kPs (.own true c)) else none
  | _ => none
theorem ptS_own {ms : List Bool} {rs : List R} {env : Env} {i : Nat} {p : Bool} {c : C} (h : noS i rs = true) : ptS ms rs env i (some (.own p c)) = (pass ms rs env).map (kPs (.own true c)) := by
  simp only [ptS, if_pos h]
theorem ptS_own0 {ms : List Bool} {env : Env} {i : Nat} {p : Bool} {c : C} : ptS ms [] env i (some (.own p c)) = (pass ms [] env).map (kPs (.own true c)) := ptS_own rfl
theorem pass_slotT {ms : List Bool} {i : Nat} {rs : List R} {env : Env} : pass (true :: ms) (.slot i :: rs) env = ptS ms rs env i env[i]? := by
  simp only [pass]
  cases env[i]? with
  | none => rfl
  | some s =>
    cases s with
    | own p c =>
      simp only [ptS, noS]
      cases pass ms rs env with
      | none => simp
      | some q => simp only [Option.bind_some, Option.map_some]; rfl
    | _ => rfl
theorem noS_nil {i : Nat} : noS i [] = true := rfl
theorem noS_dat {i : Nat} {d : D} {rs : List R} : noS i (.dat d :: rs) = noS i rs := by simp [noS]
theorem noS_new {i : Nat} {d : C} {rs : List R} : noS i (.new d :: rs) = noS i rs := by simp [noS]
theorem noS_slot {i j : Nat} {rs : List R} : noS i (.slot j :: rs) = (i != j && noS i rs) := by simp [noS]
theorem back_nil {env : Env} {os : List Slot} : back [] [] os env = env := by cases os <;> rfl
theorem back_f {ms : List Bool} {r : R} {rs : List R} {o : Slot} {os : List Slot} {env : Env} : back (false :: ms) (r :: rs) (o :: os) env = back ms rs os env := by cases r <;> rfl
theorem back_new {m : Bool} {ms : List Bool} {c : C} {rs : List R} {o : Slot} {os : List Slot} {env : Env} : back (m :: ms) (.new c :: rs) (o :: os) env = back ms rs os env := by cases m <;> rfl
def bkS (ms : List Bool) (rs : List R) (os : List Slot) (env : Env) (i : Nat) (c : C) : Option Slot → Env
  | some (.own p _) => back ms rs os (env.set i (.own p c))
  | _ => back ms rs os env
theorem bkS_own {ms : List Bool} {rs : List R} {os : List Slot} {env : Env} {i : Nat} {c d : C} {p : Bool} : bkS ms rs os env i c (some (.own p d)) = back ms rs os (env.set i (.own p c)) := rfl
theorem back_t {ms : List Bool} {i : Nat} {rs : List R} {p : Bool} {c : C} {os : List Slot} {env : Env} : back (true :: ms) (.slot i :: rs) (.own p c :: os) env = bkS ms rs os env i c env[i]? := by
  simp only [back]
  cases env[i]? with
  | none => rfl
  | some s => cases s <;> rfl
/-! ### built-ins, isinstance -/
def obL (env : Env) (rs : List R) : Option (List Ob) := lookL env rs
def kOb2 (o : Ob) (os : List Ob) : List Ob := o :: os
theorem kOb2_eq {o : Ob} {os : List Ob} : kOb2 o os = o :: os := rfl
def kOb (env : Env) (rs : List R) : Ob → Option (List Ob) := fun o => (lookL env rs).map (kOb2 o)
theorem kOb_eq {env : Env} {rs : List R} {o : Ob} : kOb env rs o = (lookL env rs).map (kOb2 o) := rfl
theorem lookL_nil {env : Env} : lookL env [] = some [] := rfl
theorem lookL_cons {env : Env} {r : R} {rs : List R} : lookL env (r :: rs) = (look env r).bind (kOb env rs) := rfl
def kB2 (f : BI) (e : Env) : List Ob → Option (R × Env) := fun os => (bi f os).map (fst_ e)
theorem kB2_eq {f : BI} {e : Env} {os : List Ob} : kB2 f e os = (bi f os).map (fst_ e) := rfl
def kB (f : BI) : List R × Env → Option (R × Env) := fun p => (lookL p.2 p.1).bind (kB2 f p.2)
theorem kB_eq {f : BI} {rs : List R} {e : Env} : kB f (rs, e) = (lookL e rs).bind (kB2 f e) := rfl
theorem ev_blt {f : BI} {es : EL} {env : Env} : ev T (.blt f es) env = (evL T es env).bind (kB f) := by rw [ev]; rfl
def isiE (tys : List String) (e : Env) (d : D) : R × Env := (.dat (.bool (tys.any (isTy d))), e)
theorem isiE_eq {tys : List String} {e : Env} {d : D} : isiE tys e d = (.dat (.bool (tys.any (isTy d))), e) := rfl
def kIs (tys : List String) : R × Env → Option (R × Env) := fun p => (lookD p.2 p.1).map (isiE tys p.2)
theorem kIs_eq {tys : List String} {r : R} {e : Env} : kIs tys (r, e) = (lookD e r).map (isiE tys e) := rfl
theorem ev_isi {a : E} {tys : List String} {env : Env} : ev T (.isi a tys) env = (ev T a env).bind (kIs tys) := by rw [ev]; rfl
/-! ### comprehensions -/
def lcF (T : Tab) (elt : E) (tg : Tg) (cond : EO) (vs : List Nat) : D → Env → Option (Option D × Env) := fun x env => (asg tg x (wip env vs)).bind fun e1 => (evC T cond e1).bind fun k => if k.1 then (ev T elt k.2).bind fun y => (frz y.2 y.1).map fun z => (some z.1, unwip env z.2 vs) else some (none, unwip env k.2 vs)
def kLcE (e : Env) (lk : Option Nat) (q : List D × Env) : R × Env := (.new (.l q.1), unlock e q.2 lk)
theorem kLcE_eq {e e' : Env} {lk : Option Nat} {ds : List D} : kLcE e lk (ds, e') = (.new (.l ds), unlock e e' lk) := rfl
def kLc (T : Tab) (elt : E) (tg : Tg) (cond : EO) (vs : List Nat) : List D × Option Nat × Env → Option (R × Env) := fun p => if wipOk p.2.2 vs then (lcGo (lcF T elt tg cond vs) p.1 (lock p.2.2 p.2.1)).map (kLcE p.2.2 p.2.1) else none
theorem kLc_eq {elt : E} {tg : Tg} {cond : EO} {vs : List Nat} {xs : List D} {lk : Option Nat} {e : Env} (h : wipOk e vs = true) : kLc T elt tg cond vs (xs, lk, e) = (lcGo (lcF T elt tg cond vs) xs (lock e lk)).map (kLcE e lk) := by
  unfold kLc; rw [if_pos h]
theorem ev_lc {elt : E} {tg : Tg} {src : Src} {cond : EO} {vs : List Nat} {env : Env} : ev T (.lc elt tg src cond vs) env = (evSrc T src env).bind (kLc T elt tg cond vs) := by rw [ev]; rfl
theorem lcGo_nil {f : D → Env → Option (Option D × Env)} {env : Env} : lcGo f [] env = some ([], env) := rfl
def kGoE (o : Option D) (q : List D × Env) : List D × Env := (match o with | some y => y :: q.1 | none => q.1, q.2)
theorem kGoE_some {y : D} {ds : List D} {e : Env} : kGoE (some y) (ds, e) = (y :: ds, e) := rfl
theorem kGoE_none {ds : List D} {e : Env} : kGoE none (ds, e) = (ds, e) := rfl
def kGo (f : D → Env → Option (Option D × Env)) (xs : List D) : Option D × Env → Option (List D × Env) := fun p => (lcGo f xs p.2).map (kGoE p.1)
theorem kGo_eq {f : D → Env → Option (Option D × Env)} {xs : List D} {o : Option D} {e : Env} : kGo f xs (o, e) = (lcGo f xs e).map (kGoE o) := rfl
theorem lcGo_cons {f : D → Env → Option (Option D × Env)} {x : D} {xs : List D} {env : Env} : lcGo f (x :: xs) env = (f x env).bind (kGo f xs) := rfl
theorem evC_no {env : Env} : evC T .no env = some (true, env) := by rw [evC]
theorem evC_so {a : E} {env : Env} : evC T (.so a) env = (ev T a env).bind kTru := by rw [evC]; rfl
def lcF4 (vs : List Nat) (env : Env) (z : D × Env) : Option D × Env := (some z.1, unwip env z.2 vs)
theorem lcF4_eq {vs : List Nat} {env e : Env} {d : D} : lcF4 vs env (d, e) = (some d, unwip env e vs) := rfl
def lcF3 (vs : List Nat) (env : Env) : R × Env → Option (Option D × Env) := fun y => (frz y.2 y.1).map (lcF4 vs env)
theorem lcF3_eq {vs : List Nat} {env e : Env} {r : R} : lcF3 vs env (r, e) = (frz e r).map (lcF4 vs env) := rfl
def lcF2 (T : Tab) (elt : E) (vs : List Nat) (env : Env) : Bool × Env → Option (Option D × Env) := fun k => if k.1 then (ev T elt k.2).bind (lcF3 vs env) else some (none, unwip env k.2 vs)
theorem lcF2_true {elt : E} {vs : List Nat} {env e : Env} : lcF2 T elt vs env (true, e) = (ev T elt e).bind (lcF3 vs env) := rfl
theorem lcF2_false {elt : E} {vs : List Nat} {env e : Env} : lcF2 T elt vs env (false, e) = some (none, unwip env e vs) := rfl
def lcF1 (T : Tab) (elt : E) (cond : EO) (vs : List Nat) (env : Env) : Env → Option (Option D × Env) := fun e => (evC T cond e).bind (lcF2 T elt vs env)
theorem lcF1_eq {elt : E} {cond : EO} {vs : List Nat} {env e : Env} : lcF1 T elt cond vs env e = (evC T cond e).bind (lcF2 T elt vs env) := rfl
theorem lcF_eq {elt : E} {tg : Tg} {cond : EO} {vs : List Nat} {x : D} {env : Env} : lcF T elt tg cond vs x env = (asg tg x (wip env vs)).bind (lcF1 T elt cond vs env) := rfl
/-! ### dicts -/
def dcF (T : Tab) (key val : E) (tg : Tg) (vs : List Nat) : D → Env → Option (D × D × Env) := fun x env => (asg tg x (wip env vs)).bind fun e1 => (ev T key e1).bind fun a => (frz a.2 a.1).bind fun kd => (ev T val kd.2).bind fun b => (frz b.2 b.1).map fun y => (kd.1, y.1, unwip env y.2 vs)
def kDcE (e : Env) (lk : Option Nat) (q : List (D × D) × Env) : R × Env := (.new (.d false q.1), unlock e q.2 lk)
theorem kDcE_eq {e e' : Env} {lk : Option Nat} {ds : List (D × D)} : kDcE e lk (ds, e') = (.new (.d false ds), unlock e e' lk) := rfl
def kDc (T : Tab) (key val : E) (tg : Tg) (vs : List Nat) : List D × Option Nat × Env → Option (R × Env) := fun p => if wipOk p.2.2 vs then (dcGo (dcF T key val tg vs) p.1 (lock p.2.2 p.2.1) []).map (kDcE p.2.2 p.2.1) else none
theorem kDc_eq {key val : E} {tg : Tg} {vs : List Nat} {xs : List D} {lk : Option Nat} {e : Env} (h : wipOk e vs = true) : kDc T key val tg vs (xs, lk, e) = (dcGo (dcF T key val tg vs) xs (lock e lk) []).map (kDcE e lk) := by
  unfold kDc; rw [if_pos h]
theorem ev_dc {key val : E} {tg : Tg} {src : Src} {vs : List Nat} {env : Env} : ev T (.dc key val tg src vs) env = (evSrc T src env).bind (kDc T key val tg vs) := by rw [ev]; rfl
def dcF5 (vs : List Nat) (env : Env) (kd : D) (y : D × Env) : D × D × Env := (kd, y.1, unwip env y.2 vs)
theorem dcF5_eq {vs : List Nat} {env e : Env} {kd d : D} : dcF5 vs env kd (d, e) = (kd, d, unwip env e vs) := rfl
def dcF4 (vs : List Nat) (env : Env) (kd : D) : R × Env → Option (D × D × Env) := fun b => (frz b.2 b.1).map (dcF5 vs env kd)
theorem dcF4_eq {vs : List Nat} {env e : Env} {kd : D} {r : R} : dcF4 vs env kd (r, e) = (frz e r).map (dcF5 vs env kd) := rfl
def dcF3 (T : Tab) (val : E) (vs : List Nat) (env : Env) : D × Env → Option (D × D × Env) := fun kd => (ev T val kd.2).bind (dcF4 vs env kd.1)
theorem dcF3_eq {val : E} {vs : List Nat} {env e : Env} {kd : D} : dcF3 T val vs env (kd, e) = (ev T val e).bind (dcF4 vs env kd) := rfl
def dcF2 (T : Tab) (val : E) (vs : List Nat) (env : Env) : R × Env → Option (D × D × Env) := fun a => (frz a.2 a.1).bind (dcF3 T val vs env)
theorem dcF2_eq {val : E} {vs : List Nat} {env e : Env} {r : R} : dcF2 T val vs env (r, e) = (frz e r).bind (dcF3 T val vs env) := rfl
def dcF1 (T : Tab) (key val : E) (vs : List Nat) (env : Env) : Env → Option (D × D × Env) := fun e => (ev T key e).bind (dcF2 T val vs env)
theorem dcF1_eq {key val : E} {vs : List Nat} {env e : Env} : dcF1 T key val vs env e = (ev T key e).bind (dcF2 T val vs env) := rfl
theorem dcF_eq {key val : E} {tg : Tg} {vs : List Nat} {x : D} {env : Env} : dcF T key val tg vs x env = (asg tg x (wip env vs)).bind (dcF1 T key val vs env) := rfl
theorem ev_dnew {env : Env} : ev T .dnew env = some (.new (.d false []), env) := by rw [ev]
def gtO : Option Ob → Option D → D → Option R
  | some (.k false kvs), some kd, x => if dkOk false kd then some (.dat ((dget kvs kd).getD x)) else none
  | _, _, _ => none
theorem gtO_eq {kvs : List (D × D)} {kd x : D} (h : dkOk false kd = true) : gtO (some (.k false kvs)) (some kd) x = some (.dat ((dget kvs kd).getD x)) := by simp only [gtO, h, if_true]
def kGt3 (r q : R) : D × Env → Option (R × Env) := fun w => (gtO (look w.2 r) (lookD w.2 q) w.1).map (fst_ w.2)
theorem kGt3_eq {r q : R} {d : D} {e : Env} : kGt3 r q (d, e) = (gtO (look e r) (lookD e q) d).map (fst_ e) := rfl
def kGt2 (r q : R) : R × Env → Option (R × Env) := fun z => (frz z.2 z.1).bind (kGt3 r q)
theorem kGt2_eq {r q z : R} {e : Env} : kGt2 r q (z, e) = (frz e z).bind (kGt3 r q) := rfl
def kGt1 (T : Tab) (x : E) (r : R) : R × Env → Option (R × Env) := fun q => (ev T x q.2).bind (kGt2 r q.1)
theorem kGt1_eq {x : E} {r q : R} {e : Env} : kGt1 T x r (q, e) = (ev T x e).bind (kGt2 r q) := rfl
def kGt (T : Tab) (k x : E) : R × Env → Option (R × Env) := fun p => if isDic (look p.2 p.1) then (ev T k p.2).bind (kGt1 T x p.1) else none
theorem kGt_eq {k x : E} {r : R} {e : Env} (h : isDic (look e r) = true) : kGt T k x (r, e) = (ev T k e).bind (kGt1 T x r) := by unfold kGt; rw [if_pos h]
theorem isDic_k {kvs : List (D × D)} : isDic (some (.k false kvs)) = true := rfl
theorem ev_getD {d k x : E} {env : Env} : ev T (.getD d k x) env = (ev T d env).bind (kGt T k x) := by
  rw [ev]
  congr 1; funext p
  unfold kGt
  congr 1
  congr 1; funext q
  unfold kGt1
  congr 1; funext z
  unfold kGt2
  congr 1; funext w
  unfold kGt3
  cases look w.2 p.1 with
  | none => rfl
  | some o =>
    cases lookD w.2 q.1 with
    | none => cases o <;> first | rfl | (rename_i t _; cases t <;> rfl)
    | some kd =>
      cases o with
      | d _ => rfl
      | s _ => rfl
      | k t kvs =>
        cases t with
        | true => rfl
        | false =>
          show (if dkOk false kd = true then _ else _) = Option.map _ (if dkOk false kd = true then _ else _)
          split <;> rfl
def l2F (T : Tab) (elt : E) (tg tg1 : Tg) (d1 : E) (vs vs1 : List Nat) : D → Env → Option (List D × Env) := fun x env => (asg tg x (wip env vs)).bind fun e1 => (ev T d1 e1).bind fun p1 => (match p1.1 with
        | .dat (.list xs) => if wipOk p1.2 vs1 then
          (lcGo (fun x env => (asg tg1 x (wip env vs1)).bind fun e1 => (ev T elt e1).bind fun y => (frz y.2 y.1).map fun z => (some z.1, unwip env z.2 vs1)) xs p1.2).map fun q => (q.1, unwip env q.2 vs) else none
        | _ => none)
def kL2e (e : Env) (lk : Option Nat) : List D × Env → Option (R × Env) := fun q => if q.1.length ≤ 100000 then some (.new (.l q.1), unlock e q.2 lk) else none
theorem kL2e_eq {e e' : Env} {lk : Option Nat} {ds : List D} (h : ds.length ≤ 100000) : kL2e e lk (ds, e') = some (.new (.l ds), unlock e e' lk) := by unfold kL2e; rw [if_pos h]
def kL2 (T : Tab) (elt : E) (tg tg1 : Tg) (d1 : E) (vs vs1 : List Nat) : List D × Option Nat × Env → Option (R × Env) := fun p => if wipOk p.2.2 vs then (lc2Go (l2F T elt tg tg1 d1 vs vs1) p.1 (lock p.2.2 p.2.1)).bind (kL2e p.2.2 p.2.1) else none
theorem kL2_eq {elt d1 : E} {tg tg1 : Tg} {vs vs1 : List Nat} {xs : List D} {lk : Option Nat} {e : Env} (h : wipOk e vs = true) : kL2 T elt tg tg1 d1 vs vs1 (xs, lk, e) = (lc2Go (l2F T elt tg tg1 d1 vs vs1) xs (lock e lk)).bind (kL2e e lk) := by unfold kL2; rw [if_pos h]
theorem ev_lc2 {elt d1 : E} {tg tg1 : Tg} {src : Src} {vs vs1 : List Nat} {env : Env} : ev T (.lc2 elt tg src tg1 d1 vs vs1) env = (evSrc T src env).bind (kL2 T elt tg tg1 d1 vs vs1) := by rw [ev]; rfl
def l2F3 (vs : List Nat) (env : Env) (q : List D × Env) : List D × Env := (q.1, unwip env q.2 vs)
theorem l2F3_eq {vs : List Nat} {env e : Env} {ds : List D} : l2F3 vs env (ds, e) = (ds, unwip env e vs) := rfl
def l2F2 (T : Tab) (elt : E) (tg1 : Tg) (vs vs1 : List Nat) (env : Env) : R × Env → Option (List D × Env) := fun p1 => match p1.1 with
  | .dat (.list xs) => if wipOk p1.2 vs1 then (lcGo (lcF T elt tg1 .no vs1) xs p1.2).map (l2F3 vs env) else none
  | _ => none
theorem l2F2_eq {elt : E} {tg1 : Tg} {vs vs1 : List Nat} {env e : Env} {xs : List D} (h : wipOk e vs1 = true) : l2F2 T elt tg1 vs vs1 env (.dat (.list xs), e) = (lcGo (lcF T elt tg1 .no vs1) xs e).map (l2F3 vs env) := by simp only [l2F2, if_pos h]
def l2F1 (T : Tab) (elt : E) (tg1 : Tg) (d1 : E) (vs vs1 : List Nat) (env : Env) : Env → Option (List D × Env) := fun e => (ev T d1 e).bind (l2F2 T elt tg1 vs vs1 env)
theorem l2F1_eq {elt d1 : E} {tg1 : Tg} {vs vs1 : List Nat} {env e : Env} : l2F1 T elt tg1 d1 vs vs1 env e = (ev T d1 e).bind (l2F2 T elt tg1 vs vs1 env) := rfl
theorem lcF_no {elt : E} {tg : Tg} {vs : List Nat} : lcF T elt tg .no vs = fun x env => (asg tg x (wip env vs)).bind fun e1 => (ev T elt e1).bind fun y => (frz y.2 y.1).map fun z => (some z.1, unwip env z.2 vs) := by
  funext x env
  unfold lcF
  simp only [evC]
  rfl
theorem l2F_eq {elt d1 : E} {tg tg1 : Tg} {vs vs1 : List Nat} {x : D} {env : Env} : l2F T elt tg tg1 d1 vs vs1 x env = (asg tg x (wip env vs)).bind (l2F1 T elt tg1 d1 vs vs1 env) := by
  unfold l2F l2F1 l2F2
  rw [lcF_no]
  rfl
def kL2g2 (ys : List D) (q : List D × Env) : List D × Env := (ys ++ q.1, q.2)
theorem kL2g2_eq {ys zs : List D} {e : Env} : kL2g2 ys (zs, e) = (ys ++ zs, e) := rfl
def kL2g (f : D → Env → Option (List D × Env)) (xs : List D) : List D × Env → Option (List D × Env) := fun p => (lc2Go f xs p.2).map (kL2g2 p.1)
theorem kL2g_eq {f : D → Env → Option (List D × Env)} {xs ys : List D} {e : Env} : kL2g f xs (ys, e) = (lc2Go f xs e).map (kL2g2 ys) := rfl
theorem lc2Go_nil {f : D → Env → Option (List D × Env)} {env : Env} : lc2Go f [] env = some ([], env) := rfl
theorem lc2Go_cons {f : D → Env → Option (List D × Env)} {x : D} {xs : List D} {env : Env} : lc2Go f (x :: xs) env = (f x env).bind (kL2g f xs) := rfl
def kSq2 (r : R) (e : Env) (xs : List D) : List D × Option Nat × Env := (xs, lockS e r, e)
theorem kSq2_eq {r : R} {e : Env} {xs : List D} : kSq2 r e xs = (xs, lockS e r, e) := rfl
def kSq1 (r : R) (e : Env) : Ob → Option (List D × Option Nat × Env) := fun o => (seqOf o).map (kSq2 r e)
theorem kSq1_eq {r : R} {e : Env} {o : Ob} : kSq1 r e o = (seqOf o).map (kSq2 r e) := rfl
def kSq : R × Env → Option (List D × Option Nat × Env) := fun p => (look p.2 p.1).bind (kSq1 p.1 p.2)
theorem kSq_eq {r : R} {e : Env} : kSq (r, e) = (look e r).bind (kSq1 r e) := rfl
theorem evSrc_seq {a : E} {env : Env} : evSrc T (.seq a) env = (ev T a env).bind kSq := by rw [evSrc]; rfl
def rngE (e : Env) : D → Option (List D × Option Nat × Env)
  | .int n => if 0 ≤ n ∧ n ≤ 1000000 then some ((List.range n.toNat).map (fun k => .int (Int.ofNat k)), none, e) else none
  | _ => none
theorem rngE_eq {e : Env} {n : Int} (h : 0 ≤ n ∧ n ≤ 1000000) : rngE e (.int n) = some ((List.range n.toNat).map (fun k => .int (Int.ofNat k)), none, e) := by simp only [rngE, if_pos h]
def kRg : R × Env → Option (List D × Option Nat × Env) := fun p => (lookD p.2 p.1).bind (rngE p.2)
theorem kRg_eq {r : R} {e : Env} : kRg (r, e) = (lookD e r).bind (rngE e) := rfl
theorem evSrc_rng {a : E} {env : Env} : evSrc T (.rng a) env = (ev T a env).bind kRg := by
  rw [evSrc]
  rfl
def enumE (r : R) (e : Env) : D → Option (List D × Option Nat × Env)
  | .list xs => some (enumD 0 xs, lockS e r, e)
  | _ => none
theorem enumE_eq {r : R} {e : Env} {xs : List D} : enumE r e (.list xs) = some (enumD 0 xs, lockS e r, e) := rfl
def kEn : R × Env → Option (List D × Option Nat × Env) := fun p => (lookD p.2 p.1).bind (enumE p.1 p.2)
theorem kEn_eq {r : R} {e : Env} : kEn (r, e) = (lookD e r).bind (enumE r e) := rfl
theorem evSrc_enum {a : E} {env : Env} : evSrc T (.enum a) env = (ev T a env).bind kEn := by
  rw [evSrc]
  rfl
def kZ4 (x : D) : D × Env → Option (List D × Option Nat × Env) := fun y => match x, y.1 with
  | .list xs, .list ys => some (zipD xs ys, none, y.2)
  | .tuple xs, .tuple ys => some (zipD xs ys, none, y.2)
  | .tuple xs, .list ys => some (zipD xs ys, none, y.2)
  | _, _ => none
theorem kZ4_l {xs ys : List D} {e : Env} : kZ4 (.list xs) (.list ys, e) = some (zipD xs ys, none, e) := rfl
theorem kZ4_m {xs ys : List D} {e : Env} : kZ4 (.tuple xs) (.list ys, e) = some (zipD xs ys, none, e) := rfl
theorem kZ4_t {xs ys : List D} {e : Env} : kZ4 (.tuple xs) (.tuple ys, e) = some (zipD xs ys, none, e) := rfl
def kZ3 (q : R) : D × Env → Option (List D × Option Nat × Env) := fun x => (frz x.2 q).bind (kZ4 x.1)
theorem kZ3_eq {q : R} {x : D} {e : Env} : kZ3 q (x, e) = (frz e q).bind (kZ4 x) := rfl
def kZ2 (r : R) : R × Env → Option (List D × Option Nat × Env) := fun q => (frz q.2 r).bind (kZ3 q.1)
theorem kZ2_eq {r q : R} {e : Env} : kZ2 r (q, e) = (frz e r).bind (kZ3 q) := rfl
def kZ1 (T : Tab) (b : E) : R × Env → Option (List D × Option Nat × Env) := fun p => (ev T b p.2).bind (kZ2 p.1)
theorem kZ1_eq {b : E} {r : R} {e : Env} : kZ1 T b (r, e) = (ev T b e).bind (kZ2 r) := rfl
theorem evSrc_zip {a b : E} {env : Env} : evSrc T (.zip a b) env = (ev T a env).bind (kZ1 T b) := by rw [evSrc]; rfl
def kY4 (x : D) : D × Env → Option (R × Env) := fun y => match x, y.1 with
  | .list xs, .list ys => some (.new (.l (zipD xs ys)), y.2)
  | _, _ => none
theorem kY4_eq {xs ys : List D} {e : Env} : kY4 (.list xs) (.list ys, e) = some (.new (.l (zipD xs ys)), e) := rfl
def kY3 (q : R) : D × Env → Option (R × Env) := fun x => (frz x.2 q).bind (kY4 x.1)
theorem kY3_eq {q : R} {x : D} {e : Env} : kY3 q (x, e) = (frz e q).bind (kY4 x) := rfl
def kY2 (r : R) : R × Env → Option (R × Env) := fun q => (frz q.2 r).bind (kY3 q.1)
theorem kY2_eq {r q : R} {e : Env} : kY2 r (q, e) = (frz e r).bind (kY3 q) := rfl
def kY1 (T : Tab) (b : E) : R × Env → Option (R × Env) := fun p => (ev T b p.2).bind (kY2 p.1)
theorem kY1_eq {b : E} {r : R} {e : Env} : kY1 T b (r, e) = (ev T b e).bind (kY2 r) := rfl
theorem ev_lzip {a b : E} {env : Env} : ev T (.lzip a b) env = (ev T a env).bind (kY1 T b) := by rw [ev]; rfl
/-! ### statements -/
def setE (i : Nat) : Slot × Env → Option (Fl × Env) := fun q => if freeS q.2 i then some (.nx, q.2.set i q.1) else none
theorem setE_eq {i : Nat} {s : Slot} {e : Env} (h : freeS e i = true) : setE i (s, e) = some (.nx, e.set i s) := by unfold setE; rw [if_pos h]
def kSet (i : Nat) (own : Bool) : R × Env → Option (Fl × Env) := fun p => (nrm own p.2 p.1).bind (setE i)
theorem kSet_eq {i : Nat} {own : Bool} {r : R} {e : Env} : kSet i own (r, e) = (nrm own e r).bind (setE i) := rfl
variable {fu : Nat}
theorem ex_set {i : Nat} {own : Bool} {a : E} {env : Env} : ex T fu (.set i own a) env = (ev T a env).bind (kSet i own) := by rw [ex]; rfl
def datS (p : D × Env) : Slot × Env := (.dat p.1, p.2)
theorem datS_eq {d : D} {e : Env} : datS (d, e) = (.dat d, e) := rfl
theorem nrm_t {e : Env} {c : C} : nrm true e (.new c) = some (.own false c, e) := rfl
theorem nrm_fd {e : Env} {d : D} : nrm false e (.dat d) = some (.dat d, e) := rfl
theorem nrm_fl {e : Env} {xs : List D} : nrm false e (.new (.l xs)) = some (.dat (.list xs), e) := rfl
theorem nrm_fk {e : Env} {t : Bool} {kvs : List (D × D)} : nrm false e (.new (.d t kvs)) = some (.own false (.d t kvs), e) := rfl
theorem nrm_fs {e : Env} {i : Nat} : nrm false e (.slot i) = (frz e (.slot i)).map datS := rfl
def kN2 (s : Slot) (q : List Slot × Env) : List Slot × Env := (s :: q.1, q.2)
theorem kN2_eq {s : Slot} {ss : List Slot} {e : Env} : kN2 s (ss, e) = (s :: ss, e) := rfl
def kN (os : List Bool) (rs : List R) : Slot × Env → Option (List Slot × Env) := fun p => (nrmL os rs p.2).map (kN2 p.1)
theorem kN_eq {os : List Bool} {rs : List R} {s : Slot} {e : Env} : kN os rs (s, e) = (nrmL os rs e).map (kN2 s) := rfl
theorem nrmL_nil {env : Env} : nrmL [] [] env = some ([], env) := rfl
theorem nrmL_cons {o : Bool} {os : List Bool} {r : R} {rs : List R} {env : Env} : nrmL (o :: os) (r :: rs) env = (nrm o env r).bind (kN os rs) := rfl
theorem putL_nil {env : Env} : putL [] [] env = some env := rfl
theorem putL_cons {i : Nat} {is : List Nat} {s : Slot} {ss : List Slot} {env : Env} (h : freeS env i = true) : putL (i :: is) (s :: ss) env = putL is ss (env.set i s) := by rw [putL, if_pos h]
def nxE (e : Env) : Fl × Env := (.nx, e)
theorem nxE_eq {e : Env} : nxE e = (.nx, e) := rfl
def kPr2 (is : List Nat) : List Slot × Env → Option (Fl × Env) := fun q => if is.Nodup then (putL is q.1 q.2).map nxE else none
theorem kPr2_eq {is : List Nat} {ss : List Slot} {e : Env} (h : is.Nodup) : kPr2 is (ss, e) = (putL is ss e).map nxE := by unfold kPr2; rw [if_pos h]
def kPr (is : List Nat) (os : List Bool) : List R × Env → Option (Fl × Env) := fun p => (nrmL os p.1 p.2).bind (kPr2 is)
theorem kPr_eq {is : List Nat} {os : List Bool} {rs : List R} {e : Env} : kPr is os (rs, e) = (nrmL os rs e).bind (kPr2 is) := rfl
theorem ex_par {is : List Nat} {os : List Bool} {es : EL} {env : Env} : ex T fu (.par is os es) env = (evL T es env).bind (kPr is os) := by rw [ex]; rfl
def kU2 (tg : Tg) : D × Env → Option (Fl × Env) := fun q => (asg tg q.1 q.2).map nxE
theorem kU2_eq {tg : Tg} {d : D} {e : Env} : kU2 tg (d, e) = (asg tg d e).map nxE := rfl
def kU (tg : Tg) : R × Env → Option (Fl × Env) := fun p => (frz p.2 p.1).bind (kU2 tg)
theorem kU_eq {tg : Tg} {r : R} {e : Env} : kU tg (r, e) = (frz e r).bind (kU2 tg) := rfl
theorem ex_unp {tg : Tg} {a : E} {env : Env} : ex T fu (.unp tg a) env = (ev T a env).bind (kU tg) := by rw [ex]; rfl
theorem asg_nm {i : Nat} {d : D} {e : Env} (h : freeS e i = true) : asg (.nm i) d e = some (e.set i (.dat d)) := by rw [asg, if_pos h]
theorem asg_tp {ts : List Nat} {ds : List D} {e : Env} : asg (.tp ts) (.tuple ds) e = asgN ts ds e := rfl
def kPp (c d : Nat) (ys : List D) : Env → Option Env := fun e => asgN [c, d] ys e
theorem kPp_eq {c d : Nat} {ys : List D} {e : Env} : kPp c d ys e = asgN [c, d] ys e := rfl
def kNp (c d : Nat) (ys : List D) : Env → Option Env := fun e => asgN [c, d] ys e
theorem kNp_eq {c d : Nat} {ys : List D} {e : Env} : kNp c d ys e = asgN [c, d] ys e := rfl
theorem asg_npE {a c d : Nat} {x : D} {ys : List D} {e : Env} : asg (.np a c d) (.tuple [x, .tuple ys]) e = (asgN [a] [x] e).bind (kNp c d ys) := rfl
theorem asg_ppE {a b c d : Nat} {xs ys : List D} {e : Env} : asg (.pp a b c d) (.tuple [.tuple xs, .tuple ys]) e = (asgN [a, b] xs e).bind (kPp c d ys) := rfl
theorem asgN_nil {e : Env} : asgN [] [] e = some e := rfl
theorem asgN_cons {i : Nat} {is : List Nat} {d : D} {ds : List D} {e : Env} (h : freeS e i = true) : asgN (i :: is) (d :: ds) e = asgN is ds (e.set i (.dat d)) := by rw [asgN, if_pos h]
def kSb3 (i : Nat) (v : D) (e : Env) : D → Option (Fl × Env) := fun kd => match e[i]? with
  | some (.own p (.l xs)) => (match kd with
    | .int j => (L2.ixN xs.length j).map fun n => (.nx, e.set i (.own p (.l (xs.set n v))))
    | _ => none)
  | some (.own p (.d t kvs)) => if !t && dkOk t kd && decide (kvs.length < sizeLine) then some (.nx, e.set i (.own p (.d t (dput kvs kd v)))) else none
  | _ => none
theorem kSb3_l {i : Nat} {v : D} {e : Env} {p : Bool} {xs : List D} {j : Int} {n : Nat} (h : e[i]? = some (.own p (.l xs))) (hn : L2.ixN xs.length j = some n) : kSb3 i v e (.int j) = some (.nx, e.set i (.own p (.l (xs.set n v)))) := by
  unfold kSb3; rw [h]; simp only [hn, Option.map_some]
theorem kSb3_d {i : Nat} {v kd : D} {e : Env} {p : Bool} {kvs : List (D × D)} (h : e[i]? = some (.own p (.d false kvs))) (hk : dkOk false kd = true) (hz : kvs.length < sizeLine) : kSb3 i v e kd = some (.nx, e.set i (.own p (.d false (dput kvs kd v)))) := by
  unfold kSb3; rw [h]; simp only [hk, hz, decide_true, Bool.not_false, Bool.and_self, if_true]
def kSb2 (i : Nat) (v : D) : R × Env → Option (Fl × Env) := fun k => (lookD k.2 k.1).bind (kSb3 i v k.2)
theorem kSb2_eq {i : Nat} {v : D} {r : R} {e : Env} : kSb2 i v (r, e) = (lookD e r).bind (kSb3 i v e) := rfl
def kSb1 (T : Tab) (i : Nat) (ix : E) : D × Env → Option (Fl × Env) := fun v => if ownS v.2 i then (ev T ix v.2).bind (kSb2 i v.1) else none
theorem kSb1_eq {i : Nat} {ix : E} {v : D} {e : Env} (h : ownS e i = true) : kSb1 T i ix (v, e) = (ev T ix e).bind (kSb2 i v) := by unfold kSb1; rw [if_pos h]
def kSb (T : Tab) (i : Nat) (ix : E) : R × Env → Option (Fl × Env) := fun p => (frz p.2 p.1).bind (kSb1 T i ix)
theorem kSb_eq {i : Nat} {ix : E} {r : R} {e : Env} : kSb T i ix (r, e) = (frz e r).bind (kSb1 T i ix) := rfl
theorem ex_sub {i : Nat} {ix a : E} {env : Env} : ex T fu (.sub i ix a) env = (ev T a env).bind (kSb T i ix) := by rw [ex]; rfl
def kAp2 (i : Nat) : D × Env → Option (Fl × Env) := fun v => match v.2[i]? with
  | some (.own p (.l xs)) => if xs.length < sizeLine then some (.nx, v.2.set i (.own p (.l (xs ++ [v.1])))) else none
  | _ => none
theorem kAp2_eq {i : Nat} {v : D} {e : Env} {p : Bool} {xs : List D} (h : e[i]? = some (.own p (.l xs))) (hz : xs.length < sizeLine) : kAp2 i (v, e) = some (.nx, e.set i (.own p (.l (xs ++ [v])))) := by
  unfold kAp2; simp only [h, if_pos hz]
def kAp (i : Nat) : R × Env → Option (Fl × Env) := fun p => (frz p.2 p.1).bind (kAp2 i)
theorem kAp_eq {i : Nat} {r : R} {e : Env} : kAp i (r, e) = (frz e r).bind (kAp2 i) := rfl
theorem ex_app {i : Nat} {a : E} {env : Env} (h : ownL env i = true) : ex T fu (.app i a) env = (ev T a env).bind (kAp i) := by rw [ex, if_pos h]; rfl
def kIn4 (i : Nat) (d : D) (e : Env) : D → Option (Fl × Env) := fun kd => match e[i]?, kd with
  | some (.own p (.l xs)), .int j => if decide (0 ≤ j) && decide (j ≤ xs.length) && decide (xs.length < sizeLine) then some (.nx, e.set i (.own p (.l (xs.take j.toNat ++ d :: xs.drop j.toNat)))) else none
  | _, _ => none
theorem kIn4_eq {i : Nat} {d : D} {e : Env} {p : Bool} {xs : List D} {j : Int} (h : e[i]? = some (.own p (.l xs))) (h0 : 0 ≤ j) (h1 : j ≤ xs.length) (h2 : xs.length < sizeLine) : kIn4 i d e (.int j) = some (.nx, e.set i (.own p (.l (xs.take j.toNat ++ d :: xs.drop j.toNat)))) := by
  unfold kIn4; simp only [h, h0, h1, h2, decide_true, Bool.and_self, if_true]
def kIn3 (i : Nat) (k : R) : D × Env → Option (Fl × Env) := fun v => (lookD v.2 k).bind (kIn4 i v.1 v.2)
theorem kIn3_eq {i : Nat} {k : R} {d : D} {e : Env} : kIn3 i k (d, e) = (lookD e k).bind (kIn4 i d e) := rfl
def kIn2 (i : Nat) (k : R) : R × Env → Option (Fl × Env) := fun p => (frz p.2 p.1).bind (kIn3 i k)
theorem kIn2_eq {i : Nat} {k r : R} {e : Env} : kIn2 i k (r, e) = (frz e r).bind (kIn3 i k) := rfl
def kIn (T : Tab) (i : Nat) (a : E) : R × Env → Option (Fl × Env) := fun k => (ev T a k.2).bind (kIn2 i k.1)
theorem kIn_eq {i : Nat} {a : E} {k : R} {e : Env} : kIn T i a (k, e) = (ev T a e).bind (kIn2 i k) := rfl
theorem ex_ins {i : Nat} {k a : E} {env : Env} (h : ownL env i = true) : ex T fu (.ins i k a) env = (ev T k env).bind (kIn T i a) := by
  rw [ex, if_pos h]
  congr 1
def exE (p : R × Env) : Fl × Env := (.nx, p.2)
theorem exE_eq {r : R} {e : Env} : exE (r, e) = (.nx, e) := rfl
theorem ex_expr {a : E} {env : Env} : ex T fu (.expr a) env = (ev T a env).map exE := by rw [ex]; rfl
def rtE (p : R × Env) : Fl × Env := (.rt p.1, p.2)
theorem rtE_eq {r : R} {e : Env} : rtE (r, e) = (.rt r, e) := rfl
theorem ex_ret {a : E} {env : Env} : ex T fu (.ret a) env = (ev T a env).map rtE := by rw [ex]; rfl
def kIf2 (T : Tab) (fu : Nat) (a b : SL) (e : Env) : Bool → Option (Fl × Env) := fun k => if k then exL T fu a e else exL T fu b e
theorem kIf2_true {a b : SL} {e : Env} : kIf2 T fu a b e true = exL T fu a e := rfl
theorem kIf2_false {a b : SL} {e : Env} : kIf2 T fu a b e false = exL T fu b e := rfl
def kIf (T : Tab) (fu : Nat) (a b : SL) : R × Env → Option (Fl × Env) := fun p => (truR p.2 p.1).bind (kIf2 T fu a b p.2)
theorem kIf_eq {a b : SL} {r : R} {e : Env} : kIf T fu a b (r, e) = (truR e r).bind (kIf2 T fu a b e) := rfl
theorem ex_ite {c : E} {a b : SL} {env : Env} : ex T fu (.ite c a b) env = (ev T c env).bind (kIf T fu a b) := by rw [ex]; rfl
def kWp (fg : List Nat) (q : Fl × Env) : Fl × Env := (q.1, wip q.2 fg)
theorem kWp_eq {fg : List Nat} {f : Fl} {e : Env} : kWp fg (f, e) = (f, wip e fg) := rfl
def stG (T : Tab) (fu : Nat) (fg : List Nat) (body : SL) : Env → Option (Fl × Env) := fun env => (exL T fu body env).map (kWp fg)
theorem stG_eq {fg : List Nat} {body : SL} {env : Env} : stG T fu fg body env = (exL T fu body env).map (kWp fg) := rfl
def stF (T : Tab) (fu : Nat) (tg : Tg) (fg : List Nat) (body : SL) : D → Env → Option (Fl × Env) := fun x env => (asg tg x env).bind (stG T fu fg body)
theorem stF_eq {tg : Tg} {fg : List Nat} {body : SL} {x : D} {env : Env} : stF T fu tg fg body x env = (asg tg x env).bind (stG T fu fg body) := rfl
def kFo2 (e : Env) (lk : Option Nat) (q : Fl × Env) : Fl × Env := (q.1, unlock e q.2 lk)
theorem kFo2_eq {e e' : Env} {lk : Option Nat} {f : Fl} : kFo2 e lk (f, e') = (f, unlock e e' lk) := rfl
def kFo (T : Tab) (fu : Nat) (tg : Tg) (fg : List Nat) (body : SL) : List D × Option Nat × Env → Option (Fl × Env) := fun p => (forGo (stF T fu tg fg body) p.1 (wip (lock p.2.2 p.2.1) fg)).map (kFo2 p.2.2 p.2.1)
theorem kFo_eq {tg : Tg} {fg : List Nat} {body : SL} {xs : List D} {lk : Option Nat} {e : Env} : kFo T fu tg fg body (xs, lk, e) = (forGo (stF T fu tg fg body) xs (wip (lock e lk) fg)).map (kFo2 e lk) := rfl
theorem ex_for {tg : Tg} {src : Src} {body : SL} {fg : List Nat} {env : Env} : ex T fu (.for_ tg src body fg) env = (evSrc T src env).bind (kFo T fu tg fg body) := by rw [ex]; rfl
def whC (T : Tab) (c : E) : Env → Option (Bool × Env) := fun env => (ev T c env).bind kTru
theorem whC_eq {c : E} {env : Env} : whC T c env = (ev T c env).bind kTru := rfl
theorem ex_whl {c : E} {body : SL} {fg : List Nat} {env : Env} : ex T fu (.whl c body fg) env = whlGo (whC T c) (stG T fu fg body) fu (wip env fg) := by rw [ex]; rfl
def kWh (c : Env → Option (Bool × Env)) (st : Env → Option (Fl × Env)) (n : Nat) : Fl × Env → Option (Fl × Env) := fun p => match p.1 with
  | .nx => whlGo c st n p.2
  | .rt r => some (.rt r, p.2)
theorem kWh_nx {c : Env → Option (Bool × Env)} {st : Env → Option (Fl × Env)} {n : Nat} {e : Env} : kWh c st n (.nx, e) = whlGo c st n e := rfl
theorem kWh_rt {c : Env → Option (Bool × Env)} {st : Env → Option (Fl × Env)} {n : Nat} {e : Env} {r : R} : kWh c st n (.rt r, e) = some (.rt r, e) := rfl
def kW1 (c : Env → Option (Bool × Env)) (st : Env → Option (Fl × Env)) (n : Nat) : Bool × Env → Option (Fl × Env) := fun k => if k.1 then (st k.2).bind (kWh c st n) else some (.nx, k.2)
theorem kW1_t {c : Env → Option (Bool × Env)} {st : Env → Option (Fl × Env)} {n : Nat} {e : Env} : kW1 c st n (true, e) = (st e).bind (kWh c st n) := rfl
theorem kW1_f {c : Env → Option (Bool × Env)} {st : Env → Option (Fl × Env)} {n : Nat} {e : Env} : kW1 c st n (false, e) = some (.nx, e) := rfl
theorem whlGo_succ {c : Env → Option (Bool × Env)} {st : Env → Option (Fl × Env)} {n : Nat} {e : Env} : whlGo c st (n + 1) e = (c e).bind (kW1 c st n) := rfl
theorem forGo_nil {st : D → Env → Option (Fl × Env)} {env : Env} : forGo st [] env = some (.nx, env) := rfl
def kFg (st : D → Env → Option (Fl × Env)) (xs : List D) : Fl × Env → Option (Fl × Env) := fun p => match p.1 with
  | .nx => forGo st xs p.2
  | .rt r => some (.rt r, p.2)
theorem kFg_nx {st : D → Env → Option (Fl × Env)} {xs : List D} {e : Env} : kFg st xs (.nx, e) = forGo st xs e := rfl
theorem kFg_rt {st : D → Env → Option (Fl × Env)} {xs : List D} {e : Env} {r : R} : kFg st xs (.rt r, e) = some (.rt r, e) := rfl
theorem forGo_cons {st : D → Env → Option (Fl × Env)} {x : D} {xs : List D} {env : Env} : forGo st (x :: xs) env = (st x env).bind (kFg st xs) := rfl
def kXs (T : Tab) (fu : Nat) (r : SL) : Fl × Env → Option (Fl × Env) := fun p => match p.1 with
  | .nx => exL T fu r p.2
  | .rt r => some (.rt r, p.2)
theorem kXs_nx {r : SL} {e : Env} : kXs T fu r (.nx, e) = exL T fu r e := rfl
theorem kXs_rt {r : SL} {e : Env} {v : R} : kXs T fu r (.rt v, e) = some (.rt v, e) := rfl
theorem exL_nil {env : Env} : exL T fu .nil env = some (.nx, env) := by rw [exL]
theorem exL_cons {s : S} {r : SL} {env : Env} : exL T fu (.cons s r) env = (ex T fu s env).bind (kXs T fu r) := by rw [exL]; rfl
def kRun2 (as : List Slot) (e : Env) (r : R) : R × List Slot := (r, outs as e)
theorem kRun2_eq {as : List Slot} {e : Env} {r : R} : kRun2 as e r = (r, outs as e) := rfl
def kRun (as : List Slot) : Fl × Env → Option (R × List Slot) := fun p => match p.1 with
  | .nx => some (.dat .none, outs as p.2)
  | .rt r => (fin p.2 r).map (kRun2 as p.2)
theorem kRun_nx {as : List Slot} {e : Env} : kRun as (.nx, e) = some (.dat .none, outs as e) := rfl
theorem kRun_rt {as : List Slot} {e : Env} {r : R} : kRun as (.rt r, e) = (fin e r).map (kRun2 as e) := rfl
theorem run_eq {n : Nat} {body : SL} {as : List Slot} : run T fu n body as = (exL T fu body (as ++ List.replicate n .no)).bind (kRun as) := rfl
theorem fin_dat {e : Env} {d : D} : fin e (.dat d) = some (.dat d) := rfl
theorem fin_new {e : Env} {c : C} : fin e (.new c) = some (.new c) := rfl
def finS : Option Slot → Option R
  | some (.dat d) => some (.dat d)
  | some (.own false c) => some (.new c)
  | _ => none
theorem finS_dat {d : D} : finS (some (.dat d)) = some (.dat d) := rfl
theorem finS_own {c : C} : finS (some (.own false c)) = some (.new c) := rfl
theorem fin_slot {e : Env} {i : Nat} : fin e (.slot i) = finS e[i]? := by
  simp only [fin]
  cases e[i]? with
  | none => rfl
  | some s =>
    cases s with
    | own p c => cases p <;> rfl
    | _ => rfl
theorem outs_nil {e : Env} : outs [] e = [] := by cases e <;> rfl
theorem outs_cons {s t : Slot} {as : List Slot} {e : Env} : outs (s :: as) (t :: e) = (if s.par then t else .no) :: outs as e := rfl
theorem par_dat {d : D} : Slot.par (.dat d) = false := rfl
theorem par_own {p : Bool} {c : C} : Slot.par (.own p c) = p := by cases p <;> rfl
theorem par_scr {ns : List Int} : Slot.par (.scr ns) = true := rfl
theorem par_no : Slot.par .no = false := rfl
def frS : Option Slot → Bool
  | some s => !s.par
  | none => false
theorem freeS_eq {env : Env} {i : Nat} : freeS env i = frS env[i]? := by
  unfold freeS frS; cases env[i]? <;> rfl
theorem frS_eq {s : Slot} : frS (some s) = !s.par := rfl
def owS : Option Slot → Bool
  | some (.own _ _) => true
  | _ => false
theorem ownS_eq {env : Env} {i : Nat} : ownS env i = owS env[i]? := by
  unfold ownS owS
  cases env[i]? with
  | none => rfl
  | some s => cases s <;> rfl
theorem owS_own {p : Bool} {c : C} : owS (some (.own p c)) = true := rfl
def olS : Option Slot → Bool
  | some (.own _ (.l _)) => true
  | _ => false
theorem ownL_eq {env : Env} {i : Nat} : ownL env i = olS env[i]? := by
  unfold ownL olS
  cases env[i]? with
  | none => rfl
  | some s =>
    cases s with
    | own p c => cases c <;> rfl
    | _ => rfl
theorem olS_own {p : Bool} {xs : List D} : olS (some (.own p (.l xs))) = true := rfl
theorem wip_nil {env : Env} : wip env [] = env := rfl
theorem wip_cons {env : Env} {i : Nat} {is : List Nat} : wip env (i :: is) = if freeS env i then (wip env is).set i .no else wip env is := rfl
theorem unwip_nil {e0 e1 : Env} : unwip e0 e1 [] = e1 := rfl
theorem unwip_cons {e0 e1 : Env} {i : Nat} {is : List Nat} : unwip e0 e1 (i :: is) = (unwip e0 e1 is).set i (e0.getD i .no) := rfl
def wkS : Option Slot → Bool
  | some .no => true
  | some (.dat _) => true
  | _ => false
theorem wkS_no : wkS (some .no) = true := rfl
theorem wkS_dat {d : D} : wkS (some (.dat d)) = true := rfl
theorem wipOk_eq {env : Env} {vs : List Nat} : wipOk env vs = vs.all fun i => wkS env[i]? := by
  unfold wipOk
  rfl
def lkS (i : Nat) : Option Slot → Option Nat
  | some (.own _ _) => some i
  | _ => none
theorem lkS_own {i : Nat} {p : Bool} {c : C} : lkS i (some (.own p c)) = some i := rfl
theorem lkS_dat {i : Nat} {d : D} : lkS i (some (.dat d)) = none := rfl
theorem lkS_scr {i : Nat} {ns : List Int} : lkS i (some (.scr ns)) = none := rfl
theorem lockS_slot {env : Env} {i : Nat} : lockS env (.slot i) = lkS i env[i]? := by
  simp only [lockS]
  cases env[i]? with
  | none => rfl
  | some s => cases s <;> rfl
theorem lockS_dat {env : Env} {d : D} : lockS env (.dat d) = none := rfl
theorem lockS_new {env : Env} {c : C} : lockS env (.new c) = none := rfl
theorem lock_none {env : Env} : lock env none = env := rfl
theorem lock_some {env : Env} {i : Nat} : lock env (some i) = env.set i .hid := rfl
theorem unlock_none {e0 e1 : Env} : unlock e0 e1 none = e1 := rfl
theorem unlock_some {e0 e1 : Env} {i : Nat} : unlock e0 e1 (some i) = e1.set i (e0.getD i .no) := rfl
theorem seqOf_l {xs : List D} : seqOf (.d (.list xs)) = some xs := rfl
theorem seqOf_t {xs : List D} : seqOf (.d (.tuple xs)) = some xs := rfl
theorem seqOf_s {z : Str} : seqOf (.d (.str z)) = some (z.cps.toList.map fun c => .str ⟨#[c]⟩) := rfl
/-! ### operations -/
def sbS (i : Nat) (v : D) (e : Env) (kd : D) : Option Slot → Option (Fl × Env)
  | some (.own p (.l xs)) => (match kd with
    | .int j => (L2.ixN xs.length j).map fun n => (.nx, e.set i (.own p (.l (xs.set n v))))
    | _ => none)
  | some (.own p (.d t kvs)) => if !t && dkOk t kd && decide (kvs.length < sizeLine) then some (.nx, e.set i (.own p (.d t (dput kvs kd v)))) else none
  | _ => none
theorem kSb3_S {i : Nat} {v : D} {e : Env} {kd : D} : kSb3 i v e kd = sbS i v e kd e[i]? := rfl
theorem sbS_l {i : Nat} {v : D} {e : Env} {j : Int} {p : Bool} {xs : List D} {n : Nat} (h : L2.ixN xs.length j = some n) : sbS i v e (.int j) (some (.own p (.l xs))) = some (.nx, e.set i (.own p (.l (xs.set n v)))) := by
  simp only [sbS, h, Option.map_some]
theorem ixN_nat {n k : Nat} (h : k < n) : L2.ixN n (k : Int) = some k := by
  unfold L2.ixN; simp; omega
theorem sbS_0 {i : Nat} {v : D} {e : Env} {p : Bool} {x : D} {xs : List D} : sbS i v e (.int 0) (some (.own p (.l (x :: xs)))) = some (.nx, e.set i (.own p (.l (v :: xs)))) := sbS_l (n := 0) (ixN_nat (k := 0) (by simp))
theorem sbS_1 {i : Nat} {v : D} {e : Env} {p : Bool} {x y : D} {xs : List D} : sbS i v e (.int 1) (some (.own p (.l (x :: y :: xs)))) = some (.nx, e.set i (.own p (.l (x :: v :: xs)))) := sbS_l (n := 1) (ixN_nat (k := 1) (by simp))
theorem sbS_d {i : Nat} {v kd : D} {e : Env} {p : Bool} {kvs : List (D × D)} (hk : dkOk false kd = true) (hz : kvs.length < sizeLine) : sbS i v e kd (some (.own p (.d false kvs))) = some (.nx, e.set i (.own p (.d false (dput kvs kd v)))) := by
  simp only [sbS, hk, hz, decide_true, Bool.not_false, Bool.and_self, if_true]
def apS (i : Nat) (v : D) (e : Env) : Option Slot → Option (Fl × Env)
  | some (.own p (.l xs)) => if xs.length < sizeLine then some (.nx, e.set i (.own p (.l (xs ++ [v])))) else none
  | _ => none
theorem kAp2_S {i : Nat} {v : D} {e : Env} : kAp2 i (v, e) = apS i v e e[i]? := rfl
theorem apS_l {i : Nat} {v : D} {e : Env} {p : Bool} {xs : List D} (h : xs.length < sizeLine) : apS i v e (some (.own p (.l xs))) = some (.nx, e.set i (.own p (.l (xs ++ [v])))) := by
  simp only [apS, if_pos h]
def inS (i : Nat) (d : D) (e : Env) (kd : D) : Option Slot → Option (Fl × Env)
  | some (.own p (.l xs)) => (match kd with
    | .int j => if decide (0 ≤ j) && decide (j ≤ xs.length) && decide (xs.length < sizeLine) then some (.nx, e.set i (.own p (.l (xs.take j.toNat ++ d :: xs.drop j.toNat)))) else none
    | _ => none)
  | _ => none
theorem kIn4_S {i : Nat} {d : D} {e : Env} {kd : D} : kIn4 i d e kd = inS i d e kd e[i]? := by
  unfold kIn4 inS
  cases e[i]? with
  | none => cases kd <;> rfl
  | some s =>
    cases s with
    | own p c => cases c <;> cases kd <;> rfl
    | _ => cases kd <;> rfl
theorem inS_l {i : Nat} {d : D} {e : Env} {p : Bool} {xs : List D} {j : Int} (h0 : 0 ≤ j) (h1 : j ≤ xs.length) (h2 : xs.length < sizeLine) : inS i d e (.int j) (some (.own p (.l xs))) = some (.nx, e.set i (.own p (.l (xs.take j.toNat ++ d :: xs.drop j.toNat)))) := by
  simp only [inS, h0, h1, h2, decide_true, Bool.and_self, if_true]
theorem bo_add {i j : Int} : binop .Add (.int i) (.int j) = some (.dat (.int (i + j))) := rfl
theorem bo_sub {i j : Int} : binop .Sub (.int i) (.int j) = some (.dat (.int (i - j))) := rfl
theorem bo_mul {i j : Int} (h : okI i = true) (h' : okI j = true) : binop .Mult (.int i) (.int j) = some (.dat (.int (i * j))) := by simp only [binop, h, h', Bool.and_self, if_true]
theorem bo_fd {i j : Int} (h : 0 < j) (h' : okI j = true) : binop .FloorDiv (.int i) (.int j) = some (.dat (.int (i / j))) := by simp only [binop, h, h', decide_true, Bool.and_self, if_true]
theorem bo_mod {i j : Int} (h : 0 < j) : binop .Mod (.int i) (.int j) = some (.dat (.int (i % j))) := by simp only [binop, h, if_true]
theorem bo_cat {xs ys : List D} (h : xs.length + ys.length ≤ sizeLine) : binop .Add (.list xs) (.list ys) = some (.new (.l (xs ++ ys))) := by simp only [binop, h, if_true]
theorem bo_catT {xs ys : List D} (h : xs.length + ys.length ≤ sizeLine) : binop .Add (.tuple xs) (.tuple ys) = some (.dat (.tuple (xs ++ ys))) := by simp only [binop, h, if_true]
theorem bo_cats {x y : Str} (h : x.length + y.length ≤ sizeLine) : binop .Add (.str x) (.str y) = some (.dat (.str (x ++ y))) := by simp only [binop, h, if_true]
theorem co_lt {i j : Int} : cmpop .Lt (.int i) (.int j) = some (decide (i < j)) := rfl
theorem co_le {i j : Int} : cmpop .LtE (.int i) (.int j) = some (decide (i ≤ j)) := rfl
theorem co_gt {i j : Int} : cmpop .Gt (.int i) (.int j) = some (decide (j < i)) := rfl
theorem co_ge {i j : Int} : cmpop .GtE (.int i) (.int j) = some (decide (j ≤ i)) := rfl
theorem co_isN {x : D} : cmpop .Is x .none = some (isNone x) := by cases x <;> rfl
theorem co_isnotN {x : D} : cmpop .IsNot x .none = some (!isNone x) := by cases x <;> rfl
theorem co_eq {x y : D} (h : eqOk x y = true) : cmpop .Eq x y = some (PyData.eqv x y) := by unfold cmpop; cases x <;> cases y <;> simp only [h, if_true]
theorem co_ne {x y : D} (h : eqOk x y = true) : cmpop .NotEq x y = some (!PyData.eqv x y) := by unfold cmpop; cases x <;> cases y <;> simp only [h, if_true]
theorem bi_abs {i : Int} : bi .abs [.d (.int i)] = some (.dat (.int (if i < 0 then -i else i))) := rfl
theorem bi_lenL {xs : List D} : bi .len [.d (.list xs)] = some (.dat (.int xs.length)) := rfl
theorem bi_lenT {xs : List D} : bi .len [.d (.tuple xs)] = some (.dat (.int xs.length)) := rfl
theorem bi_lenS {z : Str} : bi .len [.d (.str z)] = some (.dat (.int z.length)) := rfl
theorem bi_lenR {ns : List Int} : bi .len [.s ns] = some (.dat (.int ns.length)) := rfl
theorem bi_min {i j : Int} : bi .min [.d (.int i), .d (.int j)] = some (.dat (.int (if j < i then j else i))) := rfl
theorem bi_tupL {xs : List D} : bi .tuple [.d (.list xs)] = some (.dat (.tuple xs)) := rfl
theorem bi_tupT {xs : List D} : bi .tuple [.d (.tuple xs)] = some (.dat (.tuple xs)) := rfl
theorem bi_lstL {xs : List D} : bi .list [.d (.list xs)] = some (.new (.l xs)) := rfl
theorem bi_lstT {xs : List D} : bi .list [.d (.tuple xs)] = some (.new (.l xs)) := rfl
theorem ix_l {xs : List D} {i : Int} : index (.d (.list xs)) (.int i) = (L2.atI xs i).map .dat := rfl
theorem ix_t {xs : List D} {i : Int} : index (.d (.tuple xs)) (.int i) = (L2.atI xs i).map .dat := rfl
theorem ix_r {ns : List Int} {i : Int} : index (.s ns) (.int i) = (L2.atI ns i).map fun n => .dat (.int n) := rfl
theorem atI_n0 {α : Type} {x : α} {xs : List α} : L2.atI (x :: xs) 0 = some x := by
  have h : L2.ixN (x :: xs).length 0 = some 0 := by simp [L2.ixN]
  unfold L2.atI; rw [h]; rfl
theorem atI_nat {α : Type} {xs : List α} {n : Nat} (h : n < xs.length) : L2.atI xs (n : Int) = some xs[n] := by
  have h1 : L2.ixN xs.length (n : Int) = some n := by
    unfold L2.ixN; simp; omega
  unfold L2.atI; rw [h1]; simp
theorem atI_n1 {α : Type} {x y : α} {xs : List α} : L2.atI (x :: y :: xs) 1 = some y := atI_nat (xs := x :: y :: xs) (n := 1) (by simp)
theorem atI_n2 {α : Type} {x y z : α} {xs : List α} : L2.atI (x :: y :: z :: xs) 2 = some z := atI_nat (xs := x :: y :: z :: xs) (n := 2) (by simp)
theorem atI_n3 {α : Type} {x y z w : α} {xs : List α} : L2.atI (x :: y :: z :: w :: xs) 3 = some w := atI_nat (xs := x :: y :: z :: w :: xs) (n := 3) (by simp)
theorem sl_l {xs : List D} {lo hi : Option Int} : slice (.list xs) lo hi = some (.new (.l (cut xs lo hi))) := rfl
theorem sl_t {xs : List D} {lo hi : Option Int} : slice (.tuple xs) lo hi = some (.dat (.tuple (cut xs lo hi))) := rfl
theorem isN_n : isNone .none = true := rfl
theorem isN_t {xs : List D} : isNone (.tuple xs) = false := rfl
theorem isN_l {xs : List D} : isNone (.list xs) = false := rfl
theorem isN_i {i : Int} : isNone (.int i) = false := rfl
theorem isN_b {i : Bool} : isNone (.bool i) = false := rfl
theorem isN_s {i : Str} : isNone (.str i) = false := rfl
theorem ne_tt : cmpop .NotEq (.bool true) (.bool true) = some false := by decide +kernel
theorem ne_tf : cmpop .NotEq (.bool true) (.bool false) = some true := by decide +kernel
theorem ne_ft : cmpop .NotEq (.bool false) (.bool true) = some true := by decide +kernel
theorem ne_ff : cmpop .NotEq (.bool false) (.bool false) = some false := by decide +kernel
theorem ix_k {kvs : List (D × D)} {k : D} (h : dkOk false k = true) : index (.k false kvs) k = (dget kvs k).map .dat := by simp only [index, h, if_true]
theorem bi_sorted {xs : List D} (h : sortOk xs = true) : bi .sorted [.d (.list xs)] = some (.new (.l (sortD xs))) := by simp only [bi, h, if_true]
theorem bi_dict {xs : List D} {kvs : List (D × D)} (h : pairsD xs = some kvs) : bi .dict [.d (.list xs)] = some (.new (.d false (mergeD [] kvs))) := by simp only [bi, h, Option.map_some]
theorem dk_str {x : Str} : dkOk false (.str x) = true := by
  simp [dkOk, keyD, isTupD, PyData.depth]
theorem dk_int {i : Int} : dkOk false (.int i) = true := by
  simp [dkOk, keyD, isTupD, PyData.depth]
theorem mem_keys {kvs : List (D × D)} {k : D} : (kvs.any fun x => decide (x.1 = k)) = decide (k ∈ kvs.map (·.1)) := by
  induction kvs with
  | nil => simp
  | cons p ps ih =>
    rw [List.any_cons, ih, List.map_cons]
    by_cases h : p.1 = k
    · simp [h]
    · have h' : ¬ k = p.1 := fun e => h e.symm
      simp [h, h']
theorem dput_new {kvs : List (D × D)} {k v : D} (h : k ∉ kvs.map (·.1)) : dput kvs k v = kvs ++ [(k, v)] := by
  unfold dput
  rw [mem_keys, decide_eq_false h]; simp
theorem mergeD_new : ∀ (new acc : List (D × D)), ((acc ++ new).map (·.1)).Nodup → mergeD acc new = acc ++ new
  | [], acc, _ => by simp [mergeD]
  | p :: new, acc, h => by
    have hp : p.1 ∉ acc.map (·.1) := by
      rw [List.map_append, List.map_cons, List.nodup_append] at h
      intro z
      exact h.2.2 _ z _ List.mem_cons_self rfl
    show mergeD (dput acc p.1 p.2) new = _
    rw [dput_new hp, mergeD_new new (acc ++ [(p.1, p.2)]) (by simpa using h)]
    simp
theorem dcGo_map {α : Type} {F : D → Env → Option (D × D × Env)} {enc : α → D} {env : Env} {kf vf : α → D} : ∀ (xs : List α) (acc : List (D × D)), (∀ x ∈ xs, F (enc x) env = some (kf x, vf x, env) ∧ dkOk false (kf x) = true) → ((acc ++ xs.map fun x => (kf x, vf x)).map (·.1)).Nodup → acc.length + xs.length < sizeLine →
    dcGo F (xs.map enc) env acc = some (acc ++ xs.map (fun x => (kf x, vf x)), env)
  | [], acc, _, _, _ => by simp [dcGo]
  | x :: xs, acc, h, hn, hl => by
    obtain ⟨h1, h2⟩ := h x List.mem_cons_self
    have hp : kf x ∉ acc.map (·.1) := by
      rw [List.map_append, List.map_cons, List.map_cons, List.nodup_append] at hn
      intro z
      exact hn.2.2 _ z _ List.mem_cons_self rfl
    have hz : acc.length < sizeLine := by simp only [List.length_cons] at hl; omega
    rw [List.map_cons]
    simp only [dcGo, h1, Option.bind_some, h2, hz, decide_true, Bool.and_self, if_true]
    rw [dput_new hp, dcGo_map xs _ (fun y hy => h y (List.mem_cons_of_mem _ hy)) (by simpa using hn) (by simp only [List.length_append, List.length_cons, List.length_nil] at hl ⊢; omega)]
    simp
theorem dget_map {α : Type} {kf vf : α → D} : ∀ {xs : List α} {x : α}, x ∈ xs → (xs.map kf).Nodup → dget (xs.map fun x => (kf x, vf x)) (kf x) = some (vf x)
  | y :: xs, x, hx, hn => by
    rw [List.map_cons, List.nodup_cons] at hn
    unfold dget
    rw [List.map_cons]
    rcases List.mem_cons.mp hx with e | e
    · subst e
      rw [List.find?_cons_of_pos (by simp)]; rfl
    · have hne : ¬ kf y = kf x := fun z => hn.1 (by rw [z]; exact List.mem_map_of_mem e)
      rw [List.find?_cons_of_neg (by simpa using hne)]
      exact dget_map e hn.2
theorem dget_none {α : Type} {kf vf : α → D} {k : D} {xs : List α} (h : k ∉ xs.map kf) : dget (xs.map fun x => (kf x, vf x)) k = none := by
  unfold dget
  rw [List.find?_eq_none.mpr]
  · rfl
  · intro p hp
    obtain ⟨x, hx, rfl⟩ := List.mem_map.mp hp
    simp only [decide_eq_true_eq]
    exact fun z => h (by rw [← z]; exact List.mem_map_of_mem hx)
theorem pairsD_map {α : Type} {kf vf : α → D} : ∀ (xs : List α), (∀ x ∈ xs, dkOk false (kf x) = true) → pairsD (xs.map fun x => .tuple [kf x, vf x]) = some (xs.map fun x => (kf x, vf x))
  | [], _ => rfl
  | x :: xs, h => by
    simp only [List.map_cons, pairsD, pairD, h x List.mem_cons_self, if_true, Option.bind_some]
    rw [pairsD_map xs fun y hy => h y (List.mem_cons_of_mem _ hy)]
    rfl
theorem lc2Go_all {α : Type} {F : D → Env → Option (List D × Env)} {enc : α → D} {env : Env} {g : α → List D} : ∀ (xs : List α), (∀ x ∈ xs, F (enc x) env = some (g x, env)) → lc2Go F (xs.map enc) env = some (xs.flatMap g, env)
  | [], _ => rfl
  | x :: xs, h => by
    rw [List.map_cons, lc2Go_cons, h x List.mem_cons_self]
    simp only [Option.bind_some, kL2g_eq]
    rw [lc2Go_all xs fun y hy => h y (List.mem_cons_of_mem _ hy)]
    simp [kL2g2_eq]
end Lc
/-! Fractions, sizes, draws. -/
namespace Lc
open PySem L2
/-! ### sizes -/
theorem okI_of {i : Int} {n : Nat} (h : i.natAbs < 2 ^ n) (hn : n ≤ 8000) : okI i = true := by
  unfold okI
  apply decide_eq_true
  by_cases hz : i.natAbs = 0
  · rw [hz]; decide
  · exact Nat.lt_of_lt_of_le ((Nat.log2_lt hz).mpr h) hn
theorem okI_64 {i : Int} (h1 : -18446744073709551616 < i) (h2 : i < 18446744073709551616) : okI i = true := okI_of (n := 64) (by omega) (by decide)
/-- a fraction's top and bottom below 2 ^ n -/
def Sm (n : Nat) (q : Rat) : Prop := q.num.natAbs < 2 ^ n ∧ q.den < 2 ^ n
theorem Sm.mono {n m : Nat} {q : Rat} (h : Sm n q) (hn : n ≤ m) : Sm m q :=
  ⟨Nat.lt_of_lt_of_le h.1 (Nat.pow_le_pow_right (by decide) hn), Nat.lt_of_lt_of_le h.2 (Nat.pow_le_pow_right (by decide) hn)⟩
theorem Sm.oknum {n : Nat} {q : Rat} (h : Sm n q) (hn : n ≤ 8000) : okI q.num = true := okI_of h.1 hn
theorem Sm.okden {n : Nat} {q : Rat} (h : Sm n q) (hn : n ≤ 8000) : okI (q.den : Int) = true := okI_of (n := n) (by simpa using h.2) hn
theorem den_pos (q : Rat) : (0 : Int) < (q.den : Int) := by have := q.den_pos; omega
theorem Sm.divInt {a b : Int} {n : Nat} (hb : 0 < b) (ha : a.natAbs < 2 ^ n) (hb2 : b.natAbs < 2 ^ n) : Sm n (Rat.divInt a b) := by
  refine ⟨?_, ?_⟩
  · rw [Rat.num_divInt, Int.sign_eq_one_of_pos hb, Int.one_mul]
    refine Nat.lt_of_le_of_lt ?_ ha
    rw [Int.natAbs_ediv_of_dvd (Int.gcd_dvd_right ..)]
    exact Nat.div_le_self _ _
  · rw [Rat.den_divInt, if_neg (by omega)]
    exact Nat.lt_of_le_of_lt (Nat.div_le_self _ _) hb2
theorem pow_add_lt {x y n m : Nat} (h1 : x < 2 ^ n) (h2 : y < 2 ^ m) : x * y < 2 ^ (n + m) := by
  rw [Nat.pow_add]
  exact Nat.mul_lt_mul'' h1 h2
theorem natAbs_mul_lt {x y : Int} {n m : Nat} (h1 : x.natAbs < 2 ^ n) (h2 : y.natAbs < 2 ^ m) : (x * y).natAbs < 2 ^ (n + m) := by
  rw [Int.natAbs_mul]; exact pow_add_lt h1 h2
theorem natAbs_add_lt {x y : Int} {n : Nat} (h1 : x.natAbs < 2 ^ n) (h2 : y.natAbs < 2 ^ n) : (x + y).natAbs < 2 ^ (n + 1) := by
  have := Int.natAbs_add_le x y
  rw [Nat.pow_succ]; omega
theorem rat_add (p q : Rat) : Rat.divInt (p.num * q.den + q.num * p.den) (p.den * q.den) = p + q := by
  have h1 := den_pos p
  have h2 := den_pos q
  conv => rhs; rw [← Rat.num_divInt_den p, ← Rat.num_divInt_den q]
  rw [Rat.divInt_add_divInt _ _ (by omega) (by omega)]
theorem rat_mul (p : Rat) (a b : Int) : Rat.divInt (p.num * a) (p.den * b) = p * Rat.divInt a b := by
  conv => rhs; rw [← Rat.num_divInt_den p]
  rw [Rat.divInt_mul_divInt]
theorem Sm.add {n m : Nat} {p q : Rat} (hp : Sm n p) (hq : Sm m q) : Sm (n + m + 1) (p + q) := by
  rw [← rat_add]
  have h1 := den_pos p
  have h2 := den_pos q
  refine Sm.divInt (Int.mul_pos h1 h2) (natAbs_add_lt (natAbs_mul_lt hp.1 (by simpa using hq.2)) ?_) ?_
  · rw [Nat.add_comm n m]; exact natAbs_mul_lt hq.1 (by simpa using hp.2)
  · have := natAbs_mul_lt (x := (p.den : Int)) (y := (q.den : Int)) (n := n) (m := m) (by simpa using hp.2) (by simpa using hq.2)
    exact Nat.lt_trans this (Nat.pow_lt_pow_right (by decide) (by omega))
theorem Sm.mul {n m : Nat} {p q : Rat} (hp : Sm n p) (hq : Sm m q) : Sm (n + m) (p * q) := by
  have e := rat_mul p q.num q.den
  rw [Rat.num_divInt_den] at e
  rw [← e]
  have h1 := den_pos p
  have h2 := den_pos q
  exact Sm.divInt (Int.mul_pos h1 h2) (natAbs_mul_lt hp.1 hq.1) (natAbs_mul_lt (by simpa using hp.2) (by simpa using hq.2))
theorem Sm.int {i : Int} {n : Nat} (h : i.natAbs < 2 ^ n) (hn : 1 ≤ n) : Sm n (i : Rat) := by
  refine ⟨by simpa using h, ?_⟩
  show (i : Rat).den < 2 ^ n
  rw [Rat.den_intCast]
  exact Nat.one_lt_two_pow (by omega)
theorem Sm.neg {n : Nat} {p : Rat} (hp : Sm n p) : Sm n (-p) := by
  refine ⟨?_, ?_⟩
  · rw [Rat.neg_num, Int.natAbs_neg]; exact hp.1
  · rw [Rat.neg_den]; exact hp.2
/-! ### data -/
def fr (q : Rat) : D := .tuple [.int q.num, .int q.den]
theorem fr_inj {p q : Rat} : PyData.eqv (fr p) (fr q) = decide (p = q) := by
  simp only [fr, PyData.eqv, PyData.eqvAll]
  by_cases h : p = q
  · subst h; simp
  · rw [decide_eq_false h]
    by_cases h1 : p.num = q.num
    · have h2 : p.den ≠ q.den := fun e => h (Rat.ext h1 e)
      have : ¬ ((p.den : Int) = q.den) := by omega
      simp [h1, this]
    · simp [h1]
theorem fr_eqOk (p : Rat) (d : D) : eqOk (fr p) d = true := by
  unfold eqOk
  apply decide_eq_true
  have : (fr p).depth ≤ 60 := by simp [fr, PyData.depth, PyData.depthAll]
  omega
theorem fr_pair {a : Int} : .tuple [.int a, .int 1] = fr (a : Rat) := by
  unfold fr; simp
theorem okI_lit0 : okI 0 = true := by decide +kernel
/-! ### lowest terms -/
theorem low_eq {t b : Int} (hb : 0 < b) : fr (Rat.divInt t b) = .tuple [.int (t / (Int.gcd t b : Int)), .int (b / (Int.gcd t b : Int))] := by
  unfold fr
  rw [Rat.num_divInt, Int.sign_eq_one_of_pos hb, Int.one_mul, Rat.den_divInt, if_neg (by omega), Int.gcd_comm b t]
  have : ((b.natAbs / Int.gcd t b : Nat) : Int) = b / (Int.gcd t b : Int) := by
    rw [Int.natCast_ediv, Int.natAbs_of_nonneg (by omega)]
  rw [this]
end Lc
/-! Bodies (printed by gencb.py). -/
namespace Lc
open PySem L2
def cb_lowest : SL := (.cons (.par [2, 3] [false, false] (.cons (.blt .abs (.cons (.var 0) .nil)) (.cons (.var 1) .nil))) (.cons (.whl (.cmp .Gt (.var 3) (.cst (.int 0))) (.cons (.par [2, 3] [false, false] (.cons (.var 3) (.cons (.bin .Mod (.var 2) (.var 3)) .nil))) .nil) []) (.cons (.ret (.tup (.cons (.bin .FloorDiv (.var 0) (.var 2)) (.cons (.bin .FloorDiv (.var 1) (.var 2)) .nil)))) .nil)))
def cb_heavy_of : SL := (.cons (.ret (.bin .Add (.var 0) (.blt .sum (.cons (.lc (.idx (.var 2) (.cst (.int 1))) (.nm 2) (.seq (.var 1)) .no [2]) .nil)))) .nil)
def cb_left_of : SL := (.cons (.ret (.blt .tuple (.cons (.lc (.var 2) (.nm 2) (.seq (.var 0)) (.so (.cmp .NotIn (.idx (.var 2) (.cst (.int 0))) (.var 1))) [2]) .nil))) .nil)
def cb_one_of : SL := (.cons (.ret (.idx (.lc (.var 2) (.nm 2) (.seq (.var 0)) (.so (.cmp .Eq (.idx (.var 2) (.cst (.int 0))) (.var 1))) [2]) (.cst (.int 0)))) .nil)
def cb_heavy_by (n_heavy_of n_left_of n_one_of n_lowest : Str) : SL := (.cons (.set 4 false (.call n_heavy_of (.cons (.var 0) (.cons (.call n_left_of (.cons (.var 1) (.cons (.lst (.cons (.var 2) .nil)) .nil))) .nil)))) (.cons (.set 5 false (.bin .Sub (.bin .Mult (.idx (.call n_one_of (.cons (.var 1) (.cons (.var 2) .nil))) (.cst (.int 2))) (.idx (.var 3) (.cst (.int 1)))) (.idx (.var 3) (.cst (.int 0))))) (.cons (.ret (.ite (.cmp .Gt (.var 5) (.cst (.int 0))) (.call n_lowest (.cons (.bin .Mult (.idx (.var 3) (.cst (.int 0))) (.var 4)) (.cons (.var 5) .nil))) (.cst .none))) .nil)))
def cb_leap_by (n_lowest n_heavy_of n_one_of : Str) : SL := (.cons (.ret (.call n_lowest (.cons (.bin .Mult (.idx (.var 3) (.cst (.int 0))) (.call n_heavy_of (.cons (.var 0) (.cons (.var 1) .nil)))) (.cons (.bin .Mult (.idx (.var 3) (.cst (.int 1))) (.idx (.call n_one_of (.cons (.var 1) (.cons (.var 2) .nil))) (.cst (.int 1)))) .nil)))) .nil)
def cb_bag : SL := (.cons (.set 2 false (.cst (.int 0))) (.cons (.ite (.cmp .Lt (.var 1) (.blt .len (.cons (.var 0) .nil))) (.cons (.set 2 false (.blt .abs (.cons (.idx (.var 0) (.var 1)) .nil))) .nil) .nil) (.cons (.ite (.cmp .Lt (.var 2) (.bin .Pow (.cst (.int 10)) (.cst (.int 18)))) (.cons (.ret (.lst (.cons (.cst (.int 0)) (.cons (.bin .Add (.cst (.int 1)) (.bin .Mod (.bin .Add (.bin .Mult (.var 2) (.cst (.int 7919))) (.bin .Mult (.cst (.int 104729)) (.var 1))) (.cst (.int 2147483646)))) .nil)))) .nil) .nil) (.cons (.ret (.lst (.cons (.var 2) (.cons (.bin .Add (.cst (.int 1)) (.bin .Mod (.bin .Add (.var 2) (.var 1)) (.cst (.int 2147483646)))) .nil)))) .nil))))
def cb_take : SL := (.cons (.ite (.cmp .Gt (.idx (.var 0) (.cst (.int 0))) (.cst (.int 0))) (.cons (.set 2 false (.bin .Mod (.idx (.var 0) (.cst (.int 0))) (.var 1))) (.cons (.sub 0 (.cst (.int 0)) (.bin .FloorDiv (.idx (.var 0) (.cst (.int 0))) (.var 1))) (.cons (.ret (.var 2)) .nil))) .nil) (.cons (.sub 0 (.cst (.int 1)) (.bin .Mod (.bin .Mult (.idx (.var 0) (.cst (.int 1))) (.cst (.int 48271))) (.cst (.int 2147483647)))) (.cons (.ret (.bin .Mod (.bin .FloorDiv (.bin .Mod (.bin .Mult (.idx (.var 0) (.cst (.int 1))) (.idx (.var 0) (.cst (.int 1)))) (.cst (.int 2147483629))) (.cst (.int 64))) (.var 1))) .nil)))
def cb_plus (n_lowest : Str) : SL := (.cons (.ret (.call n_lowest (.cons (.bin .Add (.bin .Mult (.idx (.var 0) (.cst (.int 0))) (.idx (.var 1) (.cst (.int 1)))) (.bin .Mult (.idx (.var 1) (.cst (.int 0))) (.idx (.var 0) (.cst (.int 1))))) (.cons (.bin .Mult (.idx (.var 0) (.cst (.int 1))) (.idx (.var 1) (.cst (.int 1)))) .nil)))) .nil)
def cb_times (n_lowest : Str) : SL := (.cons (.ret (.call n_lowest (.cons (.bin .Mult (.idx (.var 0) (.cst (.int 0))) (.var 1)) (.cons (.idx (.var 0) (.cst (.int 1))) .nil)))) .nil)
def cb_less : SL := (.cons (.ret (.cmp .Lt (.bin .Mult (.idx (.var 0) (.cst (.int 0))) (.idx (.var 1) (.cst (.int 1)))) (.bin .Mult (.idx (.var 1) (.cst (.int 0))) (.idx (.var 0) (.cst (.int 1)))))) .nil)
def cb_cart (n_take : Str) : SL := (.cons (.ret (.bin .Add (.cst (.int 1)) (.call n_take (.cons (.var 0) (.cons (.idx (.lst (.cons (.cst (.int 5)) (.cons (.cst (.int 60)) (.cons (.cst (.int 1000)) .nil)))) (.call n_take (.cons (.var 0) (.cons (.cst (.int 3)) .nil)))) .nil))))) .nil)
def cb_folk (n_take : Str) : SL := (.cons (.set 2 true (.lst .nil)) (.cons (.set 3 false (.bin .Add (.cst (.int 1)) (.call n_take (.cons (.var 0) (.cons (.idx (.lst (.cons (.cst (.int 4)) (.cons (.cst (.int 100)) .nil))) (.call n_take (.cons (.var 0) (.cons (.cst (.int 2)) .nil)))) .nil))))) (.cons (.set 4 false (.cmp .Eq (.call n_take (.cons (.var 0) (.cons (.cst (.int 3)) .nil))) (.cst (.int 0)))) (.cons (.for_ (.nm 5) (.seq (.sl (.lst (.cons (.cst (.str "ann")) (.cons (.cst (.str "bo")) (.cons (.cst (.str "cy")) (.cons (.cst (.str "dee")) (.cons (.cst (.str "eli")) (.cons (.cst (.str "fay")) (.cons (.cst (.str "gus")) .nil)))))))) .no (.so (.bin .Add (.cst (.int 1)) (.call n_take (.cons (.var 0) (.cons (.var 1) .nil))))))) (.cons (.set 6 false (.bin .Add (.cst (.int 1)) (.call n_take (.cons (.var 0) (.cons (.idx (.lst (.cons (.cst (.int 5)) (.cons (.cst (.int 60)) (.cons (.cst (.int 200)) .nil)))) (.call n_take (.cons (.var 0) (.cons (.cst (.int 3)) .nil)))) .nil))))) (.cons (.app 2 (.tup (.cons (.var 5) (.cons (.var 6) (.cons (.ite (.var 4) (.var 3) (.bin .Add (.cst (.int 1)) (.call n_take (.cons (.var 0) (.cons (.idx (.lst (.cons (.cst (.int 5)) (.cons (.cst (.int 100)) .nil))) (.call n_take (.cons (.var 0) (.cons (.cst (.int 2)) .nil)))) .nil))))) .nil))))) .nil)) [5, 6]) (.cons (.ret (.blt .tuple (.cons (.var 2) .nil))) .nil)))))
end Lc
/-! What the small defs give. -/
namespace Lc
open PySem L2
local macro_rules | `(tactic| walk_at "evs") => `(tactic| simp only [rdS_dat, rdS_own, rdS_scr, loS_dat, loS_own, loS_scr, ob_l, ob_d, look_dat, look_new, look_slot, lookD_dat, lookD_new, lookD_slot, obd, b2_some, fst_eq, ev_var, ev_cst, datE_eq, ev_glo, kBin2_eq, kBin1_eq, ev_bin, kNeg_eq, ev_neg, nots_eq, truR_dat, truR_slot, truth_b, kNot_eq, ev_not, blE_eq, kCmp2_eq, kCmp1_eq, cmpB_d, cmpB_in, cmpB_ni, kDcE_eq, kDc_eq, ev_dc, dcF5_eq, dcF4_eq, dcF3_eq, dcF2_eq, dcF1_eq, dcF_eq, ev_dnew, gtO_eq, kGt3_eq, kGt2_eq, kGt1_eq, kGt_eq, isDic_k, ev_getD, kL2e_eq, kL2_eq, ev_lc2, l2F3_eq, l2F2_eq, l2F1_eq, l2F_eq, ix_k, dk_str, dk_int, ev_cmp, kCh4_eq, kCh3_true, kCh3_false, kCh2_eq, kCh1_eq, ev_chain, kIte2_true, kIte2_false, kIte_eq, ev_ite, ev_and, ev_or, kTru_eq, evAnd_one, evOr_one, kAnd2_true, kAnd2_false, kAnd_eq, evAnd_cons, kOr2_true, kOr2_false, kOr_eq, evOr_cons, consE_eq, kL_eq, evL_nil, evL_cons, frz_dat, frz_new, fzS_dat, fzS_own, frz_slot, kF2_eq, kF_eq, frzL_nil, frzL_cons, kTup2_eq, kTup_eq, ev_tup, kLst2_eq, kLst_eq, ev_lst, ixOb_eq, kIx2_eq, kIx_eq, ev_idx, kO_eq, evO_no, evO_so, kSl3_eq, kSl2_eq, kSl_eq, ev_sl, kRev_eq, ev_rev, kC4_dat, kC4_new, kC3_eq, kC2_eq, kC_eq, ev_callE, kP_eq, kPs_eq, kPf_eq, pass_nil, pass_dat, pass_new, pass_newT, psS_scr, psS_dat, psS_own, pass_slotF, ptS_own, ptS_own0, pass_slotT, noS_nil, noS_dat, noS_new, noS_slot, back_nil, back_f, back_new, bkS_own, back_t, kOb2_eq, kOb_eq, lookL_nil, lookL_cons, kB2_eq, kB_eq, ev_blt, isiE_eq, kIs_eq, ev_isi, kLcE_eq, kLc_eq, ev_lc, lcGo_nil, kGoE_some, kGoE_none, kGo_eq, lcGo_cons, evC_no, evC_so, lcF4_eq, lcF3_eq, lcF2_true, lcF2_false, lcF1_eq, lcF_eq, kSq2_eq, kSq1_eq, kSq_eq, evSrc_seq, rngE_eq, kRg_eq, evSrc_rng, enumE_eq, kEn_eq, evSrc_enum, kZ4_l, kZ4_m, kZ4_t, kY4_eq, kY3_eq, kY2_eq, kY1_eq, ev_lzip, kNp_eq, asg_npE, kZ3_eq, kZ2_eq, kZ1_eq, evSrc_zip, setE_eq, kSet_eq, ex_set, datS_eq, nrm_t, nrm_fd, nrm_fl, nrm_fk, nrm_fs, kN2_eq, kN_eq, nrmL_nil, nrmL_cons, putL_nil, putL_cons, nxE_eq, kPr2_eq, kPr_eq, ex_par, kU2_eq, kU_eq, ex_unp, asg_nm, asg_tp, kPp_eq, asg_ppE, asgN_nil, asgN_cons, kSb2_eq, kSb1_eq, kSb_eq, ex_sub, kAp_eq, ex_app, kIn3_eq, kIn2_eq, kIn_eq, ex_ins, exE_eq, ex_expr, rtE_eq, ex_ret, kIf2_true, kIf2_false, kIf_eq, ex_ite, kFo2_eq, kFo_eq, ex_for, ex_whl, forGo_nil, kFg_nx, kFg_rt, kXs_nx, kXs_rt, exL_nil, exL_cons, kRun2_eq, kRun_nx, kRun_rt, run_eq, fin_dat, fin_new, finS_dat, finS_own, fin_slot, outs_nil, outs_cons, par_dat, par_own, par_scr, par_no, freeS_eq, frS_eq, ownS_eq, owS_own, ownL_eq, olS_own, wip_nil, wip_cons, unwip_nil, unwip_cons, wkS_no, wkS_dat, wipOk_eq, lkS_own, lkS_dat, lkS_scr, lockS_slot, lockS_dat, lockS_new, lock_none, lock_some, unlock_none, unlock_some, seqOf_l, seqOf_t, kSb3_S, sbS_0, sbS_1, sbS_d, kAp2_S, apS_l, kIn4_S, inS_l, stG_eq, kWp_eq, whC_eq, kWh_nx, kWh_rt, kW1_t, kW1_f, bo_add, bo_sub, bo_mul, bo_fd, bo_mod, bo_cat, bo_catT, bo_cats, co_lt, co_le, co_gt, co_ge, co_isN, co_isnotN, bi_abs, bi_lenL, bi_lenT, bi_lenS, bi_lenR, bi_min, bi_tupL, bi_tupT, bi_lstL, bi_lstT, ix_l, ix_t, ix_r, atI_n0, atI_n1, atI_n2, atI_n3, sl_l, sl_t, isN_n, isN_t, isN_l, isN_i, isN_b, isN_s, ne_tt, ne_tf, ne_ft, ne_ff, List.getElem?_cons_zero, List.getElem?_cons_succ, List.set_cons_zero, List.set_cons_succ, List.cons_append, List.nil_append, List.replicate_succ, List.replicate_zero, List.getD_cons_zero, List.getD_cons_succ, Option.bind_some, Option.map_some, Option.bind_none, Option.map_none, Bool.not_true, Bool.not_false, Bool.and_true, Bool.true_and, Bool.and_false, Bool.false_and, and_self, and_true, true_and, decide_true, decide_false, if_true, if_false, Bool.false_eq_true, List.all_cons, List.all_nil, List.length_cons, List.length_nil, List.map_cons, List.map_nil, *])
/-- the def f of the table, by what it gives -/
def Fn (T : Tab) (f : Str) (md : List Bool) (Φ : (List Slot → Option (R × List Slot)) → Prop) : Prop := ∃ fn, T.fns f = some ⟨md, fn⟩ ∧ Φ fn
/-! ### lowest -/
def LowΦ (fn : List Slot → Option (R × List Slot)) : Prop := ∀ t b : Int, 0 < b → okI b = true → fn [.dat (.int t), .dat (.int b)] = some (.dat (fr (Rat.divInt t b)), [.no, .no])
abbrev lowC : E := .cmp .Gt (.var 3) (.cst (.int 0))
abbrev lowB : SL := .cons (.par [2, 3] [false, false] (.cons (.var 3) (.cons (.bin .Mod (.var 2) (.var 3)) .nil))) .nil
theorem low_end {T : Tab} {fu n : Nat} {s0 s1 : Slot} {x : Int} : whlGo (whC T lowC) (stG T fu [] lowB) (n + 1) [s0, s1, .dat (.int x), .dat (.int 0)] = some (.nx, [s0, s1, .dat (.int x), .dat (.int 0)]) := by
  rw [whlGo_succ]
  have h : decide ((0 : Int) < 0) = false := rfl
  walk_at "evs"
theorem low_step {T : Tab} {fu n : Nat} {s0 s1 : Slot} {x y : Int} (hy : 0 < y) : whlGo (whC T lowC) (stG T fu [] lowB) (n + 1) [s0, s1, .dat (.int x), .dat (.int y)] = whlGo (whC T lowC) (stG T fu [] lowB) n [s0, s1, .dat (.int y), .dat (.int (x % y))] := by
  rw [whlGo_succ]
  have h : decide ((0 : Int) < y) = true := decide_eq_true hy
  have nd : [2, 3].Nodup := by decide
  walk_at "evs"
theorem gcd_step {x y : Int} : Int.gcd y (x % y) = Int.gcd x y := by
  have h := Int.gcd_add_mul_left_right y (x % y) (x / y)
  rw [show x % y + y * (x / y) = x by have := Int.mul_ediv_add_emod x y; omega] at h
  rw [← h, Int.gcd_comm]
theorem low_loop {T : Tab} {fu : Nat} {s0 s1 : Slot} : ∀ (k n : Nat) (x y : Int), 0 ≤ x → 0 ≤ y → y.natAbs < 2 ^ k → 2 * k + 1 ≤ n → whlGo (whC T lowC) (stG T fu [] lowB) n [s0, s1, .dat (.int x), .dat (.int y)] = some (.nx, [s0, s1, .dat (.int (Int.gcd x y)), .dat (.int 0)])
  | 0, n, x, y, hx, hy, hk, hn => by
    have : y = 0 := by simp at hk; omega
    subst this
    obtain ⟨m, rfl⟩ : ∃ m, n = m + 1 := ⟨n - 1, by omega⟩
    rw [low_end]
    simp [Int.natAbs_of_nonneg hx]
  | k + 1, n, x, y, hx, hy, hk, hn => by
    obtain ⟨m, rfl⟩ : ∃ m, n = m + 3 := ⟨n - 3, by omega⟩
    by_cases h0 : y = 0
    · subst h0
      rw [low_end]
      simp [Int.natAbs_of_nonneg hx]
    · have hy' : 0 < y := by omega
      rw [low_step hy']
      have hr0 := Int.emod_nonneg x h0
      have hr1 := Int.emod_lt_of_pos x hy'
      by_cases h1 : x % y = 0
      · rw [h1, low_end]
        have : Int.gcd x y = Int.gcd y (x % y) := gcd_step.symm
        rw [this, h1]
        simp [Int.natAbs_of_nonneg hy]
      · have hr' : 0 < x % y := by omega
        rw [low_step hr']
        have hs0 := Int.emod_nonneg y h1
        have hs1 := Int.emod_lt_of_pos y hr'
        have key : 2 * (y % (x % y)) < y := by
          have e := Int.mul_ediv_add_emod y (x % y)
          have q : 1 ≤ y / (x % y) := by
            exact (Int.le_ediv_iff_mul_le hr').mpr (by omega)
          have : x % y ≤ (x % y) * (y / (x % y)) := by
            have := Int.mul_le_mul_of_nonneg_left q hr0
            omega
          omega
        rw [low_loop k (m + 1) (x % y) (y % (x % y)) hr0 hs0 (by rw [Nat.pow_succ] at hk; omega) (by omega), gcd_step, gcd_step]
theorem low_ok {T : Tab} {fu : Nat} (hfu : 20000 ≤ fu) : LowΦ (run T fu 2 cb_lowest) := by
  intro t b hb hk
  have hlog : b.natAbs.log2 < 8000 := okI_log hk
  have hlt : b.natAbs < 2 ^ 8000 := (Nat.log2_lt (by omega)).mp hlog
  have ha : 0 ≤ (if t < 0 then -t else t) := by split <;> omega
  have hl := low_loop (T := T) (fu := fu) (s0 := .dat (.int t)) (s1 := .dat (.int b)) 8000 fu (if t < 0 then -t else t) b ha (by omega) hlt (by omega)
  have hg : Int.gcd (if t < 0 then -t else t) b = Int.gcd t b := by
    split
    · exact Int.neg_gcd
    · rfl
  rw [hg] at hl
  have nd : [2, 3].Nodup := by decide
  have gp : 0 < (Int.gcd t b : Int) := by
    have : Int.gcd t b ≠ 0 := fun z => by
      have := Int.gcd_eq_zero_iff.mp z
      omega
    omega
  have gok : okI (Int.gcd t b : Int) = true := by
    refine okI_of (n := 8000) ?_ (Nat.le_refl _)
    refine Nat.lt_of_le_of_lt ?_ hlt
    have h1 : Int.gcd t b ∣ b.natAbs := by
      have := Int.gcd_dvd_right t b
      simpa using Int.natAbs_dvd_natAbs.mpr this
    simpa using Nat.le_of_dvd (by omega) h1
  have l2 : (2 : Nat) ≤ 1000 := by decide
  unfold cb_lowest
  walk_at "evs"
  rw [low_eq hb]
theorem plus_ok {T : Tab} {fu : Nat} {lo : Str} (h : Fn T lo [false, false] LowΦ) : ∀ p q : Rat, Sm 3000 p → Sm 3000 q → run T fu 0 (cb_plus lo) [.dat (fr p), .dat (fr q)] = some (.dat (fr (p + q)), [.no, .no]) := by
  intro p q hp hq
  obtain ⟨fn, hT, hfn⟩ := h
  have h1 := hp.oknum (by decide)
  have h2 := hp.okden (by decide)
  have h3 := hq.oknum (by decide)
  have h4 := hq.okden (by decide)
  have h5 : (0 : Int) < p.den * q.den := Int.mul_pos (den_pos p) (den_pos q)
  have h6 : okI ((p.den : Int) * q.den) = true := okI_of (natAbs_mul_lt (n := 3000) (m := 3000) (by simpa using hp.2) (by simpa using hq.2)) (by decide)
  have h7 := hfn (p.num * q.den + q.num * p.den) (p.den * q.den) h5 h6
  unfold cb_plus fr
  walk_at "evs"
  rw [rat_add]; rfl
end Lc
/-! Folk, draws. -/
namespace Lc
open PySem L2
local macro_rules | `(tactic| walk_at "evs") => `(tactic| simp only [rdS_dat, rdS_own, rdS_scr, loS_dat, loS_own, loS_scr, ob_l, ob_d, look_dat, look_new, look_slot, lookD_dat, lookD_new, lookD_slot, obd, b2_some, fst_eq, ev_var, ev_cst, datE_eq, ev_glo, kBin2_eq, kBin1_eq, ev_bin, kNeg_eq, ev_neg, nots_eq, truR_dat, truR_slot, truth_b, kNot_eq, ev_not, blE_eq, kCmp2_eq, kCmp1_eq, cmpB_d, cmpB_in, cmpB_ni, kDcE_eq, kDc_eq, ev_dc, dcF5_eq, dcF4_eq, dcF3_eq, dcF2_eq, dcF1_eq, dcF_eq, ev_dnew, gtO_eq, kGt3_eq, kGt2_eq, kGt1_eq, kGt_eq, isDic_k, ev_getD, kL2e_eq, kL2_eq, ev_lc2, l2F3_eq, l2F2_eq, l2F1_eq, l2F_eq, ix_k, dk_str, dk_int, ev_cmp, kCh4_eq, kCh3_true, kCh3_false, kCh2_eq, kCh1_eq, ev_chain, kIte2_true, kIte2_false, kIte_eq, ev_ite, ev_and, ev_or, kTru_eq, evAnd_one, evOr_one, kAnd2_true, kAnd2_false, kAnd_eq, evAnd_cons, kOr2_true, kOr2_false, kOr_eq, evOr_cons, consE_eq, kL_eq, evL_nil, evL_cons, frz_dat, frz_new, fzS_dat, fzS_own, frz_slot, kF2_eq, kF_eq, frzL_nil, frzL_cons, kTup2_eq, kTup_eq, ev_tup, kLst2_eq, kLst_eq, ev_lst, ixOb_eq, kIx2_eq, kIx_eq, ev_idx, kO_eq, evO_no, evO_so, kSl3_eq, kSl2_eq, kSl_eq, ev_sl, kRev_eq, ev_rev, kC4_dat, kC4_new, kC3_eq, kC2_eq, kC_eq, ev_callE, kP_eq, kPs_eq, kPf_eq, pass_nil, pass_dat, pass_new, pass_newT, psS_scr, psS_dat, psS_own, pass_slotF, ptS_own, ptS_own0, pass_slotT, noS_nil, noS_dat, noS_new, noS_slot, back_nil, back_f, back_new, bkS_own, back_t, kOb2_eq, kOb_eq, lookL_nil, lookL_cons, kB2_eq, kB_eq, ev_blt, isiE_eq, kIs_eq, ev_isi, kLcE_eq, kLc_eq, ev_lc, lcGo_nil, kGoE_some, kGoE_none, kGo_eq, lcGo_cons, evC_no, evC_so, lcF4_eq, lcF3_eq, lcF2_true, lcF2_false, lcF1_eq, lcF_eq, kSq2_eq, kSq1_eq, kSq_eq, evSrc_seq, rngE_eq, kRg_eq, evSrc_rng, enumE_eq, kEn_eq, evSrc_enum, kZ4_l, kZ4_m, kZ4_t, kY4_eq, kY3_eq, kY2_eq, kY1_eq, ev_lzip, kNp_eq, asg_npE, kZ3_eq, kZ2_eq, kZ1_eq, evSrc_zip, setE_eq, kSet_eq, ex_set, datS_eq, nrm_t, nrm_fd, nrm_fl, nrm_fk, nrm_fs, kN2_eq, kN_eq, nrmL_nil, nrmL_cons, putL_nil, putL_cons, nxE_eq, kPr2_eq, kPr_eq, ex_par, kU2_eq, kU_eq, ex_unp, asg_nm, asg_tp, kPp_eq, asg_ppE, asgN_nil, asgN_cons, kSb2_eq, kSb1_eq, kSb_eq, ex_sub, kAp_eq, ex_app, kIn3_eq, kIn2_eq, kIn_eq, ex_ins, exE_eq, ex_expr, rtE_eq, ex_ret, kIf2_true, kIf2_false, kIf_eq, ex_ite, kFo2_eq, kFo_eq, ex_for, ex_whl, forGo_nil, kFg_nx, kFg_rt, kXs_nx, kXs_rt, exL_nil, exL_cons, kRun2_eq, kRun_nx, kRun_rt, run_eq, fin_dat, fin_new, finS_dat, finS_own, fin_slot, outs_nil, outs_cons, par_dat, par_own, par_scr, par_no, freeS_eq, frS_eq, ownS_eq, owS_own, ownL_eq, olS_own, wip_nil, wip_cons, unwip_nil, unwip_cons, wkS_no, wkS_dat, wipOk_eq, lkS_own, lkS_dat, lkS_scr, lockS_slot, lockS_dat, lockS_new, lock_none, lock_some, unlock_none, unlock_some, seqOf_l, seqOf_t, kSb3_S, sbS_0, sbS_1, sbS_d, kAp2_S, apS_l, kIn4_S, inS_l, stG_eq, kWp_eq, whC_eq, kWh_nx, kWh_rt, kW1_t, kW1_f, bo_add, bo_sub, bo_mul, bo_fd, bo_mod, bo_cat, bo_catT, bo_cats, co_lt, co_le, co_gt, co_ge, co_isN, co_isnotN, bi_abs, bi_lenL, bi_lenT, bi_lenS, bi_lenR, bi_min, bi_tupL, bi_tupT, bi_lstL, bi_lstT, ix_l, ix_t, ix_r, atI_n0, atI_n1, atI_n2, atI_n3, sl_l, sl_t, isN_n, isN_t, isN_l, isN_i, isN_b, isN_s, ne_tt, ne_tf, ne_ft, ne_ff, List.getElem?_cons_zero, List.getElem?_cons_succ, List.set_cons_zero, List.set_cons_succ, List.cons_append, List.nil_append, List.replicate_succ, List.replicate_zero, List.getD_cons_zero, List.getD_cons_succ, Option.bind_some, Option.map_some, Option.bind_none, Option.map_none, Bool.not_true, Bool.not_false, Bool.and_true, Bool.true_and, Bool.and_false, Bool.false_and, and_self, and_true, true_and, decide_true, decide_false, if_true, if_false, Bool.false_eq_true, List.all_cons, List.all_nil, List.length_cons, List.length_nil, List.map_cons, List.map_nil, *])
def PlusΦ (fn : List Slot → Option (R × List Slot)) : Prop := ∀ p q : Rat, Sm 3000 p → Sm 3000 q → fn [.dat (fr p), .dat (fr q)] = some (.dat (fr (p + q)), [.no, .no])
def TimesΦ (fn : List Slot → Option (R × List Slot)) : Prop := ∀ (p : Rat) (a : Int), Sm 3000 p → okI a = true → fn [.dat (fr p), .dat (.int a)] = some (.dat (fr (p * a)), [.no, .no])
def LessΦ (fn : List Slot → Option (R × List Slot)) : Prop := ∀ p q : Rat, Sm 8000 p → Sm 8000 q → fn [.dat (fr p), .dat (fr q)] = some (.dat (.bool (decide (p < q))), [.no, .no])
theorem times_ok {T : Tab} {fu : Nat} {lo : Str} (h : Fn T lo [false, false] LowΦ) : TimesΦ (run T fu 0 (cb_times lo)) := by
  intro p a hp ha
  obtain ⟨fn, hT, hfn⟩ := h
  have h1 := hp.oknum (by decide)
  have h2 := hp.okden (by decide)
  have h7 := hfn (p.num * a) p.den (den_pos p) h2
  have e := rat_mul p a 1
  rw [Int.mul_one, show Rat.divInt a 1 = (a : Rat) by rw [Rat.divInt_eq_div]; grind] at e
  rw [e] at h7
  unfold cb_times fr
  walk_at "evs"
  rfl
theorem less_ok {T : Tab} {fu : Nat} : LessΦ (run T fu 0 cb_less) := by
  intro p q hp hq
  have h1 := hp.oknum (Nat.le_refl _)
  have h2 := hp.okden (Nat.le_refl _)
  have h3 := hq.oknum (Nat.le_refl _)
  have h4 := hq.okden (Nat.le_refl _)
  unfold cb_less fr
  walk_at "evs"
  rw [decide_eq_decide.mpr (Rat.lt_iff p q)]
/-! ### lists -/
theorem lcGo_all {α : Type} {F : D → Env → Option (Option D × Env)} {enc : α → D} {env : Env} {g : α → Option D} : ∀ (xs : List α), (∀ x ∈ xs, F (enc x) env = some (g x, env)) → lcGo F (xs.map enc) env = some (xs.filterMap g, env)
  | [], _ => rfl
  | x :: xs, h => by
    rw [List.map_cons, lcGo_cons, h x List.mem_cons_self]
    simp only [Option.bind_some, kGo_eq]
    rw [lcGo_all xs fun y hy => h y (List.mem_cons_of_mem _ hy)]
    simp only [Option.map_some]
    cases hg : g x with
    | none => rw [kGoE_none, List.filterMap_cons_none hg]
    | some y => rw [kGoE_some, List.filterMap_cons_some hg]
theorem lcGo_map {α : Type} {F : D → Env → Option (Option D × Env)} {enc : α → D} {env : Env} {g : α → D} (xs : List α) (h : ∀ x ∈ xs, F (enc x) env = some (some (g x), env)) : lcGo F (xs.map enc) env = some (xs.map g, env) := by
  rw [lcGo_all xs h, show (fun x => some (g x)) = some ∘ g from rfl, List.filterMap_eq_map]
theorem lcGo_filter {α : Type} {F : D → Env → Option (Option D × Env)} {enc : α → D} {env : Env} {g : α → D} {p : α → Bool} (xs : List α) (h : ∀ x ∈ xs, F (enc x) env = some (if p x then some (g x) else none, env)) : lcGo F (xs.map enc) env = some ((xs.filter p).map g, env) := by
  rw [lcGo_all xs h]
  congr 2
  induction xs with
  | nil => rfl
  | cons x xs ih =>
    have ih := ih fun y hy => h y (List.mem_cons_of_mem _ hy)
    by_cases hp : p x = true
    · rw [List.filterMap_cons_some (b := g x) (by simp [hp]), ih, List.filter_cons_of_pos hp]; rfl
    · rw [List.filterMap_cons_none (by simp [hp]), ih, List.filter_cons_of_neg hp]
theorem allInts_map {α : Type} {f : α → Int} : ∀ (xs : List α), allInts (xs.map fun x => .int (f x)) = some (xs.map f)
  | [] => rfl
  | x :: xs => by simp [allInts, allInts_map xs]
theorem bi_sum {xs : List D} {ns : List Int} (h : allInts xs = some ns) : bi .sum [.d (.list xs)] = some (.dat (.int ns.sum)) := by simp only [bi, h, Option.map_some]
/-! ### folk -/
structure One where
  name : Str
  heavy : Int
  leap : Int
  deriving DecidableEq
def oneD (o : One) : D := .tuple [.str o.name, .int o.heavy, .int o.leap]
def folkD (fk : List One) : D := .tuple (fk.map oneD)
def strL (ns : List Str) : D := .list (ns.map .str)
def wt (c : Int) (fk : List One) : Int := c + (fk.map (·.heavy)).sum
def WeightΦ (fn : List Slot → Option (R × List Slot)) : Prop := ∀ (c : Int) (fk : List One), fn [.dat (.int c), .dat (folkD fk)] = some (.dat (.int (wt c fk)), [.no, .no])
theorem weight_ok {T : Tab} {fu : Nat} : WeightΦ (run T fu 1 cb_heavy_of) := by
  intro c fk
  have hl : ∀ env : Env, env = [Slot.dat (.int c), .dat (.tuple (fk.map oneD)), .no] → lcGo (lcF T (.idx (.var 2) (.cst (.int 1))) (.nm 2) .no [2]) (fk.map oneD) env = some (fk.map (fun o => .int o.heavy), env) := fun env he => lcGo_map fk fun o _ => by
    subst he
    unfold oneD
    walk_at "evs"
  replace hl := hl _ rfl
  have hs := bi_sum (allInts_map (f := fun o : One => o.heavy) fk)
  unfold cb_heavy_of folkD
  walk_at "evs"
  rfl
/-! ### names -/
theorem eqv_str {x y : Str} : PyData.eqv (.str x) (.str y) = decide (x = y) := by
  simp only [PyData.eqv]
  by_cases h : x = y
  · subst h; simp
  · simp [h]
theorem isIn_str {x : Str} : ∀ {ns : List Str}, isIn (.str x) (ns.map .str) = decide (x ∈ ns)
  | [] => by simp [isIn]
  | n :: ns => by
    have := isIn_str (x := x) (ns := ns)
    unfold isIn at this ⊢
    rw [List.map_cons, List.any_cons, this, eqv_str]
    by_cases h : n = x
    · subst h; simp
    · have h' : ¬ x = n := fun e => h e.symm
      simp [h, h']
theorem flat_strs : ∀ {ns : List Str}, (ns.map PyData.str).all flat = true
  | [] => rfl
  | n :: ns => by rw [List.map_cons, List.all_cons, flat_strs]; rfl
theorem co_notin {x : D} {ys : List D} (h : inOk x ys = true) : cmpop .NotIn x (.list ys) = some (!isIn x ys) := by
  cases x <;> simp only [cmpop, h, if_true]
theorem co_in {x : D} {ys : List D} (h : inOk x ys = true) : cmpop .In x (.list ys) = some (isIn x ys) := by
  cases x <;> simp only [cmpop, h, if_true]
theorem inOk_strs {x : Str} {ns : List Str} : inOk (.str x) (ns.map .str) = true := by
  unfold inOk inFlat
  rw [flat_strs]; rfl
theorem co_notin_s {x : Str} {ns : List Str} : cmpop .NotIn (.str x) (.list (ns.map .str)) = some (!decide (x ∈ ns)) := by
  rw [co_notin inOk_strs, isIn_str]
theorem co_eq_s {x y : Str} : cmpop .Eq (.str x) (.str y) = some (decide (x = y)) := by
  rw [co_eq (by unfold eqOk; apply decide_eq_true; simp [PyData.depth]), eqv_str]
def leftO (fk : List One) (ns : List Str) : List One := fk.filter fun o => !decide (o.name ∈ ns)
def LeftΦ (fn : List Slot → Option (R × List Slot)) : Prop := ∀ (fk : List One) (ns : List Str), fn [.dat (folkD fk), .dat (strL ns)] = some (.dat (folkD (leftO fk ns)), [.no, .no])
theorem left_ok {T : Tab} {fu : Nat} : LeftΦ (run T fu 1 cb_left_of) := by
  intro fk ns
  have hl : ∀ env : Env, env = [Slot.dat (.tuple (fk.map oneD)), .dat (.list (ns.map .str)), .no] → lcGo (lcF T (.var 2) (.nm 2) (.so (.cmp .NotIn (.idx (.var 2) (.cst (.int 0))) (.var 1))) [2]) (fk.map oneD) env = some ((fk.filter fun o => !decide (o.name ∈ ns)).map oneD, env) := fun env he => lcGo_filter fk fun o _ => by
    subst he
    unfold oneD
    have h := @co_notin_s o.name ns
    walk_at "evs"
    cases h2 : !decide (o.name ∈ ns) with
    | true => walk_at "evs"
    | false => walk_at "evs"
  replace hl := hl _ rfl
  unfold cb_left_of folkD strL
  walk_at "evs"
  rfl
theorem filter_one {fk : List One} {o : One} (ho : o ∈ fk) (hn : (fk.map (·.name)).Nodup) : fk.filter (fun x => decide (x.name = o.name)) = [o] := by
  induction fk with
  | nil => cases ho
  | cons x fk ih =>
    rw [List.map_cons, List.nodup_cons] at hn
    rcases List.mem_cons.mp ho with e | e
    · subst e
      rw [List.filter_cons_of_pos (by simp)]
      congr 1
      apply List.filter_eq_nil_iff.mpr
      intro y hy
      simp only [decide_eq_true_eq]
      exact fun z => hn.1 (List.mem_map.mpr ⟨y, hy, z⟩)
    · rw [List.filter_cons_of_neg, ih e hn.2]
      simp only [decide_eq_true_eq]
      exact fun z => hn.1 (List.mem_map.mpr ⟨o, e, z.symm⟩)
def OneOfΦ (fn : List Slot → Option (R × List Slot)) : Prop := ∀ (fk : List One) (o : One), o ∈ fk → (fk.map (·.name)).Nodup → fn [.dat (folkD fk), .dat (.str o.name)] = some (.dat (oneD o), [.no, .no])
theorem oneof_ok {T : Tab} {fu : Nat} : OneOfΦ (run T fu 1 cb_one_of) := by
  intro fk o ho hn
  have hl : ∀ env : Env, env = [Slot.dat (.tuple (fk.map oneD)), .dat (.str o.name), .no] → lcGo (lcF T (.var 2) (.nm 2) (.so (.cmp .Eq (.idx (.var 2) (.cst (.int 0))) (.var 1))) [2]) (fk.map oneD) env = some ((fk.filter fun x => decide (x.name = o.name)).map oneD, env) := fun env he => lcGo_filter fk fun x _ => by
    subst he
    unfold oneD
    have h := @co_eq_s x.name o.name
    walk_at "evs"
    by_cases h2 : x.name = o.name
    · walk_at "evs"
    · walk_at "evs"
  replace hl := hl _ rfl
  rw [filter_one ho hn] at hl
  unfold cb_one_of folkD
  walk_at "evs"
end Lc
/-! Draws. -/
namespace Lc
open PySem L2
local macro_rules | `(tactic| walk_at "evs") => `(tactic| simp only [rdS_dat, rdS_own, rdS_scr, loS_dat, loS_own, loS_scr, ob_l, ob_d, look_dat, look_new, look_slot, lookD_dat, lookD_new, lookD_slot, obd, b2_some, fst_eq, ev_var, ev_cst, datE_eq, ev_glo, kBin2_eq, kBin1_eq, ev_bin, kNeg_eq, ev_neg, nots_eq, truR_dat, truR_slot, truth_b, kNot_eq, ev_not, blE_eq, kCmp2_eq, kCmp1_eq, cmpB_d, cmpB_in, cmpB_ni, kDcE_eq, kDc_eq, ev_dc, dcF5_eq, dcF4_eq, dcF3_eq, dcF2_eq, dcF1_eq, dcF_eq, ev_dnew, gtO_eq, kGt3_eq, kGt2_eq, kGt1_eq, kGt_eq, isDic_k, ev_getD, kL2e_eq, kL2_eq, ev_lc2, l2F3_eq, l2F2_eq, l2F1_eq, l2F_eq, ix_k, dk_str, dk_int, ev_cmp, kCh4_eq, kCh3_true, kCh3_false, kCh2_eq, kCh1_eq, ev_chain, kIte2_true, kIte2_false, kIte_eq, ev_ite, ev_and, ev_or, kTru_eq, evAnd_one, evOr_one, kAnd2_true, kAnd2_false, kAnd_eq, evAnd_cons, kOr2_true, kOr2_false, kOr_eq, evOr_cons, consE_eq, kL_eq, evL_nil, evL_cons, frz_dat, frz_new, fzS_dat, fzS_own, frz_slot, kF2_eq, kF_eq, frzL_nil, frzL_cons, kTup2_eq, kTup_eq, ev_tup, kLst2_eq, kLst_eq, ev_lst, ixOb_eq, kIx2_eq, kIx_eq, ev_idx, kO_eq, evO_no, evO_so, kSl3_eq, kSl2_eq, kSl_eq, ev_sl, kRev_eq, ev_rev, kC4_dat, kC4_new, kC3_eq, kC2_eq, kC_eq, ev_callE, kP_eq, kPs_eq, kPf_eq, pass_nil, pass_dat, pass_new, pass_newT, psS_scr, psS_dat, psS_own, pass_slotF, ptS_own, ptS_own0, pass_slotT, noS_nil, noS_dat, noS_new, noS_slot, back_nil, back_f, back_new, bkS_own, back_t, kOb2_eq, kOb_eq, lookL_nil, lookL_cons, kB2_eq, kB_eq, ev_blt, isiE_eq, kIs_eq, ev_isi, kLcE_eq, kLc_eq, ev_lc, lcGo_nil, kGoE_some, kGoE_none, kGo_eq, lcGo_cons, evC_no, evC_so, lcF4_eq, lcF3_eq, lcF2_true, lcF2_false, lcF1_eq, lcF_eq, kSq2_eq, kSq1_eq, kSq_eq, evSrc_seq, rngE_eq, kRg_eq, evSrc_rng, enumE_eq, kEn_eq, evSrc_enum, kZ4_l, kZ4_m, kZ4_t, kY4_eq, kY3_eq, kY2_eq, kY1_eq, ev_lzip, kNp_eq, asg_npE, kZ3_eq, kZ2_eq, kZ1_eq, evSrc_zip, setE_eq, kSet_eq, ex_set, datS_eq, nrm_t, nrm_fd, nrm_fl, nrm_fk, nrm_fs, kN2_eq, kN_eq, nrmL_nil, nrmL_cons, putL_nil, putL_cons, nxE_eq, kPr2_eq, kPr_eq, ex_par, kU2_eq, kU_eq, ex_unp, asg_nm, asg_tp, kPp_eq, asg_ppE, asgN_nil, asgN_cons, kSb2_eq, kSb1_eq, kSb_eq, ex_sub, kAp_eq, ex_app, kIn3_eq, kIn2_eq, kIn_eq, ex_ins, exE_eq, ex_expr, rtE_eq, ex_ret, kIf2_true, kIf2_false, kIf_eq, ex_ite, kFo2_eq, kFo_eq, ex_for, ex_whl, forGo_nil, kFg_nx, kFg_rt, kXs_nx, kXs_rt, exL_nil, exL_cons, kRun2_eq, kRun_nx, kRun_rt, run_eq, fin_dat, fin_new, finS_dat, finS_own, fin_slot, outs_nil, outs_cons, par_dat, par_own, par_scr, par_no, freeS_eq, frS_eq, ownS_eq, owS_own, ownL_eq, olS_own, wip_nil, wip_cons, unwip_nil, unwip_cons, wkS_no, wkS_dat, wipOk_eq, lkS_own, lkS_dat, lkS_scr, lockS_slot, lockS_dat, lockS_new, lock_none, lock_some, unlock_none, unlock_some, seqOf_l, seqOf_t, kSb3_S, sbS_0, sbS_1, sbS_d, kAp2_S, apS_l, kIn4_S, inS_l, stG_eq, kWp_eq, whC_eq, kWh_nx, kWh_rt, kW1_t, kW1_f, bo_add, bo_sub, bo_mul, bo_fd, bo_mod, bo_cat, bo_catT, bo_cats, co_lt, co_le, co_gt, co_ge, co_isN, co_isnotN, bi_abs, bi_lenL, bi_lenT, bi_lenS, bi_lenR, bi_min, bi_tupL, bi_tupT, bi_lstL, bi_lstT, ix_l, ix_t, ix_r, atI_n0, atI_n1, atI_n2, atI_n3, sl_l, sl_t, isN_n, isN_t, isN_l, isN_i, isN_b, isN_s, ne_tt, ne_tf, ne_ft, ne_ff, List.getElem?_cons_zero, List.getElem?_cons_succ, List.set_cons_zero, List.set_cons_succ, List.cons_append, List.nil_append, List.replicate_succ, List.replicate_zero, List.getD_cons_zero, List.getD_cons_succ, Option.bind_some, Option.map_some, Option.bind_none, Option.map_none, Bool.not_true, Bool.not_false, Bool.and_true, Bool.true_and, Bool.and_false, Bool.false_and, and_self, and_true, true_and, decide_true, decide_false, if_true, if_false, Bool.false_eq_true, List.all_cons, List.all_nil, List.length_cons, List.length_nil, List.map_cons, List.map_nil, *])
structure Bag where
  a : Int
  b : Int
  ha : 0 ≤ a
  hb : 0 ≤ b
  hb2 : b < 2147483647
def Bag.c (g : Bag) : C := .l [.int g.a, .int g.b]
def tkV (g : Bag) (m : Int) : Int := if 0 < g.a then g.a % m else g.b * 48271 % 2147483647 * (g.b * 48271 % 2147483647) % 2147483629 / 64 % m
theorem tkV_nonneg (g : Bag) {m : Int} (h : 0 < m) : 0 ≤ tkV g m := by
  unfold tkV; split <;> exact Int.emod_nonneg _ (by omega)
theorem tkV_lt (g : Bag) {m : Int} (h : 0 < m) : tkV g m < m := by
  unfold tkV; split <;> exact Int.emod_lt_of_pos _ h
def tkB (g : Bag) (m : Int) : Bag := if h : 0 < g.a ∧ 0 < m then ⟨g.a / m, g.b, Int.ediv_nonneg (by omega) (by omega), g.hb, g.hb2⟩ else ⟨g.a, g.b * 48271 % 2147483647, g.ha, Int.emod_nonneg _ (by decide), Int.emod_lt_of_pos _ (by decide)⟩
def TakeΦ (fn : List Slot → Option (R × List Slot)) : Prop := ∀ (g : Bag) (m : Int), 0 < m → okI m = true → fn [.own true g.c, .dat (.int m)] = some (.dat (.int (tkV g m)), [.own true (tkB g m).c, .no])
theorem take_ok {T : Tab} {fu : Nat} : TakeΦ (run T fu 1 cb_take) := by
  intro g m h0 hm
  have k1 : okI 48271 = true := by decide +kernel
  have k2 : okI 64 = true := by decide +kernel
  have k3 : okI g.b = true := okI_64 (by have := g.hb; omega) (by have := g.hb2; omega)
  have l1 := Int.emod_nonneg (g.b * 48271) (show (2147483647 : Int) ≠ 0 by decide)
  have l2 := Int.emod_lt_of_pos (g.b * 48271) (show (0 : Int) < 2147483647 by decide)
  have k4 : okI (g.b * 48271 % 2147483647) = true := okI_64 (by omega) (by omega)
  have z1 : (0 : Int) < 2147483647 := by decide
  have z2 : (0 : Int) < 2147483629 := by decide
  have z3 : (0 : Int) < 64 := by decide
  by_cases ha : 0 < g.a
  · have e1 : tkV g m = g.a % m := by unfold tkV; rw [if_pos ha]
    have e2 : (tkB g m).c = .l [.int (g.a / m), .int g.b] := by unfold tkB Bag.c; rw [dif_pos ⟨ha, h0⟩]
    rw [e1, e2]
    unfold cb_take Bag.c
    walk_at "evs"
  · have e1 : tkV g m = g.b * 48271 % 2147483647 * (g.b * 48271 % 2147483647) % 2147483629 / 64 % m := by unfold tkV; rw [if_neg ha]
    have e2 : (tkB g m).c = .l [.int g.a, .int (g.b * 48271 % 2147483647)] := by unfold tkB Bag.c; rw [dif_neg (fun z => ha z.1)]
    rw [e1, e2]
    clear e1 e2
    unfold cb_take Bag.c
    walk_at "evs"
def BagΦ (fn : List Slot → Option (R × List Slot)) : Prop := ∀ (ns : List Int) (k : Nat), k < 1000 → ∃ g : Bag, fn [.scr ns, .dat (.int k)] = some (.new g.c, [.scr ns, .no])
theorem bo_pow18 : binop .Pow (.int 10) (.int 18) = some (.dat (.int (10 ^ 18))) := by
  simp only [binop]
  rw [if_pos (by decide)]; rfl
theorem bag_ok {T : Tab} {fu : Nat} : BagΦ (run T fu 1 cb_bag) := by
  intro ns k hk
  have k1 : okI 7919 = true := by decide +kernel
  have k2 : okI 104729 = true := by decide +kernel
  have k3 : okI (k : Int) = true := okI_64 (by omega) (by omega)
  have z1 : (0 : Int) < 2147483646 := by decide
  have p18 := bo_pow18
  have l2 : (2 : Nat) ≤ 1000 := by decide
  by_cases hl : k < ns.length
  · have hl' : (k : Int) < (ns.length : Int) := by omega
    have hat := atI_nat (xs := ns) hl
    generalize hn : ns[k] = nk at hat
    clear hn
    obtain ⟨cell, hcell⟩ : ∃ cell, cell = (if nk < 0 then -nk else nk) := ⟨_, rfl⟩
    have hc : 0 ≤ cell := by rw [hcell]; split <;> omega
    replace hcell := hcell.symm
    by_cases hlt : cell < 10 ^ 18
    · have k4 : okI cell = true := okI_64 (by omega) (by omega)
      have l1 := Int.emod_nonneg (cell * 7919 + 104729 * (k : Int)) (show (2147483646 : Int) ≠ 0 by decide)
      have l3 := Int.emod_lt_of_pos (cell * 7919 + 104729 * (k : Int)) z1
      refine ⟨⟨0, 1 + (cell * 7919 + 104729 * (k : Int)) % 2147483646, by omega, by omega, by omega⟩, ?_⟩
      unfold Bag.c cb_bag
      walk_at "evs"
    · have l1 := Int.emod_nonneg (cell + (k : Int)) (show (2147483646 : Int) ≠ 0 by decide)
      have l3 := Int.emod_lt_of_pos (cell + (k : Int)) z1
      refine ⟨⟨cell, 1 + (cell + (k : Int)) % 2147483646, hc, by omega, by omega⟩, ?_⟩
      unfold Bag.c cb_bag
      walk_at "evs"
  · have hl' : ¬ (k : Int) < (ns.length : Int) := by omega
    have k4 : okI 0 = true := by decide +kernel
    have z2 : (0 : Int) < 10 ^ 18 := by decide
    have l1 := Int.emod_nonneg (0 * 7919 + 104729 * (k : Int)) (show (2147483646 : Int) ≠ 0 by decide)
    have l3 := Int.emod_lt_of_pos (0 * 7919 + 104729 * (k : Int)) z1
    refine ⟨⟨0, 1 + (0 * 7919 + 104729 * (k : Int)) % 2147483646, by omega, by omega, by omega⟩, ?_⟩
    unfold Bag.c cb_bag
    walk_at "evs"
/-! ### drawn carts and folk -/
def sel3 (a b c : Int) (v : Int) : Int := if v = 0 then a else if v = 1 then b else c
theorem at3 {a b c : Int} {g : Bag} : L2.atI [PyData.int a, .int b, .int c] (tkV g 3) = some (.int (sel3 a b c (tkV g 3))) := by
  have h1 := tkV_lt g (m := 3) (by omega)
  have h2 := tkV_nonneg g (m := 3) (by omega)
  unfold sel3
  by_cases e0 : tkV g 3 = 0
  · rw [if_pos e0, e0]; exact atI_n0
  · by_cases e1 : tkV g 3 = 1
    · rw [if_neg e0, if_pos e1, e1]; exact atI_n1
    · have e2 : tkV g 3 = 2 := by omega
      rw [if_neg e0, if_neg e1, e2]; exact atI_n2
def sel2 (a b : Int) (v : Int) : Int := if v = 0 then a else b
theorem at2 {a b : Int} {g : Bag} : L2.atI [PyData.int a, .int b] (tkV g 2) = some (.int (sel2 a b (tkV g 2))) := by
  have h1 := tkV_lt g (m := 2) (by omega)
  have h2 := tkV_nonneg g (m := 2) (by omega)
  unfold sel2
  by_cases e0 : tkV g 2 = 0
  · rw [if_pos e0, e0]; exact atI_n0
  · have e1 : tkV g 2 = 1 := by omega
    rw [if_neg e0, e1]; exact atI_n1
def CartΦ (fn : List Slot → Option (R × List Slot)) : Prop := ∀ g : Bag, ∃ (c : Int) (g' : Bag), 1 ≤ c ∧ c ≤ 1000 ∧ fn [.own true g.c] = some (.dat (.int c), [.own true g'.c])
theorem cart_ok {T : Tab} {fu : Nat} {tk : Str} (h : Fn T tk [true, false] TakeΦ) : CartΦ (run T fu 0 (cb_cart tk)) := by
  intro g
  obtain ⟨fn, hT, hfn⟩ := h
  have k3 : okI 3 = true := by decide +kernel
  have h1 := hfn g 3 (by decide) k3
  have hs : 0 < sel3 5 60 1000 (tkV g 3) ∧ sel3 5 60 1000 (tkV g 3) ≤ 1000 := by unfold sel3; split <;> (try split) <;> omega
  have h2 := hfn (tkB g 3) (sel3 5 60 1000 (tkV g 3)) hs.1 (okI_64 (by omega) (by omega))
  have l3 := tkV_lt (tkB g 3) hs.1
  have l4 := tkV_nonneg (tkB g 3) hs.1
  refine ⟨1 + tkV (tkB g 3) (sel3 5 60 1000 (tkV g 3)), tkB (tkB g 3) (sel3 5 60 1000 (tkV g 3)), by omega, by omega, ?_⟩
  have a3 := @at3 5 60 1000 g
  have e3 : (3 : Nat) ≤ 1000 := by decide
  clear hfn hs l3 l4
  unfold cb_cart
  walk_at "evs"
end Lc
/-! Drawn folk. -/
namespace Lc
open PySem L2
local macro_rules | `(tactic| walk_at "evs") => `(tactic| simp only [rdS_dat, rdS_own, rdS_scr, loS_dat, loS_own, loS_scr, ob_l, ob_d, look_dat, look_new, look_slot, lookD_dat, lookD_new, lookD_slot, obd, b2_some, fst_eq, ev_var, ev_cst, datE_eq, ev_glo, kBin2_eq, kBin1_eq, ev_bin, kNeg_eq, ev_neg, nots_eq, truR_dat, truR_slot, truth_b, kNot_eq, ev_not, blE_eq, kCmp2_eq, kCmp1_eq, cmpB_d, cmpB_in, cmpB_ni, kDcE_eq, kDc_eq, ev_dc, dcF5_eq, dcF4_eq, dcF3_eq, dcF2_eq, dcF1_eq, dcF_eq, ev_dnew, gtO_eq, kGt3_eq, kGt2_eq, kGt1_eq, kGt_eq, isDic_k, ev_getD, kL2e_eq, kL2_eq, ev_lc2, l2F3_eq, l2F2_eq, l2F1_eq, l2F_eq, ix_k, dk_str, dk_int, ev_cmp, kCh4_eq, kCh3_true, kCh3_false, kCh2_eq, kCh1_eq, ev_chain, kIte2_true, kIte2_false, kIte_eq, ev_ite, ev_and, ev_or, kTru_eq, evAnd_one, evOr_one, kAnd2_true, kAnd2_false, kAnd_eq, evAnd_cons, kOr2_true, kOr2_false, kOr_eq, evOr_cons, consE_eq, kL_eq, evL_nil, evL_cons, frz_dat, frz_new, fzS_dat, fzS_own, frz_slot, kF2_eq, kF_eq, frzL_nil, frzL_cons, kTup2_eq, kTup_eq, ev_tup, kLst2_eq, kLst_eq, ev_lst, ixOb_eq, kIx2_eq, kIx_eq, ev_idx, kO_eq, evO_no, evO_so, kSl3_eq, kSl2_eq, kSl_eq, ev_sl, kRev_eq, ev_rev, kC4_dat, kC4_new, kC3_eq, kC2_eq, kC_eq, ev_callE, kP_eq, kPs_eq, kPf_eq, pass_nil, pass_dat, pass_new, pass_newT, psS_scr, psS_dat, psS_own, pass_slotF, ptS_own, ptS_own0, pass_slotT, noS_nil, noS_dat, noS_new, noS_slot, back_nil, back_f, back_new, bkS_own, back_t, kOb2_eq, kOb_eq, lookL_nil, lookL_cons, kB2_eq, kB_eq, ev_blt, isiE_eq, kIs_eq, ev_isi, kLcE_eq, kLc_eq, ev_lc, lcGo_nil, kGoE_some, kGoE_none, kGo_eq, lcGo_cons, evC_no, evC_so, lcF4_eq, lcF3_eq, lcF2_true, lcF2_false, lcF1_eq, lcF_eq, kSq2_eq, kSq1_eq, kSq_eq, evSrc_seq, rngE_eq, kRg_eq, evSrc_rng, enumE_eq, kEn_eq, evSrc_enum, kZ4_l, kZ4_m, kZ4_t, kY4_eq, kY3_eq, kY2_eq, kY1_eq, ev_lzip, kNp_eq, asg_npE, kZ3_eq, kZ2_eq, kZ1_eq, evSrc_zip, setE_eq, kSet_eq, ex_set, datS_eq, nrm_t, nrm_fd, nrm_fl, nrm_fk, nrm_fs, kN2_eq, kN_eq, nrmL_nil, nrmL_cons, putL_nil, putL_cons, nxE_eq, kPr2_eq, kPr_eq, ex_par, kU2_eq, kU_eq, ex_unp, asg_nm, asg_tp, kPp_eq, asg_ppE, asgN_nil, asgN_cons, kSb2_eq, kSb1_eq, kSb_eq, ex_sub, kAp_eq, ex_app, kIn3_eq, kIn2_eq, kIn_eq, ex_ins, exE_eq, ex_expr, rtE_eq, ex_ret, kIf2_true, kIf2_false, kIf_eq, ex_ite, kFo2_eq, kFo_eq, ex_for, ex_whl, forGo_nil, kFg_nx, kFg_rt, kXs_nx, kXs_rt, exL_nil, exL_cons, kRun2_eq, kRun_nx, kRun_rt, run_eq, fin_dat, fin_new, finS_dat, finS_own, fin_slot, outs_nil, outs_cons, par_dat, par_own, par_scr, par_no, freeS_eq, frS_eq, ownS_eq, owS_own, ownL_eq, olS_own, wip_nil, wip_cons, unwip_nil, unwip_cons, wkS_no, wkS_dat, wipOk_eq, lkS_own, lkS_dat, lkS_scr, lockS_slot, lockS_dat, lockS_new, lock_none, lock_some, unlock_none, unlock_some, seqOf_l, seqOf_t, kSb3_S, sbS_0, sbS_1, sbS_d, kAp2_S, apS_l, kIn4_S, inS_l, stG_eq, kWp_eq, whC_eq, kWh_nx, kWh_rt, kW1_t, kW1_f, bo_add, bo_sub, bo_mul, bo_fd, bo_mod, bo_cat, bo_catT, bo_cats, co_lt, co_le, co_gt, co_ge, co_isN, co_isnotN, bi_abs, bi_lenL, bi_lenT, bi_lenS, bi_lenR, bi_min, bi_tupL, bi_tupT, bi_lstL, bi_lstT, ix_l, ix_t, ix_r, atI_n0, atI_n1, atI_n2, atI_n3, sl_l, sl_t, isN_n, isN_t, isN_l, isN_i, isN_b, isN_s, ne_tt, ne_tf, ne_ft, ne_ff, List.getElem?_cons_zero, List.getElem?_cons_succ, List.set_cons_zero, List.set_cons_succ, List.cons_append, List.nil_append, List.replicate_succ, List.replicate_zero, List.getD_cons_zero, List.getD_cons_succ, Option.bind_some, Option.map_some, Option.bind_none, Option.map_none, Bool.not_true, Bool.not_false, Bool.and_true, Bool.true_and, Bool.and_false, Bool.false_and, and_self, and_true, true_and, decide_true, decide_false, if_true, if_false, Bool.false_eq_true, List.all_cons, List.all_nil, List.length_cons, List.length_nil, List.map_cons, List.map_nil, *])
theorem cut_to {α : Type} (xs : List α) {j : Int} (h : 0 ≤ j) : cut xs none (some j) = xs.take j.toNat := by
  show (xs.drop 0).take ((if j < 0 then (j + (xs.length : Int)).toNat else min j.toNat xs.length) - 0) = _
  rw [if_neg (by omega), List.drop_zero, Nat.sub_zero]
  exact (List.take_eq_take_min ..).symm
structure GoodOne (o : One) : Prop where
  h1 : 1 ≤ o.heavy
  h2 : o.heavy ≤ 200
  l1 : 1 ≤ o.leap
  l2 : o.leap ≤ 100
abbrev folkBody (tk : Str) : SL := (.cons (.set 6 false (.bin .Add (.cst (.int 1)) (.call tk (.cons (.var 0) (.cons (.idx (.lst (.cons (.cst (.int 5)) (.cons (.cst (.int 60)) (.cons (.cst (.int 200)) .nil)))) (.call tk (.cons (.var 0) (.cons (.cst (.int 3)) .nil)))) .nil))))) (.cons (.app 2 (.tup (.cons (.var 5) (.cons (.var 6) (.cons (.ite (.var 4) (.var 3) (.bin .Add (.cst (.int 1)) (.call tk (.cons (.var 0) (.cons (.idx (.lst (.cons (.cst (.int 5)) (.cons (.cst (.int 100)) .nil))) (.call tk (.cons (.var 0) (.cons (.cst (.int 2)) .nil)))) .nil))))) .nil))))) .nil))
theorem folk_loop {T : Tab} {fu : Nat} {tk : Str} (h : Fn T tk [true, false] TakeΦ) {most fast : Int} {alike : Bool} (hf1 : 1 ≤ fast) (hf2 : fast ≤ 100) : ∀ (xs : List Str) (g : Bag) (acc : List D), acc.length + xs.length ≤ 100 →
    ∃ (g' : Bag) (fk : List One), fk.map (·.name) = xs ∧ (∀ o ∈ fk, GoodOne o) ∧ forGo (stF T fu (.nm 5) [5, 6] (folkBody tk)) (xs.map .str) [.own true g.c, .dat (.int most), .own false (.l acc), .dat (.int fast), .dat (.bool alike), .no, .no] =
      some (.nx, [.own true g'.c, .dat (.int most), .own false (.l (acc ++ fk.map oneD)), .dat (.int fast), .dat (.bool alike), .no, .no]) := by
  obtain ⟨fn, hT, hfn⟩ := h
  intro xs
  induction xs with
  | nil => exact fun g acc _ => ⟨g, [], rfl, (fun o ho => nomatch ho), by rw [List.map_nil, forGo_nil, List.map_nil, List.append_nil]⟩
  | cons x xs ih =>
    intro g acc hl
    have hl : acc.length + (xs.length + 1) ≤ 100 := hl
    have k3 : okI 3 = true := by decide +kernel
    have k2 : okI 2 = true := by decide +kernel
    have h1 := hfn g 3 (by decide) k3
    have hs : 0 < sel3 5 60 200 (tkV g 3) ∧ sel3 5 60 200 (tkV g 3) ≤ 200 := by unfold sel3; split <;> (try split) <;> omega
    have h2 := hfn (tkB g 3) (sel3 5 60 200 (tkV g 3)) hs.1 (okI_64 (by omega) (by omega))
    have b1 := tkV_lt (tkB g 3) hs.1
    have b2 := tkV_nonneg (tkB g 3) hs.1
    have a3 := @at3 5 60 200 g
    have e3 : (3 : Nat) ≤ 1000 := by decide
    have e2 : (2 : Nat) ≤ 1000 := by decide
    generalize hw : 1 + tkV (tkB g 3) (sel3 5 60 200 (tkV g 3)) = hv at b1 b2
    have hv1 : 1 ≤ hv ∧ hv ≤ 200 := by omega
    generalize hg1 : tkB (tkB g 3) (sel3 5 60 200 (tkV g 3)) = g1 at h2
    have hz : acc.length < sizeLine := Nat.lt_of_le_of_lt (show acc.length ≤ 100 by omega) (by decide)
    cases alike with
    | true =>
      obtain ⟨g', fk, f1, f2, f3⟩ := ih g1 (acc ++ [oneD ⟨x, hv, fast⟩]) (by simp; omega)
      refine ⟨g', ⟨x, hv, fast⟩ :: fk, by rw [List.map_cons, f1], fun o ho => ?_, ?_⟩
      · rcases List.mem_cons.mp ho with e | e
        · subst e; exact ⟨hv1.1, hv1.2, hf1, hf2⟩
        · exact f2 o e
      · rw [List.append_assoc] at f3
        rw [List.map_cons, forGo_cons, stF_eq]
        unfold oneD at f3
        clear ih hfn hs b1 b2 hv1
        walk_at "evs"
        rfl
    | false =>
      have h3 := hfn g1 2 (by decide) k2
      have hs2 : 0 < sel2 5 100 (tkV g1 2) ∧ sel2 5 100 (tkV g1 2) ≤ 100 := by unfold sel2; split <;> omega
      have h4 := hfn (tkB g1 2) (sel2 5 100 (tkV g1 2)) hs2.1 (okI_64 (by omega) (by omega))
      have c1 := tkV_lt (tkB g1 2) hs2.1
      have c2 := tkV_nonneg (tkB g1 2) hs2.1
      have a2 := @at2 5 100 g1
      generalize hw2 : 1 + tkV (tkB g1 2) (sel2 5 100 (tkV g1 2)) = lv at c1 c2
      have lv1 : 1 ≤ lv ∧ lv ≤ 100 := by omega
      generalize hg2 : tkB (tkB g1 2) (sel2 5 100 (tkV g1 2)) = g2 at h4
      obtain ⟨g', fk, f1, f2, f3⟩ := ih g2 (acc ++ [oneD ⟨x, hv, lv⟩]) (by simp; omega)
      refine ⟨g', ⟨x, hv, lv⟩ :: fk, by rw [List.map_cons, f1], fun o ho => ?_, ?_⟩
      · rcases List.mem_cons.mp ho with e | e
        · subst e; exact ⟨hv1.1, hv1.2, lv1.1, lv1.2⟩
        · exact f2 o e
      · rw [List.append_assoc] at f3
        rw [List.map_cons, forGo_cons, stF_eq]
        unfold oneD at f3
        clear ih hfn hs b1 b2 hv1 hs2 c1 c2 lv1
        walk_at "evs"
        rfl
def names7 : List Str := ["ann", "bo", "cy", "dee", "eli", "fay", "gus"]
structure GoodFolk (fk : List One) : Prop where
  one : ∀ o ∈ fk, GoodOne o
  nm : fk.map (·.name) = names7.take fk.length
  pos : 1 ≤ fk.length
  le : fk.length ≤ 7
def FolkΦ (fn : List Slot → Option (R × List Slot)) : Prop := ∀ (g : Bag) (most : Nat), 1 ≤ most → most ≤ 7 → ∃ (fk : List One) (g' : Bag), GoodFolk fk ∧ fk.length ≤ most ∧ fn [.own true g.c, .dat (.int most)] = some (.dat (folkD fk), [.own true g'.c, .no])
theorem folk_ok {T : Tab} {fu : Nat} {tk : Str} (h : Fn T tk [true, false] TakeΦ) : FolkΦ (run T fu 5 (cb_folk tk)) := by
  intro g most hm1 hm2
  have hloop := @folk_loop T fu tk h most
  obtain ⟨fn, hT, hfn⟩ := h
  have k3 : okI 3 = true := by decide +kernel
  have k2 : okI 2 = true := by decide +kernel
  have h1 := hfn g 2 (by decide) k2
  have a2 := @at2 4 100 g
  have hs : 0 < sel2 4 100 (tkV g 2) ∧ sel2 4 100 (tkV g 2) ≤ 100 := by unfold sel2; split <;> omega
  have h2 := hfn (tkB g 2) (sel2 4 100 (tkV g 2)) hs.1 (okI_64 (by omega) (by omega))
  have b1 := tkV_lt (tkB g 2) hs.1
  have b2 := tkV_nonneg (tkB g 2) hs.1
  generalize hw : 1 + tkV (tkB g 2) (sel2 4 100 (tkV g 2)) = fast at b1 b2
  have hf : 1 ≤ fast ∧ fast ≤ 100 := by omega
  generalize hg1 : tkB (tkB g 2) (sel2 4 100 (tkV g 2)) = g1 at h2
  have h3 := hfn g1 3 (by decide) k3
  generalize hg2 : tkB g1 3 = g2 at h3
  have h4 := hfn g2 most (by omega) (okI_64 (by omega) (by omega))
  have c1 := tkV_lt g2 (m := (most : Int)) (by omega)
  have c2 := tkV_nonneg g2 (m := (most : Int)) (by omega)
  have hcut := cut_to (names7.map PyData.str) (j := 1 + tkV g2 most) (by omega)
  rw [← List.map_take] at hcut
  generalize hg3 : tkB g2 most = g3 at h4
  have hle : (names7.take (1 + tkV g2 most).toNat).length = (1 + tkV g2 most).toNat := by
    rw [List.length_take]; show min _ 7 = _; omega
  obtain ⟨g', fk, f1, f2, f3⟩ := hloop (alike := decide (tkV g1 3 = 0)) hf.1 hf.2 (names7.take (1 + tkV g2 most).toNat) g3 [] (by rw [hle]; simp; omega)
  have hlen : fk.length = (1 + tkV g2 most).toNat := by rw [← hle, ← f1, List.length_map]
  refine ⟨fk, g', ⟨f2, by rw [f1, hlen], by omega, by omega⟩, by omega, ?_⟩
  have heq : cmpop .Eq (.int (tkV g1 3)) (.int 0) = some (decide (tkV g1 3 = 0)) := by
    rw [co_eq (by unfold eqOk; apply decide_eq_true; simp [PyData.depth])]
    congr 1
  rw [List.nil_append] at f3
  unfold names7 at hcut f3
  simp only [List.map_cons, List.map_nil] at hcut
  have e2 : (2 : Nat) ≤ 1000 := by decide
  have e7 : (7 : Nat) ≤ 1000 := by decide
  have e0 : (0 : Nat) ≤ 1000 := by decide
  clear hloop hfn hs b1 b2 hf c1 c2 hle hlen f1 f2
  unfold cb_folk folkD
  walk_at "evs"
end Lc
/-! Unseen weights and leaps. -/
namespace Lc
open PySem L2
local macro_rules | `(tactic| walk_at "evs") => `(tactic| simp only [rdS_dat, rdS_own, rdS_scr, loS_dat, loS_own, loS_scr, ob_l, ob_d, look_dat, look_new, look_slot, lookD_dat, lookD_new, lookD_slot, obd, b2_some, fst_eq, ev_var, ev_cst, datE_eq, ev_glo, kBin2_eq, kBin1_eq, ev_bin, kNeg_eq, ev_neg, nots_eq, truR_dat, truR_slot, truth_b, kNot_eq, ev_not, blE_eq, kCmp2_eq, kCmp1_eq, cmpB_d, cmpB_in, cmpB_ni, kDcE_eq, kDc_eq, ev_dc, dcF5_eq, dcF4_eq, dcF3_eq, dcF2_eq, dcF1_eq, dcF_eq, ev_dnew, gtO_eq, kGt3_eq, kGt2_eq, kGt1_eq, kGt_eq, isDic_k, ev_getD, kL2e_eq, kL2_eq, ev_lc2, l2F3_eq, l2F2_eq, l2F1_eq, l2F_eq, ix_k, dk_str, dk_int, ev_cmp, kCh4_eq, kCh3_true, kCh3_false, kCh2_eq, kCh1_eq, ev_chain, kIte2_true, kIte2_false, kIte_eq, ev_ite, ev_and, ev_or, kTru_eq, evAnd_one, evOr_one, kAnd2_true, kAnd2_false, kAnd_eq, evAnd_cons, kOr2_true, kOr2_false, kOr_eq, evOr_cons, consE_eq, kL_eq, evL_nil, evL_cons, frz_dat, frz_new, fzS_dat, fzS_own, frz_slot, kF2_eq, kF_eq, frzL_nil, frzL_cons, kTup2_eq, kTup_eq, ev_tup, kLst2_eq, kLst_eq, ev_lst, ixOb_eq, kIx2_eq, kIx_eq, ev_idx, kO_eq, evO_no, evO_so, kSl3_eq, kSl2_eq, kSl_eq, ev_sl, kRev_eq, ev_rev, kC4_dat, kC4_new, kC3_eq, kC2_eq, kC_eq, ev_callE, kP_eq, kPs_eq, kPf_eq, pass_nil, pass_dat, pass_new, pass_newT, psS_scr, psS_dat, psS_own, pass_slotF, ptS_own, ptS_own0, pass_slotT, noS_nil, noS_dat, noS_new, noS_slot, back_nil, back_f, back_new, bkS_own, back_t, kOb2_eq, kOb_eq, lookL_nil, lookL_cons, kB2_eq, kB_eq, ev_blt, isiE_eq, kIs_eq, ev_isi, kLcE_eq, kLc_eq, ev_lc, lcGo_nil, kGoE_some, kGoE_none, kGo_eq, lcGo_cons, evC_no, evC_so, lcF4_eq, lcF3_eq, lcF2_true, lcF2_false, lcF1_eq, lcF_eq, kSq2_eq, kSq1_eq, kSq_eq, evSrc_seq, rngE_eq, kRg_eq, evSrc_rng, enumE_eq, kEn_eq, evSrc_enum, kZ4_l, kZ4_m, kZ4_t, kY4_eq, kY3_eq, kY2_eq, kY1_eq, ev_lzip, kNp_eq, asg_npE, kZ3_eq, kZ2_eq, kZ1_eq, evSrc_zip, setE_eq, kSet_eq, ex_set, datS_eq, nrm_t, nrm_fd, nrm_fl, nrm_fk, nrm_fs, kN2_eq, kN_eq, nrmL_nil, nrmL_cons, putL_nil, putL_cons, nxE_eq, kPr2_eq, kPr_eq, ex_par, kU2_eq, kU_eq, ex_unp, asg_nm, asg_tp, kPp_eq, asg_ppE, asgN_nil, asgN_cons, kSb2_eq, kSb1_eq, kSb_eq, ex_sub, kAp_eq, ex_app, kIn3_eq, kIn2_eq, kIn_eq, ex_ins, exE_eq, ex_expr, rtE_eq, ex_ret, kIf2_true, kIf2_false, kIf_eq, ex_ite, kFo2_eq, kFo_eq, ex_for, ex_whl, forGo_nil, kFg_nx, kFg_rt, kXs_nx, kXs_rt, exL_nil, exL_cons, kRun2_eq, kRun_nx, kRun_rt, run_eq, fin_dat, fin_new, finS_dat, finS_own, fin_slot, outs_nil, outs_cons, par_dat, par_own, par_scr, par_no, freeS_eq, frS_eq, ownS_eq, owS_own, ownL_eq, olS_own, wip_nil, wip_cons, unwip_nil, unwip_cons, wkS_no, wkS_dat, wipOk_eq, lkS_own, lkS_dat, lkS_scr, lockS_slot, lockS_dat, lockS_new, lock_none, lock_some, unlock_none, unlock_some, seqOf_l, seqOf_t, kSb3_S, sbS_0, sbS_1, sbS_d, kAp2_S, apS_l, kIn4_S, inS_l, stG_eq, kWp_eq, whC_eq, kWh_nx, kWh_rt, kW1_t, kW1_f, bo_add, bo_sub, bo_mul, bo_fd, bo_mod, bo_cat, bo_catT, bo_cats, co_lt, co_le, co_gt, co_ge, co_isN, co_isnotN, bi_abs, bi_lenL, bi_lenT, bi_lenS, bi_lenR, bi_min, bi_tupL, bi_tupT, bi_lstL, bi_lstT, ix_l, ix_t, ix_r, atI_n0, atI_n1, atI_n2, atI_n3, sl_l, sl_t, isN_n, isN_t, isN_l, isN_i, isN_b, isN_s, ne_tt, ne_tf, ne_ft, ne_ff, List.getElem?_cons_zero, List.getElem?_cons_succ, List.set_cons_zero, List.set_cons_succ, List.cons_append, List.nil_append, List.replicate_succ, List.replicate_zero, List.getD_cons_zero, List.getD_cons_succ, Option.bind_some, Option.map_some, Option.bind_none, Option.map_none, Bool.not_true, Bool.not_false, Bool.and_true, Bool.true_and, Bool.and_false, Bool.false_and, and_self, and_true, true_and, decide_true, decide_false, if_true, if_false, Bool.false_eq_true, List.all_cons, List.all_nil, List.length_cons, List.length_nil, List.map_cons, List.map_nil, *])
theorem num_eq (q : Rat) : (q.num : Rat) = q * (q.den : Rat) := by
  have h := Rat.num_divInt_den q
  rw [Rat.divInt_eq_div] at h
  have hd : ((q.den : Int) : Rat) ≠ 0 := by
    have := den_pos q
    intro z
    have : (q.den : Int) = 0 := by exact_mod_cast z
    omega
  have hd2 : ((q.den : Int) : Rat) = (q.den : Rat) := by norm_cast
  rw [hd2] at h hd
  generalize (q.den : Rat) = d at *
  generalize (q.num : Rat) = n at *
  grind
theorem den_ne (q : Rat) : (q.den : Rat) ≠ 0 := by
  have := q.den_nz
  exact_mod_cast this
theorem castR_pos {a : Int} (h : 0 < a) : (0 : Rat) < (a : Rat) := by exact_mod_cast h
theorem wt_left {c : Int} {fk : List One} {o : One} (ho : o ∈ fk) (hn : (fk.map (·.name)).Nodup) : wt c fk = wt c (leftO fk [o.name]) + o.heavy := by
  unfold wt leftO
  suffices h : (fk.map (·.heavy)).sum = ((fk.filter fun x => !decide (x.name ∈ [o.name])).map (·.heavy)).sum + o.heavy by omega
  induction fk with
  | nil => cases ho
  | cons x fk ih =>
    rw [List.map_cons, List.nodup_cons] at hn
    rcases List.mem_cons.mp ho with e | e
    · subst e
      rw [List.filter_cons_of_neg (by simp)]
      have : fk.filter (fun x => !decide (x.name ∈ [o.name])) = fk := by
        apply List.filter_eq_self.mpr
        intro y hy
        simp only [List.mem_singleton, Bool.not_eq_true', decide_eq_false_iff_not]
        exact fun z => hn.1 (List.mem_map.mpr ⟨y, hy, z⟩)
      rw [this]
      simp only [List.map_cons, List.sum_cons]
      omega
    · have hne : ¬ x.name = o.name := fun z => hn.1 (List.mem_map.mpr ⟨o, e, z.symm⟩)
      rw [List.filter_cons_of_pos (by simp [hne])]
      simp only [List.map_cons, List.sum_cons]
      have := ih e hn.2
      omega
theorem wt_bounds {c : Int} {fk : List One} (hc : 1 ≤ c) (hc2 : c ≤ 1000) (hf : ∀ o ∈ fk, GoodOne o) (hl : fk.length ≤ 7) : 1 ≤ wt c fk ∧ wt c fk ≤ 2400 := by
  unfold wt
  have : ∀ fk : List One, (∀ o ∈ fk, GoodOne o) → 0 ≤ (fk.map (·.heavy)).sum ∧ (fk.map (·.heavy)).sum ≤ 200 * fk.length := by
    intro fk
    induction fk with
    | nil => intro _; simp
    | cons x fk ih =>
      intro h
      have h1 := ih fun o ho => h o (List.mem_cons_of_mem _ ho)
      have h2 := h x List.mem_cons_self
      have := h2.h1
      have := h2.h2
      simp only [List.map_cons, List.sum_cons, List.length_cons]
      omega
  have := this fk hf
  omega
theorem left_good {fk : List One} {ns : List Str} (h : ∀ o ∈ fk, GoodOne o) : ∀ o ∈ leftO fk ns, GoodOne o := fun o ho => h o (List.mem_filter.mp ho).1
theorem left_length (fk : List One) (ns : List Str) : (leftO fk ns).length ≤ fk.length := List.length_filter_le _ _
theorem heavy_val {q : Rat} {r l : Int} (h : q < l) : Rat.divInt (q.num * r) (l * q.den - q.num) = q * r / (l - q) := by
  rw [Rat.divInt_eq_div]
  have e1 : ((q.num * r : Int) : Rat) = q.num * r := by norm_cast
  have e2 : ((l * q.den - q.num : Int) : Rat) = l * q.den - q.num := by
    rw [Rat.intCast_sub, Rat.intCast_mul]; norm_cast
  rw [e1, e2, num_eq q]
  have hd := den_ne q
  have hl : (l : Rat) - q ≠ 0 := by grind
  generalize (q.den : Rat) = d at *
  have : (l : Rat) * d - q * d = (l - q) * d := by grind
  rw [this]
  have : ((l : Rat) - q) * d ≠ 0 := by grind
  grind
theorem over_pos {q : Rat} {l : Int} : 0 < l * q.den - q.num ↔ q < l := by
  rw [Rat.lt_iff]
  simp
theorem leap_val {q : Rat} {w h : Int} (hh : 0 < h) : Rat.divInt (q.num * w) (q.den * h) = q * w / h := by
  rw [rat_mul, Rat.divInt_eq_div]
  have := castR_pos hh
  grind
theorem nodup_names7 : ∀ n, (names7.take n).Nodup := by
  intro n
  exact List.Nodup.sublist (List.take_sublist n names7) (by decide +kernel)
theorem GoodFolk.nd {fk : List One} (h : GoodFolk fk) : (fk.map (·.name)).Nodup := by rw [h.nm]; exact nodup_names7 _
def no4 : List Slot := [.no, .no, .no, .no]
def HeavyByΦ (fn : List Slot → Option (R × List Slot)) : Prop := ∀ (c : Int) (fk : List One) (o : One) (q : Rat), o ∈ fk → GoodFolk fk → 1 ≤ c → c ≤ 1000 → Sm 1000 q →
  fn [.dat (.int c), .dat (folkD fk), .dat (.str o.name), .dat (fr q)] = some (.dat (if q < o.leap then fr (q * (wt c (leftO fk [o.name]) : Int) / (o.leap - q)) else .none), no4)
theorem heavyby_ok {T : Tab} {fu : Nat} {hv lf oo lo : Str} (h1 : Fn T hv [false, false] WeightΦ) (h2 : Fn T lf [false, false] LeftΦ) (h3 : Fn T oo [false, false] OneOfΦ) (h4 : Fn T lo [false, false] LowΦ) : HeavyByΦ (run T fu 2 (cb_heavy_by hv lf oo lo)) := by
  intro c fk o q ho gf hc hc2 hq
  obtain ⟨f1, t1, p1⟩ := h1
  obtain ⟨f2, t2, p2⟩ := h2
  obtain ⟨f3, t3, p3⟩ := h3
  obtain ⟨f4, t4, p4⟩ := h4
  have c2 := p2 fk [o.name]
  have c1 := p1 c (leftO fk [o.name])
  have c3 := p3 fk o ho gf.nd
  have wb := wt_bounds hc hc2 (left_good (ns := [o.name]) gf.one) (Nat.le_trans (left_length _ _) gf.le)
  have go := gf.one o ho
  have gl1 := go.l1
  have gl2 := go.l2
  have k1 := hq.oknum (by decide)
  have k2 := hq.okden (by decide)
  have k3 : okI o.leap = true := okI_64 (by omega) (by omega)
  generalize hr : wt c (leftO fk [o.name]) = r at *
  have k4 : okI r = true := okI_64 (by omega) (by omega)
  have e1 : (1 : Nat) ≤ 1000 := by decide
  unfold strL at c2
  simp only [List.map_cons, List.map_nil] at c2
  unfold oneD at c3
  have sz : (o.leap * q.den - q.num).natAbs < 2 ^ 1008 := by
    have a1 : (o.leap * q.den).natAbs < 2 ^ (7 + 1000) := natAbs_mul_lt (by omega) (by simpa using hq.2)
    have a2 : (-q.num).natAbs < 2 ^ (7 + 1000) := by rw [Int.natAbs_neg]; exact Nat.lt_trans hq.1 (Nat.pow_lt_pow_right (by decide) (by decide))
    rw [Int.sub_eq_add_neg]
    exact natAbs_add_lt a1 a2
  have k5 : okI (o.leap * q.den - q.num) = true := okI_of sz (by decide)
  unfold no4
  by_cases hlt : q < o.leap
  · have hov := over_pos.mpr hlt
    have c4 := p4 (q.num * r) (o.leap * q.den - q.num) hov k5
    rw [heavy_val hlt] at c4
    clear p1 p2 p3 p4 sz wb go
    unfold cb_heavy_by
    unfold fr at *
    walk_at "evs"
  · have hov : ¬ 0 < o.leap * q.den - q.num := fun z => hlt (over_pos.mp z)
    clear p1 p2 p3 p4 sz wb go
    unfold cb_heavy_by
    unfold fr at *
    walk_at "evs"
def LeapByΦ (fn : List Slot → Option (R × List Slot)) : Prop := ∀ (c : Int) (fk : List One) (o : One) (q : Rat), o ∈ fk → GoodFolk fk → 1 ≤ c → c ≤ 1000 → Sm 1000 q →
  fn [.dat (.int c), .dat (folkD fk), .dat (.str o.name), .dat (fr q)] = some (.dat (fr (q * (wt c fk : Int) / (o.heavy : Int))), no4)
theorem leapby_ok {T : Tab} {fu : Nat} {hv oo lo : Str} (h1 : Fn T hv [false, false] WeightΦ) (h3 : Fn T oo [false, false] OneOfΦ) (h4 : Fn T lo [false, false] LowΦ) : LeapByΦ (run T fu 0 (cb_leap_by lo hv oo)) := by
  intro c fk o q ho gf hc hc2 hq
  obtain ⟨f1, t1, p1⟩ := h1
  obtain ⟨f3, t3, p3⟩ := h3
  obtain ⟨f4, t4, p4⟩ := h4
  have c1 := p1 c fk
  have c3 := p3 fk o ho gf.nd
  have wb := wt_bounds hc hc2 gf.one gf.le
  have go := gf.one o ho
  have gh1 := go.h1
  have gh2 := go.h2
  have k1 := hq.oknum (by decide)
  have k2 := hq.okden (by decide)
  have k3 : okI o.heavy = true := okI_64 (by omega) (by omega)
  generalize hr : wt c fk = r at *
  have k4 : okI r = true := okI_64 (by omega) (by omega)
  unfold oneD at c3
  have sz : ((q.den : Int) * o.heavy).natAbs < 2 ^ (1000 + 8) := natAbs_mul_lt (by simpa using hq.2) (by omega)
  have c4 := p4 (q.num * r) (q.den * o.heavy) (Int.mul_pos (den_pos q) (by omega)) (okI_of sz (by decide))
  rw [leap_val (by omega)] at c4
  clear p1 p3 p4 sz wb go
  unfold cb_leap_by no4
  unfold fr at *
  walk_at "evs"
end Lc
/-! Bodies (printed by gencb.py). -/
namespace Lc
open PySem L2
def lb_mixed_1 (n_take : Str) : SL := (.cons (.ins 2 (.call n_take (.cons (.var 0) (.cons (.bin .Add (.blt .len (.cons (.var 2) .nil)) (.cst (.int 1))) .nil))) (.var 3)) .nil)
def cb_mixed (n_take : Str) : SL := (.cons (.set 2 true (.lst .nil)) (.cons (.for_ (.nm 3) (.seq (.var 1)) (lb_mixed_1 n_take) [3]) (.cons (.ret (.var 2)) .nil)))
def lb_leaps_1 (n_mixed n_take : Str) : SL := (.cons (.set 4 false (.bin .Add (.cst (.int 1)) (.call n_take (.cons (.var 0) (.cons (.blt .min (.cons (.cst (.int 3)) (.cons (.blt .len (.cons (.var 3) .nil)) .nil))) .nil))))) (.cons (.set 6 false (.lc (.tup (.cons (.idx (.var 5) (.cst (.int 0))) (.cons (.bin .Sub (.cst (.int 1)) (.bin .Mult (.cst (.int 2)) (.call n_take (.cons (.var 0) (.cons (.cst (.int 2)) .nil))))) .nil))) (.nm 5) (.seq (.sl (.var 3) .no (.so (.var 4)))) .no [5])) (.cons (.app 2 (.blt .tuple (.cons (.blt .sorted (.cons (.var 6) .nil)) .nil))) (.cons (.set 3 false (.sl (.var 3) (.so (.var 4)) .no)) .nil))))
def cb_leaps (n_mixed n_take : Str) : SL := (.cons (.set 2 true (.lst .nil)) (.cons (.set 3 false (.sl (.call n_mixed (.cons (.var 0) (.cons (.var 1) .nil))) .no (.so (.call n_take (.cons (.var 0) (.cons (.bin .Add (.blt .len (.cons (.var 1) .nil)) (.cst (.int 1))) .nil)))))) (.cons (.whl (.cmp .NotEq (.var 3) (.lst .nil)) (lb_leaps_1 n_mixed n_take) [4, 6]) (.cons (.ret (.var 2)) .nil))))
def cb_pushed (n_plus n_lowest n_heavy_of : Str) : SL := (.cons (.set 7 false (.dc (.var 4) (.bin .Mult (.var 5) (.var 6)) (.tp [4, 5, 6]) (.seq (.var 1)) [4, 5, 6])) (.cons (.set 9 false (.blt .sum (.cons (.lc (.bin .Mult (.idx (.var 7) (.var 4)) (.var 8)) (.tp [4, 8]) (.seq (.var 3)) .no [4, 8]) .nil))) (.cons (.ret (.call n_plus (.cons (.var 2) (.cons (.call n_lowest (.cons (.bin .Sub (.cst (.int 0)) (.var 9)) (.cons (.call n_heavy_of (.cons (.var 0) (.cons (.var 1) .nil))) .nil))) .nil)))) .nil)))
def lb_steps_of_1 (n_pushed n_plus n_left_of : Str) : SL := (.cons (.set 2 false (.call n_pushed (.cons (.var 0) (.cons (.var 1) (.cons (.var 2) (.cons (.var 5) .nil)))))) (.cons (.set 9 false (.dc (.var 6) (.var 8) (.tp [6, 7, 8]) (.seq (.var 1)) [6, 7, 8])) (.cons (.app 4 (.tup (.cons (.var 2) (.cons (.lc (.tup (.cons (.var 6) (.cons (.call n_plus (.cons (.var 2) (.cons (.tup (.cons (.bin .Mult (.idx (.var 9) (.var 6)) (.var 10)) (.cons (.cst (.int 1)) .nil))) .nil))) .nil))) (.tp [6, 10]) (.seq (.var 5)) .no [6, 10]) .nil)))) (.cons (.set 1 false (.call n_left_of (.cons (.var 1) (.cons (.lc (.var 6) (.tp [6, 10]) (.seq (.var 5)) .no [6, 10]) .nil)))) .nil))))
def cb_steps_of (n_pushed n_plus n_left_of : Str) : SL := (.cons (.set 4 true (.lst .nil)) (.cons (.for_ (.nm 5) (.seq (.var 3)) (lb_steps_of_1 n_pushed n_plus n_left_of) [5, 9]) (.cons (.ret (.var 4)) .nil)))
def cb_speeds (n_steps_of : Str) : SL := (.cons (.ret (.lc (.idx (.var 4) (.cst (.int 0))) (.nm 4) (.seq (.call n_steps_of (.cons (.var 0) (.cons (.var 1) (.cons (.var 2) (.cons (.var 3) .nil)))))) .no [4])) .nil)
def cb_leapers (n_steps_of : Str) : SL := (.cons (.ret (.blt .sorted (.cons (.lc2 (.var 5) (.nm 4) (.seq (.call n_steps_of (.cons (.var 0) (.cons (.var 1) (.cons (.var 2) (.cons (.var 3) .nil)))))) (.nm 5) (.idx (.var 4) (.cst (.int 1))) [4, 5] [5]) .nil))) .nil)
def lb_behind_1 (n_times n_weight n_lowest n_plus : Str) : SL := (.cons (.set 6 false (.call n_plus (.cons (.var 6) (.cons (.tup (.cons (.bin .Sub (.cst (.int 0)) (.bin .Mult (.bin .Mult (.idx (.idx (.var 5) (.var 7)) (.cst (.int 1))) (.idx (.idx (.var 5) (.var 7)) (.cst (.int 2)))) (.var 8))) (.cons (.cst (.int 1)) .nil))) .nil)))) .nil)
def cb_behind (n_times n_weight n_lowest n_plus : Str) : SL := (.cons (.set 5 false (.blt .dict (.cons (.lc (.tup (.cons (.idx (.var 4) (.cst (.int 0))) (.cons (.var 4) .nil))) (.nm 4) (.seq (.var 1)) .no [4]) .nil))) (.cons (.set 6 false (.call n_times (.cons (.var 2) (.cons (.call n_weight (.cons (.var 0) (.cons (.var 1) .nil))) .nil)))) (.cons (.for_ (.tp [7, 8]) (.seq (.var 3)) (lb_behind_1 n_times n_weight n_lowest n_plus) [7, 8]) (.cons (.ret (.call n_lowest (.cons (.idx (.var 6) (.cst (.int 0))) (.cons (.bin .Mult (.idx (.var 6) (.cst (.int 1))) (.call n_weight (.cons (.var 0) (.cons (.var 1) .nil)))) .nil)))) .nil))))
def lb_run_2 (n_behind n_left n_plus : Str) : SL := (.cons (.set 10 false (.idx (.lc (.idx (.var 9) (.cst (.int 2))) (.nm 9) (.seq (.var 1)) (.so (.cmp .Eq (.idx (.var 9) (.cst (.int 0))) (.var 7))) [9]) (.cst (.int 0)))) (.cons (.app 6 (.tup (.cons (.var 7) (.cons (.call n_plus (.cons (.var 2) (.cons (.tup (.cons (.bin .Mult (.var 10) (.var 8)) (.cons (.cst (.int 1)) .nil))) .nil))) .nil)))) .nil))
def lb_run_1 (n_behind n_left n_plus : Str) : SL := (.cons (.set 2 false (.call n_behind (.cons (.var 0) (.cons (.var 1) (.cons (.var 2) (.cons (.var 5) .nil)))))) (.cons (.set 6 true (.lst .nil)) (.cons (.for_ (.tp [7, 8]) (.seq (.var 5)) (lb_run_2 n_behind n_left n_plus) [7, 8, 10]) (.cons (.app 4 (.tup (.cons (.var 2) (.cons (.var 6) .nil)))) (.cons (.set 1 false (.call n_left (.cons (.var 1) (.cons (.lc (.var 7) (.tp [7, 8]) (.seq (.var 5)) .no [7, 8]) .nil)))) .nil)))))
def cb_run (n_behind n_left n_plus : Str) : SL := (.cons (.set 4 true (.lst .nil)) (.cons (.for_ (.nm 5) (.seq (.var 3)) (lb_run_1 n_behind n_left n_plus) [5, 6, 7, 8, 10]) (.cons (.ret (.var 4)) .nil)))
end Lc
/-! Drawn orders and leaps. -/
namespace Lc
open PySem L2
local macro_rules | `(tactic| walk_at "evs") => `(tactic| simp only [rdS_dat, rdS_own, rdS_scr, loS_dat, loS_own, loS_scr, ob_l, ob_d, look_dat, look_new, look_slot, lookD_dat, lookD_new, lookD_slot, obd, b2_some, fst_eq, ev_var, ev_cst, datE_eq, ev_glo, kBin2_eq, kBin1_eq, ev_bin, kNeg_eq, ev_neg, nots_eq, truR_dat, truR_slot, truth_b, kNot_eq, ev_not, blE_eq, kCmp2_eq, kCmp1_eq, cmpB_d, cmpB_in, cmpB_ni, kDcE_eq, kDc_eq, ev_dc, dcF5_eq, dcF4_eq, dcF3_eq, dcF2_eq, dcF1_eq, dcF_eq, ev_dnew, gtO_eq, kGt3_eq, kGt2_eq, kGt1_eq, kGt_eq, isDic_k, ev_getD, kL2e_eq, kL2_eq, ev_lc2, l2F3_eq, l2F2_eq, l2F1_eq, l2F_eq, ix_k, dk_str, dk_int, ev_cmp, kCh4_eq, kCh3_true, kCh3_false, kCh2_eq, kCh1_eq, ev_chain, kIte2_true, kIte2_false, kIte_eq, ev_ite, ev_and, ev_or, kTru_eq, evAnd_one, evOr_one, kAnd2_true, kAnd2_false, kAnd_eq, evAnd_cons, kOr2_true, kOr2_false, kOr_eq, evOr_cons, consE_eq, kL_eq, evL_nil, evL_cons, frz_dat, frz_new, fzS_dat, fzS_own, frz_slot, kF2_eq, kF_eq, frzL_nil, frzL_cons, kTup2_eq, kTup_eq, ev_tup, kLst2_eq, kLst_eq, ev_lst, ixOb_eq, kIx2_eq, kIx_eq, ev_idx, kO_eq, evO_no, evO_so, kSl3_eq, kSl2_eq, kSl_eq, ev_sl, kRev_eq, ev_rev, kC4_dat, kC4_new, kC3_eq, kC2_eq, kC_eq, ev_callE, kP_eq, kPs_eq, kPf_eq, pass_nil, pass_dat, pass_new, pass_newT, psS_scr, psS_dat, psS_own, pass_slotF, ptS_own, ptS_own0, pass_slotT, noS_nil, noS_dat, noS_new, noS_slot, back_nil, back_f, back_new, bkS_own, back_t, kOb2_eq, kOb_eq, lookL_nil, lookL_cons, kB2_eq, kB_eq, ev_blt, isiE_eq, kIs_eq, ev_isi, kLcE_eq, kLc_eq, ev_lc, lcGo_nil, kGoE_some, kGoE_none, kGo_eq, lcGo_cons, evC_no, evC_so, lcF4_eq, lcF3_eq, lcF2_true, lcF2_false, lcF1_eq, lcF_eq, kSq2_eq, kSq1_eq, kSq_eq, evSrc_seq, rngE_eq, kRg_eq, evSrc_rng, enumE_eq, kEn_eq, evSrc_enum, kZ4_l, kZ4_m, kZ4_t, kY4_eq, kY3_eq, kY2_eq, kY1_eq, ev_lzip, kNp_eq, asg_npE, kZ3_eq, kZ2_eq, kZ1_eq, evSrc_zip, setE_eq, kSet_eq, ex_set, datS_eq, nrm_t, nrm_fd, nrm_fl, nrm_fk, nrm_fs, kN2_eq, kN_eq, nrmL_nil, nrmL_cons, putL_nil, putL_cons, nxE_eq, kPr2_eq, kPr_eq, ex_par, kU2_eq, kU_eq, ex_unp, asg_nm, asg_tp, kPp_eq, asg_ppE, asgN_nil, asgN_cons, kSb2_eq, kSb1_eq, kSb_eq, ex_sub, kAp_eq, ex_app, kIn3_eq, kIn2_eq, kIn_eq, ex_ins, exE_eq, ex_expr, rtE_eq, ex_ret, kIf2_true, kIf2_false, kIf_eq, ex_ite, kFo2_eq, kFo_eq, ex_for, ex_whl, forGo_nil, kFg_nx, kFg_rt, kXs_nx, kXs_rt, exL_nil, exL_cons, kRun2_eq, kRun_nx, kRun_rt, run_eq, fin_dat, fin_new, finS_dat, finS_own, fin_slot, outs_nil, outs_cons, par_dat, par_own, par_scr, par_no, freeS_eq, frS_eq, ownS_eq, owS_own, ownL_eq, olS_own, wip_nil, wip_cons, unwip_nil, unwip_cons, wkS_no, wkS_dat, wipOk_eq, lkS_own, lkS_dat, lkS_scr, lockS_slot, lockS_dat, lockS_new, lock_none, lock_some, unlock_none, unlock_some, seqOf_l, seqOf_t, kSb3_S, sbS_0, sbS_1, sbS_d, kAp2_S, apS_l, kIn4_S, inS_l, stG_eq, kWp_eq, whC_eq, kWh_nx, kWh_rt, kW1_t, kW1_f, bo_add, bo_sub, bo_mul, bo_fd, bo_mod, bo_cat, bo_catT, bo_cats, co_lt, co_le, co_gt, co_ge, co_isN, co_isnotN, bi_abs, bi_lenL, bi_lenT, bi_lenS, bi_lenR, bi_min, bi_tupL, bi_tupT, bi_lstL, bi_lstT, ix_l, ix_t, ix_r, atI_n0, atI_n1, atI_n2, atI_n3, sl_l, sl_t, isN_n, isN_t, isN_l, isN_i, isN_b, isN_s, ne_tt, ne_tf, ne_ft, ne_ff, List.getElem?_cons_zero, List.getElem?_cons_succ, List.set_cons_zero, List.set_cons_succ, List.cons_append, List.nil_append, List.replicate_succ, List.replicate_zero, List.getD_cons_zero, List.getD_cons_succ, Option.bind_some, Option.map_some, Option.bind_none, Option.map_none, Bool.not_true, Bool.not_false, Bool.and_true, Bool.true_and, Bool.and_false, Bool.false_and, and_self, and_true, true_and, decide_true, decide_false, if_true, if_false, Bool.false_eq_true, List.all_cons, List.all_nil, List.length_cons, List.length_nil, List.map_cons, List.map_nil, *])
theorem ins_perm {α : Type} (acc : List α) (x : α) (n : Nat) : (acc.take n ++ x :: acc.drop n).Perm (acc ++ [x]) := by
  have h : (acc.take n ++ x :: acc.drop n).Perm (x :: (acc.take n ++ acc.drop n)) := List.perm_middle
  rw [List.take_append_drop] at h
  exact h.trans (List.perm_append_singleton x acc).symm
def MixedΦ (fn : List Slot → Option (R × List Slot)) : Prop := ∀ (g : Bag) (xs : List D), xs.length ≤ 100 → ∃ (ys : List D) (g' : Bag), ys.Perm xs ∧ fn [.own true g.c, .dat (.tuple xs)] = some (.new (.l ys), [.own true g'.c, .no])
theorem mixed_loop {T : Tab} {fu : Nat} {tk : Str} (h : Fn T tk [true, false] TakeΦ) {d : D} : ∀ (xs acc : List D) (g : Bag), acc.length + xs.length ≤ 100 →
    ∃ (ys : List D) (g' : Bag), ys.Perm (acc ++ xs) ∧ forGo (stF T fu (.nm 3) [3] (lb_mixed_1 tk)) xs [.own true g.c, .dat d, .own false (.l acc), .no] = some (.nx, [.own true g'.c, .dat d, .own false (.l ys), .no]) := by
  obtain ⟨fn, hT, hfn⟩ := h
  intro xs
  induction xs with
  | nil => exact fun acc g _ => ⟨acc, g, by simp, rfl⟩
  | cons x xs ih =>
    intro acc g hl
    simp only [List.length_cons] at hl
    have h1 := hfn g ((acc.length : Int) + 1) (by omega) (okI_64 (by omega) (by omega))
    have b1 := tkV_lt g (m := (acc.length : Int) + 1) (by omega)
    have b2 := tkV_nonneg g (m := (acc.length : Int) + 1) (by omega)
    generalize hv : tkV g ((acc.length : Int) + 1) = v at *
    generalize hg : tkB g ((acc.length : Int) + 1) = g1 at *
    have hz : acc.length < sizeLine := Nat.lt_of_le_of_lt (show acc.length ≤ 100 by omega) (by decide)
    have b3 : v ≤ (acc.length : Int) := by omega
    obtain ⟨ys, g', p1, p2⟩ := ih (acc.take v.toNat ++ x :: acc.drop v.toNat) g1 (by simp; omega)
    refine ⟨ys, g', p1.trans ?_, ?_⟩
    · have := (ins_perm acc x v.toNat).append_right xs
      simpa using this
    · have hst : stF T fu (.nm 3) [3] (lb_mixed_1 tk) x [.own true g.c, .dat d, .own false (.l acc), .no] = some (.nx, [.own true g1.c, .dat d, .own false (.l (acc.take v.toNat ++ x :: acc.drop v.toNat)), .no]) := by
        rw [stF_eq]
        clear ih hfn hv hg b1 p1 p2
        unfold lb_mixed_1
        walk_at "evs"
      rw [forGo_cons, hst, Option.bind_some, kFg_nx, p2]
theorem mixed_ok {T : Tab} {fu : Nat} {tk : Str} (h : Fn T tk [true, false] TakeΦ) : MixedΦ (run T fu 2 (cb_mixed tk)) := by
  intro g xs hl
  obtain ⟨ys, g', p1, p2⟩ := mixed_loop (fu := fu) h (d := .tuple xs) xs [] g (by simpa using hl)
  refine ⟨ys, g', by simpa using p1, ?_⟩
  have e0 : (0 : Nat) ≤ 1000 := by decide
  unfold cb_mixed
  walk_at "evs"
/-! ### leaps -/
abbrev Lp := Str × Int
def lpD (p : Lp) : D := .tuple [.str p.1, .int p.2]
def someD (s : List Lp) : D := .tuple (s.map lpD)
def leapsD (ls : List (List Lp)) : D := .list (ls.map someD)
theorem sortD_map {α : Type} (f : α → D) (xs : List α) : ∃ ys : List α, ys.Perm xs ∧ sortD (xs.map f) = ys.map f := by
  refine ⟨xs.mergeSort (fun a b => PySem.W.dataLe false id (f a) (f b)), List.mergeSort_perm .., ?_⟩
  unfold sortD
  exact (List.map_mergeSort (r := fun a b => PySem.W.dataLe false id (f a) (f b)) (s := PySem.W.dataLe false id) (f := f) (l := xs) (fun a _ b _ => rfl)).symm
theorem sortOk_lp (xs : List Lp) : sortOk (xs.map lpD) = true := by
  unfold sortOk
  have h1 : (xs.map lpD).all (fun d => (xs.map lpD).all fun e => PySem.W.alike d e) = true := by
    rw [List.all_eq_true]
    intro d hd
    obtain ⟨a, _, rfl⟩ := List.mem_map.mp hd
    rw [List.all_eq_true]
    intro e he
    obtain ⟨b, _, rfl⟩ := List.mem_map.mp he
    simp [lpD, PySem.W.alike, PySem.W.alikeAll]
  have h2 : (xs.map lpD).all isTupNE = true := by
    rw [List.all_eq_true]
    intro d hd
    obtain ⟨a, _, rfl⟩ := List.mem_map.mp hd
    rfl
  have h3 : (xs.map lpD).all (fun d => decide (d.depth ≤ 60)) = true := by
    rw [List.all_eq_true]
    intro d hd
    obtain ⟨a, _, rfl⟩ := List.mem_map.mp hd
    simp [lpD, PyData.depth, PyData.depthAll]
  rw [h1, h2, h3]; rfl
structure GoodLeaps (fk : List One) (ls : List (List Lp)) : Prop where
  ne : ∀ s ∈ ls, s ≠ []
  way : ∀ s ∈ ls, ∀ p ∈ s, p.2 = 1 ∨ p.2 = -1
  mem : ∀ s ∈ ls, ∀ p ∈ s, p.1 ∈ fk.map (·.name)
  nd : ((ls.flatten).map (·.1)).Nodup
  len : ls.length ≤ fk.length
  sz : ∀ s ∈ ls, s.length ≤ 3
  fl : ls.flatten.length ≤ fk.length
def LeapsΦ (fn : List Slot → Option (R × List Slot)) : Prop := ∀ (g : Bag) (fk : List One), GoodFolk fk → ∃ (ls : List (List Lp)) (g' : Bag), GoodLeaps fk ls ∧ fn [.own true g.c, .dat (folkD fk)] = some (.new (.l (ls.map someD)), [.own true g'.c, .no])
theorem perm_map {α β : Type} (f : α → β) : ∀ (xs : List α) (ys : List β), ys.Perm (xs.map f) → ∃ l : List α, l.Perm xs ∧ ys = l.map f
  | [], ys, h => ⟨[], List.Perm.nil, by simpa using h⟩
  | x :: xs, ys, h => by
    have hm : f x ∈ ys := h.mem_iff.mpr (by simp)
    obtain ⟨a, b, rfl⟩ := List.append_of_mem hm
    have h2 : (a ++ b).Perm (xs.map f) := by
      have h3 : (f x :: (a ++ b)).Perm (f x :: xs.map f) := (List.perm_middle.symm).trans h
      exact h3.cons_inv
    obtain ⟨l, hl, e⟩ := perm_map f xs (a ++ b) h2
    obtain ⟨la, lb, rfl, rfl, rfl⟩ := List.map_eq_append_iff.mp e.symm
    refine ⟨la ++ x :: lb, List.perm_middle.trans (hl.cons x), by simp⟩
theorem cut_from {α : Type} (xs : List α) {j : Int} (h : 0 ≤ j) : cut xs (some j) none = xs.drop j.toNat := by
  show (xs.drop (if j < 0 then (j + (xs.length : Int)).toNat else min j.toNat xs.length)).take (xs.length - (if j < 0 then (j + (xs.length : Int)).toNat else min j.toNat xs.length)) = _
  rw [if_neg (by omega)]
  by_cases hj : j.toNat ≤ xs.length
  · rw [Nat.min_eq_left hj, List.take_of_length_le (by rw [List.length_drop]; omega)]
  · rw [Nat.min_eq_right (by omega), List.drop_of_length_le (Nat.le_refl _), List.drop_of_length_le (by omega)]
    simp
theorem co_ne_nil {xs : List D} : cmpop .NotEq (.list xs) (.list []) = some (!xs.isEmpty) := by
  rw [co_ne (by unfold eqOk; apply decide_eq_true; simp [PyData.depth, PyData.depthAll])]
  cases xs <;> simp [PyData.eqv, PyData.eqvAll]
abbrev leapElt (tk : Str) : E := (.tup (.cons (.idx (.var 5) (.cst (.int 0))) (.cons (.bin .Sub (.cst (.int 1)) (.bin .Mult (.cst (.int 2)) (.call tk (.cons (.var 0) (.cons (.cst (.int 2)) .nil))))) .nil)))
theorem some_loop {T : Tab} {fu : Nat} {tk : Str} (h : Fn T tk [true, false] TakeΦ) {s1 s2 s3 s4 : Slot} : ∀ (l : List One) (g : Bag), ∃ (ps : List Lp) (g' : Bag), ps.map (·.1) = l.map (·.name) ∧ (∀ p ∈ ps, p.2 = 1 ∨ p.2 = -1) ∧
    lcGo (lcF T (leapElt tk) (.nm 5) .no [5]) (l.map oneD) [.own true g.c, s1, s2, s3, s4, .no, .no] = some (ps.map lpD, [.own true g'.c, s1, s2, s3, s4, .no, .no]) := by
  obtain ⟨fn, hT, hfn⟩ := h
  intro l
  induction l with
  | nil => exact fun g => ⟨[], g, rfl, (fun p hp => nomatch hp), rfl⟩
  | cons o l ih =>
    intro g
    have k2 : okI 2 = true := by decide +kernel
    have h1 := hfn g 2 (by decide) k2
    have b1 := tkV_lt g (m := 2) (by decide)
    have b2 := tkV_nonneg g (m := 2) (by decide)
    generalize hv : tkV g 2 = v at *
    generalize hg : tkB g 2 = g1 at *
    obtain ⟨ps, g', p1, p2, p3⟩ := ih g1
    refine ⟨(o.name, 1 - 2 * v) :: ps, g', by simp [p1], fun p hp => ?_, ?_⟩
    · rcases List.mem_cons.mp hp with e | e
      · subst e
        show 1 - 2 * v = 1 ∨ 1 - 2 * v = -1
        omega
      · exact p2 p e
    · have hst : lcF T (leapElt tk) (.nm 5) .no [5] (oneD o) [.own true g.c, s1, s2, s3, s4, .no, .no] = some (some (lpD (o.name, 1 - 2 * v)), [.own true g1.c, s1, s2, s3, s4, .no, .no]) := by
        have k3 : okI v = true := okI_64 (by omega) (by omega)
        have l2 : (2 : Nat) ≤ 1000 := by decide
        clear ih hfn p1 p2 p3 hv hg
        unfold oneD lpD
        walk_at "evs"
      rw [List.map_cons, lcGo_cons, hst, Option.bind_some, kGo_eq, p3, Option.map_some, kGoE_some]
      rfl
structure LPs (l : List One) (ls : List (List Lp)) : Prop where
  ne : ∀ s ∈ ls, s ≠ []
  way : ∀ s ∈ ls, ∀ p ∈ s, p.2 = 1 ∨ p.2 = -1
  pm : ((ls.flatten).map (·.1)).Perm (l.map (·.name))
  len : ls.length ≤ l.length
  sz : ∀ s ∈ ls, s.length ≤ 3
theorem leaps_loop {T : Tab} {fu : Nat} {mx tk : Str} (h : Fn T tk [true, false] TakeΦ) {d : D} : ∀ (n : Nat) (l : List One) (acc : List (List Lp)) (g : Bag) (m : Nat), l.length ≤ n → n + 1 ≤ m → acc.length + l.length ≤ 100 →
    ∃ (ls : List (List Lp)) (g' : Bag), LPs l ls ∧ whlGo (whC T (.cmp .NotEq (.var 3) (.lst .nil))) (stG T fu [4, 6] (lb_leaps_1 mx tk)) m [.own true g.c, .dat d, .own false (.l (acc.map someD)), .dat (.list (l.map oneD)), .no, .no, .no] =
      some (.nx, [.own true g'.c, .dat d, .own false (.l ((acc ++ ls).map someD)), .dat (.list []), .no, .no, .no]) := by
  have hsome := @some_loop T fu tk h
  obtain ⟨fn, hT, hfn⟩ := h
  intro n
  induction n with
  | zero =>
    intro l acc g m hl hm _
    have : l = [] := List.length_eq_zero_iff.mp (by omega)
    subst this
    obtain ⟨m', rfl⟩ : ∃ m', m = m' + 1 := ⟨m - 1, by omega⟩
    refine ⟨[], g, ⟨(fun s hs => nomatch hs), (fun s hs => nomatch hs), by simp, by simp, (fun s hs => nomatch hs)⟩, ?_⟩
    rw [whlGo_succ, List.append_nil]
    have e0 : (0 : Nat) ≤ 1000 := by decide
    have c0 := @co_ne_nil []
    simp only [List.isEmpty_nil] at c0
    clear hsome hfn
    walk_at "evs"
  | succ n ih =>
    intro l acc g m hl hm hacc
    obtain ⟨m', rfl⟩ : ∃ m', m = m' + 1 := ⟨m - 1, by omega⟩
    cases l with
    | nil =>
      refine ⟨[], g, ⟨(fun s hs => nomatch hs), (fun s hs => nomatch hs), by simp, by simp, (fun s hs => nomatch hs)⟩, ?_⟩
      rw [whlGo_succ, List.append_nil]
      have e0 : (0 : Nat) ≤ 1000 := by decide
      have c0 := @co_ne_nil []
      simp only [List.isEmpty_nil] at c0
      clear hsome hfn ih
      walk_at "evs"
    | cons o l =>
      simp only [List.length_cons] at hl hacc
      have hmin : 1 ≤ (if ((l.length + 1 : Nat) : Int) < 3 then ((l.length + 1 : Nat) : Int) else 3) ∧ (if ((l.length + 1 : Nat) : Int) < 3 then ((l.length + 1 : Nat) : Int) else 3) ≤ 3 := by split <;> omega
      generalize hmn : (if ((l.length + 1 : Nat) : Int) < 3 then ((l.length + 1 : Nat) : Int) else 3) = mn at *
      have h1 := hfn g mn (by omega) (okI_64 (by omega) (by omega))
      have b1 := tkV_lt g (m := mn) (by omega)
      have b2 := tkV_nonneg g (m := mn) (by omega)
      generalize hv : 1 + tkV g mn = k at *
      have hk : 1 ≤ k := by omega
      generalize hg : tkB g mn = g1 at *
      obtain ⟨ps, g2, p1, p2, p3⟩ := @hsome (.dat d) (.own false (.l (acc.map someD))) (.dat (.list ((o :: l).map oneD))) (.dat (.int k)) ((o :: l).take k.toNat) g1
      obtain ⟨qs, q1, q2⟩ := sortD_map lpD ps
      have hcut := cut_to ((o :: l).map oneD) (j := k) (by omega)
      rw [← List.map_take] at hcut
      have hcut2 := cut_from ((o :: l).map oneD) (j := k) (by omega)
      rw [← List.map_drop] at hcut2
      obtain ⟨ls, g', r1, r2⟩ := ih ((o :: l).drop k.toNat) (acc ++ [qs]) g2 m' (by simp; omega) (by omega) (by simp; omega)
      have hlen : ((o :: l).take k.toNat).length ≥ 1 := by
        rw [List.length_take, List.length_cons]; omega
      refine ⟨qs :: ls, g', ⟨fun s hs => ?_, fun s hs => ?_, ?_, ?_, fun s hs => ?_⟩, ?_⟩
      · rcases List.mem_cons.mp hs with e | e
        · subst e
          intro z
          subst z
          have h2 := q1.length_eq
          have h3 := congrArg List.length p1
          simp only [List.length_map, List.length_nil] at h2 h3
          omega
        · exact r1.ne s e
      · rcases List.mem_cons.mp hs with e | e
        · subst e
          intro p hp
          exact p2 p (q1.mem_iff.mp hp)
        · exact r1.way s e
      · rw [List.flatten_cons, List.map_append]
        have h2 := (q1.map (·.1)).append r1.pm
        rw [p1] at h2
        have e : (List.take k.toNat (o :: l)).map (·.name) ++ (List.drop k.toNat (o :: l)).map (·.name) = (o :: l).map (·.name) := by
          rw [← List.map_append, List.take_append_drop]
        rw [e] at h2
        exact h2
      · have h3 := r1.len
        have h4 : ((o :: l).drop k.toNat).length = l.length + 1 - k.toNat := by simp
        simp only [List.length_cons]
        omega
      · rcases List.mem_cons.mp hs with e | e
        · subst e
          have h2 := q1.length_eq
          have h3 := congrArg List.length p1
          simp only [List.length_map, List.length_take] at h2 h3
          omega
        · exact r1.sz s e
      · have hst : stG T fu [4, 6] (lb_leaps_1 mx tk) [.own true g.c, .dat d, .own false (.l (acc.map someD)), .dat (.list ((o :: l).map oneD)), .no, .no, .no] = some (.nx, [.own true g2.c, .dat d, .own false (.l ((acc ++ [qs]).map someD)), .dat (.list (((o :: l).drop k.toNat).map oneD)), .no, .no, .no]) := by
          have so := sortOk_lp ps
          have hb := bi_sorted so
          rw [q2] at hb
          have hz : (acc.map someD).length < sizeLine := by
            rw [List.length_map]
            exact Nat.lt_of_le_of_lt (show acc.length ≤ 100 by omega) (by decide)
          have hlm : ((o :: l).map oneD).length = l.length + 1 := by simp
          rw [List.map_append]
          clear ih hfn hsome r1 r2 p1 p2 q1 q2 hlen hmin b1 b2 so
          generalize ((o :: l).map oneD) = xs at *
          generalize (List.map oneD (List.drop k.toNat (o :: l))) = ys at *
          generalize (List.map oneD (List.take k.toNat (o :: l))) = zs at *
          unfold lb_leaps_1
          unfold leapElt at p3
          walk_at "evs"
          rfl
        have hc : whC T (.cmp .NotEq (.var 3) (.lst .nil)) [.own true g.c, .dat d, .own false (.l (acc.map someD)), .dat (.list ((o :: l).map oneD)), .no, .no, .no] = some (true, [.own true g.c, .dat d, .own false (.l (acc.map someD)), .dat (.list ((o :: l).map oneD)), .no, .no, .no]) := by
          have e0 : (0 : Nat) ≤ 1000 := by decide
          have c0 := @co_ne_nil ((o :: l).map oneD)
          simp only [List.map_cons, List.isEmpty_cons] at c0
          clear ih hfn hsome r1 r2 p1 p2 p3 q1 q2 hlen hmin b1 b2 hcut hcut2
          walk_at "evs"
        rw [whlGo_succ, hc, Option.bind_some, kW1_t, hst, Option.bind_some, kWh_nx, r2]
        simp
theorem leaps_ok {T : Tab} {fu : Nat} {mx tk : Str} (hfu : 100 ≤ fu) (h1 : Fn T mx [true, false] MixedΦ) (h2 : Fn T tk [true, false] TakeΦ) : LeapsΦ (run T fu 5 (cb_leaps mx tk)) := by
  intro g fk gf
  have hloop := @leaps_loop T fu mx tk h2 (folkD fk)
  obtain ⟨fm, tm, pm⟩ := h1
  obtain ⟨ft, tt, pt⟩ := h2
  have hle := gf.le
  obtain ⟨ys, g1, y1, c1⟩ := pm g (fk.map oneD) (by rw [List.length_map]; omega)
  obtain ⟨l, l1, rfl⟩ := perm_map oneD fk ys y1
  have b1 := tkV_lt g1 (m := (fk.length : Int) + 1) (by omega)
  have b2 := tkV_nonneg g1 (m := (fk.length : Int) + 1) (by omega)
  have c2 := pt g1 ((fk.length : Int) + 1) (by omega) (okI_64 (by omega) (by omega))
  generalize hv : tkV g1 ((fk.length : Int) + 1) = k at *
  generalize hg : tkB g1 ((fk.length : Int) + 1) = g2 at *
  have hcut := cut_to (l.map oneD) (j := k) b2
  rw [← List.map_take] at hcut
  have hll := l1.length_eq
  obtain ⟨ls, g', r1, r2⟩ := hloop 7 (l.take k.toNat) [] g2 fu (by rw [List.length_take]; omega) (by omega) (by simp; omega)
  have hsub : (((ls.flatten).map (·.1)).Perm ((l.take k.toNat).map (·.name))) := r1.pm
  have hsl : ((l.take k.toNat).map (·.name)).Sublist (l.map (·.name)) := (List.take_sublist _ _).map _
  refine ⟨ls, g', ⟨r1.ne, r1.way, fun s hs p hp => ?_, ?_, ?_, r1.sz, ?_⟩, ?_⟩
  · have : p.1 ∈ (ls.flatten).map (·.1) := List.mem_map_of_mem (List.mem_flatten.mpr ⟨s, hs, hp⟩)
    exact (l1.map (·.name)).mem_iff.mp (hsl.subset (hsub.mem_iff.mp this))
  · have h3 : (l.map (·.name)).Nodup := (l1.map (·.name)).nodup_iff.mpr gf.nd
    exact hsub.nodup_iff.mpr (h3.sublist hsl)
  · have := r1.len
    rw [List.length_take] at this
    omega
  · have := hsub.length_eq
    simp only [List.length_map, List.length_take] at this
    omega
  · have l0 : (0 : Nat) ≤ 1000 := by decide
    have hlm : (fk.map oneD).length = fk.length := by simp
    clear hloop pm pt r1 hsub hsl hv hg b1
    unfold cb_leaps
    unfold folkD at *
    rw [List.nil_append, List.map_nil] at r2
    walk_at "evs"
end Lc
/-! What leaps do: the plain run, and the defs that walk it. -/
namespace Lc
open PySem L2
local macro_rules | `(tactic| walk_at "evs") => `(tactic| simp only [rdS_dat, rdS_own, rdS_scr, loS_dat, loS_own, loS_scr, ob_l, ob_d, look_dat, look_new, look_slot, lookD_dat, lookD_new, lookD_slot, obd, b2_some, fst_eq, ev_var, ev_cst, datE_eq, ev_glo, kBin2_eq, kBin1_eq, ev_bin, kNeg_eq, ev_neg, nots_eq, truR_dat, truR_slot, truth_b, kNot_eq, ev_not, blE_eq, kCmp2_eq, kCmp1_eq, cmpB_d, cmpB_in, cmpB_ni, kDcE_eq, kDc_eq, ev_dc, dcF5_eq, dcF4_eq, dcF3_eq, dcF2_eq, dcF1_eq, dcF_eq, ev_dnew, gtO_eq, kGt3_eq, kGt2_eq, kGt1_eq, kGt_eq, isDic_k, ev_getD, kL2e_eq, kL2_eq, ev_lc2, l2F3_eq, l2F2_eq, l2F1_eq, l2F_eq, ix_k, dk_str, dk_int, ev_cmp, kCh4_eq, kCh3_true, kCh3_false, kCh2_eq, kCh1_eq, ev_chain, kIte2_true, kIte2_false, kIte_eq, ev_ite, ev_and, ev_or, kTru_eq, evAnd_one, evOr_one, kAnd2_true, kAnd2_false, kAnd_eq, evAnd_cons, kOr2_true, kOr2_false, kOr_eq, evOr_cons, consE_eq, kL_eq, evL_nil, evL_cons, frz_dat, frz_new, fzS_dat, fzS_own, frz_slot, kF2_eq, kF_eq, frzL_nil, frzL_cons, kTup2_eq, kTup_eq, ev_tup, kLst2_eq, kLst_eq, ev_lst, ixOb_eq, kIx2_eq, kIx_eq, ev_idx, kO_eq, evO_no, evO_so, kSl3_eq, kSl2_eq, kSl_eq, ev_sl, kRev_eq, ev_rev, kC4_dat, kC4_new, kC3_eq, kC2_eq, kC_eq, ev_callE, kP_eq, kPs_eq, kPf_eq, pass_nil, pass_dat, pass_new, pass_newT, psS_scr, psS_dat, psS_own, pass_slotF, ptS_own, ptS_own0, pass_slotT, noS_nil, noS_dat, noS_new, noS_slot, back_nil, back_f, back_new, bkS_own, back_t, kOb2_eq, kOb_eq, lookL_nil, lookL_cons, kB2_eq, kB_eq, ev_blt, isiE_eq, kIs_eq, ev_isi, kLcE_eq, kLc_eq, ev_lc, lcGo_nil, kGoE_some, kGoE_none, kGo_eq, lcGo_cons, evC_no, evC_so, lcF4_eq, lcF3_eq, lcF2_true, lcF2_false, lcF1_eq, lcF_eq, kSq2_eq, kSq1_eq, kSq_eq, evSrc_seq, rngE_eq, kRg_eq, evSrc_rng, enumE_eq, kEn_eq, evSrc_enum, kZ4_l, kZ4_m, kZ4_t, kY4_eq, kY3_eq, kY2_eq, kY1_eq, ev_lzip, kNp_eq, asg_npE, kZ3_eq, kZ2_eq, kZ1_eq, evSrc_zip, setE_eq, kSet_eq, ex_set, datS_eq, nrm_t, nrm_fd, nrm_fl, nrm_fk, nrm_fs, kN2_eq, kN_eq, nrmL_nil, nrmL_cons, putL_nil, putL_cons, nxE_eq, kPr2_eq, kPr_eq, ex_par, kU2_eq, kU_eq, ex_unp, asg_nm, asg_tp, kPp_eq, asg_ppE, asgN_nil, asgN_cons, kSb2_eq, kSb1_eq, kSb_eq, ex_sub, kAp_eq, ex_app, kIn3_eq, kIn2_eq, kIn_eq, ex_ins, exE_eq, ex_expr, rtE_eq, ex_ret, kIf2_true, kIf2_false, kIf_eq, ex_ite, kFo2_eq, kFo_eq, ex_for, ex_whl, forGo_nil, kFg_nx, kFg_rt, kXs_nx, kXs_rt, exL_nil, exL_cons, kRun2_eq, kRun_nx, kRun_rt, run_eq, fin_dat, fin_new, finS_dat, finS_own, fin_slot, outs_nil, outs_cons, par_dat, par_own, par_scr, par_no, freeS_eq, frS_eq, ownS_eq, owS_own, ownL_eq, olS_own, wip_nil, wip_cons, unwip_nil, unwip_cons, wkS_no, wkS_dat, wipOk_eq, lkS_own, lkS_dat, lkS_scr, lockS_slot, lockS_dat, lockS_new, lock_none, lock_some, unlock_none, unlock_some, seqOf_l, seqOf_t, kSb3_S, sbS_0, sbS_1, sbS_d, kAp2_S, apS_l, kIn4_S, inS_l, stG_eq, kWp_eq, whC_eq, kWh_nx, kWh_rt, kW1_t, kW1_f, bo_add, bo_sub, bo_mul, bo_fd, bo_mod, bo_cat, bo_catT, bo_cats, co_lt, co_le, co_gt, co_ge, co_isN, co_isnotN, bi_abs, bi_lenL, bi_lenT, bi_lenS, bi_lenR, bi_min, bi_tupL, bi_tupT, bi_lstL, bi_lstT, ix_l, ix_t, ix_r, atI_n0, atI_n1, atI_n2, atI_n3, sl_l, sl_t, isN_n, isN_t, isN_l, isN_i, isN_b, isN_s, ne_tt, ne_tf, ne_ft, ne_ff, List.getElem?_cons_zero, List.getElem?_cons_succ, List.set_cons_zero, List.set_cons_succ, List.cons_append, List.nil_append, List.replicate_succ, List.replicate_zero, List.getD_cons_zero, List.getD_cons_succ, Option.bind_some, Option.map_some, Option.bind_none, Option.map_none, Bool.not_true, Bool.not_false, Bool.and_true, Bool.true_and, Bool.and_false, Bool.false_and, and_self, and_true, true_and, decide_true, decide_false, if_true, if_false, Bool.false_eq_true, List.all_cons, List.all_nil, List.length_cons, List.length_nil, List.map_cons, List.map_nil, *])
abbrev ff : List Bool := [false, false]
abbrev f4 : List Bool := [false, false, false, false]
theorem forGo_same {st : D → Env → Option (Fl × Env)} {env : Env} : ∀ (xs : List D), (∀ x ∈ xs, st x env = some (.nx, env)) → forGo st xs env = some (.nx, env)
  | [], _ => rfl
  | x :: xs, h => by
    rw [forGo_cons, h x List.mem_cons_self, Option.bind_some, kFg_nx]
    exact forGo_same xs fun y hy => h y (List.mem_cons_of_mem _ hy)
theorem eqv_bool {a b : Bool} : PyData.eqv (.bool a) (.bool b) = (a == b) := rfl
theorem eqOk_bool {a : Bool} {d : D} : eqOk (.bool a) d = true := by
  unfold eqOk; apply decide_eq_true; simp [PyData.depth]
theorem co_ne_b {a b : Bool} : cmpop .NotEq (.bool a) (.bool b) = some (!(a == b)) := by rw [co_ne eqOk_bool, eqv_bool]
theorem co_ne_fr {p q : Rat} : cmpop .NotEq (fr p) (fr q) = some (!decide (p = q)) := by rw [co_ne (fr_eqOk p _), fr_inj]
theorem rat_mul2 (p w : Rat) : Rat.divInt (p.num * w.num) (p.den * w.den) = p * w := by
  rw [rat_mul, Rat.num_divInt_den]
theorem tab_at {cs : Str → Option D} : ∀ (ds : List Df) (i : Nat) (d : Df), (ds.map (·.x)).Nodup → ds[i]? = some d → (tabOf cs ds).fns d.x = some (d.fs (tabOf cs (ds.drop (i + 1))))
  | [], i, d, _, h => by simp at h
  | e :: ds, 0, d, hn, h => by
    simp at h
    subst h
    simp only [tabOf, Tab.add, if_true, List.drop_succ_cons, List.drop_zero]
  | e :: ds, i + 1, d, hn, h => by
    rw [List.map_cons, List.nodup_cons] at hn
    have h' : ds[i]? = some d := by simpa using h
    have hne : ¬ d.x = e.x := fun z => hn.1 (List.mem_map.mpr ⟨d, List.mem_of_getElem? h', z⟩)
    simp only [tabOf, Tab.add, if_neg hne]
    rw [tab_at ds i d hn.2 h']
    rfl
theorem fn_at' {cs : Str → Option D} {dfs : List Df} (dfs_nd : (dfs.map (·.x)).Nodup) {Φ : (List Slot → Option (R × List Slot)) → Prop} (j i : Nat) (d : Df) (hj : j ≤ i) (h : dfs[i]? = some d) (p : Φ (run (tabOf cs (dfs.drop (i + 1))) d.fu (d.N.length - d.ps.length) d.body)) : Fn (tabOf cs (dfs.drop j)) d.x d.md Φ := by
  have hd : (dfs.drop j)[i - j]? = some d := by rw [List.getElem?_drop, show j + (i - j) = i by omega]; exact h
  have hn : ((dfs.drop j).map (·.x)).Nodup := by
    rw [List.map_drop]
    exact List.Nodup.sublist (List.drop_sublist _ _) dfs_nd
  have := tab_at (cs := cs) (dfs.drop j) (i - j) d hn hd
  rw [List.drop_drop, show j + (i - j + 1) = i + 1 by omega] at this
  exact ⟨_, this, p⟩
/-! ### the one of a name -/
def theO (fk : List One) (n : Str) : One := (fk.find? fun o => decide (o.name = n)).getD ⟨n, 0, 0⟩
theorem theO_mem {fk : List One} {n : Str} (h : n ∈ fk.map (·.name)) : theO fk n ∈ fk ∧ (theO fk n).name = n := by
  obtain ⟨o, ho, rfl⟩ := List.mem_map.mp h
  unfold theO
  cases e : fk.find? (fun x => decide (x.name = o.name)) with
  | none => exact absurd (by simp) (List.find?_eq_none.mp e o ho)
  | some y => exact ⟨List.mem_of_find?_eq_some e, by have := List.find?_some e; simpa using this⟩
theorem theO_eq {fk : List One} {o : One} (ho : o ∈ fk) (hn : (fk.map (·.name)).Nodup) : theO fk o.name = o := by
  obtain ⟨h1, h2⟩ := theO_mem (List.mem_map_of_mem (f := (·.name)) ho)
  have h3 := filter_one ho hn
  have : theO fk o.name ∈ fk.filter (fun x => decide (x.name = o.name)) := List.mem_filter.mpr ⟨h1, by simpa using h2⟩
  rw [h3] at this
  simpa using this
/-- of middling weight and leap -/
structure Mild (o : One) : Prop where
  h1 : 1 ≤ o.heavy
  h2 : o.heavy ≤ 10000
  l1 : 1 ≤ o.leap
  l2 : o.leap ≤ 10000
theorem GoodOne.mild {o : One} (h : GoodOne o) : Mild o := ⟨h.h1, by have := h.h2; omega, h.l1, by have := h.l2; omega⟩
theorem Mild.hl {o : One} (h : Mild o) : 0 ≤ o.heavy * o.leap ∧ o.heavy * o.leap ≤ 100000000 := by
  obtain ⟨a1, a2, a3, a4⟩ := h
  refine ⟨Int.mul_nonneg (by omega) (by omega), ?_⟩
  have := Int.mul_le_mul a2 a4 (by omega) (by decide : (0 : Int) ≤ 10000)
  omega
theorem Mild.okHL {o : One} (h : Mild o) : okI (o.heavy * o.leap) = true := by
  have := h.hl
  exact okI_64 (by omega) (by omega)
theorem Mild.okH {o : One} (h : Mild o) : okI o.heavy = true := by
  have := h.h1
  have := h.h2
  exact okI_64 (by omega) (by omega)
theorem Mild.okL {o : One} (h : Mild o) : okI o.leap = true := by
  have := h.l1
  have := h.l2
  exact okI_64 (by omega) (by omega)
theorem okI_way {w : Int} (h : w = 1 ∨ w = -1) : okI w = true := okI_64 (by omega) (by omega)
theorem wt_mild {c : Int} {fk : List One} (hc : 1 ≤ c) (hc2 : c ≤ 10000) (hf : ∀ o ∈ fk, Mild o) (hl : fk.length ≤ 7) : 1 ≤ wt c fk ∧ wt c fk ≤ 80000 := by
  have : ∀ l : List One, (∀ o ∈ l, Mild o) → 0 ≤ (l.map (·.heavy)).sum ∧ (l.map (·.heavy)).sum ≤ 10000 * (l.length : Int) := by
    intro l
    induction l with
    | nil => intro _; simp
    | cons o l ih =>
      intro h
      have h1 := ih fun x hx => h x (List.mem_cons_of_mem _ hx)
      have h2 := (h o List.mem_cons_self).h1
      have h3 := (h o List.mem_cons_self).h2
      simp only [List.map_cons, List.sum_cons, List.length_cons]
      omega
  have := this fk hf
  unfold wt
  omega
/-- folk and leaps that are such of them -/
structure Okl (fk : List One) (ls : List (List Lp)) : Prop where
  gd : ∀ o ∈ fk, Mild o
  nd : (fk.map (·.name)).Nodup
  le : fk.length ≤ 7
  way : ∀ s ∈ ls, ∀ p ∈ s, p.2 = 1 ∨ p.2 = -1
  mem : ∀ s ∈ ls, ∀ p ∈ s, p.1 ∈ fk.map (·.name)
  ndl : ((ls.flatten).map (·.1)).Nodup
  sz : ∀ s ∈ ls, s.length ≤ 7
theorem GoodLeaps.okl {fk : List One} {ls : List (List Lp)} (g : GoodFolk fk) (h : GoodLeaps fk ls) : Okl fk ls :=
  ⟨fun o ho => (g.one o ho).mild, g.nd, g.le, h.way, h.mem, h.nd, fun s hs => Nat.le_trans (h.sz s hs) (by decide)⟩
theorem mem_left {fk : List One} {ns : List Str} {n : Str} (h : n ∈ fk.map (·.name)) (h2 : n ∉ ns) : n ∈ (leftO fk ns).map (·.name) := by
  obtain ⟨o, ho, rfl⟩ := List.mem_map.mp h
  exact List.mem_map_of_mem (List.mem_filter.mpr ⟨ho, by simpa using h2⟩)
theorem Okl.tail {fk : List One} {s : List Lp} {ls : List (List Lp)} (h : Okl fk (s :: ls)) : Okl (leftO fk (s.map (·.1))) ls := by
  have hnd := h.ndl
  rw [List.flatten_cons, List.map_append, List.nodup_append] at hnd
  refine ⟨fun o ho => h.gd o (List.mem_filter.mp ho).1, h.nd.sublist (List.Sublist.map _ List.filter_sublist), Nat.le_trans (left_length _ _) h.le, fun t ht => h.way t (List.mem_cons_of_mem _ ht), fun t ht p hp => ?_, hnd.2.1, fun t ht => h.sz t (List.mem_cons_of_mem _ ht)⟩
  refine mem_left (h.mem t (List.mem_cons_of_mem _ ht) p hp) fun z => ?_
  exact hnd.2.2 p.1 z p.1 (List.mem_map_of_mem (List.mem_flatten.mpr ⟨t, ht, hp⟩)) rfl
/-! ### the plain run -/
def pushN (fk : List One) (s : List Lp) : Int := (s.map fun p => (theO fk p.1).heavy * (theO fk p.1).leap * p.2).sum
def pushF (c : Int) (fk : List One) (v : Rat) (s : List Lp) : Rat := v + Rat.divInt (0 - pushN fk s) (wt c fk)
abbrev Own := Str × Rat
def ownF (fk : List One) (v : Rat) (s : List Lp) : List Own := s.map fun p => (p.1, v + (((theO fk p.1).leap * p.2 : Int) : Rat))
def runF (c : Int) : List One → Rat → List (List Lp) → List (Rat × List Own)
  | _, _, [] => []
  | fk, v, s :: ls => (pushF c fk v s, ownF fk (pushF c fk v s) s) :: runF c (leftO fk (s.map (·.1))) (pushF c fk v s) ls
def ownD (p : Own) : D := .tuple [.str p.1, fr p.2]
def rowD (r : Rat × List Own) : D := .tuple [fr r.1, .list (r.2.map ownD)]
theorem pushN_bound {fk : List One} (hg : ∀ o ∈ fk, Mild o) : ∀ (s : List Lp), (∀ p ∈ s, p.2 = 1 ∨ p.2 = -1) → (∀ p ∈ s, p.1 ∈ fk.map (·.name)) → (pushN fk s).natAbs ≤ 100000000 * s.length
  | [], _, _ => by simp [pushN]
  | p :: s, h1, h2 => by
    have ih := pushN_bound hg s (fun q hq => h1 q (List.mem_cons_of_mem _ hq)) fun q hq => h2 q (List.mem_cons_of_mem _ hq)
    have hm := hg _ (theO_mem (h2 p List.mem_cons_self)).1
    have hw := h1 p List.mem_cons_self
    unfold pushN at ih ⊢
    rw [List.map_cons, List.sum_cons, List.length_cons]
    generalize (s.map fun p => (theO fk p.1).heavy * (theO fk p.1).leap * p.2).sum = S at *
    obtain ⟨a1, a2, a3, a4⟩ := hm
    generalize (theO fk p.1).heavy = a at *
    generalize (theO fk p.1).leap = b at *
    have hab : 0 ≤ a * b ∧ a * b ≤ 100000000 := by
      refine ⟨Int.mul_nonneg (by omega) (by omega), ?_⟩
      have := Int.mul_le_mul a2 a4 (by omega) (by decide : (0 : Int) ≤ 10000)
      omega
    generalize a * b = ab at *
    have hX : (ab * p.2).natAbs ≤ 100000000 := by rcases hw with e | e <;> rw [e] <;> omega
    generalize ab * p.2 = X at *
    omega
theorem push_sm {c : Int} {fk : List One} {s : List Lp} {ls : List (List Lp)} (hc : 1 ≤ c) (hc2 : c ≤ 10000) (h : Okl fk (s :: ls)) : Sm 30 (Rat.divInt (0 - pushN fk s) (wt c fk)) := by
  have b1 := pushN_bound h.gd s (h.way s List.mem_cons_self) (h.mem s List.mem_cons_self)
  have b2 := h.sz s List.mem_cons_self
  have b3 := wt_mild hc hc2 h.gd h.le
  exact Sm.divInt (by omega) (by omega) (by omega)
theorem pushF_sm {c : Int} {fk : List One} {s : List Lp} {ls : List (List Lp)} {v : Rat} {n : Nat} (hc : 1 ≤ c) (hc2 : c ≤ 10000) (h : Okl fk (s :: ls)) (hv : Sm n v) : Sm (n + 31) (pushF c fk v s) := hv.add (push_sm hc hc2 h)
def no5 : List Slot := [.no, .no, .no, .no]
def PushedΦ (fn : List Slot → Option (R × List Slot)) : Prop := ∀ (c : Int) (fk : List One) (v : Rat) (s : List Lp), 1 ≤ c → c ≤ 10000 → Okl fk [s] → Sm 2900 v → fn [.dat (.int c), .dat (folkD fk), .dat (fr v), .dat (someD s)] = some (.dat (fr (pushF c fk v s)), [.no, .no, .no, .no])
theorem sum_ints {α : Type} (f : α → Int) (xs : List α) : bi .sum [.d (.list (xs.map fun x => .int (f x)))] = some (.dat (.int (xs.map f).sum)) := bi_sum (allInts_map (f := f) xs)
theorem nodup_str {fk : List One} (h : (fk.map (·.name)).Nodup) : (fk.map (fun o => (PyData.str o.name : D))).Nodup := by
  have := List.Pairwise.map (R := (· ≠ ·)) (S := (· ≠ ·)) (fun n : Str => (PyData.str n : D)) (by intro a b hab z; exact hab (by simpa using z)) h
  rw [List.map_map] at this
  exact this
theorem pushed_ok {T : Tab} {fu : Nat} {pl lo hv : Str} (h1 : Fn T pl ff PlusΦ) (h2 : Fn T lo ff LowΦ) (h3 : Fn T hv ff WeightΦ) : PushedΦ (run T fu 6 (cb_pushed pl lo hv)) := by
  obtain ⟨fp, tp, pp⟩ := h1
  obtain ⟨fl, tl, pl⟩ := h2
  obtain ⟨fh, th, ph⟩ := h3
  intro c fk v s hc hc2 ok sv
  have b3 := wt_mild hc hc2 ok.gd ok.le
  have c1 := ph c fk
  have c2 := pl (0 - pushN fk s) (wt c fk) (by omega) (okI_64 (by omega) (by omega))
  have c3 := pp v _ (sv.mono (by decide)) ((push_sm hc hc2 ok).mono (by decide))
  have nd := nodup_str ok.nd
  have hz : fk.length < sizeLine := Nat.lt_of_le_of_lt ok.le (by decide)
  have hd : ∀ env : Env, env = [Slot.dat (.int c), .dat (.tuple (fk.map oneD)), .dat (fr v), .dat (.tuple (s.map lpD)), .no, .no, .no, .no, .no, .no] →
      dcGo (dcF T (.var 4) (.bin .Mult (.var 5) (.var 6)) (.tp [4, 5, 6]) [4, 5, 6]) (fk.map oneD) env [] = some ([] ++ fk.map (fun o => (.str o.name, .int (o.heavy * o.leap))), env) := fun env he =>
    dcGo_map (kf := fun o => .str o.name) (vf := fun o => .int (o.heavy * o.leap)) fk [] (fun o ho => ⟨by
      have hm := ok.gd o ho
      have k1 : okI o.heavy = true := okI_64 (by have := hm.h1; omega) (by have := hm.h2; omega)
      have k2 : okI o.leap = true := okI_64 (by have := hm.l1; omega) (by have := hm.l2; omega)
      subst he
      clear c1 c2 c3 nd hz pp pl ph
      unfold oneD
      walk_at "evs", dk_str⟩) (by rw [List.nil_append, List.map_map]; exact nd) (by simpa using hz)
  replace hd := hd _ rfl
  have hl : ∀ env : Env, env = [Slot.dat (.int c), .dat (.tuple (fk.map oneD)), .dat (fr v), .dat (.tuple (s.map lpD)), .no, .no, .no, .own false (.d false (fk.map (fun o => (.str o.name, .int (o.heavy * o.leap))))), .no, .no] →
      lcGo (lcF T (.bin .Mult (.idx (.var 7) (.var 4)) (.var 8)) (.tp [4, 8]) .no [4, 8]) (s.map lpD) env = some (s.map (fun p => .int ((theO fk p.1).heavy * (theO fk p.1).leap * p.2)), env) := fun env he => lcGo_map s fun p hp => by
    subst he
    obtain ⟨t1, t2⟩ := theO_mem (ok.mem s List.mem_cons_self p hp)
    have hg := dget_map (kf := fun o : One => (.str o.name : D)) (vf := fun o => .int (o.heavy * o.leap)) t1 nd
    rw [t2] at hg
    have k1 := (ok.gd _ t1).okHL
    have k2 : okI p.2 = true := okI_way (ok.way s List.mem_cons_self p hp)
    clear c1 c2 c3 nd hz pp pl ph hd
    unfold lpD
    walk_at "evs"
  replace hl := hl _ rfl
  have hs := sum_ints (fun p : Lp => (theO fk p.1).heavy * (theO fk p.1).leap * p.2) s
  rw [List.nil_append] at hd
  clear pp pl ph
  unfold cb_pushed
  unfold pushF
  unfold pushN at *
  unfold folkD someD at *
  walk_at "evs"
def StepsΦ (fn : List Slot → Option (R × List Slot)) : Prop := ∀ (c : Int) (fk : List One) (v : Rat) (ls : List (List Lp)) (n : Nat), 1 ≤ c → c ≤ 10000 → Okl fk ls → Sm n v → n + 40 * ls.length ≤ 2900 → ls.length ≤ 100 → fn [.dat (.int c), .dat (folkD fk), .dat (fr v), .dat (leapsD ls)] = some (.new (.l ((runF c fk v ls).map rowD)), [.no, .no, .no, .no])
theorem Okl.one {fk : List One} {s : List Lp} {ls : List (List Lp)} (h : Okl fk (s :: ls)) : Okl fk [s] := by
  have hnd := h.ndl
  rw [List.flatten_cons, List.map_append, List.nodup_append] at hnd
  refine ⟨h.gd, h.nd, h.le, fun t ht => ?_, fun t ht => ?_, by simpa using hnd.1, fun t ht => ?_⟩
  all_goals
    have e : t = s := by simpa using ht
    subst e
  · exact h.way t List.mem_cons_self
  · exact h.mem t List.mem_cons_self
  · exact h.sz t List.mem_cons_self
theorem own_sm {fk : List One} {p : Lp} {v : Rat} {n : Nat} (hm : Mild (theO fk p.1)) (hw : p.2 = 1 ∨ p.2 = -1) (hv : Sm n v) : Sm (n + 16) (v + (((theO fk p.1).leap * p.2 : Int) : Rat)) := by
  have h1 := hm.l1
  have h2 := hm.l2
  have : Sm 15 (((theO fk p.1).leap * p.2 : Int) : Rat) := Sm.int (by rcases hw with e | e <;> rw [e] <;> omega) (by decide)
  exact hv.add this
theorem steps_loop {T : Tab} {fu : Nat} {pd pl lf : Str} {c : Int} {d : D} (h1 : Fn T pd f4 PushedΦ) (h2 : Fn T pl ff PlusΦ) (h3 : Fn T lf ff LeftΦ) (hc : 1 ≤ c) (hc2 : c ≤ 10000) : ∀ (ls : List (List Lp)) (fk : List One) (v : Rat) (n : Nat) (acc : List (Rat × List Own)), Okl fk ls → Sm n v → n + 40 * ls.length ≤ 2900 → acc.length + ls.length ≤ 100 →
    ∃ (fk' : List One) (v' : Rat), forGo (stF T fu (.nm 5) [5, 9] (lb_steps_of_1 pd pl lf)) (ls.map someD) [.dat (.int c), .dat (folkD fk), .dat (fr v), .dat d, .own false (.l (acc.map rowD)), .no, .no, .no, .no, .no, .no] = some (.nx, [.dat (.int c), .dat (folkD fk'), .dat (fr v'), .dat d, .own false (.l ((acc ++ runF c fk v ls).map rowD)), .no, .no, .no, .no, .no, .no])
  | [], fk, v, n, acc, _, _, _, _ => ⟨fk, v, by rw [runF, List.append_nil]; rfl⟩
  | s :: ls, fk, v, n, acc, ok, sv, hn, hacc => by
    simp only [List.length_cons] at hn hacc
    have sv2 := pushF_sm hc hc2 ok sv
    obtain ⟨fk', v', ih⟩ := steps_loop h1 h2 h3 hc hc2 ls (leftO fk (s.map (·.1))) (pushF c fk v s) (n + 31) (acc ++ [(pushF c fk v s, ownF fk (pushF c fk v s) s)]) ok.tail sv2 (by omega) (by simp; omega)
    refine ⟨fk', v', ?_⟩
    rw [List.append_assoc] at ih
    rw [List.map_cons, forGo_cons, runF]
    have hst : stF T fu (.nm 5) [5, 9] (lb_steps_of_1 pd pl lf) (someD s) [.dat (.int c), .dat (folkD fk), .dat (fr v), .dat d, .own false (.l (acc.map rowD)), .no, .no, .no, .no, .no, .no] =
        some (.nx, [.dat (.int c), .dat (folkD (leftO fk (s.map (·.1)))), .dat (fr (pushF c fk v s)), .dat d, .own false (.l ((acc ++ [(pushF c fk v s, ownF fk (pushF c fk v s) s)]).map rowD)), .no, .no, .no, .no, .no, .no]) := by
      clear ih
      obtain ⟨fd, td, qd⟩ := h1
      obtain ⟨fp, tp, qp⟩ := h2
      obtain ⟨fl, tl, ql⟩ := h3
      have c1 := qd c fk v s hc hc2 ok.one (sv.mono (by omega))
      have c2 := ql fk (s.map (·.1))
      generalize hv' : pushF c fk v s = v1 at *
      have nd := nodup_str ok.nd
      have hz : fk.length < sizeLine := Nat.lt_of_le_of_lt ok.le (by decide)
      have hza : (acc.map rowD).length < sizeLine := by
        rw [List.length_map]
        exact Nat.lt_of_le_of_lt (show acc.length ≤ 100 by omega) (by decide)
      have l2 : (2 : Nat) ≤ 1000 := by decide
      have hd : ∀ env : Env, env = [Slot.dat (.int c), .dat (.tuple (fk.map oneD)), .dat (fr v1), .dat d, .own false (.l (acc.map rowD)), .dat (.tuple (s.map lpD)), .no, .no, .no, .no, .no] →
          dcGo (dcF T (.var 6) (.var 8) (.tp [6, 7, 8]) [6, 7, 8]) (fk.map oneD) env [] = some ([] ++ fk.map (fun o => (.str o.name, .int o.leap)), env) := fun env he =>
        dcGo_map (kf := fun o => .str o.name) (vf := fun o => .int o.leap) fk [] (fun o ho => ⟨by
          subst he
          clear c1 c2 nd hz qp ql qd
          unfold oneD
          walk_at "evs", dk_str⟩) (by rw [List.nil_append, List.map_map]; exact nd) (by simpa using hz)
      replace hd := hd _ rfl
      rw [List.nil_append] at hd
      have hl : ∀ env : Env, env = [Slot.dat (.int c), .dat (.tuple (fk.map oneD)), .dat (fr v1), .dat d, .own false (.l (acc.map rowD)), .dat (.tuple (s.map lpD)), .no, .no, .no, .own false (.d false (fk.map (fun o => (.str o.name, .int o.leap)))), .no] →
          lcGo (lcF T (.tup (.cons (.var 6) (.cons (.call pl (.cons (.var 2) (.cons (.tup (.cons (.bin .Mult (.idx (.var 9) (.var 6)) (.var 10)) (.cons (.cst (.int 1)) .nil))) .nil))) .nil))) (.tp [6, 10]) .no [6, 10]) (s.map lpD) env = some (s.map (fun p => ownD (p.1, v1 + (((theO fk p.1).leap * p.2 : Int) : Rat))), env) := fun env he => lcGo_map s fun p hp => by
        subst he
        obtain ⟨t1, t2⟩ := theO_mem (ok.mem s List.mem_cons_self p hp)
        have hg := dget_map (kf := fun o : One => (.str o.name : D)) (vf := fun o => .int o.leap) t1 nd
        rw [t2] at hg
        have hm := ok.gd _ t1
        have hw := ok.way s List.mem_cons_self p hp
        have k1 := hm.okL
        have k2 : okI p.2 = true := okI_way hw
        have c3 := qp v1 (((theO fk p.1).leap * p.2 : Int) : Rat) (sv2.mono (by omega)) ((Sm.int (n := 15) (by have := hm.l1; have := hm.l2; rcases hw with e | e <;> rw [e] <;> omega) (by decide)).mono (by decide))
        rw [← fr_pair] at c3
        clear c1 c2 nd hz qp ql qd hd
        unfold lpD ownD
        walk_at "evs"
      replace hl := hl _ rfl
      have hl2 : ∀ env : Env, env = [Slot.dat (.int c), .dat (.tuple (fk.map oneD)), .dat (fr v1), .dat d, .own false (.l (acc.map rowD ++ [rowD (v1, ownF fk v1 s)])), .dat (.tuple (s.map lpD)), .no, .no, .no, .own false (.d false (fk.map (fun o => (.str o.name, .int o.leap)))), .no] →
          lcGo (lcF T (.var 6) (.tp [6, 10]) .no [6, 10]) (s.map lpD) env = some (s.map (fun p => .str p.1), env) := fun env he => lcGo_map s fun p hp => by
        subst he
        clear c1 c2 nd hz qp ql qd hd hl
        unfold lpD
        walk_at "evs"
      replace hl2 := hl2 _ rfl
      have e1 : (s.map (fun p => ownD (p.1, v1 + (((theO fk p.1).leap * p.2 : Int) : Rat)))) = (ownF fk v1 s).map ownD := by
        unfold ownF; rw [List.map_map]; rfl
      rw [e1] at hl
      have e2 : (s.map (fun p : Lp => (PyData.str p.1 : D))) = (s.map (·.1)).map .str := by rw [List.map_map]; rfl
      rw [e2] at hl2
      rw [stF_eq, List.map_append, List.map_cons, List.map_nil]
      clear qd qp ql nd hz sv sv2 hv'
      unfold lb_steps_of_1
      unfold folkD someD strL at *
      generalize ownF fk v1 s = w at *
      generalize List.map rowD acc = xs at *
      unfold rowD at hl2 ⊢
      simp only at hl2 ⊢
      walk_at "evs"
    rw [hst, Option.bind_some, kFg_nx, ih]
    rfl
theorem steps_ok {T : Tab} {fu : Nat} {pd pl lf : Str} (h1 : Fn T pd f4 PushedΦ) (h2 : Fn T pl ff PlusΦ) (h3 : Fn T lf ff LeftΦ) : StepsΦ (run T fu 7 (cb_steps_of pd pl lf)) := by
  intro c fk v ls n hc hc2 ok sv hn hl
  obtain ⟨fk', v', hg⟩ := steps_loop (fu := fu) (d := leapsD ls) h1 h2 h3 hc hc2 ls fk v n [] ok sv hn (by simpa using hl)
  rw [List.nil_append, List.map_nil] at hg
  have e0 : (0 : Nat) ≤ 1000 := by decide
  unfold cb_steps_of
  unfold leapsD folkD at *
  walk_at "evs"
def SpeedsΦ (fn : List Slot → Option (R × List Slot)) : Prop := ∀ (c : Int) (fk : List One) (v : Rat) (ls : List (List Lp)) (n : Nat), 1 ≤ c → c ≤ 10000 → Okl fk ls → Sm n v → n + 40 * ls.length ≤ 2900 → ls.length ≤ 100 → fn [.dat (.int c), .dat (folkD fk), .dat (fr v), .dat (leapsD ls)] = some (.new (.l ((runF c fk v ls).map fun r => fr r.1)), [.no, .no, .no, .no])
theorem speeds_ok {T : Tab} {fu : Nat} {so : Str} (h1 : Fn T so f4 StepsΦ) : SpeedsΦ (run T fu 1 (cb_speeds so)) := by
  obtain ⟨fs, ts, ps⟩ := h1
  intro c fk v ls n hc hc2 ok sv hn hll
  have c1 := ps c fk v ls n hc hc2 ok sv hn hll
  have hl : ∀ env : Env, env = [Slot.dat (.int c), .dat (folkD fk), .dat (fr v), .dat (leapsD ls), .no] → lcGo (lcF T (.idx (.var 4) (.cst (.int 0))) (.nm 4) .no [4]) ((runF c fk v ls).map rowD) env = some ((runF c fk v ls).map (fun r => fr r.1), env) := fun env he => lcGo_map _ fun r _ => by
    subst he
    clear c1 ps
    unfold rowD
    walk_at "evs"
  replace hl := hl _ rfl
  clear ps
  unfold cb_speeds
  walk_at "evs"
def allOwn (rs : List (Rat × List Own)) : List Own := rs.flatMap (·.2)
def LeapersΦ (fn : List Slot → Option (R × List Slot)) : Prop := ∀ (c : Int) (fk : List One) (v : Rat) (ls : List (List Lp)) (n : Nat), 1 ≤ c → c ≤ 10000 → Okl fk ls → Sm n v → n + 40 * ls.length ≤ 2900 → ls.length ≤ 100 → fn [.dat (.int c), .dat (folkD fk), .dat (fr v), .dat (leapsD ls)] = some (.new (.l (sortD ((allOwn (runF c fk v ls)).map ownD))), [.no, .no, .no, .no])
theorem sortOk_own (xs : List Own) : sortOk (xs.map ownD) = true := by
  unfold sortOk
  have h1 : (xs.map ownD).all (fun d => (xs.map ownD).all fun e => PySem.W.alike d e) = true := by
    rw [List.all_eq_true]
    intro d hd
    obtain ⟨a, _, rfl⟩ := List.mem_map.mp hd
    rw [List.all_eq_true]
    intro e he
    obtain ⟨b, _, rfl⟩ := List.mem_map.mp he
    simp [ownD, fr, PySem.W.alike, PySem.W.alikeAll]
  have h2 : (xs.map ownD).all isTupNE = true := by
    rw [List.all_eq_true]
    intro d hd
    obtain ⟨a, _, rfl⟩ := List.mem_map.mp hd
    rfl
  have h3 : (xs.map ownD).all (fun d => decide (d.depth ≤ 60)) = true := by
    rw [List.all_eq_true]
    intro d hd
    obtain ⟨a, _, rfl⟩ := List.mem_map.mp hd
    simp [ownD, fr, PyData.depth, PyData.depthAll]
  rw [h1, h2, h3]; rfl
theorem own_names {fk : List One} {v : Rat} {s : List Lp} : (ownF fk v s).map (·.1) = s.map (·.1) := by
  unfold ownF; rw [List.map_map]; rfl
theorem allOwn_names {c : Int} : ∀ (ls : List (List Lp)) (fk : List One) (v : Rat), (allOwn (runF c fk v ls)).map (·.1) = ls.flatten.map (·.1)
  | [], _, _ => rfl
  | s :: ls, fk, v => by
    have ih := allOwn_names (c := c) ls (leftO fk (s.map (·.1))) (pushF c fk v s)
    unfold allOwn at ih ⊢
    rw [runF, List.flatMap_cons, List.map_append, ih, own_names, List.flatten_cons, List.map_append]
theorem flat_len : ∀ (ls : List (List Lp)), (∀ s ∈ ls, s.length ≤ 7) → ls.flatten.length ≤ 7 * ls.length
  | [], _ => by simp
  | s :: ls, h => by
    have ih := flat_len ls fun t ht => h t (List.mem_cons_of_mem _ ht)
    have := h s List.mem_cons_self
    rw [List.flatten_cons, List.length_append, List.length_cons]
    omega
theorem allOwn_len {c : Int} {ls : List (List Lp)} {fk : List One} {v : Rat} (ok : Okl fk ls) : (allOwn (runF c fk v ls)).length ≤ 7 * ls.length := by
  have h1 := congrArg List.length (allOwn_names (c := c) ls fk v)
  simp only [List.length_map] at h1
  have := flat_len ls ok.sz
  omega
theorem leapers_ok {T : Tab} {fu : Nat} {so : Str} (h1 : Fn T so f4 StepsΦ) : LeapersΦ (run T fu 2 (cb_leapers so)) := by
  obtain ⟨fs, ts, ps⟩ := h1
  intro c fk v ls n hc hc2 ok sv hn hll
  have c1 := ps c fk v ls n hc hc2 ok sv hn hll
  have hl : ∀ env : Env, env = [Slot.dat (.int c), .dat (folkD fk), .dat (fr v), .dat (leapsD ls), .no, .no] → lc2Go (l2F T (.var 5) (.nm 4) (.nm 5) (.idx (.var 4) (.cst (.int 1))) [4, 5] [5]) ((runF c fk v ls).map rowD) env = some ((runF c fk v ls).flatMap (fun r => r.2.map ownD), env) := fun env he => lc2Go_all _ fun r _ => by
    subst he
    clear c1 ps
    have hi : ∀ env : Env, env = [Slot.dat (.int c), .dat (folkD fk), .dat (fr v), .dat (leapsD ls), .dat (.tuple [fr r.1, .list (r.2.map ownD)]), .no] → lcGo (lcF T (.var 5) (.nm 5) .no [5]) (r.2.map ownD) env = some (r.2.map ownD, env) := fun env he => lcGo_map _ fun q _ => by
      subst he
      walk_at "evs"
    replace hi := hi _ rfl
    unfold rowD
    walk_at "evs"
  replace hl := hl _ rfl
  have e1 : (runF c fk v ls).flatMap (fun r => r.2.map ownD) = (allOwn (runF c fk v ls)).map ownD := by
    unfold allOwn; rw [List.map_flatMap]
  rw [e1] at hl
  have hb := bi_sorted (sortOk_own (allOwn (runF c fk v ls)))
  have hz : ((allOwn (runF c fk v ls)).map ownD).length ≤ 100000 := by
    have := allOwn_len (c := c) (v := v) ok
    rw [List.length_map]
    omega
  clear ps
  unfold cb_leapers
  walk_at "evs"
end Lc
/-! The law's own run. -/
namespace Lc
open PySem L2
local macro_rules | `(tactic| walk_at "evs") => `(tactic| simp only [rdS_dat, rdS_own, rdS_scr, loS_dat, loS_own, loS_scr, ob_l, ob_d, look_dat, look_new, look_slot, lookD_dat, lookD_new, lookD_slot, obd, b2_some, fst_eq, ev_var, ev_cst, datE_eq, ev_glo, kBin2_eq, kBin1_eq, ev_bin, kNeg_eq, ev_neg, nots_eq, truR_dat, truR_slot, truth_b, kNot_eq, ev_not, blE_eq, kCmp2_eq, kCmp1_eq, cmpB_d, cmpB_in, cmpB_ni, kDcE_eq, kDc_eq, ev_dc, dcF5_eq, dcF4_eq, dcF3_eq, dcF2_eq, dcF1_eq, dcF_eq, ev_dnew, gtO_eq, kGt3_eq, kGt2_eq, kGt1_eq, kGt_eq, isDic_k, ev_getD, kL2e_eq, kL2_eq, ev_lc2, l2F3_eq, l2F2_eq, l2F1_eq, l2F_eq, ix_k, dk_str, dk_int, ev_cmp, kCh4_eq, kCh3_true, kCh3_false, kCh2_eq, kCh1_eq, ev_chain, kIte2_true, kIte2_false, kIte_eq, ev_ite, ev_and, ev_or, kTru_eq, evAnd_one, evOr_one, kAnd2_true, kAnd2_false, kAnd_eq, evAnd_cons, kOr2_true, kOr2_false, kOr_eq, evOr_cons, consE_eq, kL_eq, evL_nil, evL_cons, frz_dat, frz_new, fzS_dat, fzS_own, frz_slot, kF2_eq, kF_eq, frzL_nil, frzL_cons, kTup2_eq, kTup_eq, ev_tup, kLst2_eq, kLst_eq, ev_lst, ixOb_eq, kIx2_eq, kIx_eq, ev_idx, kO_eq, evO_no, evO_so, kSl3_eq, kSl2_eq, kSl_eq, ev_sl, kRev_eq, ev_rev, kC4_dat, kC4_new, kC3_eq, kC2_eq, kC_eq, ev_callE, kP_eq, kPs_eq, kPf_eq, pass_nil, pass_dat, pass_new, pass_newT, psS_scr, psS_dat, psS_own, pass_slotF, ptS_own, ptS_own0, pass_slotT, noS_nil, noS_dat, noS_new, noS_slot, back_nil, back_f, back_new, bkS_own, back_t, kOb2_eq, kOb_eq, lookL_nil, lookL_cons, kB2_eq, kB_eq, ev_blt, isiE_eq, kIs_eq, ev_isi, kLcE_eq, kLc_eq, ev_lc, lcGo_nil, kGoE_some, kGoE_none, kGo_eq, lcGo_cons, evC_no, evC_so, lcF4_eq, lcF3_eq, lcF2_true, lcF2_false, lcF1_eq, lcF_eq, kSq2_eq, kSq1_eq, kSq_eq, evSrc_seq, rngE_eq, kRg_eq, evSrc_rng, enumE_eq, kEn_eq, evSrc_enum, kZ4_l, kZ4_m, kZ4_t, kY4_eq, kY3_eq, kY2_eq, kY1_eq, ev_lzip, kNp_eq, asg_npE, kZ3_eq, kZ2_eq, kZ1_eq, evSrc_zip, setE_eq, kSet_eq, ex_set, datS_eq, nrm_t, nrm_fd, nrm_fl, nrm_fk, nrm_fs, kN2_eq, kN_eq, nrmL_nil, nrmL_cons, putL_nil, putL_cons, nxE_eq, kPr2_eq, kPr_eq, ex_par, kU2_eq, kU_eq, ex_unp, asg_nm, asg_tp, kPp_eq, asg_ppE, asgN_nil, asgN_cons, kSb2_eq, kSb1_eq, kSb_eq, ex_sub, kAp_eq, ex_app, kIn3_eq, kIn2_eq, kIn_eq, ex_ins, exE_eq, ex_expr, rtE_eq, ex_ret, kIf2_true, kIf2_false, kIf_eq, ex_ite, kFo2_eq, kFo_eq, ex_for, ex_whl, forGo_nil, kFg_nx, kFg_rt, kXs_nx, kXs_rt, exL_nil, exL_cons, kRun2_eq, kRun_nx, kRun_rt, run_eq, fin_dat, fin_new, finS_dat, finS_own, fin_slot, outs_nil, outs_cons, par_dat, par_own, par_scr, par_no, freeS_eq, frS_eq, ownS_eq, owS_own, ownL_eq, olS_own, wip_nil, wip_cons, unwip_nil, unwip_cons, wkS_no, wkS_dat, wipOk_eq, lkS_own, lkS_dat, lkS_scr, lockS_slot, lockS_dat, lockS_new, lock_none, lock_some, unlock_none, unlock_some, seqOf_l, seqOf_t, kSb3_S, sbS_0, sbS_1, sbS_d, kAp2_S, apS_l, kIn4_S, inS_l, stG_eq, kWp_eq, whC_eq, kWh_nx, kWh_rt, kW1_t, kW1_f, bo_add, bo_sub, bo_mul, bo_fd, bo_mod, bo_cat, bo_catT, bo_cats, co_lt, co_le, co_gt, co_ge, co_isN, co_isnotN, bi_abs, bi_lenL, bi_lenT, bi_lenS, bi_lenR, bi_min, bi_tupL, bi_tupT, bi_lstL, bi_lstT, ix_l, ix_t, ix_r, atI_n0, atI_n1, atI_n2, atI_n3, sl_l, sl_t, isN_n, isN_t, isN_l, isN_i, isN_b, isN_s, ne_tt, ne_tf, ne_ft, ne_ff, List.getElem?_cons_zero, List.getElem?_cons_succ, List.set_cons_zero, List.set_cons_succ, List.cons_append, List.nil_append, List.replicate_succ, List.replicate_zero, List.getD_cons_zero, List.getD_cons_succ, Option.bind_some, Option.map_some, Option.bind_none, Option.map_none, Bool.not_true, Bool.not_false, Bool.and_true, Bool.true_and, Bool.and_false, Bool.false_and, and_self, and_true, true_and, decide_true, decide_false, if_true, if_false, Bool.false_eq_true, List.all_cons, List.all_nil, List.length_cons, List.length_nil, List.map_cons, List.map_nil, *])
def BehindΦ (fn : List Slot → Option (R × List Slot)) : Prop := ∀ (c : Int) (fk : List One) (v : Rat) (s : List Lp), 1 ≤ c → c ≤ 10000 → Okl fk [s] → Sm 2500 v → fn [.dat (.int c), .dat (folkD fk), .dat (fr v), .dat (someD s)] = some (.dat (fr (pushF c fk v s)), [.no, .no, .no, .no])
theorem behind_loop {T : Tab} {fu : Nat} {tm wg lo pl : Str} (h1 : Fn T pl ff PlusΦ) {fk : List One} {s0 s1 s2 s3 s4 : Slot} (gd : ∀ o ∈ fk, Mild o) (nd : (fk.map (·.name)).Nodup) : ∀ (l : List Lp) (q : Rat) (n : Nat), (∀ p ∈ l, p.2 = 1 ∨ p.2 = -1) → (∀ p ∈ l, p.1 ∈ fk.map (·.name)) → Sm n q → n + 30 * l.length ≤ 2900 →
    Sm (n + 30 * l.length) (q - ((pushN fk l : Int) : Rat)) ∧ forGo (stF T fu (.tp [7, 8]) [7, 8] (lb_behind_1 tm wg lo pl)) (l.map lpD) [s0, s1, s2, s3, s4, .own false (.d false (fk.map fun o => (.str o.name, oneD o))), .dat (fr q), .no, .no] = some (.nx, [s0, s1, s2, s3, s4, .own false (.d false (fk.map fun o => (.str o.name, oneD o))), .dat (fr (q - ((pushN fk l : Int) : Rat))), .no, .no])
  | [], q, n, _, _, sq, _ => by
    have e : q - ((pushN fk [] : Int) : Rat) = q := by simp [pushN]; grind
    rw [e]
    exact ⟨by simpa using sq, rfl⟩
  | p :: l, q, n, hw, hm, sq, hn => by
    simp only [List.length_cons] at hn
    obtain ⟨t1, t2⟩ := theO_mem (hm p List.mem_cons_self)
    have hg := dget_map (kf := fun o : One => (.str o.name : D)) (vf := oneD) t1 (nodup_str nd)
    rw [t2] at hg
    have md := gd _ t1
    have w := hw p List.mem_cons_self
    have k1 := md.okH
    have k2 := md.okL
    have k3 := md.okHL
    have k4 := okI_way w
    have b1 := md.hl
    have sX : Sm 28 (((0 - (theO fk p.1).heavy * (theO fk p.1).leap * p.2 : Int)) : Rat) := Sm.int (by rcases w with e | e <;> rw [e] <;> omega) (by decide)
    have k5 : okI ((theO fk p.1).heavy * (theO fk p.1).leap * p.2) = true := okI_64 (by rcases w with e | e <;> rw [e] <;> omega) (by rcases w with e | e <;> rw [e] <;> omega)
    have sq2 := (sq.add sX).mono (m := n + 30) (by omega)
    obtain ⟨s3', ih⟩ := behind_loop (fu := fu) (tm := tm) (wg := wg) (lo := lo) h1 (s0 := s0) (s1 := s1) (s2 := s2) (s3 := s3) (s4 := s4) gd nd l _ (n + 30) (fun x hx => hw x (List.mem_cons_of_mem _ hx)) (fun x hx => hm x (List.mem_cons_of_mem _ hx)) sq2 (by omega)
    have e : q + (((0 - (theO fk p.1).heavy * (theO fk p.1).leap * p.2 : Int)) : Rat) - ((pushN fk l : Int) : Rat) = q - ((pushN fk (p :: l) : Int) : Rat) := by
      unfold pushN
      rw [List.map_cons, List.sum_cons, Rat.intCast_add, Rat.intCast_sub]
      grind
    rw [e] at ih s3'
    refine ⟨by simpa [Nat.mul_add, Nat.add_assoc, Nat.add_comm, Nat.add_left_comm] using s3', ?_⟩
    rw [List.map_cons, forGo_cons]
    have hst : stF T fu (.tp [7, 8]) [7, 8] (lb_behind_1 tm wg lo pl) (lpD p) [s0, s1, s2, s3, s4, .own false (.d false (fk.map fun o => (.str o.name, oneD o))), .dat (fr q), .no, .no] = some (.nx, [s0, s1, s2, s3, s4, .own false (.d false (fk.map fun o => (.str o.name, oneD o))), .dat (fr (q + (((0 - (theO fk p.1).heavy * (theO fk p.1).leap * p.2 : Int)) : Rat))), .no, .no]) := by
      clear ih s3' e
      obtain ⟨fp, tp, pp⟩ := h1
      have c1 := pp q _ (sq.mono (by omega)) (sX.mono (by decide))
      rw [← fr_pair] at c1
      have l2 : (2 : Nat) ≤ 1000 := by decide
      clear pp sX sq sq2 hm hw gd nd
      rw [stF_eq]
      have hO : theO fk p.1 = ⟨p.1, (theO fk p.1).heavy, (theO fk p.1).leap⟩ := by rw [← t2, t2]; cases h : theO fk p.1 with | mk a b c => rw [h] at t2; simp at t2; rw [t2]
      have hg2 : dget (fk.map fun o => ((.str o.name : D), oneD o)) (.str p.1) = some (.tuple [.str p.1, .int (theO fk p.1).heavy, .int (theO fk p.1).leap]) := by rw [hg, oneD, t2]
      clear hg hO
      generalize (theO fk p.1).heavy = a at *
      generalize (theO fk p.1).leap = b at *
      unfold lb_behind_1 lpD
      walk_at "evs"
    rw [hst, Option.bind_some, kFg_nx, ih]
theorem behind_val {c : Int} {fk : List One} {v : Rat} {s : List Lp} (hw : 0 < wt c fk) : (v * ((wt c fk : Int) : Rat) - ((pushN fk s : Int) : Rat)) * Rat.divInt 1 (wt c fk) = pushF c fk v s := by
  have h := castR_pos hw
  unfold pushF
  rw [Rat.divInt_eq_div, Rat.divInt_eq_div, Rat.intCast_sub]
  have : ((wt c fk : Int) : Rat) ≠ 0 := by grind
  have e1 : ((1 : Int) : Rat) = 1 := rfl
  have e0 : ((0 : Int) : Rat) = 0 := rfl
  rw [e1, e0]
  grind
theorem behind_ok {T : Tab} {fu : Nat} {tm wg lo pl : Str} (h1 : Fn T tm ff TimesΦ) (h2 : Fn T wg ff WeightΦ) (h3 : Fn T lo ff LowΦ) (h4 : Fn T pl ff PlusΦ) : BehindΦ (run T fu 5 (cb_behind tm wg lo pl)) := by
  intro c fk v s hc hc2 ok sv
  have b3 := wt_mild hc hc2 ok.gd ok.le
  have hsz := ok.sz s List.mem_cons_self
  have sW : Sm 17 ((wt c fk : Int) : Rat) := Sm.int (by omega) (by decide)
  obtain ⟨sq, hgo⟩ := behind_loop (fu := fu) (tm := tm) (wg := wg) (lo := lo) h4 (s0 := .dat (.int c)) (s1 := .dat (folkD fk)) (s2 := .dat (fr v)) (s3 := .dat (someD s)) (s4 := .no) ok.gd ok.nd s _ 2517 (ok.way s List.mem_cons_self) (ok.mem s List.mem_cons_self) (sv.mul sW) (by omega)
  have hv := behind_val (c := c) (fk := fk) (v := v) (s := s) (by omega)
  obtain ⟨ft, tt, pt⟩ := h1
  obtain ⟨fw, tw, pw⟩ := h2
  obtain ⟨fl, tl, ql⟩ := h3
  have kW : okI (wt c fk) = true := okI_64 (by omega) (by omega)
  have c1 := pw c fk
  have c2 := pt v (wt c fk) (sv.mono (by decide)) kW
  generalize v * ((wt c fk : Int) : Rat) - ((pushN fk s : Int) : Rat) = q at *
  have sq := sq.mono (m := 2900) (by omega)
  have kD := sq.okden (by decide)
  have kN := sq.oknum (by decide)
  have c3 := ql (q.num * 1) (q.den * wt c fk) (Int.mul_pos (den_pos q) (by omega)) (okI_of (natAbs_mul_lt (n := 2900) (m := 17) (by simpa using sq.2) (by omega)) (by decide))
  rw [rat_mul, hv, Int.mul_one] at c3
  have hl : ∀ env : Env, env = [Slot.dat (.int c), .dat (.tuple (fk.map oneD)), .dat (fr v), .dat (.tuple (s.map lpD)), .no, .no, .no, .no, .no] →
      lcGo (lcF T (.tup (.cons (.idx (.var 4) (.cst (.int 0))) (.cons (.var 4) .nil))) (.nm 4) .no [4]) (fk.map oneD) env = some (fk.map (fun o => .tuple [.str o.name, oneD o]), env) := fun env he => lcGo_map _ fun o _ => by
    subst he
    have l2 : (2 : Nat) ≤ 1000 := by decide
    clear c1 c2 c3 pt pw ql hgo
    generalize fk.map oneD = xs
    unfold oneD
    walk_at "evs"
  replace hl := hl _ rfl
  have hp := pairsD_map (kf := fun o : One => (.str o.name : D)) (vf := oneD) fk fun o _ => dk_str
  have hb := bi_dict hp
  rw [mergeD_new _ [] (by rw [List.nil_append, List.map_map]; exact nodup_str ok.nd), List.nil_append] at hb
  clear pt pw ql hp sq sW sv
  unfold cb_behind
  unfold folkD someD at *
  unfold fr at *
  walk_at "evs"
def RunΦ (fn : List Slot → Option (R × List Slot)) : Prop := ∀ (c : Int) (fk : List One) (v : Rat) (ls : List (List Lp)) (n : Nat), 1 ≤ c → c ≤ 10000 → Okl fk ls → Sm n v → n + 40 * ls.length ≤ 2500 → ls.length ≤ 100 → fn [.dat (.int c), .dat (folkD fk), .dat (fr v), .dat (leapsD ls)] = some (.new (.l ((runF c fk v ls).map rowD)), [.no, .no, .no, .no])
theorem filter_the {fk : List One} {n : Str} (h : n ∈ fk.map (·.name)) (nd : (fk.map (·.name)).Nodup) : fk.filter (fun x => decide (x.name = n)) = [theO fk n] := by
  obtain ⟨t1, t2⟩ := theO_mem h
  have := filter_one t1 nd
  rw [t2] at this
  exact this
theorem run_inner {T : Tab} {fu : Nat} {bh lf pl : Str} {fk : List One} {v : Rat} {m : Nat} {s0 s3 s4 s5 : Slot} (h1 : Fn T pl ff PlusΦ) (gd : ∀ o ∈ fk, Mild o) (nd : (fk.map (·.name)).Nodup) (sv : Sm m v) (hm : m ≤ 2900) : ∀ (l : List Lp) (acc : List Own), (∀ p ∈ l, p.2 = 1 ∨ p.2 = -1) → (∀ p ∈ l, p.1 ∈ fk.map (·.name)) → acc.length + l.length ≤ 100 →
    forGo (stF T fu (.tp [7, 8]) [7, 8, 10] (lb_run_2 bh lf pl)) (l.map lpD) [s0, .dat (folkD fk), .dat (fr v), s3, s4, s5, .own false (.l (acc.map ownD)), .no, .no, .no, .no] = some (.nx, [s0, .dat (folkD fk), .dat (fr v), s3, s4, s5, .own false (.l ((acc ++ ownF fk v l).map ownD)), .no, .no, .no, .no])
  | [], acc, _, _, _ => by
    have : ownF fk v [] = [] := rfl
    rw [this, List.append_nil]; rfl
  | p :: l, acc, hw, hp, hacc => by
    simp only [List.length_cons] at hacc
    have ih := run_inner (fu := fu) (bh := bh) (lf := lf) (s0 := s0) (s3 := s3) (s4 := s4) (s5 := s5) h1 gd nd sv hm l (acc ++ [(p.1, v + (((theO fk p.1).leap * p.2 : Int) : Rat))]) (fun x hx => hw x (List.mem_cons_of_mem _ hx)) (fun x hx => hp x (List.mem_cons_of_mem _ hx)) (by simp; omega)
    have e : acc ++ [(p.1, v + (((theO fk p.1).leap * p.2 : Int) : Rat))] ++ ownF fk v l = acc ++ ownF fk v (p :: l) := by
      rw [List.append_assoc]; rfl
    rw [e] at ih
    rw [List.map_cons, forGo_cons]
    have hst : stF T fu (.tp [7, 8]) [7, 8, 10] (lb_run_2 bh lf pl) (lpD p) [s0, .dat (folkD fk), .dat (fr v), s3, s4, s5, .own false (.l (acc.map ownD)), .no, .no, .no, .no] = some (.nx, [s0, .dat (folkD fk), .dat (fr v), s3, s4, s5, .own false (.l ((acc ++ [(p.1, v + (((theO fk p.1).leap * p.2 : Int) : Rat))]).map ownD)), .no, .no, .no, .no]) := by
      clear ih e
      obtain ⟨fp, tp, pp⟩ := h1
      have hin := hp p List.mem_cons_self
      obtain ⟨t1, t2⟩ := theO_mem hin
      have md := gd _ t1
      have w := hw p List.mem_cons_self
      have k1 := md.okL
      have k2 := okI_way w
      have c1 := pp v (((theO fk p.1).leap * p.2 : Int) : Rat) (sv.mono (by omega)) ((Sm.int (n := 15) (by have := md.l1; have := md.l2; rcases w with e | e <;> rw [e] <;> omega) (by decide)).mono (by decide))
      rw [← fr_pair] at c1
      have hl : ∀ env : Env, env = [s0, .dat (.tuple (fk.map oneD)), .dat (fr v), s3, s4, s5, .own false (.l (acc.map ownD)), .dat (.str p.1), .dat (.int p.2), .no, .no] →
          lcGo (lcF T (.idx (.var 9) (.cst (.int 2))) (.nm 9) (.so (.cmp .Eq (.idx (.var 9) (.cst (.int 0))) (.var 7))) [9]) (fk.map oneD) env = some ((fk.filter fun x => decide (x.name = p.1)).map (fun o => .int o.leap), env) := fun env he => lcGo_filter fk fun x _ => by
        subst he
        clear c1 pp
        generalize fk.map oneD = xs
        generalize acc.map ownD = ys
        unfold oneD
        have h := @co_eq_s x.name p.1
        walk_at "evs"
        by_cases h2 : x.name = p.1
        · walk_at "evs"
        · walk_at "evs"
      replace hl := hl _ rfl
      rw [filter_the hin nd] at hl
      have hza : (acc.map ownD).length < sizeLine := by
        rw [List.length_map]
        exact Nat.lt_of_le_of_lt (show acc.length ≤ 100 by omega) (by decide)
      have l2 : (2 : Nat) ≤ 1000 := by decide
      rw [stF_eq, List.map_append, List.map_cons, List.map_nil]
      clear pp sv hw hp
      unfold lb_run_2 folkD
      generalize List.map ownD acc = ys at *
      unfold lpD ownD
      walk_at "evs"
    rw [hst, Option.bind_some, kFg_nx, ih]
theorem run_loop {T : Tab} {fu : Nat} {bh lf pl : Str} {c : Int} {d : D} (h1 : Fn T bh f4 BehindΦ) (h2 : Fn T lf ff LeftΦ) (h3 : Fn T pl ff PlusΦ) (hc : 1 ≤ c) (hc2 : c ≤ 10000) : ∀ (ls : List (List Lp)) (fk : List One) (v : Rat) (n : Nat) (acc : List (Rat × List Own)), Okl fk ls → Sm n v → n + 40 * ls.length ≤ 2500 → acc.length + ls.length ≤ 100 →
    ∃ (fk' : List One) (v' : Rat), forGo (stF T fu (.nm 5) [5, 6, 7, 8, 10] (lb_run_1 bh lf pl)) (ls.map someD) [.dat (.int c), .dat (folkD fk), .dat (fr v), .dat d, .own false (.l (acc.map rowD)), .no, .no, .no, .no, .no, .no] = some (.nx, [.dat (.int c), .dat (folkD fk'), .dat (fr v'), .dat d, .own false (.l ((acc ++ runF c fk v ls).map rowD)), .no, .no, .no, .no, .no, .no])
  | [], fk, v, n, acc, _, _, _, _ => ⟨fk, v, by rw [runF, List.append_nil]; rfl⟩
  | s :: ls, fk, v, n, acc, ok, sv, hn, hacc => by
    simp only [List.length_cons] at hn hacc
    have sv2 := pushF_sm hc hc2 ok sv
    obtain ⟨fk', v', ih⟩ := run_loop h1 h2 h3 hc hc2 ls (leftO fk (s.map (·.1))) (pushF c fk v s) (n + 31) (acc ++ [(pushF c fk v s, ownF fk (pushF c fk v s) s)]) ok.tail sv2 (by omega) (by simp; omega)
    refine ⟨fk', v', ?_⟩
    rw [List.append_assoc] at ih
    rw [List.map_cons, forGo_cons, runF]
    have hst : stF T fu (.nm 5) [5, 6, 7, 8, 10] (lb_run_1 bh lf pl) (someD s) [.dat (.int c), .dat (folkD fk), .dat (fr v), .dat d, .own false (.l (acc.map rowD)), .no, .no, .no, .no, .no, .no] =
        some (.nx, [.dat (.int c), .dat (folkD (leftO fk (s.map (·.1)))), .dat (fr (pushF c fk v s)), .dat d, .own false (.l ((acc ++ [(pushF c fk v s, ownF fk (pushF c fk v s) s)]).map rowD)), .no, .no, .no, .no, .no, .no]) := by
      clear ih
      have hsz := ok.sz s List.mem_cons_self
      have inn := run_inner (fu := fu) (bh := bh) (lf := lf) (fk := fk) (s0 := .dat (.int c)) (s3 := .dat d) (s4 := .own false (.l (acc.map rowD))) (s5 := .dat (someD s)) h3 ok.gd ok.nd sv2 (by omega) s [] (ok.way s List.mem_cons_self) (ok.mem s List.mem_cons_self) (by simp; omega)
      rw [List.nil_append, List.map_nil] at inn
      obtain ⟨fd, td, qd⟩ := h1
      obtain ⟨fl, tl, ql⟩ := h2
      have c1 := qd c fk v s hc hc2 ok.one (sv.mono (by omega))
      have c2 := ql fk (s.map (·.1))
      generalize hv' : pushF c fk v s = v1 at *
      have hza : (acc.map rowD).length < sizeLine := by
        rw [List.length_map]
        exact Nat.lt_of_le_of_lt (show acc.length ≤ 100 by omega) (by decide)
      have l2 : (2 : Nat) ≤ 1000 := by decide
      have l0 : (0 : Nat) ≤ 1000 := by decide
      have hl2 : ∀ env : Env, env = [Slot.dat (.int c), .dat (.tuple (fk.map oneD)), .dat (fr v1), .dat d, .own false (.l (acc.map rowD ++ [rowD (v1, ownF fk v1 s)])), .dat (.tuple (s.map lpD)), .dat (.list ((ownF fk v1 s).map ownD)), .no, .no, .no, .no] →
          lcGo (lcF T (.var 7) (.tp [7, 8]) .no [7, 8]) (s.map lpD) env = some (s.map (fun p => .str p.1), env) := fun env he => lcGo_map s fun p hp => by
        subst he
        clear c1 c2 qd ql inn
        unfold lpD
        walk_at "evs"
      replace hl2 := hl2 _ rfl
      have e2 : (s.map (fun p : Lp => (PyData.str p.1 : D))) = (s.map (·.1)).map .str := by rw [List.map_map]; rfl
      rw [e2] at hl2
      rw [stF_eq, List.map_append, List.map_cons, List.map_nil]
      clear qd ql sv sv2 hv'
      unfold lb_run_1
      unfold folkD someD strL at *
      generalize ownF fk v1 s = w at *
      generalize List.map rowD acc = xs at *
      unfold rowD at hl2 ⊢
      simp only at hl2 ⊢
      walk_at "evs"
    rw [hst, Option.bind_some, kFg_nx, ih]
    rfl
theorem run_ok {T : Tab} {fu : Nat} {bh lf pl : Str} (h1 : Fn T bh f4 BehindΦ) (h2 : Fn T lf ff LeftΦ) (h3 : Fn T pl ff PlusΦ) : RunΦ (run T fu 7 (cb_run bh lf pl)) := by
  intro c fk v ls n hc hc2 ok sv hn hl
  obtain ⟨fk', v', hg⟩ := run_loop (fu := fu) (d := leapsD ls) h1 h2 h3 hc hc2 ls fk v n [] ok sv hn (by simpa using hl)
  rw [List.nil_append, List.map_nil] at hg
  have e0 : (0 : Nat) ≤ 1000 := by decide
  unfold cb_run
  unfold leapsD folkD at *
  walk_at "evs"
end Lc
/-! Plain laws: weights times speeds; equal rows. -/
namespace Lc
open PySem L2
local macro_rules | `(tactic| walk_at "evs") => `(tactic| simp only [rdS_dat, rdS_own, rdS_scr, loS_dat, loS_own, loS_scr, ob_l, ob_d, look_dat, look_new, look_slot, lookD_dat, lookD_new, lookD_slot, obd, b2_some, fst_eq, ev_var, ev_cst, datE_eq, ev_glo, kBin2_eq, kBin1_eq, ev_bin, kNeg_eq, ev_neg, nots_eq, truR_dat, truR_slot, truth_b, kNot_eq, ev_not, blE_eq, kCmp2_eq, kCmp1_eq, cmpB_d, cmpB_in, cmpB_ni, kDcE_eq, kDc_eq, ev_dc, dcF5_eq, dcF4_eq, dcF3_eq, dcF2_eq, dcF1_eq, dcF_eq, ev_dnew, gtO_eq, kGt3_eq, kGt2_eq, kGt1_eq, kGt_eq, isDic_k, ev_getD, kL2e_eq, kL2_eq, ev_lc2, l2F3_eq, l2F2_eq, l2F1_eq, l2F_eq, ix_k, dk_str, dk_int, ev_cmp, kCh4_eq, kCh3_true, kCh3_false, kCh2_eq, kCh1_eq, ev_chain, kIte2_true, kIte2_false, kIte_eq, ev_ite, ev_and, ev_or, kTru_eq, evAnd_one, evOr_one, kAnd2_true, kAnd2_false, kAnd_eq, evAnd_cons, kOr2_true, kOr2_false, kOr_eq, evOr_cons, consE_eq, kL_eq, evL_nil, evL_cons, frz_dat, frz_new, fzS_dat, fzS_own, frz_slot, kF2_eq, kF_eq, frzL_nil, frzL_cons, kTup2_eq, kTup_eq, ev_tup, kLst2_eq, kLst_eq, ev_lst, ixOb_eq, kIx2_eq, kIx_eq, ev_idx, kO_eq, evO_no, evO_so, kSl3_eq, kSl2_eq, kSl_eq, ev_sl, kRev_eq, ev_rev, kC4_dat, kC4_new, kC3_eq, kC2_eq, kC_eq, ev_callE, kP_eq, kPs_eq, kPf_eq, pass_nil, pass_dat, pass_new, pass_newT, psS_scr, psS_dat, psS_own, pass_slotF, ptS_own, ptS_own0, pass_slotT, noS_nil, noS_dat, noS_new, noS_slot, back_nil, back_f, back_new, bkS_own, back_t, kOb2_eq, kOb_eq, lookL_nil, lookL_cons, kB2_eq, kB_eq, ev_blt, isiE_eq, kIs_eq, ev_isi, kLcE_eq, kLc_eq, ev_lc, lcGo_nil, kGoE_some, kGoE_none, kGo_eq, lcGo_cons, evC_no, evC_so, lcF4_eq, lcF3_eq, lcF2_true, lcF2_false, lcF1_eq, lcF_eq, kSq2_eq, kSq1_eq, kSq_eq, evSrc_seq, rngE_eq, kRg_eq, evSrc_rng, enumE_eq, kEn_eq, evSrc_enum, kZ4_l, kZ4_m, kZ4_t, kY4_eq, kY3_eq, kY2_eq, kY1_eq, ev_lzip, kNp_eq, asg_npE, kZ3_eq, kZ2_eq, kZ1_eq, evSrc_zip, setE_eq, kSet_eq, ex_set, datS_eq, nrm_t, nrm_fd, nrm_fl, nrm_fk, nrm_fs, kN2_eq, kN_eq, nrmL_nil, nrmL_cons, putL_nil, putL_cons, nxE_eq, kPr2_eq, kPr_eq, ex_par, kU2_eq, kU_eq, ex_unp, asg_nm, asg_tp, kPp_eq, asg_ppE, asgN_nil, asgN_cons, kSb2_eq, kSb1_eq, kSb_eq, ex_sub, kAp_eq, ex_app, kIn3_eq, kIn2_eq, kIn_eq, ex_ins, exE_eq, ex_expr, rtE_eq, ex_ret, kIf2_true, kIf2_false, kIf_eq, ex_ite, kFo2_eq, kFo_eq, ex_for, ex_whl, forGo_nil, kFg_nx, kFg_rt, kXs_nx, kXs_rt, exL_nil, exL_cons, kRun2_eq, kRun_nx, kRun_rt, run_eq, fin_dat, fin_new, finS_dat, finS_own, fin_slot, outs_nil, outs_cons, par_dat, par_own, par_scr, par_no, freeS_eq, frS_eq, ownS_eq, owS_own, ownL_eq, olS_own, wip_nil, wip_cons, unwip_nil, unwip_cons, wkS_no, wkS_dat, wipOk_eq, lkS_own, lkS_dat, lkS_scr, lockS_slot, lockS_dat, lockS_new, lock_none, lock_some, unlock_none, unlock_some, seqOf_l, seqOf_t, kSb3_S, sbS_0, sbS_1, sbS_d, kAp2_S, apS_l, kIn4_S, inS_l, stG_eq, kWp_eq, whC_eq, kWh_nx, kWh_rt, kW1_t, kW1_f, bo_add, bo_sub, bo_mul, bo_fd, bo_mod, bo_cat, bo_catT, bo_cats, co_lt, co_le, co_gt, co_ge, co_isN, co_isnotN, bi_abs, bi_lenL, bi_lenT, bi_lenS, bi_lenR, bi_min, bi_tupL, bi_tupT, bi_lstL, bi_lstT, ix_l, ix_t, ix_r, atI_n0, atI_n1, atI_n2, atI_n3, sl_l, sl_t, isN_n, isN_t, isN_l, isN_i, isN_b, isN_s, ne_tt, ne_tf, ne_ft, ne_ff, List.getElem?_cons_zero, List.getElem?_cons_succ, List.set_cons_zero, List.set_cons_succ, List.cons_append, List.nil_append, List.replicate_succ, List.replicate_zero, List.getD_cons_zero, List.getD_cons_succ, Option.bind_some, Option.map_some, Option.bind_none, Option.map_none, Bool.not_true, Bool.not_false, Bool.and_true, Bool.true_and, Bool.and_false, Bool.false_and, and_self, and_true, true_and, decide_true, decide_false, if_true, if_false, Bool.false_eq_true, List.all_cons, List.all_nil, List.length_cons, List.length_nil, List.map_cons, List.map_nil, *])
theorem plainAll_of : ∀ (xs : List D), (∀ x ∈ xs, x.plain = true) → PyData.plainAll xs = true
  | [], _ => rfl
  | x :: xs, h => by
    rw [PyData.plainAll, h x List.mem_cons_self, plainAll_of xs fun y hy => h y (List.mem_cons_of_mem _ hy)]; rfl
theorem depthAll_of {n : Nat} : ∀ (xs : List D), (∀ x ∈ xs, x.depth ≤ n) → PyData.depthAll xs ≤ n
  | [], _ => by simp [PyData.depthAll]
  | x :: xs, h => by
    have h1 := h x List.mem_cons_self
    have h2 := depthAll_of xs fun y hy => h y (List.mem_cons_of_mem _ hy)
    rw [PyData.depthAll]
    exact Nat.max_le.mpr ⟨h1, h2⟩
theorem co_ne_same {xs : List D} (h : ∀ x ∈ xs, x.plain = true ∧ x.depth ≤ 50) : cmpop .NotEq (.list xs) (.list xs) = some false := by
  have h1 := depthAll_of (n := 50) xs fun x hx => (h x hx).2
  rw [co_ne (by unfold eqOk; apply decide_eq_true; simp only [PyData.depth]; omega)]
  rw [PyData.eqv, SeqAt.eqvAll_refl_plain xs (plainAll_of xs fun x hx => (h x hx).1)]
  rfl
theorem fr_plain (q : Rat) : (fr q).plain = true ∧ (fr q).depth ≤ 50 := ⟨rfl, by simp [fr, PyData.depth, PyData.depthAll]⟩
theorem own_plain (p : Own) : (ownD p).plain = true ∧ (ownD p).depth ≤ 50 := ⟨rfl, by simp [ownD, fr, PyData.depth, PyData.depthAll]⟩
theorem cut_last {xs : List D} {x : D} : cut (xs ++ [x]) none (some (-1)) = xs := by
  show ((xs ++ [x]).drop 0).take ((if (-1 : Int) < 0 then ((-1 : Int) + ((xs ++ [x]).length : Int)).toNat else min (-1 : Int).toNat (xs ++ [x]).length) - 0) = xs
  rw [if_pos (by decide)]
  have : ((-1 : Int) + ((xs ++ [x]).length : Int)).toNat = xs.length := by simp; omega
  rw [this]
  simp
/-! ### a body in parts -/
def tkS : Nat → SL → SL
  | n + 1, .cons s r => .cons s (tkS n r)
  | _, _ => .nil
def drS : Nat → SL → SL
  | n + 1, .cons s r => drS n r
  | _, r => r
theorem exL_cut {T : Tab} {fu : Nat} : ∀ (n : Nat) (l : SL) (env : Env), exL T fu l env = (exL T fu (tkS n l) env).bind (kXs T fu (drS n l))
  | 0, l, env => by
    have h1 : tkS 0 l = .nil := by cases l <;> rfl
    have h2 : drS 0 l = l := by cases l <;> rfl
    rw [h1, h2, exL_nil, Option.bind_some, kXs_nx]
  | n + 1, .nil, env => by
    have h1 : tkS (n + 1) .nil = .nil := rfl
    have h2 : drS (n + 1) .nil = .nil := rfl
    rw [h1, h2, exL_nil, Option.bind_some, kXs_nx, exL_nil]
  | n + 1, .cons s r, env => by
    rw [tkS, drS, exL_cons, exL_cons]
    cases h : ex T fu s env with
    | none => rfl
    | some p =>
      obtain ⟨f, e⟩ := p
      rw [Option.bind_some, Option.bind_some]
      cases f with
      | nx => rw [kXs_nx, kXs_nx, exL_cut n r e]
      | rt v => rw [kXs_rt, kXs_rt, Option.bind_some, kXs_rt]
/-! ### weights times speeds -/
def lastV (v : Rat) : List (Rat × List Own) → Rat
  | [] => v
  | r :: rs => lastV r.1 rs
def ownSum (fk : List One) (os : List Own) : Rat := (os.map fun p => p.2 * (((theO fk p.1).heavy : Int) : Rat)).sum
theorem sum_append_rat (xs ys : List Rat) : (xs ++ ys).sum = xs.sum + ys.sum := by
  induction xs with
  | nil => simp; grind
  | cons x xs ih => rw [List.cons_append, List.sum_cons, List.sum_cons, ih]; grind
theorem ownSum_append (fk : List One) (xs ys : List Own) : ownSum fk (xs ++ ys) = ownSum fk xs + ownSum fk ys := by
  unfold ownSum; rw [List.map_append, sum_append_rat]
theorem ownSum_perm (fk : List One) {xs ys : List Own} (h : xs.Perm ys) : ownSum fk xs = ownSum fk ys := by
  unfold ownSum
  have h2 := h.map fun p : Own => p.2 * (((theO fk p.1).heavy : Int) : Rat)
  generalize xs.map (fun p : Own => p.2 * (((theO fk p.1).heavy : Int) : Rat)) = a at *
  generalize ys.map (fun p : Own => p.2 * (((theO fk p.1).heavy : Int) : Rat)) = b at *
  clear h
  induction h2 with
  | nil => rfl
  | cons x _ ih => rw [List.sum_cons, List.sum_cons, ih]
  | swap x y l => simp only [List.sum_cons]; grind
  | trans _ _ i1 i2 => rw [i1, i2]
def heavySum (fk : List One) (ns : List Str) : Int := (ns.map fun n => (theO fk n).heavy).sum
theorem leftO_leftO (fk : List One) (ms ns : List Str) : leftO (leftO fk ms) ns = leftO fk (ms ++ ns) := by
  unfold leftO
  rw [List.filter_filter]
  congr 1
  funext o
  simp [Bool.and_comm]
theorem theO_left {fk : List One} {ms : List Str} {n : Str} (nd : (fk.map (·.name)).Nodup) (h : n ∈ fk.map (·.name)) (h2 : n ∉ ms) : theO (leftO fk ms) n = theO fk n := by
  obtain ⟨t1, t2⟩ := theO_mem (mem_left h h2)
  have := theO_eq (List.mem_filter.mp t1).1 nd
  rw [t2] at this
  exact this.symm
theorem wt_leftL {c : Int} : ∀ (ns : List Str) (fk : List One), (fk.map (·.name)).Nodup → ns.Nodup → (∀ n ∈ ns, n ∈ fk.map (·.name)) → wt c fk = wt c (leftO fk ns) + heavySum fk ns
  | [], fk, _, _, _ => by
    have : leftO fk [] = fk := by unfold leftO; simp
    rw [this]; simp [heavySum]
  | n :: ns, fk, nd, nn, hm => by
    rw [List.nodup_cons] at nn
    obtain ⟨t1, t2⟩ := theO_mem (hm n List.mem_cons_self)
    have h1 := wt_left (c := c) t1 nd
    rw [t2] at h1
    have h2 := wt_leftL (c := c) ns (leftO fk [n]) (nd.sublist (List.Sublist.map _ List.filter_sublist)) nn.2 fun m hm' => mem_left (hm m (List.mem_cons_of_mem _ hm')) (by simp; intro z; subst z; exact nn.1 hm')
    rw [leftO_leftO] at h2
    have h3 : heavySum (leftO fk [n]) ns = heavySum fk ns := by
      unfold heavySum
      congr 1
      refine List.map_congr_left fun m hm' => ?_
      rw [theO_left nd (hm m (List.mem_cons_of_mem _ hm')) (by simp; intro z; subst z; exact nn.1 hm')]
    have h4 : heavySum fk (n :: ns) = (theO fk n).heavy + heavySum fk ns := by unfold heavySum; rw [List.map_cons, List.sum_cons]
    rw [List.singleton_append] at h2
    omega
theorem ownF_sum {fk : List One} {v : Rat} : ∀ s : List Lp, ownSum fk (ownF fk v s) = v * ((heavySum fk (s.map (·.1)) : Int) : Rat) + ((pushN fk s : Int) : Rat)
  | [] => by simp [ownSum, ownF, heavySum, pushN]; grind
  | p :: s => by
    have ih := ownF_sum (fk := fk) (v := v) s
    unfold ownSum ownF heavySum pushN at ih ⊢
    simp only [List.map_cons, List.sum_cons, List.map_map] at ih ⊢
    rw [ih, Rat.intCast_add, Rat.intCast_add, Rat.intCast_mul, Rat.intCast_mul, Rat.intCast_mul]
    generalize ((s.map (fun p => (theO fk p.1).heavy * (theO fk p.1).leap * p.2)).sum : Int) = X
    generalize (List.map ((fun n => (theO fk n).heavy) ∘ fun x => x.fst) s).sum = Y
    grind
theorem keeps {c : Int} (hc : 1 ≤ c) (hc2 : c ≤ 10000) : ∀ (ls : List (List Lp)) (fk : List One) (v : Rat), Okl fk ls → lastV v (runF c fk v ls) * ((wt c (leftO fk (ls.flatten.map (·.1))) : Int) : Rat) + ownSum fk (allOwn (runF c fk v ls)) = v * ((wt c fk : Int) : Rat)
  | [], fk, v, _ => by
    have : leftO fk [] = fk := by unfold leftO; simp
    simp only [runF, lastV, allOwn, List.flatMap_nil, ownSum, List.map_nil, List.sum_nil, List.flatten_nil, this]
    grind
  | s :: ls, fk, v, ok => by
    have ih := keeps hc hc2 ls (leftO fk (s.map (·.1))) (pushF c fk v s) ok.tail
    have hb := wt_mild hc hc2 ok.gd ok.le
    have hnd := ok.ndl
    rw [List.flatten_cons, List.map_append, List.nodup_append] at hnd
    have hw := wt_leftL (c := c) (s.map (·.1)) fk ok.nd hnd.1 fun n hn => by
      obtain ⟨p, hp, rfl⟩ := List.mem_map.mp hn
      exact ok.mem s List.mem_cons_self p hp
    have h1 : ownSum fk (allOwn (runF c fk v (s :: ls))) = ownSum fk (ownF fk (pushF c fk v s) s) + ownSum fk (allOwn (runF c (leftO fk (s.map (·.1))) (pushF c fk v s) ls)) := by
      rw [← ownSum_append]; rfl
    have h2 : ownSum fk (allOwn (runF c (leftO fk (s.map (·.1))) (pushF c fk v s) ls)) = ownSum (leftO fk (s.map (·.1))) (allOwn (runF c (leftO fk (s.map (·.1))) (pushF c fk v s) ls)) := by
      unfold ownSum
      congr 1
      refine List.map_congr_left fun p hp => ?_
      have hp2 : p.1 ∈ ls.flatten.map (·.1) := by rw [← allOwn_names (c := c) ls (leftO fk (s.map (·.1))) (pushF c fk v s)]; exact List.mem_map_of_mem hp
      obtain ⟨q, hq, e⟩ := List.mem_map.mp hp2
      obtain ⟨t, ht, hqt⟩ := List.mem_flatten.mp hq
      rw [theO_left ok.nd (by rw [← e]; exact ok.mem t (List.mem_cons_of_mem _ ht) q hqt) (fun z => hnd.2.2 p.1 z p.1 hp2 rfl)]
    have h3 : pushF c fk v s * ((wt c fk : Int) : Rat) = v * ((wt c fk : Int) : Rat) - ((pushN fk s : Int) : Rat) := by
      rw [← behind_val (by omega)]
      have h := castR_pos (show 0 < wt c fk by omega)
      rw [Rat.divInt_eq_div]
      have : ((wt c fk : Int) : Rat) ≠ 0 := by grind
      have e1 : ((1 : Int) : Rat) = 1 := rfl
      rw [e1]
      grind
    rw [h1, h2, ownF_sum, List.flatten_cons, List.map_append, ← leftO_leftO]
    show lastV (pushF c fk v s) _ * _ + _ = _
    have h4 : ((wt c fk : Int) : Rat) = ((wt c (leftO fk (s.map (·.1))) : Int) : Rat) + ((heavySum fk (s.map (·.1)) : Int) : Rat) := by rw [hw, Rat.intCast_add]
    grind
theorem leftO_perm {fk : List One} {ms ns : List Str} (h : ms.Perm ns) : leftO fk ms = leftO fk ns := by
  unfold leftO
  congr 1
  funext o
  have := h.mem_iff (a := o.name)
  simp [this]
theorem lastV_sm {c : Int} (hc : 1 ≤ c) (hc2 : c ≤ 10000) : ∀ (ls : List (List Lp)) (fk : List One) (v : Rat) (n : Nat), Okl fk ls → Sm n v → Sm (n + 31 * ls.length) (lastV v (runF c fk v ls)) ∧ ∀ p ∈ allOwn (runF c fk v ls), Sm (n + 31 * ls.length + 16) p.2
  | [], fk, v, n, _, sv => ⟨by simpa [runF, lastV] using sv, fun p hp => by simp [allOwn, runF] at hp⟩
  | s :: ls, fk, v, n, ok, sv => by
    have sv2 := pushF_sm hc hc2 ok sv
    obtain ⟨i1, i2⟩ := lastV_sm hc hc2 ls _ _ _ ok.tail sv2
    refine ⟨i1.mono (by simp only [List.length_cons]; omega), fun p hp => ?_⟩
    have : p ∈ ownF fk (pushF c fk v s) s ++ allOwn (runF c (leftO fk (s.map (·.1))) (pushF c fk v s) ls) := hp
    rcases List.mem_append.mp this with e | e
    · unfold ownF at e
      obtain ⟨q, hq, rfl⟩ := List.mem_map.mp e
      exact (own_sm (ok.gd _ (theO_mem (ok.mem s List.mem_cons_self q hq)).1) (ok.way s List.mem_cons_self q hq) sv2).mono (by simp only [List.length_cons]; omega)
    · exact (i2 p e).mono (by simp only [List.length_cons]; omega)
theorem lastV_eq (v : Rat) (rs : List (Rat × List Own)) (h : rs ≠ []) : L2.atI (rs.map fun r => fr r.1) (-1) = some (fr (lastV v rs)) := by
  have h1 : ∀ (rs : List (Rat × List Own)) (v : Rat), rs ≠ [] → ∃ ys r, rs = ys ++ [r] ∧ lastV v rs = r.1 := by
    intro rs
    induction rs with
    | nil => intro v h; exact absurd rfl h
    | cons r rs ih =>
      intro v _
      cases rs with
      | nil => exact ⟨[], r, rfl, rfl⟩
      | cons r2 rs2 =>
        obtain ⟨ys, z, e1, e2⟩ := ih r.1 (by simp)
        exact ⟨r :: ys, z, by rw [e1]; rfl, by rw [lastV, e2]⟩
  obtain ⟨ys, r, e1, e2⟩ := h1 rs v h
  rw [e2, e1, List.map_append]
  exact L2.atI_last _ _
end Lc
/-! Places: the plain walk, the common middle, sizes. -/
namespace Lc
open PySem L2
/-- q times D is a whole number below 2 ^ b -/
def Cd (D : Int) (b : Nat) (q : Rat) : Prop := ∃ k : Int, q * (D : Rat) = (k : Rat) ∧ k.natAbs < 2 ^ b
theorem Cd.mono {D : Int} {b m : Nat} {q : Rat} (h : Cd D b q) (hm : b ≤ m) : Cd D m q := by
  obtain ⟨k, h1, h2⟩ := h
  exact ⟨k, h1, Nat.lt_of_lt_of_le h2 (Nat.pow_le_pow_right (by decide) hm)⟩
theorem Cd.add {D : Int} {b : Nat} {p q : Rat} (hp : Cd D b p) (hq : Cd D b q) : Cd D (b + 1) (p + q) := by
  obtain ⟨k, h1, h2⟩ := hp
  obtain ⟨l, h3, h4⟩ := hq
  exact ⟨k + l, by rw [Rat.intCast_add, ← h1, ← h3]; grind, natAbs_add_lt h2 h4⟩
theorem Cd.mul {D E : Int} {b m : Nat} {p q : Rat} (hp : Cd D b p) (hq : Cd E m q) : Cd (D * E) (b + m) (p * q) := by
  obtain ⟨k, h1, h2⟩ := hp
  obtain ⟨l, h3, h4⟩ := hq
  exact ⟨k * l, by rw [Rat.intCast_mul, Rat.intCast_mul, ← h1, ← h3]; grind, natAbs_mul_lt h2 h4⟩
theorem Cd.int {i : Int} {b : Nat} (h : i.natAbs < 2 ^ b) : Cd 1 b (i : Rat) := ⟨i, by have : ((1 : Int) : Rat) = 1 := rfl; rw [this]; grind, h⟩
theorem Cd.mulI {D i : Int} {b m : Nat} {p : Rat} (hp : Cd D b p) (h : i.natAbs < 2 ^ m) : Cd D (b + m) (p * (i : Rat)) := by
  have := hp.mul (Cd.int h)
  rwa [Int.mul_one] at this
theorem Cd.scale {D E : Int} {b m : Nat} {p : Rat} (hp : Cd D b p) (h : E.natAbs < 2 ^ m) : Cd (D * E) (b + m) p := by
  obtain ⟨k, h1, h2⟩ := hp
  exact ⟨k * E, by rw [Rat.intCast_mul, Rat.intCast_mul, ← h1]; grind, natAbs_mul_lt h2 h⟩
theorem Cd.divInt {a D : Int} {b : Nat} (hD : 0 < D) (h : a.natAbs < 2 ^ b) : Cd D b (Rat.divInt a D) := by
  refine ⟨a, ?_, h⟩
  have : (D : Rat) ≠ 0 := by
    intro z
    have : D = 0 := by exact_mod_cast z
    omega
  rw [Rat.divInt_eq_div]
  grind
theorem Cd.sm {D : Int} {b : Nat} {q : Rat} (h : Cd D b q) (hD : 0 < D) (hb : D.natAbs < 2 ^ b) : Sm b q := by
  obtain ⟨k, h1, h2⟩ := h
  have : (D : Rat) ≠ 0 := by
    intro z
    have : D = 0 := by exact_mod_cast z
    omega
  have e : q = Rat.divInt k D := by
    rw [Rat.divInt_eq_div, ← h1]
    grind
  rw [e]
  exact Sm.divInt hD h2 hb
/-! ### the plain walk of places -/
structure Off where
  name : Str
  place : Rat
  when : Rat
  fast : Rat
structure Pst where
  here : Rat
  since : Rat
  pace : Rat
  off : List Off
def Pst.at (st : Pst) (t : Rat) : Rat := st.here + st.pace * (t - st.since)
def Off.at (x : Off) (t : Rat) : Rat := x.place + x.fast * (t - x.when)
def offOf (h w : Rat) (p : Own) : Off := ⟨p.1, h, w, p.2⟩
def pstep (st : Pst) (w : Rat) (v : Rat) (own : List Own) : Pst := ⟨st.at w, w, v, st.off ++ own.map (offOf (st.at w) w)⟩
abbrev Trow := Int × List Lp
def runP (c : Int) : List One → Pst → List Trow → Pst
  | _, st, [] => st
  | L, st, r :: tm => runP c (leftO L (r.2.map (·.1))) (pstep st r.1 (pushF c L st.pace r.2) (ownF L (pushF c L st.pace r.2) r.2)) tm
def Pst.find (st : Pst) (n : Str) : Option Off := st.off.find? fun x => decide (x.name = n)
def valAt (st : Pst) (t : Rat) (n : Str) : Rat := match st.find n with
  | some x => x.at t
  | none => st.at t
def rateAt (st : Pst) (n : Str) : Rat := match st.find n with
  | some x => x.fast
  | none => st.pace
def fastAt (st : Pst) (n : Str) : Rat := match st.find n with
  | some x => x.fast
  | none => 0
theorem at_add (st : Pst) (w t : Rat) : st.at t = st.at w + st.pace * (t - w) := by unfold Pst.at; grind
theorem off_add (x : Off) (w t : Rat) : x.at t = x.at w + x.fast * (t - w) := by unfold Off.at; grind
theorem valAt_add (st : Pst) (w t : Rat) (n : Str) : valAt st t n = valAt st w n + rateAt st n * (t - w) := by
  unfold valAt rateAt
  cases st.find n with
  | none => exact at_add st w t
  | some x => exact off_add x w t
theorem pstep_at (st : Pst) (w v : Rat) (own : List Own) : (pstep st w v own).at w = st.at w := by unfold pstep; unfold Pst.at; grind
theorem find_off {h w : Rat} {n : Str} {x : Off} : ∀ own : List Own, (own.map (offOf h w)).find? (fun x => decide (x.name = n)) = some x → x.place = h ∧ x.when = w
  | [], e => by simp at e
  | p :: own, e => by
    rw [List.map_cons, List.find?_cons] at e
    split at e
    · have : offOf h w p = x := by simpa using e
      subst this
      exact ⟨rfl, rfl⟩
    · exact find_off own e
theorem valAt_step (st : Pst) (w v : Rat) (own : List Own) (n : Str) : valAt (pstep st w v own) w n = valAt st w n := by
  unfold valAt
  have e : (pstep st w v own).find n = (st.find n).or ((own.map (offOf (st.at w) w)).find? fun x => decide (x.name = n)) := by
    unfold Pst.find pstep
    exact List.find?_append
  rw [e]
  cases h : st.find n with
  | some x => rfl
  | none =>
    rw [Option.none_or]
    cases h2 : (own.map (offOf (st.at w) w)).find? (fun x => decide (x.name = n)) with
    | none => exact pstep_at st w v own
    | some x =>
      obtain ⟨e1, e2⟩ := find_off own h2
      show x.place + x.fast * (w - x.when) = st.at w
      rw [e1, e2]
      grind
/-- one stretch of the law: what it had at w, and its rate -/
theorem valAt_next (st : Pst) (w v t : Rat) (own : List Own) (n : Str) : valAt (pstep st w v own) t n = valAt st w n + rateAt (pstep st w v own) n * (t - w) := by
  rw [valAt_add _ w t, valAt_step]
theorem at_next (st : Pst) (w v t : Rat) (own : List Own) : (pstep st w v own).at t = st.at w + v * (t - w) := by
  rw [at_add _ w t, pstep_at]; rfl
theorem rateAt_eq (st : Pst) (n : Str) : rateAt st n = if n ∈ st.off.map (·.name) then fastAt st n else st.pace := by
  unfold rateAt fastAt Pst.find
  cases h : st.off.find? (fun x => decide (x.name = n)) with
  | none =>
    rw [if_neg]
    intro z
    obtain ⟨x, hx, e⟩ := List.mem_map.mp z
    have := List.find?_eq_none.mp h x hx
    simp at this
    exact this e
  | some x =>
    rw [if_pos]
    have h1 := List.mem_of_find?_eq_some h
    have h2 := List.find?_some h
    have h3 : x.name = n := by simpa using h2
    rw [← h3]
    exact List.mem_map_of_mem h1
/-! ### the common middle -/
def midM (c : Int) (fk : List One) (st : Pst) (t : Rat) : Rat := st.at t * ((wt c (leftO fk (st.off.map (·.name))) : Int) : Rat) + (st.off.map fun x => x.at t * (((theO fk x.name).heavy : Int) : Rat)).sum
theorem new_sum {fk : List One} {h w t : Rat} : ∀ own : List Own, ((own.map (offOf h w)).map fun x => x.at t * (((theO fk x.name).heavy : Int) : Rat)).sum = h * ((heavySum fk (own.map (·.1)) : Int) : Rat) + (t - w) * ownSum fk own
  | [] => by simp [heavySum, ownSum]; grind
  | p :: own => by
    have ih := new_sum (fk := fk) (h := h) (w := w) (t := t) own
    unfold heavySum ownSum at ih ⊢
    simp only [List.map_cons, List.sum_cons, Rat.intCast_add] at ih ⊢
    rw [ih]
    have e : (offOf h w p).at t = h + p.2 * (t - w) := rfl
    have e2 : (offOf h w p).name = p.1 := rfl
    rw [e, e2]
    grind
theorem ownF_names {fk : List One} {v : Rat} (s : List Lp) : (ownF fk v s).map (·.1) = s.map (·.1) := by
  unfold ownF; rw [List.map_map]; rfl
theorem mid_step {c : Int} {fk : List One} {st : Pst} {s : List Lp} {ls : List (List Lp)} {w : Rat} (hc : 1 ≤ c) (hc2 : c ≤ 10000) (nd : (fk.map (·.name)).Nodup) (ok : Okl (leftO fk (st.off.map (·.name))) (s :: ls)) (t : Rat) :
    midM c fk (pstep st w (pushF c (leftO fk (st.off.map (·.name))) st.pace s) (ownF (leftO fk (st.off.map (·.name))) (pushF c (leftO fk (st.off.map (·.name))) st.pace s) s)) t = midM c fk st t := by
  have k := keeps hc hc2 [s] _ st.pace ok.one
  have hnd := ok.one.ndl
  simp only [List.flatten_cons, List.flatten_nil, List.append_nil, runF, lastV, allOwn, List.flatMap_cons, List.flatMap_nil] at k hnd
  have hw := wt_leftL (c := c) (s.map (·.1)) (leftO fk (st.off.map (·.name))) ok.nd hnd fun n hn => by
    obtain ⟨p, hp, rfl⟩ := List.mem_map.mp hn
    exact ok.mem s List.mem_cons_self p hp
  have hth : ∀ p ∈ s, theO (leftO fk (st.off.map (·.name))) p.1 = theO fk p.1 := fun p hp => by
    obtain ⟨o, ho, e⟩ := List.mem_map.mp (ok.mem s List.mem_cons_self p hp)
    obtain ⟨h1, h2⟩ := List.mem_filter.mp ho
    refine theO_left nd (by rw [← e]; exact List.mem_map_of_mem h1) (by rw [← e]; simpa using h2)
  have h1 : heavySum (leftO fk (st.off.map (·.name))) (s.map (·.1)) = heavySum fk (s.map (·.1)) := by
    unfold heavySum
    rw [List.map_map, List.map_map]
    congr 1
    exact List.map_congr_left fun p hp => by simp only [Function.comp]; rw [hth p hp]
  generalize hv : pushF c (leftO fk (st.off.map (·.name))) st.pace s = v at *
  have h2 : ownSum (leftO fk (st.off.map (·.name))) (ownF (leftO fk (st.off.map (·.name))) v s) = ownSum fk (ownF (leftO fk (st.off.map (·.name))) v s) := by
    unfold ownSum ownF
    rw [List.map_map, List.map_map]
    congr 1
    exact List.map_congr_left fun p hp => by simp only [Function.comp]; rw [hth p hp]
  rw [h1] at hw
  rw [h2] at k
  have hn := ownF_names (fk := leftO fk (st.off.map (·.name))) (v := v) s
  generalize ownF (leftO fk (st.off.map (·.name))) v s = own at *
  unfold midM
  rw [at_next]
  have e1 : (pstep st w v own).off = st.off ++ own.map (offOf (st.at w) w) := rfl
  rw [e1, List.map_append, List.map_append, sum_append_rat, new_sum, List.map_map, hn, ← leftO_leftO]
  have e2 : ((·.name) ∘ offOf (st.at w) w : Own → Str) = (·.1) := rfl
  rw [show (own.map ((fun x => x.name) ∘ offOf (st.at w) w)) = s.map (·.1) from by rw [e2, hn]]
  rw [at_add st w t]
  have hw' : ((wt c (leftO fk (st.off.map (·.name))) : Int) : Rat) = ((wt c (leftO (leftO fk (st.off.map (·.name))) (s.map (·.1))) : Int) : Rat) + ((heavySum fk (s.map (·.1)) : Int) : Rat) := by rw [hw, Rat.intCast_add]
  grind
theorem pstep_names {st : Pst} {w v : Rat} {L : List One} {u : Rat} {s : List Lp} : (pstep st w v (ownF L u s)).off.map (·.name) = st.off.map (·.name) ++ s.map (·.1) := by
  show (st.off ++ (ownF L u s).map (offOf (st.at w) w)).map (·.name) = _
  rw [List.map_append, List.map_map, ← ownF_names (fk := L) (v := u) s]; rfl
theorem mid_run {c : Int} {fk : List One} (hc : 1 ≤ c) (hc2 : c ≤ 10000) (nd : (fk.map (·.name)).Nodup) (t : Rat) : ∀ (tm : List Trow) (st : Pst), Okl (leftO fk (st.off.map (·.name))) (tm.map (·.2)) → midM c fk (runP c (leftO fk (st.off.map (·.name))) st tm) t = midM c fk st t
  | [], st, _ => rfl
  | r :: tm, st, ok => by
    rw [runP]
    have ok2 := ok.tail
    rw [leftO_leftO, ← pstep_names (st := st) (w := r.1) (v := pushF c (leftO fk (st.off.map (·.name))) st.pace r.2) (L := leftO fk (st.off.map (·.name))) (u := pushF c (leftO fk (st.off.map (·.name))) st.pace r.2)] at ok2 ⊢
    rw [mid_run hc hc2 nd t tm _ ok2, mid_step hc hc2 nd ok]
theorem run_names {c : Int} : ∀ (tm : List Trow) (L : List One) (st : Pst), (runP c L st tm).off.map (·.name) = st.off.map (·.name) ++ (tm.map (·.2)).flatten.map (·.1)
  | [], _, st => by simp [runP]
  | r :: tm, L, st => by
    rw [runP, run_names tm, pstep_names, List.map_cons, List.flatten_cons, List.map_append, List.append_assoc]
theorem sum_left {F : One → Rat} : ∀ (ns : List Str) (fk : List One), (fk.map (·.name)).Nodup → ns.Nodup → (∀ n ∈ ns, n ∈ fk.map (·.name)) → (fk.map F).sum = ((leftO fk ns).map F).sum + (ns.map fun n => F (theO fk n)).sum := by
  have h1 : ∀ (fk : List One) (o : One), o ∈ fk → (fk.map (·.name)).Nodup → (fk.map F).sum = ((leftO fk [o.name]).map F).sum + F o := by
    intro fk
    induction fk with
    | nil => intro o ho; nomatch ho
    | cons x fk ih =>
      intro o ho nd
      rw [List.map_cons, List.nodup_cons] at nd
      rcases List.mem_cons.mp ho with e | e
      · subst e
        have : leftO (o :: fk) [o.name] = fk := by
          unfold leftO
          rw [List.filter_cons_of_neg (by simp)]
          refine List.filter_eq_self.mpr fun y hy => ?_
          have : y.name ≠ o.name := fun z => nd.1 (by rw [← z]; exact List.mem_map_of_mem hy)
          simpa using this
        rw [this, List.map_cons, List.sum_cons]
        grind
      · have hne : x.name ≠ o.name := fun z => nd.1 (by rw [z]; exact List.mem_map_of_mem e)
        have : leftO (x :: fk) [o.name] = x :: leftO fk [o.name] := by
          unfold leftO
          rw [List.filter_cons_of_pos (by simpa using hne)]
        rw [this, List.map_cons, List.sum_cons, List.map_cons, List.sum_cons, ih o e nd.2]
        grind
  intro ns
  induction ns with
  | nil =>
    intro fk _ _ _
    have : leftO fk [] = fk := by unfold leftO; simp
    rw [this, List.map_nil, List.sum_nil]
    grind
  | cons n ns ih =>
    intro fk nd nn hm
    rw [List.nodup_cons] at nn
    obtain ⟨t1, t2⟩ := theO_mem (hm n List.mem_cons_self)
    have h2 := h1 fk _ t1 nd
    rw [t2] at h2
    have hm' : ∀ m ∈ ns, m ∈ fk.map (·.name) := fun m hm' => hm m (List.mem_cons_of_mem _ hm')
    have hx : ∀ m ∈ ns, m ∉ [n] := fun m hm' => by simp; intro z; subst z; exact nn.1 hm'
    have h3 := ih (leftO fk [n]) (nd.sublist (List.Sublist.map _ List.filter_sublist)) nn.2 fun m hm2 => mem_left (hm' m hm2) (hx m hm2)
    rw [leftO_leftO, List.singleton_append] at h3
    have h4 : (ns.map fun m => F (theO (leftO fk [n]) m)) = ns.map fun m => F (theO fk m) := List.map_congr_left fun m hm2 => by rw [theO_left nd (hm' m hm2) (hx m hm2)]
    rw [h2, h3, h4, List.map_cons, List.sum_cons]
    grind
theorem find_self : ∀ {xs : List Off} {x : Off}, x ∈ xs → (xs.map (·.name)).Nodup → xs.find? (fun y => decide (y.name = x.name)) = some x
  | y :: xs, x, hx, hn => by
    rw [List.map_cons, List.nodup_cons] at hn
    rcases List.mem_cons.mp hx with e | e
    · subst e
      rw [List.find?_cons_of_pos (by simp)]
    · have hne : ¬ y.name = x.name := fun z => hn.1 (by rw [z]; exact List.mem_map_of_mem e)
      rw [List.find?_cons_of_neg (by simpa using hne)]
      exact find_self e hn.2
/-- what is told comes to the middle -/
theorem mid_val {c : Int} {fk : List One} {st : Pst} (t : Rat) (nd : (fk.map (·.name)).Nodup) (ndo : (st.off.map (·.name)).Nodup) (hm : ∀ n ∈ st.off.map (·.name), n ∈ fk.map (·.name)) :
    st.at t * ((c : Int) : Rat) + (fk.map fun o => valAt st t o.name * ((o.heavy : Int) : Rat)).sum = midM c fk st t := by
  rw [sum_left (F := fun o => valAt st t o.name * ((o.heavy : Int) : Rat)) (st.off.map (·.name)) fk nd ndo hm]
  unfold midM
  have e1 : ((leftO fk (st.off.map (·.name))).map fun o => valAt st t o.name * ((o.heavy : Int) : Rat)).sum = st.at t * (((leftO fk (st.off.map (·.name))).map (·.heavy)).sum : Int) := by
    have : ∀ l : List One, (∀ o ∈ l, o.name ∉ st.off.map (·.name)) → (l.map fun o => valAt st t o.name * ((o.heavy : Int) : Rat)).sum = st.at t * ((l.map (·.heavy)).sum : Int) := by
      intro l
      induction l with
      | nil => intro _; simp
      | cons o l ih =>
        intro h
        have h1 := ih fun x hx => h x (List.mem_cons_of_mem _ hx)
        have h2 : valAt st t o.name = st.at t := by
          unfold valAt Pst.find
          rw [List.find?_eq_none.mpr]
          intro x hx
          have := h o List.mem_cons_self
          simp only [decide_eq_true_eq]
          exact fun z => this (by rw [← z]; exact List.mem_map_of_mem hx)
        rw [List.map_cons, List.sum_cons, List.map_cons, List.sum_cons, h1, h2, Rat.intCast_add]
        grind
    exact this _ fun o ho => by simpa using (List.mem_filter.mp ho).2
  have e2 : ((st.off.map (·.name)).map fun n => valAt st t (theO fk n).name * (((theO fk n).heavy : Int) : Rat)) = st.off.map fun x => x.at t * (((theO fk x.name).heavy : Int) : Rat) := by
    rw [List.map_map]
    refine List.map_congr_left fun x hx => ?_
    have h1 := (theO_mem (hm x.name (List.mem_map_of_mem hx))).2
    show valAt st t (theO fk x.name).name * _ = _
    rw [h1]
    have : valAt st t x.name = x.at t := by
      unfold valAt Pst.find
      rw [find_self hx ndo]
    rw [this]
  rw [e1, e2]
  unfold wt
  rw [Rat.intCast_add]
  grind
def st0 : Pst := ⟨0, 0, 0, []⟩
theorem mid_zero {c : Int} {fk : List One} (t : Rat) : midM c fk st0 t = 0 := by
  unfold midM st0 Pst.at
  simp
  grind
/-! ### sizes on the walk -/
structure Sz (i : Nat) (D : Int) (st : Pst) : Prop where
  pos : 0 < D
  lt : D.natAbs < 2 ^ (17 * i + 1)
  here : Cd D (40 + 32 * i) st.here
  pace : Cd D (40 + 32 * i) st.pace
  since : ∃ z : Int, st.since = (z : Rat) ∧ 0 ≤ z ∧ z ≤ 1000
  off : ∀ x ∈ st.off, Cd D (40 + 32 * i) x.place ∧ Cd D (40 + 32 * i) x.fast ∧ ∃ z : Int, x.when = (z : Rat) ∧ 0 ≤ z ∧ z ≤ 1000
theorem sz0 : Sz 0 1 st0 := by
  have h : Cd 1 40 0 := ⟨0, by grind, by decide⟩
  refine ⟨by decide, by decide, h, h, ⟨0, rfl, by decide, by decide⟩, fun x hx => nomatch hx⟩
theorem Sz.atI {i : Nat} {D : Int} {st : Pst} (h : Sz i D st) {w : Int} (h0 : 0 ≤ w) (h1 : w ≤ 1000) : Cd D (40 + 32 * i + 12) (st.at w) := by
  obtain ⟨z, e, z0, z1⟩ := h.since
  have : st.at w = st.here + st.pace * ((w - z : Int) : Rat) := by unfold Pst.at; rw [e, Rat.intCast_sub]
  rw [this]
  exact (h.here.mono (by omega)).add (h.pace.mulI (m := 11) (by omega))
theorem wlt {W : Int} (h1 : 1 ≤ W) (h2 : W ≤ 80000) : W.natAbs < 2 ^ 17 := by omega
theorem Sz.step {c : Int} {i : Nat} {D : Int} {st : Pst} {L : List One} {s : List Lp} {ls : List (List Lp)} {w : Int} (hc : 1 ≤ c) (hc2 : c ≤ 10000) (h : Sz i D st) (ok : Okl L (s :: ls)) (h0 : 0 ≤ w) (h1 : w ≤ 1000) :
    Sz (i + 1) (D * wt c L) (pstep st w (pushF c L st.pace s) (ownF L (pushF c L st.pace s) s)) := by
  have hW := wt_mild hc hc2 ok.gd ok.le
  have hwl := wlt hW.1 hW.2
  have b1 := pushN_bound ok.gd s (ok.way s List.mem_cons_self) (ok.mem s List.mem_cons_self)
  have b2 := ok.sz s List.mem_cons_self
  have hat := (h.atI h0 h1).scale hwl
  have hp : Cd (D * wt c L) (40 + 32 * i + 17 + 1) (pushF c L st.pace s) := by
    unfold pushF
    refine (h.pace.scale hwl).add ?_
    have d1 : Cd (wt c L) 30 (Rat.divInt (0 - pushN L s) (wt c L)) := Cd.divInt (by omega) (by omega)
    have d2 := d1.scale (E := D) h.lt
    rw [Int.mul_comm] at d2
    exact d2.mono (by omega)
  have hz : (D * wt c L).natAbs < 2 ^ (17 * (i + 1) + 1) := by
    have := natAbs_mul_lt h.lt hwl
    rwa [show 17 * i + 1 + 17 = 17 * (i + 1) + 1 by omega] at this
  refine ⟨Int.mul_pos h.pos (by omega), hz, hat.mono (by omega), hp.mono (by omega), ⟨w, rfl, h0, h1⟩, fun x hx => ?_⟩
  rcases List.mem_append.mp hx with e | e
  · obtain ⟨a, b, d⟩ := h.off x e
    exact ⟨(a.scale hwl).mono (by omega), (b.scale hwl).mono (by omega), d⟩
  · obtain ⟨p, hp2, rfl⟩ := List.mem_map.mp e
    refine ⟨hat.mono (by omega), ?_, w, rfl, h0, h1⟩
    unfold ownF at hp2
    obtain ⟨q, hq, rfl⟩ := List.mem_map.mp hp2
    have hm := ok.gd _ (theO_mem (ok.mem s List.mem_cons_self q hq)).1
    have hw := ok.way s List.mem_cons_self q hq
    have a1 := hm.l1
    have a2 := hm.l2
    have d3 : Cd 1 15 (((theO L q.1).leap * q.2 : Int) : Rat) := Cd.int (by rcases hw with e | e <;> rw [e] <;> omega)
    have d4 := d3.scale hz
    rw [Int.one_mul] at d4
    exact (hp.add (d4.mono (by omega))).mono (by omega)
/-- an hour -/
structure Hr (t : Rat) : Prop where
  n0 : 0 ≤ t.num
  n1 : t.num ≤ 2000
  d1 : t.den ≤ 6
theorem Hr.int {w : Int} (h0 : 0 ≤ w) (h1 : w ≤ 1000) : Hr (w : Rat) := ⟨by simpa using h0, by simp; omega, by simp⟩
theorem Hr.cd {t : Rat} (h : Hr t) : Cd t.den 11 t := ⟨t.num, by
  conv => lhs; lhs; rw [← Rat.num_divInt_den t]
  rw [Rat.divInt_eq_div]
  have : ((t.den : Int) : Rat) ≠ 0 := by
    intro z
    have : (t.den : Int) = 0 := by exact_mod_cast z
    have := t.den_pos
    omega
  grind, by have := h.n0; have := h.n1; omega⟩
theorem hr_diff {t : Rat} (h : Hr t) {z : Int} (z0 : 0 ≤ z) (z1 : z ≤ 1000) : Cd t.den 14 (t - (z : Rat)) := by
  have d1 : Cd 1 10 ((-z : Int) : Rat) := Cd.int (by omega)
  have hd := h.d1
  have d2 := d1.scale (E := t.den) (m := 3) (by omega)
  rw [Int.one_mul] at d2
  have := (h.cd.mono (m := 13) (by omega)).add d2
  have e : t - (z : Rat) = t + ((-z : Int) : Rat) := by rw [Rat.intCast_neg]; grind
  rw [e]; exact this
theorem Sz.atT {i : Nat} {D : Int} {st : Pst} (h : Sz i D st) {t : Rat} (ht : Hr t) : Cd (D * t.den) (40 + 32 * i + 15) (st.at t) := by
  obtain ⟨z, e, z0, z1⟩ := h.since
  have hd := ht.d1
  have h1 := h.here.scale (E := t.den) (m := 3) (by omega)
  have h2 := h.pace.mul (hr_diff ht z0 z1)
  rw [← e] at h2
  exact (h1.mono (m := 40 + 32 * i + 14) (by omega)).add h2
theorem Sz.offT {i : Nat} {D : Int} {st : Pst} (h : Sz i D st) {t : Rat} (ht : Hr t) {x : Off} (hx : x ∈ st.off) : Cd (D * t.den) (40 + 32 * i + 15) (x.at t) := by
  obtain ⟨a, b, z, e, z0, z1⟩ := h.off x hx
  have hd := ht.d1
  have h1 := a.scale (E := t.den) (m := 3) (by omega)
  have h2 := b.mul (hr_diff ht z0 z1)
  rw [← e] at h2
  exact (h1.mono (m := 40 + 32 * i + 14) (by omega)).add h2
theorem Sz.valT {i : Nat} {D : Int} {st : Pst} (h : Sz i D st) {t : Rat} (ht : Hr t) (n : Str) : Cd (D * t.den) (40 + 32 * i + 15) (valAt st t n) := by
  unfold valAt
  cases hx : st.find n with
  | none => exact h.atT ht
  | some x => exact h.offT ht (List.mem_of_find?_eq_some hx)
theorem Sz.rate {i : Nat} {D : Int} {st : Pst} (h : Sz i D st) (n : Str) : Cd D (40 + 32 * i) (rateAt st n) := by
  unfold rateAt
  cases hx : st.find n with
  | none => exact h.pace
  | some x => exact (h.off x (List.mem_of_find?_eq_some hx)).2.1
theorem Sz.den {i : Nat} {D : Int} {st : Pst} (h : Sz i D st) {t : Rat} (ht : Hr t) : 0 < D * t.den ∧ (D * t.den).natAbs < 2 ^ (17 * i + 4) := by
  have hd := ht.d1
  have := t.den_pos
  refine ⟨Int.mul_pos h.pos (by omega), ?_⟩
  have := natAbs_mul_lt h.lt (y := (t.den : Int)) (m := 3) (by omega)
  rwa [show 17 * i + 1 + 3 = 17 * i + 4 by omega] at this
theorem Sz.smD {i : Nat} {D : Int} {st : Pst} (h : Sz i D st) (hi : i ≤ 10) {q : Rat} (hq : Cd D (40 + 32 * i) q) : Sm 500 q :=
  (hq.mono (m := 500) (by omega)).sm h.pos (Nat.lt_of_lt_of_le h.lt (Nat.pow_le_pow_right (by decide) (by omega)))
theorem Sz.smT {i : Nat} {D : Int} {st : Pst} (h : Sz i D st) (hi : i ≤ 10) {t : Rat} (ht : Hr t) {q : Rat} {b : Nat} (hq : Cd (D * t.den) b q) (hb : b ≤ 500) : Sm 500 q :=
  (hq.mono (m := 500) hb).sm (h.den ht).1 (Nat.lt_of_lt_of_le (h.den ht).2 (Nat.pow_le_pow_right (by decide) (by omega)))
theorem Hr.sm {t : Rat} (h : Hr t) : Sm 20 t := ⟨by have := h.n0; have := h.n1; omega, by have := h.d1; omega⟩
theorem hr_sm {t : Rat} (h : Hr t) {z : Int} (z0 : 0 ≤ z) (z1 : z ≤ 1000) : Sm 20 (t - (z : Rat)) := by
  have hd := h.d1
  have := t.den_pos
  exact ((hr_diff h z0 z1).mono (m := 20) (by omega)).sm (by omega) (by omega)
theorem sz_run {c : Int} (hc : 1 ≤ c) (hc2 : c ≤ 10000) : ∀ (tm : List Trow) (L : List One) (st : Pst) (i : Nat) (D : Int), Okl L (tm.map (·.2)) → (∀ r ∈ tm, 0 ≤ r.1 ∧ r.1 ≤ 1000) → Sz i D st → ∃ D', Sz (i + tm.length) D' (runP c L st tm)
  | [], L, st, i, D, _, _, h => ⟨D, h⟩
  | r :: tm, L, st, i, D, ok, hw, h => by
    have h2 := h.step hc hc2 ok (hw r List.mem_cons_self).1 (hw r List.mem_cons_self).2
    obtain ⟨D', h3⟩ := sz_run hc hc2 tm _ _ _ _ ok.tail (fun x hx => hw x (List.mem_cons_of_mem _ hx)) h2
    exact ⟨D', by rw [runP, List.length_cons, show i + (tm.length + 1) = i + 1 + tm.length by omega]; exact h3⟩
end Lc
/-! Bodies (printed by gencb.py). -/
namespace Lc
open PySem L2
def cb_is_lesser : SL := (.cons (.ret (.cmp .Lt (.bin .Mult (.idx (.var 0) (.cst (.int 0))) (.idx (.var 1) (.cst (.int 1)))) (.bin .Mult (.idx (.var 1) (.cst (.int 0))) (.idx (.var 0) (.cst (.int 1)))))) .nil)
def cb_moved (n_plus n_lowest : Str) : SL := (.cons (.set 3 false (.call n_plus (.cons (.var 2) (.cons (.tup (.cons (.bin .Sub (.cst (.int 0)) (.idx (.var 1) (.cst (.int 0)))) (.cons (.idx (.var 1) (.cst (.int 1))) .nil))) .nil)))) (.cons (.ret (.call n_lowest (.cons (.bin .Mult (.idx (.var 0) (.cst (.int 0))) (.idx (.var 3) (.cst (.int 0)))) (.cons (.bin .Mult (.idx (.var 0) (.cst (.int 1))) (.idx (.var 3) (.cst (.int 1)))) .nil)))) .nil))
def lb_places_1 (n_is_lesser n_steps_of n_plus n_moved : Str) : SL := (.cons (.set 4 false (.call n_plus (.cons (.var 4) (.cons (.call n_moved (.cons (.var 6) (.cons (.var 5) (.cons (.tup (.cons (.var 10) (.cons (.cst (.int 1)) .nil))) .nil)))) .nil)))) (.cons (.unp (.tp [5, 6]) (.tup (.cons (.tup (.cons (.var 10) (.cons (.cst (.int 1)) .nil))) (.cons (.var 12) .nil)))) (.cons (.set 7 false (.bin .Add (.var 7) (.lc (.tup (.cons (.var 14) (.cons (.var 4) (.cons (.var 5) (.cons (.var 15) .nil))))) (.tp [14, 15]) (.seq (.var 13)) .no [14, 15]))) .nil)))
def cb_places (n_is_lesser n_steps_of n_plus n_moved : Str) : SL := (.cons (.unp (.tp [4, 5, 6]) (.tup (.cons (.tup (.cons (.cst (.int 0)) (.cons (.cst (.int 1)) .nil))) (.cons (.tup (.cons (.cst (.int 0)) (.cons (.cst (.int 1)) .nil))) (.cons (.tup (.cons (.cst (.int 0)) (.cons (.cst (.int 1)) .nil))) .nil))))) (.cons (.set 7 false (.lst .nil)) (.cons (.set 9 false (.lc (.var 8) (.nm 8) (.seq (.var 2)) (.so (.not_ (.call n_is_lesser (.cons (.var 3) (.cons (.tup (.cons (.idx (.var 8) (.cst (.int 0))) (.cons (.cst (.int 1)) .nil))) .nil))))) [8])) (.cons (.for_ (.pp 10 11 12 13) (.zip (.var 9) (.call n_steps_of (.cons (.var 0) (.cons (.var 1) (.cons (.var 6) (.cons (.lc (.idx (.var 8) (.cst (.int 1))) (.nm 8) (.seq (.var 9)) .no [8]) .nil)))))) (lb_places_1 n_is_lesser n_steps_of n_plus n_moved) [10, 11, 12, 13]) (.cons (.set 4 false (.call n_plus (.cons (.var 4) (.cons (.call n_moved (.cons (.var 6) (.cons (.var 5) (.cons (.var 3) .nil)))) .nil)))) (.cons (.set 16 false (.lst (.cons (.tup (.cons (.cst (.str "")) (.cons (.var 4) .nil))) .nil))) (.cons (.set 18 false (.dc (.var 14) (.call n_plus (.cons (.var 17) (.cons (.call n_moved (.cons (.var 15) (.cons (.var 10) (.cons (.var 3) .nil)))) .nil))) (.tp [14, 17, 10, 15]) (.seq (.var 7)) [10, 14, 15, 17])) (.cons (.ret (.bin .Add (.var 16) (.lc (.tup (.cons (.idx (.var 19) (.cst (.int 0))) (.cons (.getD (.var 18) (.idx (.var 19) (.cst (.int 0))) (.var 4)) .nil))) (.nm 19) (.seq (.var 1)) .no [19]))) .nil))))))))
def lb_timed_1 (n_leaps n_take : Str) : SL := (.cons (.sub 2 (.call n_take (.cons (.var 0) (.cons (.idx (.lst (.cons (.cst (.int 9)) (.cons (.cst (.int 60)) (.cons (.cst (.int 1001)) .nil)))) (.call n_take (.cons (.var 0) (.cons (.cst (.int 3)) .nil)))) .nil))) (.cst (.bool true))) .nil)
def cb_timed (n_leaps n_take : Str) : SL := (.cons (.set 2 true .dnew) (.cons (.set 3 false (.call n_leaps (.cons (.var 0) (.cons (.var 1) .nil)))) (.cons (.for_ (.nm 4) (.seq (.var 3)) (lb_timed_1 n_leaps n_take) [4]) (.cons (.set 5 false (.blt .sorted (.cons (.var 2) .nil))) (.cons (.ret (.lzip (.var 5) (.sl (.var 3) .no (.so (.blt .len (.cons (.var 5) .nil)))))) .nil)))))
def lb_lplaces_3 (n_less n_run n_plus n_lowest : Str) : SL := (.cons (.sub 9 (.var 17) (.var 19)) .nil)
def lb_lplaces_2 (n_less n_run n_plus n_lowest : Str) : SL := (.cons (.set 21 false (.ite (.cmp .In (.idx (.var 8) (.cst (.int 0))) (.var 13)) (.idx (.var 9) (.idx (.var 8) (.cst (.int 0)))) (.var 11))) (.cons (.sub 10 (.idx (.var 8) (.cst (.int 0))) (.call n_plus (.cons (.idx (.var 10) (.idx (.var 8) (.cst (.int 0)))) (.cons (.call n_lowest (.cons (.bin .Mult (.idx (.var 21) (.cst (.int 0))) (.idx (.var 20) (.cst (.int 0)))) (.cons (.bin .Mult (.idx (.var 21) (.cst (.int 1))) (.idx (.var 20) (.cst (.int 1)))) .nil))) .nil)))) .nil))
def lb_lplaces_1 (n_less n_run n_plus n_lowest : Str) : SL := (.cons (.set 11 false (.idx (.idx (.var 6) (.var 14)) (.cst (.int 0)))) (.cons (.set 13 false (.bin .Add (.var 13) (.lc (.var 17) (.tp [17, 18]) (.seq (.var 16)) .no [17, 18]))) (.cons (.for_ (.tp [17, 19]) (.seq (.idx (.idx (.var 6) (.var 14)) (.cst (.int 1)))) (lb_lplaces_3 n_less n_run n_plus n_lowest) [17, 19]) (.cons (.set 20 false (.call n_plus (.cons (.idx (.var 7) (.var 14)) (.cons (.tup (.cons (.bin .Sub (.cst (.int 0)) (.var 15)) (.cons (.cst (.int 1)) .nil))) .nil)))) (.cons (.set 12 false (.call n_plus (.cons (.var 12) (.cons (.call n_lowest (.cons (.bin .Mult (.idx (.var 11) (.cst (.int 0))) (.idx (.var 20) (.cst (.int 0)))) (.cons (.bin .Mult (.idx (.var 11) (.cst (.int 1))) (.idx (.var 20) (.cst (.int 1)))) .nil))) .nil)))) (.cons (.for_ (.nm 8) (.seq (.var 1)) (lb_lplaces_2 n_less n_run n_plus n_lowest) [8, 21]) .nil))))))
def cb_lplaces (n_less n_run n_plus n_lowest : Str) : SL := (.cons (.set 5 false (.lc (.var 4) (.nm 4) (.seq (.var 2)) (.so (.not_ (.call n_less (.cons (.var 3) (.cons (.tup (.cons (.idx (.var 4) (.cst (.int 0))) (.cons (.cst (.int 1)) .nil))) .nil))))) [4])) (.cons (.set 6 false (.call n_run (.cons (.var 0) (.cons (.var 1) (.cons (.tup (.cons (.cst (.int 0)) (.cons (.cst (.int 1)) .nil))) (.cons (.lc (.idx (.var 4) (.cst (.int 1))) (.nm 4) (.seq (.var 5)) .no [4]) .nil)))))) (.cons (.set 7 false (.bin .Add (.lc (.tup (.cons (.idx (.var 4) (.cst (.int 0))) (.cons (.cst (.int 1)) .nil))) (.nm 4) (.seq (.sl (.var 5) (.so (.cst (.int 1))) .no)) .no [4]) (.lst (.cons (.var 3) .nil)))) (.cons (.set 9 true (.blt .dict (.cons (.lc (.tup (.cons (.idx (.var 8) (.cst (.int 0))) (.cons (.tup (.cons (.cst (.int 0)) (.cons (.cst (.int 1)) .nil))) .nil))) (.nm 8) (.seq (.var 1)) .no [8]) .nil))) (.cons (.set 10 true (.blt .dict (.cons (.lc (.tup (.cons (.idx (.var 8) (.cst (.int 0))) (.cons (.tup (.cons (.cst (.int 0)) (.cons (.cst (.int 1)) .nil))) .nil))) (.nm 8) (.seq (.var 1)) .no [8]) .nil))) (.cons (.par [11, 12, 13] [false, false, false] (.cons (.tup (.cons (.cst (.int 0)) (.cons (.cst (.int 1)) .nil))) (.cons (.tup (.cons (.cst (.int 0)) (.cons (.cst (.int 1)) .nil))) (.cons (.lst .nil) .nil)))) (.cons (.for_ (.np 14 15 16) (.enum (.var 5)) (lb_lplaces_1 n_less n_run n_plus n_lowest) [14, 15, 16, 11, 17, 19, 20, 8, 21]) (.cons (.ret (.bin .Add (.lst (.cons (.tup (.cons (.cst (.str "")) (.cons (.var 12) .nil))) .nil)) (.lc (.tup (.cons (.idx (.var 8) (.cst (.int 0))) (.cons (.idx (.var 10) (.idx (.var 8) (.cst (.int 0)))) .nil))) (.nm 8) (.seq (.var 1)) .no [8]))) .nil))))))))
end Lc
/-! Hours of leaps; places. -/
namespace Lc
open PySem L2
local macro_rules | `(tactic| walk_at "evs") => `(tactic| simp only [rdS_dat, rdS_own, rdS_scr, loS_dat, loS_own, loS_scr, ob_l, ob_d, look_dat, look_new, look_slot, lookD_dat, lookD_new, lookD_slot, obd, b2_some, fst_eq, ev_var, ev_cst, datE_eq, ev_glo, kBin2_eq, kBin1_eq, ev_bin, kNeg_eq, ev_neg, nots_eq, truR_dat, truR_slot, truth_b, kNot_eq, ev_not, blE_eq, kCmp2_eq, kCmp1_eq, cmpB_d, cmpB_in, cmpB_ni, kDcE_eq, kDc_eq, ev_dc, dcF5_eq, dcF4_eq, dcF3_eq, dcF2_eq, dcF1_eq, dcF_eq, ev_dnew, gtO_eq, kGt3_eq, kGt2_eq, kGt1_eq, kGt_eq, isDic_k, ev_getD, kL2e_eq, kL2_eq, ev_lc2, l2F3_eq, l2F2_eq, l2F1_eq, l2F_eq, ix_k, dk_str, dk_int, ev_cmp, kCh4_eq, kCh3_true, kCh3_false, kCh2_eq, kCh1_eq, ev_chain, kIte2_true, kIte2_false, kIte_eq, ev_ite, ev_and, ev_or, kTru_eq, evAnd_one, evOr_one, kAnd2_true, kAnd2_false, kAnd_eq, evAnd_cons, kOr2_true, kOr2_false, kOr_eq, evOr_cons, consE_eq, kL_eq, evL_nil, evL_cons, frz_dat, frz_new, fzS_dat, fzS_own, frz_slot, kF2_eq, kF_eq, frzL_nil, frzL_cons, kTup2_eq, kTup_eq, ev_tup, kLst2_eq, kLst_eq, ev_lst, ixOb_eq, kIx2_eq, kIx_eq, ev_idx, kO_eq, evO_no, evO_so, kSl3_eq, kSl2_eq, kSl_eq, ev_sl, kRev_eq, ev_rev, kC4_dat, kC4_new, kC3_eq, kC2_eq, kC_eq, ev_callE, kP_eq, kPs_eq, kPf_eq, pass_nil, pass_dat, pass_new, pass_newT, psS_scr, psS_dat, psS_own, pass_slotF, ptS_own, ptS_own0, pass_slotT, noS_nil, noS_dat, noS_new, noS_slot, back_nil, back_f, back_new, bkS_own, back_t, kOb2_eq, kOb_eq, lookL_nil, lookL_cons, kB2_eq, kB_eq, ev_blt, isiE_eq, kIs_eq, ev_isi, kLcE_eq, kLc_eq, ev_lc, lcGo_nil, kGoE_some, kGoE_none, kGo_eq, lcGo_cons, evC_no, evC_so, lcF4_eq, lcF3_eq, lcF2_true, lcF2_false, lcF1_eq, lcF_eq, kSq2_eq, kSq1_eq, kSq_eq, evSrc_seq, rngE_eq, kRg_eq, evSrc_rng, enumE_eq, kEn_eq, evSrc_enum, kZ4_l, kZ4_m, kZ4_t, kY4_eq, kY3_eq, kY2_eq, kY1_eq, ev_lzip, kNp_eq, asg_npE, kZ3_eq, kZ2_eq, kZ1_eq, evSrc_zip, setE_eq, kSet_eq, ex_set, datS_eq, nrm_t, nrm_fd, nrm_fl, nrm_fk, nrm_fs, kN2_eq, kN_eq, nrmL_nil, nrmL_cons, putL_nil, putL_cons, nxE_eq, kPr2_eq, kPr_eq, ex_par, kU2_eq, kU_eq, ex_unp, asg_nm, asg_tp, kPp_eq, asg_ppE, asgN_nil, asgN_cons, kSb2_eq, kSb1_eq, kSb_eq, ex_sub, kAp_eq, ex_app, kIn3_eq, kIn2_eq, kIn_eq, ex_ins, exE_eq, ex_expr, rtE_eq, ex_ret, kIf2_true, kIf2_false, kIf_eq, ex_ite, kFo2_eq, kFo_eq, ex_for, ex_whl, forGo_nil, kFg_nx, kFg_rt, kXs_nx, kXs_rt, exL_nil, exL_cons, kRun2_eq, kRun_nx, kRun_rt, run_eq, fin_dat, fin_new, finS_dat, finS_own, fin_slot, outs_nil, outs_cons, par_dat, par_own, par_scr, par_no, freeS_eq, frS_eq, ownS_eq, owS_own, ownL_eq, olS_own, wip_nil, wip_cons, unwip_nil, unwip_cons, wkS_no, wkS_dat, wipOk_eq, lkS_own, lkS_dat, lkS_scr, lockS_slot, lockS_dat, lockS_new, lock_none, lock_some, unlock_none, unlock_some, seqOf_l, seqOf_t, kSb3_S, sbS_0, sbS_1, sbS_d, kAp2_S, apS_l, kIn4_S, inS_l, stG_eq, kWp_eq, whC_eq, kWh_nx, kWh_rt, kW1_t, kW1_f, bo_add, bo_sub, bo_mul, bo_fd, bo_mod, bo_cat, bo_catT, bo_cats, co_lt, co_le, co_gt, co_ge, co_isN, co_isnotN, bi_abs, bi_lenL, bi_lenT, bi_lenS, bi_lenR, bi_min, bi_tupL, bi_tupT, bi_lstL, bi_lstT, ix_l, ix_t, ix_r, atI_n0, atI_n1, atI_n2, atI_n3, sl_l, sl_t, isN_n, isN_t, isN_l, isN_i, isN_b, isN_s, ne_tt, ne_tf, ne_ft, ne_ff, List.getElem?_cons_zero, List.getElem?_cons_succ, List.set_cons_zero, List.set_cons_succ, List.cons_append, List.nil_append, List.replicate_succ, List.replicate_zero, List.getD_cons_zero, List.getD_cons_succ, Option.bind_some, Option.map_some, Option.bind_none, Option.map_none, Bool.not_true, Bool.not_false, Bool.and_true, Bool.true_and, Bool.and_false, Bool.false_and, and_self, and_true, true_and, decide_true, decide_false, if_true, if_false, Bool.false_eq_true, List.all_cons, List.all_nil, List.length_cons, List.length_nil, List.map_cons, List.map_nil, *])
abbrev f3 : List Bool := [false, false, false]
def MovedΦ (fn : List Slot → Option (R × List Slot)) : Prop := ∀ p b e : Rat, Sm 500 p → Sm 20 b → Sm 20 e → fn [.dat (fr p), .dat (fr b), .dat (fr e)] = some (.dat (fr (p * (e - b))), [.no, .no, .no])
theorem moved_ok {T : Tab} {fu : Nat} {pl lo : Str} (h1 : Fn T pl ff PlusΦ) (h2 : Fn T lo ff LowΦ) : MovedΦ (run T fu 1 (cb_moved pl lo)) := by
  obtain ⟨fp, tp, pp⟩ := h1
  obtain ⟨fl, tl, ql⟩ := h2
  intro p b e sp sb se
  have c1 := pp e (-b) (se.mono (by decide)) (sb.neg.mono (by decide))
  have sl := (se.add sb.neg).mono (m := 500) (by decide)
  have e1 : e + -b = e - b := by grind
  rw [e1] at c1 sl
  have c2 := ql (p.num * (e - b).num) (p.den * (e - b).den) (Int.mul_pos (den_pos p) (den_pos _)) (okI_of (natAbs_mul_lt (n := 500) (m := 500) (by simpa using sp.2) (by simpa using sl.2)) (by decide))
  rw [rat_mul2] at c2
  generalize e - b = l at *
  have k1 := sp.oknum (by decide)
  have k2 := sp.okden (by decide)
  have k3 := sl.oknum (by decide)
  have k4 := sl.okden (by decide)
  have k5 := sb.oknum (by decide)
  have k6 := sb.okden (by decide)
  have e2 : (-b).num = 0 - b.num := by rw [Rat.neg_num]; omega
  unfold fr at c1
  rw [e2, Rat.neg_den] at c1
  have l2 : (2 : Nat) ≤ 1000 := by decide
  clear pp ql sp sb se sl e1 e2
  unfold cb_moved
  unfold fr at *
  walk_at "evs"
/-! ### hours -/
def trD (r : Trow) : D := .tuple [.int r.1, someD r.2]
structure GoodTimed (fk : List One) (tm : List Trow) : Prop where
  ok : Okl fk (tm.map (·.2))
  hw : ∀ r ∈ tm, 0 ≤ r.1 ∧ r.1 ≤ 1000
  len : tm.length ≤ 7
def TimedΦ (fn : List Slot → Option (R × List Slot)) : Prop := ∀ (g : Bag) (fk : List One), GoodFolk fk → ∃ (tm : List Trow) (g' : Bag), GoodTimed fk tm ∧ fn [.own true g.c, .dat (folkD fk)] = some (.new (.l (tm.map trD)), [.own true g'.c, .no])
def hoursK (ks : List Int) : List (D × D) := ks.map fun k => (.int k, .bool true)
theorem hours_put (ks : List Int) (v : Int) : dput (hoursK ks) (.int v) (.bool true) = hoursK (if v ∈ ks then ks else ks ++ [v]) := by
  unfold dput
  rw [mem_keys]
  have e : (hoursK ks).map (·.1) = ks.map fun k => .int k := by unfold hoursK; rw [List.map_map]; rfl
  have e2 : ((PyData.int v : D) ∈ ks.map fun k => (PyData.int k : D)) ↔ v ∈ ks := by
    rw [List.mem_map]
    exact ⟨fun ⟨a, h, h2⟩ => by cases h2; exact h, fun h => ⟨v, h, rfl⟩⟩
  rw [e]
  by_cases h : v ∈ ks
  · rw [decide_eq_true (e2.mpr h), if_pos rfl, if_pos h]
    unfold hoursK
    rw [List.map_map]
    refine List.map_congr_left fun k _ => ?_
    simp only [Function.comp]
    split <;> rfl
  · rw [decide_eq_false (fun z => h (e2.mp z)), if_neg (by decide), if_neg h]
    unfold hoursK
    rw [List.map_append]; rfl
theorem intKs_hours : ∀ ks : List Int, intKs (hoursK ks) = some ks
  | [] => rfl
  | k :: ks => by
    show (intKs (hoursK ks)).map (k :: ·) = _
    rw [intKs_hours ks]; rfl
theorem zipD_map {α β : Type} {f : α → D} {g : β → D} : ∀ (xs : List α) (ys : List β), zipD (xs.map f) (ys.map g) = (xs.zip ys).map fun p => .tuple [f p.1, g p.2]
  | [], _ => by simp [zipD]
  | x :: xs, [] => by simp [zipD]
  | x :: xs, y :: ys => by simp [zipD, zipD_map xs ys]
theorem sub_flatten {α : Type} {ms ls : List (List α)} (h : ms.Sublist ls) : ms.flatten.Sublist ls.flatten := by
  induction h with
  | slnil => exact List.Sublist.refl _
  | cons a _ ih => rw [List.flatten_cons]; exact ih.trans (List.sublist_append_right _ _)
  | cons_cons a _ ih => rw [List.flatten_cons, List.flatten_cons]; exact (List.Sublist.refl _).append ih
theorem Okl.sub {fk : List One} {ls ms : List (List Lp)} (h : Okl fk ls) (hs : ms.Sublist ls) : Okl fk ms :=
  ⟨h.gd, h.nd, h.le, fun s hs' => h.way s (hs.subset hs'), fun s hs' => h.mem s (hs.subset hs'), h.ndl.sublist ((sub_flatten hs).map _), fun s hs' => h.sz s (hs.subset hs')⟩
theorem timed_loop {T : Tab} {fu : Nat} {lp tk : Str} (h : Fn T tk [true, false] TakeΦ) {s1 s3 : Slot} : ∀ (xs : List D) (ks : List Int) (g : Bag), (∀ k ∈ ks, 0 ≤ k ∧ k ≤ 1000) → ks.length + xs.length ≤ 50 →
    ∃ (ks' : List Int) (g' : Bag), (∀ k ∈ ks', 0 ≤ k ∧ k ≤ 1000) ∧ ks'.length ≤ ks.length + xs.length ∧ forGo (stF T fu (.nm 4) [4] (lb_timed_1 lp tk)) xs [.own true g.c, s1, .own false (.d false (hoursK ks)), s3, .no, .no] = some (.nx, [.own true g'.c, s1, .own false (.d false (hoursK ks')), s3, .no, .no]) := by
  obtain ⟨fn, hT, hfn⟩ := h
  intro xs
  induction xs with
  | nil => exact fun ks g hk _ => ⟨ks, g, hk, by simp, rfl⟩
  | cons x xs ih =>
    intro ks g hk hl
    simp only [List.length_cons] at hl
    have k3 : okI 3 = true := by decide +kernel
    have h1 := hfn g 3 (by decide) k3
    have hs : 0 < sel3 9 60 1001 (tkV g 3) ∧ sel3 9 60 1001 (tkV g 3) ≤ 1001 := by unfold sel3; split <;> (try split) <;> omega
    have h2 := hfn (tkB g 3) (sel3 9 60 1001 (tkV g 3)) hs.1 (okI_64 (by omega) (by omega))
    have l3 := tkV_lt (tkB g 3) hs.1
    have l4 := tkV_nonneg (tkB g 3) hs.1
    have a3 := @at3 9 60 1001 g
    have hn : (if tkV (tkB g 3) (sel3 9 60 1001 (tkV g 3)) ∈ ks then ks else ks ++ [tkV (tkB g 3) (sel3 9 60 1001 (tkV g 3))]).length ≤ ks.length + 1 := by split <;> simp
    obtain ⟨ks', g', i1, i2, i3⟩ := ih (if tkV (tkB g 3) (sel3 9 60 1001 (tkV g 3)) ∈ ks then ks else ks ++ [tkV (tkB g 3) (sel3 9 60 1001 (tkV g 3))]) (tkB (tkB g 3) (sel3 9 60 1001 (tkV g 3))) (fun k hk' => by
      split at hk'
      · exact hk k hk'
      · rcases List.mem_append.mp hk' with e | e
        · exact hk k e
        · have : k = tkV (tkB g 3) (sel3 9 60 1001 (tkV g 3)) := by simpa using e
          omega) (by omega)
    refine ⟨ks', g', i1, by simp only [List.length_cons]; omega, ?_⟩
    rw [forGo_cons]
    have hst : stF T fu (.nm 4) [4] (lb_timed_1 lp tk) x [.own true g.c, s1, .own false (.d false (hoursK ks)), s3, .no, .no] = some (.nx, [.own true (tkB (tkB g 3) (sel3 9 60 1001 (tkV g 3))).c, s1, .own false (.d false (hoursK (if tkV (tkB g 3) (sel3 9 60 1001 (tkV g 3)) ∈ ks then ks else ks ++ [tkV (tkB g 3) (sel3 9 60 1001 (tkV g 3))]))), s3, .no, .no]) := by
      have hp := hours_put ks (tkV (tkB g 3) (sel3 9 60 1001 (tkV g 3)))
      have hz : (hoursK ks).length < sizeLine := by
        unfold hoursK
        rw [List.length_map]
        exact Nat.lt_of_le_of_lt (show ks.length ≤ 50 by omega) (by decide)
      have dk := @dk_int (tkV (tkB g 3) (sel3 9 60 1001 (tkV g 3)))
      have e3 : (3 : Nat) ≤ 1000 := by decide
      rw [← hp]
      clear ih hfn hn i1 i2 i3 hk l3 l4 hp
      rw [stF_eq]
      generalize hoursK ks = kvs at *
      unfold lb_timed_1
      walk_at "evs"
    rw [hst, Option.bind_some, kFg_nx, i3]
theorem timed_ok {T : Tab} {fu : Nat} {lp tk : Str} (h1 : Fn T lp [true, false] LeapsΦ) (h2 : Fn T tk [true, false] TakeΦ) : TimedΦ (run T fu 4 (cb_timed lp tk)) := by
  intro g fk gf
  obtain ⟨fl, tl, ql⟩ := h1
  obtain ⟨ls, g1, gl, c1⟩ := ql g fk gf
  have hll : ls.length ≤ 7 := Nat.le_trans gl.len gf.le
  obtain ⟨ks, g2, k1, k2, k3⟩ := timed_loop (fu := fu) (lp := lp) h2 (s1 := .dat (folkD fk)) (s3 := .dat (.list (ls.map someD))) (ls.map someD) [] g1 (fun k hk => nomatch hk) (by simp; omega)
  have e0 : hoursK [] = [] := rfl
  rw [e0] at k3
  rw [List.length_map, List.length_nil] at k2
  have hb : bi .sorted [.k false (hoursK ks)] = some (.new (.l ((ks.mergeSort fun a b => decide (a ≤ b)).map .int))) := by
    have : (hoursK ks).length < 64 := by unfold hoursK; rw [List.length_map]; omega
    simp only [bi, this, if_true, intKs_hours, Option.map_some]
  have pm := List.mergeSort_perm ks (fun a b => decide (a ≤ b))
  generalize ks.mergeSort (fun a b => decide (a ≤ b)) = hs at *
  have hsl := pm.length_eq
  have hct := cut_to (ls.map someD) (j := (hs.length : Int)) (by omega)
  rw [← List.map_take, Int.toNat_natCast] at hct
  have hzp := zipD_map (f := fun k : Int => (.int k : D)) (g := someD) hs (ls.take hs.length)
  have e1 : ((hs.zip (ls.take hs.length)).map (·.2)) = ls.take hs.length := List.map_snd_zip (by rw [List.length_take]; omega)
  refine ⟨hs.zip (ls.take hs.length), g2, ⟨?_, fun r hr => ?_, ?_⟩, ?_⟩
  · rw [e1]
    exact (gl.okl gf).sub (List.take_sublist _ _)
  · exact k1 r.1 (pm.mem_iff.mp (List.of_mem_zip hr).1)
  · rw [List.length_zip]; omega
  · have e2 : ((hs.zip (ls.take hs.length)).map trD) = zipD (hs.map .int) ((ls.take hs.length).map someD) := hzp.symm
    have hlh : (hs.map (.int : Int → D)).length = hs.length := by simp
    rw [e2]
    clear ql gl k1 k2 pm hzp e1 e2 gf e0 hsl hll
    generalize (ls.take hs.length).map someD = zs at *
    generalize hoursK ks = kvs at *
    generalize (hs.map (.int : Int → D)) = hsd at *
    unfold cb_timed
    unfold folkD at *
    walk_at "evs"
end Lc
/-! Places, as the program tells them. -/
namespace Lc
open PySem L2
local macro_rules | `(tactic| walk_at "evs") => `(tactic| simp only [rdS_dat, rdS_own, rdS_scr, loS_dat, loS_own, loS_scr, ob_l, ob_d, look_dat, look_new, look_slot, lookD_dat, lookD_new, lookD_slot, obd, b2_some, fst_eq, ev_var, ev_cst, datE_eq, ev_glo, kBin2_eq, kBin1_eq, ev_bin, kNeg_eq, ev_neg, nots_eq, truR_dat, truR_slot, truth_b, kNot_eq, ev_not, blE_eq, kCmp2_eq, kCmp1_eq, cmpB_d, cmpB_in, cmpB_ni, kDcE_eq, kDc_eq, ev_dc, dcF5_eq, dcF4_eq, dcF3_eq, dcF2_eq, dcF1_eq, dcF_eq, ev_dnew, gtO_eq, kGt3_eq, kGt2_eq, kGt1_eq, kGt_eq, isDic_k, ev_getD, kL2e_eq, kL2_eq, ev_lc2, l2F3_eq, l2F2_eq, l2F1_eq, l2F_eq, ix_k, dk_str, dk_int, ev_cmp, kCh4_eq, kCh3_true, kCh3_false, kCh2_eq, kCh1_eq, ev_chain, kIte2_true, kIte2_false, kIte_eq, ev_ite, ev_and, ev_or, kTru_eq, evAnd_one, evOr_one, kAnd2_true, kAnd2_false, kAnd_eq, evAnd_cons, kOr2_true, kOr2_false, kOr_eq, evOr_cons, consE_eq, kL_eq, evL_nil, evL_cons, frz_dat, frz_new, fzS_dat, fzS_own, frz_slot, kF2_eq, kF_eq, frzL_nil, frzL_cons, kTup2_eq, kTup_eq, ev_tup, kLst2_eq, kLst_eq, ev_lst, ixOb_eq, kIx2_eq, kIx_eq, ev_idx, kO_eq, evO_no, evO_so, kSl3_eq, kSl2_eq, kSl_eq, ev_sl, kRev_eq, ev_rev, kC4_dat, kC4_new, kC3_eq, kC2_eq, kC_eq, ev_callE, kP_eq, kPs_eq, kPf_eq, pass_nil, pass_dat, pass_new, pass_newT, psS_scr, psS_dat, psS_own, pass_slotF, ptS_own, ptS_own0, pass_slotT, noS_nil, noS_dat, noS_new, noS_slot, back_nil, back_f, back_new, bkS_own, back_t, kOb2_eq, kOb_eq, lookL_nil, lookL_cons, kB2_eq, kB_eq, ev_blt, isiE_eq, kIs_eq, ev_isi, kLcE_eq, kLc_eq, ev_lc, lcGo_nil, kGoE_some, kGoE_none, kGo_eq, lcGo_cons, evC_no, evC_so, lcF4_eq, lcF3_eq, lcF2_true, lcF2_false, lcF1_eq, lcF_eq, kSq2_eq, kSq1_eq, kSq_eq, evSrc_seq, rngE_eq, kRg_eq, evSrc_rng, enumE_eq, kEn_eq, evSrc_enum, kZ4_l, kZ4_m, kZ4_t, kY4_eq, kY3_eq, kY2_eq, kY1_eq, ev_lzip, kNp_eq, asg_npE, kZ3_eq, kZ2_eq, kZ1_eq, evSrc_zip, setE_eq, kSet_eq, ex_set, datS_eq, nrm_t, nrm_fd, nrm_fl, nrm_fk, nrm_fs, kN2_eq, kN_eq, nrmL_nil, nrmL_cons, putL_nil, putL_cons, nxE_eq, kPr2_eq, kPr_eq, ex_par, kU2_eq, kU_eq, ex_unp, asg_nm, asg_tp, kPp_eq, asg_ppE, asgN_nil, asgN_cons, kSb2_eq, kSb1_eq, kSb_eq, ex_sub, kAp_eq, ex_app, kIn3_eq, kIn2_eq, kIn_eq, ex_ins, exE_eq, ex_expr, rtE_eq, ex_ret, kIf2_true, kIf2_false, kIf_eq, ex_ite, kFo2_eq, kFo_eq, ex_for, ex_whl, forGo_nil, kFg_nx, kFg_rt, kXs_nx, kXs_rt, exL_nil, exL_cons, kRun2_eq, kRun_nx, kRun_rt, run_eq, fin_dat, fin_new, finS_dat, finS_own, fin_slot, outs_nil, outs_cons, par_dat, par_own, par_scr, par_no, freeS_eq, frS_eq, ownS_eq, owS_own, ownL_eq, olS_own, wip_nil, wip_cons, unwip_nil, unwip_cons, wkS_no, wkS_dat, wipOk_eq, lkS_own, lkS_dat, lkS_scr, lockS_slot, lockS_dat, lockS_new, lock_none, lock_some, unlock_none, unlock_some, seqOf_l, seqOf_t, kSb3_S, sbS_0, sbS_1, sbS_d, kAp2_S, apS_l, kIn4_S, inS_l, stG_eq, kWp_eq, whC_eq, kWh_nx, kWh_rt, kW1_t, kW1_f, bo_add, bo_sub, bo_mul, bo_fd, bo_mod, bo_cat, bo_catT, bo_cats, co_lt, co_le, co_gt, co_ge, co_isN, co_isnotN, bi_abs, bi_lenL, bi_lenT, bi_lenS, bi_lenR, bi_min, bi_tupL, bi_tupT, bi_lstL, bi_lstT, ix_l, ix_t, ix_r, atI_n0, atI_n1, atI_n2, atI_n3, sl_l, sl_t, isN_n, isN_t, isN_l, isN_i, isN_b, isN_s, ne_tt, ne_tf, ne_ft, ne_ff, List.getElem?_cons_zero, List.getElem?_cons_succ, List.set_cons_zero, List.set_cons_succ, List.cons_append, List.nil_append, List.replicate_succ, List.replicate_zero, List.getD_cons_zero, List.getD_cons_succ, Option.bind_some, Option.map_some, Option.bind_none, Option.map_none, Bool.not_true, Bool.not_false, Bool.and_true, Bool.true_and, Bool.and_false, Bool.false_and, and_self, and_true, true_and, decide_true, decide_false, if_true, if_false, Bool.false_eq_true, List.all_cons, List.all_nil, List.length_cons, List.length_nil, List.map_cons, List.map_nil, *])
def offD (x : Off) : D := .tuple [.str x.name, fr x.place, fr x.when, fr x.fast]
def rowsF (tm : List Trow) (t : Rat) : List Trow := tm.filter fun r => !decide (t < ((r.1 : Int) : Rat))
def placesF (c : Int) (fk : List One) (tm : List Trow) (t : Rat) : List Own := ("", (runP c fk st0 (rowsF tm t)).at t) :: fk.map fun o => (o.name, valAt (runP c fk st0 (rowsF tm t)) t o.name)
def PlacesΦ (fn : List Slot → Option (R × List Slot)) : Prop := ∀ (c : Int) (fk : List One) (tm : List Trow) (t : Rat), 1 ≤ c → c ≤ 10000 → GoodTimed fk tm → Hr t → fn [.dat (.int c), .dat (folkD fk), .dat (.list (tm.map trD)), .dat (fr t)] = some (.new (.l ((placesF c fk tm t).map ownD)), [.no, .no, .no, .no])
theorem GoodTimed.rows {fk : List One} {tm : List Trow} (h : GoodTimed fk tm) (t : Rat) : GoodTimed fk (rowsF tm t) :=
  ⟨h.ok.sub (List.filter_sublist.map _), fun r hr => h.hw r (List.mem_filter.mp hr).1, Nat.le_trans (List.length_filter_le _ _) h.len⟩
abbrev pEnv (s0 s1 s2 s3 s9 : Slot) (st : Pst) : Env := [s0, s1, s2, s3, .dat (fr st.here), .dat (fr st.since), .dat (fr st.pace), .dat (.list (st.off.map offD)), .no, s9, .no, .no, .no, .no, .no, .no, .no, .no, .no, .no]
theorem since_sm {i : Nat} {D : Int} {st : Pst} (h : Sz i D st) : Sm 20 st.since := by
  obtain ⟨z, e, z0, z1⟩ := h.since
  rw [e]
  exact Sm.int (by omega) (by decide)
theorem places_loop {T : Tab} {fu : Nat} {il so pl mv : Str} {c : Int} {s0 s1 s2 s3 s9 : Slot} (h1 : Fn T pl ff PlusΦ) (h2 : Fn T mv f3 MovedΦ) (hc : 1 ≤ c) (hc2 : c ≤ 10000) : ∀ (tm : List Trow) (L : List One) (st : Pst) (i : Nat) (Dn : Int), Okl L (tm.map (·.2)) → (∀ r ∈ tm, 0 ≤ r.1 ∧ r.1 ≤ 1000) → Sz i Dn st → i + tm.length ≤ 7 → st.off.length ≤ 7 * i →
    forGo (stF T fu (.pp 10 11 12 13) [10, 11, 12, 13] (lb_places_1 il so pl mv)) (zipD (tm.map trD) ((runF c L st.pace (tm.map (·.2))).map rowD)) (pEnv s0 s1 s2 s3 s9 st) = some (.nx, pEnv s0 s1 s2 s3 s9 (runP c L st tm))
  | [], L, st, i, Dn, _, _, _, _, _ => rfl
  | r :: tm, L, st, i, Dn, ok, hw, sz, hi, ho => by
    simp only [List.length_cons] at hi
    obtain ⟨w0, w1⟩ := hw r List.mem_cons_self
    have sz2 := sz.step hc hc2 ok w0 w1
    have hsz := ok.sz r.2 List.mem_cons_self
    have hol : (ownF L (pushF c L st.pace r.2) r.2).length ≤ 7 := by unfold ownF; rw [List.length_map]; exact hsz
    have ih := places_loop (fu := fu) (il := il) (so := so) (s0 := s0) (s1 := s1) (s2 := s2) (s3 := s3) (s9 := s9) h1 h2 hc hc2 tm _ _ (i + 1) _ ok.tail (fun x hx => hw x (List.mem_cons_of_mem _ hx)) sz2 (by omega) (by
      show (st.off ++ (ownF L (pushF c L st.pace r.2) r.2).map _).length ≤ _
      rw [List.length_append, List.length_map]; omega)
    rw [List.map_cons, List.map_cons, runF, List.map_cons, zipD, forGo_cons, runP]
    have hst : stF T fu (.pp 10 11 12 13) [10, 11, 12, 13] (lb_places_1 il so pl mv) (.tuple [trD r, rowD (pushF c L st.pace r.2, ownF L (pushF c L st.pace r.2) r.2)]) (pEnv s0 s1 s2 s3 s9 st) = some (.nx, pEnv s0 s1 s2 s3 s9 (pstep st r.1 (pushF c L st.pace r.2) (ownF L (pushF c L st.pace r.2) r.2))) := by
      clear ih
      obtain ⟨fp, tp, qp⟩ := h1
      obtain ⟨fm, tmv, qm⟩ := h2
      have sW : Sm 20 ((r.1 : Int) : Rat) := Sm.int (by omega) (by decide)
      have sP := sz.smD (by omega) sz.pace
      have c1 := qm st.pace st.since r.1 sP (since_sm sz) sW
      have sM : Sm 3000 (st.pace * ((r.1 : Rat) - st.since)) := by
        obtain ⟨z, e, z0, z1⟩ := sz.since
        have e2 : (r.1 : Rat) - st.since = ((r.1 - z : Int) : Rat) := by rw [e, Rat.intCast_sub]
        rw [e2]
        exact (sP.mul (Sm.int (i := r.1 - z) (n := 20) (by omega) (by decide))).mono (by decide)
      have c2 := qp st.here _ ((sz.smD (by omega) sz.here).mono (by decide)) sM
      have e3 : st.here + st.pace * ((r.1 : Rat) - st.since) = st.at r.1 := rfl
      rw [e3] at c2
      rw [← fr_pair (a := r.1)] at c1
      have hza : (st.off.map offD).length + ((ownF L (pushF c L st.pace r.2) r.2).map (fun p => (.tuple [.str p.1, fr (st.at r.1), .tuple [.int r.1, .int 1], fr p.2] : D))).length ≤ sizeLine := by
        rw [List.length_map, List.length_map]
        exact Nat.le_trans (show _ ≤ 100 by omega) (by decide)
      generalize pushF c L st.pace r.2 = v at *
      generalize ownF L v r.2 = own at *
      have e4 : (pstep st r.1 v own).off.map offD = st.off.map offD ++ own.map (fun p => .tuple [.str p.1, fr (st.at r.1), .tuple [.int r.1, .int 1], fr p.2]) := by
        show (st.off ++ own.map _).map offD = _
        rw [List.map_append, List.map_map, fr_pair]; rfl
      have e5 : (pstep st r.1 v own).here = st.at r.1 := rfl
      have e6 : (pstep st r.1 v own).since = (r.1 : Rat) := rfl
      have e7 : (pstep st r.1 v own).pace = v := rfl
      have nd56 : [5, 6].Nodup := by decide
      have l4 : (4 : Nat) ≤ 1000 := by decide
      have l2 : (2 : Nat) ≤ 1000 := by decide
      unfold pEnv
      rw [e4, e5, e6, e7, ← fr_pair (a := r.1)]
      clear e4 e5 e6 e7 qp qm sz sz2 ok hw
      generalize st.at r.1 = h' at *
      have hl : ∀ env : Env, env = [s0, s1, s2, s3, .dat (fr h'), .dat (.tuple [.int r.1, .int 1]), .dat (fr v), .dat (.list (st.off.map offD)), .no, s9, .dat (.int r.1), .dat (someD r.2), .dat (fr v), .dat (.list (own.map ownD)), .no, .no, .no, .no, .no, .no] →
          lcGo (lcF T (.tup (.cons (.var 14) (.cons (.var 4) (.cons (.var 5) (.cons (.var 15) .nil))))) (.tp [14, 15]) .no [14, 15]) (own.map ownD) env = some (own.map (fun p => .tuple [.str p.1, fr h', .tuple [.int r.1, .int 1], fr p.2]), env) := fun env he => lcGo_map own fun p _ => by
        subst he
        clear c1 c2 hza
        generalize st.off.map offD = xs
        generalize own.map ownD = ys
        unfold ownD
        walk_at "evs"
      replace hl := hl _ rfl
      rw [stF_eq]
      generalize st.off.map offD = xs at *
      generalize (own.map (fun p => (.tuple [.str p.1, fr h', .tuple [.int r.1, .int 1], fr p.2] : D))) = zs at *
      unfold lb_places_1
      unfold trD rowD
      walk_at "evs"
    rw [hst, Option.bind_some, kFg_nx]
    exact ih
theorem places_ok {T : Tab} {fu : Nat} {il so pl mv : Str} (h1 : Fn T il ff LessΦ) (h2 : Fn T so f4 StepsΦ) (h3 : Fn T pl ff PlusΦ) (h4 : Fn T mv f3 MovedΦ) : PlacesΦ (run T fu 16 (cb_places il so pl mv)) := by
  intro c fk tm t hc hc2 gt ht
  have gr := gt.rows t
  have hpl := places_loop (fu := fu) (il := il) (so := so) (s0 := .dat (.int c)) (s1 := .dat (folkD fk)) (s2 := .dat (.list (tm.map trD))) (s3 := .dat (fr t)) (s9 := .dat (.list ((rowsF tm t).map trD))) h3 h4 hc hc2 (rowsF tm t) fk st0 0 1 gr.ok gr.hw sz0 (by have := gr.len; omega) (by decide)
  obtain ⟨Dn, szE⟩ := sz_run hc hc2 (rowsF tm t) fk st0 0 1 gr.ok gr.hw sz0
  have hnm := run_names (c := c) (rowsF tm t) fk st0
  have hle := gr.len
  obtain ⟨fi, ti, qi⟩ := h1
  obtain ⟨fs, ts, qs⟩ := h2
  obtain ⟨fp, tp, qp⟩ := h3
  obtain ⟨fm, tmv, qm⟩ := h4
  have c1 := qs c fk 0 ((rowsF tm t).map (·.2)) 1 hc hc2 gr.ok ⟨by decide, by decide⟩ (by rw [List.length_map]; omega) (by rw [List.length_map]; omega)
  have e0 : fr st0.here = .tuple [.int 0, .int 1] := rfl
  have e1 : fr st0.since = .tuple [.int 0, .int 1] := rfl
  have e2 : fr st0.pace = .tuple [.int 0, .int 1] := rfl
  have e3 : fr (0 : Rat) = .tuple [.int 0, .int 1] := rfl
  have e4 : st0.off.map offD = [] := rfl
  have e5 : st0.pace = 0 := rfl
  have l0 : (0 : Nat) ≤ 1000 := by decide
  have l2 : (2 : Nat) ≤ 1000 := by decide
  have l1 : (1 : Nat) ≤ 1000 := by decide
  unfold pEnv at hpl
  rw [e0, e1, e2, e4, e5] at hpl
  rw [e3] at c1
  have hsm : Sm 20 t := ht.sm
  have hlf : ∀ env : Env, env = [Slot.dat (.int c), .dat (folkD fk), .dat (.list (tm.map trD)), .dat (fr t), .dat (.tuple [.int 0, .int 1]), .dat (.tuple [.int 0, .int 1]), .dat (.tuple [.int 0, .int 1]), .dat (.list []), .no, .no, .no, .no, .no, .no, .no, .no, .no, .no, .no, .no] →
      lcGo (lcF T (.var 8) (.nm 8) (.so (.not_ (.call il (.cons (.var 3) (.cons (.tup (.cons (.idx (.var 8) (.cst (.int 0))) (.cons (.cst (.int 1)) .nil))) .nil))))) [8]) (tm.map trD) env = some ((rowsF tm t).map trD, env) := fun env he => lcGo_filter tm fun r hr => by
    subst he
    have c3 := qi t r.1 (hsm.mono (by decide)) ((Sm.int (i := r.1) (n := 20) (by have := gt.hw r hr; omega) (by decide)).mono (by decide))
    rw [← fr_pair (a := r.1)] at c3
    clear qi qs qp qm c1 hpl
    generalize tm.map trD = xs
    unfold trD
    by_cases hlt : t < ((r.1 : Int) : Rat)
    · rw [decide_eq_true hlt] at c3 ⊢
      walk_at "evs"
    · rw [decide_eq_false hlt] at c3 ⊢
      walk_at "evs"
  replace hlf := hlf _ rfl
  have hls : ∀ env : Env, env = [Slot.dat (.int c), .dat (folkD fk), .dat (.list (tm.map trD)), .dat (fr t), .dat (.tuple [.int 0, .int 1]), .dat (.tuple [.int 0, .int 1]), .dat (.tuple [.int 0, .int 1]), .dat (.list []), .no, .dat (.list ((rowsF tm t).map trD)), .no, .no, .no, .no, .no, .no, .no, .no, .no, .no] →
      lcGo (lcF T (.idx (.var 8) (.cst (.int 1))) (.nm 8) .no [8]) ((rowsF tm t).map trD) env = some ((rowsF tm t).map (fun r => someD r.2), env) := fun env he => lcGo_map _ fun r hr => by
    subst he
    clear qi qs qp qm c1 hpl hlf
    generalize tm.map trD = xs
    generalize (rowsF tm t).map trD = ys
    unfold trD
    walk_at "evs"
  replace hls := hls _ rfl
  have e6 : (rowsF tm t).map (fun r : Trow => someD r.2) = ((rowsF tm t).map (·.2)).map someD := by rw [List.map_map]; rfl
  rw [e6] at hls
  have e9 : (placesF c fk tm t).map ownD = [.tuple [.str "", fr ((runP c fk st0 (rowsF tm t)).at t)]] ++ fk.map (fun o => ownD (o.name, valAt (runP c fk st0 (rowsF tm t)) t o.name)) := by
    unfold placesF
    rw [List.map_cons, List.map_map]; rfl
  generalize hst : runP c fk st0 (rowsF tm t) = st at *
  generalize rowsF tm t = rows at *
  have i7 : 0 + rows.length ≤ 10 := by omega
  have sH := szE.smD i7 szE.here
  have sP := szE.smD i7 szE.pace
  have hd1 : Sm 20 (t - st.since) := by
    obtain ⟨z, ez, z0, z1⟩ := szE.since
    have := hr_sm ht z0 z1
    rwa [← ez] at this
  have c4 := qm st.pace st.since t sP (since_sm szE) hsm
  have c5 := qp st.here _ (sH.mono (by decide)) ((sP.mul hd1).mono (by decide))
  have e7 : st.here + st.pace * (t - st.since) = st.at t := rfl
  rw [e7] at c5
  have ndo : (st.off.map (·.name)).Nodup := by rw [hnm]; exact gr.ok.ndl
  have ndk : (st.off.map (fun x => (PyData.str x.name : D))).Nodup := by
    have := List.Pairwise.map (R := (· ≠ ·)) (S := (· ≠ ·)) (fun n : Str => (PyData.str n : D)) (by intro a b hab z; exact hab (by simpa using z)) ndo
    rw [List.map_map] at this
    exact this
  have hofl : st.off.length ≤ 49 := by
    have h1 := congrArg List.length hnm
    have h2 : ∀ l : List (List Lp), (∀ s ∈ l, s.length ≤ 7) → l.flatten.length ≤ 7 * l.length := by
      intro l
      induction l with
      | nil => intro _; simp
      | cons s l ih =>
        intro h
        have h3 := ih fun x hx => h x (List.mem_cons_of_mem _ hx)
        have h4 := h s List.mem_cons_self
        rw [List.flatten_cons, List.length_append, List.length_cons]
        omega
    have h3 := h2 _ gr.ok.sz
    rw [List.length_append, List.length_map, List.length_map, List.length_map] at h1
    rw [List.length_map] at h3
    have : st0.off.length = 0 := rfl
    omega
  have hdc : ∀ env : Env, env = [Slot.dat (.int c), .dat (folkD fk), .dat (.list (tm.map trD)), .dat (fr t), .dat (fr (st.at t)), .dat (fr st.since), .dat (fr st.pace), .dat (.list (st.off.map offD)), .no, .dat (.list (rows.map trD)), .no, .no, .no, .no, .no, .no, .dat (.list [.tuple [.str "", fr (st.at t)]]), .no, .no, .no] →
      dcGo (dcF T (.var 14) (.call pl (.cons (.var 17) (.cons (.call mv (.cons (.var 15) (.cons (.var 10) (.cons (.var 3) .nil)))) .nil))) (.tp [14, 17, 10, 15]) [10, 14, 15, 17]) (st.off.map offD) env [] = some ([] ++ st.off.map (fun x => (.str x.name, fr (x.at t))), env) := fun env he =>
    dcGo_map (kf := fun x : Off => .str x.name) (vf := fun x => fr (x.at t)) st.off [] (fun x hx => ⟨by
      subst he
      obtain ⟨a, b, z, ez, z0, z1⟩ := szE.off x hx
      have sA := szE.smD i7 a
      have sB := szE.smD i7 b
      have hd2 := hr_sm ht z0 z1
      have sw : Sm 20 x.when := by rw [ez]; exact Sm.int (by omega) (by decide)
      rw [← ez] at hd2
      have c6 := qm x.fast x.when t sB sw hsm
      have c7 := qp x.place _ (sA.mono (by decide)) ((sB.mul hd2).mono (by decide))
      have e8 : x.place + x.fast * (t - x.when) = x.at t := rfl
      rw [e8] at c7
      clear ez e8 e7 a b
      clear qi qs qp qm c1 hpl hlf hls c4 c5
      generalize tm.map trD = xs at *
      generalize rows.map trD = ys at *
      generalize st.off.map offD = zs at *
      unfold offD
      walk_at "evs", dk_str⟩) (by rw [List.nil_append, List.map_map]; exact ndk) (by rw [List.length_nil]; exact Nat.lt_of_le_of_lt (show _ ≤ 49 by omega) (by decide))
  replace hdc := hdc _ rfl
  rw [List.nil_append] at hdc
  have hlr : ∀ env : Env, env = [Slot.dat (.int c), .dat (folkD fk), .dat (.list (tm.map trD)), .dat (fr t), .dat (fr (st.at t)), .dat (fr st.since), .dat (fr st.pace), .dat (.list (st.off.map offD)), .no, .dat (.list (rows.map trD)), .no, .no, .no, .no, .no, .no, .dat (.list [.tuple [.str "", fr (st.at t)]]), .no, .own false (.d false (st.off.map (fun x => (.str x.name, fr (x.at t))))), .no] →
      lcGo (lcF T (.tup (.cons (.idx (.var 19) (.cst (.int 0))) (.cons (.getD (.var 18) (.idx (.var 19) (.cst (.int 0))) (.var 4)) .nil))) (.nm 19) .no [19]) (fk.map oneD) env = some (fk.map (fun o => ownD (o.name, valAt st t o.name)), env) := fun env he => lcGo_map fk fun o ho => by
    subst he
    have hg : (dget (st.off.map (fun x => ((.str x.name : D), fr (x.at t)))) (.str o.name)).getD (fr (st.at t)) = fr (valAt st t o.name) := by
      unfold valAt
      cases hf : st.find o.name with
      | some x =>
        have h1 := List.mem_of_find?_eq_some hf
        have h2 : x.name = o.name := by have := List.find?_some hf; simpa using this
        have := dget_map (kf := fun x : Off => (.str x.name : D)) (vf := fun x => fr (x.at t)) h1 ndk
        rw [h2] at this
        rw [this]; rfl
      | none =>
        have := dget_none (kf := fun x : Off => (.str x.name : D)) (vf := fun x => fr (x.at t)) (k := .str o.name) (xs := st.off) (fun z => by
          obtain ⟨x, hx, e⟩ := List.mem_map.mp z
          have h2 := List.find?_eq_none.mp hf x hx
          have h3 : x.name = o.name := by simpa using e
          simp [h3] at h2)
        rw [this]; rfl
    have dk := @dk_str o.name
    clear qi qs qp qm c1 hpl hlf hls c4 c5 hdc
    generalize tm.map trD = xs at *
    generalize rows.map trD = ys at *
    generalize st.off.map offD = zs at *
    generalize st.off.map (fun x => ((.str x.name : D), fr (x.at t))) = kvs at *
    generalize folkD fk = fd at *
    unfold ownD oneD
    walk_at "evs"
  replace hlr := hlr _ rfl
  have l3 : (3 : Nat) ≤ 1000 := by decide
  have hz : 0 + 1 + (fk.map (fun o => ownD (o.name, valAt st t o.name))).length ≤ sizeLine := by
    rw [List.length_map]
    have := gt.ok.le
    exact Nat.le_trans (show _ ≤ 8 by omega) (by decide)
  rw [e9]
  clear qi qs qp qm sH sP hd1 e0 e1 e2 e3 e4 e5 e6 e7 e9 ndo ndk hofl szE hst hnm gr gt hsm ht
  generalize tm.map trD = xs at *
  generalize rows.map trD = ys at *
  generalize st.off.map offD = zs at *
  generalize (fk.map (fun o => ownD (o.name, valAt st t o.name))) = us at *
  generalize st.off.map (fun x => ((.str x.name : D), fr (x.at t))) = kvs at *
  unfold cb_places
  unfold folkD leapsD at *
  walk_at "evs"
end Lc
/-! Places, as the law sums them. -/
namespace Lc
open PySem L2
local macro_rules | `(tactic| walk_at "evs") => `(tactic| simp only [rdS_dat, rdS_own, rdS_scr, loS_dat, loS_own, loS_scr, ob_l, ob_d, look_dat, look_new, look_slot, lookD_dat, lookD_new, lookD_slot, obd, b2_some, fst_eq, ev_var, ev_cst, datE_eq, ev_glo, kBin2_eq, kBin1_eq, ev_bin, kNeg_eq, ev_neg, nots_eq, truR_dat, truR_slot, truth_b, kNot_eq, ev_not, blE_eq, kCmp2_eq, kCmp1_eq, cmpB_d, cmpB_in, cmpB_ni, kDcE_eq, kDc_eq, ev_dc, dcF5_eq, dcF4_eq, dcF3_eq, dcF2_eq, dcF1_eq, dcF_eq, ev_dnew, gtO_eq, kGt3_eq, kGt2_eq, kGt1_eq, kGt_eq, isDic_k, ev_getD, kL2e_eq, kL2_eq, ev_lc2, l2F3_eq, l2F2_eq, l2F1_eq, l2F_eq, ix_k, dk_str, dk_int, ev_cmp, kCh4_eq, kCh3_true, kCh3_false, kCh2_eq, kCh1_eq, ev_chain, kIte2_true, kIte2_false, kIte_eq, ev_ite, ev_and, ev_or, kTru_eq, evAnd_one, evOr_one, kAnd2_true, kAnd2_false, kAnd_eq, evAnd_cons, kOr2_true, kOr2_false, kOr_eq, evOr_cons, consE_eq, kL_eq, evL_nil, evL_cons, frz_dat, frz_new, fzS_dat, fzS_own, frz_slot, kF2_eq, kF_eq, frzL_nil, frzL_cons, kTup2_eq, kTup_eq, ev_tup, kLst2_eq, kLst_eq, ev_lst, ixOb_eq, kIx2_eq, kIx_eq, ev_idx, kO_eq, evO_no, evO_so, kSl3_eq, kSl2_eq, kSl_eq, ev_sl, kRev_eq, ev_rev, kC4_dat, kC4_new, kC3_eq, kC2_eq, kC_eq, ev_callE, kP_eq, kPs_eq, kPf_eq, pass_nil, pass_dat, pass_new, pass_newT, psS_scr, psS_dat, psS_own, pass_slotF, ptS_own, ptS_own0, pass_slotT, noS_nil, noS_dat, noS_new, noS_slot, back_nil, back_f, back_new, bkS_own, back_t, kOb2_eq, kOb_eq, lookL_nil, lookL_cons, kB2_eq, kB_eq, ev_blt, isiE_eq, kIs_eq, ev_isi, kLcE_eq, kLc_eq, ev_lc, lcGo_nil, kGoE_some, kGoE_none, kGo_eq, lcGo_cons, evC_no, evC_so, lcF4_eq, lcF3_eq, lcF2_true, lcF2_false, lcF1_eq, lcF_eq, kSq2_eq, kSq1_eq, kSq_eq, evSrc_seq, rngE_eq, kRg_eq, evSrc_rng, enumE_eq, kEn_eq, evSrc_enum, kZ4_l, kZ4_m, kZ4_t, kY4_eq, kY3_eq, kY2_eq, kY1_eq, ev_lzip, kNp_eq, asg_npE, kZ3_eq, kZ2_eq, kZ1_eq, evSrc_zip, setE_eq, kSet_eq, ex_set, datS_eq, nrm_t, nrm_fd, nrm_fl, nrm_fk, nrm_fs, kN2_eq, kN_eq, nrmL_nil, nrmL_cons, putL_nil, putL_cons, nxE_eq, kPr2_eq, kPr_eq, ex_par, kU2_eq, kU_eq, ex_unp, asg_nm, asg_tp, kPp_eq, asg_ppE, asgN_nil, asgN_cons, kSb2_eq, kSb1_eq, kSb_eq, ex_sub, kAp_eq, ex_app, kIn3_eq, kIn2_eq, kIn_eq, ex_ins, exE_eq, ex_expr, rtE_eq, ex_ret, kIf2_true, kIf2_false, kIf_eq, ex_ite, kFo2_eq, kFo_eq, ex_for, ex_whl, forGo_nil, kFg_nx, kFg_rt, kXs_nx, kXs_rt, exL_nil, exL_cons, kRun2_eq, kRun_nx, kRun_rt, run_eq, fin_dat, fin_new, finS_dat, finS_own, fin_slot, outs_nil, outs_cons, par_dat, par_own, par_scr, par_no, freeS_eq, frS_eq, ownS_eq, owS_own, ownL_eq, olS_own, wip_nil, wip_cons, unwip_nil, unwip_cons, wkS_no, wkS_dat, wipOk_eq, lkS_own, lkS_dat, lkS_scr, lockS_slot, lockS_dat, lockS_new, lock_none, lock_some, unlock_none, unlock_some, seqOf_l, seqOf_t, kSb3_S, sbS_0, sbS_1, sbS_d, kAp2_S, apS_l, kIn4_S, inS_l, stG_eq, kWp_eq, whC_eq, kWh_nx, kWh_rt, kW1_t, kW1_f, bo_add, bo_sub, bo_mul, bo_fd, bo_mod, bo_cat, bo_catT, bo_cats, co_lt, co_le, co_gt, co_ge, co_isN, co_isnotN, bi_abs, bi_lenL, bi_lenT, bi_lenS, bi_lenR, bi_min, bi_tupL, bi_tupT, bi_lstL, bi_lstT, ix_l, ix_t, ix_r, atI_n0, atI_n1, atI_n2, atI_n3, sl_l, sl_t, isN_n, isN_t, isN_l, isN_i, isN_b, isN_s, ne_tt, ne_tf, ne_ft, ne_ff, List.getElem?_cons_zero, List.getElem?_cons_succ, List.set_cons_zero, List.set_cons_succ, List.cons_append, List.nil_append, List.replicate_succ, List.replicate_zero, List.getD_cons_zero, List.getD_cons_succ, Option.bind_some, Option.map_some, Option.bind_none, Option.map_none, Bool.not_true, Bool.not_false, Bool.and_true, Bool.true_and, Bool.and_false, Bool.false_and, and_self, and_true, true_and, decide_true, decide_false, if_true, if_false, Bool.false_eq_true, List.all_cons, List.all_nil, List.length_cons, List.length_nil, List.map_cons, List.map_nil, *])
theorem co_in_s {x : Str} {ns : List Str} : cmpop .In (.str x) (.list (ns.map .str)) = some (decide (x ∈ ns)) := by
  rw [co_in inOk_strs, isIn_str]
/-- a dict of a fraction for each of the folk -/
def qK (fk : List One) (f : Str → Rat) : List (D × D) := fk.map fun o => (.str o.name, fr (f o.name))
theorem qK_put {fk : List One} {f : Str → Rat} {n : Str} {q : Rat} (h : n ∈ fk.map (·.name)) : dput (qK fk f) (.str n) (fr q) = qK fk fun m => if m = n then q else f m := by
  unfold dput
  rw [mem_keys]
  have e : (qK fk f).map (·.1) = fk.map fun o => .str o.name := by unfold qK; rw [List.map_map]; rfl
  rw [e, decide_eq_true (by
    obtain ⟨o, ho, rfl⟩ := List.mem_map.mp h
    exact List.mem_map_of_mem (f := fun o : One => (PyData.str o.name : D)) ho), if_pos rfl]
  unfold qK
  rw [List.map_map]
  refine List.map_congr_left fun o _ => ?_
  simp only [Function.comp]
  by_cases hn : o.name = n
  · rw [if_pos (by rw [hn]), if_pos hn]
  · rw [if_neg (fun z => hn (by simpa using z)), if_neg hn]
theorem qK_get {fk : List One} {f : Str → Rat} {n : Str} (nd : (fk.map (·.name)).Nodup) (h : n ∈ fk.map (·.name)) : dget (qK fk f) (.str n) = some (fr (f n)) := by
  obtain ⟨o, ho, rfl⟩ := List.mem_map.mp h
  exact dget_map (kf := fun o : One => (.str o.name : D)) (vf := fun o => fr (f o.name)) ho (nodup_str nd)
theorem qK_len {fk : List One} {f : Str → Rat} (h : fk.length ≤ 7) : (qK fk f).length < sizeLine := by
  unfold qK
  rw [List.length_map]
  exact Nat.lt_of_le_of_lt h (by decide)
theorem qK_congr {fk : List One} {f g : Str → Rat} (h : ∀ o ∈ fk, f o.name = g o.name) : qK fk f = qK fk g := List.map_congr_left fun o ho => by rw [h o ho]
def putF (f : Str → Rat) : List Own → Str → Rat
  | [] => f
  | p :: own => putF (fun m => if m = p.1 then p.2 else f m) own
theorem putF_eq : ∀ (own : List Own) (f : Str → Rat) (n : Str), (own.map (·.1)).Nodup → putF f own n = match own.find? (fun p => decide (p.1 = n)) with | some p => p.2 | none => f n
  | [], f, n, _ => rfl
  | p :: own, f, n, nd => by
    rw [List.map_cons, List.nodup_cons] at nd
    rw [putF, putF_eq own _ n nd.2]
    by_cases h : p.1 = n
    · rw [List.find?_cons_of_pos (by simpa using h), List.find?_eq_none.mpr]
      · simp [h]
      · intro q hq
        simp only [decide_eq_true_eq]
        exact fun z => nd.1 (by rw [h, ← z]; exact List.mem_map_of_mem hq)
    · rw [List.find?_cons_of_neg (by simpa using h)]
      have h' : ¬ n = p.1 := fun z => h z.symm
      simp [h']
theorem fastAt_step {st : Pst} {w v : Rat} {own : List Own} (nd : (own.map (·.1)).Nodup) (hn : ∀ m ∈ own.map (·.1), m ∉ st.off.map (·.name)) (n : Str) : putF (fastAt st) own n = fastAt (pstep st w v own) n := by
  rw [putF_eq own _ n nd]
  unfold fastAt
  have e : (pstep st w v own).find n = (st.find n).or ((own.map (offOf (st.at w) w)).find? fun x => decide (x.name = n)) := by
    unfold Pst.find pstep
    exact List.find?_append
  rw [e]
  have e2 : (own.map (offOf (st.at w) w)).find? (fun x => decide (x.name = n)) = (own.find? (fun p => decide (p.1 = n))).map (offOf (st.at w) w) := by
    rw [List.find?_map]; rfl
  rw [e2]
  cases h2 : own.find? (fun p => decide (p.1 = n)) with
  | none =>
    cases st.find n <;> rfl
  | some p =>
    have h3 : p.1 = n := by have := List.find?_some h2; simpa using this
    have h4 : st.find n = none := by
      unfold Pst.find
      refine List.find?_eq_none.mpr fun x hx => ?_
      simp only [decide_eq_true_eq]
      exact fun z => hn n (by rw [← h3]; exact List.mem_map_of_mem (List.mem_of_find?_eq_some h2)) (by rw [← z]; exact List.mem_map_of_mem hx)
    rw [h4]; rfl
theorem fast_loop {T : Tab} {fu : Nat} {a b c d : Str} {fk : List One} {s0 s1 s2 s3 s4 s5 s6 s7 s8 s10 s11 s12 s13 s14 s15 s16 s18 s20 s21 : Slot} (hl : fk.length ≤ 7) : ∀ (own : List Own) (f : Str → Rat), (∀ p ∈ own, p.1 ∈ fk.map (·.name)) →
    forGo (stF T fu (.tp [17, 19]) [17, 19] (lb_lplaces_3 a b c d)) (own.map ownD) [s0, s1, s2, s3, s4, s5, s6, s7, s8, .own false (.d false (qK fk f)), s10, s11, s12, s13, s14, s15, s16, .no, s18, .no, s20, s21] = some (.nx, [s0, s1, s2, s3, s4, s5, s6, s7, s8, .own false (.d false (qK fk (putF f own))), s10, s11, s12, s13, s14, s15, s16, .no, s18, .no, s20, s21])
  | [], f, _ => rfl
  | p :: own, f, hm => by
    have ih := fast_loop (T := T) (fu := fu) (a := a) (b := b) (c := c) (d := d) (s0 := s0) (s1 := s1) (s2 := s2) (s3 := s3) (s4 := s4) (s5 := s5) (s6 := s6) (s7 := s7) (s8 := s8) (s10 := s10) (s11 := s11) (s12 := s12) (s13 := s13) (s14 := s14) (s15 := s15) (s16 := s16) (s18 := s18) (s20 := s20) (s21 := s21) hl own (fun m => if m = p.1 then p.2 else f m) fun q hq => hm q (List.mem_cons_of_mem _ hq)
    rw [List.map_cons, forGo_cons, putF, ← ih]
    have hst : stF T fu (.tp [17, 19]) [17, 19] (lb_lplaces_3 a b c d) (ownD p) [s0, s1, s2, s3, s4, s5, s6, s7, s8, .own false (.d false (qK fk f)), s10, s11, s12, s13, s14, s15, s16, .no, s18, .no, s20, s21] = some (.nx, [s0, s1, s2, s3, s4, s5, s6, s7, s8, .own false (.d false (qK fk fun m => if m = p.1 then p.2 else f m)), s10, s11, s12, s13, s14, s15, s16, .no, s18, .no, s20, s21]) := by
      rw [← qK_put (q := p.2) (hm p List.mem_cons_self)]
      have hz := qK_len (f := f) hl
      have dk := @dk_str p.1
      clear ih
      generalize qK fk f = kvs at *
      rw [stF_eq]
      unfold lb_lplaces_3 ownD
      walk_at "evs"
    rw [hst, Option.bind_some, kFg_nx]
theorem at_loop {T : Tab} {fu : Nat} {a b pl lo : Str} {fk : List One} {f : Str → Rat} {v l : Rat} {ns : List Str} {s0 s2 s3 s4 s5 s6 s7 s12 s14 s15 s16 s17 s18 s19 : Slot} (h1 : Fn T pl ff PlusΦ) (h2 : Fn T lo ff LowΦ) (hl : fk.length ≤ 7) (nd : (fk.map (·.name)).Nodup) (sl : Sm 20 l) (sr : ∀ n, Sm 500 (if n ∈ ns then f n else v)) : ∀ (rest : List One) (g : Str → Rat), (∀ o ∈ rest, o ∈ fk) → (rest.map (·.name)).Nodup → (∀ o ∈ rest, Sm 500 (g o.name)) →
    forGo (stF T fu (.nm 8) [8, 21] (lb_lplaces_2 a b pl lo)) (rest.map oneD) [s0, .dat (folkD fk), s2, s3, s4, s5, s6, s7, .no, .own false (.d false (qK fk f)), .own false (.d false (qK fk g)), .dat (fr v), s12, .dat (.list (ns.map .str)), s14, s15, s16, s17, s18, s19, .dat (fr l), .no] = some (.nx, [s0, .dat (folkD fk), s2, s3, s4, s5, s6, s7, .no, .own false (.d false (qK fk f)), .own false (.d false (qK fk fun n => if n ∈ rest.map (·.name) then g n + (if n ∈ ns then f n else v) * l else g n)), .dat (fr v), s12, .dat (.list (ns.map .str)), s14, s15, s16, s17, s18, s19, .dat (fr l), .no])
  | [], g, _, _, _ => by
    have : (fun n => if n ∈ ([] : List One).map (·.name) then g n + (if n ∈ ns then f n else v) * l else g n) = g := by funext n; simp
    rw [this]; rfl
  | o :: rest, g, hm, ndr, sg => by
    rw [List.map_cons, List.nodup_cons] at ndr
    have hno : ∀ x ∈ rest, x.name ≠ o.name := fun x hx z => ndr.1 (by rw [← z]; exact List.mem_map_of_mem hx)
    have ih := at_loop (fu := fu) (a := a) (b := b) (s0 := s0) (s2 := s2) (s3 := s3) (s4 := s4) (s5 := s5) (s6 := s6) (s7 := s7) (s12 := s12) (s14 := s14) (s15 := s15) (s16 := s16) (s17 := s17) (s18 := s18) (s19 := s19) h1 h2 hl nd sl sr rest (fun n => if n = o.name then g o.name + (if o.name ∈ ns then f o.name else v) * l else g n) (fun x hx => hm x (List.mem_cons_of_mem _ hx)) ndr.2 (fun x hx => by
      show Sm 500 (if x.name = o.name then _ else _)
      rw [if_neg (hno x hx)]; exact sg x (List.mem_cons_of_mem _ hx))
    have hon : o.name ∈ fk.map (·.name) := List.mem_map_of_mem (hm o List.mem_cons_self)
    have e : (fun n => if n ∈ rest.map (·.name) then (if n = o.name then g o.name + (if o.name ∈ ns then f o.name else v) * l else g n) + (if n ∈ ns then f n else v) * l else (if n = o.name then g o.name + (if o.name ∈ ns then f o.name else v) * l else g n)) = (fun n => if n ∈ (o :: rest).map (·.name) then g n + (if n ∈ ns then f n else v) * l else g n) := by
      funext n
      rw [List.map_cons]
      by_cases h3 : n = o.name
      · subst h3
        rw [if_neg ndr.1, if_pos rfl, if_pos List.mem_cons_self]
      · by_cases h4 : n ∈ rest.map (·.name)
        · rw [if_pos h4, if_neg h3, if_pos (List.mem_cons_of_mem _ h4)]
        · rw [if_neg h4, if_neg h3, if_neg]
          intro z
          rcases List.mem_cons.mp z with e | e
          · exact h3 e
          · exact h4 e
    rw [e] at ih
    rw [List.map_cons, forGo_cons]
    have hst : stF T fu (.nm 8) [8, 21] (lb_lplaces_2 a b pl lo) (oneD o) [s0, .dat (folkD fk), s2, s3, s4, s5, s6, s7, .no, .own false (.d false (qK fk f)), .own false (.d false (qK fk g)), .dat (fr v), s12, .dat (.list (ns.map .str)), s14, s15, s16, s17, s18, s19, .dat (fr l), .no] = some (.nx, [s0, .dat (folkD fk), s2, s3, s4, s5, s6, s7, .no, .own false (.d false (qK fk f)), .own false (.d false (qK fk fun n => if n = o.name then g o.name + (if o.name ∈ ns then f o.name else v) * l else g n)), .dat (fr v), s12, .dat (.list (ns.map .str)), s14, s15, s16, s17, s18, s19, .dat (fr l), .no]) := by
      clear ih e
      rw [← qK_put (q := g o.name + (if o.name ∈ ns then f o.name else v) * l) hon]
      have hz := qK_len (f := g) hl
      have dk := @dk_str o.name
      have g1 := qK_get (f := f) nd hon
      have g2 := qK_get (f := g) nd hon
      have ci := @co_in_s o.name ns
      have srr := sr o.name
      have sgo := sg o List.mem_cons_self
      have hrr : (if o.name ∈ ns then f o.name else v) = (if decide (o.name ∈ ns) = true then f o.name else v) := by simp
      rw [hrr] at srr ⊢
      obtain ⟨fp, tp, qp⟩ := h1
      obtain ⟨fl, tl, ql⟩ := h2
      generalize decide (o.name ∈ ns) = bb at *
      generalize hq : (if bb = true then f o.name else v) = q at *
      have c1 := ql (q.num * l.num) (q.den * l.den) (Int.mul_pos (den_pos q) (den_pos _)) (okI_of (natAbs_mul_lt (n := 500) (m := 20) (by simpa using srr.2) (by simpa using sl.2)) (by decide))
      rw [rat_mul2] at c1
      have c2 := qp (g o.name) (q * l) (sgo.mono (by decide)) ((srr.mul sl).mono (by decide))
      have k1 := srr.oknum (by decide)
      have k2 := srr.okden (by decide)
      have k3 := sl.oknum (by decide)
      have k4 := sl.okden (by decide)
      clear qp ql sr sg hm ndr hno hl nd sl srr sgo hrr hon
      generalize qK fk f = kf at *
      generalize qK fk g = kg at *
      generalize g o.name + q * l = gq at *
      generalize g o.name = go at *
      rw [stF_eq]
      unfold lb_lplaces_2 oneD
      unfold fr at *
      cases bb with
      | true =>
        rw [if_pos rfl] at hq
        rw [hq] at g1
        clear hq
        walk_at "evs"
      | false =>
        rw [if_neg (by decide)] at hq
        subst hq
        walk_at "evs"
    rw [hst, Option.bind_some, kFg_nx, ih]
end Lc
/-! Places, as the law sums them: the rows. -/
namespace Lc
open PySem L2
local macro_rules | `(tactic| walk_at "evs") => `(tactic| simp only [rdS_dat, rdS_own, rdS_scr, loS_dat, loS_own, loS_scr, ob_l, ob_d, look_dat, look_new, look_slot, lookD_dat, lookD_new, lookD_slot, obd, b2_some, fst_eq, ev_var, ev_cst, datE_eq, ev_glo, kBin2_eq, kBin1_eq, ev_bin, kNeg_eq, ev_neg, nots_eq, truR_dat, truR_slot, truth_b, kNot_eq, ev_not, blE_eq, kCmp2_eq, kCmp1_eq, cmpB_d, cmpB_in, cmpB_ni, kDcE_eq, kDc_eq, ev_dc, dcF5_eq, dcF4_eq, dcF3_eq, dcF2_eq, dcF1_eq, dcF_eq, ev_dnew, gtO_eq, kGt3_eq, kGt2_eq, kGt1_eq, kGt_eq, isDic_k, ev_getD, kL2e_eq, kL2_eq, ev_lc2, l2F3_eq, l2F2_eq, l2F1_eq, l2F_eq, ix_k, dk_str, dk_int, ev_cmp, kCh4_eq, kCh3_true, kCh3_false, kCh2_eq, kCh1_eq, ev_chain, kIte2_true, kIte2_false, kIte_eq, ev_ite, ev_and, ev_or, kTru_eq, evAnd_one, evOr_one, kAnd2_true, kAnd2_false, kAnd_eq, evAnd_cons, kOr2_true, kOr2_false, kOr_eq, evOr_cons, consE_eq, kL_eq, evL_nil, evL_cons, frz_dat, frz_new, fzS_dat, fzS_own, frz_slot, kF2_eq, kF_eq, frzL_nil, frzL_cons, kTup2_eq, kTup_eq, ev_tup, kLst2_eq, kLst_eq, ev_lst, ixOb_eq, kIx2_eq, kIx_eq, ev_idx, kO_eq, evO_no, evO_so, kSl3_eq, kSl2_eq, kSl_eq, ev_sl, kRev_eq, ev_rev, kC4_dat, kC4_new, kC3_eq, kC2_eq, kC_eq, ev_callE, kP_eq, kPs_eq, kPf_eq, pass_nil, pass_dat, pass_new, pass_newT, psS_scr, psS_dat, psS_own, pass_slotF, ptS_own, ptS_own0, pass_slotT, noS_nil, noS_dat, noS_new, noS_slot, back_nil, back_f, back_new, bkS_own, back_t, kOb2_eq, kOb_eq, lookL_nil, lookL_cons, kB2_eq, kB_eq, ev_blt, isiE_eq, kIs_eq, ev_isi, kLcE_eq, kLc_eq, ev_lc, lcGo_nil, kGoE_some, kGoE_none, kGo_eq, lcGo_cons, evC_no, evC_so, lcF4_eq, lcF3_eq, lcF2_true, lcF2_false, lcF1_eq, lcF_eq, kSq2_eq, kSq1_eq, kSq_eq, evSrc_seq, rngE_eq, kRg_eq, evSrc_rng, enumE_eq, kEn_eq, evSrc_enum, kZ4_l, kZ4_m, kZ4_t, kY4_eq, kY3_eq, kY2_eq, kY1_eq, ev_lzip, kNp_eq, asg_npE, kZ3_eq, kZ2_eq, kZ1_eq, evSrc_zip, setE_eq, kSet_eq, ex_set, datS_eq, nrm_t, nrm_fd, nrm_fl, nrm_fk, nrm_fs, kN2_eq, kN_eq, nrmL_nil, nrmL_cons, putL_nil, putL_cons, nxE_eq, kPr2_eq, kPr_eq, ex_par, kU2_eq, kU_eq, ex_unp, asg_nm, asg_tp, kPp_eq, asg_ppE, asgN_nil, asgN_cons, kSb2_eq, kSb1_eq, kSb_eq, ex_sub, kAp_eq, ex_app, kIn3_eq, kIn2_eq, kIn_eq, ex_ins, exE_eq, ex_expr, rtE_eq, ex_ret, kIf2_true, kIf2_false, kIf_eq, ex_ite, kFo2_eq, kFo_eq, ex_for, ex_whl, forGo_nil, kFg_nx, kFg_rt, kXs_nx, kXs_rt, exL_nil, exL_cons, kRun2_eq, kRun_nx, kRun_rt, run_eq, fin_dat, fin_new, finS_dat, finS_own, fin_slot, outs_nil, outs_cons, par_dat, par_own, par_scr, par_no, freeS_eq, frS_eq, ownS_eq, owS_own, ownL_eq, olS_own, wip_nil, wip_cons, unwip_nil, unwip_cons, wkS_no, wkS_dat, wipOk_eq, lkS_own, lkS_dat, lkS_scr, lockS_slot, lockS_dat, lockS_new, lock_none, lock_some, unlock_none, unlock_some, seqOf_l, seqOf_t, kSb3_S, sbS_0, sbS_1, sbS_d, kAp2_S, apS_l, kIn4_S, inS_l, stG_eq, kWp_eq, whC_eq, kWh_nx, kWh_rt, kW1_t, kW1_f, bo_add, bo_sub, bo_mul, bo_fd, bo_mod, bo_cat, bo_catT, bo_cats, co_lt, co_le, co_gt, co_ge, co_isN, co_isnotN, bi_abs, bi_lenL, bi_lenT, bi_lenS, bi_lenR, bi_min, bi_tupL, bi_tupT, bi_lstL, bi_lstT, ix_l, ix_t, ix_r, atI_n0, atI_n1, atI_n2, atI_n3, sl_l, sl_t, isN_n, isN_t, isN_l, isN_i, isN_b, isN_s, ne_tt, ne_tf, ne_ft, ne_ff, List.getElem?_cons_zero, List.getElem?_cons_succ, List.set_cons_zero, List.set_cons_succ, List.cons_append, List.nil_append, List.replicate_succ, List.replicate_zero, List.getD_cons_zero, List.getD_cons_succ, Option.bind_some, Option.map_some, Option.bind_none, Option.map_none, Bool.not_true, Bool.not_false, Bool.and_true, Bool.true_and, Bool.and_false, Bool.false_and, and_self, and_true, true_and, decide_true, decide_false, if_true, if_false, Bool.false_eq_true, List.all_cons, List.all_nil, List.length_cons, List.length_nil, List.map_cons, List.map_nil, *])
def nxT (t : Rat) : List Trow → Rat
  | [] => t
  | r :: _ => (r.1 : Rat)
def endsF (t : Rat) (tm : List Trow) : List D := (tm.drop 1).map (fun r => .tuple [.int r.1, .int 1]) ++ [fr t]
theorem endsF_head (t : Rat) (r : Trow) (tm : List Trow) : ∃ ys, endsF t (r :: tm) = fr (nxT t tm) :: ys ∧ (tm = [] ∨ ys = endsF t tm) := by
  cases tm with
  | nil => exact ⟨[], rfl, Or.inl rfl⟩
  | cons r2 tm =>
    refine ⟨endsF t (r2 :: tm), ?_, Or.inr rfl⟩
    show (.tuple [.int r2.1, .int 1] : D) :: _ = fr ((r2.1 : Int) : Rat) :: _
    rw [fr_pair]; rfl
abbrev lEnv (s0 s2 s3 : Slot) (fk : List One) (s5 : Slot) (X Y : List D) (st : Pst) (t : Rat) : Env := [s0, .dat (folkD fk), s2, s3, .no, s5, .dat (.list X), .dat (.list Y), .no, .own false (.d false (qK fk (fastAt st))), .own false (.d false (qK fk (valAt st t))), .no, .dat (fr (st.at t)), .dat (.list ((st.off.map (·.name)).map .str)), .no, .no, .no, .no, .no, .no, .no, .no]
theorem lplaces_step {T : Tab} {fu : Nat} {ls ru pl lo : Str} {c : Int} {fk : List One} {s0 s2 s3 s5 : Slot} {X Y : List D} (h1 : Fn T pl ff PlusΦ) (h2 : Fn T lo ff LowΦ) (hc : 1 ≤ c) (hc2 : c ≤ 10000) (hl : fk.length ≤ 7) (nd : (fk.map (·.name)).Nodup) {r : Trow} {L : List One} {st : Pst} {i : Nat} {Dn : Int} {e : Rat} {n : Nat} {lss : List (List Lp)} (hL : L = leftO fk (st.off.map (·.name))) (ok : Okl L (r.2 :: lss)) (w0 : 0 ≤ r.1) (w1 : r.1 ≤ 1000) (sz : Sz i Dn st) (hi : i + 1 ≤ 7) (he : Hr e) (hol : st.off.length ≤ 49)
    (hX : X[n]? = some (rowD (pushF c L st.pace r.2, ownF L (pushF c L st.pace r.2) r.2))) (hY : Y[n]? = some (fr e)) :
    stF T fu (.np 14 15 16) [14, 15, 16, 11, 17, 19, 20, 8, 21] (lb_lplaces_1 ls ru pl lo) (.tuple [.int n, trD r]) (lEnv s0 s2 s3 fk s5 X Y st r.1) = some (.nx, lEnv s0 s2 s3 fk s5 X Y (pstep st r.1 (pushF c L st.pace r.2) (ownF L (pushF c L st.pace r.2) r.2)) e) := by
  have sz2 := sz.step hc hc2 ok w0 w1
  have hnm : (ownF L (pushF c L st.pace r.2) r.2).map (·.1) = r.2.map (·.1) := ownF_names r.2
  have hpn := pstep_names (st := st) (w := r.1) (v := pushF c L st.pace r.2) (L := L) (u := pushF c L st.pace r.2) (s := r.2)
  have ndo : ((ownF L (pushF c L st.pace r.2) r.2).map (·.1)).Nodup := by
    rw [hnm]
    have := ok.one.ndl
    simpa using this
  have hmo : ∀ m ∈ r.2.map (·.1), m ∈ fk.map (·.name) ∧ m ∉ st.off.map (·.name) := fun m hm => by
    obtain ⟨p, hp, rfl⟩ := List.mem_map.mp hm
    obtain ⟨o, ho, e⟩ := List.mem_map.mp (ok.mem r.2 List.mem_cons_self p hp)
    rw [hL] at ho
    obtain ⟨h3, h4⟩ := List.mem_filter.mp ho
    rw [← e]
    exact ⟨List.mem_map_of_mem h3, by simpa using h4⟩
  have hfs := fun m => fastAt_step (st := st) (w := r.1) (v := pushF c L st.pace r.2) ndo (fun m hm => (hmo m (by rw [← hnm]; exact hm)).2) m
  have hzo := ok.sz r.2 List.mem_cons_self
  have hvn := fun m => valAt_next st r.1 (pushF c L st.pace r.2) e (ownF L (pushF c L st.pace r.2) r.2) m
  have han := at_next st r.1 (pushF c L st.pace r.2) e (ownF L (pushF c L st.pace r.2) r.2)
  have hra := fun m => rateAt_eq (pstep st r.1 (pushF c L st.pace r.2) (ownF L (pushF c L st.pace r.2) r.2)) m
  have srt := fun m => sz2.smD (by omega) (sz2.rate m)
  have epc : (pstep st r.1 (pushF c L st.pace r.2) (ownF L (pushF c L st.pace r.2) r.2)).pace = pushF c L st.pace r.2 := rfl
  have sP := sz2.smD (by omega) sz2.pace
  have hw := Hr.int w0 w1
  have sA := sz.smT (by omega) hw (sz.atT hw) (by omega)
  have sV := fun m => sz.smT (by omega) hw (sz.valT hw m) (by omega)
  have sl := hr_sm he w0 w1
  generalize pushF c L st.pace r.2 = v at *
  generalize ownF L v r.2 = own at *
  generalize pstep st r.1 v own = st' at *
  rw [epc] at sP
  simp only [hra, epc] at hvn srt
  have hfe : qK fk (putF (fastAt st) own) = qK fk (fastAt st') := qK_congr fun o _ => hfs o.name
  have hfl := fast_loop (T := T) (fu := fu) (a := ls) (b := ru) (c := pl) (d := lo) (fk := fk) (s0 := s0) (s1 := .dat (folkD fk)) (s2 := s2) (s3 := s3) (s4 := .no) (s5 := s5) (s6 := .dat (.list X)) (s7 := .dat (.list Y)) (s8 := .no) (s10 := .own false (.d false (qK fk (valAt st r.1)))) (s11 := .dat (fr v)) (s12 := .dat (fr (st.at r.1))) (s13 := .dat (.list ((st'.off.map (·.name)).map .str))) (s14 := .dat (.int n)) (s15 := .dat (.int r.1)) (s16 := .dat (someD r.2)) (s18 := .no) (s20 := .no) (s21 := .no) hl own (fastAt st) (fun p hp => (hmo p.1 (by rw [← hnm]; exact List.mem_map_of_mem hp)).1)
  rw [hfe] at hfl
  have hal := at_loop (fu := fu) (a := ls) (b := ru) (fk := fk) (f := fastAt st') (v := v) (l := e - r.1) (ns := st'.off.map (·.name)) (s0 := s0) (s2 := s2) (s3 := s3) (s4 := .no) (s5 := s5) (s6 := .dat (.list X)) (s7 := .dat (.list Y)) (s12 := .dat (fr (st'.at e))) (s14 := .dat (.int n)) (s15 := .dat (.int r.1)) (s16 := .dat (someD r.2)) (s17 := .no) (s18 := .no) (s19 := .no) h1 h2 hl nd sl srt fk (valAt st r.1) (fun o ho => ho) nd (fun o _ => sV o.name)
  have hve : (qK fk fun m => if m ∈ fk.map (·.name) then valAt st r.1 m + (if m ∈ st'.off.map (·.name) then fastAt st' m else v) * (e - r.1) else valAt st r.1 m) = qK fk (valAt st' e) := qK_congr fun o ho => by
    rw [if_pos (List.mem_map_of_mem ho), hvn]
  rw [hve] at hal
  obtain ⟨fp, tp, qp⟩ := h1
  obtain ⟨fl, tl, ql⟩ := h2
  have c1 := qp e ((0 - r.1 : Int) : Rat) (he.sm.mono (by decide)) ((Sm.int (n := 20) (by omega) (by decide)).mono (by decide))
  have e1 : e + ((0 - r.1 : Int) : Rat) = e - (r.1 : Rat) := by
    rw [Rat.intCast_sub]
    have : ((0 : Int) : Rat) = 0 := rfl
    rw [this]; grind
  rw [e1, ← fr_pair (a := 0 - r.1)] at c1
  have c2 := ql (v.num * (e - (r.1 : Rat)).num) (v.den * (e - (r.1 : Rat)).den) (Int.mul_pos (den_pos v) (den_pos _)) (okI_of (natAbs_mul_lt (n := 500) (m := 20) (by simpa using sP.2) (by simpa using sl.2)) (by decide))
  rw [rat_mul2] at c2
  have c3 := qp (st.at r.1) _ (sA.mono (by decide)) ((sP.mul sl).mono (by decide))
  rw [← han] at c3
  have k1 := sP.oknum (by decide)
  have k2 := sP.okden (by decide)
  have k3 := sl.oknum (by decide)
  have k4 := sl.okden (by decide)
  have k5 : okI r.1 = true := okI_64 (by omega) (by omega)
  have x1 := L2.atI_nat hX
  have x2 := L2.atI_nat hY
  have e3 : (st'.off.map (·.name)).map (PyData.str : Str → D) = (st.off.map (·.name)).map .str ++ r.2.map (fun p => .str p.1) := by
    rw [hpn, List.map_append]
    congr 1
    rw [List.map_map]; rfl
  have hzc : ((st.off.map (·.name)).map (PyData.str : Str → D)).length + (r.2.map (fun p => (PyData.str p.1 : D))).length ≤ sizeLine := by
    rw [List.length_map, List.length_map, List.length_map]
    exact Nat.le_trans (show _ ≤ 100 by omega) (by decide)
  have l2 : (2 : Nat) ≤ 1000 := by decide
  rw [e3] at hfl hal
  unfold lEnv
  rw [e3]
  clear qp ql sz sz2 ok hmo hfs hvn hra srt sP sA sV sl he hnm hpn ndo e1 e3 hve hfe hX hY han nd hl hL w0 w1 hol hw hi epc
  generalize qK fk (fastAt st) = kf at *
  generalize qK fk (fastAt st') = kf' at *
  generalize qK fk (valAt st r.1) = kv at *
  generalize qK fk (valAt st' e) = kv' at *
  generalize st.at r.1 = h at *
  generalize st'.at e = h' at *
  generalize e - (r.1 : Rat) = l at *
  generalize (st.off.map (·.name)).map (PyData.str : Str → D) = ns at *
  have hln : ∀ env : Env, env = [s0, .dat (folkD fk), s2, s3, .no, s5, .dat (.list X), .dat (.list Y), .no, .own false (.d false kf), .own false (.d false kv), .dat (fr v), .dat (fr h), .dat (.list ns), .dat (.int n), .dat (.int r.1), .dat (someD r.2), .no, .no, .no, .no, .no] →
      lcGo (lcF T (.var 17) (.tp [17, 18]) .no [17, 18]) (r.2.map lpD) env = some (r.2.map (fun p => .str p.1), env) := fun env hE => lcGo_map r.2 fun p _ => by
    subst hE
    clear c1 c2 c3 hfl hal x1 x2
    unfold lpD
    walk_at "evs"
  replace hln := hln _ rfl
  rw [stF_eq]
  generalize r.2.map (fun p => (PyData.str p.1 : D)) = ms at *
  unfold lb_lplaces_1
  unfold trD
  unfold rowD at x1
  unfold someD folkD at *
  unfold fr at *
  simp only at x1
  walk_at "evs"
theorem step_len {c : Int} {L : List One} {st : Pst} {r : Trow} (h : r.2.length ≤ 7) {i : Nat} (ho : st.off.length ≤ 7 * i) : (pstep st r.1 (pushF c L st.pace r.2) (ownF L (pushF c L st.pace r.2) r.2)).off.length ≤ 7 * (i + 1) := by
  show (st.off ++ (ownF L (pushF c L st.pace r.2) r.2).map _).length ≤ _
  rw [List.length_append, List.length_map]
  unfold ownF
  rw [List.length_map]
  omega
theorem lplaces_loop {T : Tab} {fu : Nat} {ls ru pl lo : Str} {c : Int} {fk : List One} {s0 s2 s3 s5 : Slot} {X Y : List D} {t : Rat} (h1 : Fn T pl ff PlusΦ) (h2 : Fn T lo ff LowΦ) (hc : 1 ≤ c) (hc2 : c ≤ 10000) (hl : fk.length ≤ 7) (nd : (fk.map (·.name)).Nodup) (ht : Hr t) : ∀ (tm : List Trow) (L : List One) (st : Pst) (i : Nat) (Dn : Int) (n : Nat), L = leftO fk (st.off.map (·.name)) → Okl L (tm.map (·.2)) → (∀ r ∈ tm, 0 ≤ r.1 ∧ r.1 ≤ 1000) → Sz i Dn st → i + tm.length ≤ 7 → st.off.length ≤ 7 * i → (∃ rd, rd.length = n ∧ X = rd ++ (runF c L st.pace (tm.map (·.2))).map rowD) → (tm = [] ∨ ∃ ed, ed.length = n ∧ Y = ed ++ endsF t tm) →
    forGo (stF T fu (.np 14 15 16) [14, 15, 16, 11, 17, 19, 20, 8, 21] (lb_lplaces_1 ls ru pl lo)) (enumD n (tm.map trD)) (lEnv s0 s2 s3 fk s5 X Y st (nxT t tm)) = some (.nx, lEnv s0 s2 s3 fk s5 X Y (runP c L st tm) t)
  | [], L, st, i, Dn, n, _, _, _, _, _, _, _, _ => rfl
  | r :: tm, L, st, i, Dn, n, hL, ok, hw, sz, hi, ho, hX, hY => by
    simp only [List.length_cons] at hi
    obtain ⟨w0, w1⟩ := hw r List.mem_cons_self
    have hw' : ∀ x ∈ tm, 0 ≤ x.1 ∧ x.1 ≤ 1000 := fun x hx => hw x (List.mem_cons_of_mem _ hx)
    have sz2 := sz.step hc hc2 ok w0 w1
    have hsz := ok.sz r.2 List.mem_cons_self
    obtain ⟨rd, d1, d2⟩ := hX
    obtain ⟨ed, d3, d4⟩ : ∃ ed, ed.length = n ∧ Y = ed ++ endsF t (r :: tm) := by
      rcases hY with e | e
      · nomatch e
      · exact e
    obtain ⟨ys, y1, y2⟩ := endsF_head t r tm
    rw [y1] at d4
    rw [List.map_cons, runF, List.map_cons] at d2
    have he : Hr (nxT t tm) := by
      cases tm with
      | nil => exact ht
      | cons r2 tm => exact Hr.int (hw' r2 List.mem_cons_self).1 (hw' r2 List.mem_cons_self).2
    have hst := lplaces_step (T := T) (fu := fu) (ls := ls) (ru := ru) (s0 := s0) (s2 := s2) (s3 := s3) (s5 := s5) (X := X) (Y := Y) h1 h2 hc hc2 hl nd hL ok w0 w1 sz (by omega) he (by omega) (n := n) (by rw [d2, List.getElem?_append_right (by omega), show n - rd.length = 0 by omega]; rfl) (by rw [d4, List.getElem?_append_right (by omega), show n - ed.length = 0 by omega]; rfl)
    have hL2 : leftO L (r.2.map (·.1)) = leftO fk ((pstep st r.1 (pushF c L st.pace r.2) (ownF L (pushF c L st.pace r.2) r.2)).off.map (·.name)) := by
      rw [pstep_names, ← leftO_leftO, ← hL]
    have ih := lplaces_loop (fu := fu) (ls := ls) (ru := ru) (s0 := s0) (s2 := s2) (s3 := s3) (s5 := s5) (X := X) (Y := Y) h1 h2 hc hc2 hl nd ht tm _ _ (i + 1) _ (n + 1) hL2 ok.tail hw' sz2 (by omega) (step_len hsz ho) ⟨rd ++ [rowD (pushF c L st.pace r.2, ownF L (pushF c L st.pace r.2) r.2)], by simp [d1], by rw [d2, List.append_assoc]; rfl⟩ (by
      rcases y2 with e | e
      · exact Or.inl e
      · exact Or.inr ⟨ed ++ [fr (nxT t tm)], by simp [d3], by rw [d4, e, List.append_assoc]; rfl⟩)
    rw [List.map_cons, enumD, forGo_cons, runP]
    show (stF T fu _ _ _ (.tuple [.int n, trD r]) (lEnv s0 s2 s3 fk s5 X Y st r.1)).bind _ = _
    rw [hst, Option.bind_some, kFg_nx]
    exact ih
theorem lplaces_ok {T : Tab} {fu : Nat} {ls ru pl lo : Str} (h1 : Fn T ls ff LessΦ) (h2 : Fn T ru f4 RunΦ) (h3 : Fn T pl ff PlusΦ) (h4 : Fn T lo ff LowΦ) : PlacesΦ (run T fu 18 (cb_lplaces ls ru pl lo)) := by
  intro c fk tm t hc hc2 gt ht
  have gr := gt.rows t
  have hle := gr.len
  have nd := gt.ok.nd
  have hlk := gt.ok.le
  have hll := lplaces_loop (T := T) (fu := fu) (ls := ls) (ru := ru) (fk := fk) (s0 := .dat (.int c)) (s2 := .dat (.list (tm.map trD))) (s3 := .dat (fr t)) (s5 := .dat (.list ((rowsF tm t).map trD))) (X := (runF c fk 0 ((rowsF tm t).map (·.2))).map rowD) (Y := endsF t (rowsF tm t)) h3 h4 hc hc2 hlk nd ht (rowsF tm t) fk st0 0 1 0 (by
    show fk = leftO fk []
    unfold leftO
    simp [List.filter_eq_self.mpr]) gr.ok gr.hw sz0 (by omega) (by decide) ⟨[], rfl, rfl⟩ (Or.inr ⟨[], rfl, rfl⟩)
  obtain ⟨fi, ti, qi⟩ := h1
  obtain ⟨fs, ts, qs⟩ := h2
  have c1 := qs c fk 0 ((rowsF tm t).map (·.2)) 1 hc hc2 gr.ok ⟨by decide, by decide⟩ (by rw [List.length_map]; omega) (by rw [List.length_map]; omega)
  have e3 : fr (0 : Rat) = .tuple [.int 0, .int 1] := rfl
  rw [e3] at c1
  have l0 : (0 : Nat) ≤ 1000 := by decide
  have l2 : (2 : Nat) ≤ 1000 := by decide
  have l1 : (1 : Nat) ≤ 1000 := by decide
  have z0 : ∀ q : Rat, st0.at q = 0 := fun q => by unfold Pst.at st0; grind
  have e4 : qK fk (fastAt st0) = qK fk fun _ => 0 := rfl
  have e5 : qK fk (valAt st0 (nxT t (rowsF tm t))) = qK fk fun _ => 0 := qK_congr fun o _ => z0 _
  have e6 : fr (st0.at (nxT t (rowsF tm t))) = .tuple [.int 0, .int 1] := by rw [z0]; rfl
  have e7 : (st0.off.map (·.name)).map (PyData.str : Str → D) = [] := rfl
  unfold lEnv at hll
  rw [e4, e5, e6, e7] at hll
  have hsm : Sm 20 t := ht.sm
  have hlf : ∀ env : Env, env = [Slot.dat (.int c), .dat (folkD fk), .dat (.list (tm.map trD)), .dat (fr t), .no, .no, .no, .no, .no, .no, .no, .no, .no, .no, .no, .no, .no, .no, .no, .no, .no, .no] →
      lcGo (lcF T (.var 4) (.nm 4) (.so (.not_ (.call ls (.cons (.var 3) (.cons (.tup (.cons (.idx (.var 4) (.cst (.int 0))) (.cons (.cst (.int 1)) .nil))) .nil))))) [4]) (tm.map trD) env = some ((rowsF tm t).map trD, env) := fun env he => lcGo_filter tm fun r hr => by
    subst he
    have c3 := qi t r.1 (hsm.mono (by decide)) ((Sm.int (i := r.1) (n := 20) (by have := gt.hw r hr; omega) (by decide)).mono (by decide))
    rw [← fr_pair (a := r.1)] at c3
    clear qi qs c1 hll
    generalize tm.map trD = xs
    unfold trD
    by_cases hlt : t < ((r.1 : Int) : Rat)
    · rw [decide_eq_true hlt] at c3 ⊢
      walk_at "evs"
    · rw [decide_eq_false hlt] at c3 ⊢
      walk_at "evs"
  replace hlf := hlf _ rfl
  have hls : ∀ env : Env, env = [Slot.dat (.int c), .dat (folkD fk), .dat (.list (tm.map trD)), .dat (fr t), .no, .dat (.list ((rowsF tm t).map trD)), .no, .no, .no, .no, .no, .no, .no, .no, .no, .no, .no, .no, .no, .no, .no, .no] →
      lcGo (lcF T (.idx (.var 4) (.cst (.int 1))) (.nm 4) .no [4]) ((rowsF tm t).map trD) env = some ((rowsF tm t).map (fun r => someD r.2), env) := fun env he => lcGo_map _ fun r hr => by
    subst he
    clear qi qs c1 hll hlf
    generalize tm.map trD = xs
    generalize (rowsF tm t).map trD = ys
    unfold trD
    walk_at "evs"
  replace hls := hls _ rfl
  have e8 : (rowsF tm t).map (fun r : Trow => someD r.2) = ((rowsF tm t).map (·.2)).map someD := by rw [List.map_map]; rfl
  rw [e8] at hls
  have e9 : (placesF c fk tm t).map ownD = .tuple [.str "", fr ((runP c fk st0 (rowsF tm t)).at t)] :: fk.map (fun o => .tuple [.str o.name, fr (valAt (runP c fk st0 (rowsF tm t)) t o.name)]) := by
    unfold placesF
    rw [List.map_cons, List.map_map]; rfl
  generalize runP c fk st0 (rowsF tm t) = st at *
  generalize hrw : rowsF tm t = rows at *
  generalize runF c fk 0 (rows.map (·.2)) = X at *
  have hct := cut_from (rows.map trD) (j := 1) (by decide)
  have e10 : (1 : Int).toNat = 1 := rfl
  rw [e10, ← List.map_drop] at hct
  have hle' : ∀ env : Env, env = [Slot.dat (.int c), .dat (folkD fk), .dat (.list (tm.map trD)), .dat (fr t), .no, .dat (.list (rows.map trD)), .dat (.list (X.map rowD)), .no, .no, .no, .no, .no, .no, .no, .no, .no, .no, .no, .no, .no, .no, .no] →
      lcGo (lcF T (.tup (.cons (.idx (.var 4) (.cst (.int 0))) (.cons (.cst (.int 1)) .nil))) (.nm 4) .no [4]) ((rows.drop 1).map trD) env = some ((rows.drop 1).map (fun r => .tuple [.int r.1, .int 1]), env) := fun env he => lcGo_map _ fun r hr => by
    subst he
    clear qi qs c1 hll hlf hls hct
    generalize tm.map trD = xs
    generalize rows.map trD = ys
    generalize X.map rowD = zs
    unfold trD
    walk_at "evs"
  replace hle' := hle' _ rfl
  have hld : ∀ (s9 : Slot) (env : Env), env = [Slot.dat (.int c), .dat (folkD fk), .dat (.list (tm.map trD)), .dat (fr t), .no, .dat (.list (rows.map trD)), .dat (.list (X.map rowD)), .dat (.list (endsF t rows)), .no, s9, .no, .no, .no, .no, .no, .no, .no, .no, .no, .no, .no, .no] →
      lcGo (lcF T (.tup (.cons (.idx (.var 8) (.cst (.int 0))) (.cons (.tup (.cons (.cst (.int 0)) (.cons (.cst (.int 1)) .nil))) .nil))) (.nm 8) .no [8]) (fk.map oneD) env = some (fk.map (fun o => .tuple [.str o.name, .tuple [.int 0, .int 1]]), env) := fun s9 env he => lcGo_map _ fun o ho => by
    subst he
    clear qi qs c1 hll hlf hls hct hle'
    generalize folkD fk = fd
    unfold oneD
    walk_at "evs"
  replace hld := fun s9 => hld s9 _ rfl
  have hp := pairsD_map (kf := fun o : One => (.str o.name : D)) (vf := fun _ => .tuple [.int 0, .int 1]) fk fun o _ => dk_str
  have hb := bi_dict hp
  rw [mergeD_new _ [] (by rw [List.nil_append, List.map_map]; exact nodup_str nd), List.nil_append] at hb
  have e11 : (fk.map fun o => ((.str o.name : D), (.tuple [.int 0, .int 1] : D))) = qK fk fun _ => 0 := rfl
  rw [e11] at hb
  have hlr : ∀ env : Env, env = [Slot.dat (.int c), .dat (folkD fk), .dat (.list (tm.map trD)), .dat (fr t), .no, .dat (.list (rows.map trD)), .dat (.list (X.map rowD)), .dat (.list (endsF t rows)), .no, .own false (.d false (qK fk (fastAt st))), .own false (.d false (qK fk (valAt st t))), .no, .dat (fr (st.at t)), .dat (.list ((st.off.map (·.name)).map .str)), .no, .no, .no, .no, .no, .no, .no, .no] →
      lcGo (lcF T (.tup (.cons (.idx (.var 8) (.cst (.int 0))) (.cons (.idx (.var 10) (.idx (.var 8) (.cst (.int 0)))) .nil))) (.nm 8) .no [8]) (fk.map oneD) env = some (fk.map (fun o => .tuple [.str o.name, fr (valAt st t o.name)]), env) := fun env he => lcGo_map _ fun o ho => by
    subst he
    have hg := qK_get (f := valAt st t) nd (List.mem_map_of_mem (f := fun o : One => o.name) ho)
    have dk := @dk_str o.name
    clear qi qs c1 hll hlf hls hct hle' hld hb
    generalize qK fk (valAt st t) = kv at *
    generalize qK fk (fastAt st) = kf at *
    generalize folkD fk = fd
    unfold oneD
    walk_at "evs"
  replace hlr := hlr _ rfl
  have hz1 : ((rows.drop 1).map (fun r : Trow => (.tuple [.int r.1, .int 1] : D))).length + (0 + 1) ≤ sizeLine := by
    rw [List.length_map, List.length_drop]
    exact Nat.le_trans (show _ ≤ 10 by omega) (by decide)
  have hz2 : 0 + 1 + (fk.map (fun o => (.tuple [.str o.name, fr (valAt st t o.name)] : D))).length ≤ sizeLine := by
    rw [List.length_map]
    exact Nat.le_trans (show _ ≤ 10 by omega) (by decide)
  have nd3 : [11, 12, 13].Nodup := by decide
  rw [e9]
  clear qi qs e3 e4 e5 e6 e7 e8 e9 e10 e11 hp hsm ht gt gr z0 nd
  unfold endsF at *
  generalize tm.map trD = xs at *
  generalize rows.map trD = ys at *
  generalize (rows.drop 1).map (fun r : Trow => (.tuple [.int r.1, .int 1] : D)) = es at *
  generalize qK fk (valAt st t) = kv at *
  generalize qK fk (fastAt st) = kf at *
  generalize (qK fk fun _ => 0) = kz at *
  generalize (fk.map (fun o => (.tuple [.str o.name, fr (valAt st t o.name)] : D))) = us at *
  generalize (st.off.map (·.name)).map (PyData.str : Str → D) = ns at *
  unfold cb_lplaces
  unfold folkD leapsD at *
  walk_at "evs"
end Lc
namespace Lc
open PySem L2
def FU : Nat := 100000
-- printed by gen.py
def lp_lowest_1 : SL := (.cons (.par [2, 3] [false, false] (.cons (.var 3) (.cons (.bin .Mod (.var 2) (.var 3)) .nil))) .nil)
def bd_lowest : SL := (.cons (.par [2, 3] [false, false] (.cons (.blt .abs (.cons (.var 0) .nil)) (.cons (.var 1) .nil))) (.cons (.whl (.cmp .Gt (.var 3) (.cst (.int 0))) lp_lowest_1 []) (.cons (.ret (.tup (.cons (.bin .FloorDiv (.var 0) (.var 2)) (.cons (.bin .FloorDiv (.var 1) (.var 2)) .nil)))) .nil)))
def nm_lowest : List Str := ["top", "bottom", "one", "other"]
def md_lowest : List Bool := [false, false]
def bd_plus : SL := (.cons (.ret (.call "lowest" (.cons (.bin .Add (.bin .Mult (.idx (.var 0) (.cst (.int 0))) (.idx (.var 1) (.cst (.int 1)))) (.bin .Mult (.idx (.var 1) (.cst (.int 0))) (.idx (.var 0) (.cst (.int 1))))) (.cons (.bin .Mult (.idx (.var 0) (.cst (.int 1))) (.idx (.var 1) (.cst (.int 1)))) .nil)))) .nil)
def nm_plus : List Str := ["one", "other"]
def md_plus : List Bool := [false, false]
def bd_is_lesser : SL := (.cons (.ret (.cmp .Lt (.bin .Mult (.idx (.var 0) (.cst (.int 0))) (.idx (.var 1) (.cst (.int 1)))) (.bin .Mult (.idx (.var 1) (.cst (.int 0))) (.idx (.var 0) (.cst (.int 1)))))) .nil)
def nm_is_lesser : List Str := ["one", "other"]
def md_is_lesser : List Bool := [false, false]
def bd_heavy_of : SL := (.cons (.ret (.bin .Add (.var 0) (.blt .sum (.cons (.lc (.idx (.var 2) (.cst (.int 1))) (.nm 2) (.seq (.var 1)) .no [2]) .nil)))) .nil)
def nm_heavy_of : List Str := ["cart", "folk", "one"]
def md_heavy_of : List Bool := [false, false]
def bd_left_of : SL := (.cons (.ret (.blt .tuple (.cons (.lc (.var 2) (.nm 2) (.seq (.var 0)) (.so (.cmp .NotIn (.idx (.var 2) (.cst (.int 0))) (.var 1))) [2]) .nil))) .nil)
def nm_left_of : List Str := ["folk", "names", "one"]
def md_left_of : List Bool := [false, false]
def bd_pushed : SL := (.cons (.set 7 false (.dc (.var 4) (.bin .Mult (.var 5) (.var 6)) (.tp [4, 5, 6]) (.seq (.var 1)) [4, 5, 6])) (.cons (.set 9 false (.blt .sum (.cons (.lc (.bin .Mult (.idx (.var 7) (.var 4)) (.var 8)) (.tp [4, 8]) (.seq (.var 3)) .no [4, 8]) .nil))) (.cons (.ret (.call "plus" (.cons (.var 2) (.cons (.call "lowest" (.cons (.bin .Sub (.cst (.int 0)) (.var 9)) (.cons (.call "heavy_of" (.cons (.var 0) (.cons (.var 1) .nil))) .nil))) .nil)))) .nil)))
def nm_pushed : List Str := ["cart", "folk", "speed", "some", "name", "heavy", "leap", "known", "way", "push"]
def md_pushed : List Bool := [false, false, false, false]
def lp_steps_of_1 : SL := (.cons (.set 2 false (.call "pushed" (.cons (.var 0) (.cons (.var 1) (.cons (.var 2) (.cons (.var 5) .nil)))))) (.cons (.set 9 false (.dc (.var 6) (.var 8) (.tp [6, 7, 8]) (.seq (.var 1)) [6, 7, 8])) (.cons (.app 4 (.tup (.cons (.var 2) (.cons (.lc (.tup (.cons (.var 6) (.cons (.call "plus" (.cons (.var 2) (.cons (.tup (.cons (.bin .Mult (.idx (.var 9) (.var 6)) (.var 10)) (.cons (.cst (.int 1)) .nil))) .nil))) .nil))) (.tp [6, 10]) (.seq (.var 5)) .no [6, 10]) .nil)))) (.cons (.set 1 false (.call "left_of" (.cons (.var 1) (.cons (.lc (.var 6) (.tp [6, 10]) (.seq (.var 5)) .no [6, 10]) .nil)))) .nil))))
def bd_steps_of : SL := (.cons (.set 4 true (.lst .nil)) (.cons (.for_ (.nm 5) (.seq (.var 3)) lp_steps_of_1 [5, 9]) (.cons (.ret (.var 4)) .nil)))
def nm_steps_of : List Str := ["cart", "folk", "speed", "leaps", "found", "some", "name", "heavy", "leap", "known", "way"]
def md_steps_of : List Bool := [false, false, false, false]
def bd_moved : SL := (.cons (.set 3 false (.call "plus" (.cons (.var 2) (.cons (.tup (.cons (.bin .Sub (.cst (.int 0)) (.idx (.var 1) (.cst (.int 0)))) (.cons (.idx (.var 1) (.cst (.int 1))) .nil))) .nil)))) (.cons (.ret (.call "lowest" (.cons (.bin .Mult (.idx (.var 0) (.cst (.int 0))) (.idx (.var 3) (.cst (.int 0)))) (.cons (.bin .Mult (.idx (.var 0) (.cst (.int 1))) (.idx (.var 3) (.cst (.int 1)))) .nil)))) .nil))
def nm_moved : List Str := ["pace", "begin", "end", "long"]
def md_moved : List Bool := [false, false, false]
def lp_places_1 : SL := (.cons (.set 4 false (.call "plus" (.cons (.var 4) (.cons (.call "moved" (.cons (.var 6) (.cons (.var 5) (.cons (.tup (.cons (.var 10) (.cons (.cst (.int 1)) .nil))) .nil)))) .nil)))) (.cons (.unp (.tp [5, 6]) (.tup (.cons (.tup (.cons (.var 10) (.cons (.cst (.int 1)) .nil))) (.cons (.var 12) .nil)))) (.cons (.set 7 false (.bin .Add (.var 7) (.lc (.tup (.cons (.var 14) (.cons (.var 4) (.cons (.var 5) (.cons (.var 15) .nil))))) (.tp [14, 15]) (.seq (.var 13)) .no [14, 15]))) .nil)))
def bd_places : SL := (.cons (.unp (.tp [4, 5, 6]) (.tup (.cons (.tup (.cons (.cst (.int 0)) (.cons (.cst (.int 1)) .nil))) (.cons (.tup (.cons (.cst (.int 0)) (.cons (.cst (.int 1)) .nil))) (.cons (.tup (.cons (.cst (.int 0)) (.cons (.cst (.int 1)) .nil))) .nil))))) (.cons (.set 7 false (.lst .nil)) (.cons (.set 9 false (.lc (.var 8) (.nm 8) (.seq (.var 2)) (.so (.not_ (.call "is_lesser" (.cons (.var 3) (.cons (.tup (.cons (.idx (.var 8) (.cst (.int 0))) (.cons (.cst (.int 1)) .nil))) .nil))))) [8])) (.cons (.for_ (.pp 10 11 12 13) (.zip (.var 9) (.call "steps_of" (.cons (.var 0) (.cons (.var 1) (.cons (.var 6) (.cons (.lc (.idx (.var 8) (.cst (.int 1))) (.nm 8) (.seq (.var 9)) .no [8]) .nil)))))) lp_places_1 [10, 11, 12, 13]) (.cons (.set 4 false (.call "plus" (.cons (.var 4) (.cons (.call "moved" (.cons (.var 6) (.cons (.var 5) (.cons (.var 3) .nil)))) .nil)))) (.cons (.set 16 false (.lst (.cons (.tup (.cons (.cst (.str "")) (.cons (.var 4) .nil))) .nil))) (.cons (.set 18 false (.dc (.var 14) (.call "plus" (.cons (.var 17) (.cons (.call "moved" (.cons (.var 15) (.cons (.var 10) (.cons (.var 3) .nil)))) .nil))) (.tp [14, 17, 10, 15]) (.seq (.var 7)) [10, 14, 15, 17])) (.cons (.ret (.bin .Add (.var 16) (.lc (.tup (.cons (.idx (.var 19) (.cst (.int 0))) (.cons (.getD (.var 18) (.idx (.var 19) (.cst (.int 0))) (.var 4)) .nil))) (.nm 19) (.seq (.var 1)) .no [19]))) .nil))))))))
def nm_places : List Str := ["cart", "folk", "timed", "hour", "here", "since", "pace", "off", "row", "rows", "when", "some", "later", "own", "name", "fast", "found", "place", "known", "one"]
def md_places : List Bool := [false, false, false, false]
def bd__law_bag : SL := (.cons (.set 2 false (.cst (.int 0))) (.cons (.ite (.cmp .Lt (.var 1) (.blt .len (.cons (.var 0) .nil))) (.cons (.set 2 false (.blt .abs (.cons (.idx (.var 0) (.var 1)) .nil))) .nil) .nil) (.cons (.ite (.cmp .Lt (.var 2) (.bin .Pow (.cst (.int 10)) (.cst (.int 18)))) (.cons (.ret (.lst (.cons (.cst (.int 0)) (.cons (.bin .Add (.cst (.int 1)) (.bin .Mod (.bin .Add (.bin .Mult (.var 2) (.cst (.int 7919))) (.bin .Mult (.cst (.int 104729)) (.var 1))) (.cst (.int 2147483646)))) .nil)))) .nil) .nil) (.cons (.ret (.lst (.cons (.var 2) (.cons (.bin .Add (.cst (.int 1)) (.bin .Mod (.bin .Add (.var 2) (.var 1)) (.cst (.int 2147483646)))) .nil)))) .nil))))
def nm__law_bag : List Str := ["script", "k", "cell"]
def md__law_bag : List Bool := [false, false]
def bd__law_take : SL := (.cons (.ite (.cmp .Gt (.idx (.var 0) (.cst (.int 0))) (.cst (.int 0))) (.cons (.set 2 false (.bin .Mod (.idx (.var 0) (.cst (.int 0))) (.var 1))) (.cons (.sub 0 (.cst (.int 0)) (.bin .FloorDiv (.idx (.var 0) (.cst (.int 0))) (.var 1))) (.cons (.ret (.var 2)) .nil))) .nil) (.cons (.sub 0 (.cst (.int 1)) (.bin .Mod (.bin .Mult (.idx (.var 0) (.cst (.int 1))) (.cst (.int 48271))) (.cst (.int 2147483647)))) (.cons (.ret (.bin .Mod (.bin .FloorDiv (.bin .Mod (.bin .Mult (.idx (.var 0) (.cst (.int 1))) (.idx (.var 0) (.cst (.int 1)))) (.cst (.int 2147483629))) (.cst (.int 64))) (.var 1))) .nil)))
def nm__law_take : List Str := ["bag", "many", "found"]
def md__law_take : List Bool := [true, false]
def lp__law_lowest_1 : SL := (.cons (.par [2, 3] [false, false] (.cons (.var 3) (.cons (.bin .Mod (.var 2) (.var 3)) .nil))) .nil)
def bd__law_lowest : SL := (.cons (.par [2, 3] [false, false] (.cons (.blt .abs (.cons (.var 0) .nil)) (.cons (.var 1) .nil))) (.cons (.whl (.cmp .Gt (.var 3) (.cst (.int 0))) lp__law_lowest_1 []) (.cons (.ret (.tup (.cons (.bin .FloorDiv (.var 0) (.var 2)) (.cons (.bin .FloorDiv (.var 1) (.var 2)) .nil)))) .nil)))
def nm__law_lowest : List Str := ["top", "bottom", "one", "other"]
def md__law_lowest : List Bool := [false, false]
def bd__law_plus : SL := (.cons (.ret (.call "_law_lowest" (.cons (.bin .Add (.bin .Mult (.idx (.var 0) (.cst (.int 0))) (.idx (.var 1) (.cst (.int 1)))) (.bin .Mult (.idx (.var 1) (.cst (.int 0))) (.idx (.var 0) (.cst (.int 1))))) (.cons (.bin .Mult (.idx (.var 0) (.cst (.int 1))) (.idx (.var 1) (.cst (.int 1)))) .nil)))) .nil)
def nm__law_plus : List Str := ["one", "other"]
def md__law_plus : List Bool := [false, false]
def bd__law_times : SL := (.cons (.ret (.call "_law_lowest" (.cons (.bin .Mult (.idx (.var 0) (.cst (.int 0))) (.var 1)) (.cons (.idx (.var 0) (.cst (.int 1))) .nil)))) .nil)
def nm__law_times : List Str := ["part", "by"]
def md__law_times : List Bool := [false, false]
def bd__law_less : SL := (.cons (.ret (.cmp .Lt (.bin .Mult (.idx (.var 0) (.cst (.int 0))) (.idx (.var 1) (.cst (.int 1)))) (.bin .Mult (.idx (.var 1) (.cst (.int 0))) (.idx (.var 0) (.cst (.int 1)))))) .nil)
def nm__law_less : List Str := ["one", "other"]
def md__law_less : List Bool := [false, false]
def bd__law_cart : SL := (.cons (.ret (.bin .Add (.cst (.int 1)) (.call "_law_take" (.cons (.var 0) (.cons (.idx (.lst (.cons (.cst (.int 5)) (.cons (.cst (.int 60)) (.cons (.cst (.int 1000)) .nil)))) (.call "_law_take" (.cons (.var 0) (.cons (.cst (.int 3)) .nil)))) .nil))))) .nil)
def nm__law_cart : List Str := ["bag"]
def md__law_cart : List Bool := [true]
def lp__law_folk_1 : SL := (.cons (.set 6 false (.bin .Add (.cst (.int 1)) (.call "_law_take" (.cons (.var 0) (.cons (.idx (.lst (.cons (.cst (.int 5)) (.cons (.cst (.int 60)) (.cons (.cst (.int 200)) .nil)))) (.call "_law_take" (.cons (.var 0) (.cons (.cst (.int 3)) .nil)))) .nil))))) (.cons (.app 2 (.tup (.cons (.var 5) (.cons (.var 6) (.cons (.ite (.var 4) (.var 3) (.bin .Add (.cst (.int 1)) (.call "_law_take" (.cons (.var 0) (.cons (.idx (.lst (.cons (.cst (.int 5)) (.cons (.cst (.int 100)) .nil))) (.call "_law_take" (.cons (.var 0) (.cons (.cst (.int 2)) .nil)))) .nil))))) .nil))))) .nil))
def bd__law_folk : SL := (.cons (.set 2 true (.lst .nil)) (.cons (.set 3 false (.bin .Add (.cst (.int 1)) (.call "_law_take" (.cons (.var 0) (.cons (.idx (.lst (.cons (.cst (.int 4)) (.cons (.cst (.int 100)) .nil))) (.call "_law_take" (.cons (.var 0) (.cons (.cst (.int 2)) .nil)))) .nil))))) (.cons (.set 4 false (.cmp .Eq (.call "_law_take" (.cons (.var 0) (.cons (.cst (.int 3)) .nil))) (.cst (.int 0)))) (.cons (.for_ (.nm 5) (.seq (.sl (.lst (.cons (.cst (.str "ann")) (.cons (.cst (.str "bo")) (.cons (.cst (.str "cy")) (.cons (.cst (.str "dee")) (.cons (.cst (.str "eli")) (.cons (.cst (.str "fay")) (.cons (.cst (.str "gus")) .nil)))))))) .no (.so (.bin .Add (.cst (.int 1)) (.call "_law_take" (.cons (.var 0) (.cons (.var 1) .nil))))))) lp__law_folk_1 [5, 6]) (.cons (.ret (.blt .tuple (.cons (.var 2) .nil))) .nil)))))
def nm__law_folk : List Str := ["bag", "most", "found", "fast", "alike", "name", "heavy"]
def md__law_folk : List Bool := [true, false]
def lp__law_mixed_1 : SL := (.cons (.ins 2 (.call "_law_take" (.cons (.var 0) (.cons (.bin .Add (.blt .len (.cons (.var 2) .nil)) (.cst (.int 1))) .nil))) (.var 3)) .nil)
def bd__law_mixed : SL := (.cons (.set 2 true (.lst .nil)) (.cons (.for_ (.nm 3) (.seq (.var 1)) lp__law_mixed_1 [3]) (.cons (.ret (.var 2)) .nil)))
def nm__law_mixed : List Str := ["bag", "some", "found", "one"]
def md__law_mixed : List Bool := [true, false]
def lp__law_leaps_1 : SL := (.cons (.set 4 false (.bin .Add (.cst (.int 1)) (.call "_law_take" (.cons (.var 0) (.cons (.blt .min (.cons (.cst (.int 3)) (.cons (.blt .len (.cons (.var 3) .nil)) .nil))) .nil))))) (.cons (.set 6 false (.lc (.tup (.cons (.idx (.var 5) (.cst (.int 0))) (.cons (.bin .Sub (.cst (.int 1)) (.bin .Mult (.cst (.int 2)) (.call "_law_take" (.cons (.var 0) (.cons (.cst (.int 2)) .nil))))) .nil))) (.nm 5) (.seq (.sl (.var 3) .no (.so (.var 4)))) .no [5])) (.cons (.app 2 (.blt .tuple (.cons (.blt .sorted (.cons (.var 6) .nil)) .nil))) (.cons (.set 3 false (.sl (.var 3) (.so (.var 4)) .no)) .nil))))
def bd__law_leaps : SL := (.cons (.set 2 true (.lst .nil)) (.cons (.set 3 false (.sl (.call "_law_mixed" (.cons (.var 0) (.cons (.var 1) .nil))) .no (.so (.call "_law_take" (.cons (.var 0) (.cons (.bin .Add (.blt .len (.cons (.var 1) .nil)) (.cst (.int 1))) .nil)))))) (.cons (.whl (.cmp .NotEq (.var 3) (.lst .nil)) lp__law_leaps_1 [4, 6]) (.cons (.ret (.var 2)) .nil))))
def nm__law_leaps : List Str := ["bag", "folk", "found", "left", "many", "one", "some"]
def md__law_leaps : List Bool := [true, false]
def bd__law_left : SL := (.cons (.ret (.blt .tuple (.cons (.lc (.var 2) (.nm 2) (.seq (.var 0)) (.so (.cmp .NotIn (.idx (.var 2) (.cst (.int 0))) (.var 1))) [2]) .nil))) .nil)
def nm__law_left : List Str := ["folk", "names", "one"]
def md__law_left : List Bool := [false, false]
def bd__law_weight : SL := (.cons (.ret (.bin .Add (.var 0) (.blt .sum (.cons (.lc (.idx (.var 2) (.cst (.int 1))) (.nm 2) (.seq (.var 1)) .no [2]) .nil)))) .nil)
def nm__law_weight : List Str := ["cart", "folk", "one"]
def md__law_weight : List Bool := [false, false]
def lp__law_behind_1 : SL := (.cons (.set 6 false (.call "_law_plus" (.cons (.var 6) (.cons (.tup (.cons (.bin .Sub (.cst (.int 0)) (.bin .Mult (.bin .Mult (.idx (.idx (.var 5) (.var 7)) (.cst (.int 1))) (.idx (.idx (.var 5) (.var 7)) (.cst (.int 2)))) (.var 8))) (.cons (.cst (.int 1)) .nil))) .nil)))) .nil)
def bd__law_behind : SL := (.cons (.set 5 false (.blt .dict (.cons (.lc (.tup (.cons (.idx (.var 4) (.cst (.int 0))) (.cons (.var 4) .nil))) (.nm 4) (.seq (.var 1)) .no [4]) .nil))) (.cons (.set 6 false (.call "_law_times" (.cons (.var 2) (.cons (.call "_law_weight" (.cons (.var 0) (.cons (.var 1) .nil))) .nil)))) (.cons (.for_ (.tp [7, 8]) (.seq (.var 3)) lp__law_behind_1 [7, 8]) (.cons (.ret (.call "_law_lowest" (.cons (.idx (.var 6) (.cst (.int 0))) (.cons (.bin .Mult (.idx (.var 6) (.cst (.int 1))) (.call "_law_weight" (.cons (.var 0) (.cons (.var 1) .nil)))) .nil)))) .nil))))
def nm__law_behind : List Str := ["cart", "folk", "speed", "some", "one", "known", "whole", "name", "way"]
def md__law_behind : List Bool := [false, false, false, false]
def lp__law_run_2 : SL := (.cons (.set 10 false (.idx (.lc (.idx (.var 9) (.cst (.int 2))) (.nm 9) (.seq (.var 1)) (.so (.cmp .Eq (.idx (.var 9) (.cst (.int 0))) (.var 7))) [9]) (.cst (.int 0)))) (.cons (.app 6 (.tup (.cons (.var 7) (.cons (.call "_law_plus" (.cons (.var 2) (.cons (.tup (.cons (.bin .Mult (.var 10) (.var 8)) (.cons (.cst (.int 1)) .nil))) .nil))) .nil)))) .nil))
def lp__law_run_1 : SL := (.cons (.set 2 false (.call "_law_behind" (.cons (.var 0) (.cons (.var 1) (.cons (.var 2) (.cons (.var 5) .nil)))))) (.cons (.set 6 true (.lst .nil)) (.cons (.for_ (.tp [7, 8]) (.seq (.var 5)) lp__law_run_2 [7, 8, 10]) (.cons (.app 4 (.tup (.cons (.var 2) (.cons (.var 6) .nil)))) (.cons (.set 1 false (.call "_law_left" (.cons (.var 1) (.cons (.lc (.var 7) (.tp [7, 8]) (.seq (.var 5)) .no [7, 8]) .nil)))) .nil)))))
def bd__law_run : SL := (.cons (.set 4 true (.lst .nil)) (.cons (.for_ (.nm 5) (.seq (.var 3)) lp__law_run_1 [5, 6, 7, 8, 10]) (.cons (.ret (.var 4)) .nil)))
def nm__law_run : List Str := ["cart", "folk", "speed", "leaps", "found", "some", "own", "name", "way", "one", "fast"]
def md__law_run : List Bool := [false, false, false, false]
def lp__law_timed_1 : SL := (.cons (.sub 2 (.call "_law_take" (.cons (.var 0) (.cons (.idx (.lst (.cons (.cst (.int 9)) (.cons (.cst (.int 60)) (.cons (.cst (.int 1001)) .nil)))) (.call "_law_take" (.cons (.var 0) (.cons (.cst (.int 3)) .nil)))) .nil))) (.cst (.bool true))) .nil)
def bd__law_timed : SL := (.cons (.set 2 true .dnew) (.cons (.set 3 false (.call "_law_leaps" (.cons (.var 0) (.cons (.var 1) .nil)))) (.cons (.for_ (.nm 4) (.seq (.var 3)) lp__law_timed_1 [4]) (.cons (.set 5 false (.blt .sorted (.cons (.var 2) .nil))) (.cons (.ret (.lzip (.var 5) (.sl (.var 3) .no (.so (.blt .len (.cons (.var 5) .nil)))))) .nil)))))
def nm__law_timed : List Str := ["bag", "folk", "hours", "leaps", "some", "rows"]
def md__law_timed : List Bool := [true, false]
def lp__law_places_3 : SL := (.cons (.sub 9 (.var 17) (.var 19)) .nil)
def lp__law_places_2 : SL := (.cons (.set 21 false (.ite (.cmp .In (.idx (.var 8) (.cst (.int 0))) (.var 13)) (.idx (.var 9) (.idx (.var 8) (.cst (.int 0)))) (.var 11))) (.cons (.sub 10 (.idx (.var 8) (.cst (.int 0))) (.call "_law_plus" (.cons (.idx (.var 10) (.idx (.var 8) (.cst (.int 0)))) (.cons (.call "_law_lowest" (.cons (.bin .Mult (.idx (.var 21) (.cst (.int 0))) (.idx (.var 20) (.cst (.int 0)))) (.cons (.bin .Mult (.idx (.var 21) (.cst (.int 1))) (.idx (.var 20) (.cst (.int 1)))) .nil))) .nil)))) .nil))
def lp__law_places_1 : SL := (.cons (.set 11 false (.idx (.idx (.var 6) (.var 14)) (.cst (.int 0)))) (.cons (.set 13 false (.bin .Add (.var 13) (.lc (.var 17) (.tp [17, 18]) (.seq (.var 16)) .no [17, 18]))) (.cons (.for_ (.tp [17, 19]) (.seq (.idx (.idx (.var 6) (.var 14)) (.cst (.int 1)))) lp__law_places_3 [17, 19]) (.cons (.set 20 false (.call "_law_plus" (.cons (.idx (.var 7) (.var 14)) (.cons (.tup (.cons (.bin .Sub (.cst (.int 0)) (.var 15)) (.cons (.cst (.int 1)) .nil))) .nil)))) (.cons (.set 12 false (.call "_law_plus" (.cons (.var 12) (.cons (.call "_law_lowest" (.cons (.bin .Mult (.idx (.var 11) (.cst (.int 0))) (.idx (.var 20) (.cst (.int 0)))) (.cons (.bin .Mult (.idx (.var 11) (.cst (.int 1))) (.idx (.var 20) (.cst (.int 1)))) .nil))) .nil)))) (.cons (.for_ (.nm 8) (.seq (.var 1)) lp__law_places_2 [8, 21]) .nil))))))
def bd__law_places : SL := (.cons (.set 5 false (.lc (.var 4) (.nm 4) (.seq (.var 2)) (.so (.not_ (.call "_law_less" (.cons (.var 3) (.cons (.tup (.cons (.idx (.var 4) (.cst (.int 0))) (.cons (.cst (.int 1)) .nil))) .nil))))) [4])) (.cons (.set 6 false (.call "_law_run" (.cons (.var 0) (.cons (.var 1) (.cons (.tup (.cons (.cst (.int 0)) (.cons (.cst (.int 1)) .nil))) (.cons (.lc (.idx (.var 4) (.cst (.int 1))) (.nm 4) (.seq (.var 5)) .no [4]) .nil)))))) (.cons (.set 7 false (.bin .Add (.lc (.tup (.cons (.idx (.var 4) (.cst (.int 0))) (.cons (.cst (.int 1)) .nil))) (.nm 4) (.seq (.sl (.var 5) (.so (.cst (.int 1))) .no)) .no [4]) (.lst (.cons (.var 3) .nil)))) (.cons (.set 9 true (.blt .dict (.cons (.lc (.tup (.cons (.idx (.var 8) (.cst (.int 0))) (.cons (.tup (.cons (.cst (.int 0)) (.cons (.cst (.int 1)) .nil))) .nil))) (.nm 8) (.seq (.var 1)) .no [8]) .nil))) (.cons (.set 10 true (.blt .dict (.cons (.lc (.tup (.cons (.idx (.var 8) (.cst (.int 0))) (.cons (.tup (.cons (.cst (.int 0)) (.cons (.cst (.int 1)) .nil))) .nil))) (.nm 8) (.seq (.var 1)) .no [8]) .nil))) (.cons (.par [11, 12, 13] [false, false, false] (.cons (.tup (.cons (.cst (.int 0)) (.cons (.cst (.int 1)) .nil))) (.cons (.tup (.cons (.cst (.int 0)) (.cons (.cst (.int 1)) .nil))) (.cons (.lst .nil) .nil)))) (.cons (.for_ (.np 14 15 16) (.enum (.var 5)) lp__law_places_1 [14, 15, 16, 11, 17, 19, 20, 8, 21]) (.cons (.ret (.bin .Add (.lst (.cons (.tup (.cons (.cst (.str "")) (.cons (.var 12) .nil))) .nil)) (.lc (.tup (.cons (.idx (.var 8) (.cst (.int 0))) (.cons (.idx (.var 10) (.idx (.var 8) (.cst (.int 0)))) .nil))) (.nm 8) (.seq (.var 1)) .no [8]))) .nil))))))))
def nm__law_places : List Str := ["cart", "folk", "timed", "hour", "row", "rows", "run", "ends", "one", "fast", "at", "pace", "here", "off", "nth", "when", "some", "name", "way", "part", "long", "own"]
def md__law_places : List Bool := [false, false, false, false]
def lp_law_3 : SL := (.cons (.set 10 false (.call "_law_plus" (.cons (.var 10) (.cons (.call "_law_times" (.cons (.idx (.var 7) (.cst (.int 1))) (.cons (.idx (.var 11) (.cst (.int 1))) .nil))) .nil)))) .nil)
def lp_law_2 : SL := (.cons (.set 9 true (.call "places" (.cons (.var 3) (.cons (.var 4) (.cons (.var 5) (.cons (.var 8) .nil)))))) (.cons (.ite (.cmp .NotEq (.var 9) (.call "_law_places" (.cons (.var 3) (.cons (.var 4) (.cons (.var 5) (.cons (.var 8) .nil)))))) (.cons (.ret (.cst (.bool false))) .nil) .nil) (.cons (.set 10 false (.call "_law_times" (.cons (.idx (.idx (.var 9) (.cst (.int 0))) (.cst (.int 1))) (.cons (.var 3) .nil)))) (.cons (.for_ (.tp [11, 7]) (.zip (.var 4) (.sl (.var 9) (.so (.cst (.int 1))) .no)) lp_law_3 [11, 7]) (.cons (.ite (.cmp .NotEq (.var 10) (.tup (.cons (.cst (.int 0)) (.cons (.cst (.int 1)) .nil)))) (.cons (.ret (.cst (.bool false))) .nil) .nil) (.cons (.app 9 (.cst (.str "more"))) (.cons (.ite (.cmp .NotEq (.call "places" (.cons (.var 3) (.cons (.var 4) (.cons (.var 5) (.cons (.var 8) .nil))))) (.sl (.var 9) .no (.so (.neg (.cst (.int 1)))))) (.cons (.ret (.cst (.bool false))) .nil) .nil) .nil)))))))
def lp_law_1 : SL := (.cons (.set 2 true (.call "_law_bag" (.cons (.var 0) (.cons (.var 1) .nil)))) (.cons (.par [3, 4] [false, false] (.cons (.call "_law_cart" (.cons (.var 2) .nil)) (.cons (.call "_law_folk" (.cons (.var 2) (.cons (.cst (.int 7)) .nil))) .nil))) (.cons (.set 5 false (.call "_law_timed" (.cons (.var 2) (.cons (.var 4) .nil)))) (.cons (.set 6 false (.lst (.cons (.tup (.cons (.cst (.int 0)) (.cons (.cst (.int 1)) .nil))) (.cons (.tup (.cons (.cst (.int 2000)) (.cons (.cst (.int 1)) .nil))) (.cons (.call "_law_lowest" (.cons (.call "_law_take" (.cons (.var 2) (.cons (.cst (.int 400)) .nil))) (.cons (.bin .Add (.cst (.int 1)) (.call "_law_take" (.cons (.var 2) (.cons (.cst (.int 5)) .nil)))) .nil))) .nil))))) (.cons (.for_ (.nm 8) (.seq (.bin .Add (.var 6) (.lc (.tup (.cons (.idx (.var 7) (.cst (.int 0))) (.cons (.cst (.int 1)) .nil))) (.nm 7) (.seq (.sl (.var 5) .no (.so (.cst (.int 3))))) .no [7]))) lp_law_2 [8, 9, 10, 11, 7]) .nil)))))
def bd_law : SL := (.cons (.for_ (.nm 1) (.rng (.bin .Add (.cst (.int 1)) (.blt .min (.cons (.blt .len (.cons (.var 0) .nil)) (.cons (.cst (.int 15)) .nil))))) lp_law_1 [1, 2, 3, 4, 5, 6, 8, 9, 10, 11, 7]) (.cons (.ret (.cst (.bool true))) .nil))
def nm_law : List Str := ["script", "k", "bag", "cart", "folk", "timed", "some", "row", "hour", "told", "total", "one"]
def md_law : List Bool := [false]
def df_lowest : Df := ⟨"lowest", nm_lowest, md_lowest, bd_lowest, FU⟩
def df_plus : Df := ⟨"plus", nm_plus, md_plus, bd_plus, FU⟩
def df_is_lesser : Df := ⟨"is_lesser", nm_is_lesser, md_is_lesser, bd_is_lesser, FU⟩
def df_heavy_of : Df := ⟨"heavy_of", nm_heavy_of, md_heavy_of, bd_heavy_of, FU⟩
def df_left_of : Df := ⟨"left_of", nm_left_of, md_left_of, bd_left_of, FU⟩
def df_pushed : Df := ⟨"pushed", nm_pushed, md_pushed, bd_pushed, FU⟩
def df_steps_of : Df := ⟨"steps_of", nm_steps_of, md_steps_of, bd_steps_of, FU⟩
def df_moved : Df := ⟨"moved", nm_moved, md_moved, bd_moved, FU⟩
def df_places : Df := ⟨"places", nm_places, md_places, bd_places, FU⟩
def df__law_bag : Df := ⟨"_law_bag", nm__law_bag, md__law_bag, bd__law_bag, FU⟩
def df__law_take : Df := ⟨"_law_take", nm__law_take, md__law_take, bd__law_take, FU⟩
def df__law_lowest : Df := ⟨"_law_lowest", nm__law_lowest, md__law_lowest, bd__law_lowest, FU⟩
def df__law_plus : Df := ⟨"_law_plus", nm__law_plus, md__law_plus, bd__law_plus, FU⟩
def df__law_times : Df := ⟨"_law_times", nm__law_times, md__law_times, bd__law_times, FU⟩
def df__law_less : Df := ⟨"_law_less", nm__law_less, md__law_less, bd__law_less, FU⟩
def df__law_cart : Df := ⟨"_law_cart", nm__law_cart, md__law_cart, bd__law_cart, FU⟩
def df__law_folk : Df := ⟨"_law_folk", nm__law_folk, md__law_folk, bd__law_folk, FU⟩
def df__law_mixed : Df := ⟨"_law_mixed", nm__law_mixed, md__law_mixed, bd__law_mixed, FU⟩
def df__law_leaps : Df := ⟨"_law_leaps", nm__law_leaps, md__law_leaps, bd__law_leaps, FU⟩
def df__law_left : Df := ⟨"_law_left", nm__law_left, md__law_left, bd__law_left, FU⟩
def df__law_weight : Df := ⟨"_law_weight", nm__law_weight, md__law_weight, bd__law_weight, FU⟩
def df__law_behind : Df := ⟨"_law_behind", nm__law_behind, md__law_behind, bd__law_behind, FU⟩
def df__law_run : Df := ⟨"_law_run", nm__law_run, md__law_run, bd__law_run, FU⟩
def df__law_timed : Df := ⟨"_law_timed", nm__law_timed, md__law_timed, bd__law_timed, FU⟩
def df__law_places : Df := ⟨"_law_places", nm__law_places, md__law_places, bd__law_places, FU⟩
def df_law : Df := ⟨"law", nm_law, md_law, bd_law, FU⟩
def dfs : List Df := [df_law, df__law_places, df__law_timed, df__law_run, df__law_behind, df__law_weight, df__law_left, df__law_leaps, df__law_mixed, df__law_folk, df__law_cart, df__law_less, df__law_times, df__law_plus, df__law_lowest, df__law_take, df__law_bag, df_places, df_moved, df_steps_of, df_pushed, df_left_of, df_heavy_of, df_is_lesser, df_plus, df_lowest]
def csts : Str → Option D := fun _ => none
end Lc
/-! The law k03. -/
namespace Lc
open PySem L2
local macro_rules | `(tactic| walk_at "evs") => `(tactic| simp only [rdS_dat, rdS_own, rdS_scr, loS_dat, loS_own, loS_scr, ob_l, ob_d, look_dat, look_new, look_slot, lookD_dat, lookD_new, lookD_slot, obd, b2_some, fst_eq, ev_var, ev_cst, datE_eq, ev_glo, kBin2_eq, kBin1_eq, ev_bin, kNeg_eq, ev_neg, nots_eq, truR_dat, truR_slot, truth_b, kNot_eq, ev_not, blE_eq, kCmp2_eq, kCmp1_eq, cmpB_d, cmpB_in, cmpB_ni, kDcE_eq, kDc_eq, ev_dc, dcF5_eq, dcF4_eq, dcF3_eq, dcF2_eq, dcF1_eq, dcF_eq, ev_dnew, gtO_eq, kGt3_eq, kGt2_eq, kGt1_eq, kGt_eq, isDic_k, ev_getD, kL2e_eq, kL2_eq, ev_lc2, l2F3_eq, l2F2_eq, l2F1_eq, l2F_eq, ix_k, dk_str, dk_int, ev_cmp, kCh4_eq, kCh3_true, kCh3_false, kCh2_eq, kCh1_eq, ev_chain, kIte2_true, kIte2_false, kIte_eq, ev_ite, ev_and, ev_or, kTru_eq, evAnd_one, evOr_one, kAnd2_true, kAnd2_false, kAnd_eq, evAnd_cons, kOr2_true, kOr2_false, kOr_eq, evOr_cons, consE_eq, kL_eq, evL_nil, evL_cons, frz_dat, frz_new, fzS_dat, fzS_own, frz_slot, kF2_eq, kF_eq, frzL_nil, frzL_cons, kTup2_eq, kTup_eq, ev_tup, kLst2_eq, kLst_eq, ev_lst, ixOb_eq, kIx2_eq, kIx_eq, ev_idx, kO_eq, evO_no, evO_so, kSl3_eq, kSl2_eq, kSl_eq, ev_sl, kRev_eq, ev_rev, kC4_dat, kC4_new, kC3_eq, kC2_eq, kC_eq, ev_callE, kP_eq, kPs_eq, kPf_eq, pass_nil, pass_dat, pass_new, pass_newT, psS_scr, psS_dat, psS_own, pass_slotF, ptS_own, ptS_own0, pass_slotT, noS_nil, noS_dat, noS_new, noS_slot, back_nil, back_f, back_new, bkS_own, back_t, kOb2_eq, kOb_eq, lookL_nil, lookL_cons, kB2_eq, kB_eq, ev_blt, isiE_eq, kIs_eq, ev_isi, kLcE_eq, kLc_eq, ev_lc, lcGo_nil, kGoE_some, kGoE_none, kGo_eq, lcGo_cons, evC_no, evC_so, lcF4_eq, lcF3_eq, lcF2_true, lcF2_false, lcF1_eq, lcF_eq, kSq2_eq, kSq1_eq, kSq_eq, evSrc_seq, rngE_eq, kRg_eq, evSrc_rng, enumE_eq, kEn_eq, evSrc_enum, kZ4_l, kZ4_m, kZ4_t, kY4_eq, kY3_eq, kY2_eq, kY1_eq, ev_lzip, kNp_eq, asg_npE, kZ3_eq, kZ2_eq, kZ1_eq, evSrc_zip, setE_eq, kSet_eq, ex_set, datS_eq, nrm_t, nrm_fd, nrm_fl, nrm_fk, nrm_fs, kN2_eq, kN_eq, nrmL_nil, nrmL_cons, putL_nil, putL_cons, nxE_eq, kPr2_eq, kPr_eq, ex_par, kU2_eq, kU_eq, ex_unp, asg_nm, asg_tp, kPp_eq, asg_ppE, asgN_nil, asgN_cons, kSb2_eq, kSb1_eq, kSb_eq, ex_sub, kAp_eq, ex_app, kIn3_eq, kIn2_eq, kIn_eq, ex_ins, exE_eq, ex_expr, rtE_eq, ex_ret, kIf2_true, kIf2_false, kIf_eq, ex_ite, kFo2_eq, kFo_eq, ex_for, ex_whl, forGo_nil, kFg_nx, kFg_rt, kXs_nx, kXs_rt, exL_nil, exL_cons, kRun2_eq, kRun_nx, kRun_rt, run_eq, fin_dat, fin_new, finS_dat, finS_own, fin_slot, outs_nil, outs_cons, par_dat, par_own, par_scr, par_no, freeS_eq, frS_eq, ownS_eq, owS_own, ownL_eq, olS_own, wip_nil, wip_cons, unwip_nil, unwip_cons, wkS_no, wkS_dat, wipOk_eq, lkS_own, lkS_dat, lkS_scr, lockS_slot, lockS_dat, lockS_new, lock_none, lock_some, unlock_none, unlock_some, seqOf_l, seqOf_t, kSb3_S, sbS_0, sbS_1, sbS_d, kAp2_S, apS_l, kIn4_S, inS_l, stG_eq, kWp_eq, whC_eq, kWh_nx, kWh_rt, kW1_t, kW1_f, bo_add, bo_sub, bo_mul, bo_fd, bo_mod, bo_cat, bo_catT, bo_cats, co_lt, co_le, co_gt, co_ge, co_isN, co_isnotN, bi_abs, bi_lenL, bi_lenT, bi_lenS, bi_lenR, bi_min, bi_tupL, bi_tupT, bi_lstL, bi_lstT, ix_l, ix_t, ix_r, atI_n0, atI_n1, atI_n2, atI_n3, sl_l, sl_t, isN_n, isN_t, isN_l, isN_i, isN_b, isN_s, ne_tt, ne_tf, ne_ft, ne_ff, List.getElem?_cons_zero, List.getElem?_cons_succ, List.set_cons_zero, List.set_cons_succ, List.cons_append, List.nil_append, List.replicate_succ, List.replicate_zero, List.getD_cons_zero, List.getD_cons_succ, Option.bind_some, Option.map_some, Option.bind_none, Option.map_none, Bool.not_true, Bool.not_false, Bool.and_true, Bool.true_and, Bool.and_false, Bool.false_and, and_self, and_true, true_and, decide_true, decide_false, if_true, if_false, Bool.false_eq_true, List.all_cons, List.all_nil, List.length_cons, List.length_nil, List.map_cons, List.map_nil, *])
structure T03 (T : Tab) : Prop where
  places : Fn T "places" f4 PlacesΦ
  lplaces : Fn T "_law_places" f4 PlacesΦ
  timed : Fn T "_law_timed" [true, false] TimedΦ
  folk : Fn T "_law_folk" [true, false] FolkΦ
  cart : Fn T "_law_cart" [true] CartΦ
  times : Fn T "_law_times" ff TimesΦ
  plus : Fn T "_law_plus" ff PlusΦ
  low : Fn T "_law_lowest" ff LowΦ
  take : Fn T "_law_take" [true, false] TakeΦ
  bag : Fn T "_law_bag" ff BagΦ
/-- the sum of weights times places -/
theorem tot_loop {T : Tab} {fu : Nat} (t : T03 T) {f : Str → Rat} {Dn : Int} {s0 s1 s2 s3 s4 s5 s6 s8 s9 : Slot} (hD : 0 < Dn) (hD2 : Dn.natAbs < 2 ^ 140) (hf : ∀ n, Cd Dn 300 (f n)) : ∀ (fk : List One) (q : Rat) (m : Nat), (∀ o ∈ fk, Mild o) → Cd Dn m q → 314 ≤ m → m + fk.length ≤ 500 →
    forGo (stF T fu (.tp [11, 7]) [11, 7] lp_law_3) (zipD (fk.map oneD) (fk.map fun o => ownD (o.name, f o.name))) [s0, s1, s2, s3, s4, s5, s6, .no, s8, s9, .dat (fr q), .no] = some (.nx, [s0, s1, s2, s3, s4, s5, s6, .no, s8, s9, .dat (fr (q + (fk.map fun o => f o.name * ((o.heavy : Int) : Rat)).sum)), .no])
  | [], q, m, _, _, _, _ => by
    have : q + (([] : List One).map fun o => f o.name * ((o.heavy : Int) : Rat)).sum = q := by simp; grind
    rw [this]; rfl
  | o :: fk, q, m, gd, hq, hm, hm2 => by
    simp only [List.length_cons] at hm2
    have md := gd o List.mem_cons_self
    have hX : Cd Dn 314 (f o.name * ((o.heavy : Int) : Rat)) := (hf o.name).mulI (m := 14) (by have := md.h1; have := md.h2; omega)
    have hq2 := hq.add (hX.mono hm)
    have sm : ∀ {x : Rat} {k : Nat}, Cd Dn k x → k ≤ 500 → Sm 500 x := fun h hk => (h.mono hk).sm hD (Nat.lt_of_lt_of_le hD2 (Nat.pow_le_pow_right (by decide) (by decide)))
    have ih := tot_loop (fu := fu) t (s0 := s0) (s1 := s1) (s2 := s2) (s3 := s3) (s4 := s4) (s5 := s5) (s6 := s6) (s8 := s8) (s9 := s9) hD hD2 hf fk _ (m + 1) (fun x hx => gd x (List.mem_cons_of_mem _ hx)) hq2 (by omega) (by omega)
    have e : q + f o.name * ((o.heavy : Int) : Rat) + (fk.map fun o => f o.name * ((o.heavy : Int) : Rat)).sum = q + ((o :: fk).map fun o => f o.name * ((o.heavy : Int) : Rat)).sum := by
      rw [List.map_cons, List.sum_cons]; grind
    rw [e] at ih
    rw [List.map_cons, List.map_cons, zipD, forGo_cons]
    have hst : stF T fu (.tp [11, 7]) [11, 7] lp_law_3 (.tuple [oneD o, ownD (o.name, f o.name)]) [s0, s1, s2, s3, s4, s5, s6, .no, s8, s9, .dat (fr q), .no] = some (.nx, [s0, s1, s2, s3, s4, s5, s6, .no, s8, s9, .dat (fr (q + f o.name * ((o.heavy : Int) : Rat))), .no]) := by
      obtain ⟨fp, tp, pp⟩ := t.plus
      obtain ⟨ft, tt, pt⟩ := t.times
      have c1 := pt (f o.name) o.heavy ((sm (hf o.name) (by decide)).mono (by decide)) md.okH
      have c2 := pp q _ ((sm hq (by omega)).mono (by decide)) ((sm hX (by decide)).mono (by decide))
      clear pp pt ih e hq2 hX hq hf gd sm t md
      generalize f o.name = fo at *
      rw [stF_eq]
      unfold lp_law_3 oneD ownD
      walk_at "evs"
    rw [hst, Option.bind_some, kFg_nx, ih]
abbrev hEnv (ns : List Int) (k : Nat) (g : Bag) (c : Int) (fk : List One) (tm : List Trow) (s6 : Slot) : Env := [.scr ns, .dat (.int k), .own false g.c, .dat (.int c), .dat (folkD fk), .dat (.list (tm.map trD)), s6, .no, .no, .no, .no, .no]
theorem hour_step {T : Tab} {fu : Nat} (t : T03 T) {ns : List Int} {k : Nat} {g : Bag} {c : Int} {fk : List One} {tm : List Trow} {s6 : Slot} {u : Rat} (hc : 1 ≤ c) (hc2 : c ≤ 1000) (gt : GoodTimed fk tm) (hu : Hr u) :
    stF T fu (.nm 8) [8, 9, 10, 11, 7] lp_law_2 (fr u) (hEnv ns k g c fk tm s6) = some (.nx, hEnv ns k g c fk tm s6) := by
  obtain ⟨fa, ta, pa⟩ := t.places
  obtain ⟨fb, tb, pb⟩ := t.lplaces
  obtain ⟨ft, tt, pt⟩ := t.times
  have c1 := pa c fk tm u hc (by omega) gt hu
  have c2 := pb c fk tm u hc (by omega) gt hu
  have gr := gt.rows u
  have hle := gr.len
  have hlk := gt.ok.le
  obtain ⟨Dn, szE⟩ := sz_run hc (by omega) (rowsF tm u) fk st0 0 1 gr.ok gr.hw sz0
  have hnm := run_names (c := c) (rowsF tm u) fk st0
  have hmd := mid_run (c := c) (fk := fk) hc (by omega) gt.ok.nd u (rowsF tm u) st0 (by
    have : leftO fk (st0.off.map (·.name)) = fk := by
      show leftO fk [] = fk
      unfold leftO
      simp [List.filter_eq_self.mpr]
    rw [this]; exact gr.ok)
  have e0 : leftO fk (st0.off.map (·.name)) = fk := by
    show leftO fk [] = fk
    unfold leftO
    simp [List.filter_eq_self.mpr]
  rw [e0, mid_zero] at hmd
  have hdn := szE.den hu
  have hdn2 : (Dn * u.den).natAbs < 2 ^ 140 := Nat.lt_of_lt_of_le hdn.2 (Nat.pow_le_pow_right (by decide) (by omega))
  have hpl : (placesF c fk tm u).map ownD = ownD ("", (runP c fk st0 (rowsF tm u)).at u) :: fk.map (fun o => ownD (o.name, valAt (runP c fk st0 (rowsF tm u)) u o.name)) := by
    unfold placesF
    rw [List.map_cons, List.map_map]; rfl
  generalize runP c fk st0 (rowsF tm u) = st at *
  have hmv := mid_val (c := c) (fk := fk) (st := st) u gt.ok.nd (by rw [hnm]; exact gr.ok.ndl) (fun n hn => by
    rw [hnm] at hn
    have hn2 : n ∈ ((rowsF tm u).map (·.2)).flatten.map (·.1) := by simpa [st0] using hn
    obtain ⟨p, hp, rfl⟩ := List.mem_map.mp hn2
    obtain ⟨s, hs, hps⟩ := List.mem_flatten.mp hp
    exact gr.ok.mem s hs p hps)
  rw [hmd] at hmv
  have hA := (szE.atT hu).mono (m := 300) (by omega)
  have hA2 : Cd (Dn * u.den) 314 (st.at u * ((c : Int) : Rat)) := hA.mulI (m := 14) (by omega)
  have sA : Sm 500 (st.at u) := szE.smT (by omega) hu hA (by decide)
  have c3 := pt (st.at u) c (sA.mono (by decide)) (okI_64 (by omega) (by omega))
  have htl := tot_loop (fu := fu) t (f := valAt st u) (s0 := .scr ns) (s1 := .dat (.int k)) (s2 := .own false g.c) (s3 := .dat (.int c)) (s4 := .dat (folkD fk)) (s5 := .dat (.list (tm.map trD))) (s6 := s6) (s8 := .dat (fr u)) (s9 := .own false (.l ((placesF c fk tm u).map ownD))) hdn.1 hdn2 (fun n => (szE.valT hu n).mono (by omega)) fk _ 314 gt.ok.gd hA2 (by decide) (by omega)
  rw [hmv] at htl
  have n1 : cmpop .NotEq (.list ((placesF c fk tm u).map ownD)) (.list ((placesF c fk tm u).map ownD)) = some false := co_ne_same fun x hx => by
    obtain ⟨r, _, rfl⟩ := List.mem_map.mp hx
    exact own_plain _
  have n4 := @co_ne_fr 0 0
  rw [decide_eq_true rfl] at n4
  have m1 := @cut_last ((placesF c fk tm u).map ownD) (.str "more")
  have hlp : ((placesF c fk tm u).map ownD).length < sizeLine := by
    rw [hpl, List.length_cons, List.length_map]
    exact Nat.lt_of_le_of_lt (show _ ≤ 8 by omega) (by decide)
  have hct := cut_from ((placesF c fk tm u).map ownD) (j := 1) (by decide)
  have e1 : ((placesF c fk tm u).map ownD).drop (1 : Int).toNat = fk.map (fun o => ownD (o.name, valAt st u o.name)) := by rw [hpl]; rfl
  rw [e1] at hct
  have hat : L2.atI ((placesF c fk tm u).map ownD) 0 = some (.tuple [.str "", fr (st.at u)]) := by
    rw [hpl]; exact atI_n0
  have e2 : fr (0 : Rat) = .tuple [.int 0, .int 1] := rfl
  rw [e2] at htl n4
  have l2 : (2 : Nat) ≤ 1000 := by decide
  have hg0 : (.int 0 : D) = .int 0 := rfl
  clear pa pb pt gr hmd hmv hA hA2 sA hdn hdn2 szE hnm gt hu t e0 e1 e2 hpl hg0
  generalize (placesF c fk tm u).map ownD = P at *
  generalize fk.map (fun o => ownD (o.name, valAt st u o.name)) = Q at *
  generalize st.at u * ((c : Int) : Rat) = z at *
  rw [stF_eq]
  unfold hEnv lp_law_2
  unfold folkD at *
  walk_at "evs"
theorem hr_div {a b : Int} (ha : 0 ≤ a) (ha2 : a ≤ 2000) (hb : 0 < b) (hb2 : b ≤ 6) : Hr (Rat.divInt a b) := by
  refine ⟨?_, ?_, ?_⟩
  · rw [Rat.num_divInt, Int.sign_eq_one_of_pos hb, Int.one_mul]
    exact Int.ediv_nonneg ha (by omega)
  · rw [Rat.num_divInt, Int.sign_eq_one_of_pos hb, Int.one_mul]
    exact Int.le_trans (Int.ediv_le_self _ ha) ha2
  · rw [Rat.den_divInt, if_neg (by omega)]
    exact Nat.le_trans (Nat.div_le_self _ _) (by omega)
abbrev env1 (ns : List Int) : Env := [.scr ns, .no, .no, .no, .no, .no, .no, .no, .no, .no, .no, .no]
theorem cell_step {T : Tab} {fu : Nat} (t : T03 T) {ns : List Int} {k : Nat} (hk : k < 1000) :
    stF T fu (.nm 1) [1, 2, 3, 4, 5, 6, 8, 9, 10, 11, 7] lp_law_1 (.int (Int.ofNat k)) (env1 ns) = some (.nx, env1 ns) := by
  have hh := @hour_step T fu t
  obtain ⟨fb, tb, pb⟩ := t.bag
  obtain ⟨fc, tc, pc⟩ := t.cart
  obtain ⟨fo, tfo, pf⟩ := t.folk
  obtain ⟨fl, tl, pl⟩ := t.timed
  obtain ⟨ft, tt, pt⟩ := t.take
  obtain ⟨fw, tw, pw⟩ := t.low
  obtain ⟨g, c1⟩ := pb ns k hk
  obtain ⟨c, g1, hc, hc2, c2⟩ := pc g
  obtain ⟨fk, g2, gf, _, c3⟩ := pf g1 7 (by decide) (by decide)
  obtain ⟨tm, g3, gt, c4⟩ := pl g2 fk gf
  have k400 : okI 400 = true := by decide +kernel
  have k5 : okI 5 = true := by decide +kernel
  have c5 := pt g3 400 (by decide) k400
  have b1 := tkV_lt g3 (m := 400) (by decide)
  have b2 := tkV_nonneg g3 (m := 400) (by decide)
  generalize tkV g3 400 = a1 at *
  generalize tkB g3 400 = g4 at *
  have c6 := pt g4 5 (by decide) k5
  have b3 := tkV_lt g4 (m := 5) (by decide)
  have b4 := tkV_nonneg g4 (m := 5) (by decide)
  generalize tkV g4 5 = a2 at *
  generalize tkB g4 5 = g5 at *
  have c7 := pw a1 (1 + a2) (by omega) (okI_64 (by omega) (by omega))
  have hr := hr_div (a := a1) (b := 1 + a2) (by omega) (by omega) (by omega) (by omega)
  generalize Rat.divInt a1 (1 + a2) = v at *
  have hct := cut_to (tm.map trD) (j := 3) (by decide)
  have e3 : (3 : Int).toNat = 3 := rfl
  rw [e3, ← List.map_take] at hct
  have hgo : ∀ s6, forGo (stF T fu (.nm 8) [8, 9, 10, 11, 7] lp_law_2) ([.tuple [.int 0, .int 1], .tuple [.int 2000, .int 1], fr v] ++ (tm.take 3).map (fun r => .tuple [.int r.1, .int 1])) (hEnv ns k g5 c fk tm s6) = some (.nx, hEnv ns k g5 c fk tm s6) := fun s6 => by
    refine forGo_same _ fun x hx => ?_
    rcases List.mem_append.mp hx with e | e
    · simp only [List.mem_cons, List.not_mem_nil, or_false] at e
      rcases e with e | e | e
      · subst e
        rw [fr_pair]
        exact hh hc hc2 gt (Hr.int (by decide) (by decide))
      · subst e
        rw [fr_pair]
        exact hh hc hc2 gt ⟨by decide, by decide, by decide⟩
      · subst e
        exact hh hc hc2 gt hr
    · obtain ⟨r, hr2, rfl⟩ := List.mem_map.mp e
      have := gt.hw r (List.mem_of_mem_take hr2)
      rw [fr_pair]
      exact hh hc hc2 gt (Hr.int this.1 this.2)
  have hlh : ∀ (s6 : Slot) (env : Env), env = hEnv ns k g5 c fk tm s6 →
      lcGo (lcF T (.tup (.cons (.idx (.var 7) (.cst (.int 0))) (.cons (.cst (.int 1)) .nil))) (.nm 7) .no [7]) ((tm.take 3).map trD) env = some ((tm.take 3).map (fun r => .tuple [.int r.1, .int 1]), env) := fun s6 env he => lcGo_map _ fun r hr => by
    subst he
    have l2 : (2 : Nat) ≤ 1000 := by decide
    clear c1 c2 c3 c4 c5 c6 c7 hgo hct pb pc pf pl pt pw hh
    unfold hEnv
    generalize tm.map trD = xs
    unfold trD
    walk_at "evs"
  replace hlh := fun s6 => hlh s6 _ rfl
  have hz : 0 + 1 + 1 + 1 + ((tm.take 3).map (fun r : Trow => (.tuple [.int r.1, .int 1] : D))).length ≤ sizeLine := by
    rw [List.length_map, List.length_take]
    exact Nat.le_trans (show _ ≤ 6 by omega) (by decide)
  clear pb pc pf pl pt pw hh gt gf hr t
  have e7 : ((7 : Nat) : Int) = 7 := rfl
  rw [e7] at c3
  have nd34 : [3, 4].Nodup := by decide
  have l2 : (2 : Nat) ≤ 1000 := by decide
  have l3 : (3 : Nat) ≤ 1000 := by decide
  have ek : (Int.ofNat k) = (k : Int) := rfl
  unfold hEnv at hgo hlh
  simp only [List.cons_append, List.nil_append] at hgo
  rw [ek, stF_eq]
  clear ek
  generalize (tm.take 3).map trD = ys at *
  generalize tm.map trD = xs at *
  generalize (tm.take 3).map (fun r : Trow => (.tuple [.int r.1, .int 1] : D)) = zs at *
  unfold env1 lp_law_1
  unfold folkD at *
  walk_at "evs"
theorem law_run {T : Tab} {fu : Nat} (t : T03 T) (ns : List Int) : run T fu 11 bd_law [.scr ns] = some (.dat (.bool true), [.scr ns]) := by
  have hn : 0 ≤ 1 + (if (15 : Int) < ns.length then 15 else (ns.length : Int)) ∧ 1 + (if (15 : Int) < ns.length then 15 else (ns.length : Int)) ≤ 1000000 := by split <;> omega
  have hs : 1 + (if (15 : Int) < ns.length then 15 else (ns.length : Int)) ≤ 21 := by split <;> omega
  generalize hm : 1 + (if (15 : Int) < ns.length then 15 else (ns.length : Int)) = m at hn hs
  have hgo : forGo (stF T fu (.nm 1) [1, 2, 3, 4, 5, 6, 8, 9, 10, 11, 7] lp_law_1) ((List.range m.toNat).map fun k => .int (Int.ofNat k)) (env1 ns) = some (.nx, env1 ns) := by
    refine forGo_same _ fun x hx => ?_
    obtain ⟨k, hk, rfl⟩ := List.mem_map.mp hx
    have := List.mem_range.mp hk
    exact cell_step t (by omega)
  clear hs
  unfold bd_law
  walk_at "evs"
/-! ### the table -/
abbrev tb (i : Nat) : Tab := tabOf csts (dfs.drop i)
theorem dfs_nd : (dfs.map (·.x)).Nodup := by decide +kernel
theorem f_low (j : Nat) (hj : j ≤ 25) : Fn (tb j) "lowest" ff LowΦ := fn_at' dfs_nd j 25 df_lowest hj rfl (low_ok (by decide))
theorem f_plus (j : Nat) (hj : j ≤ 24) : Fn (tb j) "plus" ff PlusΦ := fn_at' dfs_nd j 24 df_plus hj rfl (plus_ok (f_low 25 (by decide)))
theorem f_lesser (j : Nat) (hj : j ≤ 23) : Fn (tb j) "is_lesser" ff LessΦ := fn_at' dfs_nd j 23 df_is_lesser hj rfl less_ok
theorem f_heavy (j : Nat) (hj : j ≤ 22) : Fn (tb j) "heavy_of" ff WeightΦ := fn_at' dfs_nd j 22 df_heavy_of hj rfl weight_ok
theorem f_left (j : Nat) (hj : j ≤ 21) : Fn (tb j) "left_of" ff LeftΦ := fn_at' dfs_nd j 21 df_left_of hj rfl left_ok
theorem f_pushed (j : Nat) (hj : j ≤ 20) : Fn (tb j) "pushed" f4 PushedΦ := fn_at' dfs_nd j 20 df_pushed hj rfl (pushed_ok (f_plus 21 (by decide)) (f_low 21 (by decide)) (f_heavy 21 (by decide)))
theorem f_steps (j : Nat) (hj : j ≤ 19) : Fn (tb j) "steps_of" f4 StepsΦ := fn_at' dfs_nd j 19 df_steps_of hj rfl (steps_ok (f_pushed 20 (by decide)) (f_plus 20 (by decide)) (f_left 20 (by decide)))
theorem f_moved (j : Nat) (hj : j ≤ 18) : Fn (tb j) "moved" f3 MovedΦ := fn_at' dfs_nd j 18 df_moved hj rfl (moved_ok (f_plus 19 (by decide)) (f_low 19 (by decide)))
theorem f_places (j : Nat) (hj : j ≤ 17) : Fn (tb j) "places" f4 PlacesΦ := fn_at' dfs_nd j 17 df_places hj rfl (places_ok (f_lesser 18 (by decide)) (f_steps 18 (by decide)) (f_plus 18 (by decide)) (f_moved 18 (by decide)))
theorem f_bag (j : Nat) (hj : j ≤ 16) : Fn (tb j) "_law_bag" ff BagΦ := fn_at' dfs_nd j 16 df__law_bag hj rfl bag_ok
theorem f_take (j : Nat) (hj : j ≤ 15) : Fn (tb j) "_law_take" [true, false] TakeΦ := fn_at' dfs_nd j 15 df__law_take hj rfl take_ok
theorem f_llow (j : Nat) (hj : j ≤ 14) : Fn (tb j) "_law_lowest" ff LowΦ := fn_at' dfs_nd j 14 df__law_lowest hj rfl (low_ok (by decide))
theorem f_lplus (j : Nat) (hj : j ≤ 13) : Fn (tb j) "_law_plus" ff PlusΦ := fn_at' dfs_nd j 13 df__law_plus hj rfl (plus_ok (f_llow 14 (by decide)))
theorem f_ltimes (j : Nat) (hj : j ≤ 12) : Fn (tb j) "_law_times" ff TimesΦ := fn_at' dfs_nd j 12 df__law_times hj rfl (times_ok (f_llow 13 (by decide)))
theorem f_lless (j : Nat) (hj : j ≤ 11) : Fn (tb j) "_law_less" ff LessΦ := fn_at' dfs_nd j 11 df__law_less hj rfl less_ok
theorem f_cart (j : Nat) (hj : j ≤ 10) : Fn (tb j) "_law_cart" [true] CartΦ := fn_at' dfs_nd j 10 df__law_cart hj rfl (cart_ok (f_take 11 (by decide)))
theorem f_folk (j : Nat) (hj : j ≤ 9) : Fn (tb j) "_law_folk" [true, false] FolkΦ := fn_at' dfs_nd j 9 df__law_folk hj rfl (folk_ok (f_take 10 (by decide)))
theorem f_mixed (j : Nat) (hj : j ≤ 8) : Fn (tb j) "_law_mixed" [true, false] MixedΦ := fn_at' dfs_nd j 8 df__law_mixed hj rfl (mixed_ok (f_take 9 (by decide)))
theorem f_leaps (j : Nat) (hj : j ≤ 7) : Fn (tb j) "_law_leaps" [true, false] LeapsΦ := fn_at' dfs_nd j 7 df__law_leaps hj rfl (leaps_ok (by decide) (f_mixed 8 (by decide)) (f_take 8 (by decide)))
theorem f_lleft (j : Nat) (hj : j ≤ 6) : Fn (tb j) "_law_left" ff LeftΦ := fn_at' dfs_nd j 6 df__law_left hj rfl left_ok
theorem f_lweight (j : Nat) (hj : j ≤ 5) : Fn (tb j) "_law_weight" ff WeightΦ := fn_at' dfs_nd j 5 df__law_weight hj rfl weight_ok
theorem f_behind (j : Nat) (hj : j ≤ 4) : Fn (tb j) "_law_behind" f4 BehindΦ := fn_at' dfs_nd j 4 df__law_behind hj rfl (behind_ok (f_ltimes 5 (by decide)) (f_lweight 5 (by decide)) (f_llow 5 (by decide)) (f_lplus 5 (by decide)))
theorem f_run (j : Nat) (hj : j ≤ 3) : Fn (tb j) "_law_run" f4 RunΦ := fn_at' dfs_nd j 3 df__law_run hj rfl (run_ok (f_behind 4 (by decide)) (f_lleft 4 (by decide)) (f_lplus 4 (by decide)))
theorem f_timed (j : Nat) (hj : j ≤ 2) : Fn (tb j) "_law_timed" [true, false] TimedΦ := fn_at' dfs_nd j 2 df__law_timed hj rfl (timed_ok (f_leaps 3 (by decide)) (f_take 3 (by decide)))
theorem f_lplaces (j : Nat) (hj : j ≤ 1) : Fn (tb j) "_law_places" f4 PlacesΦ := fn_at' dfs_nd j 1 df__law_places hj rfl (lplaces_ok (f_lless 2 (by decide)) (f_run 2 (by decide)) (f_lplus 2 (by decide)) (f_llow 2 (by decide)))
theorem law_true (ns : List Int) (h : ns.length ≤ 63) : ∃ os, (df_law.fs (tabOf csts dfs.tail)).fn [.scr ns] = some (.dat (.bool true), os) :=
  ⟨_, law_run (T := tb 1) ⟨f_places 1 (by decide), f_lplaces 1 (by decide), f_timed 1 (by decide), f_folk 1 (by decide), f_cart 1 (by decide), f_ltimes 1 (by decide), f_lplus 1 (by decide), f_llow 1 (by decide), f_take 1 (by decide), f_bag 1 (by decide)⟩ ns⟩
end Lc
namespace Lc
open PySem PySem.Spec PyProof.Rows L2
def tp (i : Nat) : Stmt := PySem.Challenge.pw_leapcart_k03_whole_the_common_middle_sta.main.body.getD i (.Pass ⟨0, 0, 0, 0⟩)
theorem sc_lowest : FnScope nm_lowest (nm_lowest.take md_lowest.length) (defScope (tp 1)) := ⟨rfl, rfl, rfl, by decide +kernel, rfl, by decide +kernel, by decide +kernel⟩
theorem ck_lowest : ckSL nm_lowest bd_lowest (defBody (tp 1)) (defScope (tp 1)) = true := by decide +kernel
def dd_lowest : He.DefD := ⟨("lowest", none), "lowest", "lowest", defArgs (tp 1), defBody (tp 1), defScope (tp 1), [], []⟩
theorem sc_plus : FnScope nm_plus (nm_plus.take md_plus.length) (defScope (tp 2)) := ⟨rfl, rfl, rfl, by decide +kernel, rfl, by decide +kernel, by decide +kernel⟩
theorem ck_plus : ckSL nm_plus bd_plus (defBody (tp 2)) (defScope (tp 2)) = true := by decide +kernel
def dd_plus : He.DefD := ⟨("plus", none), "plus", "plus", defArgs (tp 2), defBody (tp 2), defScope (tp 2), [], []⟩
theorem sc_is_lesser : FnScope nm_is_lesser (nm_is_lesser.take md_is_lesser.length) (defScope (tp 3)) := ⟨rfl, rfl, rfl, by decide +kernel, rfl, by decide +kernel, by decide +kernel⟩
theorem ck_is_lesser : ckSL nm_is_lesser bd_is_lesser (defBody (tp 3)) (defScope (tp 3)) = true := by decide +kernel
def dd_is_lesser : He.DefD := ⟨("is_lesser", none), "is_lesser", "is_lesser", defArgs (tp 3), defBody (tp 3), defScope (tp 3), [], []⟩
theorem sc_heavy_of : FnScope nm_heavy_of (nm_heavy_of.take md_heavy_of.length) (defScope (tp 4)) := ⟨rfl, rfl, rfl, by decide +kernel, rfl, by decide +kernel, by decide +kernel⟩
theorem ck_heavy_of : ckSL nm_heavy_of bd_heavy_of (defBody (tp 4)) (defScope (tp 4)) = true := by decide +kernel
def dd_heavy_of : He.DefD := ⟨("heavy_of", none), "heavy_of", "heavy_of", defArgs (tp 4), defBody (tp 4), defScope (tp 4), [], []⟩
theorem sc_left_of : FnScope nm_left_of (nm_left_of.take md_left_of.length) (defScope (tp 5)) := ⟨rfl, rfl, rfl, by decide +kernel, rfl, by decide +kernel, by decide +kernel⟩
theorem ck_left_of : ckSL nm_left_of bd_left_of (defBody (tp 5)) (defScope (tp 5)) = true := by decide +kernel
def dd_left_of : He.DefD := ⟨("left_of", none), "left_of", "left_of", defArgs (tp 5), defBody (tp 5), defScope (tp 5), [], []⟩
theorem sc_pushed : FnScope nm_pushed (nm_pushed.take md_pushed.length) (defScope (tp 6)) := ⟨rfl, rfl, rfl, by decide +kernel, rfl, by decide +kernel, by decide +kernel⟩
theorem ck_pushed : ckSL nm_pushed bd_pushed (defBody (tp 6)) (defScope (tp 6)) = true := by decide +kernel
def dd_pushed : He.DefD := ⟨("pushed", none), "pushed", "pushed", defArgs (tp 6), defBody (tp 6), defScope (tp 6), [], []⟩
theorem sc_steps_of : FnScope nm_steps_of (nm_steps_of.take md_steps_of.length) (defScope (tp 7)) := ⟨rfl, rfl, rfl, by decide +kernel, rfl, by decide +kernel, by decide +kernel⟩
theorem ck_steps_of : ckSL nm_steps_of bd_steps_of (defBody (tp 7)) (defScope (tp 7)) = true := by decide +kernel
def dd_steps_of : He.DefD := ⟨("steps_of", none), "steps_of", "steps_of", defArgs (tp 7), defBody (tp 7), defScope (tp 7), [], []⟩
theorem sc_moved : FnScope nm_moved (nm_moved.take md_moved.length) (defScope (tp 8)) := ⟨rfl, rfl, rfl, by decide +kernel, rfl, by decide +kernel, by decide +kernel⟩
theorem ck_moved : ckSL nm_moved bd_moved (defBody (tp 8)) (defScope (tp 8)) = true := by decide +kernel
def dd_moved : He.DefD := ⟨("moved", none), "moved", "moved", defArgs (tp 8), defBody (tp 8), defScope (tp 8), [], []⟩
theorem sc_places : FnScope nm_places (nm_places.take md_places.length) (defScope (tp 9)) := ⟨rfl, rfl, rfl, by decide +kernel, rfl, by decide +kernel, by decide +kernel⟩
theorem ck_places : ckSL nm_places bd_places (defBody (tp 9)) (defScope (tp 9)) = true := by decide +kernel
def dd_places : He.DefD := ⟨("places", none), "places", "places", defArgs (tp 9), defBody (tp 9), defScope (tp 9), [], []⟩
theorem sc__law_bag : FnScope nm__law_bag (nm__law_bag.take md__law_bag.length) (defScope (tp 11)) := ⟨rfl, rfl, rfl, by decide +kernel, rfl, by decide +kernel, by decide +kernel⟩
theorem ck__law_bag : ckSL nm__law_bag bd__law_bag (defBody (tp 11)) (defScope (tp 11)) = true := by decide +kernel
def dd__law_bag : He.DefD := ⟨("_law_bag", none), "_law_bag", "_law_bag", defArgs (tp 11), defBody (tp 11), defScope (tp 11), [], []⟩
theorem sc__law_take : FnScope nm__law_take (nm__law_take.take md__law_take.length) (defScope (tp 12)) := ⟨rfl, rfl, rfl, by decide +kernel, rfl, by decide +kernel, by decide +kernel⟩
theorem ck__law_take : ckSL nm__law_take bd__law_take (defBody (tp 12)) (defScope (tp 12)) = true := by decide +kernel
def dd__law_take : He.DefD := ⟨("_law_take", none), "_law_take", "_law_take", defArgs (tp 12), defBody (tp 12), defScope (tp 12), [], []⟩
theorem sc__law_lowest : FnScope nm__law_lowest (nm__law_lowest.take md__law_lowest.length) (defScope (tp 13)) := ⟨rfl, rfl, rfl, by decide +kernel, rfl, by decide +kernel, by decide +kernel⟩
theorem ck__law_lowest : ckSL nm__law_lowest bd__law_lowest (defBody (tp 13)) (defScope (tp 13)) = true := by decide +kernel
def dd__law_lowest : He.DefD := ⟨("_law_lowest", none), "_law_lowest", "_law_lowest", defArgs (tp 13), defBody (tp 13), defScope (tp 13), [], []⟩
theorem sc__law_plus : FnScope nm__law_plus (nm__law_plus.take md__law_plus.length) (defScope (tp 14)) := ⟨rfl, rfl, rfl, by decide +kernel, rfl, by decide +kernel, by decide +kernel⟩
theorem ck__law_plus : ckSL nm__law_plus bd__law_plus (defBody (tp 14)) (defScope (tp 14)) = true := by decide +kernel
def dd__law_plus : He.DefD := ⟨("_law_plus", none), "_law_plus", "_law_plus", defArgs (tp 14), defBody (tp 14), defScope (tp 14), [], []⟩
theorem sc__law_times : FnScope nm__law_times (nm__law_times.take md__law_times.length) (defScope (tp 15)) := ⟨rfl, rfl, rfl, by decide +kernel, rfl, by decide +kernel, by decide +kernel⟩
theorem ck__law_times : ckSL nm__law_times bd__law_times (defBody (tp 15)) (defScope (tp 15)) = true := by decide +kernel
def dd__law_times : He.DefD := ⟨("_law_times", none), "_law_times", "_law_times", defArgs (tp 15), defBody (tp 15), defScope (tp 15), [], []⟩
theorem sc__law_less : FnScope nm__law_less (nm__law_less.take md__law_less.length) (defScope (tp 16)) := ⟨rfl, rfl, rfl, by decide +kernel, rfl, by decide +kernel, by decide +kernel⟩
theorem ck__law_less : ckSL nm__law_less bd__law_less (defBody (tp 16)) (defScope (tp 16)) = true := by decide +kernel
def dd__law_less : He.DefD := ⟨("_law_less", none), "_law_less", "_law_less", defArgs (tp 16), defBody (tp 16), defScope (tp 16), [], []⟩
theorem sc__law_cart : FnScope nm__law_cart (nm__law_cart.take md__law_cart.length) (defScope (tp 17)) := ⟨rfl, rfl, rfl, by decide +kernel, rfl, by decide +kernel, by decide +kernel⟩
theorem ck__law_cart : ckSL nm__law_cart bd__law_cart (defBody (tp 17)) (defScope (tp 17)) = true := by decide +kernel
def dd__law_cart : He.DefD := ⟨("_law_cart", none), "_law_cart", "_law_cart", defArgs (tp 17), defBody (tp 17), defScope (tp 17), [], []⟩
theorem sc__law_folk : FnScope nm__law_folk (nm__law_folk.take md__law_folk.length) (defScope (tp 18)) := ⟨rfl, rfl, rfl, by decide +kernel, rfl, by decide +kernel, by decide +kernel⟩
theorem ck__law_folk : ckSL nm__law_folk bd__law_folk (defBody (tp 18)) (defScope (tp 18)) = true := by decide +kernel
def dd__law_folk : He.DefD := ⟨("_law_folk", none), "_law_folk", "_law_folk", defArgs (tp 18), defBody (tp 18), defScope (tp 18), [], []⟩
theorem sc__law_mixed : FnScope nm__law_mixed (nm__law_mixed.take md__law_mixed.length) (defScope (tp 19)) := ⟨rfl, rfl, rfl, by decide +kernel, rfl, by decide +kernel, by decide +kernel⟩
theorem ck__law_mixed : ckSL nm__law_mixed bd__law_mixed (defBody (tp 19)) (defScope (tp 19)) = true := by decide +kernel
def dd__law_mixed : He.DefD := ⟨("_law_mixed", none), "_law_mixed", "_law_mixed", defArgs (tp 19), defBody (tp 19), defScope (tp 19), [], []⟩
theorem sc__law_leaps : FnScope nm__law_leaps (nm__law_leaps.take md__law_leaps.length) (defScope (tp 20)) := ⟨rfl, rfl, rfl, by decide +kernel, rfl, by decide +kernel, by decide +kernel⟩
theorem ck__law_leaps : ckSL nm__law_leaps bd__law_leaps (defBody (tp 20)) (defScope (tp 20)) = true := by decide +kernel
def dd__law_leaps : He.DefD := ⟨("_law_leaps", none), "_law_leaps", "_law_leaps", defArgs (tp 20), defBody (tp 20), defScope (tp 20), [], []⟩
theorem sc__law_left : FnScope nm__law_left (nm__law_left.take md__law_left.length) (defScope (tp 21)) := ⟨rfl, rfl, rfl, by decide +kernel, rfl, by decide +kernel, by decide +kernel⟩
theorem ck__law_left : ckSL nm__law_left bd__law_left (defBody (tp 21)) (defScope (tp 21)) = true := by decide +kernel
def dd__law_left : He.DefD := ⟨("_law_left", none), "_law_left", "_law_left", defArgs (tp 21), defBody (tp 21), defScope (tp 21), [], []⟩
theorem sc__law_weight : FnScope nm__law_weight (nm__law_weight.take md__law_weight.length) (defScope (tp 22)) := ⟨rfl, rfl, rfl, by decide +kernel, rfl, by decide +kernel, by decide +kernel⟩
theorem ck__law_weight : ckSL nm__law_weight bd__law_weight (defBody (tp 22)) (defScope (tp 22)) = true := by decide +kernel
def dd__law_weight : He.DefD := ⟨("_law_weight", none), "_law_weight", "_law_weight", defArgs (tp 22), defBody (tp 22), defScope (tp 22), [], []⟩
theorem sc__law_behind : FnScope nm__law_behind (nm__law_behind.take md__law_behind.length) (defScope (tp 23)) := ⟨rfl, rfl, rfl, by decide +kernel, rfl, by decide +kernel, by decide +kernel⟩
theorem ck__law_behind : ckSL nm__law_behind bd__law_behind (defBody (tp 23)) (defScope (tp 23)) = true := by decide +kernel
def dd__law_behind : He.DefD := ⟨("_law_behind", none), "_law_behind", "_law_behind", defArgs (tp 23), defBody (tp 23), defScope (tp 23), [], []⟩
theorem sc__law_run : FnScope nm__law_run (nm__law_run.take md__law_run.length) (defScope (tp 24)) := ⟨rfl, rfl, rfl, by decide +kernel, rfl, by decide +kernel, by decide +kernel⟩
theorem ck__law_run : ckSL nm__law_run bd__law_run (defBody (tp 24)) (defScope (tp 24)) = true := by decide +kernel
def dd__law_run : He.DefD := ⟨("_law_run", none), "_law_run", "_law_run", defArgs (tp 24), defBody (tp 24), defScope (tp 24), [], []⟩
theorem sc__law_timed : FnScope nm__law_timed (nm__law_timed.take md__law_timed.length) (defScope (tp 25)) := ⟨rfl, rfl, rfl, by decide +kernel, rfl, by decide +kernel, by decide +kernel⟩
theorem ck__law_timed : ckSL nm__law_timed bd__law_timed (defBody (tp 25)) (defScope (tp 25)) = true := by decide +kernel
def dd__law_timed : He.DefD := ⟨("_law_timed", none), "_law_timed", "_law_timed", defArgs (tp 25), defBody (tp 25), defScope (tp 25), [], []⟩
theorem sc__law_places : FnScope nm__law_places (nm__law_places.take md__law_places.length) (defScope (tp 26)) := ⟨rfl, rfl, rfl, by decide +kernel, rfl, by decide +kernel, by decide +kernel⟩
theorem ck__law_places : ckSL nm__law_places bd__law_places (defBody (tp 26)) (defScope (tp 26)) = true := by decide +kernel
def dd__law_places : He.DefD := ⟨("_law_places", none), "_law_places", "_law_places", defArgs (tp 26), defBody (tp 26), defScope (tp 26), [], []⟩
theorem sc_law : FnScope nm_law (nm_law.take md_law.length) (defScope (tp 27)) := ⟨rfl, rfl, rfl, by decide +kernel, rfl, by decide +kernel, by decide +kernel⟩
theorem ck_law : ckSL nm_law bd_law (defBody (tp 27)) (defScope (tp 27)) = true := by decide +kernel
def dd_law : He.DefD := ⟨("law", none), "law", "law", defArgs (tp 27), defBody (tp 27), defScope (tp 27), [], []⟩
def hfn : List He.DefD := [dd_lowest, dd_plus, dd_is_lesser, dd_heavy_of, dd_left_of, dd_pushed, dd_steps_of, dd_moved, dd_places, dd__law_bag, dd__law_take, dd__law_lowest, dd__law_plus, dd__law_times, dd__law_less, dd__law_cart, dd__law_folk, dd__law_mixed, dd__law_leaps, dd__law_left, dd__law_weight, dd__law_behind, dd__law_run, dd__law_timed, dd__law_places, dd_law]
def hfa : List He.Fa := [.glo "lowest", .glo "plus", .glo "is_lesser", .glo "heavy_of", .glo "left_of", .glo "pushed", .glo "steps_of", .glo "moved", .glo "places", .glo "_law_bag", .glo "_law_take", .glo "_law_lowest", .glo "_law_plus", .glo "_law_times", .glo "_law_less", .glo "_law_cart", .glo "_law_folk", .glo "_law_mixed", .glo "_law_leaps", .glo "_law_left", .glo "_law_weight", .glo "_law_behind", .glo "_law_run", .glo "_law_timed", .glo "_law_places", .glo "law", .free "abs", .free "len", .free "min", .free "sum", .free "all", .free "tuple", .free "list", .free "str", .free "set", .free "sorted", .free "isinstance", .free "range", .free "enumerate", .free "zip", .free "int", .free "bool", .free "dict"]
abbrev hR : PySem.W.OpenRow := PySem.W.OpenLaw.row PySem.Challenge.rw_leapcart_k03_whole_the_common_middle_sta
abbrev hk : PySem.W.Hook := He.hookD 4 hfa hfn
def hob (s : PySem.W.SharedT) : He.AlD := He.obsDG 4 hfa hfn (HandSHeadRun.getT s)
theorem hob_eq (s : PySem.W.SharedT) : hob s = hk.obs s.abs := He.obsDG_eq (HandSHeadRun.getT_eq s)
def hloose : List PySem.Str := ["lowest", "plus", "is_lesser", "heavy_of", "left_of", "pushed", "steps_of", "moved", "places", "_law_bag", "_law_take", "_law_lowest", "_law_plus", "_law_times", "_law_less", "_law_cart", "_law_folk", "_law_mixed", "_law_leaps", "_law_left", "_law_weight", "_law_behind", "_law_run", "_law_timed", "_law_places"]
theorem hrun (w : World) : HandSHeadRun.RunEq hR (PySem.W.view hR.prog [27]) hk hob 900 hloose w := by
  intro os
  kernel_rfl
section
variable {P : Program} {w : World} {K : PySem.W.Frag} {h : Heap} {mg : Str → Option Value}
theorem dk_lowest (X : K.In h) (G : h.Ns mainGlobals mg) (c : He.SaysD hfa hfn K) : DfOk df_lowest K mg := by
  obtain ⟨fd, F⟩ := c.def_ 0 (d := dd_lowest) rfl
  have b : Binds K fd (nm_lowest.take md_lowest.length) [] := FunD.bindsN F fun _ _ _ _ _ _ us hl => match us, hl with | [_, _], _ => rfl
  exact ⟨tp 1, _, fd, F, He.glo_ok X G (c.fact 0 (f := .glo "lowest") rfl), sc_lowest, ck_lowest, rfl, b⟩
theorem dk_plus (X : K.In h) (G : h.Ns mainGlobals mg) (c : He.SaysD hfa hfn K) : DfOk df_plus K mg := by
  obtain ⟨fd, F⟩ := c.def_ 1 (d := dd_plus) rfl
  have b : Binds K fd (nm_plus.take md_plus.length) [] := FunD.bindsN F fun _ _ _ _ _ _ us hl => match us, hl with | [_, _], _ => rfl
  exact ⟨tp 2, _, fd, F, He.glo_ok X G (c.fact 1 (f := .glo "plus") rfl), sc_plus, ck_plus, rfl, b⟩
theorem dk_is_lesser (X : K.In h) (G : h.Ns mainGlobals mg) (c : He.SaysD hfa hfn K) : DfOk df_is_lesser K mg := by
  obtain ⟨fd, F⟩ := c.def_ 2 (d := dd_is_lesser) rfl
  have b : Binds K fd (nm_is_lesser.take md_is_lesser.length) [] := FunD.bindsN F fun _ _ _ _ _ _ us hl => match us, hl with | [_, _], _ => rfl
  exact ⟨tp 3, _, fd, F, He.glo_ok X G (c.fact 2 (f := .glo "is_lesser") rfl), sc_is_lesser, ck_is_lesser, rfl, b⟩
theorem dk_heavy_of (X : K.In h) (G : h.Ns mainGlobals mg) (c : He.SaysD hfa hfn K) : DfOk df_heavy_of K mg := by
  obtain ⟨fd, F⟩ := c.def_ 3 (d := dd_heavy_of) rfl
  have b : Binds K fd (nm_heavy_of.take md_heavy_of.length) [] := FunD.bindsN F fun _ _ _ _ _ _ us hl => match us, hl with | [_, _], _ => rfl
  exact ⟨tp 4, _, fd, F, He.glo_ok X G (c.fact 3 (f := .glo "heavy_of") rfl), sc_heavy_of, ck_heavy_of, rfl, b⟩
theorem dk_left_of (X : K.In h) (G : h.Ns mainGlobals mg) (c : He.SaysD hfa hfn K) : DfOk df_left_of K mg := by
  obtain ⟨fd, F⟩ := c.def_ 4 (d := dd_left_of) rfl
  have b : Binds K fd (nm_left_of.take md_left_of.length) [] := FunD.bindsN F fun _ _ _ _ _ _ us hl => match us, hl with | [_, _], _ => rfl
  exact ⟨tp 5, _, fd, F, He.glo_ok X G (c.fact 4 (f := .glo "left_of") rfl), sc_left_of, ck_left_of, rfl, b⟩
theorem dk_pushed (X : K.In h) (G : h.Ns mainGlobals mg) (c : He.SaysD hfa hfn K) : DfOk df_pushed K mg := by
  obtain ⟨fd, F⟩ := c.def_ 5 (d := dd_pushed) rfl
  have b : Binds K fd (nm_pushed.take md_pushed.length) [] := FunD.bindsN F fun _ _ _ _ _ _ us hl => match us, hl with | [_, _, _, _], _ => rfl
  exact ⟨tp 6, _, fd, F, He.glo_ok X G (c.fact 5 (f := .glo "pushed") rfl), sc_pushed, ck_pushed, rfl, b⟩
theorem dk_steps_of (X : K.In h) (G : h.Ns mainGlobals mg) (c : He.SaysD hfa hfn K) : DfOk df_steps_of K mg := by
  obtain ⟨fd, F⟩ := c.def_ 6 (d := dd_steps_of) rfl
  have b : Binds K fd (nm_steps_of.take md_steps_of.length) [] := FunD.bindsN F fun _ _ _ _ _ _ us hl => match us, hl with | [_, _, _, _], _ => rfl
  exact ⟨tp 7, _, fd, F, He.glo_ok X G (c.fact 6 (f := .glo "steps_of") rfl), sc_steps_of, ck_steps_of, rfl, b⟩
theorem dk_moved (X : K.In h) (G : h.Ns mainGlobals mg) (c : He.SaysD hfa hfn K) : DfOk df_moved K mg := by
  obtain ⟨fd, F⟩ := c.def_ 7 (d := dd_moved) rfl
  have b : Binds K fd (nm_moved.take md_moved.length) [] := FunD.bindsN F fun _ _ _ _ _ _ us hl => match us, hl with | [_, _, _], _ => rfl
  exact ⟨tp 8, _, fd, F, He.glo_ok X G (c.fact 7 (f := .glo "moved") rfl), sc_moved, ck_moved, rfl, b⟩
theorem dk_places (X : K.In h) (G : h.Ns mainGlobals mg) (c : He.SaysD hfa hfn K) : DfOk df_places K mg := by
  obtain ⟨fd, F⟩ := c.def_ 8 (d := dd_places) rfl
  have b : Binds K fd (nm_places.take md_places.length) [] := FunD.bindsN F fun _ _ _ _ _ _ us hl => match us, hl with | [_, _, _, _], _ => rfl
  exact ⟨tp 9, _, fd, F, He.glo_ok X G (c.fact 8 (f := .glo "places") rfl), sc_places, ck_places, rfl, b⟩
theorem dk__law_bag (X : K.In h) (G : h.Ns mainGlobals mg) (c : He.SaysD hfa hfn K) : DfOk df__law_bag K mg := by
  obtain ⟨fd, F⟩ := c.def_ 9 (d := dd__law_bag) rfl
  have b : Binds K fd (nm__law_bag.take md__law_bag.length) [] := FunD.bindsN F fun _ _ _ _ _ _ us hl => match us, hl with | [_, _], _ => rfl
  exact ⟨tp 11, _, fd, F, He.glo_ok X G (c.fact 9 (f := .glo "_law_bag") rfl), sc__law_bag, ck__law_bag, rfl, b⟩
theorem dk__law_take (X : K.In h) (G : h.Ns mainGlobals mg) (c : He.SaysD hfa hfn K) : DfOk df__law_take K mg := by
  obtain ⟨fd, F⟩ := c.def_ 10 (d := dd__law_take) rfl
  have b : Binds K fd (nm__law_take.take md__law_take.length) [] := FunD.bindsN F fun _ _ _ _ _ _ us hl => match us, hl with | [_, _], _ => rfl
  exact ⟨tp 12, _, fd, F, He.glo_ok X G (c.fact 10 (f := .glo "_law_take") rfl), sc__law_take, ck__law_take, rfl, b⟩
theorem dk__law_lowest (X : K.In h) (G : h.Ns mainGlobals mg) (c : He.SaysD hfa hfn K) : DfOk df__law_lowest K mg := by
  obtain ⟨fd, F⟩ := c.def_ 11 (d := dd__law_lowest) rfl
  have b : Binds K fd (nm__law_lowest.take md__law_lowest.length) [] := FunD.bindsN F fun _ _ _ _ _ _ us hl => match us, hl with | [_, _], _ => rfl
  exact ⟨tp 13, _, fd, F, He.glo_ok X G (c.fact 11 (f := .glo "_law_lowest") rfl), sc__law_lowest, ck__law_lowest, rfl, b⟩
theorem dk__law_plus (X : K.In h) (G : h.Ns mainGlobals mg) (c : He.SaysD hfa hfn K) : DfOk df__law_plus K mg := by
  obtain ⟨fd, F⟩ := c.def_ 12 (d := dd__law_plus) rfl
  have b : Binds K fd (nm__law_plus.take md__law_plus.length) [] := FunD.bindsN F fun _ _ _ _ _ _ us hl => match us, hl with | [_, _], _ => rfl
  exact ⟨tp 14, _, fd, F, He.glo_ok X G (c.fact 12 (f := .glo "_law_plus") rfl), sc__law_plus, ck__law_plus, rfl, b⟩
theorem dk__law_times (X : K.In h) (G : h.Ns mainGlobals mg) (c : He.SaysD hfa hfn K) : DfOk df__law_times K mg := by
  obtain ⟨fd, F⟩ := c.def_ 13 (d := dd__law_times) rfl
  have b : Binds K fd (nm__law_times.take md__law_times.length) [] := FunD.bindsN F fun _ _ _ _ _ _ us hl => match us, hl with | [_, _], _ => rfl
  exact ⟨tp 15, _, fd, F, He.glo_ok X G (c.fact 13 (f := .glo "_law_times") rfl), sc__law_times, ck__law_times, rfl, b⟩
theorem dk__law_less (X : K.In h) (G : h.Ns mainGlobals mg) (c : He.SaysD hfa hfn K) : DfOk df__law_less K mg := by
  obtain ⟨fd, F⟩ := c.def_ 14 (d := dd__law_less) rfl
  have b : Binds K fd (nm__law_less.take md__law_less.length) [] := FunD.bindsN F fun _ _ _ _ _ _ us hl => match us, hl with | [_, _], _ => rfl
  exact ⟨tp 16, _, fd, F, He.glo_ok X G (c.fact 14 (f := .glo "_law_less") rfl), sc__law_less, ck__law_less, rfl, b⟩
theorem dk__law_cart (X : K.In h) (G : h.Ns mainGlobals mg) (c : He.SaysD hfa hfn K) : DfOk df__law_cart K mg := by
  obtain ⟨fd, F⟩ := c.def_ 15 (d := dd__law_cart) rfl
  have b : Binds K fd (nm__law_cart.take md__law_cart.length) [] := FunD.bindsN F fun _ _ _ _ _ _ us hl => match us, hl with | [_], _ => rfl
  exact ⟨tp 17, _, fd, F, He.glo_ok X G (c.fact 15 (f := .glo "_law_cart") rfl), sc__law_cart, ck__law_cart, rfl, b⟩
theorem dk__law_folk (X : K.In h) (G : h.Ns mainGlobals mg) (c : He.SaysD hfa hfn K) : DfOk df__law_folk K mg := by
  obtain ⟨fd, F⟩ := c.def_ 16 (d := dd__law_folk) rfl
  have b : Binds K fd (nm__law_folk.take md__law_folk.length) [] := FunD.bindsN F fun _ _ _ _ _ _ us hl => match us, hl with | [_, _], _ => rfl
  exact ⟨tp 18, _, fd, F, He.glo_ok X G (c.fact 16 (f := .glo "_law_folk") rfl), sc__law_folk, ck__law_folk, rfl, b⟩
theorem dk__law_mixed (X : K.In h) (G : h.Ns mainGlobals mg) (c : He.SaysD hfa hfn K) : DfOk df__law_mixed K mg := by
  obtain ⟨fd, F⟩ := c.def_ 17 (d := dd__law_mixed) rfl
  have b : Binds K fd (nm__law_mixed.take md__law_mixed.length) [] := FunD.bindsN F fun _ _ _ _ _ _ us hl => match us, hl with | [_, _], _ => rfl
  exact ⟨tp 19, _, fd, F, He.glo_ok X G (c.fact 17 (f := .glo "_law_mixed") rfl), sc__law_mixed, ck__law_mixed, rfl, b⟩
theorem dk__law_leaps (X : K.In h) (G : h.Ns mainGlobals mg) (c : He.SaysD hfa hfn K) : DfOk df__law_leaps K mg := by
  obtain ⟨fd, F⟩ := c.def_ 18 (d := dd__law_leaps) rfl
  have b : Binds K fd (nm__law_leaps.take md__law_leaps.length) [] := FunD.bindsN F fun _ _ _ _ _ _ us hl => match us, hl with | [_, _], _ => rfl
  exact ⟨tp 20, _, fd, F, He.glo_ok X G (c.fact 18 (f := .glo "_law_leaps") rfl), sc__law_leaps, ck__law_leaps, rfl, b⟩
theorem dk__law_left (X : K.In h) (G : h.Ns mainGlobals mg) (c : He.SaysD hfa hfn K) : DfOk df__law_left K mg := by
  obtain ⟨fd, F⟩ := c.def_ 19 (d := dd__law_left) rfl
  have b : Binds K fd (nm__law_left.take md__law_left.length) [] := FunD.bindsN F fun _ _ _ _ _ _ us hl => match us, hl with | [_, _], _ => rfl
  exact ⟨tp 21, _, fd, F, He.glo_ok X G (c.fact 19 (f := .glo "_law_left") rfl), sc__law_left, ck__law_left, rfl, b⟩
theorem dk__law_weight (X : K.In h) (G : h.Ns mainGlobals mg) (c : He.SaysD hfa hfn K) : DfOk df__law_weight K mg := by
  obtain ⟨fd, F⟩ := c.def_ 20 (d := dd__law_weight) rfl
  have b : Binds K fd (nm__law_weight.take md__law_weight.length) [] := FunD.bindsN F fun _ _ _ _ _ _ us hl => match us, hl with | [_, _], _ => rfl
  exact ⟨tp 22, _, fd, F, He.glo_ok X G (c.fact 20 (f := .glo "_law_weight") rfl), sc__law_weight, ck__law_weight, rfl, b⟩
theorem dk__law_behind (X : K.In h) (G : h.Ns mainGlobals mg) (c : He.SaysD hfa hfn K) : DfOk df__law_behind K mg := by
  obtain ⟨fd, F⟩ := c.def_ 21 (d := dd__law_behind) rfl
  have b : Binds K fd (nm__law_behind.take md__law_behind.length) [] := FunD.bindsN F fun _ _ _ _ _ _ us hl => match us, hl with | [_, _, _, _], _ => rfl
  exact ⟨tp 23, _, fd, F, He.glo_ok X G (c.fact 21 (f := .glo "_law_behind") rfl), sc__law_behind, ck__law_behind, rfl, b⟩
theorem dk__law_run (X : K.In h) (G : h.Ns mainGlobals mg) (c : He.SaysD hfa hfn K) : DfOk df__law_run K mg := by
  obtain ⟨fd, F⟩ := c.def_ 22 (d := dd__law_run) rfl
  have b : Binds K fd (nm__law_run.take md__law_run.length) [] := FunD.bindsN F fun _ _ _ _ _ _ us hl => match us, hl with | [_, _, _, _], _ => rfl
  exact ⟨tp 24, _, fd, F, He.glo_ok X G (c.fact 22 (f := .glo "_law_run") rfl), sc__law_run, ck__law_run, rfl, b⟩
theorem dk__law_timed (X : K.In h) (G : h.Ns mainGlobals mg) (c : He.SaysD hfa hfn K) : DfOk df__law_timed K mg := by
  obtain ⟨fd, F⟩ := c.def_ 23 (d := dd__law_timed) rfl
  have b : Binds K fd (nm__law_timed.take md__law_timed.length) [] := FunD.bindsN F fun _ _ _ _ _ _ us hl => match us, hl with | [_, _], _ => rfl
  exact ⟨tp 25, _, fd, F, He.glo_ok X G (c.fact 23 (f := .glo "_law_timed") rfl), sc__law_timed, ck__law_timed, rfl, b⟩
theorem dk__law_places (X : K.In h) (G : h.Ns mainGlobals mg) (c : He.SaysD hfa hfn K) : DfOk df__law_places K mg := by
  obtain ⟨fd, F⟩ := c.def_ 24 (d := dd__law_places) rfl
  have b : Binds K fd (nm__law_places.take md__law_places.length) [] := FunD.bindsN F fun _ _ _ _ _ _ us hl => match us, hl with | [_, _, _, _], _ => rfl
  exact ⟨tp 26, _, fd, F, He.glo_ok X G (c.fact 24 (f := .glo "_law_places") rfl), sc__law_places, ck__law_places, rfl, b⟩
theorem dk_law (X : K.In h) (G : h.Ns mainGlobals mg) (c : He.SaysD hfa hfn K) : DfOk df_law K mg := by
  obtain ⟨fd, F⟩ := c.def_ 25 (d := dd_law) rfl
  have b : Binds K fd (nm_law.take md_law.length) [] := FunD.bindsN F fun _ _ _ _ _ _ us hl => match us, hl with | [_], _ => rfl
  exact ⟨tp 27, _, fd, F, He.glo_ok X G (c.fact 25 (f := .glo "law") rfl), sc_law, ck_law, rfl, b⟩
theorem hall (X : K.In h) (G : h.Ns mainGlobals mg) (c : He.SaysD hfa hfn K) : ∀ d ∈ dfs, DfOk d K mg := by
  intro d hd
  simp only [dfs, List.mem_cons, List.not_mem_nil, or_false] at hd
  rcases hd with rfl | rfl | rfl | rfl | rfl | rfl | rfl | rfl | rfl | rfl | rfl | rfl | rfl | rfl | rfl | rfl | rfl | rfl | rfl | rfl | rfl | rfl | rfl | rfl | rfl | rfl
  · exact dk_law X G c
  · exact dk__law_places X G c
  · exact dk__law_timed X G c
  · exact dk__law_run X G c
  · exact dk__law_behind X G c
  · exact dk__law_weight X G c
  · exact dk__law_left X G c
  · exact dk__law_leaps X G c
  · exact dk__law_mixed X G c
  · exact dk__law_folk X G c
  · exact dk__law_cart X G c
  · exact dk__law_less X G c
  · exact dk__law_times X G c
  · exact dk__law_plus X G c
  · exact dk__law_lowest X G c
  · exact dk__law_take X G c
  · exact dk__law_bag X G c
  · exact dk_places X G c
  · exact dk_moved X G c
  · exact dk_steps_of X G c
  · exact dk_pushed X G c
  · exact dk_left_of X G c
  · exact dk_heavy_of X G c
  · exact dk_is_lesser X G c
  · exact dk_plus X G c
  · exact dk_lowest X G c
theorem hblt (X : K.In h) (G : h.Ns mainGlobals mg) (c : He.SaysD hfa hfn K) : ∀ x ∈ bNames, mg x = none := by
  intro x hx
  simp only [bNames, List.mem_cons, List.not_mem_nil, or_false] at hx
  rcases hx with rfl | rfl | rfl | rfl | rfl | rfl | rfl | rfl | rfl | rfl | rfl | rfl | rfl | rfl | rfl | rfl | rfl
  · exact He.free_ok X G (c.fact 26 (f := .free "abs") rfl)
  · exact He.free_ok X G (c.fact 27 (f := .free "len") rfl)
  · exact He.free_ok X G (c.fact 28 (f := .free "min") rfl)
  · exact He.free_ok X G (c.fact 29 (f := .free "sum") rfl)
  · exact He.free_ok X G (c.fact 30 (f := .free "all") rfl)
  · exact He.free_ok X G (c.fact 31 (f := .free "tuple") rfl)
  · exact He.free_ok X G (c.fact 32 (f := .free "list") rfl)
  · exact He.free_ok X G (c.fact 33 (f := .free "str") rfl)
  · exact He.free_ok X G (c.fact 34 (f := .free "set") rfl)
  · exact He.free_ok X G (c.fact 35 (f := .free "sorted") rfl)
  · exact He.free_ok X G (c.fact 36 (f := .free "isinstance") rfl)
  · exact He.free_ok X G (c.fact 37 (f := .free "range") rfl)
  · exact He.free_ok X G (c.fact 38 (f := .free "enumerate") rfl)
  · exact He.free_ok X G (c.fact 39 (f := .free "zip") rfl)
  · exact He.free_ok X G (c.fact 40 (f := .free "int") rfl)
  · exact He.free_ok X G (c.fact 41 (f := .free "bool") rfl)
  · exact He.free_ok X G (c.fact 42 (f := .free "dict") rfl)
theorem hcs (X : K.In h) (G : h.Ns mainGlobals mg) (c : He.SaysD hfa hfn K) : ∀ x d, csts x = some d → ∃ (v : V) (u : Value), mg x = some u ∧ RelV v u ∧ ∀ F, Rp ⟨K, P, w⟩ F d v := by
  intro x d e
  cases e
end
theorem hfacts {P : Program} {w : World} {K : PySem.W.Frag} {h : Heap} {mg : Str → Option Value} {f : Addr} (X : K.In h) (G : h.Ns mainGlobals mg) (hf : mg ("law" : Str) = some (.ref f)) (c : He.SaysD hfa hfn K) :
    ∃ fd : FuncData, (∀ (s : Shared) (v : Value), BindsTo s fd ⟨[v], []⟩ [("script", v)]) ∧ ∀ base : Heap, K.In base → base.Ns mainGlobals mg → FnOk P w K mg base CX0 26 f fd ["script"] (spOf ⟨K, P, w⟩ (df_law.fs (tabOf csts dfs.tail))) := by
  obtain ⟨fd, F⟩ := c.def_ 25 (d := dd_law) rfl
  have e := hf.symm.trans (He.glo_ok X G (c.fact 25 (f := .glo "law") rfl))
  cases e
  have b := FunD.bindsA (ps := ["script"]) F fun _ _ _ _ _ _ us hl => match us, hl with | [_], _ => rfl
  refine ⟨fd, fun s v => b s [v] rfl, fun base _ _ => ?_⟩
  have GG : Glob (tabOf csts dfs.tail) P w K mg base 25 := glob_all (hcs X G c) (hblt X G c) dfs.tail fun d hd => hall X G c d (List.mem_of_mem_tail hd)
  exact def_ok (fu := df_law.fu) (fs := df_law.fs (tabOf csts dfs.tail)) F sc_law GG ck_law rfl fun as r os _ e => e
end Lc
open PySem PySem.W PySem.Calls PyProof.Rows
set_option maxRecDepth 100000 in
set_option maxHeartbeats 0 in
theorem PySem.Challenge.cw_leapcart_k03_whole_the_common_middle_sta_holds : PySem.Challenge.rw_leapcart_k03_whole_the_common_middle_sta.Holds := by
  w_on; o_law
  refine HandSHeadRun.head_any (r := OpenLaw.row PySem.Challenge.rw_leapcart_k03_whole_the_common_middle_sta) (q := view (OpenLaw.row PySem.Challenge.rw_leapcart_k03_whole_the_common_middle_sta).prog [27]) (H := Lc.hk) (ob := Lc.hob) (M := 900) (loose := Lc.hloose) (d := HandSHeadRun.topDef (OpenLaw.row PySem.Challenge.rw_leapcart_k03_whole_the_common_middle_sta).prog 27) (kwd := []) Lc.hob_eq
    (by kernel_rfl) (fun s => by kernel_rfl) Lc.hrun (by kernel_rfl) (by kernel_rfl) (by kernel_rfl) (by rfl) (by first | assumption | decide +kernel) (by decide +kernel) ⟨rfl, rfl, rfl, rfl, rfl, by decide +kernel⟩ ?hw ?hc
  case hw => w_witness2
  case hc =>
    refine L2.walk_ofE (l := PySem.Challenge.rw_leapcart_k03_whole_the_common_middle_sta) (n := 63) (k := 26) (x := "script") (CX := L2.CX0) rfl (by decide) (by kernel_rfl) ⟨rfl, by decide, by decide⟩ ?F (fun _ _ _ _ z => z)
    intro w mg fa h Y G hmg0
    obtain ⟨K, KX, c⟩ := Y
    have hmg : mg ("law" : PySem.Str) = some (.ref fa) := by
      have e : (HandSHeadRun.topDef (OpenLaw.row PySem.Challenge.rw_leapcart_k03_whole_the_common_middle_sta).prog 27).name = ("law" : PySem.Str) := by kernel_rfl
      rw [← e]
      exact hmg0
    obtain ⟨fd, hb, hF⟩ := Lc.hfacts (P := (PySem.Challenge.rw_leapcart_k03_whole_the_common_middle_sta).prog) (w := w) KX G hmg c
    exact ⟨K, fd, _, KX, hb, fun H a ns hl _ hS => Lc.law_sp rfl (fun ns hn => Lc.law_true ns hn) H a ns hl hS, hF⟩
