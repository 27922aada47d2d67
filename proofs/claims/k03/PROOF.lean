import PyProof.Rows.All
import Wide.All
import OpenK.AllK
import Wide.FinOn
import HandS.ForMost
import HandS.Star
import HandS.TupAny
import HandS.Flow
import HandS.Style
import HandS.IsInst
import HandS.Zip
import HandS.Set
import HandS.SetTxt0
import HandS.SetFor
import HandS.Strs
import PySem.Challenge.RW_touchcaps_k03_whole_rows_changed_one_way
set_option Elab.async false
set_option linter.all false
set_option maxRecDepth 100000
set_option maxHeartbeats 8000000
/-! Law k03, part A: the text by places, heaps, the four functions of the program. -/
namespace K03
open PySem PySem.Spec PyProof.Rows L2
/-! ### the text -/
def tp (i : Nat) : Stmt := PySem.Challenge.pw_touchcaps_k03_whole_rows_changed_one_way.main.body.getD i (.Pass ⟨0, 0, 0, 0⟩)
abbrev stOutside : Stmt := tp 1
abbrev stForgotten : Stmt := tp 2
abbrev stTouched : Stmt := tp 3
abbrev stCapped : Stmt := tp 4
abbrev stBox : Stmt := tp 6
abbrev stTake : Stmt := tp 7
abbrev stCells : Stmt := tp 8
abbrev stOf : Stmt := tp 9
abbrev stSame : Stmt := tp 10
abbrev stMixed : Stmt := tp 11
abbrev stTags : Stmt := tp 12
abbrev stRow : Stmt := tp 13
abbrev stHand : Stmt := tp 14
abbrev stRight : Stmt := tp 15
abbrev stLaw : Stmt := tp 16
/-! ### heaps -/
theorem same_upd {H : Hp} {p : Addr} {o : HO} (h : H p = none) : Same H (upd H p o) := fun b x e => by
  rw [upd_ne (ne_of_none e h)]
  exact e
theorem same_sqt {K : PySem.W.Frag} {H H' : Hp} {a : Addr} {xs : List V} (e : Same H H') (h : SqT K H a xs) : SqT K H' a xs := by
  rcases h with (h | ⟨o, h⟩) | h
  · exact .inl (.inl (e _ _ h))
  · exact .inl (.inr ⟨o, e _ _ h⟩)
  · exact .inr h
/-- what stands at all places but u is kept -/
def Sb (u : Addr) (H H' : Hp) : Prop := ∀ b o, b ≠ u → H b = some o → H' b = some o
theorem Sb.refl (u : Addr) (H : Hp) : Sb u H H := fun _ _ _ h => h
theorem Sb.trans {u : Addr} {H H1 H2 : Hp} (a : Sb u H H1) (b : Sb u H1 H2) : Sb u H H2 := fun c o n h => b c o n (a c o n h)
theorem Sb.of {u : Addr} {H H1 : Hp} (a : Same H H1) : Sb u H H1 := fun c o _ h => a c o h
theorem Sb.sql {K : PySem.W.Frag} {u : Addr} {H H' : Hp} {a : Addr} {xs : List V} (e : Sb u H H') (n : a ≠ u) (h : SqL K H a xs) : SqL K H' a xs := by
  rcases h with (h | ⟨o, h⟩) | h
  · exact .inl (.inl (e _ _ n h))
  · exact .inl (.inr ⟨o, e _ _ n h⟩)
  · exact .inr h
theorem sb_upd {u : Addr} {H : Hp} {o : HO} : Sb u H (upd H u o) := fun b x n e => by
  rw [upd_ne n]
  exact e
theorem small {n : Nat} (h : n ≤ 1000) : n ≤ sizeLine := Nat.le_of_lt (small1000 h)
/-- a tuple of texts -/
abbrev Tx (H : Hp) (a : Addr) (xs : List Str) : Prop := H a = some (.tup (xs.map V.str))
/-- a list of texts -/
abbrev Lx (H : Hp) (a : Addr) (xs : List Str) : Prop := H a = some (.lst (xs.map V.str))
/-! ### what the four functions hand back -/
def outs (xs ns : List Str) : List Str := xs.filter fun x => decide (x ∉ ns)
theorem outs_len (xs ns : List Str) : (outs xs ns).length ≤ xs.length := List.length_filter_le _ _
theorem outs_app (xs ys ns : List Str) : outs (xs ++ ys) ns = outs xs ns ++ outs ys ns := List.filter_append ..
theorem inV_str (x : Str) (ns : List Str) : inV (.str x) (ns.map V.str) = decide (x ∈ ns) := by
  induction ns with
  | nil => simp [inV]
  | cons n r ih =>
    unfold inV at ih ⊢
    rw [List.map_cons, List.any_cons, ih]
    show ((n == x) || decide (x ∈ r)) = decide (x ∈ n :: r)
    by_cases e : n = x
    · subst e; simp
    · have e' : ¬ x = n := fun z => e z.symm
      have b : (n == x) = false := beq_eq_false_iff_ne.mpr e
      rw [b]
      simp [e']
theorem flats (ns : List Str) : (ns.map V.str).all flatV = true := by
  rw [List.all_map]
  exact List.all_eq_true.mpr fun _ _ => rfl
theorem outs_step {xs ns : List Str} {i : Nat} {x : Str} (h : xs[i]? = some x) : outs (xs.take (i + 1)) ns = if x ∈ ns then outs (xs.take i) ns else outs (xs.take i) ns ++ [x] := by
  rw [List.take_add_one, h, outs_app]
  show outs (xs.take i) ns ++ outs [x] ns = _
  by_cases c : x ∈ ns
  · rw [if_pos c]
    have e : outs [x] ns = [] := by simp [outs, c]
    rw [e, List.append_nil]
  · rw [if_neg c]
    have e : outs [x] ns = [x] := by simp [outs, c]
    rw [e]
def spOutside (K : PySem.W.Frag) : Sp := fun vs H Q _ => ∃ (a n : Addr) (xs ns : List Str), vs = [.ref a, .ref n] ∧ Tx H a xs ∧ (SqL K H n (ns.map V.str) ∨ SqT K H n (ns.map V.str)) ∧ xs.length ≤ 1000 ∧
  ∀ (p : Addr) (H' : Hp), Same H H' → Tx H' p (outs xs ns) → Q (.ref p) H'
def spForgotten (K : PySem.W.Frag) : Sp := fun vs H Q _ => ∃ (a : Addr) (n : Str) (xs : List Str), vs = [.ref a, .str n] ∧ Tx H a xs ∧ xs.length ≤ 1000 ∧
  ∀ (p : Addr) (H' : Hp), Same H H' → Tx H' p (outs xs [n]) → Q (.ref p) H'
def spTouched (K : PySem.W.Frag) : Sp := fun vs H Q _ => ∃ (a : Addr) (n : Str) (xs : List Str), vs = [.ref a, .str n] ∧ Tx H a xs ∧ xs.length ≤ 999 ∧
  ∀ (p : Addr) (H' : Hp), Same H H' → Tx H' p (n :: outs xs [n]) → Q (.ref p) H'
def spCapped (K : PySem.W.Frag) : Sp := fun vs H Q _ => ∃ (a : Addr) (n : Nat) (xs : List Str), vs = [.ref a, .int n] ∧ Tx H a xs ∧ xs.length ≤ 1000 ∧
  ∀ (p : Addr) (H' : Hp), Same H H' → Tx H' p (xs.take n) → Q (.ref p) H'
theorem scOutside : FnScope ["row", "names", "name"] ["row", "names"] (defScope stOutside) := ⟨rfl, rfl, rfl, by decide +kernel, rfl, by decide +kernel, by decide +kernel⟩
theorem scForgotten : FnScope ["row", "name"] ["row", "name"] (defScope stForgotten) := ⟨rfl, rfl, rfl, by decide +kernel, rfl, by decide +kernel, by decide +kernel⟩
theorem scTouched : FnScope ["row", "name"] ["row", "name"] (defScope stTouched) := ⟨rfl, rfl, rfl, by decide +kernel, rfl, by decide +kernel, by decide +kernel⟩
theorem scCapped : FnScope ["row", "number"] ["row", "number"] (defScope stCapped) := ⟨rfl, rfl, rfl, by decide +kernel, rfl, by decide +kernel, by decide +kernel⟩
section
variable {P : Program} {w : World} {K : PySem.W.Frag} {mg : Str → Option Value} {base : Heap} {f g : Addr} {fd gd : FuncData}
theorem ok_outside (F : Fun K "outside" "outside" stOutside f fd) (mt : mg "tuple" = none) : FnOk P w K mg base CX0 1 f fd ["row", "names"] (spOutside K) := by
  refine F.ok scOutside (fun vs H Q E h => ?_) (fun cdv A outer s H vs Q E hr h => ?_)
  · obtain ⟨a, n, xs, ns, rfl, _⟩ := h
    rfl
  obtain ⟨a, n, xs, ns, rfl, hx, hn, hl, q⟩ := h
  refine ⟨_, pss_one (ps_ret (pe_callTy call_tuple_of (by rfl) mt (by decide +kernel) (pa_cons
    (pe_lc (own := [("name", 2)]) (g := gName 2) (tt := tTest (tOp (rIn K true) (tVar 2) (tVar 1))) rfl scOutside.nd (pi_tup (pv 0)) (blkOk_by (own := [("name", 2)]) (N := ["row", "names", "name"]) (sc := defScope stOutside) (by decide +kernel))
      (fun _ _ _ _ _ => pg_name (i := 2) scOutside.nd rfl (Or.inl rfl)) (fun _ _ _ _ _ => pts_one (pt_cmpR op_notIn_seq (pv 2) (pv 1) (by rfl))) (fun _ _ _ _ _ => pv 2)) pa_nil))), ?_⟩
  refine ⟨_, rfl, a, rfl, ⟨_, SqT.of hx⟩, fun D hD => ?_⟩
  refine lc_tup (xs := xs.map V.str) (fun i H1 => Same H H1 ∧ H1 D = some (.lst ((outs (xs.take i) ns).map V.str))) ⟨same_upd hD, upd_same⟩ (fun i H1 _ h => same_sqt h.1 (SqT.of hx)) (fun i x H1 hi h => ?_) (fun H1 h => ?_)
  · obtain ⟨s1, e1⟩ := h
    obtain ⟨z, hz, rfl⟩ : ∃ z, xs[i]? = some z ∧ x = .str z := by
      rw [List.getElem?_map] at hi
      cases q1 : xs[i]? with
      | none => rw [q1] at hi; cases hi
      | some z => rw [q1] at hi; exact ⟨z, rfl, (Option.some.inj hi).symm⟩
    refine ⟨rfl, _, rfl, _, rfl, n, ns.map V.str, rfl, hn.imp (fun k => s1.seq k) (fun k => same_sqt s1 k), rfl, flats ns, _, rfl, ?_⟩
    rw [if_pos rfl, inV_str]
    have st := outs_step (ns := ns) hz
    by_cases c : z ∈ ns
    · rw [decide_eq_true c]
      rw [if_pos c] at st
      refine iteF ⟨s1, ?_⟩
      rw [st]
      exact e1
    · rw [decide_eq_false c]
      rw [if_neg c] at st
      refine iteT ⟨_, rfl, _, e1, ?_, ?_, ?_⟩
      · rw [List.length_map]
        have l1 := outs_len (xs.take i) ns
        rw [List.length_take] at l1
        exact small1000 (by omega)
      · intro b o e
        have nb : b ≠ D := ne_of_none e hD
        rw [upd_ne nb]
        exact s1 _ _ e
      · rw [upd_same, st, List.map_append]
        rfl
  · obtain ⟨s1, e1⟩ := h
    have el : xs.take (xs.map V.str).length = xs := by rw [List.length_map, List.take_length]
    rw [el] at e1
    refine ⟨D, _, rfl, .inl ⟨SqL.of e1, fun l hl' => ?_⟩⟩
    exact q l _ (s1.trans (same_upd hl')) upd_same
theorem ok_forgotten (F : Fun K "forgotten" "forgotten" stForgotten f fd) (G : FnOk P w K mg base CX0 1 g gd ["row", "names"] (spOutside K)) (bG : Binds K gd ["row", "names"] []) (kG : PySem.W.keepIn K (.ref g) = true) (mG : mg "outside" = some (.ref g)) :
    FnOk P w K mg base CX0 2 f fd ["row", "name"] (spForgotten K) := by
  refine F.ok scForgotten (fun vs H Q E h => ?_) (fun cdv A outer s H vs Q E hr h => ?_)
  · obtain ⟨a, n, xs, rfl, _⟩ := h
    rfl
  obtain ⟨a, n, xs, rfl, hx, hl, q⟩ := h
  refine ⟨_, pss_one (ps_ret (pe_call G hr rfl mG kG bG .nil pass0 (pa_cons (pv 0) (pa_cons (pe_tup (pa_cons (pv 1) pa_nil)) pa_nil)))), ?_⟩
  refine ⟨_, rfl, _, rfl, (by show 1 ≤ sizeLine; decide), fun t ht => ?_⟩
  have s1 : Same H (upd H t (.tup [.str n])) := same_upd ht
  exact ⟨a, t, xs, [n], rfl, s1 _ _ hx, .inr (SqT.of upd_same), hl, fun p H' s2 e => q p H' (s1.trans s2) e⟩
theorem ok_touched (F : Fun K "touched" "touched" stTouched f fd) (G : FnOk P w K mg base CX0 2 g gd ["row", "name"] (spForgotten K)) (bG : Binds K gd ["row", "name"] []) (kG : PySem.W.keepIn K (.ref g) = true) (mG : mg "forgotten" = some (.ref g)) :
    FnOk P w K mg base CX0 3 f fd ["row", "name"] (spTouched K) := by
  refine F.ok scTouched (fun vs H Q E h => ?_) (fun cdv A outer s H vs Q E hr h => ?_)
  · obtain ⟨a, n, xs, rfl, _⟩ := h
    rfl
  obtain ⟨a, n, xs, rfl, hx, hl, q⟩ := h
  refine ⟨_, pss_one (ps_ret (pe_tup (pa_cons (pv 1) (StX.pa_star (pe_call G hr rfl mG kG bG .nil pass0 (pa_cons (pv 0) (pa_cons (pv 1) pa_nil))) pa_nil)))), ?_⟩
  refine ⟨_, rfl, _, rfl, _, rfl, a, n, xs, rfl, hx, by omega, fun p H' s1 e => ?_⟩
  refine ⟨p, _, rfl, .inl (SqT.of e), ?_, fun t ht => ?_⟩
  · have l1 := outs_len xs [n]
    rw [List.length_cons, List.length_append, List.length_map]
    exact small (by rw [List.length_nil]; omega)
  · refine q t _ (s1.trans (same_upd ht)) ?_
    show upd H' t _ t = _
    rw [upd_same, List.append_nil]
    rfl
theorem cut_take (xs : List V) (n : Nat) : cutV xs none (some n) = xs.take n := by
  unfold cutV
  rw [HT.sIx_none, HT.sIx_nat, List.drop_zero, Nat.sub_zero, ← List.take_eq_take_min]
theorem ok_capped (F : Fun K "capped" "capped" stCapped f fd) (mt : mg "tuple" = none) : FnOk P w K mg base CX0 1 f fd ["row", "number"] (spCapped K) := by
  refine F.ok scCapped (fun vs H Q E h => ?_) (fun cdv A outer s H vs Q E hr h => ?_)
  · obtain ⟨a, n, xs, rfl, _⟩ := h
    rfl
  obtain ⟨a, n, xs, rfl, hx, hl, q⟩ := h
  refine ⟨_, pss_one (ps_ret (pe_slice sl_tupA (pe_callTy call_tupleT (by rfl) mt (by decide +kernel) (pa_cons (pv 0) pa_nil)) po_none (po_some (pv 1)))), ?_⟩
  refine ⟨_, rfl, a, _, rfl, SqT.of hx, _, rfl, n, rfl, a, xs.map V.str, rfl, SqT.of hx, fun hw => ?_, fun _ p hp => ?_⟩
  · refine q a H (Same.refl H) ?_
    have h2 := hw.2
    rw [HT.sIx_nat, List.length_map] at h2
    rw [List.take_of_length_le (by omega)]
    exact hx
  · refine q p _ (same_upd hp) ?_
    show upd H p _ p = _
    rw [upd_same, cut_take, List.map_take]
end
end K03

/-! Law k03, part B: set([texts]) and sorted(that set): what they hold, by membership alone. -/
namespace K03
open PySem PySem.Spec PyProof.Rows L2
/-! ### the set at a holds the texts l; its table can be walked -/
def Walkable (w : World) (t : SetTable) : Prop := Ris t.place.toList ∧ (w.params.followText "set-order" = true ∨ t.led = true)
structure SetS (P : Program) (w : World) (h : Heap) (a : Addr) (l : List Str) : Prop where
  ex : ∃ D : Froz.SD, h.get? a = some (Froz.sObj "set" D) ∧ Froz.TxOk P w D l ∧ Walkable w D.2.2
section
variable {P : Program} {w : World} {A : Around} {E : Value → Shared → Prop} {s : Shared} {h h' : Heap} {a : Addr} {l : List Str}
theorem SetS.at (R : SetS P w h a l) (k : ∀ o, h.get? a = some o → h'.get? a = some o) : SetS P w h' a l :=
  ⟨R.ex.imp fun _ q => ⟨k _ q.1, q.2⟩⟩
theorem walkable_tail {ep : Nat} {es : Array (Int × Value)} {t : SetTable} {b : Bool} (d : Walkable w t) : Walkable w (Froz.tailTx ep es t b).2.2 := by
  unfold Froz.tailTx
  split
  · exact ⟨relayAll_ris _ _ _, d.2.imp id fun z => (relayAll_led _ _ _).trans z⟩
  · exact d
theorem walkable_add {x : Int} {v : Value} {D : Froz.SD} (d : Walkable w D.2.2) : Walkable w (Froz.addTx x v D).2.2 := by
  have r1 := layNew_ris D.2.2 D.1 x v d.1
  have l1 := layNew_led D.2.2 D.1 x v
  refine walkable_tail ?_
  split
  · exact ⟨r1, d.2.imp id fun z => l1.trans z⟩
  · exact ⟨r1, d.2.imp id fun z => l1.trans z⟩
theorem setS_fresh (ho : h.get? a = some { cls := .type "set", dict := none, data := .set #[] 0 (.fresh 0 0 (!w.params.followText "set-order")) }) : SetS P w h a [] := by
  refine ⟨⟨(#[], 0, .fresh 0 0 (!w.params.followText "set-order")), ho, Froz.TxOk.nil (by rfl), List.Pairwise.nil, ?_⟩⟩
  show _ ∨ (!w.params.followText "set-order") = true
  cases w.params.followText "set-order" <;> simp
/-- a text that is there already: nothing changes -/
theorem add_old {D : Froz.SD} {k : Str} {u : Tok} {Q : Bool → Shared → Prop} (ho : s.heap.get? a = some (Froz.sObj "set" D)) (F : Froz.TxOk P w D l) (hk : k ∈ l) (hb : l.length < scanBound) (h : Q false s) :
    wpAny (model P w) A (setAddHashed a (.str k u) (hashStr w k)) Q E s := by
  obtain ⟨es, ep, t⟩ := D
  have isz : es.size < scanBound := by
    have z : es.size = l.length := F.sz
    omega
  have found : ∃ j, List.findIdx? (fun e => (strKind P w).is k e.2) es.toList = some j := by
    cases q : List.findIdx? (fun e => (strKind P w).is k e.2) es.toList with
    | some j => exact ⟨j, rfl⟩
    | none =>
      obtain ⟨e, he, z⟩ := (F.mem k).mp hk
      rw [List.findIdx?_eq_none_iff.mp q e he] at z
      cases z
  obtain ⟨j, hj⟩ := found
  unfold setAddHashed setAddHashedIn
  refine wpAny_holding (wpAny_bind (wpAny_setState_of (es := es) (ep := ep) (t := t) ho rfl F.fit ?_))
  dsimp only
  rw [byScan_of (knd := strKind P w) (x := Value.str k u) rfl isz F.el]
  simp only [↓reduceIte]
  unfold setAddByScan
  refine wpAny_bind (wpAny_bind (wpAny_rule (wpAny_bind (wpAny_setScan_of (knd := strKind P w) (k := k) (es := es) (ep := ep) (t := t) (Froz.is_str k u) ho rfl F.fit F.el ?_))))
  rw [hj]
  exact wpAny_pure (wpAny_pure h)
/-- one more text -/
theorem setS_add {k : Str} {u : Tok} {Q : Bool → Shared → Prop} (R : SetS P w s.heap a l) (hb : l.length + 1 < scanBound)
    (hQ : ∀ (b : Bool) (h' : Heap) (l' : List Str), Heap.SameBut a s.heap h' → SetS P w h' a l' → (∀ x, x ∈ l' ↔ x = k ∨ x ∈ l) → l'.length ≤ l.length + 1 → Q b { s with heap := h' }) :
    wpAny (model P w) A (setAddHashed a (.str k u) (hashStr w k)) Q E s := by
  obtain ⟨D, ho, F, d⟩ := R.ex
  by_cases c : k ∈ l
  · refine add_old ho F c (by omega) ?_
    exact hQ false s.heap l (Heap.SameBut.refl a s.heap) ⟨⟨D, ho, F, d⟩⟩ (fun x => ⟨.inr, fun z => z.elim (fun e => e ▸ c) id⟩) (Nat.le_succ _)
  · refine Froz.add_x ho F c hb ?_
    refine hQ true _ (k :: l) (Heap.SameBut.update s.heap a _) ⟨⟨_, Froz.get_upd _ ho rfl, Froz.add_ok u F, walkable_add d⟩⟩ (fun x => List.mem_cons) (Nat.le_refl _)
end
/-! ### the loop that fills a set with texts -/
section
variable {P : Program} {w : World} {A : Around} {I S : Addr} {fp wr : List Addr} {Pv : Nat → Value → Prop} {St : Nat → Heap → Prop} {ss : List Str} {R : Result → Shared → Prop} {s0 : Shared}
def Stays (s0 : Shared) (S : Addr) (wr : List Addr) (h : Heap) : Prop := ∀ b o, b ≠ S → b ∉ wr → s0.heap.get? b = some o → h.get? b = some o
theorem fill_set (W : Walks P w A.in1 I fp wr ss.length Pv St) (far : S ∉ fp) (room : ss.length + 1 < scanBound) (val : ∀ i v, Pv i v → ∃ x t, ss[i]? = some x ∧ v = Value.str x t)
    (fin : ∀ h tk l, SetS P w h S l → (∀ x, x ∈ l ↔ x ∈ ss) → l.length ≤ ss.length → Stays s0 S wr h → R (.ok (.ret .none)) { s0 with heap := h, toks := tk }) :
    ∀ (rest front : List Str) (h : Heap) (tk : Nat) (l : List Str), ss = front ++ rest → St front.length h → SetS P w h S l → (∀ x, x ∈ l ↔ x ∈ front) → l.length ≤ front.length → Stays s0 S wr h →
      codeAny (model P w) A (.builtin "set.update.loop" ⟨[.ref S, .ref I], []⟩) R { s0 with heap := h, toks := tk } := by
  have farW : S ∉ wr := fun z => far (W.sub _ z)
  intro rest
  induction rest with
  | nil =>
    intro front h tk l e st hs hm hl ky
    rw [List.append_nil] at e
    subst e
    refine codeAny_builtin PyProof.Rows.F.entry_set_update_loop ?_
    rw [Around.under_plainId PyProof.Rows.F.plain_set_update_loop _]
    refine wpAny_bind (m := pyNext (.ref I)) (W.done { s0 with heap := h, toks := tk } _ _ st fun h2 tk2 k2 => ?_)
    exact wpAny_pure (fin h2 tk2 l (hs.at fun o q => k2 S o farW q) hm hl fun b o n1 n2 q => k2 b o n2 (ky b o n1 n2 q))
  | cons y rest ih =>
    intro front h tk l e st hs hm hl ky
    have lt : front.length < ss.length := by
      rw [e, List.length_append, List.length_cons]
      omega
    refine codeAny_builtin PyProof.Rows.F.entry_set_update_loop ?_
    rw [Around.under_plainId PyProof.Rows.F.plain_set_update_loop _]
    refine wpAny_bind (m := pyNext (.ref I)) (W.item front.length { s0 with heap := h, toks := tk } _ _ lt st fun v h2 tk2 pv2 st2 k2 => ?_)
    obtain ⟨x, t, hx, rfl⟩ := val _ _ pv2
    have ex : x = y := by
      rw [e, List.getElem?_append_right (Nat.le_refl _), Nat.sub_self] at hx
      exact (Option.some.inj hx).symm
    subst ex
    show wpAny _ A.in1 (holding [Value.str x t] (setAdd S (.str x t)) >>= _) _ _ _
    refine wpAny_bind (wpAny_holding ?_)
    unfold setAdd
    refine wpAny_holding (wpAny_bind ((strKind P w).pyHash (k := x) (Froz.is_str x t) ?_))
    refine setS_add (s := { s0 with heap := h2, toks := tk2 + 1 }) (hs.at fun o q => k2 S o farW q) (by omega) fun b h3 l3 sb hs3 hm3 hl3 => ?_
    have stay3 : Stays s0 S wr h3 := fun c o n1 n2 q => (sb.2 c n1).trans (k2 c o n2 (ky c o n1 n2 q))
    refine wpAny_pure ⟨plainId_quiet PyProof.Rows.F.plain_set_update_loop _, ih (front ++ [x]) h3 (tk2 + 1) l3 (by rw [e, List.append_assoc]; rfl) ?_ hs3 (fun z => ?_) ?_ stay3⟩
    · rw [List.length_append]
      refine W.frame _ h2 h3 st2 fun c hc o q => ?_
      exact (sb.2 c fun z => far (z ▸ hc)).trans q
    · rw [hm3 z, hm z, List.mem_append, List.mem_singleton]
      exact Or.comm
    · rw [List.length_append]
      exact Nat.le_trans hl3 (Nat.succ_le_succ hl)
end
/-! ### set(xs), xs a list of texts -/
abbrev bareSet (w : World) : Obj := { cls := .type "set", dict := none, data := .set #[] 0 (.fresh 0 0 (!w.params.followText "set-order")) }
section
variable {P : Program} {w : World} {A : Around} {E : Value → Shared → Prop} {s : Shared}
set_option maxHeartbeats 8000000 in
theorem set_of_texts {l : Addr} {items : Array Value} {ss : List Str} {Q : Value → Shared → Prop} (hh : A.handled = none) (hl : s.heap.IsList l items) (hi : StrsAre items.toList ss) (room : ss.length + 1 < scanBound)
    (hQ : ∀ (h : Heap) (tk : Nat) (m : List Str), SetS P w h s.heap.objs.size m → (∀ x, x ∈ m ↔ x ∈ ss) → m.length ≤ ss.length → (∀ b o, s.heap.get? b = some o → h.get? b = some o) →
      Q (.ref s.heap.objs.size) { s with heap := h, toks := tk }) :
    wpAny (model P w) A (call (.type "set") [.ref l]) Q E s := by
  have size : items.size = ss.length := by
    have z := hi.length
    rw [Array.length_toList] at z
    exact z
  have lS : l < s.heap.objs.size := let ⟨_, z, _⟩ := hl; Heap.lt_size z
  obtain ⟨c0, tl0, mro0⟩ := PySem.F.called_set.mro
  have made0 := PySem.F.called_set.made
  have sub0 := PySem.F.called_set.sub
  have notType0 := PySem.F.called_set.notType
  have creates0 := PySem.F.called_set.canCreate
  have checked0 := PySem.F.typeCall_set_1 (.ref l)
  refine wpAny_call (codeAny_of_tree ?_)
  show wpAny _ _ (callAny (.type "set") _) _ _ _
  refine wpAny_pure ⟨Code.quiet_builtin _ (by decide +kernel), codeAny_builtin PySem.F.entry_type_call ?_⟩
  rw [Around.under_plain (weight_type_call_type "set" [.ref l] []) rfl]
  repeat (any_goals (first | assumption | wp_step))
  -- set.__new__ lays an empty set
  refine codeAny_mono (code_set_led1 (P := P) (w := w) (s := s) (.ref l) (E := E) (Q₁ := fun v s1 => v = .ref s.heap.objs.size ∧ s1 = { s with heap := s.heap.push (bareSet w) }) ⟨rfl, rfl⟩) fun r s1 hr => ?_
  cases r with
  | error e => exact hr
  | ok fl =>
    cases fl with
    | next => exact hr.elim
    | brk => exact hr.elim
    | cont => exact hr.elim
    | ret v =>
      obtain ⟨rfl, rfl⟩ := hr
      have atS : (s.heap.push (bareSet w)).get? s.heap.objs.size = some (bareSet w) := Heap.get?_push_size _ rfl
      have tyS : Shared.TypeIs { s with heap := s.heap.push (bareSet w) } (.ref s.heap.objs.size) "set" := ⟨_, atS, rfl⟩
      have find0 := PySem.F.called_set.init.lookup
      have bind0 := PySem.F.called_set.init.bind (.ref s.heap.objs.size)
      repeat (any_goals (first | assumption | wp_step))
      -- set.__init__ fills it
      refine codeAny_mono (codeAny_call_builtin (R := wants (fun r s2 => r = .none ∧ ∃ h tk m, s2 = { s with heap := h, toks := tk } ∧ SetS P w h s.heap.objs.size m ∧ (∀ x, x ∈ m ↔ x ∈ ss) ∧ m.length ≤ ss.length ∧
        ∀ b o, s.heap.get? b = some o → h.get? b = some o) E) PySem.F.called_set.init.plain PySem.F.entry_set_init (check_set_init_1 tyS ?_)) fun r2 s2 hr2 => ?_
      · obtain ⟨⟨cl, od, od2, osl⟩, atL, hcl, nl, hdl⟩ := hl
        simp only at hcl hdl
        subst hcl hdl
        have atL2 : (s.heap.push (bareSet w)).get? l = some { cls := .type "list", dict := od, data := .seq items nl, slots := osl } := Heap.get?_push_of_some _ atL
        have isL2 : (s.heap.push (bareSet w)).IsList l items := ⟨_, atL2, rfl, nl, rfl⟩
        have noSet := PySem.F.sub_list_set
        have noFrozen := PySem.F.sub_list_frozenset
        have noDict : (Value.type "list" == Value.type "dict") = false := by decide
        unfold Builtin.«set.__init__» noKeywords Builtin.Frozenset.updateFrom
        generalize hiter : pyIter = iter
        wp_walk
        subst hiter
        refine wpAny_pyIter_list isL2 (wpAny_bind (wpAny_runValue ?_))
        have sz1 : (s.heap.push (bareSet w)).objs.size = s.heap.objs.size + 1 := Heap.size_push ..
        have handled0 : A.in1.in1.in1.handled = none := by simp [hh]
        have neI : l ≠ (s.heap.push (bareSet w)).objs.size := by
          rw [sz1]
          exact Nat.ne_of_lt (Nat.lt_succ_of_lt lS)
        have farS : s.heap.objs.size ∉ [(s.heap.push (bareSet w)).objs.size, l] := by
          rw [sz1]
          simp only [List.mem_cons, List.not_mem_nil, or_false, not_or]
          exact ⟨Nat.ne_of_lt (Nat.lt_succ_self _), Nat.ne_of_gt lS⟩
        have vals : ∀ (i : Nat) (v : Value), items[i]? = some v → ∃ x t, ss[i]? = some x ∧ v = Value.str x t := fun i v hv => by
          have lt : i < ss.length := by
            rw [← size]
            exact (Array.getElem?_eq_some_iff.mp hv).1
          obtain ⟨t, e⟩ := SS.strs_at hi i v (by rw [Array.getElem?_toList]; exact hv)
          refine ⟨ss[i], t, List.getElem?_eq_getElem lt, ?_⟩
          rw [e, List.getD_eq_getElem?_getD, List.getElem?_eq_getElem lt]
          rfl
        have W0 := Walks.list (prog := P) (w := w) handled0 (s.heap.push (bareSet w)).objs.size l neI items
        rw [size] at W0
        refine fill_set (s0 := { s with heap := (s.heap.push (bareSet w)).push { cls := .type "list_iterator", data := .fields #[.ref l, .int 0 0] } }) W0 farS room vals (fun h tk m q1 q2 q3 stay => ?_) ss [] _ s.toks [] rfl
          ⟨⟨_, Heap.get?_push_size _ rfl, rfl, rfl⟩, isL2.push _⟩ (setS_fresh (Heap.get?_push_of_some _ atS)) (fun x => Iff.rfl) (Nat.le_refl _) (fun b o _ _ q => q)
        refine wpAny_pure (wpAny_pure ⟨rfl, h, tk, m, rfl, q1, q2, q3, fun b o q => ?_⟩)
        refine stay b o (Nat.ne_of_lt (Heap.lt_size q)) (fun z => ?_) (Heap.get?_push_of_some _ (Heap.get?_push_of_some _ q))
        rw [List.mem_singleton, sz1] at z
        exact absurd (Heap.lt_size q) (by rw [z]; exact Nat.not_lt_of_le (Nat.le_succ _))
      · cases r2 with
        | error e => exact hr2
        | ok fl2 =>
          cases fl2 with
          | next => exact hr2.elim
          | brk => exact hr2.elim
          | cont => exact hr2.elim
          | ret r =>
            obtain ⟨rfl, h, tk, m, rfl, q1, q2, q3, q4⟩ := hr2
            repeat (any_goals (first | assumption | wp_step))
            exact hQ _ _ _ q1 q2 q3 q4
end
end K03

/-! Law k03, part B3: sorted(set of texts), and both as rules of the layer. -/
namespace K03
open PySem PySem.Spec PyProof.Rows L2
section
variable {P : Program} {w : World} {A : Around} {E : Value → Shared → Prop} {s : Shared}
theorem is_strOf {k : Str} {v : Value} (h : (strKind P w).is k v = true) : ∃ t, v = Value.str k t := Value.isStrOf_shape h
theorem sorted_texts {a : Addr} {l : List Str} {Q : Value → Shared → Prop} (R : SetS P w s.heap a l) (hh : A.handled = none) (few : l.length < 64)
    (hQ : ∀ (s' : Shared) (p : Addr) (out : Array Value) (c : Nat) (ys : List Str), (∀ b o, s.heap.get? b = some o → s'.heap.get? b = some o) → s'.gens = s.gens → s'.os = s.os → s.heap.objs.size ≤ p →
      s'.heap.get? p = some (seqObj "list" out c) → StrsAre out.toList ys → (∀ x, x ∈ ys ↔ x ∈ l) → ys.length = l.length → Q (.ref p) s') :
    wpAny (model P w) A (call (.builtin "sorted") [.ref a]) Q E s := by
  obtain ⟨⟨es, ep, t⟩, ho, F, d⟩ := R.ex
  have size : es.size = l.length := F.sz
  refine Calls.call_function_entry kind_sorted plain_sorted entry_sorted (args_sorted1 _) ?_
  unfold Builtin.«sorted»
  refine wpAny_bind (m := checkCount "sorted" 1 1 _) (wpAny_pure (wpAny_bind (collect_set (A := A.in1) (es := es) (ep := ep) (t := t) hh ⟨_, ho, rfl, rfl⟩ F.fit (by unfold scanBound; omega) d.1 d.2 fun s1 vs keep1 grown1 gens1 os1 perm1 => ?_)))
  have len1 : vs.length = l.length := by
    rw [perm1.length_eq, List.length_map, Array.length_toList]
    exact size
  have str1 : ∀ v ∈ vs, ∃ x t, v = Value.str x t := fun v hv => by
    obtain ⟨e, he, rfl⟩ := List.mem_map.mp (perm1.mem_iff.mp hv)
    obtain ⟨⟨k, hk, _⟩, _⟩ := F.el e he
    exact ⟨k, is_strOf hk⟩
  have strs1 : StrsAre vs (vs.map strOf) := strsAre_map vs str1
  have mem1 : ∀ x, x ∈ vs.map strOf ↔ x ∈ l := fun x => by
    rw [F.mem x, List.mem_map]
    constructor
    · rintro ⟨v, hv, rfl⟩
      obtain ⟨e, he, rfl⟩ := List.mem_map.mp (perm1.mem_iff.mp hv)
      obtain ⟨y, t1, z⟩ := str1 _ hv
      refine ⟨e, he, ?_⟩
      rw [z]
      exact Froz.is_str y t1
    · rintro ⟨e, he, z⟩
      obtain ⟨t1, z1⟩ := is_strOf z
      refine ⟨e.2, perm1.mem_iff.mpr (List.mem_map.mpr ⟨e, he, rfl⟩), ?_⟩
      rw [z1]
      rfl
  refine wpAny_bind (wpAny_newList ?_ (by rw [len1, sizeLine_eq]; omega))
  have atL : (s1.heap.push (seqObj "list" vs.toArray 0)).get? s1.heap.objs.size = some (seqObj "list" vs.toArray 0) := Heap.get?_push_size _ rfl
  refine wpAny_bind (wpAny_holding (wpAny_call_entry slot_list_sort ⟨_, atL, rfl⟩ entry_list_sort
    (list_sort_treeK strKind_oneLt atL strs1.keysOf (fun v1 v2 rest e => keyKind_strs (by rw [← e]; exact strs1)) (by rw [len1]; exact few) fun st hp hs => ⟨_, rfl, ?_⟩) (args_list_sort _)))
  obtain ⟨ys, y1, y2, _⟩ := sorted_out_str strs1 hp hs
  obtain ⟨c, hc⟩ := sortedHeap_at (vs := vs) (out := (arrOf st).map (·.2)) atL
  refine wpAny_pure ⟨_, rfl, hQ _ s1.heap.objs.size _ c ys (fun b o q => ?_) gens1 os1 grown1 hc y1 (fun x => (y2.mem_iff).trans (mem1 x)) ?_⟩
  · have q1 := keep1 b o q
    have lt := Heap.lt_size q1
    refine (sortedHeap_old (Nat.ne_of_lt lt) ?_).trans (Heap.get?_push_of_some _ q1)
    rw [Heap.size_push]
    exact Nat.lt_succ_of_lt lt
  · rw [y2.length_eq, List.length_map, len1]
end
/-! ### as rules -/
def SetTxt (P : Program) (w : World) (a : Addr) (l : List Str) : HO := .ext fun h => SetS P w h a l
theorem setTxt_new {P : Program} {w : World} {H : Hp} {h : Heap} {a : Addr} {l : List Str} (R : SetS P w h a l) : ObjOk P w H h a (SetTxt P w a l) :=
  ⟨R, let ⟨_, q, _⟩ := R.ex; ⟨_, q⟩, fun _ _ q k => q.at k⟩
/-- set(xs), xs a list of texts: by membership alone -/
def rSetTxt (K : PySem.W.Frag) (P : Program) (w : World) : List V → Hp → VK → Prop := fun xs H Q => ∃ (l : Addr) (ss : List Str), xs = [V.ref l] ∧ SqL K H l (ss.map V.str) ∧ ss.length ≤ 60 ∧
  ∀ (a : Addr) (m : List Str), H a = none → (∀ x, x ∈ m ↔ x ∈ ss) → m.length ≤ ss.length → Q (.ref a) (upd H a (SetTxt P w a m))
/-- sorted(s), s such a set -/
def rSortedTxt (P : Program) (w : World) : List V → Hp → VK → Prop := fun xs H Q => ∃ (a : Addr) (l : List Str), xs = [V.ref a] ∧ H a = some (SetTxt P w a l) ∧ l.length < 64 ∧
  ∀ (ys : List Str) (p : Addr), (∀ x, x ∈ ys ↔ x ∈ l) → H p = none → Q (.ref p) (upd H p (.lst (ys.map V.str)))
section
variable {X : Cx}
theorem cr_setTxt (hc : X.calm = true) : CallR X (.type "set") (rSetTxt X.K X.prog X.w) := by
  intro pins s σ H xs us Q I r h
  obtain ⟨l, ss, rfl, hS, hlen, q⟩ := h
  rw [Vals.ref1 r]
  obtain ⟨its, rv, pl, hz⟩ := I.list hS
  refine set_of_texts (I.ok.hd hc) pl.isList (by simpa using rv.strs) (by unfold scanBound; omega) fun h' tk m q1 q2 q3 keep => ?_
  have hn : H s.heap.objs.size = none := I.hok.fresh (Nat.le_refl _)
  exact ⟨.ref s.heap.objs.size, upd H s.heap.objs.size (SetTxt X.prog X.w s.heap.objs.size m), I.laid (t' := tk) keep (Nat.le_refl _) (setTxt_new q1), rfl, q _ m hn q2 q3⟩
theorem cr_sortedTxt (hc : X.calm = true) : CallR X (.builtin "sorted") (rSortedTxt X.prog X.w) := by
  intro pins s σ H xs us Q I r h
  obtain ⟨a, l, rfl, hS, few, q⟩ := h
  rw [Vals.ref1 r]
  have R : SetS X.prog X.w s.heap a l := (I.hok a _ hS).1
  refine sorted_texts R (I.ok.hd hc) few fun s' p out c ys keep g o hp hl hs hm hn => ?_
  have fresh : H p = none := I.hok.fresh hp
  have hlen : (ys.map V.str).length ≤ sizeLine := by
    rw [List.length_map, hn, sizeLine_eq]
    omega
  have J : Inv X pins σ (upd H p (.lst (ys.map V.str))) { s with heap := s'.heap, gens := s'.gens, drawn := s'.drawn, toks := s'.toks } :=
    I.call (ch := []) (Un.laid keep hp fresh) (I.hok.laid keep hp ⟨hlen, out.toList, c, vals_of_strs hs, hl⟩) (by rw [g]; exact I.bare) (fun _ z => nomatch z)
  have e : s' = { s with heap := s'.heap, gens := s'.gens, drawn := s'.drawn, toks := s'.toks } := by
    cases s'
    cases s
    cases o
    rfl
  rw [e]
  exact ⟨.ref p, _, J, rfl, q ys p hm fresh⟩
end
end K03

/-! Law k03, part C: the draws. -/
namespace K03
open PySem PySem.Spec PyProof.Rows L2
/-- the source of draws at u: three ints, the third from 0 to n -/
def Urn (n : Nat) (H : Hp) (u : Addr) : Prop := ∃ c0 c1 c2 : Int, H u = some (.lst [.int c0, .int c1, .int c2]) ∧ 0 ≤ c2 ∧ c2 ≤ n
theorem Urn.mono {n m : Nat} {H : Hp} {u : Addr} (h : Urn n H u) (e : n ≤ m) : Urn m H u := by
  obtain ⟨c0, c1, c2, h1, h2, h3⟩ := h
  exact ⟨c0, c1, c2, h1, h2, by omega⟩
theorem Urn.same {n : Nat} {H H' : Hp} {u : Addr} (h : Urn n H u) (e : Same H H') : Urn n H' u := by
  obtain ⟨c0, c1, c2, h1, h2, h3⟩ := h
  exact ⟨c0, c1, c2, e _ _ h1, h2, h3⟩
theorem Urn.ne {n : Nat} {H : Hp} {u a : Addr} (h : Urn n H u) (e : H a = none) : a ≠ u := by
  obtain ⟨c0, c1, c2, h1, _⟩ := h
  exact (ne_of_none h1 e).symm
theorem Urn.ne_tx {n : Nat} {H : Hp} {u a : Addr} {xs : List V} (h : Urn n H u) (e : H a = some (.tup xs)) : a ≠ u := by
  obtain ⟨c0, c1, c2, h1, _⟩ := h
  exact ne_of e h1 (by intro z; cases z)
/-- an object is laid beside the source -/
theorem Urn.laid {n : Nat} {H : Hp} {u a : Addr} {o : HO} (h : Urn n H u) (e : H a = none) : Urn n (upd H a o) u := h.same (same_upd e)
def spTake : Sp := fun vs H Q _ => ∃ (u : Addr) (low : Int) (n : Nat), vs = [.ref u, .int low] ∧ 0 < low ∧ low ≤ 1000 ∧ Urn n H u ∧ n ≤ 1000000 ∧
  ∀ (r : Int) (H' : Hp), 0 ≤ r → r < low → Sb u H H' → Urn (n + 1) H' u → Q (.int r) H'
theorem scTake : FnScope ["_law_urn", "_law_low_so", "_law_drawn", "_law_once", "_law_far", "_law_twice"] ["_law_urn", "_law_low_so"] (defScope stTake) := ⟨rfl, rfl, rfl, by decide +kernel, rfl, by decide +kernel, by decide +kernel⟩
section
variable {P : Program} {w : World} {K : PySem.W.Frag} {mg : Str → Option Value} {base : Heap} {f g : Addr} {fd gd : FuncData}
theorem ok_take (F : Fun K "_law_take" "_law_take" stTake f fd) (mi : mg "int" = none) : FnOk P w K mg base CX0 1 f fd ["_law_urn", "_law_low_so"] spTake := by
  refine F.ok scTake (fun vs H Q E h => ?_) (fun cdv A outer s H vs Q E hr h => ?_)
  · obtain ⟨u, low, n, rfl, _⟩ := h
    rfl
  obtain ⟨u, low, n, rfl, h0, h1, hu, hn, q⟩ := h
  obtain ⟨c0, c1, c2, hu, p0, p1⟩ := hu
  refine ⟨_, pss_cons (ps_if (pt_cmpR op_gt (pe_ix ix_list (pv 0) pe_int (fun _ _ => rfl)) pe_int (nomark _))
      (pss_cons (ps_set (i := 2) scTake.nd rfl (.inl rfl) (pe_op op_modN (pe_callTy call_int1 (by rfl) mi (by decide +kernel) (pa_cons (pe_ix ix_list (pv 0) pe_int (fun _ _ => rfl)) pa_nil)) (pv 1)))
      (pss_cons (ps_asg (pe_op op_fdivN (pe_ix ix_list (pv 0) pe_int (fun _ _ => rfl)) (pv 1)) (pg_sub (pv 0) pe_int set_list))
      (pss_one (ps_ret (pv 2))))) pss_nil)
    (pss_cons (ps_asg (pe_op op_add (pe_ix ix_list (pv 0) pe_int (fun _ _ => rfl)) pe_int) (pg_sub (pv 0) pe_int set_list))
    (pss_cons (ps_set (i := 3) scTake.nd rfl (.inl rfl) (pe_op op_modN (pe_callTy call_int1 (by rfl) mi (by decide +kernel) (pa_cons
        (pe_op op_mul (pe_op op_add (pe_ix ix_list (pv 0) pe_int (fun _ _ => rfl)) (pe_op op_mul pe_int (pe_ix ix_list (pv 0) pe_int (fun _ _ => rfl)))) (pe_op op_add pe_int (pe_ix ix_list (pv 0) pe_int (fun _ _ => rfl)))) pa_nil)) pe_int))
    (pss_cons (ps_set (i := 4) scTake.nd rfl (.inl rfl) (pe_op op_add (pe_op op_modN (pe_callTy call_int1 (by rfl) mi (by decide +kernel) (pa_cons (pv 3) pa_nil)) pe_int) pe_int))
    (pss_cons (ps_set (i := 5) scTake.nd rfl (.inl rfl) (pe_op op_modN (pe_callTy call_int1 (by rfl) mi (by decide +kernel) (pa_cons
        (pe_op op_mul (pe_op op_add (pe_op op_add (pv 3) (pe_ix ix_list (pv 0) pe_int (fun _ _ => rfl))) (pe_op op_fdivN (pe_ix ix_list (pv 0) pe_int (fun _ _ => rfl)) pe_int)) (pv 4)) pa_nil)) pe_int))
    (pss_one (ps_ret (pe_op op_modN (pe_callTy call_int1 (by rfl) mi (by decide +kernel) (pa_cons
        (pe_op op_fdivN (pe_op op_modN (pe_callTy call_int1 (by rfl) mi (by decide +kernel) (pa_cons (pe_op op_add (pe_op op_mul (pv 5) pe_int) (pv 3)) pa_nil)) pe_int) pe_int) pa_nil)) (pv 1)))))))), ?_⟩
  have hl : SqL K H u [.int c0, .int c1, .int c2] := SqL.of hu
  refine ⟨_, rfl, u, _, 0, _, rfl, rfl, hl, atI_nat (j := 0) rfl, _, _, rfl, rfl, _, rfl, ite2 (fun c => ?_) (fun c => ?_)⟩
  · -- the digits of a great number
    refine ⟨_, rfl, u, _, 0, _, rfl, rfl, hl, atI_nat (j := 0) rfl, .inl ⟨_, rfl, ?_⟩⟩
    refine ⟨_, rfl, _, _, rfl, rfl, by omega, ?_⟩
    refine ⟨_, rfl, u, _, 0, _, rfl, rfl, hl, atI_nat (j := 0) rfl, _, rfl, _, _, rfl, rfl, ⟨by omega, by omega⟩, ?_⟩
    refine ⟨_, rfl, u, _, _, 0, rfl, rfl, hu, rfl, ?_⟩
    refine ⟨_, rfl, ?_⟩
    exact q _ _ (Int.fmod_nonneg_of_pos _ h0) (Int.fmod_lt_of_pos _ h0) sb_upd ⟨_, c1, c2, upd_same, p0, by omega⟩
  · -- mixed numbers
    refine ⟨_, rfl, u, _, 2, _, rfl, rfl, hl, atI_nat (j := 2) rfl, _, _, rfl, rfl, ?_⟩
    refine ⟨_, rfl, u, _, _, 2, rfl, rfl, hu, rfl, ?_⟩
    have hu2 : upd H u (.lst [.int c0, .int c1, .int (c2 + 1)]) u = some (.lst [.int c0, .int c1, .int (c2 + 1)]) := upd_same
    have hl2 : SqL K (upd H u (.lst [.int c0, .int c1, .int (c2 + 1)])) u [.int c0, .int c1, .int (c2 + 1)] := SqL.of hu2
    refine ⟨_, rfl, u, _, 1, _, rfl, rfl, hl2, atI_nat (j := 1) rfl, ?_⟩
    refine ⟨_, rfl, u, _, 2, _, rfl, rfl, hl2, atI_nat (j := 2) rfl, _, _, rfl, rfl, .inl ⟨by decide, by decide⟩, ?_⟩
    refine ⟨_, _, rfl, rfl, ?_⟩
    refine ⟨_, rfl, u, _, 2, _, rfl, rfl, hl2, atI_nat (j := 2) rfl, _, _, rfl, rfl, ?_⟩
    refine ⟨_, _, rfl, rfl, .inr ⟨by omega, by omega⟩, .inl ⟨_, rfl, ?_⟩⟩
    refine ⟨_, _, rfl, rfl, (by show (2147483647 : Int) ≠ 0; decide), ?_⟩
    -- far
    refine ⟨_, rfl, .inl ⟨_, rfl, ?_⟩⟩
    refine ⟨_, _, rfl, rfl, (by show (40009 : Int) ≠ 0; decide), _, _, rfl, rfl, ?_⟩
    -- twice
    refine ⟨_, rfl, _, rfl, u, _, 2, _, rfl, rfl, hl2, atI_nat (j := 2) rfl, _, _, rfl, rfl, ?_⟩
    refine ⟨_, rfl, u, _, 1, _, rfl, rfl, hl2, atI_nat (j := 1) rfl, _, _, rfl, rfl, ⟨by decide, by decide⟩, ?_⟩
    refine ⟨_, _, rfl, rfl, ?_⟩
    refine ⟨_, rfl, _, _, rfl, rfl, .inr ⟨?_, ?_⟩, .inl ⟨_, rfl, ?_⟩⟩
    · have z := Int.fmod_nonneg_of_pos (((c1 + 48271 * (c2 + 1)) * (39373 + (c2 + 1))).fmod 2147483647) (b := 40009) (by decide)
      omega
    · have z := Int.fmod_lt_of_pos (((c1 + 48271 * (c2 + 1)) * (39373 + (c2 + 1))).fmod 2147483647) (b := 40009) (by decide)
      omega
    refine ⟨_, _, rfl, rfl, (by show (2147483629 : Int) ≠ 0; decide), ?_⟩
    -- the answer
    refine ⟨_, rfl, _, _, rfl, rfl, .inr ⟨by decide, by decide⟩, _, rfl, _, _, rfl, rfl, .inl ⟨_, rfl, ?_⟩⟩
    refine ⟨_, _, rfl, rfl, (by show (2147483587 : Int) ≠ 0; decide), _, _, rfl, rfl, ⟨by decide, by decide⟩, .inl ⟨_, rfl, ?_⟩⟩
    refine ⟨_, rfl, _, _, rfl, rfl, by omega, ?_⟩
    exact q _ _ (Int.fmod_nonneg_of_pos _ h0) (Int.fmod_lt_of_pos _ h0) sb_upd ⟨c0, c1, _, upd_same, by omega, by omega⟩
end
end K03

/-! Law k03, part C2: one drawn of some, all in a drawn order, a drawn row. -/
namespace K03
open PySem PySem.Spec PyProof.Rows L2
def spOf (K : PySem.W.Frag) : Sp := fun vs H Q _ => ∃ (u a : Addr) (xs : List V) (n : Nat), vs = [.ref u, .ref a] ∧ SqL K H a xs ∧ a ≠ u ∧ 0 < xs.length ∧ xs.length ≤ 1000 ∧ Urn n H u ∧ n ≤ 1000000 ∧
  ∀ (x : V) (H' : Hp), x ∈ xs → Sb u H H' → Urn (n + 1) H' u → Q x H'
def spMixed (K : PySem.W.Frag) : Sp := fun vs H Q _ => ∃ (u a : Addr) (xs : List V) (n : Nat), vs = [.ref u, .ref a] ∧ (SqL K H a xs ∨ SqT K H a xs) ∧ a ≠ u ∧ xs.length ≤ 100 ∧ Urn n H u ∧ n ≤ 900000 ∧
  ∀ (p : Addr) (ys : List V) (H' : Hp), ys.length = xs.length → (∀ y ∈ ys, y ∈ xs) → Sb u H H' → p ≠ u → H' p = some (.lst ys) → Urn (n + xs.length) H' u → Q (.ref p) H'
def spRow (K : PySem.W.Frag) : Sp := fun vs H Q _ => ∃ (u a : Addr) (ss : List Str) (m n : Nat), vs = [.ref u, .ref a, .int m] ∧ SqL K H a (ss.map V.str) ∧ a ≠ u ∧ ss.length ≤ 100 ∧ m ≤ 100 ∧ Urn n H u ∧ n ≤ 900000 ∧
  ∀ (p : Addr) (zs : List Str) (H' : Hp), zs.length ≤ ss.length → Sb u H H' → Tx H' p zs → Urn (n + ss.length + 1) H' u → Q (.ref p) H'
theorem scOf : FnScope ["_law_urn", "_law_some_so"] ["_law_urn", "_law_some_so"] (defScope stOf) := ⟨rfl, rfl, rfl, by decide +kernel, rfl, by decide +kernel, by decide +kernel⟩
theorem scMixed : FnScope ["_law_urn", "_law_pool", "_law_rest_so", "_law_found", "_law_turn"] ["_law_urn", "_law_pool"] (defScope stMixed) := ⟨rfl, rfl, rfl, by decide +kernel, rfl, by decide +kernel, by decide +kernel⟩
theorem scRow : FnScope ["_law_urn", "_law_pool", "_law_most"] ["_law_urn", "_law_pool", "_law_most"] (defScope stRow) := ⟨rfl, rfl, rfl, by decide +kernel, rfl, by decide +kernel, by decide +kernel⟩
theorem strs_of {ss : List Str} : ∀ {ys : List V}, (∀ y ∈ ys, y ∈ ss.map V.str) → ∃ zs : List Str, ys = zs.map V.str
  | [], _ => ⟨[], rfl⟩
  | y :: r, h => by
    obtain ⟨z, _, hz⟩ := List.mem_map.mp (h y List.mem_cons_self)
    obtain ⟨zs, e⟩ := strs_of (ys := r) fun x hx => h x (List.mem_cons_of_mem _ hx)
    exact ⟨z :: zs, by rw [List.map_cons, e, hz]⟩
theorem at_int {xs : List V} {r : Int} (h0 : 0 ≤ r) (h1 : r < (xs.length : Nat)) : ∃ v, atI xs r = some v ∧ v ∈ xs ∧ xs[r.toNat]? = some v := by
  have lt : r.toNat < xs.length := by omega
  have e : r = ((r.toNat : Nat) : Int) := by omega
  refine ⟨xs[r.toNat], ?_, List.getElem_mem lt, List.getElem?_eq_getElem lt⟩
  have z := atI_nat (xs := xs) (j := r.toNat) (List.getElem?_eq_getElem lt)
  rw [← e] at z
  exact z
section
variable {P : Program} {w : World} {K : PySem.W.Frag} {mg : Str → Option Value} {base : Heap} {f g g2 : Addr} {fd gd gd2 : FuncData}
theorem ok_of (F : Fun K "_law_of" "_law_of" stOf f fd) (G : FnOk P w K mg base CX0 1 g gd ["_law_urn", "_law_low_so"] spTake) (bG : Binds K gd ["_law_urn", "_law_low_so"] []) (kG : PySem.W.keepIn K (.ref g) = true) (mG : mg "_law_take" = some (.ref g)) (ml : mg "len" = none) :
    FnOk P w K mg base CX0 2 f fd ["_law_urn", "_law_some_so"] (spOf K) := by
  refine F.ok scOf (fun vs H Q E h => ?_) (fun cdv A outer s H vs Q E hr h => ?_)
  · obtain ⟨u, a, xs, n, rfl, _⟩ := h
    rfl
  obtain ⟨u, a, xs, n, rfl, hx, ne, l0, l1, hu, hn, q⟩ := h
  refine ⟨_, pss_one (ps_ret (pe_ix ix_list (pv 1) (pe_call G hr rfl mG kG bG .nil pass0 (pa_cons (pv 0) (pa_cons (pe_callB call_len_seq (by rfl) ml PySem.boot_len (pa_cons (pv 1) pa_nil)) pa_nil))) (fun _ _ => rfl))), ?_⟩
  refine ⟨_, rfl, _, rfl, _, rfl, a, xs, rfl, .inl hx, u, _, n, rfl, by omega, by omega, hu, hn, fun r H' r0 r1 s1 u1 => ?_⟩
  obtain ⟨v, hv, hm, _⟩ := at_int (xs := xs) r0 r1
  exact ⟨a, xs, r, v, rfl, rfl, s1.sql ne hx, hv, q v H' hm s1 u1⟩
theorem ok_mixed (F : Fun K "_law_mixed" "_law_mixed" stMixed f fd) (G : FnOk P w K mg base CX0 1 g gd ["_law_urn", "_law_low_so"] spTake) (bG : Binds K gd ["_law_urn", "_law_low_so"] []) (kG : PySem.W.keepIn K (.ref g) = true) (mG : mg "_law_take" = some (.ref g)) (ml : mg "len" = none)
    (mli : mg "list" = none) (mr : mg "range" = none) : FnOk P w K mg base CX0 2 f fd ["_law_urn", "_law_pool"] (spMixed K) := by
  refine F.ok scMixed (fun vs H Q E h => ?_) (fun cdv A outer s H vs Q E hr h => ?_)
  · obtain ⟨u, a, xs, n, rfl, _⟩ := h
    rfl
  obtain ⟨u, a, xs, n, rfl, hx, ne, l1, hu, hn, q⟩ := h
  refine ⟨_, pss_cons (ps_par (i := 2) (j := 3) (by rfl) scMixed.nd rfl rfl (by decide) rfl rfl (pa_cons (pe_callTy call_list_of (by rfl) mli (by decide +kernel) (pa_cons (pv 1) pa_nil)) (pa_cons (pe_lst pa_nil) pa_nil)) (by rfl))
    (pss_cons (ps_for PassesOwn.never rfl (pi_range1 rfl mr (pa_cons (pe_callB call_len_seq (by rfl) ml PySem.boot_len (pa_cons (pv 1) pa_nil)) pa_nil)) (pg_name (i := 4) scMixed.nd rfl (.inl rfl))
      (pss_one (ps_expr (pe_bm PySem.F.plainAttrs_list PySem.F.slot_list_append PySem.F.type_list_append mt_append (pv 3) (pa_cons
        (pe_bm PySem.F.plainAttrs_list PySem.F.slot_list_pop PySem.F.type_list_pop mt_popAt (pv 2) (pa_cons
          (pe_call G hr rfl mG kG bG .nil pass0 (pa_cons (pv 0) (pa_cons (pe_callB call_len_seq (by rfl) ml PySem.boot_len (pa_cons (pv 2) pa_nil)) pa_nil))) pa_nil)) pa_nil)))))
    (pss_one (ps_ret (pv 3)))), ?_⟩
  -- rest, found = list(pool), []
  refine ⟨_, rfl, a, xs, rfl, hx, fun p hp => ?_⟩
  refine ⟨(by show 0 ≤ sizeLine; decide), fun d hd => ⟨_, _, rfl, ?_⟩⟩
  have npd : p ≠ d := fun z => by
    rw [← z, upd_same] at hd
    cases hd
  have hd0 : H d = none := by
    rw [upd_ne npd.symm] at hd
    exact hd
  have npu : p ≠ u := hu.ne hp
  have ndu : d ≠ u := hu.ne hd0
  have s2 : Same H (upd (upd H p (.lst xs)) d (.lst [])) := (same_upd hp).trans (same_upd hd)
  refine ⟨_, rfl, a, xs, rfl, hx.imp (fun k => s2.seq k) (fun k => same_sqt s2 k), _, rfl, by omega, by omega, ?_⟩
  refine for_range (lo := 0) (n := ((xs.length : Nat) : Int).toNat) (fun i σ H3 => ∃ y4 rs fs, σ = [some (.ref u), some (.ref a), some (.ref p), some (.ref d), y4] ∧ Sb u H H3 ∧ H3 p = some (.lst rs) ∧ H3 d = some (.lst fs) ∧
    fs.length = i ∧ rs.length + i = xs.length ∧ (∀ y ∈ rs, y ∈ xs) ∧ (∀ y ∈ fs, y ∈ xs) ∧ Urn (n + i) H3 u) ?_ (fun i σ H3 hi hP => ?_) (fun σ H3 hP => ?_)
  · refine ⟨none, xs, [], rfl, Sb.of s2, ?_, upd_same, rfl, rfl, (fun _ z => z), (fun _ z => nomatch z), hu.same s2⟩
    rw [upd_ne npd, upd_same]
  · obtain ⟨y4, rs, fs, rfl, s3, e1, e2, c1, c2, m1, m2, u3⟩ := hP
    have hi2 : i < xs.length := by omega
    refine ⟨_, rfl, .inl ⟨rfl, _, SqL.of e2⟩, _, rfl, .inl ⟨rfl, _, SqL.of e1⟩, ?_⟩
    refine ⟨_, rfl, _, rfl, p, rs, rfl, .inl (SqL.of e1), u, _, n + i, rfl, by omega, by omega, u3, by omega, fun r H4 r0 r1 s4 u4 => ?_⟩
    obtain ⟨v, _, hm, hv⟩ := at_int (xs := rs) r0 r1
    have e1' := s4 _ _ npu e1
    have e2' := s4 _ _ ndu e2
    refine ⟨p, rs, r, r.toNat, v, rfl, rfl, e1', by omega, by omega, seqIndex_of r0 (by omega), hv, ?_⟩
    have e2'' : upd H4 p (.lst (rs.eraseIdx r.toNat)) d = some (.lst fs) := by
      rw [upd_ne npd.symm]
      exact e2'
    refine ⟨d, fs, v, rfl, rfl, e2'', small1000 (by omega), ?_⟩
    have lt : r.toNat < rs.length := by omega
    refine ⟨_, rs.eraseIdx r.toNat, fs ++ [v], rfl, ?_, ?_, upd_same, ?_, ?_, fun y hy => m1 y (List.mem_of_mem_eraseIdx hy), fun y hy => ?_, ?_⟩
    · intro b o nb e
      have q1 : b ≠ p := ne_of_none e hp
      have q2 : b ≠ d := ne_of_none e hd0
      rw [upd_ne q2, upd_ne q1]
      exact s4 _ _ nb (s3 _ _ nb e)
    · rw [upd_ne npd, upd_same]
    · rw [List.length_append, c1]
      rfl
    · rw [List.length_eraseIdx, if_pos lt]
      omega
    · rcases List.mem_append.mp hy with z | z
      · exact m2 y z
      · rw [List.mem_singleton.mp z]
        exact m1 v hm
    · obtain ⟨c0, c1', c2', h1, h2, h3⟩ := u4
      refine ⟨c0, c1', c2', ?_, h2, by omega⟩
      rw [upd_ne ndu.symm, upd_ne npu.symm]
      exact h1
  · obtain ⟨y4, rs, fs, rfl, s3, e1, e2, c1, c2, m1, m2, u3⟩ := hP
    refine ⟨_, rfl, ?_⟩
    rw [Int.toNat_natCast] at c1 u3
    exact q d fs H3 c1 m2 s3 ndu e2 u3
theorem ok_row (F : Fun K "_law_row" "_law_row" stRow f fd) (G : FnOk P w K mg base CX0 1 g gd ["_law_urn", "_law_low_so"] spTake) (bG : Binds K gd ["_law_urn", "_law_low_so"] []) (kG : PySem.W.keepIn K (.ref g) = true) (mG : mg "_law_take" = some (.ref g))
    (G2 : FnOk P w K mg base CX0 2 g2 gd2 ["_law_urn", "_law_pool"] (spMixed K)) (bG2 : Binds K gd2 ["_law_urn", "_law_pool"] []) (kG2 : PySem.W.keepIn K (.ref g2) = true) (mG2 : mg "_law_mixed" = some (.ref g2)) (mt : mg "tuple" = none) :
    FnOk P w K mg base CX0 3 f fd ["_law_urn", "_law_pool", "_law_most"] (spRow K) := by
  refine F.ok scRow (fun vs H Q E h => ?_) (fun cdv A outer s H vs Q E hr h => ?_)
  · obtain ⟨u, a, ss, m, n, rfl, _⟩ := h
    rfl
  obtain ⟨u, a, ss, m, n, rfl, hx, ne, l1, lm, hu, hn, q⟩ := h
  refine ⟨_, pss_one (ps_ret (pe_callTy call_tuple_of (by rfl) mt (by decide +kernel) (pa_cons (pe_slice sl_list (pe_call G2 hr rfl mG2 kG2 bG2 .nil pass0 (pa_cons (pv 0) (pa_cons (pv 1) pa_nil))) po_none
    (po_some (pe_call G (hr.mono (by decide)) rfl mG kG bG .nil pass0 (pa_cons (pv 0) (pa_cons (pe_op op_add (pv 2) pe_int) pa_nil))))) pa_nil))), ?_⟩
  refine ⟨_, rfl, _, rfl, u, a, ss.map V.str, n, rfl, .inl hx, ne, by rw [List.length_map]; exact l1, hu, hn, fun p ys H1 ly my s1 np e1 u1 => ?_⟩
  rw [List.length_map] at ly u1
  refine ⟨_, rfl, _, rfl, _, _, rfl, rfl, u, _, n + ss.length, rfl, by omega, by omega, u1, by omega, fun r H2 r0 r1 s2 u2 => ?_⟩
  refine ⟨r, rfl, p, ys, rfl, SqL.of (s2 _ _ np e1), fun p2 hp2 => ?_⟩
  obtain ⟨zs, rfl⟩ := strs_of my
  have er : r = ((r.toNat : Nat) : Int) := by omega
  refine ⟨p2, _, rfl, .inl ⟨SqL.of upd_same, fun t ht => ?_⟩⟩
  have s3 := (same_upd (o := .lst (cutV (zs.map V.str) none (some r))) hp2).trans (same_upd (o := .tup (cutV (zs.map V.str) none (some r))) ht)
  refine q t (zs.take r.toNat) _ ?_ ((s1.trans s2).trans (Sb.of s3)) ?_ (u2.same s3)
  · rw [List.length_map] at ly
    rw [List.length_take]
    omega
  · show upd _ t _ t = _
    rw [upd_same, er, cut_take, List.map_take, Int.toNat_natCast]
end
end K03

/-! Law k03, part C3: the source of draws made of a number, the numbers of the script. -/
namespace K03
open PySem PySem.Spec PyProof.Rows L2
def spBox (K : PySem.W.Frag) : Sp := fun vs H Q _ => ∃ (a : Addr) (ns : List Int) (k : Nat), vs = [.ref a, .int k] ∧ SqL K H a (ns.map V.int) ∧
  ∀ (p : Addr) (H' : Hp), Same H H' → H p = none → Urn 0 H' p → Q (.ref p) H'
def spCells (K : PySem.W.Frag) : Sp := fun vs H Q _ => ∃ (a : Addr) (ns : List Int), vs = [.ref a, .int 3] ∧ SqL K H a (ns.map V.int) ∧ ns.length ≤ 63 ∧
  ∀ (p : Addr) (cs : List Int) (H' : Hp), cs.length ≤ 3 → H' p = some (.lst (cs.map V.int)) → Q (.ref p) H'
theorem scBox : FnScope ["_law_script", "_law_k", "_law_cell"] ["_law_script", "_law_k"] (defScope stBox) := ⟨rfl, rfl, rfl, by decide +kernel, rfl, by decide +kernel, by decide +kernel⟩
theorem scCells : FnScope ["_law_script", "_law_top", "_law_cells_here", "_law_k", "_law_cell", "_law_at_so"] ["_law_script", "_law_top"] (defScope stCells) := ⟨rfl, rfl, rfl, by decide +kernel, rfl, by decide +kernel, by decide +kernel⟩
theorem get_ints {ns : List Int} {i : Nat} {x : V} (h : (ns.map V.int)[i]? = some x) : ∃ z, ns[i]? = some z ∧ x = .int z := by
  rw [List.getElem?_map] at h
  cases q : ns[i]? with
  | none => rw [q] at h; cases h
  | some z => rw [q] at h; exact ⟨z, rfl, (Option.some.inj h).symm⟩
/-- xs or [0] -/
theorem or_zero {K : PySem.W.Frag} {σ : L2.St} {H : Hp} {p : Addr} {ms : List Int} {Q : VK} (hp : H p = some (.lst (ms.map V.int)))
    (hq : ∀ (c : Addr) (cs : List Int) (H1 : Hp), Same H H1 → H1 c = some (.lst (cs.map V.int)) → (cs = ms ∧ ms ≠ [] ∨ ms = [] ∧ cs = [0]) → Q (.ref c) H1) :
    ∃ k, TruV K (.ref p) H k ∧ if k = true then Q (.ref p) H else tLst (tCons (tC (.int 0)) tNil) σ H Q := by
  refine ⟨!(ms.map V.int).isEmpty, .inl ⟨_, SqL.of hp, rfl⟩, ?_⟩
  cases ms with
  | nil => exact iteF ⟨(by show 1 ≤ sizeLine; decide), fun c hc => hq c [0] _ (same_upd hc) upd_same (.inr ⟨rfl, rfl⟩)⟩
  | cons m r => exact iteT (hq p (m :: r) H (Same.refl H) hp (.inl ⟨rfl, by simp⟩))
section
variable {P : Program} {w : World} {K : PySem.W.Frag} {mg : Str → Option Value} {base : Heap} {f g : Addr} {fd gd : FuncData}
theorem ok_box (F : Fun K "_law_box" "_law_box" stBox f fd) (ml : mg "len" = none) (ma : mg "abs" = none) (mi : mg "int" = none) : FnOk P w K mg base CX0 1 f fd ["_law_script", "_law_k"] (spBox K) := by
  refine F.ok scBox (fun vs H Q E h => ?_) (fun cdv A outer s H vs Q E hr h => ?_)
  · obtain ⟨a, ns, k, rfl, _⟩ := h
    rfl
  obtain ⟨a, ns, k, rfl, hx, q⟩ := h
  refine ⟨_, pss_cons (ps_set (i := 2) scBox.nd rfl (.inl rfl) (pe_ifExp (pt_cmpR op_lt (pv 1) (pe_callB call_len_seq (by rfl) ml PySem.boot_len (pa_cons (pv 0) pa_nil)) (nomark _)) (pe_ix ix_list (pv 0) (pv 1) (fun _ _ => rfl)) pe_int))
    (pss_one (ps_ret (pe_lst (pa_cons (pe_op op_mul (pe_callB call_abs (by rfl) ma (by decide +kernel) (pa_cons (pv 2) pa_nil)) (pe_callTy call_int1 (by rfl) mi (by decide +kernel) (pa_cons
        (pe_cmpR op_ge (pe_callB call_abs (by rfl) ma (by decide +kernel) (pa_cons (pv 2) pa_nil)) (pe_op op_pow pe_int pe_int) (nomark _)) pa_nil)))
      (pa_cons (pe_op op_add (pe_op op_add (pe_op op_modN (pe_callTy call_int1 (by rfl) mi (by decide +kernel) (pa_cons (pv 2) pa_nil)) pe_int) (pe_op op_mul pe_int (pv 1))) pe_int)
      (pa_cons pe_int pa_nil)))))), ?_⟩
  have hlen : (ns.map V.int).length = ns.length := List.length_map _
  have bit : ∀ b : Bool, -(2 ^ 64 : Int) < (if b = true then 1 else 0) ∧ (if b = true then 1 else 0) < (2 ^ 64 : Int) := fun b => by cases b <;> decide
  refine ⟨_, rfl, _, rfl, a, _, rfl, .inl hx, _, _, rfl, rfl, _, rfl, ite2 (fun c => ?_) (fun c => ?_)⟩
  · have lt : k < ns.length := by
      have z := of_decide_eq_true c
      rw [hlen] at z
      omega
    obtain ⟨v, hv, hm, _⟩ := at_int (xs := ns.map V.int) (r := (k : Int)) (by omega) (by rw [hlen]; omega)
    obtain ⟨z, _, rfl⟩ := List.mem_map.mp hm
    refine ⟨_, rfl, _, rfl, a, _, _, _, rfl, rfl, hx, hv, ?_⟩
    refine ⟨_, rfl, _, rfl, _, rfl, _, rfl, _, _, rfl, rfl, ⟨by decide, by decide, by decide⟩, _, _, rfl, rfl, .inr ⟨_, rfl, ?_⟩⟩
    refine ⟨_, _, rfl, rfl, .inr (bit _), ?_⟩
    refine ⟨_, rfl, .inl ⟨_, rfl, _, _, rfl, rfl, (by show (2305843009213693951 : Int) ≠ 0; decide), ?_⟩⟩
    refine ⟨_, rfl, _, _, rfl, rfl, .inl ⟨by decide, by decide⟩, _, _, rfl, rfl, _, _, rfl, rfl, (by show 3 ≤ sizeLine; decide), fun p hp => ?_⟩
    exact q p _ (same_upd hp) hp ⟨_, _, 0, upd_same, by omega, by omega⟩
  · refine ⟨_, rfl, _, rfl, _, rfl, _, rfl, _, _, rfl, rfl, ⟨by decide, by decide, by decide⟩, _, _, rfl, rfl, .inr ⟨_, rfl, ?_⟩⟩
    refine ⟨_, _, rfl, rfl, .inr (bit _), ?_⟩
    refine ⟨_, rfl, .inl ⟨_, rfl, _, _, rfl, rfl, (by show (2305843009213693951 : Int) ≠ 0; decide), ?_⟩⟩
    refine ⟨_, rfl, _, _, rfl, rfl, .inl ⟨by decide, by decide⟩, _, _, rfl, rfl, _, _, rfl, rfl, (by show 3 ≤ sizeLine; decide), fun p hp => ?_⟩
    exact q p _ (same_upd hp) hp ⟨_, _, 0, upd_same, by omega, by omega⟩
theorem ok_cells (F : Fun K "_law_cells" "_law_cells" stCells f fd) (mli : mg "list" = none) (me : mg "enumerate" = none) (mi : mg "int" = none) : FnOk P w K mg base CX0 1 f fd ["_law_script", "_law_top"] (spCells K) := by
  refine F.ok scCells (fun vs H Q E h => ?_) (fun cdv A outer s H vs Q E hr h => ?_)
  · obtain ⟨a, ns, rfl, _⟩ := h
    rfl
  obtain ⟨a, ns, rfl, hx, l63, q⟩ := h
  refine ⟨_, pss_cons (ps_set (i := 2) scCells.nd rfl (.inl rfl) (pe_orT (pe_callTy call_list_of (by rfl) mli (by decide +kernel) (pa_cons (pe_slice sl_list (pv 0) po_none (po_some (pv 1))) pa_nil)) (pe_one (pe_lst (pa_cons pe_int pa_nil)))))
    (pss_cons (ps_for PassesOwn.never rfl (pi_enum (by rfl) me (pa_cons (pe_slice sl_list (pv 0) (po_some (pv 1)) (po_some pe_int)) pa_nil))
      (pg_tup rfl (pgs_cons (pg_name (i := 3) scCells.nd rfl (.inl rfl)) (pgs_cons (pg_name (i := 4) scCells.nd rfl (.inl rfl)) pgs_nil)))
      (pss_cons (ps_set (i := 5) scCells.nd rfl (.inl rfl) (pe_op op_modN (pe_callTy call_int1 (by rfl) mi (by decide +kernel) (pa_cons (pv 3) pa_nil)) (pv 1)))
      (pss_one (ps_asg (pe_op op_add (pe_ix ix_list (pv 2) (pv 5) (fun _ _ => rfl)) (pe_op op_mul (pv 4) (pe_op op_add (pv 3) pe_int))) (pg_sub (pv 2) (pv 5) set_list)))))
    (pss_one (ps_ret (pv 2)))), ?_⟩
  have hlen : (ns.map V.int).length = ns.length := List.length_map _
  -- list(script[:top]) or [0]
  refine ⟨_, rfl, _, rfl, 3, rfl, a, _, rfl, hx, fun p0 hp0 => ?_⟩
  have s0 := same_upd (o := .lst (cutV (ns.map V.int) none (some 3))) hp0
  refine ⟨p0, _, rfl, .inl (SqL.of upd_same), fun p1 hp1 => ?_⟩
  have s1 := s0.trans (same_upd (o := .lst (cutV (ns.map V.int) none (some 3))) hp1)
  have e1 : (upd (upd H p0 (.lst (cutV (ns.map V.int) none (some 3)))) p1 (.lst (cutV (ns.map V.int) none (some 3)))) p1 = some (.lst ((ns.take 3).map V.int)) := by
    rw [upd_same, List.map_take, ← cut_take]
    rfl
  generalize upd (upd H p0 (.lst (cutV (ns.map V.int) none (some 3)))) p1 (.lst (cutV (ns.map V.int) none (some 3))) = H1 at s1 e1
  refine or_zero e1 (fun c cs H2 s2 e2 hc => ?_)
  have c3 : cs.length ≤ 3 := by
    rcases hc with ⟨rfl, _⟩ | ⟨_, rfl⟩
    · rw [List.length_take]; omega
    · decide
  have c4 : 3 < ns.length → cs.length = 3 := fun z => by
    rcases hc with ⟨rfl, _⟩ | ⟨e, _⟩
    · rw [List.length_take]; omega
    · have l := congrArg List.length e
      rw [List.length_take, List.length_nil] at l
      omega
  -- the later ones
  have sH2 := s1.trans s2
  refine ⟨_, rfl, _, rfl, 3, rfl, 63, rfl, a, _, rfl, sH2.seq hx, fun d hd => ?_⟩
  have ndc : d ≠ c := (ne_of_none e2 hd).symm
  have hms : ∀ i x, (cutV (ns.map V.int) (some 3) (some 63))[i]? = some x → 3 < ns.length ∧ i < 63 ∧ ∃ z, x = V.int z := fun i x hi => by
    unfold cutV at hi
    rw [show HT.sIx (ns.map V.int).length 0 (some 3) = min 3 (ns.map V.int).length from HT.sIx_nat _ _ 3, hlen] at hi
    have lt := (List.getElem?_eq_some_iff.mp hi).1
    rw [List.length_take, List.length_drop, hlen] at lt
    have hm := List.mem_of_mem_drop (List.mem_of_mem_take (List.mem_of_getElem? hi))
    obtain ⟨z, _, e⟩ := List.mem_map.mp hm
    exact ⟨by omega, by omega, z, e.symm⟩
  generalize cutV (ns.map V.int) (some 3) (some 63) = ms at hms
  have ed : upd H2 d (.lst ms) d = some (.lst ms) := upd_same
  refine ⟨d, ms, rfl, SqL.of ed, fun i m σ H3 => ∃ (y3 y4 y5 : Option V) (cs : List Int), σ = [some (.ref a), some (.int 3), some (.ref c), y3, y4, y5] ∧ i + m = ms.length ∧ H3 d = some (.lst ms) ∧ H3 c = some (.lst (cs.map V.int)) ∧ cs.length ≤ 3 ∧ (3 < ns.length → cs.length = 3),
    ⟨ms.length, none, none, none, cs, rfl, by omega, ed, by rw [upd_ne ndc.symm]; exact e2, c3, c4⟩, fun i m σ H3 hW => ?_⟩
  obtain ⟨y3, y4, y5, cs, rfl, em, ed3, ec3, c5, c6⟩ := hW
  by_cases hi : i < ms.length
  · have gi := List.getElem?_eq_getElem hi
    obtain ⟨n3, i63, z, ez⟩ := hms i _ gi
    rw [ez] at gi
    have c7 := c6 n3
    refine .inr ⟨⟨ms, _, SqL.of ed3, gi⟩, fun σ' H' => ∃ (y3 y4 y5 : Option V) (cs : List Int), σ' = [some (.ref a), some (.int 3), some (.ref c), y3, y4, y5] ∧ H' d = some (.lst ms) ∧ H' c = some (.lst (cs.map V.int)) ∧ cs.length ≤ 3 ∧ (3 < ns.length → cs.length = 3),
      fun σ' H' hN => ?_, fun v H' hy => ?_⟩
    · obtain ⟨z3, z4, z5, ks, e, k1, k2, k3, k4⟩ := hN
      exact ⟨m - 1, by omega, z3, z4, z5, ks, e, by omega, k1, k2, k3, k4⟩
    · obtain ⟨T, x, rfl, hT, rfl, fx⟩ := hy
      have ex : x = .int z := Option.some.inj ((fx _ (SqL.of ed3)).symm.trans gi)
      subst ex
      have nTd : d ≠ T := ne_of_none ed3 hT
      have nTc : c ≠ T := ne_of_none ec3 hT
      have eT : upd H3 T (.tup [.int (i : Nat), .int z]) c = some (.lst (cs.map V.int)) := by
        rw [upd_ne nTc]
        exact ec3
      have r0 := Int.fmod_nonneg_of_pos (i : Int) (b := 3) (by decide)
      have r1 := Int.fmod_lt_of_pos (i : Int) (b := 3) (by decide)
      have hcl : (cs.map V.int).length = 3 := by rw [List.length_map]; exact c7
      obtain ⟨v, hv, hm, _⟩ := at_int (xs := cs.map V.int) r0 (by rw [hcl]; exact r1)
      obtain ⟨y, _, rfl⟩ := List.mem_map.mp hm
      refine ⟨T, _, rfl, SqT.of upd_same, rfl, _, _, rfl, _, _, rfl, rfl, ?_⟩
      -- at = int(k) % top
      refine ⟨_, rfl, .inl ⟨_, rfl, _, rfl, _, _, rfl, rfl, (by show (3 : Int) ≠ 0; decide), ?_⟩⟩
      -- cells[at] = cells[at] + cell * (k + 2)
      refine ⟨_, rfl, _, rfl, c, _, _, _, rfl, rfl, SqL.of eT, hv, _, rfl, _, rfl, _, _, rfl, rfl, _, _, rfl, rfl, .inr ⟨by omega, by omega⟩, _, _, rfl, rfl, ?_⟩
      refine ⟨_, rfl, _, rfl, c, _, _, ((i : Int).fmod 3).toNat, rfl, rfl, eT, ?_, ?_⟩
      · unfold ixN
        rw [if_pos r0, if_pos (by rw [hcl]; exact r1)]
      · refine ⟨_, _, _, cs.set ((i : Int).fmod 3).toNat (y + z * ((i : Int) + 2)), rfl, ?_, ?_, ?_, ?_⟩
        · rw [upd_ne ndc, upd_ne nTd]
          exact ed3
        · rw [upd_same, List.map_set]
        · rw [List.length_set]
          exact c5
        · rw [List.length_set]
          exact c6
  · refine .inl ⟨⟨ms, SqL.of ed3, by omega⟩, ?_⟩
    exact ⟨_, rfl, q c cs H3 c5 ec3⟩
end
end K03

/-! Law k03, part D: _law_same, for equal texts, tuples and lists to a depth. -/
namespace K03
open PySem PySem.Spec PyProof.Rows L2
/-- two values alike in H, to the depth n: equal texts, tuples or lists of like things -/
def Alike (H : Hp) : Nat → V → V → Prop
  | 0, _, _ => False
  | n + 1, x, y => (∃ s, x = .str s ∧ y = .str s) ∨ ∃ (a b : Addr) (xs ys : List V), x = .ref a ∧ y = .ref b ∧ ((H a = some (.tup xs) ∧ H b = some (.tup ys)) ∨ (H a = some (.lst xs) ∧ H b = some (.lst ys))) ∧
      xs.length ≤ 1000 ∧ xs.length = ys.length ∧ ∀ (i : Nat) (v z : V), xs[i]? = some v → ys[i]? = some z → Alike H n v z
theorem Alike.same {H H' : Hp} (s : Same H H') : ∀ {n : Nat} {x y : V}, Alike H n x y → Alike H' n x y
  | 0, _, _, h => h
  | n + 1, x, y, h => by
    rcases h with h | ⟨a, b, xs, ys, e1, e2, h, l1, l2, k⟩
    · exact .inl h
    · exact .inr ⟨a, b, xs, ys, e1, e2, h.imp (fun q => ⟨s _ _ q.1, s _ _ q.2⟩) (fun q => ⟨s _ _ q.1, s _ _ q.2⟩), l1, l2, fun i v z h1 h2 => Alike.same s (k i v z h1 h2)⟩
def spSame (n : Nat) : Sp := fun vs H Q _ => ∃ x y : V, vs = [x, y] ∧ Alike H n x y ∧ ∀ H', Same H H' → Q (.bl true) H'
theorem scSame : FnScope ["_law_got", "_law_goal", "_law_mine_so", "_law_own"] ["_law_got", "_law_goal"] (defScope stSame) := ⟨rfl, rfl, rfl, by decide +kernel, rfl, by decide +kernel, by decide +kernel⟩
/-- a comprehension by its turns' number, over whatever is walked -/
theorem lc_turns {J : It} {n : Nat} {g : TG} {tt : TT} {te : TE} {vs : List Nat} {σ : L2.St} {H1 : Hp} {D : Addr} {Qd : Hp → Prop} (Pv : Nat → Hp → Prop) (h0 : Pv 0 (upd H1 D (.lst [])))
    (hgo : ∀ i H, i < n → Pv i H → J.go i H) (hstop : ∀ H, Pv n H → J.stop n H)
    (hs : ∀ i H x H', i < n → Pv i H → J.yld i H x H' → g x (wipe σ vs) H' fun σ2 H2 => wipe σ2 vs = wipe σ vs ∧ tt σ2 H2 fun b H3 =>
      if b = true then te σ2 H3 fun y H4 => ∃ acc, H4 D = some (.lst acc) ∧ acc.length < sizeLine ∧ Pv (i + 1) (upd H4 D (.lst (acc ++ [y]))) else Pv (i + 1) H3) (hd : ∀ H, Pv n H → Qd H) :
    ∃ W : Nat → Nat → Hp → Prop, (∃ m, W 0 m (upd H1 D (.lst []))) ∧ ∀ i m H, W i m H →
      (J.stop i H ∧ Qd H) ∨ (J.go i H ∧ ∃ Nx : Hp → Prop, (∀ H', Nx H' → ∃ m', m' < m ∧ W (i + 1) m' H') ∧ ∀ x H', J.yld i H x H' → g x (wipe σ vs) H' fun σ2 H2 => wipe σ2 vs = wipe σ vs ∧ tt σ2 H2 fun b H3 =>
        if b = true then te σ2 H3 fun y H4 => ∃ acc, H4 D = some (.lst acc) ∧ acc.length < sizeLine ∧ Nx (upd H4 D (.lst (acc ++ [y]))) else Nx H3) := by
  refine ⟨fun i m H => i + m = n ∧ Pv i H, ⟨n, Nat.zero_add n, h0⟩, fun i m H hW => ?_⟩
  obtain ⟨e, p⟩ := hW
  cases m with
  | zero =>
    have e' : i = n := e
    subst e'
    exact .inl ⟨hstop H p, hd H p⟩
  | succ m =>
    have lt : i < n := by omega
    exact .inr ⟨hgo i H lt p, Pv (i + 1), fun H' p' => ⟨m, Nat.lt_succ_self m, by omega, p'⟩, fun x H' y => hs i H x H' lt p y⟩
/-! ### isinstance against a pair of classes -/
theorem isAny2 {K : PySem.W.Frag} {t a b : String} {r1 r2 r : Bool} (h1 : kitB t a = some r1) (h2 : kitB t b = some r2) (e : r = (r1 || r2)) : PySem.W.kitAny K (.type t) [.type a, .type b] = some r := by
  subst e
  refine kitAny_cons (kit_ty h1) (fun z => ?_) (fun z => by rw [z]; rfl)
  rw [z]
  exact kitAny_cons (kit_ty h2) (fun y => by rw [y]; exact kitAny_nil) (fun y => by rw [y]; rfl)
theorem cls2 (a b : String) : Paired ClsV [V.ty a, V.ty b] [Value.type a, Value.type b] := .cons (.ty a) (.cons (.ty b) .nil)
/-- the comprehension of _law_same over pairs of like things: a list of so many True -/
theorem comp_same {K : PySem.W.Frag} {n : Nat} {J : It} {a b D : Addr} {xs ys : List V} {H1 : Hp} {Qd : Hp → Prop} (l1 : xs.length ≤ 1000) (hD : H1 D = none)
    (hk : ∀ (i : Nat) (v z : V), xs[i]? = some v → ys[i]? = some z → Alike H1 n v z)
    (hgo : ∀ i H, i < xs.length → Same H1 H → J.go i H) (hstop : ∀ H, Same H1 H → J.stop xs.length H)
    (hy : ∀ i H v H', Same H1 H → J.yld i H v H' → ∃ T x y, v = .ref T ∧ H T = none ∧ H' = upd H T (.tup [x, y]) ∧ xs[i]? = some x ∧ ys[i]? = some y)
    (hd : ∀ H, Same H1 H → H D = some (.lst ((List.replicate xs.length true).map V.bl)) → Qd H) :
    ∃ W : Nat → Nat → Hp → Prop, (∃ m, W 0 m (upd H1 D (.lst []))) ∧ ∀ i m H, W i m H →
      (J.stop i H ∧ Qd H) ∨ (J.go i H ∧ ∃ Nx : Hp → Prop, (∀ H', Nx H' → ∃ m', m' < m ∧ W (i + 1) m' H') ∧ ∀ x H', J.yld i H x H' → gTup K 2 (gCons (gName 2) (gCons (gName 3) gNil)) x (wipe [some (.ref a), some (.ref b), none, none] [2, 3]) H' fun σ2 H2 =>
        wipe σ2 [2, 3] = wipe [some (.ref a), some (.ref b), none, none] [2, 3] ∧ tYes σ2 H2 fun b H3 => if b = true then tCall (spSame n) [] E0 (tCons (tVar 2) (tCons (tVar 3) tNil)) σ2 H3 fun y H4 =>
          ∃ acc, H4 D = some (.lst acc) ∧ acc.length < sizeLine ∧ Nx (upd H4 D (.lst (acc ++ [y]))) else Nx H3) := by
  refine lc_turns (n := xs.length) (fun i H => Same H1 H ∧ H D = some (.lst ((List.replicate i true).map V.bl))) ⟨same_upd hD, upd_same⟩ (fun i H lt p => hgo i H lt p.1) (fun H p => hstop H p.1) (fun i H x H' lt p y => ?_) (fun H p => hd H p.1 p.2)
  obtain ⟨s1, e1⟩ := p
  obtain ⟨T, v, z, rfl, hT, rfl, hv, hz⟩ := hy i H x H' s1 y
  have nT : D ≠ T := ne_of_none e1 hT
  have s2 : Same H (upd H T (.tup [v, z])) := same_upd hT
  refine ⟨T, _, rfl, SqT.of upd_same, rfl, v, _, rfl, z, _, rfl, rfl, rfl, ?_⟩
  refine iteT (B := Same H1 (upd H T (.tup [v, z])) ∧ upd H T (.tup [v, z]) D = some (.lst ((List.replicate (i + 1) true).map V.bl))) ?_
  refine ⟨_, rfl, _, rfl, v, z, rfl, Alike.same (s1.trans s2) (hk i v z hv hz), fun H2 s3 => ?_⟩
  refine ⟨_, s3 _ _ (s2 _ _ e1), ?_, ?_, ?_⟩
  · rw [List.length_map, List.length_replicate]
    exact small1000 (by omega)
  · intro c o e
    have nc : c ≠ D := ne_of_none e hD
    rw [upd_ne nc]
    exact s3 _ _ (s2 _ _ (s1 _ _ e))
  · rw [upd_same, List.replicate_succ', List.map_append]
    rfl
section
variable {P : Program} {w : World} {K : PySem.W.Frag} {mg : Str → Option Value} {base : Heap} {f : Addr} {fd : FuncData}
theorem same_none : FnOk P w K mg base CX0 0 f fd ["_law_got", "_law_goal"] (spSame 0) := by
  have no : ∀ vs H Q E, ¬ spSame 0 vs H Q E := fun vs H Q E h => by
    obtain ⟨x, y, _, h, _⟩ := h
    exact h
  exact ⟨fun vs H Q E h => absurd h (no vs H Q E), fun A outer s H args us vs Q E _ _ _ _ h => absurd h (no vs H Q E)⟩
structure Free (mg : Str → Option Value) : Prop where
  isi : mg "isinstance" = none
  lst : mg "list" = none
  tup : mg "tuple" = none
  len : mg "len" = none
  all : mg "all" = none
  zip : mg "zip" = none
  boo : mg "bool" = none
  str : mg "str" = none
  int : mg "int" = none
theorem same_more {n : Nat} (F : Fun K "_law_same" "_law_same" stSame f fd) (G : FnOk P w K mg base CX0 n f fd ["_law_got", "_law_goal"] (spSame n)) (bG : Binds K fd ["_law_got", "_law_goal"] []) (mG : mg "_law_same" = some (.ref f)) (M : Free mg) :
    FnOk P w K mg base CX0 (n + 1) f fd ["_law_got", "_law_goal"] (spSame (n + 1)) := by
  refine F.ok scSame (fun vs H Q E h => ?_) (fun cdv A outer s H vs Q E hr h => ?_)
  · obtain ⟨x, y, rfl, _⟩ := h
    rfl
  obtain ⟨x, y, rfl, hxy, q⟩ := h
  refine ⟨_, pss_cons (ps_if (pt_val (pe_callB call_isiT (by rfl) M.isi (by decide +kernel) (pa_cons (pv 1) (pa_cons (pe_tup (pa_cons (pe_bltn (v := .ty "list") (by rfl) M.lst (by decide +kernel) rfl) (pa_cons (pe_bltn (v := .ty "tuple") (by rfl) M.tup (by decide +kernel) rfl) pa_nil))) pa_nil))))
      (pss_cons (ps_if (PW.pt (pw_or (pt_cmpR op_ne (pe_callB call_isi (by rfl) M.isi (by decide +kernel) (pa_cons (pv 0) (pa_cons (pe_bltn (v := .ty "list") (by rfl) M.lst (by decide +kernel) rfl) pa_nil)))
            (pe_callB call_isi (by rfl) M.isi (by decide +kernel) (pa_cons (pv 1) (pa_cons (pe_bltn (v := .ty "list") (by rfl) M.lst (by decide +kernel) rfl) pa_nil))) (nomark _))
          (pw_or1 (pt_cmpR op_ne (pe_callB call_isi (by rfl) M.isi (by decide +kernel) (pa_cons (pv 0) (pa_cons (pe_bltn (v := .ty "tuple") (by rfl) M.tup (by decide +kernel) rfl) pa_nil)))
            (pe_callB call_isi (by rfl) M.isi (by decide +kernel) (pa_cons (pv 1) (pa_cons (pe_bltn (v := .ty "tuple") (by rfl) M.tup (by decide +kernel) rfl) pa_nil))) (nomark _)))))
          (pss_one (ps_ret pe_bl)) pss_nil)
      (pss_one (ps_ret (pe_and (pe_cmpR op_eq (pe_callB call_len_seq (by rfl) M.len PySem.boot_len (pa_cons (pv 0) pa_nil)) (pe_callB call_len_seq (by rfl) M.len PySem.boot_len (pa_cons (pv 1) pa_nil)) (nomark _))
        (pe_one (pe_callB (cr_all rfl) (by rfl) M.all (by decide +kernel) (pa_cons
          (pe_lc (own := [("_law_mine_so", 2), ("_law_own", 3)]) (g := gTup K 2 (gCons (gName 2) (gCons (gName 3) gNil))) (tt := tYes) (te := tCall (spSame n) [] E0 (tCons (tVar 2) (tCons (tVar 3) tNil))) rfl scSame.nd (RZ.pi_zipA (by rfl) M.zip (pa_cons (pv 0) (pa_cons (pv 1) pa_nil)))
            (blkOk_by (own := [("_law_mine_so", 2), ("_law_own", 3)]) (N := ["_law_got", "_law_goal", "_law_mine_so", "_law_own"]) (sc := defScope stSame) (by decide +kernel))
            (fun _ _ _ _ _ => pg_tup rfl (pgs_cons (pg_name (i := 2) scSame.nd rfl (.inl rfl)) (pgs_cons (pg_name (i := 3) scSame.nd rfl (.inl rfl)) pgs_nil)))
            (fun _ _ _ _ _ => pts_nil) (fun _ _ _ _ _ => pe_call G hr rfl mG F.kp bG .nil pass0 (pa_cons (pv 2) (pa_cons (pv 3) pa_nil)))) pa_nil))))))) pss_nil)
    (pss_cons (ps_if (PW.pt (pw_or (pt_cmp (pc_isN (pv 1)) rfl) (pw_or1 (pt_val (pe_callB call_isiT (by rfl) M.isi (by decide +kernel) (pa_cons (pv 1) (pa_cons (pe_tup (pa_cons (pe_bltn (v := .ty "bool") (by rfl) M.boo (by decide +kernel) rfl) (pa_cons (pe_bltn (v := .ty "str") (by rfl) M.str (by decide +kernel) rfl) pa_nil))) pa_nil)))))))
      (pss_one (ps_ret (pe_and (pe_cmpR op_eq (pv 0) (pv 1) (nomark _)) (pe_and (pe_cmpR op_eq (pe_callB call_isi (by rfl) M.isi (by decide +kernel) (pa_cons (pv 0) (pa_cons (pe_bltn (v := .ty "bool") (by rfl) M.boo (by decide +kernel) rfl) pa_nil)))
            (pe_callB call_isi (by rfl) M.isi (by decide +kernel) (pa_cons (pv 1) (pa_cons (pe_bltn (v := .ty "bool") (by rfl) M.boo (by decide +kernel) rfl) pa_nil))) (nomark _))
          (pe_one (pe_cmpR op_eq (pe_cmp (pc_isN (pv 0)) rfl) (pe_cmp (pc_isN (pv 1)) rfl) (nomark _))))))) pss_nil)
    (pss_one (ps_ret (pe_and (pe_callB call_isi (by rfl) M.isi (by decide +kernel) (pa_cons (pv 0) (pa_cons (pe_bltn (v := .ty "int") (by rfl) M.int (by decide +kernel) rfl) pa_nil)))
      (pe_and (pe_not (pe_callB call_isi (by rfl) M.isi (by decide +kernel) (pa_cons (pv 0) (pa_cons (pe_bltn (v := .ty "bool") (by rfl) M.boo (by decide +kernel) rfl) pa_nil)))) (pe_one (pe_cmpR op_eq (pv 0) (pv 1) (nomark _)))))))), ?_⟩
  rcases hxy with ⟨z, rfl, rfl⟩ | ⟨a, b, xs, ys, rfl, rfl, hxy, l1, l2, hk⟩
  · -- texts
    refine ⟨_, rfl, (by show 2 ≤ sizeLine; decide), fun t ht => ?_⟩
    refine ⟨_, t, _, _, _, false, rfl, upd_same, cls2 "list" "tuple", .base (.str z), isAny2 (r1 := false) (r2 := false) (by decide +kernel) (by decide +kernel) rfl, _, rfl, iteF ?_⟩
    refine ⟨_, rfl, _, rfl, iteF ?_⟩
    refine ⟨_, rfl, (by show 2 ≤ sizeLine; decide), fun t2 ht2 => ?_⟩
    refine ⟨_, t2, _, _, _, true, rfl, upd_same, cls2 "bool" "str", .base (.str z), isAny2 (r1 := false) (r2 := true) (by decide +kernel) (by decide +kernel) rfl, _, rfl, iteT ?_⟩
    refine ⟨_, rfl, _, rfl, rfl, _, rfl, ?_⟩
    rw [decide_eq_true rfl]
    refine iteT ?_
    refine ⟨_, rfl, _, _, _, _, false, rfl, .ty "bool", .base (.str z), kit_ty (by decide +kernel), _, rfl, _, _, _, _, false, rfl, .ty "bool", .base (.str z), kit_ty (by decide +kernel), rfl, _, rfl, ?_⟩
    rw [decide_eq_true rfl]
    refine iteT ⟨_, rfl, _, rfl, rfl, ?_⟩
    exact q _ ((same_upd ht).trans (same_upd ht2))
  · -- tuples or lists
    have lens : V.int ((xs.length : Nat) : Int) = V.int ((ys.length : Nat) : Int) := by rw [l2]
    have done : ∀ bs : List Bool, bs = List.replicate xs.length true → bs.all id = true := fun bs e => by
      subst e
      simp
    refine ⟨_, rfl, (by show 2 ≤ sizeLine; decide), fun t ht => ?_⟩
    have s1 : Same H (upd H t (.tup [.ty "list", .ty "tuple"])) := same_upd ht
    have hk1 : ∀ (i : Nat) (v z : V), xs[i]? = some v → ys[i]? = some z → Alike (upd H t (.tup [.ty "list", .ty "tuple"])) n v z := fun i v z e1 e2 => Alike.same s1 (hk i v z e1 e2)
    rcases hxy with ⟨ha, hb⟩ | ⟨ha, hb⟩
    · have ha1 := s1 _ _ ha
      have hb1 := s1 _ _ hb
      refine ⟨_, t, _, _, _, true, rfl, upd_same, cls2 "list" "tuple", .base (.tup hb1), isAny2 (r1 := false) (r2 := true) (by decide +kernel) (by decide +kernel) rfl, _, rfl, iteT ?_⟩
      refine ⟨_, rfl, _, _, _, _, false, rfl, .ty "list", .base (.tup ha1), kit_ty (by decide +kernel), _, rfl, _, _, _, _, false, rfl, .ty "list", .base (.tup hb1), kit_ty (by decide +kernel), rfl, _, rfl, iteNS rfl ?_⟩
      refine ⟨_, rfl, _, _, _, _, true, rfl, .ty "tuple", .base (.tup ha1), kit_ty (by decide +kernel), _, rfl, _, _, _, _, true, rfl, .ty "tuple", .base (.tup hb1), kit_ty (by decide +kernel), rfl, _, rfl, iteNS rfl ?_⟩
      refine ⟨_, rfl, a, _, rfl, .inr (SqT.of ha1), _, rfl, b, _, rfl, .inr (SqT.of hb1), rfl, _, rfl, ?_⟩
      rw [decide_eq_true lens]
      refine iteT ⟨_, rfl, _, rfl, a, b, xs, ys, rfl, .inr ⟨SqT.of ha1, SqT.of hb1, fun D hD => comp_same l1 hD hk1 (fun i H2 lt s2 => ?_) (fun H2 s2 => ?_) (fun i H2 v H3 s2 y => ?_) (fun H2 s2 e2 => ?_)⟩⟩
      · exact ⟨xs, ys, _, _, SqT.of (s2 _ _ ha1), SqT.of (s2 _ _ hb1), List.getElem?_eq_getElem lt, List.getElem?_eq_getElem (by omega)⟩
      · exact ⟨xs, ys, SqT.of (s2 _ _ ha1), SqT.of (s2 _ _ hb1), .inl (Nat.le_refl _)⟩
      · obtain ⟨T, x, z, e1, e2, e3, f1, f2⟩ := y
        exact ⟨T, x, z, e1, e2, e3, f1 xs (SqT.of (s2 _ _ ha1)), f2 ys (SqT.of (s2 _ _ hb1))⟩
      · refine ⟨D, _, rfl, SqL.of e2, ?_⟩
        rw [done _ rfl]
        exact q H2 (s1.trans s2)
    · have ha1 := s1 _ _ ha
      have hb1 := s1 _ _ hb
      refine ⟨_, t, _, _, _, true, rfl, upd_same, cls2 "list" "tuple", .base (.lst hb1), isAny2 (r1 := true) (r2 := false) (by decide +kernel) (by decide +kernel) rfl, _, rfl, iteT ?_⟩
      refine ⟨_, rfl, _, _, _, _, true, rfl, .ty "list", .base (.lst ha1), kit_ty (by decide +kernel), _, rfl, _, _, _, _, true, rfl, .ty "list", .base (.lst hb1), kit_ty (by decide +kernel), rfl, _, rfl, iteNS rfl ?_⟩
      refine ⟨_, rfl, _, _, _, _, false, rfl, .ty "tuple", .base (.lst ha1), kit_ty (by decide +kernel), _, rfl, _, _, _, _, false, rfl, .ty "tuple", .base (.lst hb1), kit_ty (by decide +kernel), rfl, _, rfl, iteNS rfl ?_⟩
      refine ⟨_, rfl, a, _, rfl, .inl (SqL.of ha1), _, rfl, b, _, rfl, .inl (SqL.of hb1), rfl, _, rfl, ?_⟩
      rw [decide_eq_true lens]
      refine iteT ⟨_, rfl, _, rfl, a, b, xs, ys, rfl, .inl ⟨SqL.of ha1, SqL.of hb1, fun D hD => comp_same l1 hD hk1 (fun i H2 lt s2 => ?_) (fun H2 s2 => ?_) (fun i H2 v H3 s2 y => ?_) (fun H2 s2 e2 => ?_)⟩⟩
      · exact ⟨xs, ys, _, _, SqL.of (s2 _ _ ha1), SqL.of (s2 _ _ hb1), List.getElem?_eq_getElem lt, List.getElem?_eq_getElem (by omega)⟩
      · exact ⟨xs, ys, SqL.of (s2 _ _ ha1), SqL.of (s2 _ _ hb1), .inl (Nat.le_refl _)⟩
      · obtain ⟨T, x, z, e1, e2, e3, f1, f2⟩ := y
        exact ⟨T, x, z, e1, e2, e3, f1 xs (SqL.of (s2 _ _ ha1)), f2 ys (SqL.of (s2 _ _ hb1))⟩
      · refine ⟨D, _, rfl, SqL.of e2, ?_⟩
        rw [done _ rfl]
        exact q H2 (s1.trans s2)
theorem ok_same (F : Fun K "_law_same" "_law_same" stSame f fd) (bG : Binds K fd ["_law_got", "_law_goal"] []) (mG : mg "_law_same" = some (.ref f)) (M : Free mg) : ∀ n, FnOk P w K mg base CX0 n f fd ["_law_got", "_law_goal"] (spSame n)
  | 0 => same_none
  | n + 1 => same_more F (ok_same F bG mG M n) bG mG M
end
end K03

/-! Law k03, part E: the drawn names: nine texts. -/
namespace K03
open PySem PySem.Spec PyProof.Rows L2
def spTags : Sp := fun vs H Q _ => ∃ (u : Addr) (n : Nat), vs = [.ref u, .int 9] ∧ Urn n H u ∧ n ≤ 800000 ∧
  ∀ (p : Addr) (ss : List Str) (H' : Hp), ss.length = 9 → Sb u H H' → p ≠ u → Lx H' p ss → Urn (n + 20) H' u → Q (.ref p) H'
theorem scTags : FnScope ["_law_urn", "_law_many_so", "_law_signs", "_law_first_so", "_law_by_so", "_law_row_so", "_law_stem", "_law_at_so", "_law_k", "_law_turn"] ["_law_urn", "_law_many_so"] (defScope stTags) := ⟨rfl, rfl, rfl, by decide +kernel, rfl, by decide +kernel, by decide +kernel⟩
theorem at_nat {xs : List Nat} {r : Int} (h0 : 0 ≤ r) (h1 : r < (xs.length : Nat)) : ∃ v, atI xs r = some v := by
  have lt : r.toNat < xs.length := by omega
  have e : r = ((r.toNat : Nat) : Int) := by omega
  refine ⟨xs[r.toNat], ?_⟩
  have z := atI_nat (xs := xs) (j := r.toNat) (List.getElem?_eq_getElem lt)
  rw [← e] at z
  exact z
theorem cut_len (z : Str) (lo hi : Option Int) : (cutS z lo hi).length ≤ z.length := by
  unfold cutS Str.length
  rw [List.size_toArray, List.length_take, List.length_drop, Array.length_toList]
  have h2 : HT.sIx z.cps.size z.cps.size hi ≤ z.cps.size := HT.sIx_le _ _ (Nat.le_refl _) _
  show min (HT.sIx z.cps.size z.cps.size hi - HT.sIx z.cps.size 0 lo) (z.cps.size - HT.sIx z.cps.size 0 lo) ≤ z.cps.size
  omega
theorem glue_len {ys : List Str} (h : ∀ y ∈ ys, y.length ≤ 1) : (Txt.join (Str.ofString "") ys).length ≤ ys.length := by
  have h1 := PySem.StrLaws.sumLen_le ys h
  show (Builtin.Str.glued (Str.ofString "") ys).length ≤ ys.length
  rw [size_glued]
  have h0 : (Str.ofString "").length = 0 := by decide +kernel
  rw [h0]
  omega
end K03

/-! Law k03, part E2: _law_tags. -/
namespace K03
open PySem PySem.Spec PyProof.Rows L2
abbrev tagN : List Str := ["_law_urn", "_law_many_so", "_law_signs", "_law_first_so", "_law_by_so", "_law_row_so", "_law_stem", "_law_at_so", "_law_k", "_law_turn"]
structure FreeT (mg : Str → Option Value) : Prop where
  range : mg "range" = none
  max : mg "max" = none
  len : mg "len" = none
  int : mg "int" = none
theorem yes {σ : L2.St} {H : Hp} {A B : Hp → Prop} (h : A H) : tYes σ H (fun b H3 => if b = true then A H3 else B H3) := iteT (A := A H) (B := B H) h
theorem alphabet_len : (Str.ofString "abcdefghijklmnopqrstuvwxyz").length = 26 := by decide +kernel
theorem sign_at {r : Int} (h0 : 0 ≤ r) (h1 : r < 26) : ∃ c, atI (Str.ofString "abcdefghijklmnopqrstuvwxyz").cps.toList r = some c := by
  refine at_nat h0 ?_
  have e : (Str.ofString "abcdefghijklmnopqrstuvwxyz").cps.toList.length = 26 := by
    rw [Array.length_toList]
    exact alphabet_len
  rw [e]
  exact h1
theorem one_sign (c : Nat) : (⟨#[c]⟩ : Str).length = 1 := rfl
/-- signs gathered in a list -/
def Signs (H : Hp) (D : Addr) (i : Nat) : Prop := ∃ rs : List Str, Lx H D rs ∧ rs.length = i ∧ ∀ r ∈ rs, r.length = 1
theorem Signs.nil {H : Hp} {D : Addr} : Signs (upd H D (.lst [])) D 0 := ⟨[], upd_same, rfl, fun _ z => nomatch z⟩
theorem signs_more {H : Hp} {D : Addr} {rs : List Str} {c : Nat} (h : ∀ r ∈ rs, r.length = 1) : Signs (upd H D (.lst (rs.map V.str ++ [.str ⟨#[c]⟩]))) D (rs.length + 1) := by
  refine ⟨rs ++ [⟨#[c]⟩], ?_, by simp, fun r hr => ?_⟩
  · show upd H D _ D = _
    rw [upd_same, List.map_append]
    rfl
  · rcases List.mem_append.mp hr with z | z
    · exact h r z
    · rw [List.mem_singleton.mp z]
      rfl
section
variable {P : Program} {w : World} {K : PySem.W.Frag} {mg : Str → Option Value} {base : Heap} {f g1 g2 g3 : Addr} {fd d1 d2 d3 : FuncData}
theorem ok_tags (F : Fun K "_law_tags" "_law_tags" stTags f fd)
    (G1 : FnOk P w K mg base CX0 1 g1 d1 ["_law_urn", "_law_low_so"] spTake) (b1 : Binds K d1 ["_law_urn", "_law_low_so"] []) (k1 : PySem.W.keepIn K (.ref g1) = true) (m1 : mg "_law_take" = some (.ref g1))
    (G2 : FnOk P w K mg base CX0 2 g2 d2 ["_law_urn", "_law_some_so"] (spOf K)) (b2 : Binds K d2 ["_law_urn", "_law_some_so"] []) (k2 : PySem.W.keepIn K (.ref g2) = true) (m2 : mg "_law_of" = some (.ref g2))
    (G3 : FnOk P w K mg base CX0 2 g3 d3 ["_law_urn", "_law_pool"] (spMixed K)) (b3 : Binds K d3 ["_law_urn", "_law_pool"] []) (k3 : PySem.W.keepIn K (.ref g3) = true) (m3 : mg "_law_mixed" = some (.ref g3)) (M : FreeT mg) :
    FnOk P w K mg base CX0 3 f fd ["_law_urn", "_law_many_so"] spTags := by
  refine F.ok scTags (fun vs H Q E h => ?_) (fun cdv A outer s H vs Q E hr h => ?_)
  · obtain ⟨u, n, rfl, _⟩ := h
    rfl
  obtain ⟨u, n, rfl, hu, hn, q⟩ := h
  have hr1 := hr.mono (show 1 ≤ 2 by decide)
  refine ⟨_, pss_cons (ps_set (i := 2) scTags.nd rfl (.inr rfl) pe_str)
    (pss_cons (ps_asg (pe_tup (pa_cons (pe_call G1 hr1 rfl m1 k1 b1 .nil pass0 (pa_cons (pv 0) (pa_cons pe_int pa_nil)))
        (pa_cons (pe_call G2 hr rfl m2 k2 b2 .nil pass0 (pa_cons (pv 0) (pa_cons (pe_lst (pa_cons pe_int (pa_cons pe_int (pa_cons pe_int (pa_cons pe_int (pa_cons pe_int pa_nil)))))) pa_nil))) pa_nil)))
      (pg_tup rfl (pgs_cons (pg_name (i := 3) scTags.nd rfl (.inr rfl)) (pgs_cons (pg_name (i := 4) scTags.nd rfl (.inr rfl)) pgs_nil))))
    (pss_cons (ps_set (i := 5) scTags.nd rfl (.inr rfl) (pe_lc (own := [("_law_k", 8)]) (g := gName 8) (tt := tYes) rfl scTags.nd (pi_range1 rfl M.range (pa_cons (pe_callB (call_max2 rfl) (by rfl) M.max (by decide +kernel) (pa_cons pe_int (pa_cons (pv 1) pa_nil))) pa_nil))
        (blkOk_by (own := [("_law_k", 8)]) (N := tagN) (sc := defScope stTags) (by decide +kernel)) (fun _ _ _ _ _ => pg_name (i := 8) scTags.nd rfl (.inl rfl)) (fun _ _ _ _ _ => pts_nil)
        (fun _ _ _ _ _ => pe_ix ix_str (pv 2) (pe_op op_modN (pe_callTy call_int1 (by rfl) M.int (by decide +kernel) (pa_cons (pe_op op_add (pv 3) (pe_op op_mul (pv 4) (pv 8))) pa_nil)) pe_int) (fun _ _ => rfl))))
    (pss_cons (ps_if (PW.pt (pw_and (pt_cmpR op_lt (pv 1) pe_int (nomark _)) (pw_and1 (pt_cmpR op_eq (pe_call G1 hr1 rfl m1 k1 b1 .nil pass0 (pa_cons (pv 0) (pa_cons pe_int pa_nil))) pe_int (nomark _))))) (pss_one ps_never) pss_nil)
    (pss_cons (ps_set (i := 6) scTags.nd rfl (.inr rfl) (pe_join pe_str (pe_lc (own := [("_law_turn", 9)]) (g := gName 9) (tt := tYes) (te := tOp rIxS (tVar 2) (tCall spTake [] E0 (tCons (tVar 0) (tCons (tC (.int 26)) tNil)))) rfl scTags.nd
        (pi_range1 rfl M.range (pa_cons (pe_call G2 hr rfl m2 k2 b2 .nil pass0 (pa_cons (pv 0) (pa_cons (pe_lst (pa_cons pe_int (pa_cons pe_int (pa_cons pe_int (pa_cons pe_int (pa_cons pe_int pa_nil)))))) pa_nil))) pa_nil))
        (blkOk_by (own := [("_law_turn", 9)]) (N := tagN) (sc := defScope stTags) (by decide +kernel)) (fun _ _ _ _ _ => pg_name (i := 9) scTags.nd rfl (.inl rfl)) (fun _ _ _ _ _ => pts_nil)
        (fun _ _ _ _ _ => pe_ix ix_str (pv 2) (pe_call G1 hr1 rfl m1 k1 b1 .nil pass0 (pa_cons (pv 0) (pa_cons pe_int pa_nil))) (fun _ _ => rfl)))))
    (pss_cons (ps_set (i := 7) scTags.nd rfl (.inr rfl) (pe_call G1 hr1 rfl m1 k1 b1 .nil pass0 (pa_cons (pv 0) (pa_cons (pe_op op_add (pe_callB call_len_str (by rfl) M.len PySem.boot_len (pa_cons (pv 6) pa_nil)) pe_int) pa_nil))))
    (pss_one (ps_ret (pe_call G3 hr rfl m3 k3 b3 .nil pass0 (pa_cons (pv 0) (pa_cons (pe_lc (own := [("_law_k", 8)]) (g := gName 8) (tt := tYes)
        (te := tOp (fun x y H Q => ∃ i j, x = .str i ∧ y = .str j ∧ i.length + j.length ≤ sizeLine ∧ Q (.str (i ++ j)) H) (tOp (fun x y H Q => ∃ i j, x = .str i ∧ y = .str j ∧ i.length + j.length ≤ sizeLine ∧ Q (.str (i ++ j)) H)
          (tSl rSlS (tVar 6) tNoPart (tPart (tVar 7))) (tOp (rIxL K) (tVar 5) (tVar 8))) (tSl rSlS (tVar 6) (tPart (tVar 7)) tNoPart)) rfl scTags.nd (pi_range1 rfl M.range (pa_cons (pv 1) pa_nil))
        (blkOk_by (own := [("_law_k", 8)]) (N := tagN) (sc := defScope stTags) (by decide +kernel)) (fun _ _ _ _ _ => pg_name (i := 8) scTags.nd rfl (.inl rfl)) (fun _ _ _ _ _ => pts_nil)
        (fun _ _ _ _ _ => pe_op op_add_str (pe_op op_add_str (pe_slice sl_str (pv 6) po_none (po_some (pv 7))) (pe_ix ix_list (pv 5) (pv 8) (fun _ _ => rfl))) (pe_slice sl_str (pv 6) (po_some (pv 7)) po_none))) pa_nil)))))))))), ?_⟩
  -- first, by = take(urn, 26), of(urn, [1, 3, 7, 11, 25])
  refine ⟨_, rfl, u, 26, n, rfl, by decide, by decide, hu, by omega, fun r1 H1 r1a r1b s1 u1 => ?_⟩
  refine ⟨_, rfl, (by show 5 ≤ sizeLine; decide), fun l hl => ?_⟩
  refine ⟨u, l, _, n + 1, rfl, SqL.of upd_same, u1.ne hl, by show 0 < 5; decide, by show 5 ≤ 1000; decide, u1.laid hl, by omega, fun x H2 hx s2 u2 => ?_⟩
  obtain ⟨b, rfl⟩ : ∃ b, x = .int b := by
    simp only [List.mem_cons, List.not_mem_nil, or_false] at hx
    rcases hx with e | e | e | e | e <;> exact ⟨_, e⟩
  refine ⟨(by show 2 ≤ sizeLine; decide), fun t ht => ⟨t, _, rfl, SqT.of upd_same, rfl, _, _, rfl, _, _, rfl, rfl, ?_⟩⟩
  have sA : Sb u H (upd H2 t (.tup [.int r1, .int b])) := ((s1.trans (Sb.of (same_upd hl))).trans s2).trans (Sb.of (same_upd ht))
  have uA : Urn (n + 2) (upd H2 t (.tup [.int r1, .int b])) u := u2.laid ht
  generalize upd H2 t (.tup [.int r1, .int b]) = H3 at sA uA
  -- row = [signs[..] for k in range(max(8, many))]
  refine ⟨_, rfl, 8, 9, rfl, 9, rfl, by decide, by decide, fun R hR => ?_⟩
  refine lc_range (lo := 0) (n := 9) (fun i H4 => Same H3 H4 ∧ Signs H4 R i) ⟨same_upd hR, Signs.nil⟩ (fun i H4 hi p => ?_) (fun H4 p => ?_)
  · obtain ⟨s4, rs, e4, l4, k4⟩ := p
    refine ⟨rfl, yes ?_⟩
    have q0 := Int.fmod_nonneg_of_pos (r1 + b * (0 + (i : Int))) (b := 26) (by decide)
    have q1 := Int.fmod_lt_of_pos (r1 + b * (0 + (i : Int))) (b := 26) (by decide)
    obtain ⟨c, hc⟩ := sign_at q0 q1
    refine ⟨_, rfl, _, rfl, _, rfl, _, rfl, _, _, rfl, rfl, .inr ⟨by omega, by omega⟩, _, _, rfl, rfl, .inl ⟨_, rfl, _, _, rfl, rfl, (by show (26 : Int) ≠ 0; decide), ?_⟩⟩
    refine ⟨_, _, c, rfl, rfl, (by rw [alphabet_len]; decide), hc, _, e4, ?_, ?_, ?_⟩
    · rw [List.length_map, l4]
      exact small1000 (by omega)
    · intro c o e
      rw [upd_ne (ne_of_none e hR)]
      exact s4 _ _ e
    · rw [← l4]
      exact signs_more k4
  obtain ⟨s4, hR4⟩ := p
  have nRu : R ≠ u := uA.ne hR
  have sB : Sb u H H4 := sA.trans (Sb.of s4)
  have uB : Urn (n + 2) H4 u := uA.same s4
  -- if many < 9 and ..: not here
  refine ⟨_, rfl, _, _, rfl, rfl, _, rfl, ite2 (fun c => absurd (of_decide_eq_true c) (by decide)) (fun c => iteF ?_)⟩
  -- stem = ''.join([signs[take(urn, 26)] for turn in range(of(urn, [0, 0, 1, 5, 7]))])
  refine ⟨⟨_, rfl⟩, _, rfl, (by show 5 ≤ sizeLine; decide), fun l5 hl5 => ?_⟩
  have n5R : R ≠ l5 := by
    obtain ⟨rs, e, _⟩ := hR4
    exact ne_of_none e hl5
  refine ⟨u, l5, _, n + 2, rfl, SqL.of upd_same, uB.ne hl5, by show 0 < 5; decide, by show 5 ≤ 1000; decide, uB.laid hl5, by omega, fun x H5 hx s5 u5 => ?_⟩
  obtain ⟨m, rfl, hm7⟩ : ∃ m : Nat, x = .int m ∧ m ≤ 7 := by
    simp only [List.mem_cons, List.not_mem_nil, or_false] at hx
    rcases hx with e | e | e | e | e
    · exact ⟨0, e, by decide⟩
    · exact ⟨0, e, by decide⟩
    · exact ⟨1, e, by decide⟩
    · exact ⟨5, e, by decide⟩
    · exact ⟨7, e, by decide⟩
  have sC : Sb u H H5 := (sB.trans (Sb.of (same_upd hl5))).trans s5
  have hR5 : Signs H5 R 9 := by
    obtain ⟨rs, e, q⟩ := hR4
    exact ⟨rs, s5 _ _ nRu (same_upd hl5 _ _ e), q⟩
  refine ⟨(m : Int), rfl, by omega, by omega, fun D hD => ?_⟩
  have nDu : D ≠ u := u5.ne hD
  refine lc_range (lo := 0) (n := ((m : Nat) : Int).toNat) (fun i H6 => Sb u H5 H6 ∧ Signs H6 D i ∧ Urn (n + 3 + i) H6 u) ⟨Sb.of (same_upd hD), Signs.nil, u5.laid hD⟩ (fun i H6 hi p => ?_) (fun H6 p => ?_)
  · obtain ⟨s6, ⟨rs, e6, l6, k6⟩, u6⟩ := p
    refine ⟨rfl, yes ?_⟩
    refine ⟨_, rfl, _, rfl, u, 26, n + 3 + i, rfl, by decide, by decide, u6, by omega, fun r7 H7 r7a r7b s7 u7 => ?_⟩
    obtain ⟨c, hc⟩ := sign_at r7a r7b
    refine ⟨_, _, c, rfl, rfl, (by rw [alphabet_len]; decide), hc, _, s7 _ _ nDu e6, ?_, ?_, ?_, ?_⟩
    · rw [List.length_map, l6]
      exact small1000 (by omega)
    · intro c o nb e
      rw [upd_ne (ne_of_none e hD)]
      exact s7 _ _ nb (s6 _ _ nb e)
    · rw [← l6]
      exact signs_more k6
    · obtain ⟨c0, c1, c2, h1, h2, h3⟩ := u7
      exact ⟨c0, c1, c2, by rw [upd_ne nDu.symm]; exact h1, h2, by omega⟩
  obtain ⟨s6, ⟨zs, e6, l6, k6⟩, u6⟩ := p
  rw [Int.toNat_natCast] at l6 u6
  have sD : Sb u H H6 := sC.trans s6
  have hR6 : Signs H6 R 9 := by
    obtain ⟨rs, e, q⟩ := hR5
    exact ⟨rs, s6 _ _ nRu e, q⟩
  have k6' : ∀ y ∈ zs, y.length ≤ 1 := fun y hy => Nat.le_of_eq (k6 y hy)
  have stem7 : (Txt.join (Str.ofString "") zs).length ≤ 7 := Nat.le_trans (glue_len k6') (by omega)
  refine ⟨_, D, zs, rfl, rfl, .inl (SqL.of e6), ?_, ?_⟩
  · have h1 := PySem.StrLaws.sumLen_le zs k6'
    have h0 : (Str.ofString "").length = 0 := by decide +kernel
    rw [h0]
    omega
  generalize Txt.join (Str.ofString "") zs = stem at stem7
  have stemS : stem.length ≤ sizeLine := small (by omega)
  -- at = take(urn, len(stem) + 1)
  refine ⟨_, rfl, _, rfl, stem, rfl, stemS, _, _, rfl, rfl, u, _, n + 3 + m, rfl, by omega, by omega, u6, by omega, fun r7 H7 r7a r7b s7 u7 => ?_⟩
  have hR7 : Signs H7 R 9 := by
    obtain ⟨rs, e, q⟩ := hR6
    exact ⟨rs, s7 _ _ nRu e, q⟩
  obtain ⟨rs, eR, lR, kR⟩ := hR7
  -- the names
  refine ⟨_, rfl, _, rfl, 9, rfl, by decide, by decide, fun D2 hD2 => ?_⟩
  refine lc_range (lo := 0) (n := 9) (fun i H8 => Same H7 H8 ∧ ∃ ts : List Str, Lx H8 D2 ts ∧ ts.length = i) ⟨same_upd hD2, [], upd_same, rfl⟩ (fun i H8 hi p => ?_) (fun H8 p => ?_)
  · obtain ⟨s8, ts, e8, l8⟩ := p
    refine ⟨rfl, yes ?_⟩
    obtain ⟨v, hv, hm, _⟩ := at_int (xs := rs.map V.str) (r := 0 + (i : Int)) (by omega) (by rw [List.length_map, lR]; omega)
    obtain ⟨z, hz, rfl⟩ := List.mem_map.mp hm
    have c1 := cut_len stem none (some r7)
    have c2 := cut_len stem (some r7) none
    have c3 := kR z hz
    refine ⟨_, rfl, _, rfl, r7, rfl, stem, rfl, stemS, _, rfl, _, rfl, R, _, _, _, rfl, rfl, SqL.of (s8 _ _ eR), hv, _, _, rfl, rfl, small (by omega), ?_⟩
    refine ⟨_, rfl, _, rfl, r7, rfl, stem, rfl, stemS, _, _, rfl, rfl, ?_, ?_⟩
    · rw [Str.length_append]
      exact small (by omega)
    refine ⟨_, e8, ?_, ?_, ts ++ [cutS stem none (some r7) ++ z ++ cutS stem (some r7) none], ?_, ?_⟩
    · rw [List.length_map, l8]
      exact small1000 (by omega)
    · intro c o e
      rw [upd_ne (ne_of_none e hD2)]
      exact s8 _ _ e
    · show upd H8 D2 _ D2 = _
      rw [upd_same, List.map_append]
      rfl
    · rw [List.length_append, l8]
      rfl
  obtain ⟨s8, ts, e8, l8⟩ := p
  have u8 := u7.same s8
  refine ⟨u, D2, ts.map V.str, n + 3 + m + 1, rfl, .inl (SqL.of e8), u7.ne hD2, by rw [List.length_map]; omega, u8, by omega, fun p ys H9 ly my s9 np e9 u9 => ?_⟩
  obtain ⟨zs, rfl⟩ := strs_of my
  rw [List.length_map] at ly u9
  rw [List.length_map] at ly
  exact q p zs H9 (by omega) (((sD.trans s7).trans (Sb.of s8)).trans s9) np e9 (u9.mono (by omega))
end
end K03

/-! Law k03, part F1: what is kept along a body; slices, sums of tuples, a chosen pair; the plain law. -/
namespace K03
open PySem PySem.Spec PyProof.Rows L2
/-! ### what stands, from H0 on -/
structure Keep (H0 H : Hp) (L : List (Addr × HO)) : Prop where
  st : Same H0 H
  all : ∀ q ∈ L, H q.1 = some q.2
section
variable {H0 H H' : Hp} {L : List (Addr × HO)} {p : Addr} {o : HO}
theorem Keep.start (H : Hp) : Keep H H [] := ⟨Same.refl H, fun _ z => nomatch z⟩
theorem Keep.at (k : Keep H0 H L) (i : Nat) (e : L[i]? = some (p, o)) : H p = some o := k.all _ (List.mem_of_getElem? e)
theorem Keep.go (k : Keep H0 H L) (s : Same H H') : Keep H0 H' L := ⟨k.st.trans s, fun q h => s _ _ (k.all q h)⟩
theorem Keep.add (k : Keep H0 H L) (s : Same H H') (e : H' p = some o) : Keep H0 H' ((p, o) :: L) := ⟨k.st.trans s, fun q h => by
  rcases List.mem_cons.mp h with z | z
  · rw [z]
    exact e
  · exact s _ _ (k.all q z)⟩
theorem Keep.lay (k : Keep H0 H L) (hn : H p = none) : Keep H0 (upd H p o) ((p, o) :: L) := k.add (same_upd hn) upd_same
end
/-! ### slices and sums of tuples of texts -/
theorem cut_drop (xs : List V) (n : Nat) : cutV xs (some (n : Int)) none = xs.drop n := by
  unfold cutV
  rw [HT.sIx_none, HT.sIx_nat]
  by_cases h : n ≤ xs.length
  · rw [Nat.min_eq_left h, List.take_of_length_le (by rw [List.length_drop]; omega)]
  · have h' : xs.length ≤ n := by omega
    rw [Nat.min_eq_right h', List.drop_eq_nil_of_le (Nat.le_refl _), List.drop_eq_nil_of_le h', List.take_nil]
section
variable {K : PySem.W.Frag} {H : Hp} {a b : Addr} {xs ys : List Str} {Q : VK}
theorem cutTake (n : Nat) (h : Tx H a xs) (q : ∀ (p : Addr) (H' : Hp), Same H H' → Tx H' p (xs.take n) → Q (.ref p) H') : rSlA K (.ref a) none (some (n : Int)) H Q := by
  refine ⟨a, xs.map V.str, rfl, SqT.of h, fun hw => ?_, fun _ p hp => ?_⟩
  · refine q a H (Same.refl H) ?_
    have h2 := hw.2
    rw [HT.sIx_nat, List.length_map] at h2
    rw [List.take_of_length_le (by omega)]
    exact h
  · refine q p _ (same_upd hp) ?_
    show upd H p _ p = _
    rw [upd_same, cut_take, List.map_take]
theorem cutDrop (n : Nat) (h : Tx H a xs) (q : ∀ (p : Addr) (H' : Hp), Same H H' → Tx H' p (xs.drop n) → Q (.ref p) H') : rSlA K (.ref a) (some (n : Int)) none H Q := by
  refine ⟨a, xs.map V.str, rfl, SqT.of h, fun hw => ?_, fun _ p hp => ?_⟩
  · refine q a H (Same.refl H) ?_
    have h1 := hw.1
    rw [HT.sIx_nat, List.length_map] at h1
    by_cases hn : n = 0
    · rw [hn, List.drop_zero]
      exact h
    · have e : xs = [] := List.length_eq_zero_iff.mp (by omega)
      rw [e, List.drop_nil]
      rw [e] at h
      exact h
  · refine q p _ (same_upd hp) ?_
    show upd H p _ p = _
    rw [upd_same, cut_drop, List.map_drop]
theorem cutRest {σ : L2.St} (n : Nat) (h : Tx H a xs) (q : ∀ (p : Addr) (H' : Hp), Same H H' → Tx H' p (xs.drop n) → Q (.ref p) H') : tNoPart σ H fun u H3 => rSlA K (.ref a) (some (n : Int)) u H3 Q := cutDrop n h q
theorem catTx (ha : Tx H a xs) (hb : Tx H b ys) (l : xs.length + ys.length ≤ 1000) (q : ∀ (p : Addr) (H' : Hp), Same H H' → Tx H' p (xs ++ ys) → Q (.ref p) H') : rCatA K (.ref a) (.ref b) H Q := by
  refine ⟨a, b, _, _, rfl, rfl, SqT.of ha, SqT.of hb, by rw [List.length_map, List.length_map]; exact small l, fun e => ?_, fun _ e => ?_, fun _ _ p hp => ?_⟩
  · refine q b H (Same.refl H) ?_
    rw [List.map_eq_nil_iff.mp e]
    exact hb
  · refine q a H (Same.refl H) ?_
    rw [List.map_eq_nil_iff.mp e, List.append_nil]
    exact ha
  · refine q p _ (same_upd hp) ?_
    show upd H p _ p = _
    rw [upd_same, List.map_append]
/-- (two, one) if one != two else near[:2] -/
def pickPair (one two : Str) (near : List Str) : List Str := if one = two then near.take 2 else [two, one]
theorem pick_read {σ : L2.St} {one two : Str} (h1 : σ[4]? = some (some (.str one))) (h2 : σ[5]? = some (some (.str two))) (h8 : σ[8]? = some (some (.ref a))) (h : Tx H a xs)
    (q : ∀ (p : Addr) (H' : Hp), Same H H' → Tx H' p (pickPair one two xs) → Q (.ref p) H') :
    tIf (tTest (tOp rNe (tVar 4) (tVar 5))) (tTup (tCons (tVar 5) (tCons (tVar 4) tNil))) (tSl (rSlA K) (tVar 8) tNoPart (tPart (tC (.int 2)))) σ H Q := by
  refine ⟨_, h1, _, h2, rfl, _, rfl, ?_⟩
  by_cases c : one = two
  · have e : V.str one = V.str two := by rw [c]
    rw [decide_eq_true e]
    have z : pickPair one two xs = xs.take 2 := if_pos c
    rw [z] at q
    exact iteF ⟨_, h8, 2, rfl, cutTake 2 h q⟩
  · have e : ¬ V.str one = V.str two := fun z => c (V.str.inj z)
    rw [decide_eq_false e]
    have z : pickPair one two xs = [two, one] := if_neg c
    rw [z] at q
    exact iteT ⟨_, h2, _, h1, (by show 2 ≤ sizeLine; decide), fun p hp => q p _ (same_upd hp) upd_same⟩
end
/-! ### rows of like tuples -/
def Rows (H : Hp) (T : List (Addr × Addr × List Str)) : Prop := ∀ t ∈ T, t.2.2.length ≤ 1000 ∧ Tx H t.1 t.2.2 ∧ Tx H t.2.1 t.2.2
theorem Rows.nil {H : Hp} : Rows H [] := fun _ z => nomatch z
theorem Rows.cons {H : Hp} {p r : Addr} {xs ys : List Str} {T : List (Addr × Addr × List Str)} (h1 : Tx H p xs) (h2 : Tx H r ys) (e : xs = ys) (l : ys.length ≤ 1000) (R : Rows H T) : Rows H ((p, r, ys) :: T) := fun t ht => by
  rcases List.mem_cons.mp ht with z | z
  · rw [z]
    exact ⟨l, e ▸ h1, h2⟩
  · exact R t z
theorem alike_tx {H : Hp} {a b : Addr} {xs : List Str} (ha : Tx H a xs) (hb : Tx H b xs) (l : xs.length ≤ 1000) : Alike H 2 (.ref a) (.ref b) := by
  refine .inr ⟨a, b, _, _, rfl, rfl, .inl ⟨ha, hb⟩, by rw [List.length_map]; exact l, rfl, fun i v z h1 h2 => ?_⟩
  have e : v = z := Option.some.inj (h1.symm.trans h2)
  subst e
  obtain ⟨s, _, rfl⟩ := List.mem_map.mp (List.mem_of_getElem? h1)
  exact .inl ⟨s, rfl, rfl⟩
theorem alike_rows {H : Hp} {g l : Addr} (T : List (Addr × Addr × List Str)) (hg : H g = some (.lst (T.map fun t => V.ref t.1))) (hl : H l = some (.lst (T.map fun t => V.ref t.2.1))) (len : T.length ≤ 1000) (R : Rows H T) :
    Alike H 3 (.ref g) (.ref l) := by
  refine .inr ⟨g, l, _, _, rfl, rfl, .inr ⟨hg, hl⟩, by rw [List.length_map]; exact len, by rw [List.length_map, List.length_map], fun i v z h1 h2 => ?_⟩
  rw [List.getElem?_map] at h1 h2
  cases e : T[i]? with
  | none => rw [e] at h1; cases h1
  | some t =>
    rw [e] at h1 h2
    have e1 : V.ref t.1 = v := Option.some.inj h1
    have e2 : V.ref t.2.1 = z := Option.some.inj h2
    subst e1 e2
    obtain ⟨r1, r2, r3⟩ := R t (List.mem_of_getElem? e)
    exact alike_tx r2 r3 r1
/-! ### the plain law -/
theorem outs_congr {xs ms ns : List Str} (h : ∀ x, x ∈ ms ↔ x ∈ ns) : outs xs ms = outs xs ns := by
  unfold outs
  congr 1
  funext x
  simp [h x]
theorem outs_outs (xs ms ns : List Str) : outs (outs xs ms) ns = outs xs (ms ++ ns) := by
  unfold outs
  rw [List.filter_filter]
  congr 1
  funext x
  by_cases c : x ∈ ms <;> by_cases d : x ∈ ns <;> simp [c, d]
theorem outs_self (xs : List Str) (n : Str) : outs (outs xs [n]) [n] = outs xs [n] := by
  rw [outs_outs]
  exact outs_congr fun x => by simp
theorem outs_head (xs : List Str) (n : Str) : outs (n :: outs xs [n]) [n] = outs xs [n] := by
  have e : outs (n :: outs xs [n]) [n] = outs (outs xs [n]) [n] := by
    show List.filter _ (n :: outs xs [n]) = _
    rw [List.filter_cons_of_neg (by simp)]
    rfl
  rw [e, outs_self]
theorem outs_none {xs ns : List Str} (h : ∀ x ∈ xs, x ∉ ns) : outs xs ns = xs := List.filter_eq_self.mpr fun x hx => decide_eq_true (h x hx)
theorem outs_take (xs : List Str) (n : Str) (k : Nat) : outs ((outs xs [n]).take k) [n] = (outs xs [n]).take k := outs_none fun x hx => by
  have h := List.mem_of_mem_take hx
  have h2 := (List.mem_filter.mp h).2
  exact of_decide_eq_true h2
theorem pair_take (xs : List Str) (one two : Str) : (two :: outs (one :: outs xs [one]) [two]).take 2 = pickPair one two (one :: outs xs [one]) := by
  unfold pickPair
  by_cases c : one = two
  · rw [if_pos c]
    subst c
    rw [outs_head]
  · rw [if_neg c]
    show two :: (outs (one :: outs xs [one]) [two]).take 1 = [two, one]
    have e : outs (one :: outs xs [one]) [two] = one :: outs (outs xs [one]) [two] := by
      show List.filter _ (one :: outs xs [one]) = _
      rw [List.filter_cons_of_pos (by simp [c])]
      rfl
    rw [e]
    rfl
theorem min_nat (l h : Nat) : (if (h : Int) < (l : Int) then (h : Int) else (l : Int)) = ((min l h : Nat) : Int) := by
  by_cases c : h < l
  · rw [if_pos (by omega), Nat.min_eq_right (by omega)]
  · rw [if_neg (by omega), Nat.min_eq_left (by omega)]
theorem take_le (n : Nat) (xs : List Str) : (List.take n xs).length ≤ xs.length := by
  rw [List.length_take]
  exact Nat.min_le_right _ _
theorem drop_le (n : Nat) (xs : List Str) : (List.drop n xs).length ≤ xs.length := by
  rw [List.length_drop]
  exact Nat.sub_le _ _
theorem pick_len (one two : Str) (near : List Str) : (pickPair one two near).length ≤ near.length + 2 := by
  unfold pickPair
  split
  · exact Nat.le_trans (take_le _ _) (Nat.le_add_right _ _)
  · exact Nat.le_add_left _ _
/-- a def of the text that keeps a promise, with what a call of it asks -/
structure Has (P : Program) (w : World) (K : PySem.W.Frag) (mg : Str → Option Value) (base : Heap) (k : Nat) (x : Str) (ps : List Str) (sp : Sp) (g : Addr) (gd : FuncData) : Prop where
  ok : FnOk P w K mg base CX0 k g gd ps sp
  b : L2.Binds K gd ps []
  kp : PySem.W.keepIn K (.ref g) = true
  m : mg x = some (.ref g)
end K03

/-! Law k03, part F2: _law_by_hand_right (its lines were printed by gen.py). -/
namespace K03
open PySem PySem.Spec PyProof.Rows L2
def spHand : Sp := fun vs H Q _ => vs = [] ∧ ∀ H', Same H H' → Q (.bl true) H'
theorem scHand : FnScope ["_law_row_so", "_law_got", "_law_goal"] [] (defScope stHand) := ⟨rfl, rfl, rfl, by decide +kernel, rfl, by decide +kernel, by decide +kernel⟩
section
variable {P : Program} {w : World} {K : PySem.W.Frag} {mg : Str → Option Value} {base : Heap} {f g1 g2 g3 g4 g5 : Addr} {fd d1 d2 d3 d4 d5 : FuncData}
theorem ok_hand (F : Fun K "_law_by_hand_right" "_law_by_hand_right" stHand f fd) (TO : Has P w K mg base 1 "outside" ["row", "names"] (spOutside K) g1 d1) (T2 : Has P w K mg base 2 "forgotten" ["row", "name"] (spForgotten K) g2 d2)
    (T3 : Has P w K mg base 3 "touched" ["row", "name"] (spTouched K) g3 d3) (TC : Has P w K mg base 1 "capped" ["row", "number"] (spCapped K) g4 d4) (TS : Has P w K mg base 3 "_law_same" ["_law_got", "_law_goal"] (spSame 3) g5 d5) :
    FnOk P w K mg base CX0 4 f fd [] spHand := by
  refine F.ok scHand (fun vs H Q E h => ?_) (fun cdv A outer s H vs Q E hr h => ?_)
  · rw [h.1]
    rfl
  obtain ⟨rfl, q⟩ := h
  have hr2 := hr.mono (show 2 ≤ 3 by decide)
  have hr1 := hr.mono (show 1 ≤ 3 by decide)
  refine ⟨_, pss_cons (ps_set (i := 0) scHand.nd rfl (.inl rfl) (pe_tup (pa_cons pe_str (pa_cons pe_str (pa_cons pe_str (pa_cons pe_str pa_nil))))))
    (pss_cons (ps_set (i := 1) scHand.nd rfl (.inl rfl) (pe_lst (pa_cons (pe_call T3.ok hr rfl T3.m T3.kp T3.b .nil pass0 (pa_cons (pe_call T3.ok hr rfl T3.m T3.kp T3.b .nil pass0 (pa_cons (pv 0) (pa_cons pe_str pa_nil))) (pa_cons pe_str pa_nil))) (pa_cons (pe_call T3.ok hr rfl T3.m T3.kp T3.b .nil pass0 (pa_cons (pe_call T3.ok hr rfl T3.m T3.kp T3.b .nil pass0 (pa_cons (pv 0) (pa_cons pe_str pa_nil))) (pa_cons pe_str pa_nil))) pa_nil))))
    (pss_cons (ps_set (i := 1) scHand.nd rfl (.inl rfl) (pe_op op_cat (pv 1) (pe_lst (pa_cons (pe_call T2.ok hr2 rfl T2.m T2.kp T2.b .nil pass0 (pa_cons (pe_call T3.ok hr rfl T3.m T3.kp T3.b .nil pass0 (pa_cons (pv 0) (pa_cons pe_str pa_nil))) (pa_cons pe_str pa_nil))) pa_nil))))
    (pss_cons (ps_set (i := 2) scHand.nd rfl (.inl rfl) (pe_lst (pa_cons (pe_tup (pa_cons pe_str (pa_cons pe_str (pa_cons pe_str (pa_cons pe_str pa_nil))))) (pa_cons (pe_tup (pa_cons pe_str (pa_cons pe_str (pa_cons pe_str (pa_cons pe_str (pa_cons pe_str pa_nil)))))) (pa_cons (pv 0) pa_nil)))))
    (pss_cons (ps_set (i := 1) scHand.nd rfl (.inl rfl) (pe_op op_cat (pv 1) (pe_lst (pa_cons (pe_call T3.ok hr rfl T3.m T3.kp T3.b .nil pass0 (pa_cons (pe_call T2.ok hr2 rfl T2.m T2.kp T2.b .nil pass0 (pa_cons (pv 0) (pa_cons pe_str pa_nil))) (pa_cons pe_str pa_nil))) (pa_cons (pe_call TC.ok hr1 rfl TC.m TC.kp TC.b .nil pass0 (pa_cons (pe_call T3.ok hr rfl T3.m T3.kp T3.b .nil pass0 (pa_cons (pv 0) (pa_cons pe_str pa_nil))) (pa_cons pe_int pa_nil))) pa_nil)))))
    (pss_cons (ps_set (i := 1) scHand.nd rfl (.inl rfl) (pe_op op_cat (pv 1) (pe_lst (pa_cons (pe_call T3.ok hr rfl T3.m T3.kp T3.b .nil pass0 (pa_cons (pe_call TC.ok hr1 rfl TC.m TC.kp TC.b .nil pass0 (pa_cons (pv 0) (pa_cons pe_int pa_nil))) (pa_cons pe_str pa_nil))) pa_nil))))
    (pss_cons (ps_set (i := 2) scHand.nd rfl (.inl rfl) (pe_op op_cat (pv 2) (pe_lst (pa_cons (pe_tup (pa_cons pe_str (pa_cons pe_str (pa_cons pe_str (pa_cons pe_str pa_nil))))) (pa_cons (pe_tup (pa_cons pe_str (pa_cons pe_str (pa_cons pe_str pa_nil)))) (pa_cons (pe_tup (pa_cons pe_str (pa_cons pe_str (pa_cons pe_str pa_nil)))) pa_nil))))))
    (pss_cons (ps_set (i := 1) scHand.nd rfl (.inl rfl) (pe_op op_cat (pv 1) (pe_lst (pa_cons (pe_call TC.ok hr1 rfl TC.m TC.kp TC.b .nil pass0 (pa_cons (pe_call TC.ok hr1 rfl TC.m TC.kp TC.b .nil pass0 (pa_cons (pv 0) (pa_cons pe_int pa_nil))) (pa_cons pe_int pa_nil))) (pa_cons (pe_call TC.ok hr1 rfl TC.m TC.kp TC.b .nil pass0 (pa_cons (pv 0) (pa_cons pe_int pa_nil))) (pa_cons (pe_call T2.ok hr2 rfl T2.m T2.kp T2.b .nil pass0 (pa_cons (pe_call T2.ok hr2 rfl T2.m T2.kp T2.b .nil pass0 (pa_cons (pv 0) (pa_cons pe_str pa_nil))) (pa_cons pe_str pa_nil))) pa_nil))))))
    (pss_cons (ps_set (i := 2) scHand.nd rfl (.inl rfl) (pe_op op_cat (pv 2) (pe_lst (pa_cons (pe_tup (pa_cons pe_str (pa_cons pe_str pa_nil))) (pa_cons (pe_tup pa_nil) (pa_cons (pe_tup (pa_cons pe_str (pa_cons pe_str pa_nil))) pa_nil))))))
    (pss_cons (ps_set (i := 1) scHand.nd rfl (.inl rfl) (pe_op op_cat (pv 1) (pe_lst (pa_cons (pe_call TO.ok hr1 rfl TO.m TO.kp TO.b .nil pass0 (pa_cons (pv 0) (pa_cons (pe_tup (pa_cons pe_str (pa_cons pe_str pa_nil))) pa_nil))) (pa_cons (pe_call TO.ok hr1 rfl TO.m TO.kp TO.b .nil pass0 (pa_cons (pe_call TO.ok hr1 rfl TO.m TO.kp TO.b .nil pass0 (pa_cons (pv 0) (pa_cons (pe_tup (pa_cons pe_str pa_nil)) pa_nil))) (pa_cons (pe_tup (pa_cons pe_str pa_nil)) pa_nil))) pa_nil)))))
    (pss_cons (ps_set (i := 1) scHand.nd rfl (.inl rfl) (pe_op op_cat (pv 1) (pe_lst (pa_cons (pe_call TC.ok hr1 rfl TC.m TC.kp TC.b .nil pass0 (pa_cons (pe_call T3.ok hr rfl T3.m T3.kp T3.b .nil pass0 (pa_cons (pv 0) (pa_cons pe_str pa_nil))) (pa_cons pe_int pa_nil))) pa_nil))))
    (pss_one (ps_ret (pe_call TS.ok hr rfl TS.m TS.kp TS.b .nil pass0 (pa_cons (pv 1) (pa_cons (pe_op op_cat (pv 2) (pe_lst (pa_cons (pe_tup (pa_cons pe_str (pa_cons pe_str pa_nil))) (pa_cons (pe_tup (pa_cons pe_str (pa_cons pe_str pa_nil))) (pa_cons (pe_tup (pa_cons pe_str pa_nil)) pa_nil))))) pa_nil))))))))))))))), ?_⟩
  have k0 := Keep.start H
  -- row = ..
  refine ⟨(by show 4 ≤ sizeLine; decide), fun p1 h1 => ?_⟩
  have k1 := k0.lay (o := .tup [.str (Str.ofString "ab"), .str (Str.ofString "a"), .str (Str.ofString "b"), .str (Str.ofString "c")]) h1
  have b1 : List.length ([(Str.ofString "ab"), (Str.ofString "a"), (Str.ofString "b"), (Str.ofString "c")] : List Str) ≤ 4 := Nat.le_refl _
  -- got = ..
  refine ⟨_, rfl, ?_⟩
  refine ⟨p1, (Str.ofString "b"), ([(Str.ofString "ab"), (Str.ofString "a"), (Str.ofString "b"), (Str.ofString "c")] : List Str), rfl, (k1.at 0 rfl), (Nat.le_trans b1 (by decide)), fun p2 G2 s2 e2 => ?_⟩
  have k2 := k1.add s2 e2
  have b2 : List.length ((Str.ofString "b") :: outs ([(Str.ofString "ab"), (Str.ofString "a"), (Str.ofString "b"), (Str.ofString "c")] : List Str) [(Str.ofString "b")]) ≤ 5 := Nat.succ_le_succ (Nat.le_trans (outs_len _ _) b1)
  refine ⟨p2, (Str.ofString "b"), ((Str.ofString "b") :: outs ([(Str.ofString "ab"), (Str.ofString "a"), (Str.ofString "b"), (Str.ofString "c")] : List Str) [(Str.ofString "b")]), rfl, (k2.at 0 rfl), (Nat.le_trans b2 (by decide)), fun p3 G3 s3 e3 => ?_⟩
  have k3 := k2.add s3 e3
  have b3 : List.length ((Str.ofString "b") :: outs ((Str.ofString "b") :: outs ([(Str.ofString "ab"), (Str.ofString "a"), (Str.ofString "b"), (Str.ofString "c")] : List Str) [(Str.ofString "b")]) [(Str.ofString "b")]) ≤ 6 := Nat.succ_le_succ (Nat.le_trans (outs_len _ _) b2)
  refine ⟨_, rfl, ?_⟩
  refine ⟨p1, (Str.ofString "x"), ([(Str.ofString "ab"), (Str.ofString "a"), (Str.ofString "b"), (Str.ofString "c")] : List Str), rfl, (k3.at 2 rfl), (Nat.le_trans b1 (by decide)), fun p4 G4 s4 e4 => ?_⟩
  have k4 := k3.add s4 e4
  have b4 : List.length ((Str.ofString "x") :: outs ([(Str.ofString "ab"), (Str.ofString "a"), (Str.ofString "b"), (Str.ofString "c")] : List Str) [(Str.ofString "x")]) ≤ 5 := Nat.succ_le_succ (Nat.le_trans (outs_len _ _) b1)
  refine ⟨p4, (Str.ofString "b"), ((Str.ofString "x") :: outs ([(Str.ofString "ab"), (Str.ofString "a"), (Str.ofString "b"), (Str.ofString "c")] : List Str) [(Str.ofString "x")]), rfl, (k4.at 0 rfl), (Nat.le_trans b4 (by decide)), fun p5 G5 s5 e5 => ?_⟩
  have k5 := k4.add s5 e5
  have b5 : List.length ((Str.ofString "b") :: outs ((Str.ofString "x") :: outs ([(Str.ofString "ab"), (Str.ofString "a"), (Str.ofString "b"), (Str.ofString "c")] : List Str) [(Str.ofString "x")]) [(Str.ofString "b")]) ≤ 6 := Nat.succ_le_succ (Nat.le_trans (outs_len _ _) b4)
  refine ⟨(by show 2 ≤ sizeLine; decide), fun p6 h6 => ?_⟩
  have k6 := k5.lay (o := .lst [.ref p3, .ref p5]) h6
  -- got = ..
  refine ⟨_, rfl, ?_⟩
  refine ⟨_, rfl, ?_⟩
  refine ⟨p1, (Str.ofString "x"), ([(Str.ofString "ab"), (Str.ofString "a"), (Str.ofString "b"), (Str.ofString "c")] : List Str), rfl, (k6.at 5 rfl), (Nat.le_trans b1 (by decide)), fun p7 G7 s7 e7 => ?_⟩
  have k7 := k6.add s7 e7
  have b7 : List.length ((Str.ofString "x") :: outs ([(Str.ofString "ab"), (Str.ofString "a"), (Str.ofString "b"), (Str.ofString "c")] : List Str) [(Str.ofString "x")]) ≤ 5 := Nat.succ_le_succ (Nat.le_trans (outs_len _ _) b1)
  refine ⟨p7, (Str.ofString "x"), ((Str.ofString "x") :: outs ([(Str.ofString "ab"), (Str.ofString "a"), (Str.ofString "b"), (Str.ofString "c")] : List Str) [(Str.ofString "x")]), rfl, (k7.at 0 rfl), (Nat.le_trans b7 (by decide)), fun p8 G8 s8 e8 => ?_⟩
  have k8 := k7.add s8 e8
  have b8 : List.length (outs ((Str.ofString "x") :: outs ([(Str.ofString "ab"), (Str.ofString "a"), (Str.ofString "b"), (Str.ofString "c")] : List Str) [(Str.ofString "x")]) [(Str.ofString "x")]) ≤ 5 := Nat.le_trans (outs_len _ _) b7
  refine ⟨(by show 1 ≤ sizeLine; decide), fun p9 h9 => ?_⟩
  have k9 := k8.lay (o := .lst [.ref p8]) h9
  refine ⟨p6, p9, _, _, rfl, rfl, (k9.at 3 rfl), (k9.at 0 rfl), (by show 3 ≤ sizeLine; decide), fun p10 h10 => ?_⟩
  have k10 := k9.lay (o := .lst [.ref p3, .ref p5, .ref p8]) h10
  -- goal = ..
  refine ⟨(by show 4 ≤ sizeLine; decide), fun p11 h11 => ?_⟩
  have k11 := k10.lay (o := .tup [.str (Str.ofString "b"), .str (Str.ofString "ab"), .str (Str.ofString "a"), .str (Str.ofString "c")]) h11
  have b11 : List.length ([(Str.ofString "b"), (Str.ofString "ab"), (Str.ofString "a"), (Str.ofString "c")] : List Str) ≤ 4 := Nat.le_refl _
  refine ⟨(by show 5 ≤ sizeLine; decide), fun p12 h12 => ?_⟩
  have k12 := k11.lay (o := .tup [.str (Str.ofString "b"), .str (Str.ofString "x"), .str (Str.ofString "ab"), .str (Str.ofString "a"), .str (Str.ofString "c")]) h12
  have b12 : List.length ([(Str.ofString "b"), (Str.ofString "x"), (Str.ofString "ab"), (Str.ofString "a"), (Str.ofString "c")] : List Str) ≤ 5 := Nat.le_refl _
  refine ⟨_, rfl, ?_⟩
  refine ⟨(by show 3 ≤ sizeLine; decide), fun p13 h13 => ?_⟩
  have k13 := k12.lay (o := .lst [.ref p11, .ref p12, .ref p1]) h13
  -- got = ..
  refine ⟨_, rfl, ?_⟩
  refine ⟨_, rfl, ?_⟩
  refine ⟨p1, (Str.ofString "a"), ([(Str.ofString "ab"), (Str.ofString "a"), (Str.ofString "b"), (Str.ofString "c")] : List Str), rfl, (k13.at 12 rfl), (Nat.le_trans b1 (by decide)), fun p14 G14 s14 e14 => ?_⟩
  have k14 := k13.add s14 e14
  have b14 : List.length (outs ([(Str.ofString "ab"), (Str.ofString "a"), (Str.ofString "b"), (Str.ofString "c")] : List Str) [(Str.ofString "a")]) ≤ 4 := Nat.le_trans (outs_len _ _) b1
  refine ⟨p14, (Str.ofString "a"), (outs ([(Str.ofString "ab"), (Str.ofString "a"), (Str.ofString "b"), (Str.ofString "c")] : List Str) [(Str.ofString "a")]), rfl, (k14.at 0 rfl), (Nat.le_trans b14 (by decide)), fun p15 G15 s15 e15 => ?_⟩
  have k15 := k14.add s15 e15
  have b15 : List.length ((Str.ofString "a") :: outs (outs ([(Str.ofString "ab"), (Str.ofString "a"), (Str.ofString "b"), (Str.ofString "c")] : List Str) [(Str.ofString "a")]) [(Str.ofString "a")]) ≤ 5 := Nat.succ_le_succ (Nat.le_trans (outs_len _ _) b14)
  refine ⟨_, rfl, ?_⟩
  refine ⟨p1, (Str.ofString "x"), ([(Str.ofString "ab"), (Str.ofString "a"), (Str.ofString "b"), (Str.ofString "c")] : List Str), rfl, (k15.at 14 rfl), (Nat.le_trans b1 (by decide)), fun p16 G16 s16 e16 => ?_⟩
  have k16 := k15.add s16 e16
  have b16 : List.length ((Str.ofString "x") :: outs ([(Str.ofString "ab"), (Str.ofString "a"), (Str.ofString "b"), (Str.ofString "c")] : List Str) [(Str.ofString "x")]) ≤ 5 := Nat.succ_le_succ (Nat.le_trans (outs_len _ _) b1)
  refine ⟨p16, 3, ((Str.ofString "x") :: outs ([(Str.ofString "ab"), (Str.ofString "a"), (Str.ofString "b"), (Str.ofString "c")] : List Str) [(Str.ofString "x")]), rfl, (k16.at 0 rfl), (Nat.le_trans b16 (by decide)), fun p17 G17 s17 e17 => ?_⟩
  have k17 := k16.add s17 e17
  have b17 : List.length (List.take 3 ((Str.ofString "x") :: outs ([(Str.ofString "ab"), (Str.ofString "a"), (Str.ofString "b"), (Str.ofString "c")] : List Str) [(Str.ofString "x")])) ≤ 5 := Nat.le_trans (take_le _ _) b16
  refine ⟨(by show 2 ≤ sizeLine; decide), fun p18 h18 => ?_⟩
  have k18 := k17.lay (o := .lst [.ref p15, .ref p17]) h18
  refine ⟨p10, p18, _, _, rfl, rfl, (k18.at 8 rfl), (k18.at 0 rfl), (by show 5 ≤ sizeLine; decide), fun p19 h19 => ?_⟩
  have k19 := k18.lay (o := .lst [.ref p3, .ref p5, .ref p8, .ref p15, .ref p17]) h19
  -- got = ..
  refine ⟨_, rfl, ?_⟩
  refine ⟨_, rfl, ?_⟩
  refine ⟨p1, 2, ([(Str.ofString "ab"), (Str.ofString "a"), (Str.ofString "b"), (Str.ofString "c")] : List Str), rfl, (k19.at 18 rfl), (Nat.le_trans b1 (by decide)), fun p20 G20 s20 e20 => ?_⟩
  have k20 := k19.add s20 e20
  have b20 : List.length (List.take 2 ([(Str.ofString "ab"), (Str.ofString "a"), (Str.ofString "b"), (Str.ofString "c")] : List Str)) ≤ 4 := Nat.le_trans (take_le _ _) b1
  refine ⟨p20, (Str.ofString "x"), (List.take 2 ([(Str.ofString "ab"), (Str.ofString "a"), (Str.ofString "b"), (Str.ofString "c")] : List Str)), rfl, (k20.at 0 rfl), (Nat.le_trans b20 (by decide)), fun p21 G21 s21 e21 => ?_⟩
  have k21 := k20.add s21 e21
  have b21 : List.length ((Str.ofString "x") :: outs (List.take 2 ([(Str.ofString "ab"), (Str.ofString "a"), (Str.ofString "b"), (Str.ofString "c")] : List Str)) [(Str.ofString "x")]) ≤ 5 := Nat.succ_le_succ (Nat.le_trans (outs_len _ _) b20)
  refine ⟨(by show 1 ≤ sizeLine; decide), fun p22 h22 => ?_⟩
  have k22 := k21.lay (o := .lst [.ref p21]) h22
  refine ⟨p19, p22, _, _, rfl, rfl, (k22.at 3 rfl), (k22.at 0 rfl), (by show 6 ≤ sizeLine; decide), fun p23 h23 => ?_⟩
  have k23 := k22.lay (o := .lst [.ref p3, .ref p5, .ref p8, .ref p15, .ref p17, .ref p21]) h23
  -- goal = ..
  refine ⟨_, rfl, ?_⟩
  refine ⟨(by show 4 ≤ sizeLine; decide), fun p24 h24 => ?_⟩
  have k24 := k23.lay (o := .tup [.str (Str.ofString "a"), .str (Str.ofString "ab"), .str (Str.ofString "b"), .str (Str.ofString "c")]) h24
  have b24 : List.length ([(Str.ofString "a"), (Str.ofString "ab"), (Str.ofString "b"), (Str.ofString "c")] : List Str) ≤ 4 := Nat.le_refl _
  refine ⟨(by show 3 ≤ sizeLine; decide), fun p25 h25 => ?_⟩
  have k25 := k24.lay (o := .tup [.str (Str.ofString "x"), .str (Str.ofString "ab"), .str (Str.ofString "a")]) h25
  have b25 : List.length ([(Str.ofString "x"), (Str.ofString "ab"), (Str.ofString "a")] : List Str) ≤ 3 := Nat.le_refl _
  refine ⟨(by show 3 ≤ sizeLine; decide), fun p26 h26 => ?_⟩
  have k26 := k25.lay (o := .tup [.str (Str.ofString "x"), .str (Str.ofString "ab"), .str (Str.ofString "a")]) h26
  have b26 : List.length ([(Str.ofString "x"), (Str.ofString "ab"), (Str.ofString "a")] : List Str) ≤ 3 := Nat.le_refl _
  refine ⟨(by show 3 ≤ sizeLine; decide), fun p27 h27 => ?_⟩
  have k27 := k26.lay (o := .lst [.ref p24, .ref p25, .ref p26]) h27
  refine ⟨p13, p27, _, _, rfl, rfl, (k27.at 14 rfl), (k27.at 0 rfl), (by show 6 ≤ sizeLine; decide), fun p28 h28 => ?_⟩
  have k28 := k27.lay (o := .lst [.ref p11, .ref p12, .ref p1, .ref p24, .ref p25, .ref p26]) h28
  -- got = ..
  refine ⟨_, rfl, ?_⟩
  refine ⟨_, rfl, ?_⟩
  refine ⟨p1, 3, ([(Str.ofString "ab"), (Str.ofString "a"), (Str.ofString "b"), (Str.ofString "c")] : List Str), rfl, (k28.at 27 rfl), (Nat.le_trans b1 (by decide)), fun p29 G29 s29 e29 => ?_⟩
  have k29 := k28.add s29 e29
  have b29 : List.length (List.take 3 ([(Str.ofString "ab"), (Str.ofString "a"), (Str.ofString "b"), (Str.ofString "c")] : List Str)) ≤ 4 := Nat.le_trans (take_le _ _) b1
  refine ⟨p29, 2, (List.take 3 ([(Str.ofString "ab"), (Str.ofString "a"), (Str.ofString "b"), (Str.ofString "c")] : List Str)), rfl, (k29.at 0 rfl), (Nat.le_trans b29 (by decide)), fun p30 G30 s30 e30 => ?_⟩
  have k30 := k29.add s30 e30
  have b30 : List.length (List.take 2 (List.take 3 ([(Str.ofString "ab"), (Str.ofString "a"), (Str.ofString "b"), (Str.ofString "c")] : List Str))) ≤ 4 := Nat.le_trans (take_le _ _) b29
  refine ⟨_, rfl, ?_⟩
  refine ⟨p1, 0, ([(Str.ofString "ab"), (Str.ofString "a"), (Str.ofString "b"), (Str.ofString "c")] : List Str), rfl, (k30.at 29 rfl), (Nat.le_trans b1 (by decide)), fun p31 G31 s31 e31 => ?_⟩
  have k31 := k30.add s31 e31
  have b31 : List.length (List.take 0 ([(Str.ofString "ab"), (Str.ofString "a"), (Str.ofString "b"), (Str.ofString "c")] : List Str)) ≤ 4 := Nat.le_trans (take_le _ _) b1
  refine ⟨_, rfl, ?_⟩
  refine ⟨p1, (Str.ofString "ab"), ([(Str.ofString "ab"), (Str.ofString "a"), (Str.ofString "b"), (Str.ofString "c")] : List Str), rfl, (k31.at 30 rfl), (Nat.le_trans b1 (by decide)), fun p32 G32 s32 e32 => ?_⟩
  have k32 := k31.add s32 e32
  have b32 : List.length (outs ([(Str.ofString "ab"), (Str.ofString "a"), (Str.ofString "b"), (Str.ofString "c")] : List Str) [(Str.ofString "ab")]) ≤ 4 := Nat.le_trans (outs_len _ _) b1
  refine ⟨p32, (Str.ofString "c"), (outs ([(Str.ofString "ab"), (Str.ofString "a"), (Str.ofString "b"), (Str.ofString "c")] : List Str) [(Str.ofString "ab")]), rfl, (k32.at 0 rfl), (Nat.le_trans b32 (by decide)), fun p33 G33 s33 e33 => ?_⟩
  have k33 := k32.add s33 e33
  have b33 : List.length (outs (outs ([(Str.ofString "ab"), (Str.ofString "a"), (Str.ofString "b"), (Str.ofString "c")] : List Str) [(Str.ofString "ab")]) [(Str.ofString "c")]) ≤ 4 := Nat.le_trans (outs_len _ _) b32
  refine ⟨(by show 3 ≤ sizeLine; decide), fun p34 h34 => ?_⟩
  have k34 := k33.lay (o := .lst [.ref p30, .ref p31, .ref p33]) h34
  refine ⟨p23, p34, _, _, rfl, rfl, (k34.at 11 rfl), (k34.at 0 rfl), (by show 9 ≤ sizeLine; decide), fun p35 h35 => ?_⟩
  have k35 := k34.lay (o := .lst [.ref p3, .ref p5, .ref p8, .ref p15, .ref p17, .ref p21, .ref p30, .ref p31, .ref p33]) h35
  -- goal = ..
  refine ⟨_, rfl, ?_⟩
  refine ⟨(by show 2 ≤ sizeLine; decide), fun p36 h36 => ?_⟩
  have k36 := k35.lay (o := .tup [.str (Str.ofString "ab"), .str (Str.ofString "a")]) h36
  have b36 : List.length ([(Str.ofString "ab"), (Str.ofString "a")] : List Str) ≤ 2 := Nat.le_refl _
  refine ⟨(by show 0 ≤ sizeLine; decide), fun p37 h37 => ?_⟩
  have k37 := k36.lay (o := .tup []) h37
  have b37 : List.length ([] : List Str) ≤ 0 := Nat.le_refl _
  refine ⟨(by show 2 ≤ sizeLine; decide), fun p38 h38 => ?_⟩
  have k38 := k37.lay (o := .tup [.str (Str.ofString "a"), .str (Str.ofString "b")]) h38
  have b38 : List.length ([(Str.ofString "a"), (Str.ofString "b")] : List Str) ≤ 2 := Nat.le_refl _
  refine ⟨(by show 3 ≤ sizeLine; decide), fun p39 h39 => ?_⟩
  have k39 := k38.lay (o := .lst [.ref p36, .ref p37, .ref p38]) h39
  refine ⟨p28, p39, _, _, rfl, rfl, (k39.at 11 rfl), (k39.at 0 rfl), (by show 9 ≤ sizeLine; decide), fun p40 h40 => ?_⟩
  have k40 := k39.lay (o := .lst [.ref p11, .ref p12, .ref p1, .ref p24, .ref p25, .ref p26, .ref p36, .ref p37, .ref p38]) h40
  -- got = ..
  refine ⟨_, rfl, ?_⟩
  refine ⟨_, rfl, ?_⟩
  refine ⟨(by show 2 ≤ sizeLine; decide), fun p41 h41 => ?_⟩
  have k41 := k40.lay (o := .tup [.str (Str.ofString "ab"), .str (Str.ofString "c")]) h41
  have b41 : List.length ([(Str.ofString "ab"), (Str.ofString "c")] : List Str) ≤ 2 := Nat.le_refl _
  refine ⟨p1, p41, ([(Str.ofString "ab"), (Str.ofString "a"), (Str.ofString "b"), (Str.ofString "c")] : List Str), ([(Str.ofString "ab"), (Str.ofString "c")] : List Str), rfl, (k41.at 40 rfl), .inr (SqT.of (k41.at 0 rfl)), (Nat.le_trans b1 (by decide)), fun p42 G42 s42 e42 => ?_⟩
  have k42 := k41.add s42 e42
  have b42 : List.length (outs ([(Str.ofString "ab"), (Str.ofString "a"), (Str.ofString "b"), (Str.ofString "c")] : List Str) ([(Str.ofString "ab"), (Str.ofString "c")] : List Str)) ≤ 4 := Nat.le_trans (outs_len _ _) b1
  refine ⟨_, rfl, ?_⟩
  refine ⟨(by show 1 ≤ sizeLine; decide), fun p43 h43 => ?_⟩
  have k43 := k42.lay (o := .tup [.str (Str.ofString "a")]) h43
  have b43 : List.length ([(Str.ofString "a")] : List Str) ≤ 1 := Nat.le_refl _
  refine ⟨p1, p43, ([(Str.ofString "ab"), (Str.ofString "a"), (Str.ofString "b"), (Str.ofString "c")] : List Str), ([(Str.ofString "a")] : List Str), rfl, (k43.at 42 rfl), .inr (SqT.of (k43.at 0 rfl)), (Nat.le_trans b1 (by decide)), fun p44 G44 s44 e44 => ?_⟩
  have k44 := k43.add s44 e44
  have b44 : List.length (outs ([(Str.ofString "ab"), (Str.ofString "a"), (Str.ofString "b"), (Str.ofString "c")] : List Str) ([(Str.ofString "a")] : List Str)) ≤ 4 := Nat.le_trans (outs_len _ _) b1
  refine ⟨(by show 1 ≤ sizeLine; decide), fun p45 h45 => ?_⟩
  have k45 := k44.lay (o := .tup [.str (Str.ofString "b")]) h45
  have b45 : List.length ([(Str.ofString "b")] : List Str) ≤ 1 := Nat.le_refl _
  refine ⟨p44, p45, (outs ([(Str.ofString "ab"), (Str.ofString "a"), (Str.ofString "b"), (Str.ofString "c")] : List Str) ([(Str.ofString "a")] : List Str)), ([(Str.ofString "b")] : List Str), rfl, (k45.at 1 rfl), .inr (SqT.of (k45.at 0 rfl)), (Nat.le_trans b44 (by decide)), fun p46 G46 s46 e46 => ?_⟩
  have k46 := k45.add s46 e46
  have b46 : List.length (outs (outs ([(Str.ofString "ab"), (Str.ofString "a"), (Str.ofString "b"), (Str.ofString "c")] : List Str) ([(Str.ofString "a")] : List Str)) ([(Str.ofString "b")] : List Str)) ≤ 4 := Nat.le_trans (outs_len _ _) b44
  refine ⟨(by show 2 ≤ sizeLine; decide), fun p47 h47 => ?_⟩
  have k47 := k46.lay (o := .lst [.ref p42, .ref p46]) h47
  refine ⟨p35, p47, _, _, rfl, rfl, (k47.at 12 rfl), (k47.at 0 rfl), (by show 11 ≤ sizeLine; decide), fun p48 h48 => ?_⟩
  have k48 := k47.lay (o := .lst [.ref p3, .ref p5, .ref p8, .ref p15, .ref p17, .ref p21, .ref p30, .ref p31, .ref p33, .ref p42, .ref p46]) h48
  -- got = ..
  refine ⟨_, rfl, ?_⟩
  refine ⟨_, rfl, ?_⟩
  refine ⟨p1, (Str.ofString "c"), ([(Str.ofString "ab"), (Str.ofString "a"), (Str.ofString "b"), (Str.ofString "c")] : List Str), rfl, (k48.at 47 rfl), (Nat.le_trans b1 (by decide)), fun p49 G49 s49 e49 => ?_⟩
  have k49 := k48.add s49 e49
  have b49 : List.length ((Str.ofString "c") :: outs ([(Str.ofString "ab"), (Str.ofString "a"), (Str.ofString "b"), (Str.ofString "c")] : List Str) [(Str.ofString "c")]) ≤ 5 := Nat.succ_le_succ (Nat.le_trans (outs_len _ _) b1)
  refine ⟨p49, 1, ((Str.ofString "c") :: outs ([(Str.ofString "ab"), (Str.ofString "a"), (Str.ofString "b"), (Str.ofString "c")] : List Str) [(Str.ofString "c")]), rfl, (k49.at 0 rfl), (Nat.le_trans b49 (by decide)), fun p50 G50 s50 e50 => ?_⟩
  have k50 := k49.add s50 e50
  have b50 : List.length (List.take 1 ((Str.ofString "c") :: outs ([(Str.ofString "ab"), (Str.ofString "a"), (Str.ofString "b"), (Str.ofString "c")] : List Str) [(Str.ofString "c")])) ≤ 5 := Nat.le_trans (take_le _ _) b49
  refine ⟨(by show 1 ≤ sizeLine; decide), fun p51 h51 => ?_⟩
  have k51 := k50.lay (o := .lst [.ref p50]) h51
  refine ⟨p48, p51, _, _, rfl, rfl, (k51.at 3 rfl), (k51.at 0 rfl), (by show 12 ≤ sizeLine; decide), fun p52 h52 => ?_⟩
  have k52 := k51.lay (o := .lst [.ref p3, .ref p5, .ref p8, .ref p15, .ref p17, .ref p21, .ref p30, .ref p31, .ref p33, .ref p42, .ref p46, .ref p50]) h52
  -- the answer
  refine ⟨_, rfl, ?_⟩
  refine ⟨_, rfl, ?_⟩
  refine ⟨(by show 2 ≤ sizeLine; decide), fun p53 h53 => ?_⟩
  have k53 := k52.lay (o := .tup [.str (Str.ofString "a"), .str (Str.ofString "b")]) h53
  have b53 : List.length ([(Str.ofString "a"), (Str.ofString "b")] : List Str) ≤ 2 := Nat.le_refl _
  refine ⟨(by show 2 ≤ sizeLine; decide), fun p54 h54 => ?_⟩
  have k54 := k53.lay (o := .tup [.str (Str.ofString "ab"), .str (Str.ofString "c")]) h54
  have b54 : List.length ([(Str.ofString "ab"), (Str.ofString "c")] : List Str) ≤ 2 := Nat.le_refl _
  refine ⟨(by show 1 ≤ sizeLine; decide), fun p55 h55 => ?_⟩
  have k55 := k54.lay (o := .tup [.str (Str.ofString "c")]) h55
  have b55 : List.length ([(Str.ofString "c")] : List Str) ≤ 1 := Nat.le_refl _
  refine ⟨(by show 3 ≤ sizeLine; decide), fun p56 h56 => ?_⟩
  have k56 := k55.lay (o := .lst [.ref p53, .ref p54, .ref p55]) h56
  refine ⟨p40, p56, _, _, rfl, rfl, (k56.at 16 rfl), (k56.at 0 rfl), (by show 12 ≤ sizeLine; decide), fun p57 h57 => ?_⟩
  have k57 := k56.lay (o := .lst [.ref p11, .ref p12, .ref p1, .ref p24, .ref p25, .ref p26, .ref p36, .ref p37, .ref p38, .ref p53, .ref p54, .ref p55]) h57
  refine ⟨_, _, rfl, alike_rows [(p3, p11, ([(Str.ofString "b"), (Str.ofString "ab"), (Str.ofString "a"), (Str.ofString "c")] : List Str)), (p5, p12, ([(Str.ofString "b"), (Str.ofString "x"), (Str.ofString "ab"), (Str.ofString "a"), (Str.ofString "c")] : List Str)), (p8, p1, ([(Str.ofString "ab"), (Str.ofString "a"), (Str.ofString "b"), (Str.ofString "c")] : List Str)), (p15, p24, ([(Str.ofString "a"), (Str.ofString "ab"), (Str.ofString "b"), (Str.ofString "c")] : List Str)), (p17, p25, ([(Str.ofString "x"), (Str.ofString "ab"), (Str.ofString "a")] : List Str)), (p21, p26, ([(Str.ofString "x"), (Str.ofString "ab"), (Str.ofString "a")] : List Str)), (p30, p36, ([(Str.ofString "ab"), (Str.ofString "a")] : List Str)), (p31, p37, ([] : List Str)), (p33, p38, ([(Str.ofString "a"), (Str.ofString "b")] : List Str)), (p42, p53, ([(Str.ofString "a"), (Str.ofString "b")] : List Str)), (p46, p54, ([(Str.ofString "ab"), (Str.ofString "c")] : List Str)), (p50, p55, ([(Str.ofString "c")] : List Str))] (k57.at 5 rfl) (k57.at 0 rfl) (by show 12 ≤ 1000; decide) (Rows.cons (k57.at 54 rfl) (k57.at 46 rfl) (by decide +kernel) (Nat.le_trans b11 (by decide)) (Rows.cons (k57.at 52 rfl) (k57.at 45 rfl) (by decide +kernel) (Nat.le_trans b12 (by decide)) (Rows.cons (k57.at 49 rfl) (k57.at 56 rfl) (by decide +kernel) (Nat.le_trans b1 (by decide)) (Rows.cons (k57.at 42 rfl) (k57.at 33 rfl) (by decide +kernel) (Nat.le_trans b24 (by decide)) (Rows.cons (k57.at 40 rfl) (k57.at 32 rfl) (by decide +kernel) (Nat.le_trans b25 (by decide)) (Rows.cons (k57.at 36 rfl) (k57.at 31 rfl) (by decide +kernel) (Nat.le_trans b26 (by decide)) (Rows.cons (k57.at 27 rfl) (k57.at 21 rfl) (by decide +kernel) (Nat.le_trans b36 (by decide)) (Rows.cons (k57.at 26 rfl) (k57.at 20 rfl) (by decide +kernel) (Nat.le_trans b37 (by decide)) (Rows.cons (k57.at 24 rfl) (k57.at 19 rfl) (by decide +kernel) (Nat.le_trans b38 (by decide)) (Rows.cons (k57.at 15 rfl) (k57.at 4 rfl) (by decide +kernel) (Nat.le_trans b53 (by decide)) (Rows.cons (k57.at 11 rfl) (k57.at 3 rfl) (by decide +kernel) (Nat.le_trans b54 (by decide)) (Rows.cons (k57.at 7 rfl) (k57.at 2 rfl) (by decide +kernel) (Nat.le_trans b55 (by decide)) Rows.nil)))))))))))), fun H9 s9 => ?_⟩
  exact q _ (k57.st.trans s9)
end
end K03

/-! Law k03, part F3: _law_right (its lines were printed by gen.py). -/
namespace K03
open PySem PySem.Spec PyProof.Rows L2
def spRight : Sp := fun vs H Q _ => ∃ (u : Addr) (n : Nat), vs = [.ref u] ∧ Urn n H u ∧ n ≤ 100000 ∧ ∀ H', Sb u H H' → Q (.bl true) H'
abbrev rightN : List Str := ["_law_urn", "_law_turn", "_law_pool", "_law_row_so", "_law_one", "_law_two", "_law_low", "_law_high", "_law_near", "_law_got", "_law_goal"]
theorem scRight : FnScope rightN ["_law_urn"] (defScope stRight) := ⟨rfl, rfl, rfl, by decide +kernel, rfl, by decide +kernel, by decide +kernel⟩
theorem swap2 {one two : Str} (x : Str) : x ∈ [two] ++ [one] ↔ x ∈ [one, two] := by
  simp only [List.mem_append, List.mem_cons, List.not_mem_nil, or_false]
  exact Or.comm
/-- a turn's body by what it leaves, whatever stands around the loop -/
theorem turn_ends {i : Nat} {v : V} {tb : TS} {D : Ends} {σ : L2.St} {H : Hp} {Post : L2.St → Hp → Prop} (h : ∀ D' : Ends, (∀ σ' H', Post σ' H' → D'.nx σ' H') → tb D' (σ.set i (some v)) H) (hp : ∀ σ' H', Post σ' H' → D.nx σ' H') :
    gName i v σ H fun σ2 H2 => tb D σ2 H2 := h D hp
theorem at_slots {t : TS} {D : Ends} {σ σ' : L2.St} {H : Hp} (e : σ = σ') (h : t D σ' H) : t D σ H := e ▸ h
theorem set_slots {i : Nat} {v : V} {σ σ' : L2.St} {H : Hp} {Q : L2.St → Hp → Prop} (e : σ.set i (some v) = σ') (h : Q σ' H) : gName i v σ H Q := by
  subst e
  exact h
structure FreeR (mg : Str → Option Value) : Prop where
  range : mg "range" = none
  sorted : mg "sorted" = none
  set : mg "set" = none
  min : mg "min" = none
section
variable {P : Program} {w : World} {K : PySem.W.Frag} {mg : Str → Option Value} {base : Heap} {f g1 g2 g3 g4 g5 g6 g7 g8 g9 : Addr} {fd d1 d2 d3 d4 d5 d6 d7 d8 d9 : FuncData}
theorem ok_right (F : Fun K "_law_right" "_law_right" stRight f fd) (TO : Has P w K mg base 1 "outside" ["row", "names"] (spOutside K) g1 d1) (T2 : Has P w K mg base 2 "forgotten" ["row", "name"] (spForgotten K) g2 d2)
    (T3 : Has P w K mg base 3 "touched" ["row", "name"] (spTouched K) g3 d3) (TC : Has P w K mg base 1 "capped" ["row", "number"] (spCapped K) g4 d4) (TS : Has P w K mg base 3 "_law_same" ["_law_got", "_law_goal"] (spSame 3) g5 d5)
    (TT : Has P w K mg base 3 "_law_tags" ["_law_urn", "_law_many_so"] spTags g6 d6) (TR : Has P w K mg base 3 "_law_row" ["_law_urn", "_law_pool", "_law_most"] (spRow K) g7 d7)
    (TF : Has P w K mg base 2 "_law_of" ["_law_urn", "_law_some_so"] (spOf K) g8 d8) (TA : Has P w K mg base 1 "_law_take" ["_law_urn", "_law_low_so"] spTake g9 d9) (M : FreeR mg) :
    FnOk P w K mg base CX0 4 f fd ["_law_urn"] spRight := by
  refine F.ok scRight (fun vs H Q E h => ?_) (fun cdv A outer s H vs Q E hr h => ?_)
  · obtain ⟨u, n, rfl, _⟩ := h
    rfl
  obtain ⟨u, n, rfl, hu, hn, q⟩ := h
  have hr2 := hr.mono (show 2 ≤ 3 by decide)
  have hr1 := hr.mono (show 1 ≤ 3 by decide)
  refine ⟨_, pss_cons (ps_for PassesOwn.never rfl (pi_range1 rfl M.range (pa_cons pe_int pa_nil)) (pg_name (i := 1) scRight.nd rfl (.inl rfl))
    (pss_cons (ps_set (i := 2) scRight.nd rfl (.inl rfl) (pe_call TT.ok hr rfl TT.m TT.kp TT.b .nil pass0 (pa_cons (pv 0) (pa_cons pe_int pa_nil))))
    (pss_cons (ps_par3 (i := 3) (j := 4) (l := 5) (by rfl) scRight.nd rfl rfl rfl (by decide) (by decide) (by decide) rfl rfl rfl (pa_cons (pe_call TR.ok hr rfl TR.m TR.kp TR.b .nil pass0 (pa_cons (pv 0) (pa_cons (pv 2) (pa_cons pe_int pa_nil)))) (pa_cons (pe_call TF.ok hr2 rfl TF.m TF.kp TF.b .nil pass0 (pa_cons (pv 0) (pa_cons (pv 2) pa_nil))) (pa_cons (pe_call TF.ok hr2 rfl TF.m TF.kp TF.b .nil pass0 (pa_cons (pv 0) (pa_cons (pv 2) pa_nil))) pa_nil))) (by rfl))
    (pss_cons (ps_par (i := 6) (j := 7) (by rfl) scRight.nd rfl rfl (by decide) rfl rfl (pa_cons (pe_call TA.ok hr1 rfl TA.m TA.kp TA.b .nil pass0 (pa_cons (pv 0) (pa_cons pe_int pa_nil))) (pa_cons (pe_call TA.ok hr1 rfl TA.m TA.kp TA.b .nil pass0 (pa_cons (pv 0) (pa_cons pe_int pa_nil))) pa_nil)) (by rfl))
    (pss_cons (ps_set (i := 8) scRight.nd rfl (.inl rfl) (pe_call T3.ok hr rfl T3.m T3.kp T3.b .nil pass0 (pa_cons (pv 3) (pa_cons (pv 4) pa_nil))))
    (pss_cons (ps_set (i := 9) scRight.nd rfl (.inl rfl) (pe_lst (pa_cons (pe_call T3.ok hr rfl T3.m T3.kp T3.b .nil pass0 (pa_cons (pv 8) (pa_cons (pv 4) pa_nil))) (pa_cons (pe_call T2.ok hr2 rfl T2.m T2.kp T2.b .nil pass0 (pa_cons (pv 8) (pa_cons (pv 4) pa_nil))) (pa_cons (pe_call T3.ok hr rfl T3.m T3.kp T3.b .nil pass0 (pa_cons (pe_call T2.ok hr2 rfl T2.m T2.kp T2.b .nil pass0 (pa_cons (pv 3) (pa_cons (pv 4) pa_nil))) (pa_cons (pv 4) pa_nil))) (pa_cons (pe_slice sl_tupA (pv 8) po_none (po_some pe_int)) pa_nil))))))
    (pss_cons (ps_set (i := 10) scRight.nd rfl (.inl rfl) (pe_lst (pa_cons (pv 8) (pa_cons (pe_call T2.ok hr2 rfl T2.m T2.kp T2.b .nil pass0 (pa_cons (pv 3) (pa_cons (pv 4) pa_nil))) (pa_cons (pv 8) (pa_cons (pe_tup (pa_cons (pv 4) pa_nil)) pa_nil))))))
    (pss_cons (ps_set (i := 9) scRight.nd rfl (.inl rfl) (pe_op op_cat (pv 9) (pe_lst (pa_cons (pe_slice sl_tupA (pe_call T3.ok hr rfl T3.m T3.kp T3.b .nil pass0 (pa_cons (pv 8) (pa_cons (pv 5) pa_nil))) po_none (po_some pe_int)) (pa_cons (pe_call T2.ok hr2 rfl T2.m T2.kp T2.b .nil pass0 (pa_cons (pe_call T2.ok hr2 rfl T2.m T2.kp T2.b .nil pass0 (pa_cons (pv 3) (pa_cons (pv 4) pa_nil))) (pa_cons (pv 5) pa_nil))) (pa_cons (pe_call TC.ok hr1 rfl TC.m TC.kp TC.b .nil pass0 (pa_cons (pv 3) (pa_cons pe_int pa_nil))) pa_nil))))))
    (pss_cons (ps_set (i := 10) scRight.nd rfl (.inl rfl) (pe_op op_cat (pv 10) (pe_lst (pa_cons (pe_ifExp (pt_cmpR op_ne (pv 4) (pv 5) (nomark _)) (pe_tup (pa_cons (pv 5) (pa_cons (pv 4) pa_nil))) (pe_slice sl_tupA (pv 8) po_none (po_some pe_int))) (pa_cons (pe_call TO.ok hr1 rfl TO.m TO.kp TO.b .nil pass0 (pa_cons (pv 3) (pa_cons (pe_callB (cr_sortedTxt rfl) (by rfl) M.sorted (by decide +kernel) (pa_cons (pe_callTy (cr_setTxt rfl) (by rfl) M.set (by decide +kernel) (pa_cons (pe_lst (pa_cons (pv 4) (pa_cons (pv 5) pa_nil))) pa_nil)) pa_nil)) pa_nil))) (pa_cons (pe_tup pa_nil) pa_nil))))))
    (pss_cons (ps_set (i := 9) scRight.nd rfl (.inl rfl) (pe_op op_cat (pv 9) (pe_lst (pa_cons (pe_call T2.ok hr2 rfl T2.m T2.kp T2.b .nil pass0 (pa_cons (pe_call T2.ok hr2 rfl T2.m T2.kp T2.b .nil pass0 (pa_cons (pv 3) (pa_cons (pv 5) pa_nil))) (pa_cons (pv 4) pa_nil))) (pa_cons (pe_call TC.ok hr1 rfl TC.m TC.kp TC.b .nil pass0 (pa_cons (pe_call TC.ok hr1 rfl TC.m TC.kp TC.b .nil pass0 (pa_cons (pv 3) (pa_cons (pv 6) pa_nil))) (pa_cons (pv 7) pa_nil))) pa_nil)))))
    (pss_cons (ps_set (i := 10) scRight.nd rfl (.inl rfl) (pe_op op_cat (pv 10) (pe_lst (pa_cons (pe_call TO.ok hr1 rfl TO.m TO.kp TO.b .nil pass0 (pa_cons (pv 3) (pa_cons (pe_callB (cr_sortedTxt rfl) (by rfl) M.sorted (by decide +kernel) (pa_cons (pe_callTy (cr_setTxt rfl) (by rfl) M.set (by decide +kernel) (pa_cons (pe_lst (pa_cons (pv 4) (pa_cons (pv 5) pa_nil))) pa_nil)) pa_nil)) pa_nil))) (pa_cons (pe_call TC.ok hr1 rfl TC.m TC.kp TC.b .nil pass0 (pa_cons (pv 3) (pa_cons (pe_callB (call_min2 rfl) (by rfl) M.min (by decide +kernel) (pa_cons (pv 6) (pa_cons (pv 7) pa_nil))) pa_nil))) pa_nil)))))
    (pss_cons (ps_set (i := 9) scRight.nd rfl (.inl rfl) (pe_op op_cat (pv 9) (pe_lst (pa_cons (pe_call TC.ok hr1 rfl TC.m TC.kp TC.b .nil pass0 (pa_cons (pv 8) (pa_cons (pe_op op_add (pv 6) pe_int) pa_nil))) (pa_cons (pe_op op_catA (pe_call TC.ok hr1 rfl TC.m TC.kp TC.b .nil pass0 (pa_cons (pv 3) (pa_cons (pv 6) pa_nil))) (pe_slice sl_tupA (pv 3) (po_some (pv 6)) po_none)) (pa_cons (pe_slice sl_tupA (pe_call T3.ok hr rfl T3.m T3.kp T3.b .nil pass0 (pa_cons (pv 8) (pa_cons (pv 5) pa_nil))) (po_some pe_int) po_none) pa_nil))))))
    (pss_cons (ps_set (i := 10) scRight.nd rfl (.inl rfl) (pe_op op_cat (pv 10) (pe_lst (pa_cons (pe_call T3.ok hr rfl T3.m T3.kp T3.b .nil pass0 (pa_cons (pe_call TC.ok hr1 rfl TC.m TC.kp TC.b .nil pass0 (pa_cons (pe_call T2.ok hr2 rfl T2.m T2.kp T2.b .nil pass0 (pa_cons (pv 3) (pa_cons (pv 4) pa_nil))) (pa_cons (pv 6) pa_nil))) (pa_cons (pv 4) pa_nil))) (pa_cons (pv 3) (pa_cons (pe_call T2.ok hr2 rfl T2.m T2.kp T2.b .nil pass0 (pa_cons (pv 8) (pa_cons (pv 5) pa_nil))) pa_nil))))))
    (pss_one (ps_if (pt_not (pt_val (pe_call TS.ok hr rfl TS.m TS.kp TS.b .nil pass0 (pa_cons (pv 9) (pa_cons (pv 10) pa_nil))))) (pss_one (ps_ret pe_bl)) pss_nil)))))))))))))))
    (pss_one (ps_ret pe_bl)), ?_⟩
  refine ⟨10, rfl, by decide, by decide, for_range (lo := 0) (n := 10) (fun i σ H1 => ∃ y1 y2 y3 y4 y5 y6 y7 y8 y9 y10 : Option V, σ = [some (.ref u), y1, y2, y3, y4, y5, y6, y7, y8, y9, y10] ∧ Sb u H H1 ∧ Urn (n + 40 * i) H1 u)
    ⟨none, none, none, none, none, none, none, none, none, none, rfl, Sb.refl u H, hu⟩ (fun i σ H1 hi hP => ?_) (fun σ H1 hP => ?_)⟩
  case refine_2 =>
    obtain ⟨y1, y2, y3, y4, y5, y6, y7, y8, y9, y10, rfl, s1, _⟩ := hP
    exact q H1 s1
  obtain ⟨y1, y2, y3, y4, y5, y6, y7, y8, y9, y10, rfl, s1, u1⟩ := hP
  refine turn_ends (Post := fun σ H1 => ∃ y1 y2 y3 y4 y5 y6 y7 y8 y9 y10 : Option V, σ = [some (.ref u), y1, y2, y3, y4, y5, y6, y7, y8, y9, y10] ∧ Sb u H H1 ∧ Urn (n + 40 * (i + 1)) H1 u) (fun D hD => ?_) (fun _ _ p => p)
  -- pool, row, one, two, low, high
  refine ⟨_, rfl, u, n + 40 * i, rfl, u1, by omega, fun pp ss H2 l9 s2 np e2 u2 => ?_⟩
  refine ⟨_, rfl, _, rfl, u, pp, ss, 9, _, rfl, SqL.of e2, np, by omega, by decide, u2, by omega, fun pr zs H3 lz s3 e3 u3 => ?_⟩
  have npr : pr ≠ u := u3.ne_tx e3
  have l9' : (ss.map V.str).length = 9 := by rw [List.length_map]; exact l9
  have e2b := s3 _ _ np e2
  refine ⟨_, rfl, _, rfl, u, pp, ss.map V.str, _, rfl, SqL.of e2b, np, by rw [l9']; decide, by rw [l9']; decide, u3, by omega, fun x4 H4 hx4 s4 u4 => ?_⟩
  obtain ⟨one, _, rfl⟩ := List.mem_map.mp hx4
  have e2c := s4 _ _ np e2b
  refine ⟨_, rfl, _, rfl, u, pp, ss.map V.str, _, rfl, SqL.of e2c, np, by rw [l9']; decide, by rw [l9']; decide, u4, by omega, fun x5 H5 hx5 s5 u5 => ?_⟩
  obtain ⟨two, _, rfl⟩ := List.mem_map.mp hx5
  refine ⟨_, _, _, rfl, ?_⟩
  refine ⟨_, rfl, u, 11, _, rfl, by decide, by decide, u5, by omega, fun r6 H6 r6a r6b s6 u6 => ?_⟩
  refine ⟨_, rfl, u, 11, _, rfl, by decide, by decide, u6, by omega, fun r7 H7 r7a r7b s7 u7 => ?_⟩
  refine ⟨_, _, rfl, ?_⟩
  obtain ⟨lo, rfl⟩ : ∃ k : Nat, r6 = k := ⟨r6.toNat, by omega⟩
  obtain ⟨hi, rfl⟩ : ∃ k : Nat, r7 = k := ⟨r7.toNat, by omega⟩
  have sA : Sb u H H7 := (((((s1.trans s2).trans s3).trans s4).trans s5).trans s6).trans s7
  have e7 : Tx H7 pr zs := s7 _ _ npr (s6 _ _ npr (s5 _ _ npr (s4 _ _ npr e3)))
  have bz : List.length zs ≤ 9 := by omega
  have k0 : Keep H7 H7 [(pr, .tup (zs.map V.str))] := (Keep.start H7).add (Same.refl H7) e7
  refine at_slots (σ' := [some (.ref u), some (.int (0 + (i : Int))), some (.ref pp), some (.ref pr), some (.str one), some (.str two), some (.int lo), some (.int hi), y8, y9, y10]) rfl ?_
  -- near = ..
  refine ⟨_, rfl, ?_⟩
  refine ⟨_, rfl, ?_⟩
  refine ⟨pr, one, zs, rfl, (k0.at 0 rfl), (Nat.le_trans bz (by decide)), fun p1 G1 s1 e1 => ?_⟩
  have k1 := k0.add s1 e1
  have b1 : List.length (one :: outs zs [one]) ≤ 10 := Nat.succ_le_succ (Nat.le_trans (outs_len _ _) bz)
  refine set_slots (σ' := [some (.ref u), some (.int (0 + (i : Int))), some (.ref pp), some (.ref pr), some (.str one), some (.str two), some (.int lo), some (.int hi), some (.ref p1), y9, y10]) rfl ?_
  -- got = ..
  refine ⟨_, rfl, ?_⟩
  refine ⟨_, rfl, ?_⟩
  refine ⟨p1, one, (one :: outs zs [one]), rfl, (k1.at 0 rfl), (Nat.le_trans b1 (by decide)), fun p2 G2 s2 e2 => ?_⟩
  have k2 := k1.add s2 e2
  have b2 : List.length (one :: outs (one :: outs zs [one]) [one]) ≤ 11 := Nat.succ_le_succ (Nat.le_trans (outs_len _ _) b1)
  refine ⟨_, rfl, ?_⟩
  refine ⟨_, rfl, ?_⟩
  refine ⟨p1, one, (one :: outs zs [one]), rfl, (k2.at 1 rfl), (Nat.le_trans b1 (by decide)), fun p3 G3 s3 e3 => ?_⟩
  have k3 := k2.add s3 e3
  have b3 : List.length (outs (one :: outs zs [one]) [one]) ≤ 10 := Nat.le_trans (outs_len _ _) b1
  refine ⟨_, rfl, ?_⟩
  refine ⟨_, rfl, ?_⟩
  refine ⟨pr, one, zs, rfl, (k3.at 3 rfl), (Nat.le_trans bz (by decide)), fun p4 G4 s4 e4 => ?_⟩
  have k4 := k3.add s4 e4
  have b4 : List.length (outs zs [one]) ≤ 9 := Nat.le_trans (outs_len _ _) bz
  refine ⟨_, rfl, ?_⟩
  refine ⟨p4, one, (outs zs [one]), rfl, (k4.at 0 rfl), (Nat.le_trans b4 (by decide)), fun p5 G5 s5 e5 => ?_⟩
  have k5 := k4.add s5 e5
  have b5 : List.length (one :: outs (outs zs [one]) [one]) ≤ 10 := Nat.succ_le_succ (Nat.le_trans (outs_len _ _) b4)
  refine ⟨_, rfl, ?_⟩
  refine ⟨_, rfl, cutTake 1 (k5.at 4 rfl) (fun p6 G6 s6 e6 => ?_)⟩
  have k6 := k5.add s6 e6
  have b6 : List.length (List.take 1 (one :: outs zs [one])) ≤ 10 := Nat.le_trans (take_le _ _) b1
  refine ⟨(by show 4 ≤ sizeLine; decide), fun p7 h7 => ?_⟩
  have k7 := k6.lay (o := .lst [.ref p2, .ref p3, .ref p5, .ref p6]) h7
  refine set_slots (σ' := [some (.ref u), some (.int (0 + (i : Int))), some (.ref pp), some (.ref pr), some (.str one), some (.str two), some (.int lo), some (.int hi), some (.ref p1), some (.ref p7), y10]) rfl ?_
  -- goal = ..
  refine ⟨_, rfl, ?_⟩
  refine ⟨_, rfl, ?_⟩
  refine ⟨_, rfl, ?_⟩
  refine ⟨pr, one, zs, rfl, (k7.at 7 rfl), (Nat.le_trans bz (by decide)), fun p8 G8 s8 e8 => ?_⟩
  have k8 := k7.add s8 e8
  have b8 : List.length (outs zs [one]) ≤ 9 := Nat.le_trans (outs_len _ _) bz
  refine ⟨_, rfl, ?_⟩
  refine ⟨_, rfl, ?_⟩
  refine ⟨(by show 1 ≤ sizeLine; decide), fun p9 h9 => ?_⟩
  have k9 := k8.lay (o := .tup [.str one]) h9
  have b9 : List.length ([one] : List Str) ≤ 1 := Nat.le_refl _
  refine ⟨(by show 4 ≤ sizeLine; decide), fun p10 h10 => ?_⟩
  have k10 := k9.lay (o := .lst [.ref p1, .ref p8, .ref p1, .ref p9]) h10
  refine set_slots (σ' := [some (.ref u), some (.int (0 + (i : Int))), some (.ref pp), some (.ref pr), some (.str one), some (.str two), some (.int lo), some (.int hi), some (.ref p1), some (.ref p7), some (.ref p10)]) rfl ?_
  -- got = ..
  refine ⟨_, rfl, ?_⟩
  refine ⟨_, rfl, ?_⟩
  refine ⟨_, rfl, ?_⟩
  refine ⟨p1, two, (one :: outs zs [one]), rfl, (k10.at 9 rfl), (Nat.le_trans b1 (by decide)), fun p11 G11 s11 e11 => ?_⟩
  have k11 := k10.add s11 e11
  have b11 : List.length (two :: outs (one :: outs zs [one]) [two]) ≤ 11 := Nat.succ_le_succ (Nat.le_trans (outs_len _ _) b1)
  refine ⟨_, rfl, cutTake 2 (k11.at 0 rfl) (fun p12 G12 s12 e12 => ?_)⟩
  have k12 := k11.add s12 e12
  have b12 : List.length (List.take 2 (two :: outs (one :: outs zs [one]) [two])) ≤ 11 := Nat.le_trans (take_le _ _) b11
  refine ⟨_, rfl, ?_⟩
  refine ⟨_, rfl, ?_⟩
  refine ⟨pr, one, zs, rfl, (k12.at 12 rfl), (Nat.le_trans bz (by decide)), fun p13 G13 s13 e13 => ?_⟩
  have k13 := k12.add s13 e13
  have b13 : List.length (outs zs [one]) ≤ 9 := Nat.le_trans (outs_len _ _) bz
  refine ⟨_, rfl, ?_⟩
  refine ⟨p13, two, (outs zs [one]), rfl, (k13.at 0 rfl), (Nat.le_trans b13 (by decide)), fun p14 G14 s14 e14 => ?_⟩
  have k14 := k13.add s14 e14
  have b14 : List.length (outs (outs zs [one]) [two]) ≤ 9 := Nat.le_trans (outs_len _ _) b13
  refine ⟨_, rfl, ?_⟩
  refine ⟨pr, 0, zs, rfl, (k14.at 14 rfl), (Nat.le_trans bz (by decide)), fun p15 G15 s15 e15 => ?_⟩
  have k15 := k14.add s15 e15
  have b15 : List.length (List.take 0 zs) ≤ 9 := Nat.le_trans (take_le _ _) bz
  refine ⟨(by show 3 ≤ sizeLine; decide), fun p16 h16 => ?_⟩
  have k16 := k15.lay (o := .lst [.ref p12, .ref p14, .ref p15]) h16
  refine ⟨p7, p16, _, _, rfl, rfl, (k16.at 9 rfl), (k16.at 0 rfl), (by show 7 ≤ sizeLine; decide), fun p17 h17 => ?_⟩
  have k17 := k16.lay (o := .lst [.ref p2, .ref p3, .ref p5, .ref p6, .ref p12, .ref p14, .ref p15]) h17
  refine set_slots (σ' := [some (.ref u), some (.int (0 + (i : Int))), some (.ref pp), some (.ref pr), some (.str one), some (.str two), some (.int lo), some (.int hi), some (.ref p1), some (.ref p17), some (.ref p10)]) rfl ?_
  -- goal = ..
  refine ⟨_, rfl, ?_⟩
  refine pick_read (K := K) rfl rfl rfl (k17.at 16 rfl) (fun p18 G18 s18 e18 => ?_)
  have k18 := k17.add s18 e18
  have b18 : List.length (pickPair one two (one :: outs zs [one])) ≤ 12 := Nat.le_trans (pick_len _ _ _) (Nat.add_le_add_right b1 2)
  refine ⟨_, rfl, ?_⟩
  refine ⟨_, rfl, ?_⟩
  refine ⟨_, rfl, ?_⟩
  refine ⟨(by show 2 ≤ sizeLine; decide), fun p19 h19 => ?_⟩
  have k19 := k18.lay (o := .lst [.str one, .str two]) h19
  refine ⟨p19, [one, two], rfl, SqL.of (k19.at 0 rfl), (by show 2 ≤ 60; decide), fun p20 m20 h20 f20 l20 => ?_⟩
  have k20 := k19.lay (o := SetTxt P w p20 m20) h20
  refine ⟨p20, m20, rfl, (k20.at 0 rfl), Nat.lt_of_le_of_lt l20 (by show 2 < 64; decide), fun y21 p21 f21 h21 => ?_⟩
  have k21 := k20.lay (o := .lst (y21.map V.str)) h21
  have g21 : ∀ x, x ∈ y21 ↔ x ∈ [one, two] := fun x => (f21 x).trans (f20 x)
  refine ⟨pr, p21, zs, y21, rfl, (k21.at 21 rfl), .inl (SqL.of (k21.at 0 rfl)), (Nat.le_trans bz (by decide)), fun p22 G22 s22 e22 => ?_⟩
  have k22 := k21.add s22 e22
  have b22 : List.length (outs zs y21) ≤ 9 := Nat.le_trans (outs_len _ _) bz
  refine ⟨(by show 0 ≤ sizeLine; decide), fun p23 h23 => ?_⟩
  have k23 := k22.lay (o := .tup []) h23
  have b23 : List.length ([] : List Str) ≤ 0 := Nat.le_refl _
  refine ⟨(by show 3 ≤ sizeLine; decide), fun p24 h24 => ?_⟩
  have k24 := k23.lay (o := .lst [.ref p18, .ref p22, .ref p23]) h24
  refine ⟨p10, p24, _, _, rfl, rfl, (k24.at 14 rfl), (k24.at 0 rfl), (by show 7 ≤ sizeLine; decide), fun p25 h25 => ?_⟩
  have k25 := k24.lay (o := .lst [.ref p1, .ref p8, .ref p1, .ref p9, .ref p18, .ref p22, .ref p23]) h25
  refine set_slots (σ' := [some (.ref u), some (.int (0 + (i : Int))), some (.ref pp), some (.ref pr), some (.str one), some (.str two), some (.int lo), some (.int hi), some (.ref p1), some (.ref p17), some (.ref p25)]) rfl ?_
  -- got = ..
  refine ⟨_, rfl, ?_⟩
  refine ⟨_, rfl, ?_⟩
  refine ⟨_, rfl, ?_⟩
  refine ⟨pr, two, zs, rfl, (k25.at 25 rfl), (Nat.le_trans bz (by decide)), fun p26 G26 s26 e26 => ?_⟩
  have k26 := k25.add s26 e26
  have b26 : List.length (outs zs [two]) ≤ 9 := Nat.le_trans (outs_len _ _) bz
  refine ⟨_, rfl, ?_⟩
  refine ⟨p26, one, (outs zs [two]), rfl, (k26.at 0 rfl), (Nat.le_trans b26 (by decide)), fun p27 G27 s27 e27 => ?_⟩
  have k27 := k26.add s27 e27
  have b27 : List.length (outs (outs zs [two]) [one]) ≤ 9 := Nat.le_trans (outs_len _ _) b26
  refine ⟨_, rfl, ?_⟩
  refine ⟨_, rfl, ?_⟩
  refine ⟨pr, lo, zs, rfl, (k27.at 27 rfl), (Nat.le_trans bz (by decide)), fun p28 G28 s28 e28 => ?_⟩
  have k28 := k27.add s28 e28
  have b28 : List.length (List.take lo zs) ≤ 9 := Nat.le_trans (take_le _ _) bz
  refine ⟨_, rfl, ?_⟩
  refine ⟨p28, hi, (List.take lo zs), rfl, (k28.at 0 rfl), (Nat.le_trans b28 (by decide)), fun p29 G29 s29 e29 => ?_⟩
  have k29 := k28.add s29 e29
  have b29 : List.length (List.take hi (List.take lo zs)) ≤ 9 := Nat.le_trans (take_le _ _) b28
  refine ⟨(by show 2 ≤ sizeLine; decide), fun p30 h30 => ?_⟩
  have k30 := k29.lay (o := .lst [.ref p27, .ref p29]) h30
  refine ⟨p17, p30, _, _, rfl, rfl, (k30.at 13 rfl), (k30.at 0 rfl), (by show 9 ≤ sizeLine; decide), fun p31 h31 => ?_⟩
  have k31 := k30.lay (o := .lst [.ref p2, .ref p3, .ref p5, .ref p6, .ref p12, .ref p14, .ref p15, .ref p27, .ref p29]) h31
  refine set_slots (σ' := [some (.ref u), some (.int (0 + (i : Int))), some (.ref pp), some (.ref pr), some (.str one), some (.str two), some (.int lo), some (.int hi), some (.ref p1), some (.ref p31), some (.ref p25)]) rfl ?_
  -- goal = ..
  refine ⟨_, rfl, ?_⟩
  refine ⟨_, rfl, ?_⟩
  refine ⟨_, rfl, ?_⟩
  refine ⟨_, rfl, ?_⟩
  refine ⟨(by show 2 ≤ sizeLine; decide), fun p32 h32 => ?_⟩
  have k32 := k31.lay (o := .lst [.str one, .str two]) h32
  refine ⟨p32, [one, two], rfl, SqL.of (k32.at 0 rfl), (by show 2 ≤ 60; decide), fun p33 m33 h33 f33 l33 => ?_⟩
  have k33 := k32.lay (o := SetTxt P w p33 m33) h33
  refine ⟨p33, m33, rfl, (k33.at 0 rfl), Nat.lt_of_le_of_lt l33 (by show 2 < 64; decide), fun y34 p34 f34 h34 => ?_⟩
  have k34 := k33.lay (o := .lst (y34.map V.str)) h34
  have g34 : ∀ x, x ∈ y34 ↔ x ∈ [one, two] := fun x => (f34 x).trans (f33 x)
  refine ⟨pr, p34, zs, y34, rfl, (k34.at 34 rfl), .inl (SqL.of (k34.at 0 rfl)), (Nat.le_trans bz (by decide)), fun p35 G35 s35 e35 => ?_⟩
  have k35 := k34.add s35 e35
  have b35 : List.length (outs zs y34) ≤ 9 := Nat.le_trans (outs_len _ _) bz
  refine ⟨_, rfl, ?_⟩
  refine ⟨_, rfl, ?_⟩
  refine ⟨_, rfl, ?_⟩
  refine ⟨_, _, rfl, ?_⟩
  rw [min_nat]
  refine ⟨pr, (min lo hi), zs, rfl, (k35.at 35 rfl), (Nat.le_trans bz (by decide)), fun p36 G36 s36 e36 => ?_⟩
  have k36 := k35.add s36 e36
  have b36 : List.length (List.take (min lo hi) zs) ≤ 9 := Nat.le_trans (take_le _ _) bz
  refine ⟨(by show 2 ≤ sizeLine; decide), fun p37 h37 => ?_⟩
  have k37 := k36.lay (o := .lst [.ref p35, .ref p36]) h37
  refine ⟨p25, p37, _, _, rfl, rfl, (k37.at 12 rfl), (k37.at 0 rfl), (by show 9 ≤ sizeLine; decide), fun p38 h38 => ?_⟩
  have k38 := k37.lay (o := .lst [.ref p1, .ref p8, .ref p1, .ref p9, .ref p18, .ref p22, .ref p23, .ref p35, .ref p36]) h38
  refine set_slots (σ' := [some (.ref u), some (.int (0 + (i : Int))), some (.ref pp), some (.ref pr), some (.str one), some (.str two), some (.int lo), some (.int hi), some (.ref p1), some (.ref p31), some (.ref p38)]) rfl ?_
  -- got = ..
  refine ⟨_, rfl, ?_⟩
  refine ⟨_, rfl, ?_⟩
  refine ⟨_, rfl, ?_⟩
  refine ⟨_, _, rfl, rfl, ?_⟩
  refine ⟨p1, (lo + 1), (one :: outs zs [one]), rfl, (k38.at 37 rfl), (Nat.le_trans b1 (by decide)), fun p39 G39 s39 e39 => ?_⟩
  have k39 := k38.add s39 e39
  have b39 : List.length (List.take (lo + 1) (one :: outs zs [one])) ≤ 10 := Nat.le_trans (take_le _ _) b1
  refine ⟨_, rfl, ?_⟩
  refine ⟨_, rfl, ?_⟩
  refine ⟨pr, lo, zs, rfl, (k39.at 39 rfl), (Nat.le_trans bz (by decide)), fun p40 G40 s40 e40 => ?_⟩
  have k40 := k39.add s40 e40
  have b40 : List.length (List.take lo zs) ≤ 9 := Nat.le_trans (take_le _ _) bz
  refine ⟨_, rfl, ?_⟩
  refine ⟨_, rfl, ?_⟩
  refine ⟨_, rfl, cutRest lo (k40.at 40 rfl) (fun p41 G41 s41 e41 => ?_)⟩
  have k41 := k40.add s41 e41
  have b41 : List.length (List.drop lo zs) ≤ 9 := Nat.le_trans (drop_le _ _) bz
  refine catTx (k41.at 1 rfl) (k41.at 0 rfl) (Nat.le_trans (Nat.add_le_add b40 b41) (by decide)) (fun p42 G42 s42 e42 => ?_)
  have k42 := k41.add s42 e42
  have b42 : List.length ((List.take lo zs) ++ (List.drop lo zs)) ≤ 18 := by rw [List.length_append]; exact Nat.add_le_add b40 b41
  refine ⟨_, rfl, ?_⟩
  refine ⟨_, rfl, ?_⟩
  refine ⟨p1, two, (one :: outs zs [one]), rfl, (k42.at 41 rfl), (Nat.le_trans b1 (by decide)), fun p43 G43 s43 e43 => ?_⟩
  have k43 := k42.add s43 e43
  have b43 : List.length (two :: outs (one :: outs zs [one]) [two]) ≤ 11 := Nat.succ_le_succ (Nat.le_trans (outs_len _ _) b1)
  refine ⟨_, rfl, cutRest 1 (k43.at 0 rfl) (fun p44 G44 s44 e44 => ?_)⟩
  have k44 := k43.add s44 e44
  have b44 : List.length (List.drop 1 (two :: outs (one :: outs zs [one]) [two])) ≤ 11 := Nat.le_trans (drop_le _ _) b43
  refine ⟨(by show 3 ≤ sizeLine; decide), fun p45 h45 => ?_⟩
  have k45 := k44.lay (o := .lst [.ref p39, .ref p42, .ref p44]) h45
  refine ⟨p31, p45, _, _, rfl, rfl, (k45.at 14 rfl), (k45.at 0 rfl), (by show 12 ≤ sizeLine; decide), fun p46 h46 => ?_⟩
  have k46 := k45.lay (o := .lst [.ref p2, .ref p3, .ref p5, .ref p6, .ref p12, .ref p14, .ref p15, .ref p27, .ref p29, .ref p39, .ref p42, .ref p44]) h46
  refine set_slots (σ' := [some (.ref u), some (.int (0 + (i : Int))), some (.ref pp), some (.ref pr), some (.str one), some (.str two), some (.int lo), some (.int hi), some (.ref p1), some (.ref p46), some (.ref p38)]) rfl ?_
  -- goal = ..
  refine ⟨_, rfl, ?_⟩
  refine ⟨_, rfl, ?_⟩
  refine ⟨_, rfl, ?_⟩
  refine ⟨pr, one, zs, rfl, (k46.at 46 rfl), (Nat.le_trans bz (by decide)), fun p47 G47 s47 e47 => ?_⟩
  have k47 := k46.add s47 e47
  have b47 : List.length (outs zs [one]) ≤ 9 := Nat.le_trans (outs_len _ _) bz
  refine ⟨_, rfl, ?_⟩
  refine ⟨p47, lo, (outs zs [one]), rfl, (k47.at 0 rfl), (Nat.le_trans b47 (by decide)), fun p48 G48 s48 e48 => ?_⟩
  have k48 := k47.add s48 e48
  have b48 : List.length (List.take lo (outs zs [one])) ≤ 9 := Nat.le_trans (take_le _ _) b47
  refine ⟨_, rfl, ?_⟩
  refine ⟨p48, one, (List.take lo (outs zs [one])), rfl, (k48.at 0 rfl), (Nat.le_trans b48 (by decide)), fun p49 G49 s49 e49 => ?_⟩
  have k49 := k48.add s49 e49
  have b49 : List.length (one :: outs (List.take lo (outs zs [one])) [one]) ≤ 10 := Nat.succ_le_succ (Nat.le_trans (outs_len _ _) b48)
  refine ⟨_, rfl, ?_⟩
  refine ⟨_, rfl, ?_⟩
  refine ⟨_, rfl, ?_⟩
  refine ⟨p1, two, (one :: outs zs [one]), rfl, (k49.at 48 rfl), (Nat.le_trans b1 (by decide)), fun p50 G50 s50 e50 => ?_⟩
  have k50 := k49.add s50 e50
  have b50 : List.length (outs (one :: outs zs [one]) [two]) ≤ 10 := Nat.le_trans (outs_len _ _) b1
  refine ⟨(by show 3 ≤ sizeLine; decide), fun p51 h51 => ?_⟩
  have k51 := k50.lay (o := .lst [.ref p49, .ref pr, .ref p50]) h51
  refine ⟨p38, p51, _, _, rfl, rfl, (k51.at 13 rfl), (k51.at 0 rfl), (by show 12 ≤ sizeLine; decide), fun p52 h52 => ?_⟩
  have k52 := k51.lay (o := .lst [.ref p1, .ref p8, .ref p1, .ref p9, .ref p18, .ref p22, .ref p23, .ref p35, .ref p36, .ref p49, .ref pr, .ref p50]) h52
  refine set_slots (σ' := [some (.ref u), some (.int (0 + (i : Int))), some (.ref pp), some (.ref pr), some (.str one), some (.str two), some (.int lo), some (.int hi), some (.ref p1), some (.ref p46), some (.ref p52)]) rfl ?_
  -- the rows
  refine ⟨_, rfl, ?_⟩
  refine ⟨_, rfl, ?_⟩
  refine ⟨_, _, rfl, alike_rows [(p2, p1, (one :: outs zs [one])), (p3, p8, (outs zs [one])), (p5, p1, (one :: outs zs [one])), (p6, p9, ([one] : List Str)), (p12, p18, (pickPair one two (one :: outs zs [one]))), (p14, p22, (outs zs y21)), (p15, p23, ([] : List Str)), (p27, p35, (outs zs y34)), (p29, p36, (List.take (min lo hi) zs)), (p39, p49, (one :: outs (List.take lo (outs zs [one])) [one])), (p42, pr, zs), (p44, p50, (outs (one :: outs zs [one]) [two]))] (k52.at 6 rfl) (k52.at 0 rfl) (by show 12 ≤ 1000; decide) (Rows.cons (k52.at 50 rfl) (k52.at 51 rfl) (by rw [outs_head]) (Nat.le_trans b1 (by decide)) (Rows.cons (k52.at 49 rfl) (k52.at 44 rfl) (outs_head zs one) (Nat.le_trans b8 (by decide)) (Rows.cons (k52.at 47 rfl) (k52.at 51 rfl) (by rw [outs_self]) (Nat.le_trans b1 (by decide)) (Rows.cons (k52.at 46 rfl) (k52.at 43 rfl) (rfl) (Nat.le_trans b9 (by decide)) (Rows.cons (k52.at 40 rfl) (k52.at 34 rfl) (pair_take zs one two) (Nat.le_trans b18 (by decide)) (Rows.cons (k52.at 38 rfl) (k52.at 30 rfl) ((outs_outs _ _ _).trans (outs_congr fun x => (g21 x).symm)) (Nat.le_trans b22 (by decide)) (Rows.cons (k52.at 37 rfl) (k52.at 29 rfl) (rfl) (Nat.le_trans b23 (by decide)) (Rows.cons (k52.at 25 rfl) (k52.at 17 rfl) ((outs_outs _ _ _).trans (outs_congr fun x => (swap2 x).trans (g34 x).symm)) (Nat.le_trans b35 (by decide)) (Rows.cons (k52.at 23 rfl) (k52.at 16 rfl) (by rw [List.take_take, Nat.min_comm]) (Nat.le_trans b36 (by decide)) (Rows.cons (k52.at 13 rfl) (k52.at 3 rfl) (by rw [outs_take]; rfl) (Nat.le_trans b49 (by decide)) (Rows.cons (k52.at 10 rfl) (k52.at 52 rfl) (List.take_append_drop _ _) (Nat.le_trans bz (by decide)) (Rows.cons (k52.at 8 rfl) (k52.at 2 rfl) (rfl) (Nat.le_trans b50 (by decide)) Rows.nil)))))))))))), fun H9 s9 => ⟨_, rfl, iteF ?_⟩⟩
  have fin := k52.st.trans s9
  exact hD _ _ ⟨_, _, _, _, _, _, _, _, _, _, rfl, sA.trans (Sb.of fin), (u7.mono (by omega)).same fin⟩
end
end K03

/-! Law k03, part F4: law itself. -/
namespace K03
open PySem PySem.Spec PyProof.Rows L2
def spLaw (K : PySem.W.Frag) : Sp := fun vs H Q _ => ∃ (a : Addr) (ns : List Int), vs = [.ref a] ∧ SqL K H a (ns.map V.int) ∧ ns.length ≤ 63 ∧ ∀ H', Q (.bl true) H'
theorem scLaw : FnScope ["_law_script", "_law_cells_here", "_law_k"] ["_law_script"] (defScope stLaw) := ⟨rfl, rfl, rfl, by decide +kernel, rfl, by decide +kernel, by decide +kernel⟩
structure FreeL (mg : Str → Option Value) : Prop where
  range : mg "range" = none
  all : mg "all" = none
  len : mg "len" = none
section
variable {P : Program} {w : World} {K : PySem.W.Frag} {mg : Str → Option Value} {base : Heap} {f g1 g2 g3 g4 : Addr} {fd d1 d2 d3 d4 : FuncData}
theorem ok_law (F : Fun K "law" "law" stLaw f fd) (TC : Has P w K mg base 1 "_law_cells" ["_law_script", "_law_top"] (spCells K) g1 d1) (TB : Has P w K mg base 1 "_law_box" ["_law_script", "_law_k"] (spBox K) g2 d2)
    (TH : Has P w K mg base 4 "_law_by_hand_right" [] spHand g3 d3) (TR : Has P w K mg base 4 "_law_right" ["_law_urn"] spRight g4 d4) (M : FreeL mg) : FnOk P w K mg base CX0 5 f fd ["_law_script"] (spLaw K) := by
  refine F.ok scLaw (fun vs H Q E h => ?_) (fun cdv A outer s H vs Q E hr h => ?_)
  · obtain ⟨a, ns, rfl, _⟩ := h
    rfl
  obtain ⟨a, ns, rfl, hS, l63, q⟩ := h
  have hr1 := hr.mono (show 1 ≤ 4 by decide)
  refine ⟨_, pss_cons (ps_set (i := 1) scLaw.nd rfl (.inr rfl) (pe_call TC.ok hr1 rfl TC.m TC.kp TC.b .nil pass0 (pa_cons (pv 0) (pa_cons pe_int pa_nil))))
    (pss_one (ps_ret (pe_and (pe_call0 TH.ok hr rfl TH.m TH.kp TH.b .nil pass0) (pe_one (pe_callB (cr_all rfl) (by rfl) M.all (by decide +kernel) (pa_cons
      (pe_lc (own := [("_law_k", 2)]) (g := gName 2) (tt := tYes) (te := tCall spRight [] E0 (tCons (tCall (spBox K) [] E0 (tCons (tVar 1) (tCons (tVar 2) tNil))) tNil)) rfl scLaw.nd
        (pi_range1 rfl M.range (pa_cons (pe_callB call_len_seq (by rfl) M.len PySem.boot_len (pa_cons (pv 1) pa_nil)) pa_nil))
        (blkOk_by (own := [("_law_k", 2)]) (N := ["_law_script", "_law_cells_here", "_law_k"]) (sc := defScope stLaw) (by decide +kernel)) (fun _ _ _ _ _ => pg_name (i := 2) scLaw.nd rfl (.inl rfl)) (fun _ _ _ _ _ => pts_nil)
        (fun _ _ _ _ _ => pe_call TR.ok hr rfl TR.m TR.kp TR.b .nil pass0 (pa_cons (pe_call TB.ok hr1 rfl TB.m TB.kp TB.b .nil pass0 (pa_cons (pv 1) (pa_cons (pv 2) pa_nil))) pa_nil))) pa_nil)))))), ?_⟩
  refine ⟨_, rfl, a, ns, rfl, hS, l63, fun c cs H1 l3 e1 => ?_⟩
  refine ⟨rfl, fun H2 s2 => ⟨_, rfl, iteT ?_⟩⟩
  have e2 := s2 _ _ e1
  refine ⟨_, rfl, c, _, rfl, .inl (SqL.of e2), _, rfl, by omega, by rw [List.length_map]; omega, fun D hD => ?_⟩
  refine lc_range (lo := 0) (n := (((cs.map V.int).length : Nat) : Int).toNat) (fun i H3 => Same H2 H3 ∧ H3 D = some (.lst ((List.replicate i true).map V.bl))) ⟨same_upd hD, upd_same⟩ (fun i H3 hi p => ?_) (fun H3 p => ?_)
  · obtain ⟨s3, e3⟩ := p
    rw [Int.toNat_natCast, List.length_map] at hi
    refine ⟨rfl, yes ?_⟩
    refine ⟨_, rfl, _, rfl, c, cs, i, by rw [Int.zero_add]; rfl, SqL.of (s3 _ _ e2), fun u H4 s4 nu u4 => ?_⟩
    refine ⟨u, 0, rfl, u4, by decide, fun H5 s5 => ?_⟩
    have s35 : Same H3 H5 := fun b o e => s5 b o (ne_of_none e nu) (s4 b o e)
    refine ⟨_, s35 _ _ e3, ?_, ?_, ?_⟩
    · rw [List.length_map, List.length_replicate]
      exact small1000 (by omega)
    · intro b o e
      rw [upd_ne (ne_of_none e hD)]
      exact s35 _ _ (s3 _ _ e)
    · rw [upd_same, List.replicate_succ', List.map_append]
      rfl
  · obtain ⟨s3, e3⟩ := p
    refine ⟨D, _, rfl, SqL.of e3, ?_⟩
    have t : (List.replicate (((cs.map V.int).length : Nat) : Int).toNat true).all id = true := by simp
    rw [t]
    exact q H3
end
end K03

/-! Law k03, the end (its lines were printed by genend.py). -/
namespace K03
open PySem PySem.Spec PyProof.Rows L2
theorem all_mk {l : PySem.W.OpenLaw} {w : World} {K : PySem.W.Frag} {h : Heap} {mg : Str → Option Value} {fa f1 f2 f3 f4 f5 f6 f7 f8 f9 f10 f11 f12 f13 f14 f15 : Addr} (X : K.In h) (G : h.Ns mainGlobals mg) (hfa : mg "law" = some (.ref fa))
    {od1 an1 od2 an2 od3 an3 od4 an4 od5 an5 od6 an6 od7 an7 od8 an8 od9 an9 od10 an10 od11 an11 od12 an12 od13 an13 od14 an14 od15 an15 : Option Addr} {sl1 sl2 sl3 sl4 sl5 sl6 sl7 sl8 sl9 sl10 sl11 sl12 sl13 sl14 sl15 : Array (Option Value)}
    {oc1 kV1 dc1 pm1 cd1 ct1 oc2 kV2 dc2 pm2 cd2 ct2 oc3 kV3 dc3 pm3 cd3 ct3 oc4 kV4 dc4 pm4 cd4 ct4 oc5 kV5 dc5 pm5 cd5 ct5 oc6 kV6 dc6 pm6 cd6 ct6 oc7 kV7 dc7 pm7 cd7 ct7 oc8 kV8 dc8 pm8 cd8 ct8 oc9 kV9 dc9 pm9 cd9 ct9 oc10 kV10 dc10 pm10 cd10 ct10 oc11 kV11 dc11 pm11 cd11 ct11 oc12 kV12 dc12 pm12 cd12 ct12 oc13 kV13 dc13 pm13 cd13 ct13 oc14 kV14 dc14 pm14 cd14 ct14 oc15 kV15 dc15 pm15 cd15 ct15 : Value}
    (a1 : PySem.W.nsIn K mainGlobals "outside" = some (some (.ref f1))) (l1 : K.lookup f1 = some ⟨oc1, od1, .func (PySem.W.fnOf "outside" "outside" (defArgs stOutside) (defBody stOutside) (defScope stOutside) .none kV1 dc1 pm1 an1 cd1 ct1), sl1⟩) (c1 : PySem.W.codeIn K cd1 "outside" = true) (k1 : PySem.W.keepIn K (.ref f1) = true)
    (a2 : PySem.W.nsIn K mainGlobals "forgotten" = some (some (.ref f2))) (l2 : K.lookup f2 = some ⟨oc2, od2, .func (PySem.W.fnOf "forgotten" "forgotten" (defArgs stForgotten) (defBody stForgotten) (defScope stForgotten) .none kV2 dc2 pm2 an2 cd2 ct2), sl2⟩) (c2 : PySem.W.codeIn K cd2 "forgotten" = true) (k2 : PySem.W.keepIn K (.ref f2) = true)
    (a3 : PySem.W.nsIn K mainGlobals "touched" = some (some (.ref f3))) (l3 : K.lookup f3 = some ⟨oc3, od3, .func (PySem.W.fnOf "touched" "touched" (defArgs stTouched) (defBody stTouched) (defScope stTouched) .none kV3 dc3 pm3 an3 cd3 ct3), sl3⟩) (c3 : PySem.W.codeIn K cd3 "touched" = true) (k3 : PySem.W.keepIn K (.ref f3) = true)
    (a4 : PySem.W.nsIn K mainGlobals "capped" = some (some (.ref f4))) (l4 : K.lookup f4 = some ⟨oc4, od4, .func (PySem.W.fnOf "capped" "capped" (defArgs stCapped) (defBody stCapped) (defScope stCapped) .none kV4 dc4 pm4 an4 cd4 ct4), sl4⟩) (c4 : PySem.W.codeIn K cd4 "capped" = true) (k4 : PySem.W.keepIn K (.ref f4) = true)
    (a5 : PySem.W.nsIn K mainGlobals "_law_box" = some (some (.ref f5))) (l5 : K.lookup f5 = some ⟨oc5, od5, .func (PySem.W.fnOf "_law_box" "_law_box" (defArgs stBox) (defBody stBox) (defScope stBox) .none kV5 dc5 pm5 an5 cd5 ct5), sl5⟩) (c5 : PySem.W.codeIn K cd5 "_law_box" = true) (k5 : PySem.W.keepIn K (.ref f5) = true)
    (a6 : PySem.W.nsIn K mainGlobals "_law_take" = some (some (.ref f6))) (l6 : K.lookup f6 = some ⟨oc6, od6, .func (PySem.W.fnOf "_law_take" "_law_take" (defArgs stTake) (defBody stTake) (defScope stTake) .none kV6 dc6 pm6 an6 cd6 ct6), sl6⟩) (c6 : PySem.W.codeIn K cd6 "_law_take" = true) (k6 : PySem.W.keepIn K (.ref f6) = true)
    (a7 : PySem.W.nsIn K mainGlobals "_law_cells" = some (some (.ref f7))) (l7 : K.lookup f7 = some ⟨oc7, od7, .func (PySem.W.fnOf "_law_cells" "_law_cells" (defArgs stCells) (defBody stCells) (defScope stCells) .none kV7 dc7 pm7 an7 cd7 ct7), sl7⟩) (c7 : PySem.W.codeIn K cd7 "_law_cells" = true) (k7 : PySem.W.keepIn K (.ref f7) = true)
    (a8 : PySem.W.nsIn K mainGlobals "_law_of" = some (some (.ref f8))) (l8 : K.lookup f8 = some ⟨oc8, od8, .func (PySem.W.fnOf "_law_of" "_law_of" (defArgs stOf) (defBody stOf) (defScope stOf) .none kV8 dc8 pm8 an8 cd8 ct8), sl8⟩) (c8 : PySem.W.codeIn K cd8 "_law_of" = true) (k8 : PySem.W.keepIn K (.ref f8) = true)
    (a9 : PySem.W.nsIn K mainGlobals "_law_same" = some (some (.ref f9))) (l9 : K.lookup f9 = some ⟨oc9, od9, .func (PySem.W.fnOf "_law_same" "_law_same" (defArgs stSame) (defBody stSame) (defScope stSame) .none kV9 dc9 pm9 an9 cd9 ct9), sl9⟩) (c9 : PySem.W.codeIn K cd9 "_law_same" = true) (k9 : PySem.W.keepIn K (.ref f9) = true)
    (a10 : PySem.W.nsIn K mainGlobals "_law_mixed" = some (some (.ref f10))) (l10 : K.lookup f10 = some ⟨oc10, od10, .func (PySem.W.fnOf "_law_mixed" "_law_mixed" (defArgs stMixed) (defBody stMixed) (defScope stMixed) .none kV10 dc10 pm10 an10 cd10 ct10), sl10⟩) (c10 : PySem.W.codeIn K cd10 "_law_mixed" = true) (k10 : PySem.W.keepIn K (.ref f10) = true)
    (a11 : PySem.W.nsIn K mainGlobals "_law_tags" = some (some (.ref f11))) (l11 : K.lookup f11 = some ⟨oc11, od11, .func (PySem.W.fnOf "_law_tags" "_law_tags" (defArgs stTags) (defBody stTags) (defScope stTags) .none kV11 dc11 pm11 an11 cd11 ct11), sl11⟩) (c11 : PySem.W.codeIn K cd11 "_law_tags" = true) (k11 : PySem.W.keepIn K (.ref f11) = true)
    (a12 : PySem.W.nsIn K mainGlobals "_law_row" = some (some (.ref f12))) (l12 : K.lookup f12 = some ⟨oc12, od12, .func (PySem.W.fnOf "_law_row" "_law_row" (defArgs stRow) (defBody stRow) (defScope stRow) .none kV12 dc12 pm12 an12 cd12 ct12), sl12⟩) (c12 : PySem.W.codeIn K cd12 "_law_row" = true) (k12 : PySem.W.keepIn K (.ref f12) = true)
    (a13 : PySem.W.nsIn K mainGlobals "_law_by_hand_right" = some (some (.ref f13))) (l13 : K.lookup f13 = some ⟨oc13, od13, .func (PySem.W.fnOf "_law_by_hand_right" "_law_by_hand_right" (defArgs stHand) (defBody stHand) (defScope stHand) .none kV13 dc13 pm13 an13 cd13 ct13), sl13⟩) (c13 : PySem.W.codeIn K cd13 "_law_by_hand_right" = true) (k13 : PySem.W.keepIn K (.ref f13) = true)
    (a14 : PySem.W.nsIn K mainGlobals "_law_right" = some (some (.ref f14))) (l14 : K.lookup f14 = some ⟨oc14, od14, .func (PySem.W.fnOf "_law_right" "_law_right" (defArgs stRight) (defBody stRight) (defScope stRight) .none kV14 dc14 pm14 an14 cd14 ct14), sl14⟩) (c14 : PySem.W.codeIn K cd14 "_law_right" = true) (k14 : PySem.W.keepIn K (.ref f14) = true)
    (a15 : PySem.W.nsIn K mainGlobals "law" = some (some (.ref f15))) (l15 : K.lookup f15 = some ⟨oc15, od15, .func (PySem.W.fnOf "law" "law" (defArgs stLaw) (defBody stLaw) (defScope stLaw) .none kV15 dc15 pm15 an15 cd15 ct15), sl15⟩) (c15 : PySem.W.codeIn K cd15 "law" = true) (k15 : PySem.W.keepIn K (.ref f15) = true)
    (z1 : PySem.W.nsIn K mainGlobals "tuple" = some none)
    (z2 : PySem.W.nsIn K mainGlobals "len" = some none)
    (z3 : PySem.W.nsIn K mainGlobals "abs" = some none)
    (z4 : PySem.W.nsIn K mainGlobals "int" = some none)
    (z5 : PySem.W.nsIn K mainGlobals "list" = some none)
    (z6 : PySem.W.nsIn K mainGlobals "enumerate" = some none)
    (z7 : PySem.W.nsIn K mainGlobals "isinstance" = some none)
    (z8 : PySem.W.nsIn K mainGlobals "all" = some none)
    (z9 : PySem.W.nsIn K mainGlobals "zip" = some none)
    (z10 : PySem.W.nsIn K mainGlobals "bool" = some none)
    (z11 : PySem.W.nsIn K mainGlobals "str" = some none)
    (z12 : PySem.W.nsIn K mainGlobals "range" = some none)
    (z13 : PySem.W.nsIn K mainGlobals "max" = some none)
    (z14 : PySem.W.nsIn K mainGlobals "sorted" = some none)
    (z15 : PySem.W.nsIn K mainGlobals "set" = some none)
    (z16 : PySem.W.nsIn K mainGlobals "min" = some none)
    : ∃ fd : FuncData, (∀ (s : Shared) (v : Value), BindsTo s fd ⟨[v], []⟩ [("_law_script", v)]) ∧ ∀ base : Heap, K.In base → base.Ns mainGlobals mg → FnOk l.prog w K mg base CX0 5 fa fd ["_law_script"] (spLaw K) := by
  have e := hfa.symm.trans (PySem.W.mg_of X G a15)
  cases e
  have F1 := fun_mk (st := stOutside) l1 c1 k1
  have b1 := F1.binds (ps := ["row", "names"]) fun _ _ _ _ _ _ us hl => match us, hl with | [_, _], _ => rfl
  have m1 := PySem.W.mg_of X G a1
  have F2 := fun_mk (st := stForgotten) l2 c2 k2
  have b2 := F2.binds (ps := ["row", "name"]) fun _ _ _ _ _ _ us hl => match us, hl with | [_, _], _ => rfl
  have m2 := PySem.W.mg_of X G a2
  have F3 := fun_mk (st := stTouched) l3 c3 k3
  have b3 := F3.binds (ps := ["row", "name"]) fun _ _ _ _ _ _ us hl => match us, hl with | [_, _], _ => rfl
  have m3 := PySem.W.mg_of X G a3
  have F4 := fun_mk (st := stCapped) l4 c4 k4
  have b4 := F4.binds (ps := ["row", "number"]) fun _ _ _ _ _ _ us hl => match us, hl with | [_, _], _ => rfl
  have m4 := PySem.W.mg_of X G a4
  have F5 := fun_mk (st := stBox) l5 c5 k5
  have b5 := F5.binds (ps := ["_law_script", "_law_k"]) fun _ _ _ _ _ _ us hl => match us, hl with | [_, _], _ => rfl
  have m5 := PySem.W.mg_of X G a5
  have F6 := fun_mk (st := stTake) l6 c6 k6
  have b6 := F6.binds (ps := ["_law_urn", "_law_low_so"]) fun _ _ _ _ _ _ us hl => match us, hl with | [_, _], _ => rfl
  have m6 := PySem.W.mg_of X G a6
  have F7 := fun_mk (st := stCells) l7 c7 k7
  have b7 := F7.binds (ps := ["_law_script", "_law_top"]) fun _ _ _ _ _ _ us hl => match us, hl with | [_, _], _ => rfl
  have m7 := PySem.W.mg_of X G a7
  have F8 := fun_mk (st := stOf) l8 c8 k8
  have b8 := F8.binds (ps := ["_law_urn", "_law_some_so"]) fun _ _ _ _ _ _ us hl => match us, hl with | [_, _], _ => rfl
  have m8 := PySem.W.mg_of X G a8
  have F9 := fun_mk (st := stSame) l9 c9 k9
  have b9 := F9.binds (ps := ["_law_got", "_law_goal"]) fun _ _ _ _ _ _ us hl => match us, hl with | [_, _], _ => rfl
  have m9 := PySem.W.mg_of X G a9
  have F10 := fun_mk (st := stMixed) l10 c10 k10
  have b10 := F10.binds (ps := ["_law_urn", "_law_pool"]) fun _ _ _ _ _ _ us hl => match us, hl with | [_, _], _ => rfl
  have m10 := PySem.W.mg_of X G a10
  have F11 := fun_mk (st := stTags) l11 c11 k11
  have b11 := F11.binds (ps := ["_law_urn", "_law_many_so"]) fun _ _ _ _ _ _ us hl => match us, hl with | [_, _], _ => rfl
  have m11 := PySem.W.mg_of X G a11
  have F12 := fun_mk (st := stRow) l12 c12 k12
  have b12 := F12.binds (ps := ["_law_urn", "_law_pool", "_law_most"]) fun _ _ _ _ _ _ us hl => match us, hl with | [_, _, _], _ => rfl
  have m12 := PySem.W.mg_of X G a12
  have F13 := fun_mk (st := stHand) l13 c13 k13
  have b13 := F13.binds (ps := []) fun _ _ _ _ _ _ us hl => match us, hl with | [], _ => rfl
  have m13 := PySem.W.mg_of X G a13
  have F14 := fun_mk (st := stRight) l14 c14 k14
  have b14 := F14.binds (ps := ["_law_urn"]) fun _ _ _ _ _ _ us hl => match us, hl with | [_], _ => rfl
  have m14 := PySem.W.mg_of X G a14
  have F15 := fun_mk (st := stLaw) l15 c15 k15
  have n_tuple := PySem.W.mg_none_of X G z1
  have n_len := PySem.W.mg_none_of X G z2
  have n_abs := PySem.W.mg_none_of X G z3
  have n_int := PySem.W.mg_none_of X G z4
  have n_list := PySem.W.mg_none_of X G z5
  have n_enumerate := PySem.W.mg_none_of X G z6
  have n_isinstance := PySem.W.mg_none_of X G z7
  have n_all := PySem.W.mg_none_of X G z8
  have n_zip := PySem.W.mg_none_of X G z9
  have n_bool := PySem.W.mg_none_of X G z10
  have n_str := PySem.W.mg_none_of X G z11
  have n_range := PySem.W.mg_none_of X G z12
  have n_max := PySem.W.mg_none_of X G z13
  have n_sorted := PySem.W.mg_none_of X G z14
  have n_set := PySem.W.mg_none_of X G z15
  have n_min := PySem.W.mg_none_of X G z16
  refine ⟨PySem.W.fnOf "law" "law" (defArgs stLaw) (defBody stLaw) (defScope stLaw) .none kV15 dc15 pm15 an15 cd15 ct15, fun s v => .of_eq rfl, fun base _ _ => ?_⟩
  have H1 : Has l.prog w K mg base 1 "outside" ["row", "names"] (spOutside K) f1 _ := ⟨ok_outside F1 n_tuple, b1, k1, m1⟩
  have H2 : Has l.prog w K mg base 2 "forgotten" ["row", "name"] (spForgotten K) f2 _ := ⟨ok_forgotten F2 H1.ok H1.b H1.kp H1.m, b2, k2, m2⟩
  have H3 : Has l.prog w K mg base 3 "touched" ["row", "name"] (spTouched K) f3 _ := ⟨ok_touched F3 H2.ok H2.b H2.kp H2.m, b3, k3, m3⟩
  have H4 : Has l.prog w K mg base 1 "capped" ["row", "number"] (spCapped K) f4 _ := ⟨ok_capped F4 n_tuple, b4, k4, m4⟩
  have H5 : Has l.prog w K mg base 1 "_law_box" ["_law_script", "_law_k"] (spBox K) f5 _ := ⟨ok_box F5 n_len n_abs n_int, b5, k5, m5⟩
  have H6 : Has l.prog w K mg base 1 "_law_take" ["_law_urn", "_law_low_so"] spTake f6 _ := ⟨ok_take F6 n_int, b6, k6, m6⟩
  have H7 : Has l.prog w K mg base 1 "_law_cells" ["_law_script", "_law_top"] (spCells K) f7 _ := ⟨ok_cells F7 n_list n_enumerate n_int, b7, k7, m7⟩
  have H8 : Has l.prog w K mg base 2 "_law_of" ["_law_urn", "_law_some_so"] (spOf K) f8 _ := ⟨ok_of F8 H6.ok H6.b H6.kp H6.m n_len, b8, k8, m8⟩
  have H9 : Has l.prog w K mg base 3 "_law_same" ["_law_got", "_law_goal"] (spSame 3) f9 _ := ⟨ok_same F9 b9 m9 ⟨n_isinstance, n_list, n_tuple, n_len, n_all, n_zip, n_bool, n_str, n_int⟩ 3, b9, k9, m9⟩
  have H10 : Has l.prog w K mg base 2 "_law_mixed" ["_law_urn", "_law_pool"] (spMixed K) f10 _ := ⟨ok_mixed F10 H6.ok H6.b H6.kp H6.m n_len n_list n_range, b10, k10, m10⟩
  have H11 : Has l.prog w K mg base 3 "_law_tags" ["_law_urn", "_law_many_so"] spTags f11 _ := ⟨ok_tags F11 H6.ok H6.b H6.kp H6.m H8.ok H8.b H8.kp H8.m H10.ok H10.b H10.kp H10.m ⟨n_range, n_max, n_len, n_int⟩, b11, k11, m11⟩
  have H12 : Has l.prog w K mg base 3 "_law_row" ["_law_urn", "_law_pool", "_law_most"] (spRow K) f12 _ := ⟨ok_row F12 H6.ok H6.b H6.kp H6.m H10.ok H10.b H10.kp H10.m n_tuple, b12, k12, m12⟩
  have H13 : Has l.prog w K mg base 4 "_law_by_hand_right" [] spHand f13 _ := ⟨ok_hand F13 H1 H2 H3 H4 H9, b13, k13, m13⟩
  have H14 : Has l.prog w K mg base 4 "_law_right" ["_law_urn"] spRight f14 _ := ⟨ok_right F14 H1 H2 H3 H4 H9 H11 H12 H8 H6 ⟨n_range, n_sorted, n_set, n_min⟩, b14, k14, m14⟩
  exact ok_law F15 H7 H5 H13 H14 ⟨n_range, n_all, n_len⟩
end K03
open PySem PySem.W PyProof.Rows
set_option maxRecDepth 100000 in
set_option maxHeartbeats 0 in
theorem PySem.Challenge.cw_touchcaps_k03_whole_rows_changed_one_way_holds : PySem.Challenge.rw_touchcaps_k03_whole_rows_changed_one_way.Holds := by
  w_on; o_law; k_head; (case hw => w_witness2)
  k_fill
  refine L2.walk_of (l := PySem.Challenge.rw_touchcaps_k03_whole_rows_changed_one_way) (n := 63) (k := 5) (x := "_law_script") (CX := fun _ => L2.CX0) (sp := fun w => K03.spLaw _) rfl (by decide) rfl ⟨rfl, by decide, by decide⟩ (fun w h Y => PySem.W.kIn_of Y) ?F (fun _ _ a ns hl _ hS => ⟨a, ns, rfl, hS, hl, fun _ => rfl⟩) (fun _ _ _ _ _ h => h)
  case F =>
    intro w mg fa h KX G hmg
    refine' K03.all_mk KX G hmg ?a1 ?l1 ?c1 ?k1 ?a2 ?l2 ?c2 ?k2 ?a3 ?l3 ?c3 ?k3 ?a4 ?l4 ?c4 ?k4 ?a5 ?l5 ?c5 ?k5 ?a6 ?l6 ?c6 ?k6 ?a7 ?l7 ?c7 ?k7 ?a8 ?l8 ?c8 ?k8 ?a9 ?l9 ?c9 ?k9 ?a10 ?l10 ?c10 ?k10 ?a11 ?l11 ?c11 ?k11 ?a12 ?l12 ?c12 ?k12 ?a13 ?l13 ?c13 ?k13 ?a14 ?l14 ?c14 ?k14 ?a15 ?l15 ?c15 ?k15 ?z1 ?z2 ?z3 ?z4 ?z5 ?z6 ?z7 ?z8 ?z9 ?z10 ?z11 ?z12 ?z13 ?z14 ?z15 ?z16
    (case a1 => k_is)
    (case l1 => k_is)
    (case c1 => k_is)
    (case k1 => k_is)
    (case a2 => k_is)
    (case l2 => k_is)
    (case c2 => k_is)
    (case k2 => k_is)
    (case a3 => k_is)
    (case l3 => k_is)
    (case c3 => k_is)
    (case k3 => k_is)
    (case a4 => k_is)
    (case l4 => k_is)
    (case c4 => k_is)
    (case k4 => k_is)
    (case a5 => k_is)
    (case l5 => k_is)
    (case c5 => k_is)
    (case k5 => k_is)
    (case a6 => k_is)
    (case l6 => k_is)
    (case c6 => k_is)
    (case k6 => k_is)
    (case a7 => k_is)
    (case l7 => k_is)
    (case c7 => k_is)
    (case k7 => k_is)
    (case a8 => k_is)
    (case l8 => k_is)
    (case c8 => k_is)
    (case k8 => k_is)
    (case a9 => k_is)
    (case l9 => k_is)
    (case c9 => k_is)
    (case k9 => k_is)
    (case a10 => k_is)
    (case l10 => k_is)
    (case c10 => k_is)
    (case k10 => k_is)
    (case a11 => k_is)
    (case l11 => k_is)
    (case c11 => k_is)
    (case k11 => k_is)
    (case a12 => k_is)
    (case l12 => k_is)
    (case c12 => k_is)
    (case k12 => k_is)
    (case a13 => k_is)
    (case l13 => k_is)
    (case c13 => k_is)
    (case k13 => k_is)
    (case a14 => k_is)
    (case l14 => k_is)
    (case c14 => k_is)
    (case k14 => k_is)
    (case a15 => k_is)
    (case l15 => k_is)
    (case c15 => k_is)
    (case k15 => k_is)
    (case z1 => k_is)
    (case z2 => k_is)
    (case z3 => k_is)
    (case z4 => k_is)
    (case z5 => k_is)
    (case z6 => k_is)
    (case z7 => k_is)
    (case z8 => k_is)
    (case z9 => k_is)
    (case z10 => k_is)
    (case z11 => k_is)
    (case z12 => k_is)
    (case z13 => k_is)
    (case z14 => k_is)
    (case z15 => k_is)
    (case z16 => k_is)

