import PyProof.Rows.All
import Wide.All
import OpenK.AllK
import Wide.FinOn
import HandS.ForMost
import HandS.More
import HandS.IsInst
import HandS.Codes
import HandS.Rev
import PySem.Challenge.RW_rowbreadth_k29_numbers_handed_out
set_option Elab.async false
set_option linter.all false
set_option maxRecDepth 100000
set_option maxHeartbeats 8000000
/-! list(reversed(x)), x a tracked list: a new list, turned about. -/
namespace Fd
open PySem PySem.Spec PyProof.Rows L2

section
variable {prog : Program} {w : World} {A : Around} {E : Value → Shared → Prop} {s : Shared}

/-- the items of a list, the last one first -/
abbrev Back (vs acc : Array Value) : Prop := ItemsOf (fun i v => vs[vs.size - 1 - i]? = some v) acc vs.size
/-- the reversed list at j (over the list at b), poured into a new empty list at D -/
theorem pour_rev {R : Result → Shared → Prop} {j b : Addr} {vs : Array Value} (calm : A.handled = none)
    (hj : s.heap.IsRevIter j b ((vs.size : Int) - 1)) (hb : s.heap.IsList b vs) (nbj : b ≠ j) (few : vs.size ≤ sizeLine)
    (D : Addr) (nDj : D ≠ j) (nDb : D ≠ b) (n₀ : Nat) (hD : s.heap.get? D = some { cls := .type "list", data := .seq #[] n₀ })
    (hR : ∀ (h' : Heap) (tk : Nat) (acc : Array Value) (n' : Nat), (∀ c o, c ≠ j → c ≠ D → s.heap.get? c = some o → h'.get? c = some o) →
      h'.get? D = some { cls := .type "list", dict := none, data := .seq acc n', slots := #[] } →
      Back vs acc → R (.ok (.ret .none)) { s with heap := h', toks := tk }) :
    wpAny (model prog w) A.in1 (Builtin.List.listExtendWith (.ref D) (.ref j) .none)
      (fun fin s' => match fin with
        | .done f => R (.ok f) s'
        | .again c' => c'.quiet = true ∧ codeAny (model prog w) A c' R s')
      (fun e s' => R (.error e) s') s := by
  have walks := (Walks.listRev (prog := prog) (w := w) (A := A.in1) calm j b nbj vs).toS
  have out : D ∉ [j, b] := by
    simp only [List.mem_cons, List.not_mem_nil, or_false, not_or]
    exact ⟨nDj, nDb⟩
  have tyj : s.TypeIs (.ref j) "list_reverseiterator" := hj.typeIs
  have no1 : Builtin.List.listSameRef (.ref D) (.ref j) = false := by simp [Builtin.List.listSameRef, nDj]
  have no2 : (Value.type "list_reverseiterator" == Value.type "list") = false := by decide
  have no3 : (Value.type "list_reverseiterator" == Value.type "tuple") = false := by decide
  -- extend: it is no list, no tuple; iter() tells itself
  unfold Builtin.List.listExtendWith; refine wpAny_bind (wpAny_typeOf tyj ?_)
  simp only [no1, no2, no3, Bool.or_false, Bool.false_eq_true, if_false]
  refine wpAny_bind (wpAny_pyIter_revIter (s := s) hj ?_); refine wpAny_bind (wpAny_holding ?_)
  -- it has no length, but a hint of one
  unfold Builtin.List.listLengthHint; refine wpAny_bind (wpAny_specialOf tyj RT.nolen_lri ?_)
  show wpAny _ A.in1 (specialOf (Value.ref j) (Str.ofString "__length_hint__") >>= _) _ _ _
  refine wpAny_bind (wpAny_specialOf tyj RT.hint_lri ?_)
  generalize hint : ("list_reverseiterator.__length_hint__" : String) = id
  wp_delta
  rw [show splitId id = some ("list_reverseiterator", "__length_hint__") from by subst hint; decide +kernel]
  subst hint
  refine wpAny_bind (wpAny_isInstance (b := true) tyj (by rw [isSubtype_type]; kernel_rfl) ?_); refine wpAny_pure ?_
  rw [if_neg (by decide)]
  -- the loop
  have e0 : ((vs.size : Nat) : Int) - 1 - ((0 : Nat) : Int) = (vs.size : Int) - 1 := by omega
  refine wpAny_pure ⟨plainId_quiet PySem.F.plain_extend_loop _, codeAny_extend_loopS walks few _ out _ vs.size 0 _ _ _ rfl (Nat.zero_le _) ⟨Nat.zero_le _, by rw [e0]; exact hj, hb⟩ hD (ItemsOf.nil _) fun t acc n' moved ht items => ?_⟩
  rw [Moved.eq_with moved]
  refine hR t.heap t.toks acc n' (fun c o ncj ncD e => moved.heap c o (fun z => ?_) e) ht items
  exact (List.mem_cons.mp z).elim ncD fun z => ncj (List.mem_singleton.mp z)

/-- list(j), j a reversed list that nothing was drawn from -/
theorem call_list_rev {j b : Addr} {vs : Array Value} {Q : Value → Shared → Prop} (calm : A.handled = none)
    (hj : s.heap.IsRevIter j b ((vs.size : Int) - 1)) (hb : s.heap.IsList b vs) (nbj : b ≠ j) (few : vs.size ≤ sizeLine)
    (hQ : ∀ (h' : Heap) (tk : Nat) (acc : Array Value) (n' : Nat), (∀ c o, c ≠ j → s.heap.get? c = some o → h'.get? c = some o) →
      h'.get? s.heap.objs.size = some { cls := .type "list", dict := none, data := .seq acc n', slots := #[] } →
      Back vs acc → Q (.ref s.heap.objs.size) { s with heap := h', toks := tk }) :
    wpAny (model prog w) A (call (.type "list") [.ref j]) Q E s := by
  obtain ⟨oj, goj, _⟩ := id hj
  obtain ⟨ob, gob, _⟩ := id hb
  generalize hD : s.heap.objs.size = D at hQ
  have nDj : D ≠ j := hD ▸ Nat.ne_of_gt (Heap.lt_size goj)
  have nDb : D ≠ b := hD ▸ Nat.ne_of_gt (Heap.lt_size gob)
  have low : ∀ c o, s.heap.get? c = some o → c ≠ D := fun c o e => hD ▸ Nat.ne_of_lt (Heap.lt_size e)
  -- list.__new__: a new empty list at D
  refine callType_codes (Q₁ := fun x t => x = .ref D ∧ t = { s with heap := s.heap.push { cls := .type "list", data := .seq #[] } }) PySem.F.called_list (PySem.F.typeCall_list_1 _) PySem.F.entry_list_init
    (code_list_new _ ⟨by rw [hD], rfl⟩) fun x t xt => ?_
  obtain ⟨rfl, rfl⟩ := xt
  have new : (s.heap.push { cls := .type "list", data := .seq #[] }).get? D = some { cls := .type "list", data := .seq #[] } := hD ▸ Heap.get?_push_size _ rfl
  -- list.__init__: it is emptied, then extended
  refine ⟨⟨_, new, rfl⟩, PySem.F.args_list_init_2 _ _, ?_⟩
  show wpAny _ A.in1.in1 (do let was ← Builtin.List.listItems (.ref D); Builtin.List.listUpdate (.ref D) (fun _ => #[]); letGo was.toList.reverse; Builtin.List.listExtendWith (.ref D) (.ref j) .none) _ _ _
  refine wpAny_bind ?_
  unfold Builtin.List.listItems; refine wpAny_bind (wpAny_seqItems new rfl (wpAny_pure ?_))
  show wpAny _ A.in1.in1 (updateSeq D (fun _ => #[]) >>= fun _ => letGo (#[] : Array Value).toList.reverse >>= fun _ => Builtin.List.listExtendWith (.ref D) (.ref j) .none) _ _ _
  refine wpAny_bind (wpAny_updateSeq new rfl ?_); refine wpAny_bind (wpAny_letGo ?_)
  have bare := Heap.get?_update_self (Obj.mapSeq (fun _ => (#[] : Array Value))) new rfl
  have old : ∀ c o, s.heap.get? c = some o → ((s.heap.push { cls := .type "list", data := .seq #[] }).update D (Obj.mapSeq (fun _ => (#[] : Array Value)))).get? c = some o := fun c o e =>
    (Heap.get?_update_other _ _ (Ne.symm (low c o e))).trans (Heap.get?_push_of_some _ e)
  refine pour_rev (A := A.in1) (vs := vs) calm (hj.at fun o e => old _ o e) (hb.at fun o e => old _ o e) nbj few _ nDj nDb _ bare fun h' tk acc n' kept ht items => ?_
  exact ⟨rfl, hQ h' tk acc n' (fun c o ncj e => kept c o ncj (low c o e) (old c o e)) ht items⟩
end

/-- list(reversed(x)), x a list: a new list -/
def tLstRev (K : PySem.W.Frag) (te : TE) : TE := fun σ H Q => te σ H fun v H1 => ∃ (a : Addr) (xs : List V), v = .ref a ∧ SqL K H1 a xs ∧ ∀ q, H1 q = none → Q (.ref q) (upd H1 q (.lst xs.reverse))
theorem pe_lstRev {X : Cx} {e : Expr} {te : TE} {p p2 pos pos2 : Pos} (calm : X.calm = true) (gl : Gl X "list") (ml : X.mg "list" = none) (gr : Gl X "reversed") (mr : X.mg "reversed" = none) (he : PE X e te)
    (st : starEach [e] X.env = (false, eval e X.env) :: starEach [] X.env := by rfl)
    (st2 : starEach [.Call (.Name "reversed" p2) [e] [] pos2] X.env = (false, eval (.Call (.Name "reversed" p2) [e] [] pos2) X.env) :: starEach [] X.env := by rfl) :
    PE X (.Call (.Name "list" p) [.Call (.Name "reversed" p2) [e] [] pos2] [] pos) (tLstRev X.K te) := by
  refine ⟨fun pins s σ H Q I h => ?_⟩
  refine Call_ (ld_blt I gl ml PyProof.Rows.boot_list (PyProof.Rows.callWith_type1 (args_cons (Call_ (ld_blt I gr mr PyProof.Rows.boot_reversed (PyProof.Rows.callWith_type1 (args_cons (thn (he.run pins s σ H _ I h) fun u t ⟨v, G, J, rv, ask⟩ => args_nil ?_) st) st rfl))) st2) st2 rfl))
  obtain ⟨a, xs, rfl, hx, q⟩ := ask
  cases (show u = Value.ref a from rv)
  obtain ⟨us, rel, at_, few⟩ := J.list hx
  -- reversed(x): a new iterator, which nothing tracks
  refine call_reversed_list at_.isList (args_nil ?_)
  have J2 : Inv X pins σ G { t with heap := t.heap.push (revObj a ((us.toArray.size : Int) - 1)) } := J.kept (t' := t.toks) fun b o e => Heap.get?_push_of_some _ e
  have free := J.fpOk (H' := G) (b := t.heap.objs.size) (Nat.le_refl _) (J.hok.fresh (Nat.le_refl _))
  have isl := at_.isList
  obtain ⟨oa, goa, _⟩ := id isl
  refine call_list_rev (s := { t with heap := t.heap.push (revObj a ((us.toArray.size : Int) - 1)) }) (J.ok.hd calm) ⟨_, Heap.get?_push_size _ rfl, rfl, rfl⟩ (isl.push _)
    (Nat.ne_of_lt (Heap.lt_size goa)) (by rw [List.size_toArray, ← rel.length]; exact few) fun h' tk acc n' kept ht items => ?_
  -- list(..): the new list, and the iterator is spent
  refine ⟨.ref (t.heap.push (revObj a ((us.toArray.size : Int) - 1))).objs.size, upd G (t.heap.push (revObj a ((us.toArray.size : Int) - 1))).objs.size (.lst xs.reverse),
    J2.turnedNew (t' := tk) (ch := [t.heap.objs.size]) (T := (t.heap.push (revObj a ((us.toArray.size : Int) - 1))).objs.size) (fun b o hb e => kept b o (fun z => hb (by simp [z])) e) (fun b hb => ?_) (Nat.le_refl _) ?_,
    rfl, q _ (J2.hok.fresh (Nat.le_refl _))⟩
  · have eb : b = t.heap.objs.size := by simpa using hb
    subst eb
    exact free
  · refine (show ObjOk X.prog X.w _ _ _ (.lst xs.reverse) from ⟨by rw [List.length_reverse]; exact few, acc.toList, n', RT.vals_rev rel items, ?_⟩)
    rw [Array.toArray_toList]
    exact ht
end Fd

/-! The Feed's two methods and the law's four helpers, each with its promise. -/
namespace Fd
open PySem L2
/-! ### the text by places -/
def top (i : Nat) : Stmt := PySem.Challenge.pw_rowbreadth_k29_numbers_handed_out.main.body.getD i (.Pass ⟨0, 0, 0, 0⟩)
abbrev sInit : Stmt := inClass (top 1) 0
abbrev sTaken : Stmt := inClass (top 1) 1
abbrev sCell : Stmt := top 3
abbrev sSome : Stmt := top 4
abbrev sWhole : Stmt := top 5
abbrev sDue : Stmt := top 6
abbrev sLaw : Stmt := top 7

/-! ### the plain law -/
/-- the number told at the asking c (from 0) of a Feed of xs -/
def due (xs : List Int) (c : Nat) : Int := if xs.length = 0 then 0 else xs.getD (c % xs.length) 0
/-- where a Feed of xs stands behind c askings -/
def place (xs : List Int) (c : Nat) : Nat := if xs.length = 0 then 0 else c % xs.length
theorem due_nil {xs : List Int} {c : Nat} (h : xs.length = 0) : due xs c = 0 := if_pos h
theorem place_nil {xs : List Int} {c : Nat} (h : xs.length = 0) : place xs c = 0 := if_pos h
theorem place_lt {xs : List Int} {c : Nat} (h : xs.length ≠ 0) : place xs c < xs.length := by
  unfold place
  rw [if_neg h]
  exact Nat.mod_lt _ (Nat.pos_of_ne_zero h)
theorem due_at {xs : List Int} {c : Nat} (h : xs.length ≠ 0) : xs[place xs c]? = some (due xs c) := by
  have hl := place_lt (c := c) h
  have e : place xs c = c % xs.length := if_neg h
  unfold due
  rw [if_neg h, ← e, List.getD_eq_getElem?_getD, List.getElem?_eq_getElem hl]
  rfl
theorem place_zero (xs : List Int) : place xs 0 = 0 := by
  unfold place
  split
  · rfl
  · exact Nat.zero_mod _
theorem place_turn {xs : List Int} {c : Nat} (h : xs.length ≠ 0) (e : place xs c + 1 = xs.length) : place xs (c + 1) = 0 := by
  have e1 : place xs c = c % xs.length := if_neg h
  have e2 : place xs (c + 1) = (c + 1) % xs.length := if_neg h
  rw [e1] at e
  rw [e2]
  have d := Nat.div_add_mod c xs.length
  have e3 : c + 1 = xs.length * (c / xs.length + 1) := by
    rw [Nat.mul_add, Nat.mul_one]
    omega
  rw [e3]
  exact Nat.mul_mod_right _ _
theorem place_next {xs : List Int} {c : Nat} (h : xs.length ≠ 0) (e : place xs c + 1 ≠ xs.length) : place xs (c + 1) = place xs c + 1 := by
  have hl := place_lt (c := c) h
  have e1 : place xs c = c % xs.length := if_neg h
  have e2 : place xs (c + 1) = (c + 1) % xs.length := if_neg h
  rw [e1] at e hl
  rw [e1, e2]
  have d := Nat.div_add_mod c xs.length
  have e3 : c + 1 = xs.length * (c / xs.length) + (c % xs.length + 1) := by omega
  rw [e3, Nat.mul_add_mod, Nat.mod_eq_of_lt (by omega)]

/-! ### a Feed's attributes -/
theorem ts : ¬ (("stock" : Str) = "spent") := by decide +kernel
def ff (l : Addr) (z : Int) : List (Str × V) := putF "spent" (.int z) (putF "stock" (.ref l) [])
theorem ff_eq (l : Addr) (z : Int) : ff l z = ([("stock", V.ref l), ("spent", V.int z)] : List (Str × V)) := by
  show (if ("stock" : Str) = "spent" then [(("stock" : Str), V.int z)] else (("stock" : Str), V.ref l) :: putF "spent" (V.int z) []) = ([("stock", V.ref l), ("spent", V.int z)] : List (Str × V))
  rw [if_neg ts]
  all_goals rfl
theorem ff_stock (l : Addr) (z : Int) : (ff l z).lookup ("stock" : Str) = some (.ref l) := by
  unfold ff
  rw [lookup_putF, if_neg ts, lookup_putF, if_pos rfl]
theorem ff_spent (l : Addr) (z : Int) : (ff l z).lookup ("spent" : Str) = some (.int z) := by
  unfold ff
  rw [lookup_putF, if_pos rfl]
theorem ff_no (l : Addr) (z : Int) {m : Str} (h1 : ¬ m = "spent") (h2 : ¬ m = "stock") : (ff l z).lookup m = none := by
  unfold ff
  rw [lookup_putF, if_neg h1, lookup_putF, if_neg h2]
  all_goals rfl
theorem ff_put (l : Addr) (z y : Int) : putF "spent" (.int y) (ff l z) = ff l y := by
  rw [ff_eq, ff_eq]
  show (if ("stock" : Str) = "spent" then _ else (("stock" : Str), V.ref l) :: (if ("spent" : Str) = "spent" then [(("spent" : Str), V.int y)] else _)) = ([("stock", V.ref l), ("spent", V.int y)] : List (Str × V))
  rw [if_neg ts, if_pos rfl]
theorem ff_few (l : Addr) (z : Int) : (ff l z).length < 1000 := by
  rw [ff_eq]
  show 2 < 1000
  decide
/-- at p stands a Feed whose own list is at l and whose place is z -/
def RawAt (C : Addr) (H : Hp) (p l : Addr) (z : Int) : Prop := ∃ dx, H p = some (.ins C dx (ff l z))
/-- at p stands a Feed of xs, asked c times; its own list is at l -/
def FeedAt (C : Addr) (H : Hp) (p l : Addr) (xs : List Int) (c : Nat) : Prop := RawAt C H p l (place xs c) ∧ H l = some (.lst (xs.map V.int))

/-! ### the promises -/
def spInit (K : PySem.W.Frag) (C : Addr) : Sp := fun vs H Q _ => ∃ (p dx a : Addr) (xs : List Int), vs = [.ref p, .ref a] ∧ H p = some (.ins C dx []) ∧ SqL K H a (xs.map V.int) ∧
  ∀ (l : Addr) (H' : Hp), H l = none → FeedAt C H' p l xs 0 → (∀ b o, H b = some o → b ≠ p → H' b = some o) → Q .non H'
def spTaken (C : Addr) : Sp := fun vs H Q _ => ∃ (p l : Addr) (xs : List Int) (c : Nat), vs = [.ref p] ∧ FeedAt C H p l xs c ∧
  ∀ H' : Hp, FeedAt C H' p l xs (c + 1) → (∀ b o, H b = some o → b ≠ p → H' b = some o) → Q (.int (due xs c)) H'
def spCell (K : PySem.W.Frag) : Sp := fun vs H Q _ => ∃ (a : Addr) (ns : List Int) (k : Nat), vs = [.ref a, .int (k : Int)] ∧ SqL K H a (ns.map V.int) ∧ Q (.int (ns.getD k 0)) H
def spSome (K : PySem.W.Frag) : Sp := fun vs H Q _ => ∃ (a : Addr) (ns : List Int) (z y m : Int), vs = [.ref a, .int z, .int y, .int m] ∧ SqL K H a (ns.map V.int) ∧ 0 ≤ z ∧ z ≤ 1000000 ∧ 0 ≤ y ∧ y ≤ 1000 ∧ 0 < m ∧
  ∀ r : Int, 0 ≤ r → r < m → Q (.int r) H
def spWhole : Sp := fun vs H Q _ => ∃ i : Int, vs = [.int i] ∧ Q (.bl true) H
def spDue (K : PySem.W.Frag) : Sp := fun vs H Q _ => ∃ (a : Addr) (xs : List Int) (c : Nat), vs = [.ref a, .int (c : Int)] ∧ SqL K H a (xs.map V.int) ∧ Q (.int (due xs c)) H
/-- what the walk asks of the top -/
structure Txt (K : PySem.W.Frag) (mg : Str → Option Value) (C : Addr) : Prop where
  cl : Cls K C
  nSt : NoAttr K C "stock"
  nSp : NoAttr K C "spent"
  mgC : mg "Feed" = some (.ref C)
  len : mg "len" = none
  list : mg "list" = none
  rev : mg "reversed" = none
  range : mg "range" = none
  isi : mg "isinstance" = none
  int : mg "int" = none
  bool : mg "bool" = none

section
variable {P : Program} {w : World} {K : PySem.W.Frag} {mg : Str → Option Value} {base : Heap}
theorem scInit : FnScope ["self", "numbers"] ["self", "numbers"] (defScope sInit) := ⟨rfl, rfl, rfl, by decide +kernel, rfl, by decide +kernel, by decide +kernel⟩
theorem ok_init {f C : Addr} {fd : FuncData} (F : Fun K "__init__" "Feed.__init__" sInit f fd) (T : Txt K mg C) : FnOk P w K mg base CX0 1 f fd ["self", "numbers"] (spInit K C) := by
  refine F.ok scInit (fun vs H Q E h => ?_) (fun cdv A outer s H vs Q E hr h => ?_)
  · obtain ⟨p, dx, a, xs, rfl, _⟩ := h
    rfl
  · obtain ⟨p, dx, a, xs, rfl, hp, hS, k⟩ := h
    -- the own list is a copy; the place is 0
    refine ⟨_, pss_cons (ps_fld (pv 0) (pe_callTy call_list_of (by rfl) T.list (by decide +kernel) (pa_cons (pv 1) pa_nil)) rfl) (pss_one (ps_fld (pv 0) pe_int rfl)), ?_⟩
    refine ⟨.ref a, rfl, a, xs.map V.int, rfl, .inl hS, fun l hl => ?_⟩
    have npl : p ≠ l := ne_of_none hp hl
    refine ⟨_, rfl, p, C, dx, [], rfl, (by rw [upd_ne npl]; exact hp), T.cl, T.nSt, (by show 0 < 1000; decide), _, rfl, p, C, dx, _, rfl, upd_same, T.cl, T.nSp, (by show 1 < 1000; decide), ?_⟩
    refine k l _ hl ⟨⟨dx, ?_⟩, ?_⟩ fun b o e hb => ?_
    · rw [place_zero]
      exact upd_same
    · rw [upd_ne npl.symm, upd_ne npl.symm, upd_same]
    · rw [upd_ne hb, upd_ne hb, upd_ne (ne_of_none e hl)]
      exact e
theorem scTaken : FnScope ["self", "number"] ["self"] (defScope sTaken) := ⟨rfl, rfl, rfl, by decide +kernel, rfl, by decide +kernel, by decide +kernel⟩
theorem ok_taken {f C : Addr} {fd : FuncData} (F : Fun K "taken" "Feed.taken" sTaken f fd) (T : Txt K mg C) : FnOk P w K mg base CX0 1 f fd ["self"] (spTaken C) := by
  refine F.ok scTaken (fun vs H Q E h => ?_) (fun cdv A outer s H vs Q E hr h => ?_)
  · obtain ⟨p, l, xs, c, rfl, _⟩ := h
    rfl
  · obtain ⟨p, l, xs, c, rfl, ⟨⟨dx, hp⟩, hL⟩, k⟩ := h
    have nlp : l ≠ p := ne_of hL hp (by intro q; cases q)
    refine ⟨_, pss_cons (ps_if (pt_cmpR op_eq (pe_callB call_len_seq (by rfl) T.len PySem.boot_len (pa_cons (pe_fld (pv 0) rfl) pa_nil)) pe_int (nomark _)) (pss_one (ps_ret pe_int)) pss_nil)
      (pss_cons (ps_set (i := 1) scTaken.nd rfl (Or.inl rfl) (pe_ix ix_list (pe_fld (pv 0) rfl) (pe_fld (pv 0) rfl) (fun _ _ => rfl)))
      (pss_cons (ps_fldaug (pv 0) pe_int in_add)
      (pss_cons (ps_if (pt_cmpR op_eq (pe_fld (pv 0) rfl) (pe_callB call_len_seq (by rfl) T.len PySem.boot_len (pa_cons (pe_fld (pv 0) rfl) pa_nil)) (nomark _)) (pss_one (ps_fld (pv 0) pe_int rfl)) pss_nil)
      (pss_one (ps_ret (pv 1)))))), ?_⟩
    -- an empty list: 0
    refine ⟨_, rfl, p, C, dx, _, _, rfl, hp, T.cl, T.nSt, ff_stock _ _, l, xs.map V.int, rfl, .inl (SqL.of hL), rfl, _, rfl, ite2 (fun e => ?_) (fun e => ?_)⟩
    · have h0 : xs.length = 0 := by
        have q : ((xs.map V.int).length : Int) = 0 := V.int.inj (of_decide_eq_true e)
        rw [List.length_map] at q
        omega
      have q := k H ⟨⟨dx, by rw [place_nil h0]; rw [place_nil h0] at hp; exact hp⟩, hL⟩ fun b o e _ => e
      rw [due_nil h0] at q
      exact q
    · have h0 : xs.length ≠ 0 := fun z => e (decide_eq_true (by rw [List.length_map, z]; rfl))
      have hd : (xs.map V.int)[place xs c]? = some (.int (due xs c)) := by
        rw [List.getElem?_map, due_at h0]
        rfl
      -- the number at the place; one place further
      refine ⟨_, rfl, p, C, dx, _, _, rfl, hp, T.cl, T.nSt, ff_stock _ _, _, rfl, p, C, dx, _, _, rfl, hp, T.cl, T.nSp, ff_spent _ _, l, _, _, _, rfl, rfl, SqL.of hL, at_of rfl hd, ?_⟩
      refine ⟨_, rfl, p, C, dx, _, _, rfl, hp, T.cl, T.nSp, ff_spent _ _, _, _, rfl, rfl, dx, _, hp, ff_few _ _, ?_⟩
      have hp1 : (upd H p (.ins C dx (putF "spent" (.int ((place xs c : Nat) + 1)) (ff l (place xs c : Nat))))) p = some (.ins C dx (ff l ((place xs c : Nat) + 1))) := by
        rw [upd_same, ff_put]
      have hL1 : (upd H p (.ins C dx (putF "spent" (.int ((place xs c : Nat) + 1)) (ff l (place xs c : Nat))))) l = some (.lst (xs.map V.int)) := by
        rw [upd_ne nlp]
        exact hL
      -- behind the last one: place 0
      refine ⟨_, rfl, p, C, dx, _, _, rfl, hp1, T.cl, T.nSp, ff_spent _ _, _, rfl, p, C, dx, _, _, rfl, hp1, T.cl, T.nSt, ff_stock _ _, l, xs.map V.int, rfl, .inl (SqL.of hL1), rfl, _, rfl, ite2 (fun e1 => ?_) (fun e1 => ?_)⟩
      · have h1 : place xs c + 1 = xs.length := by
          have q : ((place xs c : Nat) : Int) + 1 = ((xs.map V.int).length : Int) := V.int.inj (of_decide_eq_true e1)
          rw [List.length_map] at q
          omega
        refine ⟨_, rfl, p, C, dx, _, rfl, hp1, T.cl, T.nSp, ff_few _ _, _, rfl, ?_⟩
        refine k _ ⟨⟨dx, ?_⟩, ?_⟩ fun b o e hb => ?_
        · rw [upd_same, ff_put, place_turn h0 h1]
          rfl
        · rw [upd_ne nlp]
          exact hL1
        · rw [upd_ne hb, upd_ne hb]
          exact e
      · have h1 : place xs c + 1 ≠ xs.length := fun z => e1 (decide_eq_true (by rw [List.length_map, ← z]; rfl))
        refine ⟨_, rfl, ?_⟩
        refine k _ ⟨⟨dx, ?_⟩, hL1⟩ fun b o e hb => ?_
        · rw [place_next h0 h1]
          exact hp1
        · rw [upd_ne hb]
          exact e
theorem scCell : FnScope ["_law_script", "_law_k"] ["_law_script", "_law_k"] (defScope sCell) := ⟨rfl, rfl, rfl, by decide +kernel, rfl, by decide +kernel, by decide +kernel⟩
theorem ok_cell {f : Addr} {fd : FuncData} (F : Fun K "_law_cell_at" "_law_cell_at" sCell f fd) (ml : mg "len" = none) : FnOk P w K mg base CX0 1 f fd ["_law_script", "_law_k"] (spCell K) := by
  refine F.ok scCell (fun vs H Q E h => ?_) (fun cdv A outer s H vs Q E hr h => ?_)
  · obtain ⟨a, ns, k, rfl, _⟩ := h
    rfl
  · obtain ⟨a, ns, k, rfl, hS, q⟩ := h
    refine ⟨_, pss_cons (ps_if (pt_cmpR op_lt (pv 1) (pe_callB call_len_seq (by rfl) ml PySem.boot_len (pa_cons (pv 0) pa_nil)) (nomark _)) (pss_one (ps_ret (pe_ix ix_list (pv 0) (pv 1) (fun _ _ => rfl)))) pss_nil)
      (pss_one (ps_ret pe_int)), ?_⟩
    refine ⟨_, rfl, .ref a, rfl, a, ns.map V.int, rfl, .inl hS, _, _, rfl, rfl, _, rfl, ite2 (fun e => ?_) (fun e => ?_)⟩
    · have hk : k < ns.length := by
        have z : (k : Int) < ((ns.map V.int).length : Int) := of_decide_eq_true e
        rw [List.length_map] at z
        omega
      refine ⟨.ref a, rfl, _, rfl, a, _, _, .int ns[k], rfl, rfl, hS, at_of rfl (by rw [List.getElem?_map, List.getElem?_eq_getElem hk]; rfl), ?_⟩
      have e2 : ns.getD k 0 = ns[k] := by
        rw [List.getD_eq_getElem?_getD, List.getElem?_eq_getElem hk]
        rfl
      rw [e2] at q
      exact q
    · have hk : ns.length ≤ k := by
        have z : ¬ (k : Int) < ((ns.map V.int).length : Int) := fun z => e (decide_eq_true z)
        rw [List.length_map] at z
        omega
      have e2 : ns.getD k 0 = 0 := by
        rw [List.getD_eq_getElem?_getD, List.getElem?_eq_none hk]
        rfl
      rw [e2] at q
      exact q
theorem scSome : FnScope ["_law_script", "_law_k", "_law_salt", "_law_many", "_law_cell", "_law_mixed"] ["_law_script", "_law_k", "_law_salt", "_law_many"] (defScope sSome) := ⟨rfl, rfl, rfl, by decide +kernel, rfl, by decide +kernel, by decide +kernel⟩
theorem ok_some {f fC : Addr} {fd fdC : FuncData} (F : Fun K "_law_some" "_law_some" sSome f fd) (FC : Fun K "_law_cell_at" "_law_cell_at" sCell fC fdC) (bC : Binds K fdC ["_law_script", "_law_k"] []) (gC : mg "_law_cell_at" = some (.ref fC)) (ml : mg "len" = none) :
    FnOk P w K mg base CX0 2 f fd ["_law_script", "_law_k", "_law_salt", "_law_many"] (spSome K) := by
  have GC : FnOk P w K mg base CX0 1 fC fdC ["_law_script", "_law_k"] (spCell K) := ok_cell FC ml
  refine F.ok scSome (fun vs H Q E h => ?_) (fun cdv A outer s H vs Q E hr h => ?_)
  · obtain ⟨a, ns, z, y, m, rfl, _⟩ := h
    rfl
  · obtain ⟨a, ns, z, y, m, rfl, hS, z0, z1, y0, y1, m0, q⟩ := h
    obtain ⟨k, rfl⟩ : ∃ k : Nat, z = (k : Int) := ⟨z.toNat, by omega⟩
    refine ⟨_, pss_cons (ps_set (i := 4) scSome.nd rfl (Or.inl rfl) (pe_op op_add (pe_op op_mod (pe_call GC hr (by rfl) gC FC.kp bC .nil pass0 (pa_cons (pv 0) (pa_cons (pv 1) pa_nil))) pe_int) pe_int))
      (pss_cons (ps_set (i := 5) scSome.nd rfl (Or.inl rfl) (pe_op op_mod (pe_op op_mul (pv 4) (pe_op op_add (pe_op op_add pe_int (pe_op op_mul (pe_op op_mul pe_int (pv 1)) (pv 1))) (pe_op op_mul (pe_op op_mul pe_int (pv 2)) (pv 2)))) pe_int))
      (pss_one (ps_ret (pe_op op_mod (pe_op op_fdiv (pe_op op_mod (pe_op op_mul (pv 5) (pv 5)) pe_int) pe_int) (pv 3))))), ?_⟩
    refine ⟨.ref a, rfl, _, rfl, a, ns, k, rfl, hS, _, _, rfl, rfl, (by show (0 : Int) < 1000003; decide), _, _, rfl, rfl, ?_⟩
    have c0 : 0 ≤ ns.getD k 0 % 1000003 := Int.emod_nonneg _ (by decide)
    have c1 : ns.getD k 0 % 1000003 < 1000003 := Int.emod_lt_of_pos _ (by decide)
    refine ⟨_, rfl, _, rfl, _, _, rfl, rfl, .inl ⟨by decide, by decide⟩, _, rfl, _, _, rfl, rfl, .inr ⟨by omega, by omega⟩, _, _, rfl, rfl,
      _, rfl, _, _, rfl, rfl, .inl ⟨by decide, by decide⟩, _, rfl, _, _, rfl, rfl, .inr ⟨by omega, by omega⟩, _, _, rfl, rfl, _, _, rfl, rfl, .inl ⟨by omega, by omega⟩, _, _, rfl, rfl, (by show (0 : Int) < 2147483647; decide), ?_⟩
    generalize (ns.getD k 0 % 1000003 + 1) * _ = u
    have u0 : 0 ≤ u % 2147483647 := Int.emod_nonneg _ (by decide)
    have u1 : u % 2147483647 < 2147483647 := Int.emod_lt_of_pos _ (by decide)
    refine ⟨_, rfl, _, rfl, _, _, rfl, rfl, .inl ⟨by omega, by omega⟩, _, _, rfl, rfl, (by show (0 : Int) < 2147483629; decide), _, _, rfl, rfl, ⟨by decide, by decide⟩, _, rfl, _, _, rfl, rfl, m0, ?_⟩
    exact q _ (Int.emod_nonneg _ (by omega)) (Int.emod_lt_of_pos _ m0)
theorem scWhole : FnScope ["_law_found"] ["_law_found"] (defScope sWhole) := ⟨rfl, rfl, rfl, by decide +kernel, rfl, by decide +kernel, by decide +kernel⟩
theorem ok_whole {f C : Addr} {fd : FuncData} (F : Fun K "_law_whole" "_law_whole" sWhole f fd) (T : Txt K mg C) : FnOk P w K mg base CX0 1 f fd ["_law_found"] spWhole := by
  refine F.ok scWhole (fun vs H Q E h => ?_) (fun cdv A outer s H vs Q E hr h => ?_)
  · obtain ⟨i, rfl, _⟩ := h
    rfl
  · obtain ⟨i, rfl, q⟩ := h
    refine ⟨_, pss_one (ps_ret (pe_and (pe_callB call_isi (by rfl) T.isi (by decide +kernel) (pa_cons (pv 0) (pa_cons (pe_bltn (v := .ty "int") (u := .type "int") (by rfl) T.int (by decide +kernel) rfl) pa_nil)))
      (pe_one (pe_not (pe_callB call_isi (by rfl) T.isi (by decide +kernel) (pa_cons (pv 0) (pa_cons (pe_bltn (v := .ty "bool") (u := .type "bool") (by rfl) T.bool (by decide +kernel) rfl) pa_nil))))))), ?_⟩
    refine ⟨_, rfl, .int i, .ty "int", .type "int", .type "int", true, rfl, .ty _, .base (.int i), kit_ty (by decide +kernel), true, rfl, iteT ?_⟩
    refine ⟨_, rfl, .int i, .ty "bool", .type "int", .type "bool", false, rfl, .ty _, .base (.int i), kit_ty (by decide +kernel), false, rfl, ?_⟩
    exact q
theorem scDue : FnScope ["_law_numbers", "_law_k"] ["_law_numbers", "_law_k"] (defScope sDue) := ⟨rfl, rfl, rfl, by decide +kernel, rfl, by decide +kernel, by decide +kernel⟩
theorem ok_due {f : Addr} {fd : FuncData} (F : Fun K "_law_due" "_law_due" sDue f fd) (ml : mg "len" = none) : FnOk P w K mg base CX0 1 f fd ["_law_numbers", "_law_k"] (spDue K) := by
  refine F.ok scDue (fun vs H Q E h => ?_) (fun cdv A outer s H vs Q E hr h => ?_)
  · obtain ⟨a, xs, c, rfl, _⟩ := h
    rfl
  · obtain ⟨a, xs, c, rfl, hS, q⟩ := h
    refine ⟨_, pss_cons (ps_if (pt_cmpR op_eq (pe_callB call_len_seq (by rfl) ml PySem.boot_len (pa_cons (pv 0) pa_nil)) pe_int (nomark _)) (pss_one (ps_ret pe_int)) pss_nil)
      (pss_one (ps_ret (pe_ix ix_list (pv 0) (pe_op op_mod (pv 1) (pe_callB call_len_seq (by rfl) ml PySem.boot_len (pa_cons (pv 0) pa_nil))) (fun _ _ => rfl)))), ?_⟩
    refine ⟨.ref a, rfl, a, xs.map V.int, rfl, .inl hS, rfl, _, rfl, ite2 (fun e => ?_) (fun e => ?_)⟩
    · have h0 : xs.length = 0 := by
        have z : ((xs.map V.int).length : Int) = 0 := V.int.inj (of_decide_eq_true e)
        rw [List.length_map] at z
        omega
      rw [due_nil h0] at q
      exact q
    · have h0 : xs.length ≠ 0 := fun z => e (decide_eq_true (by rw [List.length_map, z]; rfl))
      have ep : place xs c = c % xs.length := if_neg h0
      have hd : (xs.map V.int)[c % xs.length]? = some (.int (due xs c)) := by
        rw [← ep, List.getElem?_map, due_at h0]
        rfl
      refine ⟨.ref a, rfl, _, rfl, .ref a, rfl, a, xs.map V.int, rfl, .inl hS, _, _, rfl, rfl, (by rw [List.length_map]; omega), a, _, _, _, rfl, rfl, hS, at_of (j := c % xs.length) (by rw [List.length_map]; omega) hd, ?_⟩
      exact q
end
end Fd

/-! The law's own def. -/
namespace Fd
open PySem L2
open C8 (pss_cut tCut)
/-! ### cuts, equal data -/
def cutI (xs : List Int) (lo hi : Option Int) : List Int := (xs.drop (HT.sIx xs.length 0 lo)).take (HT.sIx xs.length xs.length hi - HT.sIx xs.length 0 lo)
theorem cut_map (xs : List Int) (lo hi : Option Int) : cutV (xs.map V.int) lo hi = (cutI xs lo hi).map V.int := by
  unfold cutV cutI
  rw [List.length_map, List.map_take, List.map_drop]
theorem cut_len (xs : List Int) (lo hi : Option Int) : (cutI xs lo hi).length ≤ xs.length := by
  simp only [cutI, List.length_take, List.length_drop]
  omega
/-- what the law makes of a number of the script -/
def num (z : Int) : Int := z % (2 * 10 ^ Int.toNat 60) - 10 ^ Int.toNat 60
theorem lay_ints : ∀ xs : List Int, PyData.canLayAll0 (xs.map PyData.int) = true
  | [] => by simp only [List.map_nil, PyData.canLayAll0]
  | x :: xs => by
    rw [List.map_cons, PyData.canLayAll0, lay_ints xs]
    simp [PyData.canLay0]
theorem deep_ints : ∀ xs : List Int, PyData.depthAll (xs.map PyData.int) = 0
  | [] => by simp only [List.map_nil, PyData.depthAll]
  | x :: xs => by
    rw [List.map_cons, PyData.depthAll, deep_ints xs]
    simp [PyData.depth]
def dI (xs : List Int) : PyData := .list (xs.map PyData.int)
theorem lay_dI (xs : List Int) : (dI xs).canLay0 = true := by
  unfold dI
  rw [PyData.canLay0]
  exact lay_ints xs
theorem deep_dI (xs : List Int) : (dI xs).depth = 1 := by
  unfold dI
  rw [PyData.depth, deep_ints xs]
theorem shaped_dI (xs : List Int) : SeqAt.shaped (dI xs) = true := by
  unfold SeqAt.shaped
  rw [lay_dI, deep_dI]
  rfl
def dII (xs ys : List Int) : PyData := .list [dI xs, dI ys]
theorem lay_dII (xs ys : List Int) : (dII xs ys).canLay0 = true := by
  unfold dII
  simp [PyData.canLay0, PyData.canLayAll0, lay_dI]
theorem shaped_dII (xs ys : List Int) : SeqAt.shaped (dII xs ys) = true := by
  unfold SeqAt.shaped
  rw [lay_dII]
  unfold dII
  simp [PyData.depth, PyData.depthAll, deep_dI]
theorem dp_ints {K : PySem.W.Frag} {H : Hp} : ∀ xs : List Int, DpAll K H (xs.map V.int) (xs.map PyData.int)
  | [] => .nil
  | x :: xs => .cons (.int x) (dp_ints xs)
theorem dp_list {K : PySem.W.Frag} {H : Hp} {a : Addr} {xs : List Int} (h : H a = some (.lst (xs.map V.int))) : Dp K H (.ref a) (dI xs) := .lst (SqL.of h) (dp_ints xs)
theorem iteE {c : Bool} {A B : Prop} (hc : c = true) (h : B) : if (!c) = true then A else B := by
  subst hc
  exact iteF h
theorem new_keeps {H : Hp} {p : Addr} {o : HO} (h : H p = none) : Same H (upd H p o) := fun b x e => by
  rw [upd_ne (ne_of_none e h)]
  exact e
theorem make_keeps {H : Hp} {x dx C : Addr} (nx : H x = none) (nd : H dx = none) : Same H (upd (upd H dx (.own x)) x (.ins C dx [])) := fun b o e => by
  rw [upd_ne (ne_of_none e nx), upd_ne (ne_of_none e nd)]
  exact e
theorem step_keeps {G H H' : Hp} {p : Addr} (s : Same G H) (n : G p = none) (k : ∀ b o, H b = some o → b ≠ p → H' b = some o) : Same G H' := fun b o e => k b o (s b o e) (ne_of_none e n)
theorem put_keeps {G H : Hp} {p : Addr} {o : HO} (s : Same G H) (n : G p = none) : Same G (upd H p o) := fun b x e => by
  rw [upd_ne (ne_of_none e n)]
  exact s b x e

/-- the heap H without four addresses -/
def hide4 (H : Hp) (a b c d : Addr) : Hp := fun x => if x = a ∨ x = b ∨ x = c ∨ x = d then none else H x
theorem hide4_keeps {H : Hp} {a b c d : Addr} : Same (hide4 H a b c d) H := fun x o e => by
  unfold hide4 at e
  split at e
  · cases e
  · exact e
theorem hide4_get {H : Hp} {a b c d x : Addr} {o : HO} (e : H x = some o) (h1 : x ≠ a) (h2 : x ≠ b) (h3 : x ≠ c) (h4 : x ≠ d) : hide4 H a b c d x = some o := by
  unfold hide4
  rw [if_neg (fun z => z.elim h1 fun z => z.elim h2 fun z => z.elim h3 h4)]
  exact e
theorem hide4_none {H : Hp} {a b c d x : Addr} (h : x = a ∨ x = b ∨ x = c ∨ x = d) : hide4 H a b c d x = none := if_pos h

def spLaw (K : PySem.W.Frag) : Sp := fun vs H Q _ => ∃ (a : Addr) (ns : List Int), vs = [.ref a] ∧ SqL K H a (ns.map V.int) ∧ ns.length ≤ 63 ∧ ∀ H', Q (.bl true) H'
abbrev NL : List Str := ["_law_script", "_law_numbers", "_law_turned", "_law_handed", "_law_one", "_law_two", "_law_asked", "_law_many", "_law_k", "_law_found", "_law_due_here", "_law_cell"]
theorem scL : FnScope NL ["_law_script"] (defScope sLaw) := ⟨rfl, rfl, rfl, by decide +kernel, rfl, by decide +kernel, by decide +kernel⟩

/-- what stands between two turns; G: all that no turn changes. four things change: the list first handed in (h0), the two Feeds (p, q), the counts (A) -/
structure Between (C : Addr) (G H : Hp) (h0 p q A l1 l2 : Addr) (xs : List Int) (c1 c2 : Nat) (old : Prop) : Prop where
  keep : Same G H
  first : old → H h0 = some (.lst (xs.map V.int))
  one : RawAt C H p l1 (place xs c1)
  two : RawAt C H q l2 (place xs.reverse c2)
  counts : H A = some (.lst [.int (c1 : Int), .int (c2 : Int)])
/-- what the law has made ahead of its loop, in G, the heap without the four things that change -/
structure Made (K : PySem.W.Frag) (G : Hp) (a N T hd h0 h1 p q A l1 l2 : Addr) (ns xs : List Int) : Prop where
  sc : SqL K G a (ns.map V.int)
  nN : G N = some (.lst (xs.map V.int))
  nT : G T = some (.lst (xs.reverse.map V.int))
  nh : G hd = some (.lst [.ref h0, .ref h1])
  n1 : G h1 = some (.lst (xs.reverse.map V.int))
  m1 : G l1 = some (.lst (xs.map V.int))
  m2 : G l2 = some (.lst (xs.reverse.map V.int))
  f0 : G h0 = none
  fp : G p = none
  fq : G q = none
  fA : G A = none
  h0p : h0 ≠ p
  h0q : h0 ≠ q
  h0A : h0 ≠ A
  pq : p ≠ q
  pA : p ≠ A
  qA : q ≠ A
  few : xs.length ≤ 63

section
variable {P : Program} {w : World} {K : PySem.W.Frag} {mg : Str → Option Value} {base : Heap}
theorem ok_law {f C fC fS fW fD fI fT : Addr} {fd fdC fdS fdW fdD fdI fdT : FuncData} (F : Fun K "law" "law" sLaw f fd) (T : Txt K mg C)
    (FC : Fun K "_law_cell_at" "_law_cell_at" sCell fC fdC) (bC : Binds K fdC ["_law_script", "_law_k"] []) (gC : mg "_law_cell_at" = some (.ref fC))
    (FS : Fun K "_law_some" "_law_some" sSome fS fdS) (bS : Binds K fdS ["_law_script", "_law_k", "_law_salt", "_law_many"] []) (gS : mg "_law_some" = some (.ref fS))
    (FW : Fun K "_law_whole" "_law_whole" sWhole fW fdW) (bW : Binds K fdW ["_law_found"] []) (gW : mg "_law_whole" = some (.ref fW))
    (FD : Fun K "_law_due" "_law_due" sDue fD fdD) (bD : Binds K fdD ["_law_numbers", "_law_k"] []) (gD : mg "_law_due" = some (.ref fD))
    (MI : Mk K C fI) (FI : Fun K "__init__" "Feed.__init__" sInit fI fdI) (bI : Binds K fdI ["self", "numbers"] [])
    (FT : Fun K "taken" "Feed.taken" sTaken fT fdT) (bT : Binds K fdT ["self"] []) (mT : Meth K C "taken" fT) : FnOk P w K mg base CX0 3 f fd ["_law_script"] (spLaw K) := by
  have GC : FnOk P w K mg base CX0 1 fC fdC ["_law_script", "_law_k"] (spCell K) := ok_cell FC T.len
  have GS : FnOk P w K mg base CX0 2 fS fdS ["_law_script", "_law_k", "_law_salt", "_law_many"] (spSome K) := ok_some FS FC bC gC T.len
  have GW : FnOk P w K mg base CX0 1 fW fdW ["_law_found"] spWhole := ok_whole (C := C) FW T
  have GD : FnOk P w K mg base CX0 1 fD fdD ["_law_numbers", "_law_k"] (spDue K) := ok_due FD T.len
  have GI : FnOk P w K mg base CX0 1 fI fdI ["self", "numbers"] (spInit K C) := ok_init FI T
  have GT : FnOk P w K mg base CX0 1 fT fdT ["self"] (spTaken C) := ok_taken FT T
  refine F.ok scL (fun vs H Q E h => ?_) (fun cdv A0 outer s H vs Q E hr h => ?_)
  · obtain ⟨a, ns, rfl, _⟩ := h
    rfl
  · obtain ⟨a, ns, rfl, hS, hlen, k⟩ := h
    have hr1 : Room 1 _ := hr.mono (by decide)
    refine ⟨_, pss_cons (ps_setLc (i := 1) (own := [("_law_cell", 11)]) (g := gName 11) (tt := tYes) rfl scL.nd rfl rfl (sw_true rfl rfl rfl (by decide +kernel)) (pi_list (pe_slice sl_list (pv 0) (po_some pe_int) po_none))
        (blkOk_by (own := [("_law_cell", 11)]) (N := NL) (sc := defScope sLaw) (by decide +kernel)) (fun _ _ _ _ _ => pg_name (i := 11) scL.nd rfl (Or.inl rfl)) (fun _ _ _ _ _ => pts_nil)
        (fun _ _ _ _ _ => pe_op op_sub (pe_op op_mod (pv 11) (pe_op op_mul pe_int (pe_op op_pow pe_int pe_int))) (pe_op op_pow pe_int pe_int)))
      (pss_cut (ps_if (pt_cmpR op_eq (pe_op op_mod (pe_call GC hr1 (by rfl) gC FC.kp bC .nil pass0 (pa_cons (pv 0) (pa_cons pe_int pa_nil))) pe_int) pe_int (nomark _))
          (pss_one (ps_set (i := 1) scL.nd rfl (Or.inl rfl) (pe_slice sl_list (pv 1) po_none (po_some (pe_op op_mod (pe_op op_fdiv (pe_call GC hr1 (by rfl) gC FC.kp bC .nil pass0 (pa_cons (pv 0) (pa_cons pe_int pa_nil))) pe_int) pe_int))))) pss_nil)
      (pss_cons (ps_set (i := 2) scL.nd rfl (Or.inl rfl) (pe_lstRev rfl (by rfl) T.list (by rfl) T.rev (pv 1)))
      (pss_cons (ps_set (i := 3) scL.nd rfl (Or.inl rfl) (pe_lst (pa_cons (pe_callTy call_list_of (by rfl) T.list (by decide +kernel) (pa_cons (pv 1) pa_nil)) (pa_cons (pe_callTy call_list_of (by rfl) T.list (by decide +kernel) (pa_cons (pv 2) pa_nil)) pa_nil))))
      (pss_cons (ps_set (i := 4) scL.nd rfl (Or.inl rfl) (pe_make MI GI hr (by rfl) T.mgC bI .nil pass0 (pa_cons (pe_ix ix_list (pv 3) pe_int (fun _ _ => rfl)) pa_nil)))
      (pss_cons (ps_set (i := 5) scL.nd rfl (Or.inl rfl) (pe_make MI GI hr (by rfl) T.mgC bI .nil pass0 (pa_cons (pe_ix ix_list (pv 3) pe_int (fun _ _ => rfl)) pa_nil)))
      (pss_cons (ps_set (i := 6) scL.nd rfl (Or.inl rfl) (pe_lst (pa_cons pe_int (pa_cons pe_int pa_nil))))
      (pss_cons (ps_set (i := 7) scL.nd rfl (Or.inl rfl) (pe_op op_add pe_int (pe_call GS hr (by rfl) gS FS.kp bS .nil pass0 (pa_cons (pv 0) (pa_cons pe_int (pa_cons pe_int (pa_cons (pe_op op_add (pe_op op_mul pe_int (pe_callB call_len_seq (by rfl) T.len PySem.boot_len (pa_cons (pv 1) pa_nil))) pe_int) pa_nil)))))))
      (pss_cons (ps_for PassesOwn.never rfl (pi_range1 rfl T.range (pa_cons (pv 7) pa_nil)) (pg_name (i := 8) scL.nd rfl (Or.inl rfl))
        (pss_cut (ps_if (pt_cmpR op_eq (pv 8) pe_int (nomark _))
            (pss_cons (ps_if (pt_cmpR (op_neD hr.units) (pv 3) (pe_lst (pa_cons (pv 1) (pa_cons (pv 2) pa_nil))) (nomark _)) (pss_one (ps_ret pe_bl)) pss_nil)
              (pss_one (ps_if (pt_cmpR op_eq (pe_call GS hr (by rfl) gS FS.kp bS .nil pass0 (pa_cons (pv 0) (pa_cons pe_int (pa_cons pe_int (pa_cons pe_int pa_nil))))) pe_int (nomark _))
                (pss_one (ps_expr (pe_bm0 PySem.F.plainAttrs_list PySem.F.slot_list_clear PySem.F.type_list_clear mt_clear (pe_ix ix_list (pv 3) pe_int (fun _ _ => rfl)))))
                (pss_one (ps_expr (pe_bm PySem.F.plainAttrs_list PySem.F.slot_list_insert PySem.F.type_list_insert mt_insert (pe_ix ix_list (pv 3) pe_int (fun _ _ => rfl)) (pa_cons pe_int (pa_cons pe_int pa_nil)))))))) pss_nil)
        (pss_cut (ps_if (pt_cmpR op_eq (pe_call GS hr (by rfl) gS FS.kp bS .nil pass0 (pa_cons (pv 0) (pa_cons (pe_op op_add (pv 8) pe_int) (pa_cons pe_int (pa_cons pe_int pa_nil))))) pe_int (nomark _))
            (pss_cons (ps_set (i := 9) scL.nd rfl (Or.inl rfl) (pe_meth0 (pv 4) T.cl mT GT hr1 bT .nil pass0))
              (pss_cons (ps_set (i := 10) scL.nd rfl (Or.inl rfl) (pe_call GD hr1 (by rfl) gD FD.kp bD .nil pass0 (pa_cons (pv 1) (pa_cons (pe_ix ix_list (pv 6) pe_int (fun _ _ => rfl)) pa_nil))))
              (pss_one (ps_asg (pe_op op_add (pe_ix ix_list (pv 6) pe_int (fun _ _ => rfl)) pe_int) (pg_sub (pv 6) pe_int set_list)))))
            (pss_cons (ps_set (i := 9) scL.nd rfl (Or.inl rfl) (pe_meth0 (pv 5) T.cl mT GT hr1 bT .nil pass0))
              (pss_cons (ps_set (i := 10) scL.nd rfl (Or.inl rfl) (pe_call GD hr1 (by rfl) gD FD.kp bD .nil pass0 (pa_cons (pv 2) (pa_cons (pe_ix ix_list (pv 6) pe_int (fun _ _ => rfl)) pa_nil))))
              (pss_one (ps_asg (pe_op op_add (pe_ix ix_list (pv 6) pe_int (fun _ _ => rfl)) pe_int) (pg_sub (pv 6) pe_int set_list))))))
        (pss_one (ps_if (PW.pt (pw_or (pt_not (pt_val (pe_call GW hr1 (by rfl) gW FW.kp bW .nil pass0 (pa_cons (pv 9) pa_nil)))) (pw_or1 (pt_cmpR op_ne (pv 9) (pv 10) (nomark _))))) (pss_one (ps_ret pe_bl)) pss_nil)))))
      (pss_one (ps_ret (pe_cmpR (op_eqD hr.units) (pe_ix ix_list (pv 3) pe_int (fun _ _ => rfl)) (pv 2) (nomark _)))))))))))), ?_⟩
    -- the numbers, by the comprehension over the cut script
    refine ⟨.ref a, rfl, 2, rfl, a, ns.map V.int, rfl, hS, fun c nc => ?_⟩
    rw [cut_map]
    have sc := new_keeps (o := .lst ((cutI ns (some 2) none).map V.int)) nc
    have lc := cut_len ns (some 2) none
    generalize cutI ns (some 2) none = cs at sc lc ⊢
    refine ⟨c, rfl, ⟨_, SqL.of upd_same⟩, fun D nD => ?_⟩
    have ncD : c ≠ D := ne_of_none upd_same nD
    have sD := new_keeps (o := .lst []) nD
    refine lc_list (K := K) (a := c) (xs := cs.map V.int) (fun i H1 => Same H H1 ∧ H1 c = some (.lst (cs.map V.int)) ∧ H1 D = some (.lst (((cs.take i).map num).map V.int)))
      ⟨sc.trans sD, sD _ _ upd_same, upd_same⟩ (fun i H1 _ h1 => SqL.of h1.2.1) ?_ ?_
    · rintro i y H1 hi ⟨s1, h1, h2⟩
      obtain ⟨z, hz, rfl⟩ : ∃ z, cs[i]? = some z ∧ y = V.int z := by
        rw [List.getElem?_map] at hi
        cases e : cs[i]? with
        | none =>
          rw [e] at hi
          cases hi
        | some z =>
          rw [e] at hi
          exact ⟨z, rfl, (Option.some.inj hi).symm⟩
      have hil : i < cs.length := (List.getElem?_eq_some_iff.mp hz).1
      refine ⟨rfl, ?_⟩
      refine ⟨_, rfl, _, _, rfl, rfl, ⟨by decide, by decide, by decide⟩, _, _, rfl, rfl, .inl ⟨by decide, by decide⟩, _, _, rfl, rfl, (by show (0 : Int) < 2 * 10 ^ Int.toNat 60; decide), _, _, rfl, rfl, ⟨by decide, by decide, by decide⟩, _, _, rfl, rfl, ?_⟩
      refine ⟨_, h2, ?_, ?_, ?_, ?_⟩
      · rw [List.length_map, List.length_map, List.length_take]
        exact small1000 (by omega)
      · exact put_keeps s1 (sc.free nD)
      · rw [upd_ne ncD]
        exact h1
      · rw [upd_same, List.take_add_one, hz, List.map_append, List.map_append]
        rfl
    · rintro H1 ⟨s1, _, h2⟩
      have e2 : cs.take (cs.map V.int).length = cs := List.take_of_length_le (by rw [List.length_map]; exact Nat.le_refl _)
      rw [e2] at h2
      -- in one script of three only the first ones of them
      refine ⟨fun σ' H' => ∃ (N : Addr) (xs : List Int), σ' = [some (.ref a), some (.ref N), none, none, none, none, none, none, none, none, none, none] ∧ Same H H' ∧ H' N = some (.lst (xs.map V.int)) ∧ xs.length ≤ 63, ?_, ?_⟩
      · refine ⟨.ref a, rfl, a, ns, 0, rfl, s1.seq hS, _, _, rfl, rfl, (by show (0 : Int) < 3; decide), rfl, _, rfl, ite2 (fun e => ?_) (fun e => ?_)⟩
        · refine ⟨.ref D, rfl, .ref a, rfl, a, ns, 0, rfl, s1.seq hS, _, _, rfl, rfl, ⟨by decide, by decide⟩, _, _, rfl, rfl, (by show (0 : Int) < 4; decide), _, rfl, D, _, rfl, SqL.of h2, fun N nN => ?_⟩
          rw [cut_map]
          exact ⟨N, _, rfl, s1.trans (new_keeps nN), upd_same, Nat.le_trans (cut_len _ _ _) (by rw [List.length_map]; omega)⟩
        · exact ⟨D, cs.map num, rfl, s1, h2, by rw [List.length_map]; omega⟩
      · rintro σ' H2 ⟨N, xs, rfl, s2, hN, hx⟩
        -- the numbers turned about
        refine ⟨.ref N, rfl, N, _, rfl, SqL.of hN, fun U nU => ?_⟩
        rw [← List.map_reverse]
        have g3 := new_keeps (o := .lst (xs.reverse.map V.int)) nU
        have hU : (upd H2 U (.lst (xs.reverse.map V.int))) U = some (.lst (xs.reverse.map V.int)) := upd_same
        generalize upd H2 U (.lst (xs.reverse.map V.int)) = H3 at g3 hU ⊢
        have hN3 := g3 _ _ hN
        -- the two lists that are handed in
        refine ⟨.ref N, rfl, N, _, rfl, .inl (SqL.of hN3), fun h0 n0 => ?_⟩
        have g4 := new_keeps (o := .lst (xs.map V.int)) n0
        have k0 : (upd H3 h0 (.lst (xs.map V.int))) h0 = some (.lst (xs.map V.int)) := upd_same
        generalize upd H3 h0 (.lst (xs.map V.int)) = H4 at g4 k0 ⊢
        refine ⟨.ref U, rfl, U, _, rfl, .inl (SqL.of (g4 _ _ hU)), fun h1 n1 => ?_⟩
        have g5 := new_keeps (o := .lst (xs.reverse.map V.int)) n1
        have k1 : (upd H4 h1 (.lst (xs.reverse.map V.int))) h1 = some (.lst (xs.reverse.map V.int)) := upd_same
        generalize upd H4 h1 (.lst (xs.reverse.map V.int)) = H5 at g5 k1 ⊢
        refine ⟨(by show 2 ≤ sizeLine; decide), fun hd nd => ?_⟩
        have g6 := new_keeps (o := .lst [.ref h0, .ref h1]) nd
        have k2 : (upd H5 hd (.lst [.ref h0, .ref h1])) hd = some (.lst [.ref h0, .ref h1]) := upd_same
        generalize upd H5 hd (.lst [.ref h0, .ref h1]) = H6 at g6 k2 ⊢
        -- the first Feed
        refine ⟨_, rfl, hd, _, 0, .ref h0, rfl, rfl, SqL.of k2, at_of (j := 0) rfl rfl, ?_⟩
        intro p dp np ndp nep
        have gp := make_keeps (C := C) np ndp
        refine ⟨p, dp, h0, xs, rfl, upd_same, SqL.of (gp _ _ (g6 _ _ (g5 _ _ k0))), fun l1 H7 nl1 F1 kp => ⟨rfl, ?_⟩⟩
        have g7 : Same H6 H7 := Same.made np ndp kp
        have nl1 := gp.free nl1
        obtain ⟨⟨dx1, hp⟩, hl1⟩ := F1
        -- the second Feed
        refine ⟨_, rfl, hd, _, 1, .ref h1, rfl, rfl, SqL.of (g7 _ _ k2), at_of (j := 1) rfl rfl, ?_⟩
        intro q dq nq ndq neq
        have gq := make_keeps (C := C) nq ndq
        refine ⟨q, dq, h1, xs.reverse, rfl, upd_same, SqL.of (gq _ _ (g7 _ _ (g6 _ _ k1))), fun l2 H8 nl2 F2 kq => ⟨rfl, ?_⟩⟩
        have g8 : Same H7 H8 := Same.made nq ndq kq
        have nl2 := gq.free nl2
        obtain ⟨⟨dx2, hq⟩, hl2⟩ := F2
        -- the counts of the askings
        refine ⟨(by show 2 ≤ sizeLine; decide), fun A nA => ?_⟩
        have g9 := new_keeps (o := .lst [.int 0, .int 0]) nA
        have kA : (upd H8 A (.lst [.int 0, .int 0])) A = some (.lst [.int 0, .int 0]) := upd_same
        generalize upd H8 A (.lst [.int 0, .int 0]) = H9 at g9 kA ⊢
        -- how many askings there are
        have g29 : Same H2 H9 := ((((((g3.trans g4).trans g5).trans g6).trans g7).trans g8).trans g9)
        have hS9 : SqL K H9 a (ns.map V.int) := (s2.trans g29).seq hS
        refine ⟨.ref a, rfl, .ref N, rfl, N, _, rfl, .inl (SqL.of (g29 _ _ hN)), _, _, rfl, rfl, .inl ⟨by decide, by decide⟩, _, _, rfl, rfl, a, ns, 1, 1, _, rfl, hS9, by decide, by decide, by decide, by decide, (by rw [List.length_map]; omega), fun r r0 rm => ?_⟩
        rw [List.length_map] at rm
        refine ⟨_, _, rfl, rfl, ?_⟩
        -- what stands ahead of the loop
        have M : Made K (hide4 H9 h0 p q A) a N U hd h0 h1 p q A l1 l2 ns xs := by
          have b3 : Same H3 H9 := (((((g4.trans g5).trans g6).trans g7).trans g8).trans g9)
          have b4 : Same H4 H9 := ((((g5.trans g6).trans g7).trans g8).trans g9)
          have b5 : Same H5 H9 := (((g6.trans g7).trans g8).trans g9)
          have b6 : Same H6 H9 := ((g7.trans g8).trans g9)
          have b7 : Same H7 H9 := g8.trans g9
          have f4 : Same H4 H6 := g5.trans g6
          have f3 : Same H3 H6 := g4.trans f4
          have k06 := f4 _ _ k0
          have k16 := g6 _ _ k1
          have hU6 := f3 _ _ hU
          have hN6 := f3 _ _ hN3
          refine ⟨?_, ?_, ?_, ?_, ?_, ?_, ?_, ?_, ?_, ?_, ?_, ?_, ?_, ?_, ?_, ?_, ?_, hx⟩
          · have t3 : Same H H3 := s2.trans g3
            have t6 : Same H H6 := t3.trans f3
            have t7 : Same H H7 := t6.trans g7
            have t8 : Same H H8 := t7.trans g8
            exact Same.seq (fun b o e => hide4_get ((t8.trans g9) _ _ e) (ne_of_none (t3 _ _ e) n0) (ne_of_none (t6 _ _ e) np) (ne_of_none (t7 _ _ e) nq) (ne_of_none (t8 _ _ e) nA)) hS
          · exact hide4_get (b3 _ _ hN3) (ne_of_none hN3 n0) (ne_of_none hN6 np) (ne_of_none (g7 _ _ hN6) nq) (ne_of_none (g8 _ _ (g7 _ _ hN6)) nA)
          · exact hide4_get (b3 _ _ hU) (ne_of_none hU n0) (ne_of_none hU6 np) (ne_of_none (g7 _ _ hU6) nq) (ne_of_none (g8 _ _ (g7 _ _ hU6)) nA)
          · exact hide4_get (b6 _ _ k2) (ne_of_none (g5 _ _ k0) nd).symm (ne_of_none k2 np) (ne_of_none (g7 _ _ k2) nq) (ne_of_none (g8 _ _ (g7 _ _ k2)) nA)
          · exact hide4_get (b5 _ _ k1) (ne_of_none k0 n1).symm (ne_of_none k16 np) (ne_of_none (g7 _ _ k16) nq) (ne_of_none (g8 _ _ (g7 _ _ k16)) nA)
          · exact hide4_get (b7 _ _ hl1) (ne_of_none k06 nl1).symm (ne_of hl1 hp (by intro z; cases z)) (ne_of_none hl1 nq) (ne_of_none (g8 _ _ hl1) nA)
          · exact hide4_get (g9 _ _ hl2) (ne_of_none (g7 _ _ k06) nl2).symm (ne_of_none hp nl2).symm (ne_of hl2 hq (by intro z; cases z)) (ne_of_none hl2 nA)
          · exact hide4_none (.inl rfl)
          · exact hide4_none (.inr (.inl rfl))
          · exact hide4_none (.inr (.inr (.inl rfl)))
          · exact hide4_none (.inr (.inr (.inr rfl)))
          · exact ne_of_none k06 np
          · exact ne_of_none (g7 _ _ k06) nq
          · exact ne_of_none (g8 _ _ (g7 _ _ k06)) nA
          · exact ne_of_none hp nq
          · exact ne_of_none (g8 _ _ hp) nA
          · exact ne_of_none hq nA
        have B : Between C (hide4 H9 h0 p q A) H9 h0 p q A l1 l2 xs 0 0 True :=
          ⟨hide4_keeps, fun _ => g9 _ _ (g8 _ _ (g7 _ _ (g6 _ _ (g5 _ _ k0)))), ⟨dx1, g9 _ _ (g8 _ _ hp)⟩, ⟨dx2, g9 _ _ hq⟩, kA⟩
        generalize hide4 H9 h0 p q A = G at M B
        -- the askings: what holds between two turns
        refine ⟨_, rfl, 4 + r, rfl, by omega, by omega, for_range (lo := 0) (n := (4 + r).toNat) (fun i σ' H' => ∃ (c1 c2 : Nat) (v8 v9 v10 : Option V),
            σ' = [some (.ref a), some (.ref N), some (.ref U), some (.ref hd), some (.ref p), some (.ref q), some (.ref A), some (.int (4 + r)), v8, v9, v10, none] ∧ Between C G H' h0 p q A l1 l2 xs c1 c2 (i ≤ 3))
          ⟨0, 0, none, none, none, rfl, B.keep, fun _ => B.first trivial, B.one, B.two, B.counts⟩ ?_ ?_⟩
        · rintro i σ' H' hi ⟨c1, c2, v8, v9, v10, rfl, B1⟩
          have hi2 : (i : Int) < 4 + r := by omega
          -- ahead of the fourth
          refine ⟨fun σ2 H2 => σ2 = [some (.ref a), some (.ref N), some (.ref U), some (.ref hd), some (.ref p), some (.ref q), some (.ref A), some (.int (4 + r)), some (.int (0 + (i : Int))), v9, v10, none] ∧ Between C G H2 h0 p q A l1 l2 xs c1 c2 (i + 1 ≤ 3), ?_, ?_⟩
          · refine ⟨_, rfl, rfl, _, rfl, ite2 (fun e => ?_) (fun e => ?_)⟩
            · have ei : i = 3 := by
                have z : (0 : Int) + (i : Int) = 3 := V.int.inj (of_decide_eq_true e)
                omega
              have k0 := B1.first (by omega)
              -- the lists that were handed in are compared: they are as they were
              refine ⟨.ref hd, rfl, .ref N, rfl, .ref U, rfl, (by show 2 ≤ sizeLine; decide), fun x nx => ?_⟩
              have sx := new_keeps (o := .lst [.ref N, .ref U]) nx
              have kx : (upd H' x (.lst [.ref N, .ref U])) x = some (.lst [.ref N, .ref U]) := upd_same
              have nx0 : h0 ≠ x := ne_of_none k0 nx
              have B2 : Between C G (upd H' x (.lst [.ref N, .ref U])) h0 p q A l1 l2 xs c1 c2 True := by
                obtain ⟨b1, b2, ⟨d1, b3⟩, ⟨d2, b4⟩, b5⟩ := B1
                exact ⟨b1.trans sx, fun _ => sx _ _ k0, ⟨d1, sx _ _ b3⟩, ⟨d2, sx _ _ b4⟩, sx _ _ b5⟩
              generalize upd H' x (.lst [.ref N, .ref U]) = H2 at sx kx B2 ⊢
              have k02 := sx _ _ k0
              refine ⟨dII xs xs.reverse, dII xs xs.reverse, .lst (SqL.of (B2.keep _ _ M.nh)) (.cons (dp_list k02) (.cons (dp_list (B2.keep _ _ M.n1)) .nil)),
                .lst (SqL.of kx) (.cons (dp_list (B2.keep _ _ M.nN)) (.cons (dp_list (B2.keep _ _ M.nT)) .nil)), shaped_dII _ _, shaped_dII _ _, _, rfl, iteE (SeqAt.eqv_refl _ (lay_dII _ _)) ?_⟩
              -- the first one is emptied, or has a number put ahead
              refine ⟨.ref a, rfl, a, ns, 1, 2, 2, rfl, B2.keep.seq M.sc, by decide, by decide, by decide, by decide, by decide, fun z _ _ => ?_⟩
              refine ⟨rfl, _, rfl, ite2 (fun _ => ?_) (fun _ => ?_)⟩
              · refine ⟨.ref hd, rfl, hd, _, 0, .ref h0, rfl, rfl, SqL.of (B2.keep _ _ M.nh), at_of (j := 0) rfl rfl, .inl ⟨rfl, _, SqL.of k02⟩, h0, _, rfl, rfl, k02, ?_⟩
                obtain ⟨b1, b2, ⟨d1, b3⟩, ⟨d2, b4⟩, b5⟩ := B2
                exact ⟨rfl, put_keeps b1 M.f0, fun z => absurd z (by omega), ⟨d1, by rw [upd_ne M.h0p.symm]; exact b3⟩, ⟨d2, by rw [upd_ne M.h0q.symm]; exact b4⟩, by rw [upd_ne M.h0A.symm]; exact b5⟩
              · refine ⟨.ref hd, rfl, hd, _, 0, .ref h0, rfl, rfl, SqL.of (B2.keep _ _ M.nh), at_of (j := 0) rfl rfl, .inl ⟨rfl, _, SqL.of k02⟩, h0, _, 0, .int 5, rfl, rfl, k02, ?_, by decide, by decide, ?_⟩
                · rw [List.length_map]
                  exact small1000 (Nat.le_trans M.few (by decide))
                · obtain ⟨b1, b2, ⟨d1, b3⟩, ⟨d2, b4⟩, b5⟩ := B2
                  exact ⟨rfl, put_keeps b1 M.f0, fun z => absurd z (by omega), ⟨d1, by rw [upd_ne M.h0p.symm]; exact b3⟩, ⟨d2, by rw [upd_ne M.h0q.symm]; exact b4⟩, by rw [upd_ne M.h0A.symm]; exact b5⟩
            · exact ⟨rfl, B1.keep, fun z => B1.first (by omega), B1.one, B1.two, B1.counts⟩
          · rintro σ2 H2 ⟨rfl, B2⟩
            -- one of the two Feeds is asked
            refine ⟨fun σ3 H3 => ∃ (e1 e2 : Nat) (g : Int), σ3 = [some (.ref a), some (.ref N), some (.ref U), some (.ref hd), some (.ref p), some (.ref q), some (.ref A), some (.int (4 + r)), some (.int (0 + (i : Int))), some (.int g), some (.int g), none] ∧ Between C G H3 h0 p q A l1 l2 xs e1 e2 (i + 1 ≤ 3), ?_, ?_⟩
            · have hx := M.few
              refine ⟨.ref a, rfl, _, rfl, _, _, rfl, rfl, a, ns, 0 + (i : Int) + 2, 3, 2, rfl, B2.keep.seq M.sc, by omega, by omega, by decide, by decide, by decide, fun z _ _ => ?_⟩
              refine ⟨rfl, _, rfl, ite2 (fun _ => ?_) (fun _ => ?_)⟩
              · obtain ⟨b1, b2, ⟨d1, b3⟩, ⟨d2, b4⟩, b5⟩ := B2
                refine ⟨_, rfl, p, d1, _, rfl, b3, ff_no _ _ (by decide +kernel) (by decide +kernel), p, l1, xs, c1, rfl, ⟨⟨d1, b3⟩, b1 _ _ M.m1⟩, fun H3 F3 kp => ?_⟩
                have s3 : Same G H3 := step_keeps b1 M.fp kp
                have kA3 := kp _ _ b5 M.pA.symm
                refine ⟨_, rfl, _, rfl, A, _, 0, .int (c1 : Int), rfl, rfl, SqL.of kA3, at_of (j := 0) rfl rfl, N, xs, c1, rfl, SqL.of (s3 _ _ M.nN), ?_⟩
                refine ⟨_, rfl, A, _, 0, .int (c1 : Int), rfl, rfl, SqL.of kA3, at_of (j := 0) rfl rfl, _, _, rfl, rfl, _, rfl, A, _, 0, 0, rfl, rfl, kA3, rfl, ?_⟩
                obtain ⟨⟨d3, f1⟩, f2⟩ := F3
                exact ⟨c1 + 1, c2, due xs c1, rfl, put_keeps s3 M.fA, fun z => (by rw [upd_ne M.h0A]; exact kp _ _ (b2 z) M.h0p), ⟨d3, by rw [upd_ne M.pA]; exact f1⟩, ⟨d2, by rw [upd_ne M.qA]; exact kp _ _ b4 M.pq.symm⟩, upd_same⟩
              · obtain ⟨b1, b2, ⟨d1, b3⟩, ⟨d2, b4⟩, b5⟩ := B2
                refine ⟨_, rfl, q, d2, _, rfl, b4, ff_no _ _ (by decide +kernel) (by decide +kernel), q, l2, xs.reverse, c2, rfl, ⟨⟨d2, b4⟩, b1 _ _ M.m2⟩, fun H3 F3 kq => ?_⟩
                have s3 : Same G H3 := step_keeps b1 M.fq kq
                have kA3 := kq _ _ b5 M.qA.symm
                refine ⟨_, rfl, _, rfl, A, _, 1, .int (c2 : Int), rfl, rfl, SqL.of kA3, at_of (j := 1) rfl rfl, U, xs.reverse, c2, rfl, SqL.of (s3 _ _ M.nT), ?_⟩
                refine ⟨_, rfl, A, _, 1, .int (c2 : Int), rfl, rfl, SqL.of kA3, at_of (j := 1) rfl rfl, _, _, rfl, rfl, _, rfl, A, _, 1, 1, rfl, rfl, kA3, rfl, ?_⟩
                obtain ⟨⟨d3, f1⟩, f2⟩ := F3
                exact ⟨c1, c2 + 1, due xs.reverse c2, rfl, put_keeps s3 M.fA, fun z => (by rw [upd_ne M.h0A]; exact kq _ _ (b2 z) M.h0q), ⟨d1, by rw [upd_ne M.pA]; exact kq _ _ b3 M.pq⟩, ⟨d3, by rw [upd_ne M.qA]; exact f1⟩, upd_same⟩
            · rintro σ3 H3 ⟨e1, e2, g, rfl, B3⟩
              -- what it told is a whole number, and the due one
              refine ⟨_, rfl, g, rfl, true, rfl, iteF ⟨_, rfl, _, rfl, rfl, _, rfl, iteE (decide_eq_true rfl) ?_⟩⟩
              exact ⟨e1, e2, _, _, _, rfl, B3⟩
        · rintro σ' H' ⟨c1, c2, v8, v9, v10, rfl, B1⟩
          -- the second list that was handed in is as it was
          refine ⟨.ref hd, rfl, hd, _, 1, .ref h1, rfl, rfl, SqL.of (B1.keep _ _ M.nh), at_of (j := 1) rfl rfl, .ref U, rfl, dI xs.reverse, dI xs.reverse, dp_list (B1.keep _ _ M.n1), dp_list (B1.keep _ _ M.nT), shaped_dI _, shaped_dI _, ?_⟩
          rw [SeqAt.eqv_refl _ (lay_dI _)]
          exact k _
end
end Fd

namespace Fd
open PySem L2
/-! ### what the top has left, and the law's own head -/
theorem all_mk {l : PySem.W.OpenLaw} {w : World} {K : PySem.W.Frag} {h : Heap} {mg : Str → Option Value} {fa C f1 f2 f3 f4 f5 f6 f7 : Addr} (X : K.In h) (G : h.Ns mainGlobals mg) (hfa : mg "law" = some (.ref fa))
    {od1 an1 od2 an2 od3 an3 od4 an4 od5 an5 od6 an6 od7 an7 : Option Addr} {sl1 sl2 sl3 sl4 sl5 sl6 sl7 : Array (Option Value)} {oc1 kV1 dc1 pm1 cd1 ct1 oc2 kV2 dc2 pm2 cd2 ct2 oc3 kV3 dc3 pm3 cd3 ct3 oc4 kV4 dc4 pm4 cd4 ct4 oc5 kV5 dc5 pm5 cd5 ct5 oc6 kV6 dc6 pm6 cd6 ct6 oc7 kV7 dc7 pm7 cd7 ct7 : Value}
    (aC : PySem.W.nsIn K mainGlobals "Feed" = some (some (.ref C)))
    (a1 : PySem.W.findIn K (.ref C) "__init__" = some (some (.ref f1)))
    (i1 : PySem.W.isFn K (.ref f1) = true)
    (l1 : K.lookup f1 = some ⟨oc1, od1, .func (PySem.W.fnOf "__init__" "Feed.__init__" (defArgs sInit) (defBody sInit) (defScope sInit) .none kV1 dc1 pm1 an1 cd1 ct1), sl1⟩)
    (c1 : PySem.W.codeIn K cd1 "Feed.__init__" = true)
    (k1 : PySem.W.keepIn K (.ref f1) = true)
    (a2 : PySem.W.findIn K (.ref C) "taken" = some (some (.ref f2)))
    (i2 : PySem.W.isFn K (.ref f2) = true)
    (l2 : K.lookup f2 = some ⟨oc2, od2, .func (PySem.W.fnOf "taken" "Feed.taken" (defArgs sTaken) (defBody sTaken) (defScope sTaken) .none kV2 dc2 pm2 an2 cd2 ct2), sl2⟩)
    (c2 : PySem.W.codeIn K cd2 "Feed.taken" = true)
    (k2 : PySem.W.keepIn K (.ref f2) = true)
    (a3 : PySem.W.nsIn K mainGlobals "_law_cell_at" = some (some (.ref f3)))
    (l3 : K.lookup f3 = some ⟨oc3, od3, .func (PySem.W.fnOf "_law_cell_at" "_law_cell_at" (defArgs sCell) (defBody sCell) (defScope sCell) .none kV3 dc3 pm3 an3 cd3 ct3), sl3⟩)
    (c3 : PySem.W.codeIn K cd3 "_law_cell_at" = true)
    (k3 : PySem.W.keepIn K (.ref f3) = true)
    (a4 : PySem.W.nsIn K mainGlobals "_law_some" = some (some (.ref f4)))
    (l4 : K.lookup f4 = some ⟨oc4, od4, .func (PySem.W.fnOf "_law_some" "_law_some" (defArgs sSome) (defBody sSome) (defScope sSome) .none kV4 dc4 pm4 an4 cd4 ct4), sl4⟩)
    (c4 : PySem.W.codeIn K cd4 "_law_some" = true)
    (k4 : PySem.W.keepIn K (.ref f4) = true)
    (a5 : PySem.W.nsIn K mainGlobals "_law_whole" = some (some (.ref f5)))
    (l5 : K.lookup f5 = some ⟨oc5, od5, .func (PySem.W.fnOf "_law_whole" "_law_whole" (defArgs sWhole) (defBody sWhole) (defScope sWhole) .none kV5 dc5 pm5 an5 cd5 ct5), sl5⟩)
    (c5 : PySem.W.codeIn K cd5 "_law_whole" = true)
    (k5 : PySem.W.keepIn K (.ref f5) = true)
    (a6 : PySem.W.nsIn K mainGlobals "_law_due" = some (some (.ref f6)))
    (l6 : K.lookup f6 = some ⟨oc6, od6, .func (PySem.W.fnOf "_law_due" "_law_due" (defArgs sDue) (defBody sDue) (defScope sDue) .none kV6 dc6 pm6 an6 cd6 ct6), sl6⟩)
    (c6 : PySem.W.codeIn K cd6 "_law_due" = true)
    (k6 : PySem.W.keepIn K (.ref f6) = true)
    (a7 : PySem.W.nsIn K mainGlobals "law" = some (some (.ref f7)))
    (l7 : K.lookup f7 = some ⟨oc7, od7, .func (PySem.W.fnOf "law" "law" (defArgs sLaw) (defBody sLaw) (defScope sLaw) .none kV7 dc7 pm7 an7 cd7 ct7), sl7⟩)
    (c7 : PySem.W.codeIn K cd7 "law" = true)
    (k7 : PySem.W.keepIn K (.ref f7) = true)
    (pg : PySem.W.plainGet K C Str.empty = true)
    (hd : PySem.W.hasDictIn K C = true)
    (po : PySem.W.plainOver K C = true)
    (sa : PySem.W.findIn K (.ref C) "__setattr__" = some (some (.builtin "object.__setattr__")))
    (mk : PySem.W.makesIn K C = true)
    (kc : PySem.W.keepIn K (.ref C) = true)
    (nSt : PySem.W.findIn K (.ref C) "stock" = some none)
    (nSp : PySem.W.findIn K (.ref C) "spent" = some none)
    (zl : PySem.W.nsIn K mainGlobals "len" = some none)
    (zt : PySem.W.nsIn K mainGlobals "list" = some none)
    (zr : PySem.W.nsIn K mainGlobals "reversed" = some none)
    (zg : PySem.W.nsIn K mainGlobals "range" = some none)
    (zi : PySem.W.nsIn K mainGlobals "isinstance" = some none)
    (zn : PySem.W.nsIn K mainGlobals "int" = some none)
    (zb : PySem.W.nsIn K mainGlobals "bool" = some none)
    : ∃ fd : FuncData, (∀ (s : Shared) (v : Value), BindsTo s fd ⟨[v], []⟩ [("_law_script", v)]) ∧ ∀ base : Heap, K.In base → base.Ns mainGlobals mg → FnOk l.prog w K mg base CX0 3 fa fd ["_law_script"] (spLaw K) := by
  have e := hfa.symm.trans (PySem.W.mg_of X G a7)
  cases e
  have T : Txt K mg C := ⟨⟨pg, hd, po, sa⟩, nSt, nSp, PySem.W.mg_of X G aC, PySem.W.mg_none_of X G zl, PySem.W.mg_none_of X G zt, PySem.W.mg_none_of X G zr, PySem.W.mg_none_of X G zg, PySem.W.mg_none_of X G zi, PySem.W.mg_none_of X G zn, PySem.W.mg_none_of X G zb⟩
  have F1 := fun_mk (st := sInit) l1 c1 k1
  have F2 := fun_mk (st := sTaken) l2 c2 k2
  have F3 := fun_mk (st := sCell) l3 c3 k3
  have F4 := fun_mk (st := sSome) l4 c4 k4
  have F5 := fun_mk (st := sWhole) l5 c5 k5
  have F6 := fun_mk (st := sDue) l6 c6 k6
  have F7 := fun_mk (st := sLaw) l7 c7 k7
  have b1 := F1.binds (ps := ["self", "numbers"]) fun _ _ _ _ _ _ us hl => match us, hl with | [_, _], _ => rfl
  have b2 := F2.binds (ps := ["self"]) fun _ _ _ _ _ _ us hl => match us, hl with | [_], _ => rfl
  have b3 := F3.binds (ps := ["_law_script", "_law_k"]) fun _ _ _ _ _ _ us hl => match us, hl with | [_, _], _ => rfl
  have b4 := F4.binds (ps := ["_law_script", "_law_k", "_law_salt", "_law_many"]) fun _ _ _ _ _ _ us hl => match us, hl with | [_, _, _, _], _ => rfl
  have b5 := F5.binds (ps := ["_law_found"]) fun _ _ _ _ _ _ us hl => match us, hl with | [_], _ => rfl
  have b6 := F6.binds (ps := ["_law_numbers", "_law_k"]) fun _ _ _ _ _ _ us hl => match us, hl with | [_, _], _ => rfl
  exact ⟨PySem.W.fnOf "law" "law" (defArgs sLaw) (defBody sLaw) (defScope sLaw) .none kV7 dc7 pm7 an7 cd7 ct7, fun s v => .of_eq rfl, fun base _ _ =>
    ok_law F7 T F3 b3 (PySem.W.mg_of X G a3) F4 b4 (PySem.W.mg_of X G a4) F5 b5 (PySem.W.mg_of X G a5) F6 b6 (PySem.W.mg_of X G a6) ⟨mk, a1, i1, kc⟩ F1 b1 F2 b2 ⟨a2, i2, k2⟩⟩
end Fd

open PySem PySem.W PyProof.Rows
set_option maxRecDepth 100000 in
set_option maxHeartbeats 0 in
theorem PySem.Challenge.cw_rowbreadth_k29_numbers_handed_out_holds : PySem.Challenge.rw_rowbreadth_k29_numbers_handed_out.Holds := by
  w_on; o_law; k_head; (case hw => w_witness2)
  k_fill
  refine L2.walk_of (l := PySem.Challenge.rw_rowbreadth_k29_numbers_handed_out) (n := 63) (k := 3) (x := "_law_script") (CX := fun _ => L2.CX0) (sp := fun w => Fd.spLaw _) rfl (by decide) rfl ⟨rfl, by decide, by decide⟩ (fun w h Y => PySem.W.kIn_of Y) ?F (fun _ _ a ns hl _ hS => ⟨a, ns, rfl, hS, hl, fun _ => rfl⟩) (fun _ _ _ _ _ h => h)
  case F =>
    intro w mg fa h KX G hmg
    refine' Fd.all_mk KX G hmg ?aC ?a1 ?i1 ?l1 ?c1 ?k1 ?a2 ?i2 ?l2 ?c2 ?k2 ?a3 ?l3 ?c3 ?k3 ?a4 ?l4 ?c4 ?k4 ?a5 ?l5 ?c5 ?k5 ?a6 ?l6 ?c6 ?k6 ?a7 ?l7 ?c7 ?k7 ?pg ?hd ?po ?sa ?mk ?kc ?nSt ?nSp ?zl ?zt ?zr ?zg ?zi ?zn ?zb
    (case aC => k_is)
    (case a1 => k_is)
    (case i1 => k_is)
    (case l1 => k_is)
    (case c1 => k_is)
    (case k1 => k_is)
    (case a2 => k_is)
    (case i2 => k_is)
    (case l2 => k_is)
    (case c2 => k_is)
    (case k2 => k_is)
    (case a3 => k_is)
    (case l3 => k_is)
    (case c3 => k_is)
    (case k3 => k_is)
    (case a4 => k_is)
    (case l4 => k_is)
    (case c4 => k_is)
    (case k4 => k_is)
    (case a5 => k_is)
    (case l5 => k_is)
    (case c5 => k_is)
    (case k5 => k_is)
    (case a6 => k_is)
    (case l6 => k_is)
    (case c6 => k_is)
    (case k6 => k_is)
    (case a7 => k_is)
    (case l7 => k_is)
    (case c7 => k_is)
    (case k7 => k_is)
    (case pg => k_is)
    (case hd => k_is)
    (case po => k_is)
    (case sa => k_is)
    (case mk => k_is)
    (case kc => k_is)
    (case nSt => k_is)
    (case nSp => k_is)
    (case zl => k_is)
    (case zt => k_is)
    (case zr => k_is)
    (case zg => k_is)
    (case zi => k_is)
    (case zn => k_is)
    (case zb => k_is)
#print axioms PySem.Challenge.cw_rowbreadth_k29_numbers_handed_out_holds
