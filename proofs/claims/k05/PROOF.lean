import PyProof.Rows.All
import Wide.All
import OpenK.AllK
import Wide.FinOn
import HandS.ForMost
import HandS.Style
import HandS.SortKw
import KE.KMinBuiltin
import HandS.TupMul
import HandS.RevRange
import HandS.TupAny
import HandS.Rev
import HandS.Conv
import KE.KIndexOf
import HandS.ReCall
import HandS.HeadHook2
import HandS.ForExc
import HandS.IsInst
import HandS.HeadEnd
import HandS.Head2
import HandS.SortInts
import HandS.Deep
import HandS.Zip
import HandS.Walk
import HandS.More
import HandS.Strs
import HandS.Wide
import HandS.WideMore
import HandS.Dict
import HandS.ExcValue
import HandS.SortOrd
import KE.KExcIs
import HandS.RevTup
import PyProof.ListRange
import KE.GoesMore
import HandS.Iter
import HandS.List
import HandS.ExcOwn
import PySem.Challenge.RW_bitlead_k05_even_ones_led_back
set_option Elab.async false
set_option linter.all false
set_option maxRecDepth 100000
namespace MPW
open PySem PySem.Spec PyProof.Rows L2
def cstE : Expr → Option Int
  | .Constant (.int j) _ _ => some j
  | .UnaryOp .USub (.Constant (.int j) _ _) _ => some (-j)
  | _ => none
def cstO : Option Expr → Option (Option Int)
  | none => some none
  | some x => (cstE x).map some
/-- the items that a slice takes -/
def pick {α : Type} (xs : List α) (lo hi st : Option Int) : List α := (sliceRange (sliceBounds lo hi st xs.length).1 (sliceBounds lo hi st xs.length).2.1 (sliceBounds lo hi st xs.length).2.2).filterMap fun i => xs[i]?
theorem pick_vals {xs : List V} {us : List Value} (r : Vals xs us) (lo hi st : Option Int) : Vals (pick xs lo hi st) (slicePick us.toArray lo hi st).toList := by
  have e : (slicePick us.toArray lo hi st).toList = pick us lo hi st := by
    unfold slicePick pick
    rw [List.size_toArray]
    show List.filterMap _ _ = _
    congr 1
    funext i
    simp
  rw [e]
  unfold pick
  rw [r.length]
  generalize sliceRange _ _ _ = is
  induction is with
  | nil => exact .nil
  | cons i is ih =>
    cases hx : xs[i]? with
    | none =>
      have hu : us[i]? = none := by
        rw [List.getElem?_eq_none_iff] at hx ⊢
        rw [← r.length]
        exact hx
      rw [List.filterMap_cons, List.filterMap_cons, hx, hu]
      exact ih
    | some x =>
      obtain ⟨u, hu, ru⟩ := r.get hx
      rw [List.filterMap_cons, List.filterMap_cons, hx, hu]
      exact .cons ru ih
section
variable {X : Cx}
theorem po_cst {x : Option Expr} {v : Option Int} (h : cstO x = some v) : PO X x (fun σ H Q => Q v H) := by
  cases x with
  | none =>
    cases h
    exact po_none
  | some y =>
    obtain ⟨i, e, rfl⟩ := Option.map_eq_some_iff.mp (show (cstE y).map some = some v from h)
    unfold cstE at e
    split at e
    · cases e
      exact ⟨fun pins s σ H Q I q => (po_some pe_int).run pins s σ H Q I ⟨i, rfl, q⟩⟩
    · cases e
      rename_i j _ _ _
      exact ⟨fun pins s σ H Q I q => (po_some (pe_un un_neg pe_int)).run pins s σ H Q I ⟨j, rfl, -j, rfl, q⟩⟩
    · cases e
def tStp (K : PySem.W.Frag) (te : TE) (lo hi st : Option Int) : TE := fun σ H Q => te σ H fun x H1 => ∃ a xs, x = .ref a ∧ SqL K H1 a xs ∧ ∀ p, H1 p = none → Q (.ref p) (upd H1 p (.lst (pick xs lo hi st)))
theorem pe_stp {e z : Expr} {a b : Option Expr} {te : TE} {lo hi st : Option Int} {p3 pos : Pos} (he : PE X e te) (ha : cstO a = some lo) (hb : cstO b = some hi) (hz : cstO (some z) = some st) (h0 : st ≠ some 0) :
    PE X (.Subscript e (.Slice a b (some z) p3) pos) (tStp X.K te lo hi st) := by
  refine ⟨fun pins s σ H Q I h => Subscript_ (thn (he.run pins s σ H _ I h) fun v s1 ⟨x, H1, I1, r1, l, xs, ex, hx, q⟩ => ?_)⟩
  subst ex
  cases r1
  refine wpAny_Slice (thn ((po_cst ha).run pins s1 σ H1 (fun o G => o = lo ∧ G = H1) I1 ⟨rfl, rfl⟩) fun va s2 ⟨o, G, I2, pa, eo, eG⟩ => ?_)
  subst eo eG
  refine thn ((po_cst hb).run pins s2 σ G (fun o G' => o = hi ∧ G' = G) I2 ⟨rfl, rfl⟩) fun vb s3 ⟨o', G', I3, pb, eo, eG⟩ => ?_
  subst eo eG
  refine thn ((po_cst hz).run pins s3 σ G' (fun o G => o = st ∧ G = G') I3 ⟨rfl, rfl⟩) fun vz s4 ⟨o2, G2, I4, pz, eo, eG⟩ => ?_
  subst eo eG
  have J : Inv X pins σ G2 { s4 with heap := s4.heap.push { cls := .type "slice", data := .fields #[va, vb, vz] } } := I4.kept (t' := s4.toks) fun b ob q => Heap.get?_push_of_some _ q
  obtain ⟨us, r, ht, hl⟩ := J.list hx
  show wpAny (model X.prog X.w) X.A (subscriptTail e (.Slice a b (some z) p3) (.ref l) (.ref s4.heap.objs.size)) (EP X pins σ Q) X.xe { s4 with heap := s4.heap.push { cls := .type "slice", data := .fields #[va, vb, vz] } }
  refine tail_any (ops := [.ref l, .ref s4.heap.objs.size]) ht.isList.typeIs (PySem.slot_list_getitem.lookup) (wpAny_getItem_list_slice ht.isList (Heap.IsSliceOf.new _ va vb vz) pa pb pz h0 ?_ (by rw [List.size_toArray, ← r.length]; exact hl)) (by with_unfolding_all rfl)
  have hp := pick_vals r o o' o2
  have hs : (slicePick us.toArray o o' o2).size ≤ us.length := by
    have := slicePick_size_le us.toArray o o' o2
    simpa using this
  refine ⟨.ref _, _, J.laid (t' := s4.toks) (o := .lst (pick xs o o' o2)) (fun b ob q => Heap.get?_push_of_some _ q) (Nat.le_refl _) ⟨?_, _, 0, hp, Heap.get?_push_size _ rfl⟩, rfl, q _ (J.hok.fresh (Nat.le_refl _))⟩
  rw [hp.length, Array.length_toList]
  exact Nat.le_trans hs (by rw [← r.length]; exact hl)
end
end MPW
namespace MPR
open PySem PySem.Spec PyProof.Rows L2
abbrev kwN : List (Str × Value) := [(Str.ofString "default", Value.none)]
theorem args_mn (a : Value) : argsOk "min" ⟨[a], kwN⟩ := by unfold argsOk; kernel_rfl
theorem ints_lt (prog : Program) (w : World) (A : Around) (i j : Int) (t u : Tok) (s : Shared) (Q : Value → Shared → Prop) (E : Value → Shared → Prop) (h : Q (.bool (decide (i < j))) s) :
    wpAny (model prog w) A (richCompare .Lt (.int i t) (.int j u)) Q E s :=
  CmpOf.ints_lt (prog := prog) (w := w) (A := A) (P := fun k v => ∃ t, v = .int (if k = 0 then i else j) t) (fun k => if k = 0 then i else j) (fun k v h => h) 0 1 _ _ s Q E ⟨t, rfl⟩ ⟨u, rfl⟩ h
section
variable {prog : Program} {w : World} {A : Around} {I l S : Addr} {its : List Value} {ns : List Int} {R : Result → Shared → Prop}
theorem at_of (hi : IntsAre its ns) {j : Nat} {v : Value} (h : its[j]? = some v) : ∃ n t, v = .int n t ∧ ns[j]? = some n := PyProof.Rows.IntsAre.at hi j v h
/-- the loop, one item the least so far -/
theorem loop (hh : A.handled = none) (hi : IntsAre its ns) (hlI : l ≠ I) (hSI : S ≠ I) (hSl : S ≠ l) :
    ∀ (r j : Nat) (s : Shared) (m : Int) (t : Tok) (c : Nat), its.length - j = r → j ≤ its.length → s.heap.IsListIter I l j → s.heap.IsList l its.toArray →
      s.heap.get? S = some { cls := .type "list", dict := none, data := .seq #[.int m t, .int m t] c, slots := #[] } → m ∈ ns → (∀ a, a ∈ ns.take j → m ≤ a) →
      (∀ h' tk M t', (∀ b o, b ≠ I → b ≠ S → s.heap.get? b = some o → h'.get? b = some o) → M ∈ ns → (∀ a, a ∈ ns → M ≤ a) → R (.ok (.ret (.int M t'))) { s with heap := h', toks := tk }) →
      codeAny (model prog w) A (.builtin "min.loop" ⟨[.ref I, .none, .ref S], kwN⟩) R s := by
  have hname : (toString "min" ++ toString ".loop" : String) = "min.loop" := by decide
  have W := Walks.list (prog := prog) (w := w) (A := A.in1) hh I l hlI its.toArray
  have hsz : its.toArray.size = its.length := List.size_toArray ..
  intro r
  induction r with
  | zero =>
    intro j s m t c hr hj hit hl hS hm hle hR
    have hj' : j = its.length := by omega
    refine codeAny_builtin PySem.F.entry_min_loop ?_
    rw [Around.under_plainId PySem.F.plain_min_loop _]
    show wpAny _ A.in1 (seqItems? (.ref S) >>= _) _ _ s
    refine wpAny_bind (wpAny_seqItems hS rfl ?_)
    show wpAny _ A.in1 (tryCatch (pyNext (.ref I)) _ >>= _) _ _ s
    refine wpAny_bind (wpAny_tryCatch (W.done s _ _ ⟨by rw [hsz, ← hj']; exact hit, hl⟩ fun h' tk hk => ?_))
    have hS' := hk S _ (fun q => hSI (List.mem_singleton.mp q)) hS
    show wpAny _ A.in1 (updateSeq S (fun _ => #[]) >>= _) _ _ _
    refine wpAny_bind ?_
    refine wpAny_updateSeq hS' rfl (wpAny_bind (wpAny_letGo (wpAny_pure ?_)))
    refine hR _ tk m t (fun b o b1 b2 e => (Heap.get?_update_other _ _ (Ne.symm b2)).trans (hk b o (fun q => b1 (List.mem_singleton.mp q)) e)) hm fun a ha => hle a ?_
    rw [List.take_of_length_le (by rw [← hi.length]; omega)]
    exact ha
  | succ r ih =>
    intro j s m t c hr hj hit hl hS hm hle hR
    have hlt : j < its.length := by omega
    refine codeAny_builtin PySem.F.entry_min_loop ?_
    rw [Around.under_plainId PySem.F.plain_min_loop _]
    show wpAny _ A.in1 (seqItems? (.ref S) >>= _) _ _ s
    refine wpAny_bind (wpAny_seqItems hS rfl ?_)
    show wpAny _ A.in1 (tryCatch (pyNext (.ref I)) _ >>= _) _ _ s
    refine wpAny_bind (wpAny_tryCatch (W.item j s _ _ (by rw [hsz]; exact hlt) ⟨hit, hl⟩ fun v h' tk hP hst hk => ?_))
    obtain ⟨n, u, rfl, hn⟩ := at_of hi (j := j) (by simpa using hP)
    have hnm : n ∈ ns := List.mem_of_getElem? hn
    have htk : ∀ a, a ∈ ns.take (j + 1) → a ∈ ns.take j ∨ a = n := fun a ha => by
      rw [List.take_succ, hn] at ha
      rcases List.mem_append.mp ha with h | h
      · exact .inl h
      · exact .inr (List.mem_singleton.mp h)
    have hS' := hk S _ (fun q => hSI (List.mem_singleton.mp q)) hS
    show wpAny _ A.in1 (tryCatch (holding [.int n u, .int n u] (richCompare .Lt (.int n u) (.int m t) >>= _)) _ >>= _) _ _ _
    refine wpAny_bind (wpAny_tryCatch (wpAny_holding (wpAny_bind (ints_lt _ _ _ _ _ _ _ _ _ _ ?_))))
    refine wpAny_bind (wpAny_holding (wpAny_truthy_bool ?_))
    refine wpAny_bind (wpAny_letGo (wpAny_pure ?_))
    by_cases hb : n < m
    · simp only [hb, decide_true, if_true]
      refine wpAny_bind ?_
      refine wpAny_updateSeq hS' rfl (wpAny_bind (wpAny_letGo ?_))
      rw [hname]
      have up : ∀ b o, b ≠ S → h'.get? b = some o → (h'.update S (Obj.mapSeq fun _ => #[.int n u, .int n u])).get? b = some o := fun b o b2 e => (Heap.get?_update_other _ _ (Ne.symm b2)).trans e
      refine wpAny_pure ⟨plainId_quiet PySem.F.plain_min_loop _, ih (j + 1) _ n u _ (by omega) hlt (hst.1.at fun o e => up _ _ hSI.symm e) (hst.2.at fun o e => up _ _ hSl.symm e) (Heap.get?_update_self _ hS' rfl) hnm (fun a ha => ?_) fun h2 tk2 M t' hk2 => ?_⟩
      · rcases htk a ha with h | rfl
        · have := hle a h
          omega
        · exact Int.le_refl _
      · exact hR h2 tk2 M t' fun b o b1 b2 e => hk2 b o b1 b2 (up b o b2 (hk b o (fun q => b1 (List.mem_singleton.mp q)) e))
    · simp only [hb, decide_false, Bool.false_eq_true, if_false]
      refine wpAny_bind (wpAny_letGo ?_)
      rw [hname]
      refine wpAny_pure ⟨plainId_quiet PySem.F.plain_min_loop _, ih (j + 1) _ m t c (by omega) hlt hst.1 hst.2 hS' hm (fun a ha => ?_) fun h2 tk2 M t' hk2 => ?_⟩
      · rcases htk a ha with h | rfl
        · exact hle a h
        · omega
      · exact hR h2 tk2 M t' fun b o b1 b2 e => hk2 b o b1 b2 (hk b o (fun q => b1 (List.mem_singleton.mp q)) e)
theorem first (hh : A.handled = none) (hi : IntsAre its ns) (hlI : l ≠ I) (hSI : S ≠ I) (hSl : S ≠ l) {s : Shared} {c : Nat} (hit : s.heap.IsListIter I l 0) (hl : s.heap.IsList l its.toArray)
    (hS : s.heap.get? S = some { cls := .type "list", dict := none, data := .seq #[] c, slots := #[] })
    (h0 : ns = [] → ∀ h' tk, (∀ b o, b ≠ I → b ≠ S → s.heap.get? b = some o → h'.get? b = some o) → R (.ok (.ret .none)) { s with heap := h', toks := tk })
    (hR : ∀ h' tk M t', (∀ b o, b ≠ I → b ≠ S → s.heap.get? b = some o → h'.get? b = some o) → M ∈ ns → (∀ a, a ∈ ns → M ≤ a) → R (.ok (.ret (.int M t'))) { s with heap := h', toks := tk }) :
    codeAny (model prog w) A (.builtin "min.loop" ⟨[.ref I, .none, .ref S], kwN⟩) R s := by
  have hname : (toString "min" ++ toString ".loop" : String) = "min.loop" := by decide
  have W := Walks.list (prog := prog) (w := w) (A := A.in1) hh I l hlI its.toArray
  have hsz : its.toArray.size = its.length := List.size_toArray ..
  refine codeAny_builtin PySem.F.entry_min_loop ?_
  rw [Around.under_plainId PySem.F.plain_min_loop _]
  show wpAny _ A.in1 (seqItems? (.ref S) >>= _) _ _ s
  refine wpAny_bind (wpAny_seqItems hS rfl ?_)
  show wpAny _ A.in1 (tryCatch (pyNext (.ref I)) _ >>= _) _ _ s
  by_cases hz : its.length = 0
  · refine wpAny_bind (wpAny_tryCatch (W.done s _ _ ⟨by rw [hsz, hz]; exact hit, hl⟩ fun h' tk hk => ?_))
    show wpAny _ A.in1 (rule "min.default" >>= _) _ _ _
    refine wpAny_bind (wpAny_rule (wpAny_pure ?_))
    exact h0 (List.eq_nil_of_length_eq_zero (by rw [← hi.length]; exact hz)) h' tk fun b o b1 _ e => hk b o (fun q => b1 (List.mem_singleton.mp q)) e
  · refine wpAny_bind (wpAny_tryCatch (W.item 0 s _ _ (by rw [hsz]; omega) ⟨hit, hl⟩ fun v h' tk hP hst hk => ?_))
    obtain ⟨n, u, rfl, hn⟩ := at_of hi (j := 0) (by simpa using hP)
    have hS' := hk S _ (fun q => hSI (List.mem_singleton.mp q)) hS
    show wpAny _ A.in1 (updateSeq S (fun _ => #[.int n u, .int n u]) >>= _) _ _ _
    refine wpAny_bind ?_
    refine wpAny_updateSeq hS' rfl ?_
    rw [hname]
    have up : ∀ b o, b ≠ S → h'.get? b = some o → (h'.update S (Obj.mapSeq fun _ => #[.int n u, .int n u])).get? b = some o := fun b o b2 e => (Heap.get?_update_other _ _ (Ne.symm b2)).trans e
    refine wpAny_pure ⟨plainId_quiet PySem.F.plain_min_loop _, loop hh hi hlI hSI hSl _ 1 _ n u _ rfl (by omega) (hst.1.at fun o e => up _ _ hSI.symm e) (hst.2.at fun o e => up _ _ hSl.symm e) (Heap.get?_update_self _ hS' rfl) (List.mem_of_getElem? hn) (fun a ha => ?_) fun h2 tk2 M t' hk2 => ?_⟩
    · rw [List.take_succ, hn] at ha
      rcases List.mem_append.mp ha with h | h
      · cases h
      · rw [List.mem_singleton.mp h]
        exact Int.le_refl _
    · exact hR h2 tk2 M t' fun b o b1 b2 e => hk2 b o b1 b2 (up b o b2 (hk b o (fun q => b1 (List.mem_singleton.mp q)) e))
theorem raw {E : Value → Shared → Prop} {s : Shared} {Q : Value → Shared → Prop} (hh : A.handled = none) (hl : s.heap.IsList l its.toArray) (hi : IntsAre its ns)
    (h0 : ns = [] → ∀ h' tk, (∀ b o, s.heap.get? b = some o → h'.get? b = some o) → Q .none { s with heap := h', toks := tk })
    (h1 : ∀ h' tk M t', (∀ b o, s.heap.get? b = some o → h'.get? b = some o) → M ∈ ns → (∀ a, a ∈ ns → M ≤ a) → Q (.int M t') { s with heap := h', toks := tk }) :
    wpAny (model prog w) A (call (.builtin "min") [.ref l] kwN) Q E s := by
  have hname : (toString "min" ++ toString ".loop" : String) = "min.loop" := by decide
  obtain ⟨ol, hol, _⟩ := id hl
  have hll : l < s.heap.objs.size := Heap.lt_size hol
  refine kmb_tree PySem.F.kind_min PySem.F.plain_min PySem.F.entry_min (args_mn _) ?_
  show wpAny _ A.in1 (Builtin.Builtins.bindParams "min" ["key", "default"] 0 ⟨[], kwN⟩ >>= _) _ _ s
  refine wpAny_bind (wpAny_of_eq (show Builtin.Builtins.bindParams "min" ["key", "default"] 0 ⟨[], kwN⟩ = pure [none, some .none] from rfl) ?_)
  refine wpAny_bind (wpAny_pure ?_)
  refine wpAny_bind (wpAny_pyIter_list hl ?_)
  refine wpAny_bind (wpAny_newList ?_ (Nat.zero_le _))
  rw [hname]
  have hsz : (s.heap.push { cls := .type "list_iterator", data := .fields #[.ref l, .int 0 0] }).objs.size = s.heap.objs.size + 1 := Heap.size_push ..
  have hll2 := hl.push { cls := .type "list_iterator", data := .fields #[.ref l, .int 0 0] }
  refine wpAny_pure ⟨plainId_quiet PySem.F.plain_min_loop _, first hh hi (l := l) (I := s.heap.objs.size) (S := (s.heap.push { cls := .type "list_iterator", data := .fields #[.ref l, .int 0 0] }).objs.size) (Nat.ne_of_lt hll) (by rw [hsz]; exact Nat.succ_ne_self _) (by rw [hsz]; exact (Nat.ne_of_lt (Nat.lt_succ_of_lt hll)).symm) ?_ ?_ (Heap.get?_push_size _ rfl) ?_ ?_⟩
  · exact ⟨_, Heap.get?_push_of_some _ (Heap.get?_push_size _ rfl), rfl, rfl⟩
  · exact hll2.push _
  · intro e h' tk hk
    refine h0 e h' tk fun b o q => hk b o (Nat.ne_of_lt (Heap.lt_size q)) ?_ (Heap.get?_push_of_some _ (Heap.get?_push_of_some _ q))
    rw [hsz]
    exact Nat.ne_of_lt (Nat.lt_succ_of_lt (Heap.lt_size q))
  · intro h' tk M t' hk
    refine h1 h' tk M t' fun b o q => hk b o (Nat.ne_of_lt (Heap.lt_size q)) ?_ (Heap.get?_push_of_some _ (Heap.get?_push_of_some _ q))
    rw [hsz]
    exact Nat.ne_of_lt (Nat.lt_succ_of_lt (Heap.lt_size q))
end
section
variable {X : Cx}
/-- min(xs, default=None) of a list of ints -/
def rMinN (K : PySem.W.Frag) : List V → List V → Hp → VK → Prop := fun vs zs H Q => ∃ (a : Addr) (ns : List Int), vs = [V.ref a] ∧ zs = [.non] ∧ SqL K H a (ns.map V.int) ∧ (ns = [] → Q .non H) ∧ ∀ m, m ∈ ns → (∀ y, y ∈ ns → m ≤ y) → Q (.int m) H
theorem cr_minN (hc : X.calm = true) : CallRK X (.builtin "min") [Str.ofString "default"] (rMinN X.K) := by
  intro pins s σ H vs zs us ws Q I r rz h
  obtain ⟨a, ns, rfl, rfl, hs, q0, q1⟩ := h
  obtain ⟨its, rv, hl, _⟩ := I.list hs
  rw [Vals.ref1 r]
  obtain ⟨w1, rfl, e1⟩ := vals1 rz
  obtain rfl : w1 = Value.none := e1
  exact raw (I.ok.hd hc) hl.isList rv.ints (fun e h' tk hk => ⟨.non, H, I.kept hk, rfl, q0 e⟩) fun h' tk m t' hk h1 h2 => ⟨.int _, H, I.kept hk, ⟨_, rfl⟩, q1 m h1 h2⟩
end
end MPR
namespace MPT
open PySem PySem.Spec PyProof.Rows L2 HT
/-- what is wanted of a new tuple of vs -/
def Ft (H : Hp) (vs : List V) (Q : VK) : Prop := ∀ p o, H p = none → o.dict = none → Q (.ref p) (upd H p (.frz o (.tup vs)))
section
variable {X : Cx} {pins : List (Addr × Obj)} {σ : L2.St} {H : Hp} {s : Shared}
/-- a tuple stands at the end of the heap -/
theorem lay {hp : Heap} {g : Array GenState} {d : Drawn} {t t' : Nat} {os : OsState} {vs : List V} {us : Array Value} {Q : VK} (I : Inv X pins σ H ⟨hp, g, d, t, os⟩) (r : Vals vs us.toList) (z : vs.length ≤ sizeLine) (q : Ft H vs Q) :
    EP X pins σ Q (.ref hp.objs.size) ⟨hp.push { cls := .type "tuple", data := .seq us }, g, d, t', os⟩ := by
  have new : H hp.objs.size = none := I.hok.fresh (Nat.le_refl _)
  have at_ : (hp.push { cls := .type "tuple", data := .seq us }).get? hp.objs.size = some ({ cls := .type "tuple", data := .seq us } : Obj) := Heap.get?_push_size _ rfl
  have ok : ObjOk X.prog X.w (upd H hp.objs.size (.frz { cls := .type "tuple", data := .seq us } (.tup vs))) (hp.push { cls := .type "tuple", data := .seq us }) hp.objs.size (.frz { cls := .type "tuple", data := .seq us } (.tup vs)) := by
    refine ⟨at_, z, us.toList, r, ?_⟩
    rw [Array.toArray_toList]
    exact ⟨_, at_, rfl, _, rfl⟩
  refine ⟨.ref hp.objs.size, _, I.laid (t' := t') ?_ (Nat.le_refl _) ok, rfl, q _ _ new rfl⟩
  intro b u e
  exact Heap.get?_push_of_some _ e
end
section
variable {X : Cx} {es : List Expr} {t : TA} {k : Nat} {pos : Pos}
def tTupP (t : TA) : TE := fun σ H Q => t σ H fun vs H1 => vs.length ≤ sizeLine ∧ Ft H1 vs Q
theorem pe_tupP (h : PA X es t) : PE X (.Tuple es k pos) (tTupP t) := ⟨fun pins s σ H Q I hq => by
  refine wpAny_Tuple_spliced ?_
  refine thn (h.run pos pins s σ H _ I hq) ?_
  rintro us ⟨hp, g, d, tk, os⟩ ⟨vs, H1, I1, r, z, q⟩
  refine ⟨?_, ?_⟩
  · have e := r.length
    omega
  · exact lay I1 (us := us.toArray) r z q⟩
/-- tuple(x), x a list or a tuple -/
def rTupOf (K : PySem.W.Frag) : List V → Hp → VK → Prop := fun xs H Q => ∃ p ys, xs = [.ref p] ∧ ((SqL K H p ys ∧ Ft H ys Q) ∨ (SqT K H p ys ∧ Q (.ref p) H))
theorem call_tupP : CallR X (.type "tuple") (rTupOf X.K) := by
  intro pins ⟨hp, g, d, tk, os⟩ σ H xs us Q I r h
  obtain ⟨p, ys, e, h⟩ := h
  subst e
  obtain ⟨u, e, rx⟩ := vals1 r
  subst e
  obtain rfl : u = Value.ref p := rx
  rcases h with ⟨hq, q⟩ | ⟨hq, q⟩
  · obtain ⟨its, rv, pl, hz⟩ := I.list hq
    have len := rv.length
    refine call_tuple_list pl.isList ?_ ?_
    · intro h' kp
      have I1 : Inv X pins σ H ⟨h', g, d, tk, os⟩ := I.kept (t' := tk) kp
      exact lay I1 (us := its.toArray) (by simpa using rv) hz q
    · rw [List.size_toArray]
      omega
  · obtain ⟨its, _, pl, _⟩ := I.tuple hq
    exact call_tuple_same pl ⟨.ref p, H, I, rfl, q⟩
/-- t + u -/
def rCatP (K : PySem.W.Frag) : R2 := fun x y H Q => ∃ a b xs ys, x = .ref a ∧ y = .ref b ∧ SqT K H a xs ∧ SqT K H b ys ∧ xs.length + ys.length ≤ sizeLine ∧ (xs = [] → Q (.ref b) H) ∧ (ys = [] → Q (.ref a) H) ∧ Ft H (xs ++ ys) Q
theorem op_catP : OpR X (binaryOp .Add) (rCatP X.K) := by
  intro pins s σ H x y v u Q I rx ry h
  obtain ⟨a, b, xs, ys, e1, e2, ha, hb, hz, q0, q1, q2⟩ := h
  by_cases hx : xs = []
  · refine op_catA pins s σ H _ _ v u Q I rx ry ⟨a, b, xs, ys, e1, e2, ha, hb, hz, q0, fun n => absurd hx n, fun n => absurd hx n⟩
  · subst e1 e2
    obtain rfl : v = Value.ref a := rx
    obtain rfl : u = Value.ref b := ry
    obtain ⟨us, r1, p1, _⟩ := I.tuple ha
    obtain ⟨ws, r2, p2, _⟩ := I.tuple hb
    have l1 := r1.length
    have l2 := r2.length
    refine HT.cat_tup p1 p2 (fun z => hx (r1.nil_iff.mp z)) (fun z => ?_) (fun z => ?_) (by omega)
    · exact ⟨.ref a, H, I, rfl, q1 (r2.nil_iff.mp z)⟩
    · obtain ⟨hp, g, d, tk, os⟩ := s
      exact lay I (t' := tk) (us := (us ++ ws).toArray) (by simpa using r1.append r2) (by rw [List.length_append]; exact hz) q2
/-- t * k, k at least 2 -/
def rRepP (K : PySem.W.Frag) : R2 := fun x y H Q => ∃ l k xs, x = .ref l ∧ y = .int k ∧ SqT K H l xs ∧ xs ≠ [] ∧ 2 ≤ k ∧ k ≤ 1000 ∧ xs.length ≤ 1000 ∧ Ft H (List.replicate k.toNat xs).flatten Q
theorem op_repP : OpR X (binaryOp .Mult) (rRepP X.K) := by
  intro pins s σ H x y v u Q I rx ry h
  obtain ⟨l, k, xs, e1, e2, hT, hne, k2, k1000, x1000, q⟩ := h
  subst e1 e2
  obtain rfl : v = Value.ref l := rx
  obtain ⟨tk, rfl⟩ := ry
  obtain ⟨us, r, ⟨⟨cc, dd, da, sl⟩, ho, hc, n, hd⟩, _⟩ := I.tuple hT
  obtain rfl : cc = Value.type "tuple" := hc
  obtain rfl : da = Data.seq us.toArray n := hd
  have len : us.length = xs.length := r.length.symm
  have lS : us.toArray.size = xs.length := by rw [List.size_toArray]; exact len
  have pos : 0 < xs.length := List.length_pos_iff.mpr hne
  have ne : us.toArray.isEmpty = false := by
    rw [Array.isEmpty, lS]
    exact decide_eq_false (by omega)
  have most : ((us.toArray.size : Nat) : Int) * k ≤ 1000000 := by
    rw [lS]
    have := Int.mul_le_mul_of_nonneg_right (show ((xs.length : Nat) : Int) ≤ 1000 by omega) (show 0 ≤ k by omega)
    omega
  have flat : (List.replicate k.toNat us).flatten.length ≤ sizeLine := by
    rw [PyProof.Rows.lm_len_rep_flat, len, sizeLine_eq]
    have := Nat.mul_le_mul (show k.toNat ≤ 1000 by omega) x1000
    omega
  have flatV : (List.replicate k.toNat xs).flatten.length ≤ sizeLine := by
    rw [PyProof.Rows.lm_len_rep_flat] at flat ⊢
    rw [← len]
    exact flat
  have d0 : (decide (k < -(2 ^ 63)) || decide (k ≥ 2 ^ 63)) = false := by
    rw [Bool.or_eq_false_iff]
    exact ⟨decide_eq_false (by omega), decide_eq_false (by omega)⟩
  have d1 : (us.toArray.isEmpty || k == 1) = false := by
    rw [ne, Bool.false_or, beq_eq_false_iff_ne]
    omega
  have d2 : (decide (k ≤ 0) || us.toArray.isEmpty) = false := by
    rw [ne, Bool.or_false]
    exact decide_eq_false (by omega)
  have d4 : Builtin.Tuple.tupleTooMany (((us.toArray.size : Nat) : Int) * k) = false := by
    unfold Builtin.Tuple.tupleTooMany
    rw [sizeLine_eq]
    exact decide_eq_false (by omega)
  have run := tuple_mulW l us.toArray n dd sl k tk d0 d1 d2 (by omega) d4 (by rw [size_rep, List.size_toArray]; exact flat)
  have ty : s.TypeIs (.ref l) "tuple" := ⟨_, ho, rfl⟩
  refine wpAny_binaryOp_repeat_ref (T := "tuple") (U := "int") (by decide) ty (fun s' => typeIs_int s' k tk) noFill_tuple_mul F.fills_int_mul F.slot_int_rmul repeat_tuple F.slot_int_index.lookup ?_
  refine call_meets F.slot_int_rmul (typeIs_int s k tk) F.entry_int_rmul (F.args_int_rmul_2 _ _) (int_rmul_tuple k tk l us.toArray n dd sl) ⟨ho, rfl, ty, ?_⟩
  refine call_meets F.slot_tuple_mul ty F.entry_tuple_mul (F.args_tuple_mul_2 _ _) run ⟨ho, ?_⟩
  rw [size_rep]
  obtain ⟨hp, g, d, t0, os⟩ := s
  exact lay I (t' := t0) (us := (List.replicate k.toNat us).flatten.toArray) (by simpa using r.rep k.toNat) flatV q
/-- t[lo:hi] -/
def rSlP (K : PySem.W.Frag) : V → Option Int → Option Int → Hp → VK → Prop := fun x lo hi H Q => ∃ a xs, x = .ref a ∧ SqT K H a xs ∧
  (HT.sIx xs.length 0 lo = 0 ∧ HT.sIx xs.length xs.length hi = xs.length → Q (.ref a) H) ∧ Ft H (cutV xs lo hi) Q
theorem sl_tupP : SlR X (rSlP X.K) := by
  intro pins s σ H x v vl vu lo hi sl Q I rx hs pl pu h
  obtain ⟨a, xs, ex, hx, q1, q2⟩ := h
  by_cases hw : HT.sIx xs.length 0 lo = 0 ∧ HT.sIx xs.length xs.length hi = xs.length
  · exact sl_tupA pins s σ H x v vl vu lo hi sl Q I rx hs pl pu ⟨a, xs, ex, hx, q1, fun n => absurd hw n⟩
  · subst ex
    obtain rfl : v = Value.ref a := rx
    obtain ⟨us, r, ht, hz⟩ := I.tuple hx
    have lS : us.toArray.size = xs.length := by rw [List.size_toArray]; exact r.length.symm
    refine ⟨"tuple", _, PyProof.Rows.slot_tuple_getitem.lookup, ht.typeIs, ?_⟩
    refine HT.getItem_tuple_cut ht hs pl pu ?_ ?_ ?_
    · rw [lS]; exact hw
    · rw [lS]
      obtain ⟨hp, g, d, t0, os⟩ := s
      refine lay I (t' := t0) ?_ (Nat.le_trans (cutV_length xs lo hi) hz) q2
      have := (r.drop (HT.sIx xs.length 0 lo)).take (HT.sIx xs.length xs.length hi - HT.sIx xs.length 0 lo)
      first
        | exact this
        | simpa using this
        | (unfold cutV; simpa using this)
    · rw [lS]; exact hz
/-- tuple(range(..)) -/
def tTupRgP (te : L2.St → Hp → (Int → Int → Hp → Prop) → Prop) : TE := fun σ H Q => te σ H fun a b H1 => RgOk a b ∧ Ft H1 (rgV a b) Q
theorem pe_tupRgP {e : Expr} {te : L2.St → Hp → (Int → Int → Hp → Prop) → Prop} {p : Pos} (hc : X.calm = true) (hg : Gl X "tuple") (hm : X.mg "tuple" = none) (he : PRg X e te) (na : starEach [e] X.env = (false, eval e X.env) :: starEach [] X.env := by rfl) :
    PE X (.Call (.Name "tuple" p) [e] [] pos) (tTupRgP te) := ⟨fun pins s σ H Q I h => by
  refine Call_ (ld_blt I hg hm boot_tuple (PyProof.Rows.callWith_type1 (args_cons ?_ na) na))
  refine thn (he pins s σ H _ I h) ?_
  rintro x ⟨hp, g, d, tk0, os⟩ ⟨r, a, b, t, u, v, H1, ex, hr, I1, ok, q⟩
  refine args_nil ?_
  subst ex
  obtain ⟨b1, b2, b3, b4, b5⟩ := ok
  refine call_tuple_range (n := (b - a).toNat) (I1.ok.hd hc) hr (small_one b1 b2 b3 b4) (rangeSize_nat a b) b5 ?_
  intro h' tk acc hk hi
  have I2 : Inv X pins σ H1 ⟨h', g, d, tk, os⟩ := I1.kept hk
  exact lay I2 (vals_rg hi) (by rw [rgV_length, sizeLine_eq]; omega) q⟩
/-- tuple(reversed(a list)) -/
def tTupRevP (K : PySem.W.Frag) (te : TE) : TE := fun σ H Q => te σ H fun v H1 => ∃ a xs, v = .ref a ∧ SqL K H1 a xs ∧ Ft H1 xs.reverse Q
theorem pe_tupRevP {e : Expr} {te : TE} {p p2 pos2 : Pos} (hc : X.calm = true) (hg : Gl X "tuple") (hm : X.mg "tuple" = none) (hg2 : Gl X "reversed") (hm2 : X.mg "reversed" = none) (he : PE X e te)
    (hs : starEach [e] X.env = (false, eval e X.env) :: starEach [] X.env := by rfl)
    (hs2 : starEach [.Call (.Name "reversed" p2) [e] [] pos2] X.env = (false, eval (.Call (.Name "reversed" p2) [e] [] pos2) X.env) :: starEach [] X.env := by rfl) :
    PE X (.Call (.Name "tuple" p) [.Call (.Name "reversed" p2) [e] [] pos2] [] pos) (tTupRevP X.K te) := ⟨fun pins s σ H Q I h => by
  refine Call_ (ld_blt I hg hm boot_tuple (PyProof.Rows.callWith_type1 (args_cons ?_ hs2) hs2 rfl))
  refine Call_ (ld_blt I hg2 hm2 PyProof.Rows.boot_reversed (PyProof.Rows.callWith_type1 (args_cons ?_ hs) hs rfl))
  refine thn (he.run pins s σ H _ I h) ?_
  rintro u ⟨hp, g, d, tk0, os⟩ ⟨v, H1, I1, r1, a, xs, ev, hq, q⟩
  refine args_nil ?_
  subst ev
  obtain rfl : u = Value.ref a := r1
  obtain ⟨us, rv, pl, hz⟩ := I1.list hq
  refine call_reversed_list pl.isList (args_nil ?_)
  have k0 : ∀ b o, hp.get? b = some o → (hp.push (revObj a ((us.toArray.size : Int) - 1))).get? b = some o := fun b o e => Heap.get?_push_of_some _ e
  have I2 : Inv X pins σ H1 ⟨hp.push (revObj a ((us.toArray.size : Int) - 1)), g, d, tk0, os⟩ := I1.kept (t' := tk0) k0
  have f := I1.fpOk (H' := H1) (b := hp.objs.size) (Nat.le_refl _) (I1.hok.fresh (Nat.le_refl _))
  obtain ⟨f0, f1, f2, f3, f4, f5⟩ := f
  have hl := pl.isList
  have hne : a ≠ hp.objs.size := by
    obtain ⟨ol, hol, _⟩ := id hl
    exact Nat.ne_of_lt (Heap.lt_size hol)
  have hn : us.toArray.size ≤ sizeLine := by
    rw [List.size_toArray, ← rv.length]
    exact hz
  refine RT.call_tuple_rev (I1.ok.hd hc) ⟨_, Heap.get?_push_size _ rfl, rfl, rfl⟩ (hl.push _) hne hn ?_
  intro h' tk acc hk hi
  have I3 : Inv X pins σ H1 ⟨h', g, d, tk, os⟩ := I2.turned (t' := tk) (fun b o hb e => hk b o hb e) f0 f1 f3 f4 f5
  exact lay I3 (RT.vals_rev rv hi) (by rw [List.length_reverse]; exact hz) q⟩
end
end MPT
namespace MPU
open PySem PySem.Spec PyProof.Rows L2
def SqP (K : PySem.W.Frag) (H : Hp) (a : Addr) (vs : List V) : Prop :=
  (∃ o, H a = some (.frz o (.tup vs)) ∧ o.dict = none) ∨
  ∃ (o : Obj) (its : Array Value) (n : Nat), K.lookup a = some o ∧ o.dict = none ∧ (o.cls = .type "tuple" ∧ o.data = .seq its n) ∧ its.size ≤ sizeLine ∧ Vals vs its.toList
theorem SqP.t {K : PySem.W.Frag} {H : Hp} {a : Addr} {vs : List V} (h : SqP K H a vs) : SqT K H a vs := by
  rcases h with ⟨o, h, _⟩ | ⟨o, its, n, h1, _, ⟨h2, h3⟩, h4, h5⟩
  · exact .inl (.inr ⟨o, h⟩)
  · exact .inr ⟨o, its, n, h1, h2, h3, h4, h5⟩
def ptB (K : PySem.W.Frag) (x : Str) (vs : List He.Dv) : Bool := He.tupB K x vs && (match K.lookup (He.ga K x) with
  | some o => o.dict.isNone
  | none => false)
theorem ptB_ok {K : PySem.W.Frag} {x : Str} {vs : List He.Dv} (h : ptB K x vs = true) (H : Hp) : SqP K H (He.ga K x) (vs.map (He.Dv.v K)) := by
  obtain ⟨h1, h2⟩ := Bool.and_eq_true_iff.mp h
  rcases He.tupB_ok h1 (fun _ => none) with h3 | ⟨o, its, n, q1, q2, q3, q4, q5⟩
  · rcases h3 with h3 | ⟨_, h3⟩ <;> cases h3
  · rw [q1] at h2
    have h2 : o.dict.isNone = true := h2
    exact .inr ⟨o, its, n, q1, Option.isNone_iff_eq_none.mp h2, ⟨q2, q3⟩, q4, q5⟩
def tyPl (K : PySem.W.Frag) (x : V) (H : Hp) : Prop := ∃ a vs, x = .ref a ∧ SqP K H a vs
section
variable {X : Cx}
theorem ty_pl : TyOk X "tuple" (tyPl X.K) := by
  intro pins σ H s x v I rv h
  obtain ⟨a, vs, rfl, h⟩ := h
  obtain rfl : v = Value.ref a := rv
  obtain ⟨its, _, pl, _⟩ := I.tuple h.t
  refine ⟨pl.typeIs, ?_⟩
  intro b hb
  cases hb
  rcases h with ⟨o, h, hd⟩ | ⟨o, its, n, h1, hd, _⟩
  · have ok : ObjOk X.prog X.w H s.heap a (.frz o (.tup vs)) := I.hok a _ h
    exact ⟨o, ok.1, hd⟩
  · exact ⟨o, I.kIn _ _ h1, hd⟩
def rTix (K : PySem.W.Frag) : V → List V → Hp → VK → Prop := fun x xs H Q => ∃ (a : Addr) (ns : List Int) (k : Int), x = .ref a ∧ xs = [.int k] ∧ SqT K H a (ns.map V.int) ∧ k ∈ ns ∧ Q (.int ((ns.idxOf k : Nat) : Int)) H
theorem mt_tix : MtR X "tuple.index" (rTix X.K) := by
  intro pins s σ H x xs v us Q I rx rxs h
  obtain ⟨a, ns, k, rfl, rfl, hs, hk, q⟩ := h
  obtain rfl : v = Value.ref a := rx
  obtain ⟨u, rfl, ru⟩ := vals1 rxs
  obtain ⟨t, rfl⟩ := ru
  obtain ⟨its, r1, p1, _⟩ := I.tuple hs
  exact SeqAt.tuple_index_ints (vs := its) p1 (intsAre_of r1) hk ⟨.int ((ns.idxOf k : Nat) : Int), H, I.tok _, ⟨_, rfl⟩, q⟩
def rTct (K : PySem.W.Frag) : V → List V → Hp → VK → Prop := fun x xs H Q => ∃ (a : Addr) (ns : List Int) (k : Int), x = .ref a ∧ xs = [.int k] ∧ SqT K H a (ns.map V.int) ∧ Q (.int ((ns.count k : Nat) : Int)) H
theorem countP_ints {k : Int} : ∀ {us : List Value} {ns : List Int}, IntsAre us ns → us.countP (isInt k) = ns.count k
  | _, _, .nil => rfl
  | _, _, .cons n t h => by
    rw [List.countP_cons, List.count_cons, countP_ints h]
    congr 1
theorem mt_tct : MtR X "tuple.count" (rTct X.K) := by
  intro pins s σ H x xs v us Q I rx rxs h
  obtain ⟨a, ns, k, rfl, rfl, hs, q⟩ := h
  obtain rfl : v = Value.ref a := rx
  obtain ⟨u, rfl, ru⟩ := vals1 rxs
  obtain ⟨t, rfl⟩ := ru
  obtain ⟨its, r1, ⟨⟨cc, dd, da, sl⟩, ho, hc, n, hd⟩, _⟩ := I.tuple hs
  obtain rfl : cc = Value.type "tuple" := hc
  obtain rfl : da = Data.seq its.toArray n := hd
  have i1 : IntsAre its ns := intsAre_of r1
  refine call_meets F.slot_tuple_count ⟨_, ho, rfl⟩ F.entry_tuple_count (F.args_tuple_count_2 _ _) (SeqAt.tuple_countAt a its.toArray n dd sl (.int k t) (isInt k)) ⟨ho, ?_, ?_⟩
  · intro y hy
    exact (eq_isInt k t i1 y (by simpa using hy)).at _ _
  · have e : its.toArray.toList.countP (isInt k) = ns.count k := by
      rw [← countP_ints i1]
    rw [e]
    exact ⟨.int ((ns.count k : Nat) : Int), H, I.tok _, ⟨_, rfl⟩, q⟩
end
end MPU
namespace MP
open PySem
/-- a value as a tree -/
inductive T where
  | non | bl (b : Bool) | int (i : Int) | str (x : List Nat) | lst (ts : List T) | tup (ts : List T) | dct (kvs : List (T × T)) | fn (f : Nat) | scr (ns : List Int) | cls (k : Nat) (sup fl : List Nat) | exn (k : Nat) (sup : List Nat) (fs : List T)
  deriving Inhabited
mutual
/-- Python's == of data -/
def T.beq : T → T → Bool
  | .non, .non => true
  | .bl a, .bl b => a == b
  | .bl a, .int j => (if a then 1 else 0) == j
  | .int i, .bl b => i == (if b then 1 else 0)
  | .int i, .int j => i == j
  | .str x, .str y => x == y
  | .lst xs, .lst ys => T.beqs xs ys
  | .tup xs, .tup ys => T.beqs xs ys
  | _, _ => false
def T.beqs : List T → List T → Bool
  | [], [] => true
  | x :: xs, y :: ys => T.beq x y && T.beqs xs ys
  | _, _ => false
end
mutual
/-- data: no dict, no function -/
def T.dat : T → Bool
  | .non => true
  | .bl _ => true
  | .int _ => true
  | .str x => x.all (· < 0x110000)
  | .lst xs => T.dats xs
  | .tup xs => T.dats xs
  | _ => false
def T.dats : List T → Bool
  | [] => true
  | x :: xs => T.dat x && T.dats xs
end
mutual
def T.dep : T → Nat
  | .lst xs => T.deps xs + 1
  | .tup xs => T.deps xs + 1
  | _ => 0
def T.deps : List T → Nat
  | [] => 0
  | x :: xs => max (T.dep x) (T.deps xs)
end
def T.ok (t : T) : Bool := t.dat && decide (t.dep ≤ 64)
def T.flat : T → Bool
  | .non => true
  | .bl _ => true
  | .int _ => true
  | .str _ => true
  | _ => false
def T.isNon : T → Bool
  | .non => true
  | _ => false
/-- a name's state: not assigned; a shared value; a list of one's own; a caller's list by reference; the same, shared by now -/
inductive Sl where
  | un | sh (t : T) | ow (t : T) | io (t : T) | fz (t : T)
  deriving Inhabited
abbrev En := List Sl
/-- an exception: its class, its field -/
structure Xn where
  cls : Nat
  sup : List Nat
  fld : Option T
inductive R (α : Type) where
  | ok (a : α) (g : En) | ex (x : Xn) (g : En) | bad
def R.bind {α β : Type} : R α → (α → En → R β) → R β
  | .ok a g, f => f a g
  | .ex x g, _ => .ex x g
  | .bad, _ => .bad
inductive Op where
  | bin (o : Operator) | neg | inv | cmp (o : CmpOp) | sub | slc (lo hi : Bool) | rev
  | len | abs | min2 | max2 | minl | mnn | maxl | suml | intc | boolc | tupc | lstc | srt | alll | anyl
  | lrng (tup : Bool) | lrev (tup : Bool) | isi (c : Nat) | isi2 | idx | cnt
  | stp (lo hi : Option Int) (st : Int)
  | isn | isv
/-- what a for walks -/
inductive IK where
  | seq | range | enum | zip | rev | revr
inductive E where
  | non | bl (b : Bool) | int (i : Int) | str (x : List Nat)
  | var (i : Nat) | glb (k : Nat)
  | tup (es : List E) | lst (es : List E)
  | op (o : Op) (es : List E)
  | chn (o1 o2 : CmpOp) (a b c : E)
  | bop (isAnd : Bool) (es : List E)
  | not (a : E) | ife (c a b : E)
  | call (f : Nat) (es : List E)
  | pop (i : Nat) (es : List E)
  | comp (elt : E) (tgs : List Nat) (tp : Bool) (k : IK) (es : List E) (cs : List E) (own : List Nat)
  | any
  | ixl (i : Nat) (es : List E)
  | rdv (i : Nat)
  | dnew
  | tmt (c : Bool) (e a : E)
  | fnv (f : Nat)
  | cal (e : E) (es : List E)
  | dsp (es : List E)
  | dgt (e k d : E)
inductive S where
  | set (i : Nat) (e : E)
  | unp (is : List Nat) (e : E)
  | par (is : List Nat) (es : List E)
  | aug (i : Nat) (o : Operator) (e : E)
  | sts (i : Nat) (k e : E)
  | app (i : Nat) (e : E) | ext (i : Nat) (e : E) | ins (i : Nat) (k e : E) | rvs (i : Nat) | clr (i : Nat)
  | exp (e : E)
  | ret (e : E) | retn
  | ife (c : E) (a b : List S)
  | whl (c : E) (b : List S)
  | for (tgs : List Nat) (tp : Bool) (k : IK) (es : List E) (b : List S)
  | any
  | st2 (i : Nat) (a b e : E)
  | dst (i : Nat) (k e : E)
  | rse (k : Nat)
  | tri (b : List S) (k i j : Nat)
def okInt (i : Int) : Bool := Nat.blt i.natAbs (2 ^ 64)
/-- a // by a positive divisor below 2 ^ 30, a % by a positive one, shifts, products where one side is below 2 ^ 64 -/
def binF : Operator → T → T → Option (Bool × T)
  | .Add, .int i, .int j => some (false, .int (i + j))
  | .Add, .str x, .str y => if x.length + y.length ≤ sizeLine then some (false, .str (x ++ y)) else none
  | .Add, .lst x, .lst y => if x.length + y.length ≤ sizeLine then some (true, .lst (x ++ y)) else none
  | .Add, .tup x, .tup y => if x.length + y.length ≤ sizeLine then some (false, .tup (x ++ y)) else none
  | .Sub, .int i, .int j => some (false, .int (i - j))
  | .Mult, .int i, .int j => if okInt i || okInt j then some (false, .int (i * j)) else none
  | .Mult, .lst x, .int k => if k.natAbs < 2 ^ 63 ∧ x.length * k.toNat ≤ sizeLine then some (true, .lst (List.replicate k.toNat x).flatten) else none
  | .Mult, .tup x, .int k => if 0 < k ∧ k.natAbs ≤ 1000 ∧ x.length ≤ 1000 ∧ 0 < x.length then some (false, .tup (List.replicate k.toNat x).flatten) else none
  | .FloorDiv, .int i, .int j => if 0 < j ∧ j.natAbs < 1180591620717411303424 then some (false, .int (i / j)) else none
  | .Mod, .int i, .int j => if 0 < j then some (false, .int (i % j)) else none
  | .Pow, .int i, .int j => if 0 ≤ j ∧ j.natAbs ≤ 1000000 ∧ i.natAbs < 2 ^ 64 then some (false, .int (i ^ j.toNat)) else none
  | .LShift, .int i, .int j => if 0 ≤ j ∧ j.natAbs ≤ 1000000 ∧ i.natAbs < 2 ^ 64 then some (false, .int (i * 2 ^ j.toNat)) else none
  | .RShift, .int i, .int j => if 0 ≤ j then some (false, .int (i / 2 ^ j.toNat)) else none
  | .BitAnd, .int i, .int j => some (false, .int (Builtin.bitAnd i j))
  | .BitOr, .int i, .int j => some (false, .int (Builtin.bitOr i j))
  | .BitXor, .int i, .int j => some (false, .int (Builtin.bitXor i j))
  | _, _, _ => none
/-- o= of whole numbers -/
def augF : Operator → T → T → Option T
  | .Pow, _, _ => none
  | o, .int i, .int j => (binF o (.int i) (.int j)).map (·.2)
  | _, _, _ => none
/-- y in a row of items -/
def T.mem (x : T) : List T → Bool
  | [] => false
  | y :: ys => T.beq y x || T.mem x ys
/-- a dict's key -/
def T.keyB : T → Bool
  | .int _ => true
  | .str _ => true
  | _ => false
def T.keq : T → T → Bool
  | .int i, .int j => i == j
  | .str x, .str y => x == y
  | _, _ => false
def getK (k : T) : List (T × T) → Option T
  | [] => none
  | p :: r => if T.keq p.1 k then some p.2 else getK k r
def hasK (k : T) : List (T × T) → Bool
  | [] => false
  | p :: r => T.keq p.1 k || hasK k r
def setK (k v : T) : List (T × T) → List (T × T)
  | [] => []
  | p :: r => (if T.keq p.1 k then (p.1, v) else p) :: setK k v r
def putKT (kvs : List (T × T)) (k v : T) : List (T × T) := if hasK k kvs then setK k v kvs else kvs ++ [(k, v)]
def cmpF : CmpOp → T → T → Option Bool
  | .Eq, a, b => if a.ok && b.ok then some (T.beq a b) else none
  | .NotEq, a, b => if a.ok && b.ok then some (!T.beq a b) else none
  | .Lt, .int i, .int j => some (decide (i < j))
  | .LtE, .int i, .int j => some (decide (i ≤ j))
  | .Gt, .int i, .int j => some (decide (j < i))
  | .GtE, .int i, .int j => some (decide (j ≤ i))
  | .Is, a, .non => some a.isNon
  | .IsNot, a, .non => some (!a.isNon)
  | .Is, .bl a, .bl b => some (a == b)
  | .IsNot, .bl a, .bl b => some (!(a == b))
  | .In, x, .lst ys => if x.ok && (T.lst ys).ok then some (T.mem x ys) else none
  | .NotIn, x, .lst ys => if x.ok && (T.lst ys).ok then some (!T.mem x ys) else none
  | .In, x, .tup ys => if x.flat && ys.all T.flat then some (T.mem x ys) else none
  | .NotIn, x, .tup ys => if x.flat && ys.all T.flat then some (!T.mem x ys) else none
  | .In, x, .dct kvs => if x.keyB then some (hasK x kvs) else none
  | .NotIn, x, .dct kvs => if x.keyB then some (!hasK x kvs) else none
  | _, _, _ => none
/-- a display's pairs -/
def pairsT : List T → Option (List (T × T))
  | [] => some []
  | k :: v :: r => if k.keyB then (pairsT r).map ((k, v) :: ·) else none
  | _ => none
def dspT (kts : List (T × T)) : List (T × T) := kts.foldl (fun acc p => putKT acc p.1 p.2) []
/-- all items intsT, bools -/
def intsT : List T → Option (List Int)
  | [] => some []
  | .int i :: r => (intsT r).map (i :: ·)
  | _ => none
def blsT : List T → Option (List Bool)
  | [] => some []
  | .bl b :: r => (blsT r).map (b :: ·)
  | _ => none
/-- .count, .index of whole numbers in a tuple -/
def tmtF (c : Bool) (ts : List T) : T → Option T
  | .int k => (intsT ts).bind fun ns => if c then some (.int ((ns.count k : Nat) : Int)) else if ns.contains k then some (.int ((ns.idxOf k : Nat) : Int)) else none
  | _ => none
/-- an insertion sort of intsT -/
def insI (x : Int) : List Int → List Int
  | [] => [x]
  | y :: ys => if x ≤ y then x :: y :: ys else y :: insI x ys
def sortI : List Int → List Int
  | [] => []
  | x :: xs => insI x (sortI xs)
def minI : Int → List Int → Int
  | m, [] => m
  | m, x :: xs => minI (if x < m then x else m) xs
def maxI : Int → List Int → Int
  | m, [] => m
  | m, x :: xs => maxI (if x > m then x else m) xs
def cutL {α : Type} (xs : List α) (lo hi : Option Int) : List α := (xs.drop (HT.sIx xs.length 0 lo)).take (HT.sIx xs.length xs.length hi - HT.sIx xs.length 0 lo)
def rangeL (lo : Int) : Nat → List T
  | 0 => []
  | n + 1 => .int lo :: rangeL (lo + 1) n
def sml (i : Int) : Bool := Nat.blt i.natAbs (2 ^ 62)
/-- the least place of an item -/
def T.ix (x : T) : List T → Nat → Option Nat
  | [], _ => none
  | y :: ys, k => if T.beq y x then some k else T.ix x ys (k + 1)
def T.cnt (x : T) : List T → Nat
  | [] => 0
  | y :: ys => (if T.beq y x then 1 else 0) + T.cnt x ys
/-- isinstance of a built-in class: 0 int, 1 bool, 2 str, 3 tuple, 4 list, 5 dict -/
def isiF (c : Nat) : T → Option Bool
  | .non => some false
  | .bl _ => some (c == 0 || c == 1)
  | .int _ => some (c == 0)
  | .str _ => some (c == 2)
  | .tup _ => some (c == 3)
  | .lst _ => some (c == 4)
  | .dct _ => some (c == 5)
  | _ => none
def slcF (xs : List T) : Bool → Bool → List T → Option (List T)
  | false, false, [] => some (cutL xs none none)
  | true, false, [.int i] => some (cutL xs (some i) none)
  | false, true, [.int j] => some (cutL xs none (some j))
  | true, true, [.int i, .int j] => some (cutL xs (some i) (some j))
  | _, _, _ => none
def itemF : T → T → Option T
  | .lst xs, .int i => L2.atI xs i
  | .tup xs, .int i => L2.atI xs i
  | .dct kvs, k => if k.keyB then getK k kvs else none
  | _, _ => none
def binTs (o : Operator) : List T → Option (Bool × T)
  | [a, b] => binF o a b
  | _ => none
def negF : List T → Option (Bool × T)
  | [.int i] => some (false, .int (-i))
  | _ => none
def invF : List T → Option (Bool × T)
  | [.int i] => some (false, .int (Builtin.bitNot i))
  | _ => none
def cmpTs (o : CmpOp) : List T → Option (Bool × T)
  | [a, b] => (cmpF o a b).map fun c => (false, .bl c)
  | _ => none
def subF : List T → Option (Bool × T)
  | [a, b] => (itemF a b).map fun t => (false, t)
  | _ => none
def slcT (l h : Bool) : List T → Option (Bool × T)
  | .lst xs :: ps => (slcF xs l h ps).map fun ys => (true, .lst ys)
  | .scr ns :: ps => (slcF (ns.map T.int) l h ps).map fun ys => (true, .lst ys)
  | .tup xs :: ps => (slcF xs l h ps).map fun ys => (false, .tup ys)
  | _ => none
def revF : List T → Option (Bool × T)
  | [.lst xs] => some (true, .lst xs.reverse)
  | _ => none
def lenF : List T → Option (Bool × T)
  | [.lst xs] => some (false, .int xs.length)
  | [.tup xs] => some (false, .int xs.length)
  | [.scr xs] => some (false, .int xs.length)
  | [.str xs] => if xs.length ≤ sizeLine then some (false, .int xs.length) else none
  | _ => none
def absF : List T → Option (Bool × T)
  | [.int i] => some (false, .int (if i < 0 then -i else i))
  | _ => none
def min2F : List T → Option (Bool × T)
  | [.int i, .int j] => some (false, .int (if j < i then j else i))
  | _ => none
def max2F : List T → Option (Bool × T)
  | [.int i, .int j] => some (false, .int (if j > i then j else i))
  | _ => none
def intL : List T → Option (List Int)
  | [.lst xs] => intsT xs
  | _ => none
def blL : List T → Option (List Bool)
  | [.lst xs] => blsT xs
  | _ => none
def mnnF (ts : List T) : Option (Bool × T) := match intL ts with
  | some [] => some (false, .non)
  | some (n :: ns) => some (false, .int (minI n ns))
  | none => none
def minlF (ts : List T) : Option (Bool × T) := match intL ts with
  | some (n :: ns) => some (false, .int (minI n ns))
  | _ => none
def maxlF (ts : List T) : Option (Bool × T) := match intL ts with
  | some (n :: ns) => some (false, .int (maxI n ns))
  | _ => none
def sumlF (ts : List T) : Option (Bool × T) := (intL ts).map fun ns => (false, .int ns.sum)
def intcF : List T → Option (Bool × T)
  | [.int i] => some (false, .int i)
  | [.bl b] => some (false, .int (if b then 1 else 0))
  | _ => none
def boolcF : List T → Option (Bool × T)
  | [.int i] => some (false, .bl (i != 0))
  | [.bl b] => some (false, .bl b)
  | _ => none
def tupcF : List T → Option (Bool × T)
  | [.lst xs] => some (false, .tup xs)
  | [.tup xs] => some (false, .tup xs)
  | _ => none
def lstcF : List T → Option (Bool × T)
  | [.lst xs] => some (true, .lst xs)
  | [.tup xs] => some (true, .lst xs)
  | _ => none
def intLT : List T → Option (List Int)
  | [.lst xs] => intsT xs
  | [.tup xs] => intsT xs
  | _ => none
def stpF (lo hi : Option Int) (st : Int) : List T → Option (Bool × T)
  | [.lst xs] => some (true, .lst (MPW.pick xs lo hi (some st)))
  | _ => none
def srtF (ts : List T) : Option (Bool × T) := (intLT ts).map fun ns => (true, .lst ((sortI ns).map T.int))
def alllF (ts : List T) : Option (Bool × T) := (blL ts).map fun bs => (false, .bl (bs.all id))
def anylF (ts : List T) : Option (Bool × T) := (blL ts).map fun bs => (false, .bl (bs.any id))
def mkSeq (tp : Bool) (ts : List T) : T := if tp then .tup ts else .lst ts
def lrngF (tp : Bool) : List T → Option (Bool × T)
  | [.int j] => if sml j && decide (j.toNat ≤ sizeLine) then some (!tp, mkSeq tp (rangeL 0 j.toNat)) else none
  | [.int i, .int j] => if sml i && sml j && decide ((j - i).toNat ≤ sizeLine) then some (!tp, mkSeq tp (rangeL i (j - i).toNat)) else none
  | _ => none
def lrevF (tp : Bool) : List T → Option (Bool × T)
  | [.lst xs] => some (!tp, mkSeq tp xs.reverse)
  | _ => none
def isi1F (c : Nat) : List T → Option (Bool × T)
  | [t] => (isiF c t).map fun b => (false, .bl b)
  | _ => none
def isi2F : List T → Option (Bool × T)
  | [t] => (isiF 4 t).bind fun a => (isiF 3 t).map fun b => (false, .bl (a || b))
  | _ => none
def idxF : List T → Option (Bool × T)
  | [.lst xs, x] => if x.flat && xs.all T.flat then (T.ix x xs 0).map fun k => (false, .int k) else none
  | _ => none
/-- isinstance of an exception, or None: of own classes, of ValueError -/
def clsKs : List T → Option (List Nat)
  | [] => some []
  | .cls k _ _ :: r => (clsKs r).map (k :: ·)
  | _ => none
def isnX (ks : List Nat) : T → Option (Bool × T)
  | .exn c sup _ => some (false, .bl (ks.any fun k => c == k || sup.contains k))
  | .non => some (false, .bl false)
  | _ => none
def isnF : List T → Option (Bool × T)
  | [x, .cls k _ _] => isnX [k] x
  | [x, .tup ts] => (clsKs ts).bind fun ks => isnX ks x
  | _ => none
def isvF : List T → Option (Bool × T)
  | [.exn _ _ _] => some (false, .bl true)
  | [.non] => some (false, .bl false)
  | _ => none
def cntF : List T → Option (Bool × T)
  | _ => none
def opF : Op → List T → Option (Bool × T)
  | .bin o, ts => binTs o ts
  | .neg, ts => negF ts
  | .inv, ts => invF ts
  | .cmp o, ts => cmpTs o ts
  | .sub, ts => subF ts
  | .slc l h, ts => slcT l h ts
  | .rev, ts => revF ts
  | .len, ts => lenF ts
  | .abs, ts => absF ts
  | .min2, ts => min2F ts
  | .max2, ts => max2F ts
  | .minl, ts => minlF ts
  | .mnn, ts => mnnF ts
  | .maxl, ts => maxlF ts
  | .suml, ts => sumlF ts
  | .intc, ts => intcF ts
  | .boolc, ts => boolcF ts
  | .tupc, ts => tupcF ts
  | .lstc, ts => lstcF ts
  | .srt, ts => srtF ts
  | .alll, ts => alllF ts
  | .anyl, ts => anylF ts
  | .lrng tp, ts => lrngF tp ts
  | .lrev tp, ts => lrevF tp ts
  | .isi c, ts => isi1F c ts
  | .isi2, ts => isi2F ts
  | .idx, ts => idxF ts
  | .cnt, ts => cntF ts
  | .stp lo hi st, ts => stpF lo hi st ts
  | .isn, ts => isnF ts
  | .isv, ts => isvF ts
def getS (g : En) (i : Nat) : Option T := match g[i]? with
  | some (.sh t) => some t
  | some (.ow t) => some t
  | some (.io t) => some t
  | some (.fz t) => some t
  | _ => none
/-- a name is stored: not one that is a caller's list -/
def setS (g : En) (i : Nat) (s : Sl) : Option En := match g[i]? with
  | some .un => some (g.set i s)
  | some (.sh _) => some (g.set i s)
  | some (.ow _) => some (g.set i s)
  | _ => none
/-- a list of one's own (or a caller's) is changed -/
def putS (g : En) (i : Nat) (t : T) : Option En := match g[i]? with
  | some (.ow _) => some (g.set i (.ow t))
  | some (.io _) => some (g.set i (.io t))
  | _ => none
def ownS (g : En) (i : Nat) : Option T := match g[i]? with
  | some (.ow t) => some t
  | some (.io t) => some t
  | _ => none
/-- a list that may be changed stands there -/
def lstB (g : En) (i : Nat) : Bool := match ownS g i with
  | some (.lst _) => true
  | _ => false
/-- an operand: a value, or a name whose list is read when the operation is done -/
inductive Od where
  | t (t : T) | s (i : Nat)
def ownVar : E → En → Option Nat
  | .var i, g => match ownS g i with
    | some _ => some i
    | none => none
  | _, _ => none
def odT (g : En) : Od → Option T
  | .t t => some t
  | .s i => getS g i
def odTs (g : En) : List Od → Option (List T)
  | [] => some []
  | o :: os => (odT g o).bind fun t => (odTs g os).map (t :: ·)
/-- what an operand is to a callee -/
def odA (g : En) : Od → Option Sl
  | .t t => some (.sh t)
  | .s i => match g[i]? with
    | some (.sh t) => some (.sh t)
    | some (.fz t) => some (.sh t)
    | some (.ow t) => some (.io t)
    | some (.io t) => some (.io t)
    | _ => none
def odAs (g : En) : List Od → Option (List Sl)
  | [] => some []
  | o :: os => (odA g o).bind fun t => (odAs g os).map (t :: ·)
/-- the slots handed by reference -/
def refs : List Od → List Sl → List Nat
  | .s i :: os, .io _ :: as => i :: refs os as
  | _ :: os, _ :: as => refs os as
  | _, _ => []
/-- behind a call: the handed lists as the callee left them -/
def back1 (g : En) (i : Nat) : Sl → Option En
  | .io t => putS g i t
  | .fz t => match g[i]? with
    | some (.ow _) => some (g.set i (.sh t))
    | some (.io _) => some (g.set i (.fz t))
    | _ => none
  | _ => none
def backs : List Od → List Sl → List Sl → En → Option En
  | [], [], _, g => some g
  | .s i :: os, .io _ :: as, o :: outs, g => (back1 g i o).bind fun g' => backs os as outs g'
  | _ :: os, _ :: as, _ :: outs, g => backs os as outs g
  | _, _, _, _ => none
def nodupB : List Nat → Bool
  | [] => true
  | x :: xs => !xs.contains x && nodupB xs
/-- what stands around: the calls (outs: the parameters' slots behind the call), the module's constants, the turns of a while -/
structure Cn where
  call : Nat → List Sl → R (Bool × T)
  glb : Nat → Option T
  wf : Nat
def doCall (C : Cn) (f : Nat) (os : List Od) (g : En) : R (Bool × T) :=
  match odAs g os with
  | none => .bad
  | some as =>
    if nodupB (refs os as) then
      match C.call f as with
      | .ok r outs => (match backs os as outs g with
        | some g' => .ok r g'
        | none => .bad)
      | .ex x outs => (match backs os as outs g with
        | some g' => .ex x g'
        | none => .bad)
      | .bad => .bad
    else .bad
/-- an item of what is walked, at a turn (n: how many at the start; tp: whether it is a tuple): none: not to be told; some none: the end -/
def seqAt (tp : Bool) (k : Nat) : List T → Option (Option T)
  | [.lst xs] => if tp then none else some xs[k]?
  | [.tup xs] => if tp then some xs[k]? else none
  | _ => none
def rangeAt (k : Nat) : List T → Option (Option T)
  | [.int j] => if (k : Int) < j then some (some (.int k)) else some none
  | [.int i, .int j] => if i + (k : Int) < j then some (some (.int (i + k))) else some none
  | [.int i, .int j, .int c] => if c = -1 then (if j < i - (k : Int) then some (some (.int (i - k))) else some none) else none
  | _ => none
def enumAt (tp : Bool) (k : Nat) : List T → Option (Option T)
  | [.lst xs] => if tp then none else some (xs[k]?.map fun x => .tup [.int k, x])
  | [.tup xs] => if tp then some (xs[k]?.map fun x => .tup [.int k, x]) else none
  | _ => none
def zipAt (tp : Bool) (k : Nat) : List T → Option (Option T)
  | [.lst xs, .lst ys] => if tp then none else some (xs[k]?.bind fun x => ys[k]?.map fun y => .tup [x, y])
  | [.tup xs, .tup ys] => if tp then some (xs[k]?.bind fun x => ys[k]?.map fun y => .tup [x, y]) else none
  | _ => none
def revAt (tp : Bool) (n k : Nat) : List T → Option (Option T)
  | [.lst xs] => if tp then none else if k < n then (if xs.length = n then some xs[n - 1 - k]? else none) else some none
  | [.tup xs] => if tp then (if k < n then (if xs.length = n then some xs[n - 1 - k]? else none) else some none) else none
  | _ => none
def revrAt (k : Nat) : List T → Option (Option T)
  | [.int j] => if (k : Int) < j then some (some (.int (j - 1 - k))) else some none
  | _ => none
def itT : IK → Nat × Bool → List T → Nat → Option (Option T)
  | .seq, n, ts, k => seqAt n.2 k ts
  | .range, _, ts, k => rangeAt k ts
  | .enum, n, ts, k => enumAt n.2 k ts
  | .zip, n, ts, k => zipAt n.2 k ts
  | .rev, n, ts, k => revAt n.2 n.1 k ts
  | .revr, _, ts, k => revrAt k ts
def seqN : List T → Option (Nat × Bool)
  | [.lst xs] => some (xs.length, false)
  | [.tup xs] => some (xs.length, true)
  | _ => none
def zipN : List T → Option (Nat × Bool)
  | [.lst xs, .lst ys] => some (min xs.length ys.length, false)
  | [.tup xs, .tup ys] => some (min xs.length ys.length, true)
  | _ => none
def rangeN : List T → Option (Nat × Bool)
  | [.int j] => if sml j && decide (j.toNat ≤ sizeLine) then some (j.toNat, false) else none
  | [.int i, .int j] => if sml i && sml j && decide ((j - i).toNat ≤ sizeLine) then some ((j - i).toNat, false) else none
  | [.int i, .int j, .int c] => if decide (c = -1) && sml i && sml j && decide ((i - j).toNat ≤ sizeLine) then some ((i - j).toNat, false) else none
  | _ => none
def revrN : List T → Option (Nat × Bool)
  | [.int j] => if sml j && decide (j.toNat ≤ sizeLine) then some (j.toNat, false) else none
  | _ => none
/-- how many turns at the start, where it can be walked -/
def itN : IK → List T → Option (Nat × Bool)
  | .seq, ts => seqN ts
  | .range, ts => rangeN ts
  | .enum, ts => seqN ts
  | .zip, ts => zipN ts
  | .rev, ts => seqN ts
  | .revr, ts => revrN ts
def asgs : List Nat → List T → En → Option En
  | [], [], g => some g
  | i :: is, t :: ts, g => (setS g i (.sh t)).bind fun g' => asgs is ts g'
  | _, _, _ => none
/-- a target gets a value -/
def tgtF (tgs : List Nat) (tp : Bool) (x : T) (g : En) : Option En :=
  match tp, tgs, x with
  | false, [i], x => setS g i (.sh x)
  | true, is, .tup xs => asgs is xs g
  | true, is, .lst xs => asgs is xs g
  | _, _, _ => none
def wipeS (g : En) : List Nat → En
  | [] => g
  | v :: vs => (wipeS g vs).set v .un
/-- no name of the block is a list of the def's own -/
def plainS (g : En) : List Nat → Bool
  | [] => true
  | v :: vs => (match g[v]? with
    | some .un => true
    | some (.sh _) => true
    | _ => false) && plainS g vs
def giveS (g g0 : En) : List Nat → En
  | [] => g
  | v :: vs => (giveS g g0 vs).set v (g0.getD v .un)
/-- the turns of a comprehension: m more at the most, at turn k -/
def compL (elt : En → R (Bool × T)) (test : En → R Bool) (tgs : List Nat) (tp : Bool) (ik : IK) (n : Nat × Bool) (os : List Od) (own : List Nat) : Nat → Nat → List T → En → R (List T)
  | m, k, acc, g =>
    match (odTs g os).bind fun ts => itT ik n ts k with
    | none => .bad
    | some none => .ok acc g
    | some (some x) => match m with
      | 0 => .bad
      | m' + 1 => match tgtF tgs tp x g with
        | none => .bad
        | some g1 => match test g1 with
          | .ok true g2 => (match elt g2 with
            | .ok r g3 => compL elt test tgs tp ik n os own m' (k + 1) (acc ++ [r.2]) (wipeS g3 own)
            | _ => .bad)
          | .ok false g2 => compL elt test tgs tp ik n os own m' (k + 1) acc (wipeS g2 own)
          | _ => .bad
/-- .pop(), .pop(k) of a list of one's own -/
def popF (i : Nat) (ts : List T) (g' : En) : R (Bool × T) := match ownS g' i, ts with
  | some (.lst xs), [] => (match xs[xs.length - 1]? with
    | some x => (match putS g' i (.lst xs.dropLast) with
      | some g2 => .ok (false, x) g2
      | none => .bad)
    | none => .bad)
  | some (.lst xs), [.int k] => (match if k.natAbs < 2 ^ 63 then seqIndex? k xs.length else none with
    | some j => (match xs[j]? with
      | some x => (match putS g' i (.lst (xs.eraseIdx j)) with
        | some g2 => .ok (false, x) g2
        | none => .bad)
      | none => .bad)
    | none => .bad)
  | _, _ => .bad
/-- .index(y) of a list of one's own -/
def ixlF (i : Nat) (ts : List T) (g' : En) : R (Bool × T) := match ownS g' i, ts with
  | some (.lst xs), [y] => if y.flat && xs.all T.flat then (match T.ix y xs 0 with
    | some k => .ok (false, .int k) g'
    | none => .bad) else .bad
  | _, _ => .bad
def blOf : R (Bool × T) → R Bool
  | .ok (_, .bl b) g => .ok b g
  | .ex x g => .ex x g
  | _ => .bad
mutual
/-- an expression: whether what is told is a new list, and its tree -/
def ev (C : Cn) : E → En → R (Bool × T)
  | .non, g => .ok (false, .non) g
  | .bl b, g => .ok (false, .bl b) g
  | .int i, g => .ok (false, .int i) g
  | .str x, g => .ok (false, .str x) g
  | .var i, g => match g[i]? with
    | some (.sh t) => .ok (false, t) g
    | some (.fz t) => .ok (false, t) g
    | some (.ow t) => .ok (false, t) (g.set i (.sh t))
    | some (.io t) => .ok (false, t) (g.set i (.fz t))
    | _ => .bad
  | .glb k, g => match C.glb k with
    | some t => .ok (false, t) g
    | none => .bad
  | .tup es, g => (evFs C es g).bind fun ts g' => if ts.length ≤ sizeLine then .ok (false, .tup ts) g' else .bad
  | .lst es, g => (evFs C es g).bind fun ts g' => if ts.length ≤ sizeLine then .ok (true, .lst ts) g' else .bad
  | .op o es, g => (evOs C es g).bind fun os g' => match (odTs g' os).bind (opF o) with
    | some r => .ok r g'
    | none => .bad
  | .chn o1 o2 a b c, g => (ev C a g).bind fun x g1 => (ev C b g1).bind fun y g2 => match cmpF o1 x.2 y.2 with
    | none => .bad
    | some false => .ok (false, .bl false) g2
    | some true => (ev C c g2).bind fun z g3 => match cmpF o2 y.2 z.2 with
      | none => .bad
      | some b => .ok (false, .bl b) g3
  | .bop a es, g => evBs C a es g
  | .not a, g => (ev C a g).bind fun x g1 => match x.2 with
    | .bl b => .ok (false, .bl (!b)) g1
    | _ => .bad
  | .ife c a b, g => (ev C c g).bind fun x g1 => match x.2 with
    | .bl true => ev C a g1
    | .bl false => ev C b g1
    | _ => .bad
  | .call f es, g => (evOs C es g).bind fun os g' => doCall C f os g'
  | .pop i es, g => if lstB g i then (evFs C es g).bind fun ts g' => popF i ts g' else .bad
  | .comp elt tgs tp k es cs own, g => (evOs C es g).bind fun os g1 =>
    match (odTs g1 os).bind (itN k) with
    | none => .bad
    | some n => if plainS g1 own then
        (match compL (fun g => ev C elt g) (fun g => evTs C cs g) tgs tp k n os own n.1 0 [] (wipeS g1 own) with
        | .ok ts g2 => .ok (true, .lst ts) (giveS g2 g1 own)
        | _ => .bad)
      else .bad
  | .any, _ => .bad
  | .ixl i es, g => if lstB g i then (evFs C es g).bind fun ts g' => ixlF i ts g' else .bad
  | .rdv i, g => match g[i]? with
    | some (.sh t) => .ok (false, t) g
    | some (.fz t) => .ok (false, t) g
    | some (.ow t) => .ok (false, t) (g.set i (.sh t))
    | some (.io t) => .ok (false, t) (g.set i (.fz t))
    | _ => .bad
  | .dnew, g => .ok (true, .dct []) g
  | .tmt c e a, g => (ev C e g).bind fun x g1 => match x.2 with
    | .tup ts => (ev C a g1).bind fun y g2 => (match tmtF c ts y.2 with
      | some t => .ok (false, t) g2
      | none => .bad)
    | _ => .bad
  | .fnv f, g => .ok (false, .fn f) g
  | .cal e es, g => (ev C e g).bind fun x g1 => match x.2 with
    | .fn f => (evOs C es g1).bind fun os g2 => doCall C f os g2
    | _ => .bad
  | .dsp es, g => (evFs C es g).bind fun ts g1 => match pairsT ts with
    | some kts => if kts.length ≤ 15 then .ok (true, .dct (dspT kts)) g1 else .bad
    | none => .bad
  | .dgt e k d, g => (ev C e g).bind fun x g1 => match x.2 with
    | .dct kvs => (ev C k g1).bind fun y g2 => (ev C d g2).bind fun z g3 => if y.2.keyB then .ok (false, (getK y.2 kvs).getD z.2) g3 else .bad
    | _ => .bad
/-- several, shared -/
def evFs (C : Cn) : List E → En → R (List T)
  | [], g => .ok [] g
  | e :: es, g => (ev C e g).bind fun x g1 => (evFs C es g1).bind fun xs g2 => .ok (x.2 :: xs) g2
/-- operands -/
def evOs (C : Cn) : List E → En → R (List Od)
  | [], g => .ok [] g
  | e :: es, g => match ownVar e g with
    | some i => (evOs C es g).bind fun os g2 => .ok (.s i :: os) g2
    | none => (ev C e g).bind fun x g1 => (evOs C es g1).bind fun os g2 => .ok (.t x.2 :: os) g2
/-- and, or: true is and -/
def evBs (C : Cn) (a : Bool) : List E → En → R (Bool × T)
  | [], _ => .bad
  | [e], g => ev C e g
  | e :: e' :: es, g => (ev C e g).bind fun x g1 => match x.2 with
    | .bl b => if b = a then evBs C a (e' :: es) g1 else .ok (false, .bl b) g1
    | _ => .bad
/-- the tests of a comprehension: none or one -/
def evTs (C : Cn) : List E → En → R Bool
  | [], g => .ok true g
  | [e], g => blOf (ev C e g)
  | _, _ => .bad
end
inductive Fl where
  | nx | rt (fr : Bool) (t : T)
def whileL (c : En → R Bool) (b : En → R Fl) : Nat → En → R Fl
  | 0, _ => .bad
  | m + 1, g => (c g).bind fun d g1 => if d then (b g1).bind fun f g2 => (match f with
      | .nx => whileL c b m g2
      | .rt fr t => .ok (.rt fr t) g2)
    else .ok .nx g1
def forL (b : En → R Fl) (tgs : List Nat) (tp : Bool) (ik : IK) (n : Nat × Bool) (os : List Od) : Nat → Nat → En → R Fl
  | m, k, g =>
    match (odTs g os).bind fun ts => itT ik n ts k with
    | none => .bad
    | some none => .ok .nx g
    | some (some x) => match m with
      | 0 => .bad
      | m' + 1 => match tgtF tgs tp x g with
        | none => .bad
        | some g1 => (b g1).bind fun f g2 => match f with
          | .nx => forL b tgs tp ik n os m' (k + 1) g2
          | .rt fr t => .ok (.rt fr t) g2
/-- return of a name whose list is the def's own: a new list -/
def retE (C : Cn) : E → En → R (Bool × T)
  | .var i, g => match g[i]? with
    | some (.ow t) => .ok (true, t) (g.set i .un)
    | _ => ev C (.var i) g
  | e, g => ev C e g
mutual
/-- the names that a statement stores -/
def setsS : S → List Nat
  | .set i _ => [i]
  | .unp is _ => is
  | .par is _ => is
  | .aug i _ _ => [i]
  | .ife _ a b => setsL a ++ setsL b
  | .whl _ b => setsL b
  | .for tgs _ _ _ b => tgs ++ setsL b
  | .tri b _ i j => setsL b ++ [i, j]
  | _ => []
def setsL : List S → List Nat
  | [] => []
  | s :: ss => setsS s ++ setsL ss
end
/-- the walked lists' names are not stored in the loop -/
def okFor (tgs : List Nat) (b : List S) : List Od → Bool
  | [] => true
  | .t _ :: os => okFor tgs b os
  | .s i :: os => !(tgs ++ setsL b).contains i && okFor tgs b os
def doneS : Option En → R Fl
  | some g => .ok .nx g
  | none => .bad
def insS (i : Nat) (ts : List T) (g : En) : R Fl := match ownS g i, ts with
  | some (.lst xs), [.int n, v] => if 0 ≤ n ∧ n.natAbs < 2 ^ 63 ∧ xs.length < sizeLine then doneS (putS g i (.lst (xs.take n.toNat ++ [v] ++ xs.drop n.toNat))) else .bad
  | _, _ => .bad
/-- a list's item is stored -/
def stL (g : En) (i : Nat) (j v : T) : Option En := match ownS g i, j with
  | some (.lst xs), .int n => (L2.ixN xs.length n).bind fun m => putS g i (.lst (xs.set m v))
  | _, _ => none
/-- a dict's item is stored -/
def stD (g : En) (i : Nat) (k v : T) : Option En := match ownS g i with
  | some (.dct kvs) => if k.keyB && decide (kvs.length < sizeLine) then putS g i (.dct (putKT kvs k v)) else none
  | _ => none
def two2 : T → Option (T × T)
  | .tup [v, w] => some (v, w)
  | _ => none
mutual
def evS (C : Cn) : S → En → R Fl
  | .set i e, g => (ev C e g).bind fun x g1 => doneS (setS g1 i (if x.1 then .ow x.2 else .sh x.2))
  | .unp is e, g => (ev C e g).bind fun x g1 => doneS (tgtF is true x.2 g1)
  | .par is es, g => (evFs C es g).bind fun ts g1 => doneS (if nodupB is then asgs is ts g1 else none)
  | .aug i o e, g => match g[i]? with
    | some (.sh x) => (ev C e g).bind fun y g1 => (match augF o x y.2 with
      | some z => doneS (setS g1 i (.sh z))
      | none => .bad)
    | _ => .bad
  | .sts i k e, g => (ev C e g).bind fun v g1 => if lstB g1 i then (ev C k g1).bind fun j g2 => (match ownS g2 i, j.2 with
    | some (.lst xs), .int n => (match L2.ixN xs.length n with
      | some m => doneS (putS g2 i (.lst (xs.set m v.2)))
      | none => .bad)
    | _, _ => .bad) else .bad
  | .app i e, g => if lstB g i then (ev C e g).bind fun v g1 => (match ownS g1 i with
    | some (.lst xs) => if xs.length < sizeLine then doneS (putS g1 i (.lst (xs ++ [v.2]))) else .bad
    | _ => .bad) else .bad
  | .ext i e, g => if lstB g i then (ev C e g).bind fun v g1 => (match ownS g1 i, v.2 with
    | some (.lst xs), .lst ys => if xs.length + ys.length ≤ sizeLine then doneS (putS g1 i (.lst (xs ++ ys))) else .bad
    | _, _ => .bad) else .bad
  | .ins i k e, g => if lstB g i then (evFs C [k, e] g).bind fun ts g1 => insS i ts g1 else .bad
  | .rvs i, g => match ownS g i with
    | some (.lst xs) => doneS (putS g i (.lst xs.reverse))
    | _ => .bad
  | .clr i, g => match ownS g i with
    | some (.lst _) => doneS (putS g i (.lst []))
    | _ => .bad
  | .exp e, g => (ev C e g).bind fun _ g1 => .ok .nx g1
  | .ret e, g => (retE C e g).bind fun x g1 => .ok (.rt x.1 x.2) g1
  | .retn, g => .ok (.rt false .non) g
  | .ife c a b, g => (blOf (ev C c g)).bind fun d g1 => if d then evSs C a g1 else evSs C b g1
  | .whl c b, g => whileL (fun g => blOf (ev C c g)) (fun g => evSs C b g) C.wf g
  | .for tgs tp k es b, g => (evOs C es g).bind fun os g1 => match (odTs g1 os).bind (itN k) with
    | none => .bad
    | some n => if okFor tgs b os then forL (fun g => evSs C b g) tgs tp k n os n.1 0 g1 else .bad
  | .any, _ => .bad
  | .st2 i a b e, g => (ev C e g).bind fun r g1 => match two2 r.2 with
    | none => .bad
    | some p => if lstB g1 i then (ev C a g1).bind fun j g2 => (match stL g2 i j.2 p.1 with
      | none => .bad
      | some g3 => if lstB g3 i then (ev C b g3).bind fun k g4 => doneS (stL g4 i k.2 p.2) else .bad) else .bad
  | .dst i k e, g => (ev C e g).bind fun v g1 => match ownS g1 i with
    | some (.dct _) => (ev C k g1).bind fun j g2 => doneS (stD g2 i j.2 v.2)
    | _ => .bad
  | .rse k, g => match C.glb k with
    | some (.cls c sup []) => .ex ⟨c, sup, none⟩ g
    | _ => .bad
  | .tri b k i j, g => match C.glb k with
    | some (.cls c _ _) => (match evSs C b g with
      | .ok f g1 => .ok f g1
      | .ex x g1 => if x.cls == c || x.sup.contains c then (if i = j then .bad else doneS (setS (g1.set i .un) j (.sh (.exn x.cls x.sup x.fld.toList)))) else .ex x g1
      | .bad => .bad)
    | _ => .bad
def evSs (C : Cn) : List S → En → R Fl
  | [], g => .ok .nx g
  | s :: ss, g => (evS C s g).bind fun f g1 => match f with
    | .nx => evSs C ss g1
    | .rt fr t => .ok (.rt fr t) g1
end
structure FD where
  name : Str
  ps : List Str
  N : List Str
  body : List S
def outS : List Sl → En → List Sl
  | .io _ :: as, .io t :: g => .io t :: outS as g
  | .io _ :: as, .fz t :: g => .fz t :: outS as g
  | _ :: as, _ :: g => .un :: outS as g
  | _ :: as, [] => .un :: outS as []
  | [], _ => []
def callF (P : List FD) (glb : Nat → Option T) (wf : Nat) : Nat → Nat → List Sl → R (Bool × T)
  | 0, _, _ => .bad
  | d + 1, f, as => match P[f]? with
    | none => .bad
    | some fd =>
      if as.length = fd.ps.length then
        (match evSs ⟨callF P glb wf d, glb, wf⟩ fd.body (as ++ List.replicate (fd.N.length - as.length) .un) with
        | .ok .nx g => .ok (false, .non) (outS as g)
        | .ok (.rt fr t) g => .ok (fr, t) (outS as g)
        | .ex x g => .ex x (outS as g)
        | .bad => .bad)
      else .bad
/-- the module's constants -/
def glbOf (cs : List (Str × T)) (k : Nat) : Option T := (cs[k]?).map (·.2)
end MP
namespace MPS
open PySem PySem.Spec PyProof.Rows L2 MP
section
variable {X : Cx}
def rIxDc : R2 := fun x y H Q => ∃ a v, x = .ref a ∧ DGet H a y (some v) ∧ Q v H
theorem ix_dict (hu : X.A.units + 1 < cLine) : IxR X rIxDc := by
  intro value slice pins s σ H x y v u Q I rx ry h hs
  obtain ⟨a, w, rfl, g, q⟩ := h
  obtain rfl : v = Value.ref a := rx
  have hT := dict_typeIs I g
  unfold subscriptTail
  refine wpAny_bind ?_
  rw [getitemInPython_of_ne hT.not_modules]
  refine wpAny_bind (wpAny_specialOf hT PySem.F.slot_dict_getitem.lookup ?_)
  have fin : wpAny (model X.prog X.w) X.A (subscripted slice false (.ref a) u) (fun r s₃ => wpAny (model X.prog X.w) X.A (letTemporaryGo value (.ref a) r >>= fun _ => pure r) (EP X pins σ Q) X.xe s₃) X.xe s := by
    rw [hs]
    exact wpAny_operating (d_getItem hu I g ry fun w' s' I' rw' => wpAny_bind (wpAny_letTemporaryGo (wpAny_pure ⟨w, H, I', rw', q⟩)))
  first
    | exact wpAny_pure (wpAny_bind fin)
    | exact wpAny_bind (wpAny_pure (wpAny_bind fin))
    | exact wpAny_bind fin
def rInDc : R2 := fun x y H Q => ∃ a o, y = .ref a ∧ DGet H a x o ∧ Q (.bl o.isSome) H
def rNotInDc : R2 := fun x y H Q => ∃ a o, y = .ref a ∧ DGet H a x o ∧ Q (.bl (!o.isSome)) H
theorem op_inDc (hu : X.A.units + 1 < cLine) : OpR X (compareOp .In) rInDc := by
  intro pins s σ H x y v u Q I rx ry h
  obtain ⟨a, o, rfl, g, q⟩ := h
  obtain rfl : u = Value.ref a := ry
  exact d_in hu I g rx fun s' I' => ⟨.bl o.isSome, H, I', rfl, q⟩
theorem op_notInDc (hu : X.A.units + 1 < cLine) : OpR X (compareOp .NotIn) rNotInDc := by
  intro pins s σ H x y v u Q I rx ry h
  obtain ⟨a, o, rfl, g, q⟩ := h
  obtain rfl : u = Value.ref a := ry
  exact d_notIn hu I g rx fun s' I' => ⟨.bl (!o.isSome), H, I', rfl, q⟩
def rSetDc : V → V → V → Hp → (Hp → Prop) → Prop := fun o i v H Q => ∃ a H', o = .ref a ∧ DPut H a i v H' ∧ Q H'
theorem set_dictc (hu : X.A.units + 1 < cLine) : PSet X rSetDc := by
  intro pins s σ H o i v ov iv u Q I ro ri rv h
  obtain ⟨a, H', rfl, g, q⟩ := h
  obtain rfl : ov = Value.ref a := ro
  exact d_setItem hu I g ri rv fun s' I' => ⟨H', I', q⟩
end
end MPS
namespace MPE
open PySem PySem.Spec PyProof.Rows L2
/-- a noted exception: the object as it stood at the suite's end -/
def note (oe : Obj) (a : Addr) : HO := .frz oe (.own a)
section
variable {X : Cx} {pins : List (Addr × Obj)} {σ : L2.St} {H : Hp} {s : Shared} {a : Addr} {oe : Obj}
theorem noted (I : Inv X ((a, oe) :: pins) σ H s) (old : X.s_0.heap.get? a = none) (np : ∀ p ∈ X.pn ++ pins, p.1 ≠ a) : Inv X pins σ (upd H a (note oe a)) s := by
  obtain ⟨at_, none_, nL, nF, nc⟩ := I.pin (a, oe) (List.mem_append_right _ List.mem_cons_self)
  have keep : ∀ {b : Addr} {o : HO}, H b = some o → upd H a (note oe a) b = some o := fun {b o} q => by
    rw [upd_ne (ne_of_none q none_)]
    exact q
  have cells : ∀ y c, X.env.cells.lookup y = some c → c ≠ a := fun y c q z => by
    obtain ⟨v, hc⟩ := I.cell y c q
    subst z
    obtain ⟨o, ho, hd⟩ := hc
    have z : o = oe := Option.some.inj (ho.symm.trans at_)
    subst z
    first
      | exact nc _ hd
      | exact nc _ hd.1
      | exact nc _ hd.2
      | exact nc _ hd.2.1
  have base : Un X.fs X.ex X.H_0 (upd H a (note oe a)) X.s_0.heap s.heap := {
    keep := I.base.keep
    slot := I.base.slot
    free := fun b o q n x => by
      have hb : b ≠ a := fun z => by rw [z, old] at q; cases q
      rw [upd_ne hb]
      exact I.base.free b o q n x
    there := I.base.there
    tups := fun b xs q => keep (I.base.tups b xs q)
    frzs := fun b o u q => keep (I.base.frzs b o u q)
    tbls := fun b ps q => by
      obtain ⟨more, z⟩ := I.base.tbls b ps q
      exact ⟨more, keep z⟩ }
  have own : ObjOk X.prog X.w (upd H a (note oe a)) s.heap a (note oe a) := ⟨at_, ⟨oe, at_⟩⟩
  exact {
    ok := I.ok
    os := I.os
    bare := I.bare
    base := base
    loc := I.loc
    cell := I.cell
    free := by rw [upd_ne (Ne.symm nL)]; exact I.free
    freeC := fun y c q => by rw [upd_ne (cells y c q)]; exact I.freeC y c q
    pin := fun p hp => by
      have hp2 : p ∈ X.pn ++ (a, oe) :: pins := by
        rcases List.mem_append.mp hp with z | z
        · exact List.mem_append_left _ z
        · exact List.mem_append_right _ (List.mem_cons_of_mem _ z)
      obtain ⟨q1, q2, q3, q4, q5⟩ := I.pin p hp2
      exact ⟨q1, by rw [upd_ne (np p hp)]; exact q2, q3, q4, q5⟩
    hok := I.hok.laidN (fun _ _ q => q) none_ own
    len := I.len }
end
/-- what the clause wishes of an exception of the body: slots i of the clause's name, j of the name that notes it -/
def wNote (K : PySem.W.Frag) (c : Value) (i j : Nat) (Wout : WX) (D : Ends) : WX := fun cls d σ H =>
  ∃ b, PySem.W.exmOne K cls c = some b ∧
    (b = true → ∀ a oe, H a = none → Zc cls d oe → (∃ vs, oe.data = .fields vs) → D.nx (((σ.set i (some (.ref a))).set j (some (.ref a))).set i none) (upd H a (note oe a))) ∧
    (b = false → Wout cls d σ H)
section
variable {X : Cx} {x n m : Str} {c : Value} {i j : Nat} {body : List Stmt} {np pos pos' q1 q2 q3 : Pos} {tb : WX → TS} {Wout : WX}
theorem ps_try_note (hst : X.stack = X.env :: X.outer) (hfr : X.env.frame = some X.env.locals) (hex : X.ex = []) (nd : X.N.Nodup) (hi : X.N[i]? = some n) (hj : X.N[j]? = some m) (ln : X.env.kindOf n = some .local)
    (lm : L2.Loc X.env.scope m) (lm2 : X.fn m = true ∨ X.env.kindOf m = some .local) (nm : Names X x c) (tk : Takes X Wout) (dbn : (n == ("__debug__" : Str)) = false) (cdn : (n == ("__classdict__" : Str)) = false)
    (hb : ∀ (W : WX) (pn : List (Addr × Obj)) (xe : Value → Shared → Prop), Takes (X.tr pn xe) W → PassesOwn (model X.prog X.w) X.A X.env xe → PSs (X.tr pn xe) body (tb W)) :
    PS X (.Try body [.ExceptHandler (some (.Name x np)) (some n) [.Assign [.Name m q1] (.Name n q2) q3] pos'] [] [] pos) (fun D σ H => tb (wNote X.K c i j Wout D) D σ H) := by
  refine ⟨fun pins s σ H D I h => ?_⟩
  have fine := I.ok
  have frames : X.A.frames = some (X.env :: X.outer) := by
    rw [fine.frames, hst]
  refine wpAny_Try_except ?_
  have run := (hb (wNote X.K c i j Wout D) (X.pn ++ pins) (fun e t₁ => wpAny (model X.prog X.w) X.A (noteFrame e X.env) (fun _ t₂ => wpAny (model X.prog X.w) X.A (setFlight e none) (fun _ t₃ =>
      wpAny (model X.prog X.w) X.A (handleBy e X.env [.ExceptHandler (some (.Name x np)) (some n) [.Assign [.Name m q1] (.Name n q2) q3] pos']) (SP X pins D) X.xe t₃) X.xe t₂) X.xe t₁) ?takes PassesOwn.looking).run [] s σ H D (I.toTry _) h
  case takes =>
    intro u s' air
    obtain ⟨a, B, sI, pins', σ', H', cls, d, rfl, J0, nb, up, sky, na, os, ag, b, hb1, yes, no⟩ := air
    have J : Inv X pins σ' H' sI := J0.ofTry fine
    rw [show X.stack = X.env :: X.outer from hst] at sky
    show wpAny (model X.prog X.w) X.A (noteFrame (.ref a) X.env) _ _ _
    refine Sky.land Zc.steady frames hfr sky ?_
    intro h3 fl3 up3
    have J3 : Inv X pins σ' H' { s' with heap := h3 } := J.landed nb fl3.1 (up.trans up3) os ag
    obtain ⟨oe3, vs3, he3, hz3, hd3⟩ := fl3.there
    have off : a ∉ frs (X.env :: X.outer) := by
      intro hm
      obtain ⟨_, o', e', hnf⟩ := fl3.2.2.1.mem hm
      rw [he3] at e'
      cases e'
      exact hnf _ hd3
    have nL : a ≠ X.env.locals := fun z => off (List.mem_filterMap.mpr ⟨X.env, List.mem_cons_self, z ▸ hfr⟩)
    have nF : a ∉ X.fs := fun hm => by
      obtain ⟨e, he, q⟩ := List.mem_filterMap.mp hm
      exact off (List.mem_filterMap.mpr ⟨e, List.mem_cons_of_mem _ he, q⟩)
    have notI : sI.heap.get? a = none := by
      cases e : sI.heap.get? a with
      | none => rfl
      | some o =>
        have z := nb a o e (by rw [show X.stack = X.env :: X.outer from hst]; exact off)
        rw [fl3.2.1] at z
        cases z
    have old : X.s_0.heap.get? a = none := by
      cases e : X.s_0.heap.get? a with
      | none => rfl
      | some o =>
        obtain ⟨o', z⟩ := J.base.there a o e (by rw [hex]; exact List.not_mem_nil)
        rw [notI] at z
        cases z
    have npin : ∀ p ∈ X.pn ++ pins, p.1 ≠ a := fun p hp z => by
      have := (J.pin p hp).1
      rw [z, notI] at this
      cases this
    have S3 := J3.suite he3 hd3 na nL nF
    refine wpAny_handleBy_cons (codeAny_handlers_test ?_) (by intro q; cases q)
    have ty : PySem.W.Looks (model X.prog X.w) h3 (typeOf (.ref a)) cls := fun A Q E s k q => by
      refine wpAny_typeOf_ref (k _ _ he3) ?_
      rw [hz3.1]
      exact q
    have isx := PySem.W.exm_one (M := model X.prog X.w) (J3.kIn) ty hb1
    have named : ∀ {Q : Value → Shared → Prop} {E : Value → Shared → Prop}, Q c { s' with heap := h3 } → wpAny (model X.prog X.w) (X.A.mark (some (.ref a))) (eval (.Name x np) X.env) Q E { s' with heap := h3 } := by
      intro Q E q
      obtain ⟨hg, hdbg, hm⟩ := nm
      rcases hm with hm | ⟨hm, hv, hnn⟩
      · exact ld_glob (X := X.suite a ((a, oe3) :: (X.pn ++ pins))) S3 hg hm q hdbg
      · exact ld_blt (X := X.suite a ((a, oe3) :: (X.pn ++ pins))) S3 hg hm hv q hnn hdbg
    refine named (isx.here ?_)
    cases b with
    | true =>
      refine codeAny_handlers_suite_as (HandSPX.lands_againZ fl3 ?_)
      intro h4 fl4 up4
      have J4 : Inv X pins σ' H' { s' with heap := h4 } := J.landed nb fl4.1 ((up.trans up3).trans up4) os ag
      obtain ⟨oe4, vs4, he4, hz4, hd4⟩ := fl4.there
      have S4 := J4.suite he4 hd4 na nL nF
      have locn : L2.Loc X.env.scope n := .inl ln
      refine store_ok (X := X.suite a ((a, oe4) :: (X.pn ++ pins))) (v := .ref a) S4 nd hi locn rfl ?_ (.inr ln)
      intro s5 S5
      have one : PSs (X.suite a ((a, oe4) :: (X.pn ++ pins))) [.Assign [.Name m q1] (.Name n q2) q3] _ :=
        pss_cons (ps_set (X := X.suite a ((a, oe4) :: (X.pn ++ pins))) nd hj lm (pe_var (pos := q2) hi (.inl ln) dbn cdn) (by rfl) lm2) pss_nil
      have len : i < σ'.length := by
        rw [J.len]
        exact (List.getElem?_eq_some_iff.mp hi).1
      refine wpAny_mono (one.run [] s5 _ H' { nx := fun σ6 H6 => σ6 = (σ'.set i (some (.ref a))).set j (some (.ref a)) ∧ H6 = H', rt := fun _ _ => False } S5 ⟨.ref a, List.getElem?_set_self len, rfl, rfl⟩) ?_ (fun _ _ z => False.elim z)
      intro f s6 hsp
      cases f with
      | next =>
        obtain ⟨σ6, H6, S6, rfl, rfl⟩ := hsp
        obtain ⟨at6, no6, _, _, nc6⟩ := S6.pin (a, oe4) (List.mem_append_left _ List.mem_cons_self)
        have U := S6.unsuite fine
        have V : Inv X ((a, oe4) :: pins) ((σ'.set i (some (.ref a))).set j (some (.ref a))) H6 s6 := {
          ok := U.ok
          os := U.os
          bare := U.bare
          base := U.base
          loc := U.loc
          cell := U.cell
          free := U.free
          freeC := U.freeC
          pin := fun p hp => by
            rcases List.mem_append.mp hp with z | z
            · exact U.pin p (List.mem_append_left _ z)
            · rcases List.mem_cons.mp z with z | z
              · rw [z]; exact ⟨at6, no6, nL, nF, nc6⟩
              · exact U.pin p (List.mem_append_right _ z)
          hok := U.hok
          len := U.len }
        refine gone_ok V nd hi ln ?_
        intro s7 V7
        exact ⟨_, _, noted V7 old npin, yes rfl a oe4 na hz4 ⟨_, hd4⟩⟩
      | brk => obtain ⟨_, _, _, z⟩ := hsp; exact z.elim
      | cont => obtain ⟨_, _, _, z⟩ := hsp; exact z.elim
      | ret u => obtain ⟨_, _, _, _, _, z⟩ := hsp; exact z.elim
    | false =>
      show wpAny _ X.A (handleBy (.ref a) X.env []) _ _ _
      refine wpAny_handleBy_nil ?_
      obtain ⟨k1, k2, k3, oe, vs, T, oT, ts', he, hz, hd, h1, hr⟩ := id fl3
      unfold PySem.passOn
      refine wpAny_bind (wpAny_field he hd h1 ?_)
      have isT : ¬ ((Value.ref T == Value.none) = true) := by simp
      rw [if_neg isT]
      have on : wpAny (model X.prog X.w) X.A (setFlight (.ref a) X.env.frame) (fun _ t4 => wpAny (model X.prog X.w) X.A (throw (.ref a) : Sem Flow) (SP X pins D) X.xe t4) X.xe { s' with heap := h3 } := by
        rw [hfr]
        refine HandSPX.setFlight_upZ fl3 ?_
        intro h4 hh4 up4
        refine wpAny_throw (tk _ _ ⟨a, B, sI, pins, σ', H', cls, d, rfl, J, nb, (up.trans up3).trans up4, .inr (.inr ?_), na, os, ag, no rfl⟩)
        rw [show X.stack = X.env :: X.outer from hst]
        exact hh4
      first
        | exact wpAny_bind on
        | exact wpAny_bind (wpAny_pure (wpAny_bind on))
  refine wpAny_mono run ?_ (fun e s1 he => he)
  intro f s1 hsp
  cases f with
  | next => obtain ⟨σ', H', J', q⟩ := hsp; exact wpAny_execs_nil ⟨σ', H', J'.ofTry fine, q⟩
  | brk => obtain ⟨σ', H', J', q⟩ := hsp; exact ⟨σ', H', J'.ofTry fine, q⟩
  | cont => obtain ⟨σ', H', J', q⟩ := hsp; exact ⟨σ', H', J'.ofTry fine, q⟩
  | ret u => obtain ⟨v, σ', H', J', r, q⟩ := hsp; exact ⟨v, σ', H', J'.ofTry fine, r, q⟩
end
end MPE
namespace MP
open PySem PySem.Spec L2
/-- what is known of the module: its objects, where its defs stand -/
structure Bg where
  K : PySem.W.Frag
  fa : Nat → Option Addr
  ca : Nat → Option Addr
  cf : Nat → Option Str
  sup : Nat → List Nat
def keyT : Key → T
  | .inl i => .int i
  | .inr x => .str x.cps.toList
mutual
/-- the value v is the tree t, all of it readable in H -/
inductive Rp (B : Bg) (H : Hp) : V → T → Prop
  | non : Rp B H .non .non
  | bl (b : Bool) : Rp B H (.bl b) (.bl b)
  | int (i : Int) : Rp B H (.int i) (.int i)
  | str (x : List Nat) : Rp B H (.str ⟨x.toArray⟩) (.str x)
  | lst {a : Addr} {vs : List V} {ts : List T} : H a = some (.lst vs) → RpL B H vs ts → ts.length ≤ sizeLine → Rp B H (.ref a) (.lst ts)
  | tup {a : Addr} {vs : List V} {ts : List T} : MPU.SqP B.K H a vs → RpL B H vs ts → ts.length ≤ sizeLine → Rp B H (.ref a) (.tup ts)
  | fn {a : Addr} {f : Nat} : B.fa f = some a → Rp B H (.ref a) (.fn f)
  | scr {a : Addr} {ns : List Int} : SqL B.K H a (ns.map V.int) → ns.length ≤ sizeLine → Rp B H (.ref a) (.scr ns)
  | dct {a : Addr} {kvs : List (Key × V)} {ts : List (T × T)} : H a = some (.dK kvs) → RpK B H kvs ts → Rp B H (.ref a) (.dct ts)
  | cls {a : Addr} {k : Nat} {fl : List Nat} : B.ca k = some a → Rp B H (.ref a) (.cls k (B.sup k) fl)
  | exn0 {a C : Addr} {k : Nat} {oe : Obj} : B.ca k = some C → oe.cls = .ref C → (∃ vs, oe.data = .fields vs) → oe.dict = none → H a = some (MPE.note oe a) → Rp B H (.ref a) (.exn k (B.sup k) [])
  | exn1 {a C dx : Addr} {k : Nat} {oe : Obj} {nm : Str} {v : V} {t : T} : B.ca k = some C → oe.cls = .ref C → (∃ vs, oe.data = .fields vs) → oe.dict = some dx → H a = some (MPE.note oe a) → B.cf k = some nm → H dx = some (.xd [(nm, v)]) → Rp B H v t →
      Rp B H (.ref a) (.exn k (B.sup k) [t])
inductive RpL (B : Bg) (H : Hp) : List V → List T → Prop
  | nil : RpL B H [] []
  | cons {v : V} {vs : List V} {t : T} {ts : List T} : Rp B H v t → RpL B H vs ts → RpL B H (v :: vs) (t :: ts)
inductive RpK (B : Bg) (H : Hp) : List (Key × V) → List (T × T) → Prop
  | nil : RpK B H [] []
  | cons {k : Key} {v : V} {kvs : List (Key × V)} {t : T} {ts : List (T × T)} : Rp B H v t → RpK B H kvs ts → RpK B H ((k, v) :: kvs) ((keyT k, t) :: ts)
end
section
variable {B : Bg} {H H' : Hp}
theorem Same.sqT {K : PySem.W.Frag} {H H' : Hp} {a : Addr} {xs : List V} (e : Same H H') (h : SqT K H a xs) : SqT K H' a xs := by
  rcases h with (h | ⟨o, h⟩) | h
  · exact .inl (.inl (e _ _ h))
  · exact .inl (.inr ⟨o, e _ _ h⟩)
  · exact .inr h
theorem Same.sqP {K : PySem.W.Frag} {H H' : Hp} {a : Addr} {xs : List V} (e : Same H H') (h : MPU.SqP K H a xs) : MPU.SqP K H' a xs := by
  rcases h with ⟨o, h, d⟩ | h
  · exact .inl ⟨o, e _ _ h, d⟩
  · exact .inr h
mutual
theorem Rp.mono (s : Same H H') : ∀ (t : T) (v : V), Rp B H v t → Rp B H' v t
  | .non, _, h => by cases h; exact .non
  | .bl b, _, h => by cases h; exact .bl b
  | .int i, _, h => by cases h; exact .int i
  | .str x, _, h => by cases h; exact .str x
  | .lst ts, _, h => by
    cases h with
    | lst h1 h2 h3 => exact .lst (s _ _ h1) (RpL.mono s ts _ h2) h3
  | .tup ts, _, h => by
    cases h with
    | tup h1 h2 h3 => exact .tup (Same.sqP s h1) (RpL.mono s ts _ h2) h3
  | .fn f, _, h => by
    cases h with
    | fn h1 => exact .fn h1
  | .scr ns, _, h => by
    cases h with
    | scr h1 h2 => exact .scr (s.seq h1) h2
  | .dct kvs, _, h => by
    cases h with
    | dct h1 h2 => exact .dct (s _ _ h1) (RpK.mono s kvs _ h2)
  | .cls _ _ _, _, h => by
    cases h with
    | cls h1 => exact .cls h1
  | .exn _ _ [], _, h => by
    cases h with
    | exn0 h1 h2 h3 h4 h5 => exact .exn0 h1 h2 h3 h4 (s _ _ h5)
  | .exn _ _ [t], _, h => by
    cases h with
    | exn1 h1 h2 h3 h4 h5 h6 h7 h8 => exact .exn1 h1 h2 h3 h4 (s _ _ h5) h6 (s _ _ h7) (Rp.mono s t _ h8)
  | .exn _ _ (_ :: _ :: _), _, h => by cases h
theorem RpL.mono (s : Same H H') : ∀ (ts : List T) (vs : List V), RpL B H vs ts → RpL B H' vs ts
  | [], _, h => by cases h; exact .nil
  | t :: ts, _, h => by
    cases h with
    | cons h1 h2 => exact .cons (Rp.mono s t _ h1) (RpL.mono s ts _ h2)
theorem RpK.mono (s : Same H H') : ∀ (ts : List (T × T)) (vs : List (Key × V)), RpK B H vs ts → RpK B H' vs ts
  | [], _, h => by cases h; exact .nil
  | (k, t) :: ts, _, h => by
    cases h with
    | cons h1 h2 => exact .cons (Rp.mono s t _ h1) (RpK.mono s ts _ h2)
end
theorem RpL.length : ∀ {vs : List V} {ts : List T}, RpL B H vs ts → vs.length = ts.length
  | _, _, .nil => rfl
  | _, _, .cons _ h => by rw [List.length_cons, List.length_cons, RpL.length h]
theorem RpL.app : ∀ {vs ws : List V} {ts us : List T}, RpL B H vs ts → RpL B H ws us → RpL B H (vs ++ ws) (ts ++ us)
  | _, _, _, _, .nil, h => h
  | _, _, _, _, .cons h1 h2, h => .cons h1 (RpL.app h2 h)
theorem RpL.snoc {vs : List V} {ts : List T} {v : V} {t : T} (h : RpL B H vs ts) (h1 : Rp B H v t) : RpL B H (vs ++ [v]) (ts ++ [t]) := h.app (.cons h1 .nil)
theorem RpL.get : ∀ {vs : List V} {ts : List T} {i : Nat} {t : T}, RpL B H vs ts → ts[i]? = some t → ∃ v, vs[i]? = some v ∧ Rp B H v t
  | _, _, _, _, .nil, h => by simp at h
  | _, _, 0, _, .cons h1 _, h => by simp at h; subst h; exact ⟨_, rfl, h1⟩
  | _, _, i + 1, t, .cons _ h2, h => by
    obtain ⟨v, e, r⟩ := RpL.get (i := i) (t := t) h2 (by simpa using h)
    exact ⟨v, by simpa using e, r⟩
theorem RpL.none_of {vs : List V} {ts : List T} {i : Nat} (h : RpL B H vs ts) (e : ts[i]? = none) : vs[i]? = none := by
  have := h.length
  rw [List.getElem?_eq_none_iff] at e ⊢
  omega
theorem RpL.set {v : V} {t : T} (r : Rp B H v t) : ∀ {vs : List V} {ts : List T} (i : Nat), RpL B H vs ts → RpL B H (vs.set i v) (ts.set i t)
  | _, _, _, .nil => .nil
  | _, _, 0, .cons _ h => .cons r h
  | _, _, i + 1, .cons q h => .cons q (RpL.set r i h)
theorem RpL.take : ∀ {vs : List V} {ts : List T} (n : Nat), RpL B H vs ts → RpL B H (vs.take n) (ts.take n)
  | _, _, 0, _ => .nil
  | _, _, _ + 1, .nil => .nil
  | _, _, n + 1, .cons r t => .cons r (RpL.take n t)
theorem RpL.drop : ∀ {vs : List V} {ts : List T} (n : Nat), RpL B H vs ts → RpL B H (vs.drop n) (ts.drop n)
  | _, _, 0, r => r
  | _, _, _ + 1, .nil => .nil
  | _, _, n + 1, .cons _ t => RpL.drop n t
theorem RpL.rev {vs : List V} {ts : List T} (h : RpL B H vs ts) : RpL B H vs.reverse ts.reverse := by
  induction h using RpL.rec (motive_1 := fun _ _ _ => True) (motive_3 := fun _ _ _ => True) with
  | nil => exact .nil
  | cons h1 h2 _ ih =>
    rw [List.reverse_cons, List.reverse_cons]
    exact ih.snoc h1
  | _ => trivial
theorem RpL.erase : ∀ {vs : List V} {ts : List T} (i : Nat), RpL B H vs ts → RpL B H (vs.eraseIdx i) (ts.eraseIdx i)
  | _, _, _, .nil => .nil
  | _, _, 0, .cons _ h => h
  | _, _, i + 1, .cons q h => .cons q (RpL.erase i h)
theorem RpL.dropLast : ∀ {vs : List V} {ts : List T}, RpL B H vs ts → RpL B H vs.dropLast ts.dropLast
  | _, _, .nil => .nil
  | _, _, .cons q .nil => .nil
  | _, _, .cons q (.cons q2 h) => .cons q (RpL.dropLast (.cons q2 h))
theorem RpL.rep {vs : List V} {ts : List T} (h : RpL B H vs ts) : ∀ k : Nat, RpL B H (List.replicate k vs).flatten (List.replicate k ts).flatten
  | 0 => .nil
  | k + 1 => by
    rw [List.replicate_succ, List.replicate_succ, List.flatten_cons, List.flatten_cons]
    exact h.app (RpL.rep h k)
theorem RpL.cut {vs : List V} {ts : List T} (h : RpL B H vs ts) (lo hi : Option Int) : RpL B H (cutV vs lo hi) (cutL ts lo hi) := by
  unfold cutV cutL
  rw [h.length]
  exact (h.drop _).take _
theorem RpL.ints : ∀ (ns : List Int), RpL B H (ns.map V.int) (ns.map T.int)
  | [] => .nil
  | n :: ns => .cons (.int n) (RpL.ints ns)
end
/-- what stands at an owned address: the object's parts are shared -/
inductive RpW (B : Bg) (H G : Hp) (a : Addr) : T → Prop
  | lst {vs : List V} {ts : List T} : H a = some (.lst vs) → RpL B G vs ts → ts.length ≤ sizeLine → RpW B H G a (.lst ts)
  | dct {kvs : List (Key × V)} {ts : List (T × T)} : H a = some (.dK kvs) → RpK B G kvs ts → RpW B H G a (.dct ts)
/-- a slot's value: F: what is not of this def; A: where the caller's lists stand -/
def SlOk (B : Bg) (F : Hp) (A : Nat → Addr) (H G : Hp) (i : Nat) (o : Option (Option V)) : Sl → Prop
  | .un => True
  | .sh t => ∃ v, o = some (some v) ∧ Rp B G v t
  | .ow t => ∃ a, o = some (some (.ref a)) ∧ G a = none ∧ F a = none ∧ RpW B H G a t
  | .io t => o = some (some (.ref (A i))) ∧ G (A i) = none ∧ F (A i) = none ∧ RpW B H G (A i) t
  | .fz t => o = some (some (.ref (A i))) ∧ Rp B G (.ref (A i)) t
def Own : Option Sl → Prop
  | some (.ow _) => True
  | some (.io _) => True
  | _ => False
/-- the slots as the trees tell -/
structure Sim (B : Bg) (F : Hp) (A : Nat → Addr) (σ : St) (H G : Hp) (g : En) : Prop where
  sub : Same G H
  frn : ∀ b o, F b = some o → H b = some o ∧ G b = none
  len : g.length = σ.length
  at_ : ∀ (i : Nat) (s : Sl), g[i]? = some s → SlOk B F A H G i σ[i]? s
  sep : ∀ i j : Nat, Own g[i]? → Own g[j]? → σ[i]? = σ[j]? → i = j
/-- a new list at a: nobody else knows it -/
def Fresh (B : Bg) (F : Hp) (σ : St) (H G : Hp) (g : En) (a : Addr) : Prop :=
  G a = none ∧ F a = none ∧ ∀ i : Nat, Own g[i]? → σ[i]? ≠ some (some (.ref a))
/-- what is told -/
def Res (B : Bg) (F : Hp) (σ : St) (H G : Hp) (g : En) (fr : Bool) (v : V) (t : T) : Prop :=
  if fr = true then ∃ a, v = .ref a ∧ Fresh B F σ H G g a ∧ RpW B H G a t else Rp B G v t
section
variable {B : Bg} {F : Hp} {A : Nat → Addr} {σ : St} {H H' G G' : Hp} {g : En}
theorem RpW.mono {a : Addr} {t : T} (h : RpW B H G a t) (hH : ∀ o, H a = some o → H' a = some o) (hG : Same G G') : RpW B H' G' a t := by
  cases h with
  | lst h1 h2 h3 => exact .lst (hH _ h1) (h2.mono hG) h3
  | dct h1 h2 => exact .dct (hH _ h1) (h2.mono hG)
theorem RpW.there {a : Addr} {t : T} (h : RpW B H G a t) : ∃ o, H a = some o := by
  cases h with
  | lst h1 _ _ => exact ⟨_, h1⟩
  | dct h1 _ => exact ⟨_, h1⟩
theorem same_upd {H : Hp} {p : Addr} {o : HO} (h : H p = none) : Same H (upd H p o) := fun b x e => by
  rw [upd_ne (ne_of_none e h)]
  exact e
theorem Own.cases {s : Option Sl} (h : Own s) : (∃ t, s = some (.ow t)) ∨ ∃ t, s = some (.io t) := by
  cases s with
  | none => exact h.elim
  | some s => cases s with
    | ow t => exact .inl ⟨t, rfl⟩
    | io t => exact .inr ⟨t, rfl⟩
    | _ => exact h.elim
/-- an owned slot's address -/
theorem Sim.own (S : Sim B F A σ H G g) {i : Nat} (h : Own g[i]?) : ∃ a t, σ[i]? = some (some (.ref a)) ∧ G a = none ∧ F a = none ∧ RpW B H G a t ∧ (g[i]? = some (.ow t) ∨ (g[i]? = some (.io t) ∧ a = A i)) := by
  rcases h.cases with ⟨t, e⟩ | ⟨t, e⟩
  · obtain ⟨a, h1, h2, h3, h4⟩ := S.at_ i _ e
    exact ⟨a, t, h1, h2, h3, h4, .inl e⟩
  · obtain ⟨h1, h2, h3, h4⟩ := S.at_ i _ e
    exact ⟨A i, t, h1, h2, h3, h4, .inr ⟨e, rfl⟩⟩
/-- more of the heap, the owned and the foreign as they were; G may grow, by what is neither owned nor foreign -/
theorem Sim.grow (S : Sim B F A σ H G g) (hG : Same G G') (hsub : Same G' H') (hF : ∀ b o, F b = some o → H' b = some o ∧ G' b = none)
    (hown : ∀ (i : Nat) (a : Addr), Own g[i]? → σ[i]? = some (some (.ref a)) → G' a = none ∧ ∀ o, H a = some o → H' a = some o) : Sim B F A σ H' G' g where
  sub := hsub
  frn := hF
  len := S.len
  at_ := fun i s e => by
    have q := S.at_ i s e
    cases s with
    | un => trivial
    | sh t => obtain ⟨v, h1, h2⟩ := q; exact ⟨v, h1, h2.mono hG⟩
    | ow t =>
      obtain ⟨a, h1, h2, h3, h4⟩ := q
      obtain ⟨k1, k2⟩ := hown i a (by rw [e]; trivial) h1
      exact ⟨a, h1, k1, h3, h4.mono k2 hG⟩
    | io t =>
      obtain ⟨h1, h2, h3, h4⟩ := q
      obtain ⟨k1, k2⟩ := hown i _ (by rw [e]; trivial) h1
      exact ⟨h1, k1, h3, h4.mono k2 hG⟩
    | fz t => obtain ⟨h1, h2⟩ := q; exact ⟨h1, h2.mono hG⟩
  sep := S.sep
theorem Sim.none_own (S : Sim B F A σ H G g) {p : Addr} (hp : H p = none) {i : Nat} {a : Addr} (h : Own g[i]?) (e : σ[i]? = some (some (.ref a))) : a ≠ p := by
  obtain ⟨a', t, h1, h2, h3, h4, _⟩ := S.own h
  rw [e] at h1
  cases h1
  obtain ⟨o, ho⟩ := h4.there
  exact ne_of_none ho hp
/-- a new object is laid -/
theorem Sim.alloc (S : Sim B F A σ H G g) {p : Addr} {o : HO} (hp : H p = none) : Sim B F A σ (upd H p o) G g :=
  S.grow (fun _ _ e => e) (fun b x e => same_upd hp b x (S.sub b x e)) (fun b x e => ⟨same_upd hp b x (S.frn b x e).1, (S.frn b x e).2⟩)
    fun i a h e => by
      obtain ⟨a', t, h1, h2, h3, h4, _⟩ := S.own h
      rw [e] at h1
      cases h1
      exact ⟨h2, fun o e => same_upd hp a o e⟩
/-- .. and shared at once -/
theorem Sim.allocG (S : Sim B F A σ H G g) {p : Addr} {o : HO} (hp : H p = none) : Sim B F A σ (upd H p o) (upd G p o) g := by
  have hg : G p = none := by
    cases e : G p with
    | none => rfl
    | some u => have := S.sub _ _ e; rw [hp] at this; cases this
  refine S.grow (same_upd hg) (fun b x e => ?_) (fun b x e => ?_) fun i a h e => ?_
  · by_cases hb : b = p
    · subst hb; rw [upd_same] at e ⊢; exact e
    · rw [upd_ne hb] at e ⊢; exact S.sub b x e
  · have q := S.frn b x e
    have hb : b ≠ p := ne_of_none q.1 hp
    rw [upd_ne hb, upd_ne hb]
    exact q
  · obtain ⟨a', t, h1, h2, h3, h4, _⟩ := S.own h
    rw [e] at h1
    cases h1
    have hb : a ≠ p := S.none_own hp h e
    refine ⟨?_, fun o e => same_upd hp a o e⟩
    rw [upd_ne hb]
    exact h2
theorem Sim.noneG (S : Sim B F A σ H G g) {p : Addr} (hp : H p = none) : G p = none := by
  cases e : G p with
  | none => rfl
  | some u => have := S.sub _ _ e; rw [hp] at this; cases this
theorem Sim.noneF (S : Sim B F A σ H G g) {p : Addr} (hp : H p = none) : F p = none := by
  cases e : F p with
  | none => rfl
  | some u => have := (S.frn _ _ e).1; rw [hp] at this; cases this
/-- a new list at p is fresh -/
theorem Sim.fresh (S : Sim B F A σ H G g) {p : Addr} {o : HO} (hp : H p = none) : Fresh B F σ (upd H p o) G g p :=
  ⟨S.noneG hp, S.noneF hp, fun i h e => S.none_own hp h e rfl⟩
/-- a fresh list is shared from now on -/
theorem Sim.share (S : Sim B F A σ H G g) {a : Addr} {t : T} (f : Fresh B F σ H G g a) (w : RpW B H G a t) : ∃ G', Same G G' ∧ Sim B F A σ H G' g ∧ Rp B G' (.ref a) t := by
  obtain ⟨f1, f2, f3⟩ := f
  obtain ⟨o, ho⟩ := w.there
  refine ⟨upd G a o, same_upd f1, S.grow (same_upd f1) (fun b x e => ?_) (fun b x e => ?_) (fun i b h e => ?_), ?_⟩
  · by_cases hb : b = a
    · subst hb; rw [upd_same] at e; rw [ho]; exact e
    · rw [upd_ne hb] at e; exact S.sub b x e
  · have hb : b ≠ a := fun z => by rw [z, f2] at e; cases e
    rw [upd_ne hb]
    exact S.frn b x e
  · have hb : b ≠ a := fun z => f3 i h (z ▸ e)
    rw [upd_ne hb]
    obtain ⟨a', t, h1, h2, h3, h4, _⟩ := S.own h
    rw [e] at h1
    cases h1
    exact ⟨h2, fun _ q => q⟩
  · cases w with
    | lst h1 h2 h3 =>
      rw [h1] at ho; cases ho
      exact .lst upd_same (h2.mono (same_upd f1)) h3
    | dct h1 h2 =>
      rw [h1] at ho; cases ho
      exact .dct upd_same (h2.mono (same_upd f1))
/-- what is told, shared -/
theorem Sim.shareR (S : Sim B F A σ H G g) {fr : Bool} {v : V} {t : T} (r : Res B F σ H G g fr v t) : ∃ G', Same G G' ∧ Sim B F A σ H G' g ∧ Rp B G' v t := by
  unfold Res at r
  cases fr with
  | false => exact ⟨G, fun _ _ e => e, S, r⟩
  | true =>
    obtain ⟨a, rfl, f, w⟩ := r
    exact S.share f w
theorem getElem?_set' {α : Type} {l : List α} {i j : Nat} {x : α} : (l.set i x)[j]? = if i = j then (if j < l.length then some x else none) else l[j]? := by
  by_cases h : i = j
  · subst h
    rw [if_pos rfl, List.getElem?_set_self']
    by_cases hl : i < l.length
    · rw [if_pos hl, List.getElem?_eq_getElem hl]; rfl
    · rw [if_neg hl, List.getElem?_eq_none (by omega)]; rfl
  · rw [if_neg h, List.getElem?_set_ne h]
/-- one slot's entry changes, by sharing its list -/
theorem Sim.shareSlot (S : Sim B F A σ H G g) {i : Nat} {t : T} {s' : Sl} (h : g[i]? = some (.ow t) ∧ s' = .sh t ∨ g[i]? = some (.io t) ∧ s' = .fz t) : ∃ G' v, Same G G' ∧ Sim B F A σ H G' (g.set i s') ∧ σ[i]? = some (some v) ∧ Rp B G' v t := by
  have ow : Own g[i]? := by rcases h with ⟨h, _⟩ | ⟨h, _⟩ <;> (rw [h]; trivial)
  obtain ⟨a, t', h1, h2, h3, h4, h5⟩ := S.own ow
  have et : t' = t := by
    rcases h with ⟨h, _⟩ | ⟨h, _⟩ <;> rcases h5 with h5 | ⟨h5, _⟩ <;> (rw [h] at h5; cases h5 <;> rfl)
  subst et
  obtain ⟨o, ho⟩ := h4.there
  have rp : Rp B (upd G a o) (.ref a) t' := by
    cases h4 with
    | lst k1 k2 k3 => rw [k1] at ho; cases ho; exact .lst upd_same (k2.mono (same_upd h2)) k3
    | dct k1 k2 => rw [k1] at ho; cases ho; exact .dct upd_same (k2.mono (same_upd h2))
  refine ⟨upd G a o, .ref a, same_upd h2, ?_, h1, rp⟩
  have hi : i < g.length := by
    rcases h with ⟨h, _⟩ | ⟨h, _⟩ <;> exact (List.getElem?_eq_some_iff.mp h).1
  have ne : ∀ (j : Nat) (b : Addr), Own g[j]? → j ≠ i → σ[j]? = some (some (.ref b)) → b ≠ a := fun j b hj hji e z => by
    subst z
    exact hji (S.sep j i hj ow (e.trans h1.symm))
  refine ⟨fun b x e => ?_, fun b x e => ?_, ?_, fun j s e => ?_, fun j k hj hk e => ?_⟩
  · by_cases hb : b = a
    · subst hb; rw [upd_same] at e; rw [ho]; exact e
    · rw [upd_ne hb] at e; exact S.sub b x e
  · have hb : b ≠ a := fun z => by rw [z, h3] at e; cases e
    rw [upd_ne hb]
    exact S.frn b x e
  · rw [List.length_set]; exact S.len
  · rw [getElem?_set'] at e
    by_cases hj : i = j
    · subst hj
      rw [if_pos rfl, if_pos hi] at e
      cases e
      rcases h with ⟨h, rfl⟩ | ⟨h, rfl⟩
      · exact ⟨.ref a, h1, rp⟩
      · rcases h5 with h5 | ⟨h5, rfl⟩
        · rw [h] at h5; cases h5
        · exact ⟨h1, rp⟩
    · rw [if_neg hj] at e
      have q := S.at_ j s e
      cases s with
      | un => trivial
      | sh t => obtain ⟨v, k1, k2⟩ := q; exact ⟨v, k1, k2.mono (same_upd h2)⟩
      | ow t =>
        obtain ⟨b, k1, k2, k3, k4⟩ := q
        have nb := ne j b (by rw [e]; trivial) (Ne.symm hj) k1
        exact ⟨b, k1, by rw [upd_ne nb]; exact k2, k3, k4.mono (fun _ q => q) (same_upd h2)⟩
      | io t =>
        obtain ⟨k1, k2, k3, k4⟩ := q
        have nb := ne j _ (by rw [e]; trivial) (Ne.symm hj) k1
        exact ⟨k1, by rw [upd_ne nb]; exact k2, k3, k4.mono (fun _ q => q) (same_upd h2)⟩
      | fz t => obtain ⟨k1, k2⟩ := q; exact ⟨k1, k2.mono (same_upd h2)⟩
  · have tr : ∀ j : Nat, Own (g.set i s')[j]? → Own g[j]? := fun j hj => by
      rw [getElem?_set'] at hj
      by_cases hji : i = j
      · subst hji; exact ow
      · rw [if_neg hji] at hj; exact hj
    exact S.sep j k (tr j hj) (tr k hk) e
/-- a name is stored: a shared value -/
theorem Sim.setSh (S : Sim B F A σ H G g) {i : Nat} {v : V} {t : T} {g' : En} (h : setS g i (.sh t) = some g') (r : Rp B G v t) : Sim B F A (σ.set i (some v)) H G g' := by
  have hs : g' = g.set i (.sh t) ∧ i < g.length := by
    unfold setS at h
    split at h <;> first
      | (rename_i e; exact ⟨(Option.some.inj h).symm, (List.getElem?_eq_some_iff.mp e).1⟩)
      | cases h
  obtain ⟨rfl, hi⟩ := hs
  have hiσ : i < σ.length := by rw [← S.len]; exact hi
  have tr : ∀ j : Nat, Own (g.set i (.sh t))[j]? → j ≠ i ∧ Own g[j]? := fun j hj => by
    rw [getElem?_set'] at hj
    by_cases hji : i = j
    · subst hji; rw [if_pos rfl, if_pos hi] at hj; exact hj.elim
    · rw [if_neg hji] at hj; exact ⟨Ne.symm hji, hj⟩
  refine ⟨S.sub, S.frn, ?_, fun j s e => ?_, fun j k hj hk e => ?_⟩
  · rw [List.length_set, List.length_set]; exact S.len
  · rw [getElem?_set'] at e
    by_cases hj : i = j
    · subst hj
      rw [if_pos rfl, if_pos hi] at e
      cases e
      exact ⟨v, by rw [List.getElem?_set_self hiσ], r⟩
    · rw [if_neg hj] at e
      rw [List.getElem?_set_ne hj]
      exact S.at_ j s e
  · obtain ⟨nj, hj⟩ := tr j hj
    obtain ⟨nk, hk⟩ := tr k hk
    rw [List.getElem?_set_ne (Ne.symm nj), List.getElem?_set_ne (Ne.symm nk)] at e
    exact S.sep j k hj hk e
/-- .. a new list -/
theorem Sim.setOw (S : Sim B F A σ H G g) {i : Nat} {a : Addr} {t : T} {g' : En} (h : setS g i (.ow t) = some g') (f : Fresh B F σ H G g a) (w : RpW B H G a t) : Sim B F A (σ.set i (some (.ref a))) H G g' := by
  have hs : g' = g.set i (.ow t) ∧ i < g.length := by
    unfold setS at h
    split at h <;> first
      | (rename_i e; exact ⟨(Option.some.inj h).symm, (List.getElem?_eq_some_iff.mp e).1⟩)
      | cases h
  obtain ⟨rfl, hi⟩ := hs
  have hiσ : i < σ.length := by rw [← S.len]; exact hi
  obtain ⟨f1, f2, f3⟩ := f
  have tr : ∀ j : Nat, j ≠ i → Own (g.set i (.ow t))[j]? → Own g[j]? := fun j nj hj => by
    rw [getElem?_set', if_neg (Ne.symm nj)] at hj
    exact hj
  refine ⟨S.sub, S.frn, ?_, fun j s e => ?_, fun j k hj hk e => ?_⟩
  · rw [List.length_set, List.length_set]; exact S.len
  · rw [getElem?_set'] at e
    by_cases hj : i = j
    · subst hj
      rw [if_pos rfl, if_pos hi] at e
      cases e
      exact ⟨a, by rw [List.getElem?_set_self hiσ], f1, f2, w⟩
    · rw [if_neg hj] at e
      rw [List.getElem?_set_ne hj]
      exact S.at_ j s e
  · by_cases nj : j = i
    · subst nj
      by_cases nk : k = j
      · exact nk.symm
      · rw [List.getElem?_set_self hiσ, List.getElem?_set_ne (Ne.symm nk)] at e
        exact absurd e.symm (f3 k (tr k nk hk))
    · by_cases nk : k = i
      · subst nk
        rw [List.getElem?_set_self hiσ, List.getElem?_set_ne (Ne.symm nj)] at e
        exact absurd e (f3 j (tr j nj hj))
      · rw [List.getElem?_set_ne (Ne.symm nj), List.getElem?_set_ne (Ne.symm nk)] at e
        exact S.sep j k (tr j nj hj) (tr k nk hk) e
/-- a list of one's own is changed: a's object, the parts shared -/
theorem Sim.put (S : Sim B F A σ H G g) {i : Nat} {t : T} {g' : En} {a : Addr} {o : HO} (h : putS g i t = some g') (ha : σ[i]? = some (some (.ref a))) (w : RpW B (upd H a o) G a t) : Sim B F A σ (upd H a o) G g' := by
  have hs : Own g[i]? ∧ i < g.length ∧ ((∃ t0, g[i]? = some (.ow t0) ∧ g' = g.set i (.ow t)) ∨ ∃ t0, g[i]? = some (.io t0) ∧ g' = g.set i (.io t)) := by
    unfold putS at h
    split at h
    · rename_i t0 e
      exact ⟨by rw [e]; trivial, (List.getElem?_eq_some_iff.mp e).1, .inl ⟨t0, e, (Option.some.inj h).symm⟩⟩
    · rename_i t0 e
      exact ⟨by rw [e]; trivial, (List.getElem?_eq_some_iff.mp e).1, .inr ⟨t0, e, (Option.some.inj h).symm⟩⟩
    · cases h
  obtain ⟨ow, hi, hs⟩ := hs
  obtain ⟨a', t0, h1, h2, h3, h4, h5⟩ := S.own ow
  rw [ha] at h1
  cases h1
  have ng : ∀ b x, G b = some x → b ≠ a := fun b x e z => by rw [z, h2] at e; cases e
  have ne : ∀ (j : Nat) (b : Addr), Own g[j]? → j ≠ i → σ[j]? = some (some (.ref b)) → b ≠ a := fun j b hj hji e z => by
    subst z
    exact hji (S.sep j i hj ow (e.trans ha.symm))
  have ownEq : ∀ j : Nat, Own g'[j]? → Own g[j]? := fun j hj => by
    rcases hs with ⟨t0, e0, rfl⟩ | ⟨t0, e0, rfl⟩ <;>
    · rw [getElem?_set'] at hj
      by_cases hji : i = j
      · subst hji; exact ow
      · rw [if_neg hji] at hj; exact hj
  refine ⟨fun b x e => ?_, fun b x e => ?_, ?_, fun j s e => ?_, fun j k hj hk e => S.sep j k (ownEq j hj) (ownEq k hk) e⟩
  · rw [upd_ne (ng b x e)]; exact S.sub b x e
  · have hb : b ≠ a := fun z => by rw [z, h3] at e; cases e
    rw [upd_ne hb]
    exact S.frn b x e
  · rcases hs with ⟨t0, e0, rfl⟩ | ⟨t0, e0, rfl⟩ <;> (rw [List.length_set]; exact S.len)
  · have key : i ≠ j → g[j]? = some s → SlOk B F A (upd H a o) G j σ[j]? s := fun hj e => by
      have q := S.at_ j s e
      cases s with
      | un => trivial
      | sh t => exact q
      | ow t =>
        obtain ⟨b, k1, k2, k3, k4⟩ := q
        have nb := ne j b (by rw [e]; trivial) (Ne.symm hj) k1
        exact ⟨b, k1, k2, k3, k4.mono (fun x q => by rw [upd_ne nb]; exact q) (fun _ _ q => q)⟩
      | io t =>
        obtain ⟨k1, k2, k3, k4⟩ := q
        have nb := ne j _ (by rw [e]; trivial) (Ne.symm hj) k1
        exact ⟨k1, k2, k3, k4.mono (fun x q => by rw [upd_ne nb]; exact q) (fun _ _ q => q)⟩
      | fz t => exact q
    rcases hs with ⟨t0, e0, rfl⟩ | ⟨t0, e0, rfl⟩
    · rw [getElem?_set'] at e
      by_cases hj : i = j
      · subst hj
        rw [if_pos rfl, if_pos hi] at e
        cases e
        exact ⟨a, ha, h2, h3, w⟩
      · rw [if_neg hj] at e; exact key hj e
    · rw [getElem?_set'] at e
      by_cases hj : i = j
      · subst hj
        rw [if_pos rfl, if_pos hi] at e
        cases e
        have ea : a = A i := by
          rcases h5 with h5 | ⟨_, h5⟩
          · rw [e0] at h5; cases h5
          · exact h5
        subst ea
        exact ⟨ha, h2, h3, w⟩
      · rw [if_neg hj] at e; exact key hj e
theorem ownS_iff {i : Nat} {t : T} (h : ownS g i = some t) : Own g[i]? ∧ (g[i]? = some (.ow t) ∨ g[i]? = some (.io t)) := by
  unfold ownS at h
  split at h
  · rename_i t0 e; cases h; exact ⟨by rw [e]; trivial, .inl e⟩
  · rename_i t0 e; cases h; exact ⟨by rw [e]; trivial, .inr e⟩
  · cases h
theorem Sim.ownAt (S : Sim B F A σ H G g) {i : Nat} {t : T} (h : ownS g i = some t) : ∃ a, σ[i]? = some (some (.ref a)) ∧ G a = none ∧ F a = none ∧ RpW B H G a t := by
  obtain ⟨ow, e⟩ := ownS_iff h
  obtain ⟨a, t', h1, h2, h3, h4, h5⟩ := S.own ow
  have : t' = t := by
    rcases e with e | e <;> rcases h5 with h5 | ⟨h5, _⟩ <;> (rw [e] at h5; cases h5 <;> rfl)
  subst this
  exact ⟨a, h1, h2, h3, h4⟩
/-- F may be less -/
theorem Sim.less {F' : Hp} (S : Sim B F A σ H G g) (h : Same F' F) : Sim B F' A σ H G g where
  sub := S.sub
  frn := fun b o e => S.frn b o (h b o e)
  len := S.len
  at_ := fun i s e => by
    have q := S.at_ i s e
    have n : ∀ b, F b = none → F' b = none := fun b z => h.free z
    cases s with
    | un => trivial
    | sh t => exact q
    | ow t => obtain ⟨a, h1, h2, h3, h4⟩ := q; exact ⟨a, h1, h2, n _ h3, h4⟩
    | io t => obtain ⟨h1, h2, h3, h4⟩ := q; exact ⟨h1, h2, n _ h3, h4⟩
    | fz t => exact q
  sep := S.sep
/-- what is read as an operand: its head in H, its parts shared -/
def RpX (B : Bg) (H G : Hp) (v : V) (t : T) : Prop := Rp B G v t ∨ ∃ a, v = .ref a ∧ RpW B H G a t
theorem RpX.lst {ts : List T} {v : V} (hs : Same G H) (h : RpX B H G v (.lst ts)) : ∃ a vs, v = .ref a ∧ H a = some (.lst vs) ∧ RpL B G vs ts ∧ ts.length ≤ sizeLine := by
  rcases h with h | ⟨a, rfl, h⟩
  · cases h with
    | lst h1 h2 h3 => exact ⟨_, _, rfl, hs _ _ h1, h2, h3⟩
  · cases h with
    | lst h1 h2 h3 => exact ⟨a, _, rfl, h1, h2, h3⟩
theorem RpX.rp {t : T} {v : V} (hs : Same G H) (h : RpX B H G v t) : Rp B H v t := by
  rcases h with h | ⟨a, rfl, h⟩
  · exact h.mono hs
  · cases h with
    | lst h1 h2 h3 => exact .lst h1 (h2.mono hs) h3
    | dct h1 h2 => exact .dct h1 (h2.mono hs)
inductive RpXs (B : Bg) (H G : Hp) : List V → List T → Prop
  | nil : RpXs B H G [] []
  | cons {v : V} {vs : List V} {t : T} {ts : List T} : RpX B H G v t → RpXs B H G vs ts → RpXs B H G (v :: vs) (t :: ts)
/-- the operands' values -/
inductive OdOk (B : Bg) (G : Hp) (σ : St) : List Od → List V → Prop
  | nil : OdOk B G σ [] []
  | t {t : T} {v : V} {os : List Od} {vs : List V} : Rp B G v t → OdOk B G σ os vs → OdOk B G σ (.t t :: os) (v :: vs)
  | s {i : Nat} {v : V} {os : List Od} {vs : List V} : σ[i]? = some (some v) → OdOk B G σ os vs → OdOk B G σ (.s i :: os) (v :: vs)
theorem OdOk.mono {os : List Od} {vs : List V} (h : OdOk B G σ os vs) (s : Same G G') : OdOk B G' σ os vs := by
  induction h with
  | nil => exact .nil
  | t r _ ih => exact .t (r.mono s) ih
  | s e _ ih => exact .s e ih
theorem Sim.getX (S : Sim B F A σ H G g) {i : Nat} {t : T} {v : V} (h : getS g i = some t) (e : σ[i]? = some (some v)) : RpX B H G v t := by
  unfold getS at h
  split at h
  · rename_i t0 q; cases h
    obtain ⟨v', h1, h2⟩ := S.at_ i _ q
    rw [e] at h1; cases h1
    exact .inl h2
  · rename_i t0 q; cases h
    obtain ⟨a, h1, h2, h3, h4⟩ := S.at_ i _ q
    rw [e] at h1; cases h1
    exact .inr ⟨a, rfl, h4⟩
  · rename_i t0 q; cases h
    obtain ⟨h1, h2, h3, h4⟩ := S.at_ i _ q
    rw [e] at h1; cases h1
    exact .inr ⟨_, rfl, h4⟩
  · rename_i t0 q; cases h
    obtain ⟨h1, h2⟩ := S.at_ i _ q
    rw [e] at h1; cases h1
    exact .inl h2
  · cases h
theorem Sim.ods (S : Sim B F A σ H G g) : ∀ {os : List Od} {vs : List V} {ts : List T}, OdOk B G σ os vs → odTs g os = some ts → RpXs B H G vs ts
  | _, _, _, .nil, h => by
    cases (show some [] = some _ from h)
    exact .nil
  | _, _, ts, .t (t := t0) (os := os) r q, h => by
    have h' : (some t0).bind (fun t => (odTs g os).map (t :: ·)) = some ts := h
    rw [Option.bind_some, Option.map_eq_some_iff] at h'
    obtain ⟨us, e, rfl⟩ := h'
    exact .cons (.inl r) (S.ods q e)
  | _, _, ts, .s (i := i) (os := os) r q, h => by
    have h' : (getS g i).bind (fun t => (odTs g os).map (t :: ·)) = some ts := h
    rw [Option.bind_eq_some_iff] at h'
    obtain ⟨t, e1, h'⟩ := h'
    rw [Option.map_eq_some_iff] at h'
    obtain ⟨us, e, rfl⟩ := h'
    exact .cons (S.getX e1 r) (S.ods q e)
end
end MP
namespace MPX
open PySem PySem.Spec PyProof.Rows L2
theorem tuple_mul1 (l : Addr) (items : Array Value) (n : Nat) (dd : Option Addr) (sl : Array (Option Value)) (u : Tok) :
    Meets (Builtin.«tuple.__mul__» ⟨[.ref l, .int 1 u], []⟩) (fun _ R s => s.heap.get? l = some { cls := .type "tuple", dict := dd, data := .seq items n, slots := sl } ∧ R (.ok (.ret (Value.ref l))) s) :=
  .of_wp fun prog w A R s h => by
    obtain ⟨hp, g, d, tk, os⟩ := s
    obtain ⟨hl, h⟩ := h
    have f1 := AutoSeq1.idx_int
    have c0 : (decide ((1 : Int) < -(2 ^ 63)) || decide ((1 : Int) ≥ 2 ^ 63)) = false := by decide
    have c1 : (items.isEmpty || (1 : Int) == 1) = true := by cases items.isEmpty <;> rfl
    wp_walk using wpAny_loadPart' hl
    repeat (first
      | (refine wpAny_ite_false (decide_eq_false (by rw [c0]; exact Bool.false_ne_true)) ?_; wp_walk using wpAny_loadPart' hl)
      | (refine wpAny_ite_true (decide_eq_true c1) ?_; wp_walk using wpAny_loadPart' hl))
    exact ⟨_, rfl, h⟩
def rRepT1 (K : PySem.W.Frag) : R2 := fun x y H Q => ∃ l xs, x = .ref l ∧ y = .int 1 ∧ SqT K H l xs ∧ Q (.ref l) H
theorem op_repT1 {X : Cx} : OpR X (binaryOp .Mult) (rRepT1 X.K) := by
  intro pins s σ H x y v u Q I rx ry h
  obtain ⟨l, xs, rfl, rfl, hT, q⟩ := h
  cases rx
  obtain ⟨t, rfl⟩ := ry
  obtain ⟨its, r, ⟨⟨cls, dd, data, sl⟩, ho, hc, n, hd⟩, hs⟩ := I.tuple hT
  simp only at hc hd
  subst hc hd
  refine wpAny_binaryOp_repeat_ref (T := "tuple") (U := "int") (by decide) ⟨_, ho, rfl⟩ (fun s' => typeIs_int s' 1 t) noFill_tuple_mul F.fills_int_mul F.slot_int_rmul repeat_tuple F.slot_int_index.lookup
    (call_meets F.slot_int_rmul (typeIs_int s 1 t) F.entry_int_rmul (F.args_int_rmul_2 _ _) (int_rmul_tuple 1 t l its.toArray n dd sl)
      ⟨ho, rfl, ⟨_, ho, rfl⟩, call_meets F.slot_tuple_mul ⟨_, ho, rfl⟩ F.entry_tuple_mul (F.args_tuple_mul_2 _ _) (tuple_mul1 l its.toArray n dd sl t) ⟨ho, ?_⟩⟩)
  exact ⟨.ref l, H, I, rfl, q⟩
section
variable {prog : Program} {w : World} {A : Around} {E : Value → Shared → Prop} {s : Shared}
/-- what is left behind where items are gathered into a new list -/
abbrev laidOut (h : Heap) (xs : List Value) : Heap := (h.push (seqObj "list" #[] 0)).update h.objs.size (Obj.mapSeq (· ++ xs.toArray))
/-- a tuple's items, gathered -/
theorem gather_tup {t : Addr} {xs : List Value} {K : List Value → Shared → Prop} (ht : IsTup s.heap t xs.toArray) (hl : xs.length ≤ sizeLine) (k : K xs { s with heap := laidOut s.heap xs }) : wpAny (model prog w) A (collect (.ref t)) K E s := by
  obtain ⟨ob, e1, e2, m, e3⟩ := id ht
  have e4 : (s.heap.push (seqObj "list" #[] 0)).get? t = some ob := Heap.get?_push_of_some _ e1
  have e5 : (s.heap.push (seqObj "list" #[] 0)).get? s.heap.objs.size = some (seqObj "list" #[] 0) := Heap.get?_push_size _ rfl
  have e6 : ((#[] : Array Value) ++ xs.toArray).toList = xs := by simp
  have e7 : ((#[] : Array Value) ++ xs.toArray).size ≤ sizeLine + 1 := by rw [Array.size_append, List.size_toArray]; show 0 + xs.length ≤ _; omega
  unfold collect
  refine wpAny_bind (wpAny_runValue (codeAny_builtin entry_proto_collect' (?_ : wpAny _ _ (do again (.builtin "list.__iadd__" ⟨[← newList [], .ref t], []⟩)) _ _ s)))
  refine wpAny_bind (wpAny_newList (wpAny_pure ⟨Code.quiet_builtin _ (by decide +kernel), codeAny_builtin entry_list_iadd' (?_ : wpAny _ _ (Builtin.List.listExtendWith (.ref s.heap.objs.size) (.ref t) (.ref s.heap.objs.size)) _ _ { s with heap := s.heap.push (seqObj "list" #[] 0) })⟩))
  unfold Builtin.List.listExtendWith
  refine wpAny_bind (wpAny_typeOf (T := "tuple") ⟨ob, e4, e2⟩ ?_)
  rw [if_pos (by rw [show (Value.type "tuple" == Value.type "tuple") = true from rfl, Bool.or_true])]
  refine wpAny_bind (listItems_at e4 e3 (wpAny_bind (listItems_at (xs := #[]) (n := 0) e5 rfl ?_)))
  rw [if_neg (by simp)]
  refine wpAny_bind (listUpdate_at (xs := #[]) (n := 0) e5 rfl (wpAny_pure ?_) (Nat.zero_le _) e7)
  refine wpAny_bind (wpAny_load (get?_update_seq e5 _) (?_ : wpAny _ _ (pure ((#[] : Array Value) ++ xs.toArray).toList) K E { s with heap := laidOut s.heap xs }))
  rw [e6]
  exact wpAny_pure k
end
section
variable {X : Cx}
open SrtO in
/-- sorted of a tuple of whole numbers -/
def rSrtTup (K : PySem.W.Frag) : List V → Hp → VK → Prop := fun vs H Q => ∃ (t : Addr) (ns : List Int), vs = [V.ref t] ∧ SqT K H t (ns.map V.int) ∧ ∀ (ms : List Int) (p : Addr), ms.Perm ns → ms.Pairwise (· ≤ ·) → H p = none → Q (.ref p) (upd H p (.lst (ms.map V.int)))
theorem cr_srtTup : CallR X (.builtin "sorted") (rSrtTup X.K) := by
  intro pins s σ H vs us Q I r h
  obtain ⟨t, ns, rfl, hT, q⟩ := h
  obtain ⟨its, rv, ht, hz⟩ := I.tuple hT
  rw [Vals.ref1 r]
  have hi := rv.ints
  have hz2 : its.length ≤ sizeLine := by rw [← rv.length]; exact hz
  have z1 : (laidOut s.heap its).objs.size = s.heap.objs.size + 1 := by rw [Heap.size_update, size_push']
  have z2 : ((laidOut s.heap its).push (seqObj "list" its.toArray 0)).get? (s.heap.objs.size + 1) = some (seqObj "list" its.toArray 0) := z1 ▸ Heap.get?_push_size _ rfl
  refine Calls.call_function_entry kind_sorted plain_sorted entry_sorted (args_sorted1 _) ?_
  unfold Builtin.«sorted»
  refine wpAny_bind (m := checkCount "sorted" 1 1 _) (wpAny_pure (wpAny_bind (gather_tup ht hz2 (wpAny_bind (wpAny_newList ?_ hz2)))))
  show wpAny _ _ _ _ _ { s with heap := (laidOut s.heap its).push (seqObj "list" its.toArray 0) }
  rw [z1]
  refine wpAny_bind (wpAny_holding (wpAny_call_entry slot_list_sort ⟨_, z2, rfl⟩ entry_list_sort (SrtO.list_sort_ord SrtO.swo_int z2 hz2 (fun h2 => SrtO.ints_sortable hi h2) fun out o1 o2 => ⟨_, rfl, wpAny_pure ⟨_, rfl, ?_⟩⟩) (args_list_sort _)))
  obtain ⟨k1, k2, k3⟩ := SrtO.ints_out hi o1 o2
  obtain ⟨ep, he⟩ := sortedAll_at s.heap its out.toArray
  have hlen : ((out.map SrtO.iv).map V.int).length ≤ sizeLine := by
    rw [List.length_map, k2.length_eq, ← List.length_map (f := V.int)]
    exact hz
  exact ⟨.ref _, upd H (s.heap.objs.size + 1) (.lst ((out.map SrtO.iv).map V.int)), I.laid (t' := s.toks) (fun _ _ => sortedAll_old) (Nat.le_succ _) ⟨hlen, out, ep, vals_of_ints k1, he⟩, rfl, q _ _ k2 k3 (I.hok.fresh (Nat.le_succ _))⟩
end
end MPX
namespace MP
open PySem PySem.Spec L2
mutual
def T.toD : T → PyData
  | .non => .none
  | .bl b => .bool b
  | .int i => .int i
  | .str x => .str ⟨x.toArray⟩
  | .lst xs => .list (T.toDs xs)
  | .tup xs => .tuple (T.toDs xs)
  | _ => .none
def T.toDs : List T → List PyData
  | [] => []
  | x :: xs => T.toD x :: T.toDs xs
end
theorem str_all (x : List Nat) (h : x.all (· < 0x110000) = true) : PyData.strOk ⟨x.toArray⟩ = true := by
  unfold PyData.strOk
  show x.toArray.all _ = true
  rw [List.all_toArray]
  exact h
mutual
theorem T.lay : ∀ t : T, t.dat = true → (T.toD t).canLay0 = true
  | .non, _ => rfl
  | .bl _, _ => rfl
  | .int _, _ => rfl
  | .str x, h => by
    simp only [T.toD, PyData.canLay0]
    exact str_all x h
  | .lst xs, h => by
    simp only [T.toD, PyData.canLay0]
    exact T.lays xs (by simpa [T.dat] using h)
  | .tup xs, h => by
    simp only [T.toD, PyData.canLay0]
    exact T.lays xs (by simpa [T.dat] using h)
  | .dct _, h => by cases h
  | .fn _, h => by cases h
  | .scr _, h => by cases h
  | .cls _ _ _, h => by cases h
  | .exn _ _ _, h => by cases h
theorem T.lays : ∀ ts : List T, T.dats ts = true → PyData.canLayAll0 (T.toDs ts) = true
  | [], _ => by simp only [T.toDs, PyData.canLayAll0]
  | t :: ts, h => by
    have h' : t.dat = true ∧ T.dats ts = true := by simpa [T.dats] using h
    simp only [T.toDs, PyData.canLayAll0, T.lay t h'.1, T.lays ts h'.2, Bool.and_self]
end
mutual
theorem T.depD : ∀ t : T, t.dat = true → (T.toD t).depth = t.dep
  | .non, _ => rfl
  | .bl _, _ => rfl
  | .int _, _ => rfl
  | .str x, h => rfl
  | .lst xs, h => by
    simp only [T.toD, PyData.depth, T.dep]
    rw [T.depDs xs (by simpa [T.dat] using h)]
  | .tup xs, h => by
    simp only [T.toD, PyData.depth, T.dep]
    rw [T.depDs xs (by simpa [T.dat] using h)]
  | .dct _, h => by cases h
  | .fn _, h => by cases h
  | .scr _, h => by cases h
  | .cls _ _ _, h => by cases h
  | .exn _ _ _, h => by cases h
theorem T.depDs : ∀ ts : List T, T.dats ts = true → PyData.depthAll (T.toDs ts) = T.deps ts
  | [], _ => by simp only [T.toDs, PyData.depthAll, T.deps]
  | t :: ts, h => by
    have h' : t.dat = true ∧ T.dats ts = true := by simpa [T.dats] using h
    simp only [T.toDs, PyData.depthAll, T.deps, T.depD t h'.1, T.depDs ts h'.2]
end
theorem T.shp {t : T} (h : t.ok = true) : SeqAt.shaped (T.toD t) = true := by
  unfold T.ok at h
  rw [Bool.and_eq_true, decide_eq_true_eq] at h
  unfold SeqAt.shaped
  rw [Bool.and_eq_true, decide_eq_true_eq]
  exact ⟨T.lay t h.1, by rw [T.depD t h.1]; exact h.2⟩
theorem strEq (x y : List Nat) : ((⟨x.toArray⟩ : Str) == ⟨y.toArray⟩) = (x == y) := by
  by_cases e : x = y
  · subst e; simp
  · have n : ¬ ((⟨x.toArray⟩ : Str) = ⟨y.toArray⟩) := fun q => e (by injection q with q; simpa using q)
    rw [beq_eq_false_iff_ne.mpr n, beq_eq_false_iff_ne.mpr e]
mutual
theorem T.eqvD : ∀ a b : T, a.dat = true → b.dat = true → PyData.eqv (T.toD a) (T.toD b) = T.beq a b := by
  intro a b ha hb
  match a, b with
  | .lst xs, .lst ys =>
    simp only [T.toD, PyData.eqv, T.beq]
    exact T.eqvDs xs ys (by simpa [T.dat] using ha) (by simpa [T.dat] using hb)
  | .tup xs, .tup ys =>
    simp only [T.toD, PyData.eqv, T.beq]
    exact T.eqvDs xs ys (by simpa [T.dat] using ha) (by simpa [T.dat] using hb)
  | .str x, .str y =>
    simp only [T.toD, PyData.eqv, T.beq]
    exact strEq x y
  | .dct _, _ => cases ha
  | .fn _, _ => cases ha
  | .scr _, _ => cases ha
  | .cls _ _ _, _ => cases ha
  | .exn _ _ _, _ => cases ha
  | .non, .cls _ _ _ | .non, .exn _ _ _ | .bl _, .cls _ _ _ | .bl _, .exn _ _ _ | .int _, .cls _ _ _ | .int _, .exn _ _ _ | .str _, .cls _ _ _ | .str _, .exn _ _ _ | .lst _, .cls _ _ _ | .lst _, .exn _ _ _ | .tup _, .cls _ _ _ | .tup _, .exn _ _ _
  | .non, .dct _ | .non, .fn _ | .non, .scr _ | .bl _, .dct _ | .bl _, .fn _ | .bl _, .scr _ | .int _, .dct _ | .int _, .fn _ | .int _, .scr _
  | .str _, .dct _ | .str _, .fn _ | .str _, .scr _ | .lst _, .dct _ | .lst _, .fn _ | .lst _, .scr _ | .tup _, .dct _ | .tup _, .fn _ | .tup _, .scr _ => cases hb
  | .non, .non | .non, .bl _ | .non, .int _ | .non, .str _ | .non, .lst _ | .non, .tup _ => simp only [T.toD, PyData.eqv, T.beq]
  | .bl _, .non | .bl _, .bl _ | .bl _, .int _ | .bl _, .str _ | .bl _, .lst _ | .bl _, .tup _ => simp only [T.toD, PyData.eqv, T.beq]
  | .int _, .non | .int _, .bl _ | .int _, .int _ | .int _, .str _ | .int _, .lst _ | .int _, .tup _ => simp only [T.toD, PyData.eqv, T.beq]
  | .str _, .non | .str _, .bl _ | .str _, .int _ | .str _, .lst _ | .str _, .tup _ => simp only [T.toD, PyData.eqv, T.beq]
  | .lst _, .non | .lst _, .bl _ | .lst _, .int _ | .lst _, .str _ | .lst _, .tup _ => simp only [T.toD, PyData.eqv, T.beq]
  | .tup _, .non | .tup _, .bl _ | .tup _, .int _ | .tup _, .str _ | .tup _, .lst _ => simp only [T.toD, PyData.eqv, T.beq]
theorem T.eqvDs : ∀ a b : List T, T.dats a = true → T.dats b = true → PyData.eqvAll (T.toDs a) (T.toDs b) = T.beqs a b
  | [], [], _, _ => by simp only [T.toDs, PyData.eqvAll, T.beqs]
  | [], _ :: _, _, _ => by simp only [T.toDs, PyData.eqvAll, T.beqs]
  | _ :: _, [], _, _ => by simp only [T.toDs, PyData.eqvAll, T.beqs]
  | x :: xs, y :: ys, ha, hb => by
    have h1 : x.dat = true ∧ T.dats xs = true := by simpa [T.dats] using ha
    have h2 : y.dat = true ∧ T.dats ys = true := by simpa [T.dats] using hb
    simp only [T.toDs, PyData.eqvAll, T.beqs, T.eqvD x y h1.1 h2.1, T.eqvDs xs ys h1.2 h2.2]
end
theorem T.dat_of {t : T} (h : t.ok = true) : t.dat = true := (Bool.and_eq_true_iff.mp h).1
section
variable {B : Bg} {H : Hp}
mutual
theorem Rp.dp : ∀ (t : T) (v : V), t.dat = true → Rp B H v t → Dp B.K H v (T.toD t)
  | .non, _, _, h => by cases h; exact .non
  | .bl b, _, _, h => by cases h; exact .bl b
  | .int i, _, _, h => by cases h; exact .int i
  | .str x, _, _, h => by cases h; exact .str _
  | .lst ts, _, d, h => by
    cases h with
    | lst h1 h2 h3 =>
      simp only [T.toD]
      exact .lst (.inl (.inl h1)) (RpL.dp ts _ (by simpa [T.dat] using d) h2)
  | .tup ts, _, d, h => by
    cases h with
    | tup h1 h2 h3 =>
      simp only [T.toD]
      exact .tup h1.t (RpL.dp ts _ (by simpa [T.dat] using d) h2)
  | .dct _, _, d, _ => by cases d
  | .fn _, _, d, _ => by cases d
  | .scr _, _, d, _ => by cases d
  | .cls _ _ _, _, d, _ => by cases d
  | .exn _ _ _, _, d, _ => by cases d
theorem RpL.dp : ∀ (ts : List T) (vs : List V), T.dats ts = true → RpL B H vs ts → DpAll B.K H vs (T.toDs ts)
  | [], _, _, h => by cases h; simp only [T.toDs]; exact .nil
  | t :: ts, _, d, h => by
    have d' : t.dat = true ∧ T.dats ts = true := by simpa [T.dats] using d
    cases h with
    | cons h1 h2 =>
      simp only [T.toDs]
      exact .cons (Rp.dp t _ d'.1 h1) (RpL.dp ts _ d'.2 h2)
end
end
theorem any_mem (x : T) (hx : x.dat = true) : ∀ ys : List T, T.dats ys = true → ((T.toDs ys).any fun z => PyData.eqv z (T.toD x)) = T.mem x ys
  | [], _ => by simp only [T.toDs, T.mem, List.any_nil]
  | y :: ys, h => by
    have h' : y.dat = true ∧ T.dats ys = true := by simpa [T.dats] using h
    simp only [T.toDs, T.mem, List.any_cons, T.eqvD y x h'.1 hx, any_mem x hx ys h'.2]
def vOf : T → V
  | .bl b => .bl b
  | .int i => .int i
  | .str x => .str ⟨x.toArray⟩
  | _ => .non
theorem Rp.flat {B : Bg} {H : Hp} {v : V} {t : T} (h : Rp B H v t) (f : t.flat = true) : v = vOf t ∧ flatV v = true := by
  cases h <;> first | exact ⟨rfl, rfl⟩ | cases f
theorem eqV_flat {a b : T} (ha : a.flat = true) (hb : b.flat = true) : eqV (vOf a) (vOf b) = T.beq a b := by
  cases a <;> first
    | (cases b <;> first
        | rfl
        | (simp only [vOf, eqV, T.beq]; done)
        | (simp only [vOf, eqV, T.beq]; exact strEq _ _)
        | (cases hb; done))
    | (cases ha; done)
theorem RpL.flats {B : Bg} {H : Hp} : ∀ {vs : List V} {ts : List T}, RpL B H vs ts → ts.all T.flat = true → vs = ts.map vOf ∧ vs.all flatV = true
  | _, _, .nil, _ => ⟨rfl, rfl⟩
  | _, _, .cons r h, f => by
    rw [List.all_cons, Bool.and_eq_true] at f
    obtain ⟨h1, h2⟩ := RpL.flats h f.2
    obtain ⟨h3, h4⟩ := r.flat f.1
    refine ⟨by rw [List.map_cons, ← h3, ← h1], by rw [List.all_cons, h4, h2]; rfl⟩
theorem inV_mem {x : T} (hx : x.flat = true) : ∀ ys : List T, ys.all T.flat = true → inV (vOf x) (ys.map vOf) = T.mem x ys
  | [], _ => rfl
  | y :: ys, h => by
    rw [List.all_cons, Bool.and_eq_true] at h
    have ih := inV_mem hx ys h.2
    unfold inV at ih ⊢
    rw [List.map_cons, List.any_cons, ih, eqV_flat h.1 hx]
    rfl
/-- what is wanted behind an operator that tells r -/
def Kt (B : Bg) (F : Hp) (A : Nat → Addr) (σ : L2.St) (G : Hp) (g : En) (r : Bool × T) (Q : VK) : Prop :=
  ∀ v H' G', Same G G' → Sim B F A σ H' G' g → Res B F σ H' G' g r.1 v r.2 → Q v H'
section
variable {B : Bg} {F : Hp} {A : Nat → Addr} {σ : L2.St} {H G : Hp} {g : En} {Q : VK} {x y : V} {vs : List V} {ts : List T}
theorem Kt.val {v : V} {t : T} (k : Kt B F A σ G g (false, t) Q) (S : Sim B F A σ H G g) (r : Rp B G v t) : Q v H := k v H G (fun _ _ e => e) S r
theorem Kt.lst (k : Kt B F A σ G g (true, .lst ts) Q) (S : Sim B F A σ H G g) (r : RpL B G vs ts) (hz : ts.length ≤ sizeLine) (p : Addr) (hp : H p = none) : Q (.ref p) (upd H p (.lst vs)) :=
  k _ _ G (fun _ _ e => e) (S.alloc hp) ⟨p, rfl, S.fresh hp, .lst upd_same r hz⟩
theorem Kt.tup (k : Kt B F A σ G g (false, .tup ts) Q) (S : Sim B F A σ H G g) (r : RpL B G vs ts) (hz : ts.length ≤ sizeLine) : MPT.Ft H vs Q := fun p o hp ho =>
  k _ _ _ (same_upd (S.noneG hp)) (S.allocG hp) (.tup (.inl ⟨o, upd_same, ho⟩) (r.mono (same_upd (S.noneG hp))) hz)
theorem RpX.int {i : Int} (h : RpX B H G x (.int i)) : x = .int i := by
  rcases h with h | ⟨a, rfl, h⟩
  · cases h; rfl
  · cases h
theorem RpX.bl {b : Bool} (h : RpX B H G x (.bl b)) : x = .bl b := by
  rcases h with h | ⟨a, rfl, h⟩
  · cases h; rfl
  · cases h
theorem RpX.non (h : RpX B H G x .non) : x = .non := by
  rcases h with h | ⟨a, rfl, h⟩
  · cases h; rfl
  · cases h
theorem RpX.str {z : List Nat} (h : RpX B H G x (.str z)) : x = .str ⟨z.toArray⟩ := by
  rcases h with h | ⟨a, rfl, h⟩
  · cases h; rfl
  · cases h
theorem RpX.tup (h : RpX B H G x (.tup ts)) : ∃ a vs, x = .ref a ∧ MPU.SqP B.K G a vs ∧ RpL B G vs ts ∧ ts.length ≤ sizeLine := by
  rcases h with h | ⟨a, rfl, h⟩
  · cases h with
    | tup h1 h2 h3 => exact ⟨_, _, rfl, h1, h2, h3⟩
  · cases h
theorem RpX.scr {ns : List Int} (h : RpX B H G x (.scr ns)) : ∃ a, x = .ref a ∧ SqL B.K G a (ns.map V.int) ∧ ns.length ≤ sizeLine := by
  rcases h with h | ⟨a, rfl, h⟩
  · cases h with
    | scr h1 h2 => exact ⟨_, rfl, h1, h2⟩
  · cases h
end
def rOr (r r' : R2) : R2 := fun x y H Q => r x y H Q ∨ r' x y H Q
def rNo : R2 := fun _ _ _ _ => False
theorem opNo {X : Cx} {f : Value → Value → Sem Value} : OpR X f rNo := fun _ _ _ _ _ _ _ _ _ _ _ _ h => h.elim
def rAddStr : R2 := fun x y H Q => ∃ i j, x = .str i ∧ y = .str j ∧ i.length + j.length ≤ sizeLine ∧ Q (.str (i ++ j)) H
def rBin (K : PySem.W.Frag) : Operator → R2
  | .Add => rOr (rI0 fun i j => .int (i + j)) (rOr rAddStr (rOr rCat (MPT.rCatP K)))
  | .Sub => rI0 fun i j => .int (i - j)
  | .Mult => rOr (rI CMul fun i j => .int (i * j)) (rOr rRep (rOr (MPT.rRepP K) (MPX.rRepT1 K)))
  | .FloorDiv => rI CDivW fun i j => .int (i / j)
  | .Mod => rI (fun _ j => 0 < j) fun i j => .int (i % j)
  | .Pow => rI CPow fun i j => .int (i ^ j.toNat)
  | .LShift => rI CPow fun i j => .int (i * 2 ^ j.toNat)
  | .RShift => rI (fun _ j => 0 ≤ j) fun i j => .int (i / 2 ^ j.toNat)
  | .BitAnd => rI0 fun i j => .int (Builtin.bitAnd i j)
  | .BitOr => rI0 fun i j => .int (Builtin.bitOr i j)
  | .BitXor => rI0 fun i j => .int (Builtin.bitXor i j)
  | _ => rNo
section
variable {X : Cx}
theorem opOr {f : Value → Value → Sem Value} {r r' : R2} (h : OpR X f r) (h' : OpR X f r') : OpR X f (rOr r r') := OpR.or h h'
theorem op_bin : ∀ o : Operator, OpR X (binaryOp o) (rBin X.K o)
  | .Add => opOr op_add (opOr op_add_str (opOr op_cat MPT.op_catP))
  | .Sub => op_sub
  | .Mult => opOr op_mul (opOr op_rep (opOr MPT.op_repP MPX.op_repT1))
  | .FloorDiv => op_fdivW
  | .Mod => op_mod
  | .Pow => op_pow
  | .LShift => op_shl
  | .RShift => op_shr
  | .BitAnd => op_and
  | .BitOr => op_or
  | .BitXor => op_xor
  | .MatMult => opNo
  | .Div => opNo
def rIbin : Operator → R2
  | .Add => rI0 fun i j => .int (i + j)
  | .Sub => rI0 fun i j => .int (i - j)
  | .Mult => rI CMul fun i j => .int (i * j)
  | .FloorDiv => rI CDivW fun i j => .int (i / j)
  | .Mod => rI (fun _ j => 0 < j) fun i j => .int (i % j)
  | .LShift => rI CPow fun i j => .int (i * 2 ^ j.toNat)
  | .RShift => rI (fun _ j => 0 ≤ j) fun i j => .int (i / 2 ^ j.toNat)
  | .BitAnd => rI0 fun i j => .int (Builtin.bitAnd i j)
  | .BitOr => rI0 fun i j => .int (Builtin.bitOr i j)
  | .BitXor => rI0 fun i j => .int (Builtin.bitXor i j)
  | _ => rNo
theorem op_ibin : ∀ o : Operator, OpR X (inplaceOp o) (rIbin o)
  | .Add => iop_add
  | .Sub => iop_sub
  | .Mult => iop_mul
  | .FloorDiv => iop_fdivW
  | .Mod => iop_mod
  | .LShift => iop_shl
  | .RShift => iop_shr
  | .BitAnd => iop_and
  | .BitOr => iop_or
  | .BitXor => iop_xor
  | .Pow => opNo
  | .MatMult => opNo
  | .Div => opNo
end
theorem fdivW {i j : Int} (h : 0 < j ∧ j.natAbs < 1180591620717411303424) : CDivW i j := wide_div (b := 70) h.1 h.2 (by decide) (by decide)
theorem okInt_iff {i : Int} : okInt i = true ↔ i.natAbs < 2 ^ 64 := by
  unfold okInt
  exact ⟨fun h => Nat.le_of_ble_eq_true h, fun h => Nat.ble_eq_true_of_le h⟩
theorem okInt_of {i j : Int} (h : (okInt i || okInt j) = true) : CMul i j := by
  unfold CMul
  rw [Bool.or_eq_true, okInt_iff, okInt_iff] at h
  rcases h with h | h
  · exact .inl (by omega)
  · exact .inr (by omega)
theorem len_str (x : List Nat) : (⟨x.toArray⟩ : Str).length = x.length := by
  show x.toArray.size = x.length
  exact List.size_toArray
theorem app_str (x y : List Nat) : (⟨x.toArray⟩ : Str) ++ ⟨y.toArray⟩ = ⟨(x ++ y).toArray⟩ := by
  show (⟨x.toArray ++ y.toArray⟩ : Str) = _
  rw [List.append_toArray]
section
variable {B : Bg} {F : Hp} {A : Nat → Addr} {σ : L2.St} {H G : Hp} {g : En} {Q : VK} {x y : V}
theorem Sim.sqT (S : Sim B F A σ H G g) {a : Addr} {vs : List V} (h : MPU.SqP B.K G a vs) : SqT B.K H a vs := Same.sqT S.sub h.t
theorem bin_ok (S : Sim B F A σ H G g) {o : Operator} {a b : T} {r : Bool × T} (h : binF o a b = some r) (ra : RpX B H G x a) (rb : RpX B H G y b) (k : Kt B F A σ G g r Q) : rBin B.K o x y H Q := by
  unfold binF at h
  split at h
  · rename_i i j; cases h; exact .inl ⟨i, j, ra.int, rb.int, k.val S (.int _)⟩
  · rename_i u w
    split at h
    · rename_i hz; cases h
      refine .inr (.inl ⟨_, _, ra.str, rb.str, by rw [len_str, len_str]; exact hz, ?_⟩)
      rw [app_str]
      exact k.val S (.str _)
    · cases h
  · rename_i u w
    split at h
    · rename_i hz; cases h
      obtain ⟨p, vs, rfl, h1, h2, _⟩ := ra.lst S.sub
      obtain ⟨q, ws, rfl, h3, h4, _⟩ := rb.lst S.sub
      exact .inr (.inr (.inl ⟨p, q, vs, ws, rfl, rfl, h1, h3, by rw [h2.length, h4.length]; exact hz, fun p hp => k.lst S (h2.app h4) (by rw [List.length_append]; exact hz) p hp⟩))
    · cases h
  · rename_i u w
    split at h
    · rename_i hz; cases h
      obtain ⟨p, vs, rfl, h1, h2, _⟩ := ra.tup
      obtain ⟨q, ws, rfl, h3, h4, _⟩ := rb.tup
      refine .inr (.inr (.inr ⟨p, q, vs, ws, rfl, rfl, S.sqT h1, S.sqT h3, by rw [h2.length, h4.length]; exact hz, fun e => ?_, fun e => ?_, k.tup S (h2.app h4) (by rw [List.length_append]; exact hz)⟩))
      · subst e
        cases h2
        exact k.val S (.tup h3 h4 (by rw [List.length_nil] at hz; simpa using hz))
      · subst e
        cases h4
        refine k.val S (.tup h1 ?_ (by simpa using hz))
        rw [List.append_nil]
        exact h2
    · cases h
  · rename_i i j; cases h; exact ⟨i, j, ra.int, rb.int, k.val S (.int _)⟩
  · rename_i i j
    split at h
    · rename_i hz; cases h; exact .inl ⟨i, j, ra.int, rb.int, okInt_of hz, k.val S (.int _)⟩
    · cases h
  · rename_i u n
    split at h
    · rename_i hz; cases h
      obtain ⟨p, vs, rfl, h1, h2, _⟩ := ra.lst S.sub
      refine .inr (.inl ⟨p, n, vs, rfl, rb.int, h1, by omega, by omega, by rw [h2.length]; exact hz.2, fun p hp => k.lst S (h2.rep _) ?_ p hp⟩)
      rw [List.length_flatten, List.map_replicate, List.sum_replicate_nat, Nat.mul_comm]
      exact hz.2
    · cases h
  · rename_i u n
    split at h
    · rename_i hz; cases h
      obtain ⟨p, vs, rfl, h1, h2, _⟩ := ra.tup
      obtain ⟨z1, z2, z3, z4⟩ := hz
      have hl := h2.length
      by_cases h1' : n = 1
      · subst h1'
        refine .inr (.inr (.inr ⟨p, vs, rfl, rb.int, S.sqT h1, ?_⟩))
        refine k.val S (.tup h1 ?_ ?_)
        · have e : (List.replicate (1 : Int).toNat u).flatten = u := by simp
          rw [e]
          exact h2
        · have hs : sizeLine = 16777216 := sizeLine_eq
          have e : (List.replicate (1 : Int).toNat u).flatten = u := by simp
          rw [e, hs]
          omega
      · refine .inr (.inr (.inl ⟨p, n, vs, rfl, rb.int, S.sqT h1, fun e => ?_, by omega, by omega, by omega, k.tup S (h2.rep _) ?_⟩))
        · subst e
          rw [List.length_nil] at hl
          omega
        · rw [List.length_flatten, List.map_replicate, List.sum_replicate_nat, Nat.mul_comm]
          have hs : sizeLine = 16777216 := sizeLine_eq
          have a1 : u.length * n.toNat ≤ 1000 * 1000 := Nat.mul_le_mul (by omega) (by omega)
          rw [hs]
          omega
    · cases h
  · rename_i i j
    split at h
    · rename_i hz; cases h; exact ⟨i, j, ra.int, rb.int, (by first | exact fdivW hz | exact hz | exact ⟨hz.1, by omega⟩ | exact ⟨hz.1, by omega, hz.2.2⟩), k.val S (.int _)⟩
    · cases h
  · rename_i i j
    split at h
    · rename_i hz; cases h; exact ⟨i, j, ra.int, rb.int, (by first | exact fdivW hz | exact hz | exact ⟨hz.1, by omega⟩ | exact ⟨hz.1, by omega, hz.2.2⟩), k.val S (.int _)⟩
    · cases h
  · rename_i i j
    split at h
    · rename_i hz; cases h; exact ⟨i, j, ra.int, rb.int, (by first | exact fdivW hz | exact hz | exact ⟨hz.1, by omega⟩ | exact ⟨hz.1, by omega, hz.2.2⟩), k.val S (.int _)⟩
    · cases h
  · rename_i i j
    split at h
    · rename_i hz; cases h; exact ⟨i, j, ra.int, rb.int, (by first | exact fdivW hz | exact hz | exact ⟨hz.1, by omega⟩ | exact ⟨hz.1, by omega, hz.2.2⟩), k.val S (.int _)⟩
    · cases h
  · rename_i i j
    split at h
    · rename_i hz; cases h; exact ⟨i, j, ra.int, rb.int, (by first | exact fdivW hz | exact hz | exact ⟨hz.1, by omega⟩ | exact ⟨hz.1, by omega, hz.2.2⟩), k.val S (.int _)⟩
    · cases h
  · rename_i i j; cases h; exact ⟨i, j, ra.int, rb.int, k.val S (.int _)⟩
  · rename_i i j; cases h; exact ⟨i, j, ra.int, rb.int, k.val S (.int _)⟩
  · rename_i i j; cases h; exact ⟨i, j, ra.int, rb.int, k.val S (.int _)⟩
  · cases h
end
def rCmp (K : PySem.W.Frag) : CmpOp → R2
  | .Eq => rEqD K
  | .NotEq => rNeD K
  | .Lt => rI0 fun i j => .bl (decide (i < j))
  | .LtE => rI0 fun i j => .bl (decide (i ≤ j))
  | .Gt => rI0 fun i j => .bl (decide (j < i))
  | .GtE => rI0 fun i j => .bl (decide (j ≤ i))
  | .Is => rOr (fun x y H Q => y = .non ∧ Q (.bl (decide (x = .non))) H) rIsB
  | .IsNot => rOr (fun x y H Q => y = .non ∧ Q (.bl (!decide (x = .non))) H) rNotB
  | .In => rOr (rInD K) (rOr (rIn K false) MPS.rInDc)
  | .NotIn => rOr (rNotInD K) (rOr (rIn K true) MPS.rNotInDc)
theorem op_cmp {X : Cx} (hu : X.A.units + 65 < cLine) : ∀ o : CmpOp, OpR X (compareOp o) (rCmp X.K o)
  | .Eq => op_eqD (by omega)
  | .NotEq => op_neD (by omega)
  | .Lt => op_lt
  | .LtE => op_le
  | .Gt => op_gt
  | .GtE => op_ge
  | .Is => opOr op_isN op_isBl
  | .IsNot => opOr op_notN op_notBl
  | .In => opOr (op_inD hu) (opOr op_in_seq (MPS.op_inDc (by omega)))
  | .NotIn => opOr (op_notInD hu) (opOr op_notIn_seq (MPS.op_notInDc (by omega)))
section
variable {B : Bg} {F : Hp} {A : Nat → Addr} {σ : L2.St} {H G : Hp} {g : En} {Q : VK} {x y : V}
theorem RpX.isNon {a : T} (h : RpX B H G x a) : decide (x = .non) = a.isNon := by
  rcases h with h | ⟨p, rfl, h⟩
  · cases h <;> first | rfl | exact decide_eq_false (fun z => by cases z)
  · cases h <;> exact decide_eq_false (fun z => by cases z)
theorem RpX.flat {t : T} (h : RpX B H G x t) (f : t.flat = true) : x = vOf t ∧ flatV x = true := by
  rcases h with h | ⟨p, rfl, h⟩
  · exact h.flat f
  · cases h <;> cases f
theorem RpX.dct {ts : List (T × T)} {v : V} (hs : Same G H) (h : RpX B H G v (.dct ts)) : ∃ a kvs, v = .ref a ∧ H a = some (.dK kvs) ∧ RpK B G kvs ts := by
  rcases h with h | ⟨a, rfl, h⟩
  · cases h with
    | dct h1 h2 => exact ⟨_, _, rfl, hs _ _ h1, h2⟩
  · cases h with
    | dct h1 h2 => exact ⟨a, _, rfl, h1, h2⟩
theorem RpX.key {t : T} (h : RpX B H G x t) (f : t.keyB = true) : ∃ k : Key, x = kV k ∧ t = keyT k := by
  cases t with
  | int i => exact ⟨.inl i, h.int, rfl⟩
  | str z => exact ⟨.inr ⟨z.toArray⟩, h.str, by unfold keyT; rfl⟩
  | _ => cases f
theorem keq_key (k k2 : Key) : T.keq (keyT k) (keyT k2) = decide (k = k2) := by
  cases k with
  | inl i =>
    cases k2 with
    | inl j =>
      show (i == j) = _
      by_cases e : i = j
      · subst e; simp
      · have n : ¬ ((Sum.inl i : Key) = Sum.inl j) := fun q => e (Sum.inl.inj q)
        rw [beq_eq_false_iff_ne.mpr e, decide_eq_false n]
    | inr z => exact (decide_eq_false (fun q => by cases q)).symm
  | inr w =>
    cases k2 with
    | inl j => exact (decide_eq_false (fun q => by cases q)).symm
    | inr z =>
      show (w.cps.toList == z.cps.toList) = _
      by_cases e : w = z
      · subst e; simp
      · have n : ¬ ((Sum.inr w : Key) = Sum.inr z) := fun q => e (Sum.inr.inj q)
        have n2 : ¬ w.cps.toList = z.cps.toList := fun q => e (by
          cases w; cases z
          congr 1
          exact Array.toList_inj.mp q)
        rw [beq_eq_false_iff_ne.mpr n2, decide_eq_false n]
theorem RpK.length : ∀ {kvs : List (Key × V)} {ts : List (T × T)}, RpK B H kvs ts → kvs.length = ts.length
  | _, _, .nil => rfl
  | _, _, .cons _ h => by rw [List.length_cons, List.length_cons, RpK.length h]
theorem RpK.get {k : Key} {t : T} : ∀ {kvs : List (Key × V)} {ts : List (T × T)}, RpK B H kvs ts → getK (keyT k) ts = some t → ∃ v, valV kvs k = some v ∧ Rp B H v t
  | _, _, .nil, h => by cases h
  | _, _, .cons (k := k2) (v := v2) (t := t2) (kvs := kvs2) (ts := ts2) r q, h => by
    have h' : (if T.keq (keyT k2) (keyT k) then some t2 else getK (keyT k) ts2) = some t := h
    rw [keq_key] at h'
    by_cases e : k2 = k
    · rw [decide_eq_true e, if_pos rfl] at h'
      cases h'
      exact ⟨v2, valV_pos e, r⟩
    · rw [decide_eq_false e, if_neg Bool.false_ne_true] at h'
      obtain ⟨v, h1, h2⟩ := RpK.get q h'
      exact ⟨v, by rw [valV_neg e]; exact h1, h2⟩
theorem RpK.has {k : Key} : ∀ {kvs : List (Key × V)} {ts : List (T × T)}, RpK B H kvs ts → hasK (keyT k) ts = (valV kvs k).isSome
  | _, _, .nil => rfl
  | _, _, .cons (k := k2) (v := v2) (t := t2) (kvs := kvs2) (ts := ts2) r q => by
    show (T.keq (keyT k2) (keyT k) || hasK (keyT k) ts2) = _
    rw [keq_key, RpK.has q]
    by_cases e : k2 = k
    · rw [decide_eq_true e, Bool.true_or, valV_pos e]; rfl
    · rw [decide_eq_false e, Bool.false_or, valV_neg e]
theorem RpK.app : ∀ {kvs ls : List (Key × V)} {ts us : List (T × T)}, RpK B H kvs ts → RpK B H ls us → RpK B H (kvs ++ ls) (ts ++ us)
  | _, _, _, _, .nil, h => h
  | _, _, _, _, .cons h1 h2, h => .cons h1 (RpK.app h2 h)
theorem RpK.set {k : Key} {v : V} {t : T} (r : Rp B H v t) : ∀ {kvs : List (Key × V)} {ts : List (T × T)}, RpK B H kvs ts → RpK B H (kvs.map fun kv => if kv.1 = k then (kv.1, v) else kv) (setK (keyT k) t ts)
  | _, _, .nil => .nil
  | _, _, .cons (k := k2) (v := v2) (t := t2) (kvs := kvs2) (ts := ts2) r2 q => by
    have ih := RpK.set (k := k) r q
    show RpK B H ((if k2 = k then (k2, v) else (k2, v2)) :: _) ((if T.keq (keyT k2) (keyT k) then (keyT k2, t) else (keyT k2, t2)) :: setK (keyT k) t ts2)
    rw [keq_key]
    by_cases e : k2 = k
    · rw [decide_eq_true e, if_pos e, if_pos rfl]
      exact .cons r ih
    · rw [decide_eq_false e, if_neg e, if_neg Bool.false_ne_true]
      exact .cons r2 ih
theorem RpK.put {k : Key} {v : V} {t : T} {kvs : List (Key × V)} {ts : List (T × T)} (q : RpK B H kvs ts) (r : Rp B H v t) : RpK B H (putK kvs k v) (putKT ts (keyT k) t) := by
  unfold putK putKT
  have e : (kvs.any fun kv => decide (kv.1 = k)) = hasK (keyT k) ts := by rw [valV_any, q.has]
  rw [e]
  cases hasK (keyT k) ts with
  | true => rw [if_pos rfl, if_pos rfl]; exact q.set r
  | false => rw [if_neg Bool.false_ne_true, if_neg Bool.false_ne_true]; exact q.app (.cons r .nil)
theorem cmp_ok (S : Sim B F A σ H G g) {o : CmpOp} {a b : T} {c : Bool} (h : cmpF o a b = some c) (ra : RpX B H G x a) (rb : RpX B H G y b) (k : Kt B F A σ G g (false, .bl c) Q) : rCmp B.K o x y H Q := by
  have kv : Q (.bl c) H := k.val S (.bl c)
  unfold cmpF at h
  split at h
  · split at h
    · rename_i hz; cases h
      rw [Bool.and_eq_true] at hz
      refine ⟨T.toD a, T.toD b, Rp.dp _ _ (T.dat_of hz.1) (ra.rp S.sub), Rp.dp _ _ (T.dat_of hz.2) (rb.rp S.sub), T.shp hz.1, T.shp hz.2, ?_⟩
      rw [T.eqvD _ _ (T.dat_of hz.1) (T.dat_of hz.2)]
      exact kv
    · cases h
  · split at h
    · rename_i hz; cases h
      rw [Bool.and_eq_true] at hz
      refine ⟨T.toD a, T.toD b, Rp.dp _ _ (T.dat_of hz.1) (ra.rp S.sub), Rp.dp _ _ (T.dat_of hz.2) (rb.rp S.sub), T.shp hz.1, T.shp hz.2, ?_⟩
      rw [T.eqvD _ _ (T.dat_of hz.1) (T.dat_of hz.2)]
      exact kv
    · cases h
  · rename_i i j; cases h; exact ⟨i, j, ra.int, rb.int, kv⟩
  · rename_i i j; cases h; exact ⟨i, j, ra.int, rb.int, kv⟩
  · rename_i i j; cases h; exact ⟨i, j, ra.int, rb.int, kv⟩
  · rename_i i j; cases h; exact ⟨i, j, ra.int, rb.int, kv⟩
  · refine .inl ⟨rb.non, ?_⟩
    rw [ra.isNon, Option.some.inj h]
    exact kv
  · refine .inl ⟨rb.non, ?_⟩
    rw [ra.isNon, Option.some.inj h]
    exact kv
  · rename_i i j
    cases h
    refine .inr ⟨i, j, ra.bl, rb.bl, ?_⟩
    rw [← Bool.beq_eq_decide_eq]
    exact kv
  · rename_i i j
    cases h
    refine .inr ⟨i, j, ra.bl, rb.bl, ?_⟩
    rw [← Bool.beq_eq_decide_eq]
    exact kv
  · rename_i w
    split at h
    · rename_i hz; cases h
      rw [Bool.and_eq_true] at hz
      have dl : T.dats w = true := by simpa [T.dat] using T.dat_of hz.2
      refine .inl ⟨T.toD a, T.toDs w, Rp.dp _ _ (T.dat_of hz.1) (ra.rp S.sub), ?_, T.shp hz.1, ?_, ?_⟩
      · have q := Rp.dp _ _ (T.dat_of hz.2) (rb.rp S.sub)
        simp only [T.toD] at q
        exact q
      · have q := T.shp hz.2
        simp only [T.toD] at q
        exact q
      · rw [any_mem a (T.dat_of hz.1) w dl]
        exact kv
    · cases h
  · rename_i w
    split at h
    · rename_i hz; cases h
      rw [Bool.and_eq_true] at hz
      have dl : T.dats w = true := by simpa [T.dat] using T.dat_of hz.2
      refine .inl ⟨T.toD a, T.toDs w, Rp.dp _ _ (T.dat_of hz.1) (ra.rp S.sub), ?_, T.shp hz.1, ?_, ?_⟩
      · have q := Rp.dp _ _ (T.dat_of hz.2) (rb.rp S.sub)
        simp only [T.toD] at q
        exact q
      · have q := T.shp hz.2
        simp only [T.toD] at q
        exact q
      · rw [any_mem a (T.dat_of hz.1) w dl]
        exact kv
    · cases h
  · rename_i w
    split at h
    · rename_i hz; cases h
      rw [Bool.and_eq_true] at hz
      obtain ⟨p, ws, rfl, h1, h2, _⟩ := rb.tup
      obtain ⟨e1, f1⟩ := ra.flat hz.1
      obtain ⟨e2, f2⟩ := h2.flats hz.2
      refine .inr (.inl ⟨p, ws, rfl, .inr (S.sqT h1), f1, f2, ?_⟩)
      rw [if_neg Bool.false_ne_true, e1, e2, inV_mem hz.1 w hz.2]
      exact kv
    · cases h
  · rename_i w
    split at h
    · rename_i hz; cases h
      rw [Bool.and_eq_true] at hz
      obtain ⟨p, ws, rfl, h1, h2, _⟩ := rb.tup
      obtain ⟨e1, f1⟩ := ra.flat hz.1
      obtain ⟨e2, f2⟩ := h2.flats hz.2
      refine .inr (.inl ⟨p, ws, rfl, .inr (S.sqT h1), f1, f2, ?_⟩)
      rw [if_pos rfl, e1, e2, inV_mem hz.1 w hz.2]
      exact kv
    · cases h
  · split at h
    · rename_i hz; cases h
      obtain ⟨p, kvs, rfl, h1, h2⟩ := rb.dct S.sub
      obtain ⟨k, rfl, rfl⟩ := ra.key hz
      refine .inr (.inr ⟨p, _, rfl, DGet.k h1, ?_⟩)
      rw [← h2.has]
      exact kv
    · cases h
  · split at h
    · rename_i hz; cases h
      obtain ⟨p, kvs, rfl, h1, h2⟩ := rb.dct S.sub
      obtain ⟨k, rfl, rfl⟩ := ra.key hz
      refine .inr (.inr ⟨p, _, rfl, DGet.k h1, ?_⟩)
      rw [← h2.has]
      exact kv
    · cases h
  · cases h
end
theorem atI_rp {B : Bg} {G : Hp} {vs : List V} {ts : List T} {i : Int} {t : T} (h : RpL B G vs ts) (e : atI ts i = some t) : ∃ v, atI vs i = some v ∧ Rp B G v t := by
  unfold atI at e ⊢
  rw [h.length]
  cases q : ixN ts.length i with
  | none => rw [q] at e; cases e
  | some j =>
    rw [q] at e
    exact h.get e
section
variable {B : Bg} {F : Hp} {A : Nat → Addr} {σ : L2.St} {H G : Hp} {g : En} {Q : VK} {x y : V}
def rIx2 (K : PySem.W.Frag) : R2 := fun x y H Q => rIx K x y H Q ∨ MPS.rIxDc x y H Q
theorem item_ok (S : Sim B F A σ H G g) {a b t : T} (h : itemF a b = some t) (ra : RpX B H G x a) (rb : RpX B H G y b) (k : Kt B F A σ G g (false, t) Q) : rIx2 B.K x y H Q := by
  unfold itemF at h
  split at h
  · rename_i u i
    obtain ⟨p, vs, rfl, h1, h2, _⟩ := ra.lst S.sub
    obtain ⟨v, e, r⟩ := atI_rp h2 h
    exact .inl (.inl ⟨p, vs, i, v, rfl, rb.int, .inl (.inl h1), e, k.val S r⟩)
  · rename_i u i
    obtain ⟨p, vs, rfl, h1, h2, _⟩ := ra.tup
    obtain ⟨v, e, r⟩ := atI_rp h2 h
    exact .inl (.inr (.inl ⟨p, vs, i, v, rfl, rb.int, S.sqT h1, e, k.val S r⟩))
  · split at h
    · rename_i hz
      obtain ⟨p, kvs, rfl, h1, h2⟩ := ra.dct S.sub
      obtain ⟨kk, rfl, rfl⟩ := rb.key hz
      obtain ⟨v, h3, h4⟩ := h2.get h
      exact .inr ⟨p, v, rfl, .inl ⟨kvs, kk, .inl h1, rfl, h3.symm⟩, k.val S h4⟩
    · cases h
  · cases h
theorem cutL_len {α : Type} (xs : List α) (lo hi : Option Int) : (cutL xs lo hi).length ≤ xs.length := by
  unfold cutL
  rw [List.length_take, List.length_drop]
  omega
/-- a slice of a list, the script, a tuple -/
def rSlc (K : PySem.W.Frag) : V → Option Int → Option Int → Hp → VK → Prop := fun x lo hi H Q => rSlL K x lo hi H Q ∨ MPT.rSlP K x lo hi H Q
theorem slc_lst (S : Sim B F A σ H G g) {u : List T} {lo hi : Option Int} (ra : RpX B H G x (.lst u)) (k : Kt B F A σ G g (true, .lst (cutL u lo hi)) Q) : rSlc B.K x lo hi H Q := by
  obtain ⟨p, vs, rfl, h1, h2, h3⟩ := ra.lst S.sub
  exact .inl ⟨p, vs, rfl, .inl (.inl h1), fun p hp => k.lst S (h2.cut lo hi) (Nat.le_trans (cutL_len _ _ _) h3) p hp⟩
theorem slc_scr (S : Sim B F A σ H G g) {u : List Int} {lo hi : Option Int} (ra : RpX B H G x (.scr u)) (k : Kt B F A σ G g (true, .lst (cutL (u.map T.int) lo hi)) Q) : rSlc B.K x lo hi H Q := by
  obtain ⟨p, rfl, h1, h3⟩ := ra.scr
  exact .inl ⟨p, _, rfl, S.sub.seq h1, fun p hp => k.lst S ((RpL.ints u).cut lo hi) (Nat.le_trans (cutL_len _ _ _) (by rw [List.length_map]; exact h3)) p hp⟩
theorem slc_tup (S : Sim B F A σ H G g) {u : List T} {lo hi : Option Int} (ra : RpX B H G x (.tup u)) (k : Kt B F A σ G g (false, .tup (cutL u lo hi)) Q) : rSlc B.K x lo hi H Q := by
  obtain ⟨p, vs, rfl, h1, h2, h3⟩ := ra.tup
  refine .inr ⟨p, vs, rfl, S.sqT h1, fun e => ?_, k.tup S (h2.cut lo hi) (Nat.le_trans (cutL_len _ _ _) h3)⟩
  have c : cutL u lo hi = u := by
    unfold cutL
    rw [← h2.length, e.1, e.2, h2.length, List.drop_zero, Nat.sub_zero, List.take_length]
  rw [c] at k
  exact k.val S (.tup h1 h2 h3)
end
theorem sl_slc {X : Cx} : SlR X (rSlc X.K) := SlR.or sl_list MPT.sl_tupP
theorem intsT_eq : ∀ {xs : List T} {ns : List Int}, intsT xs = some ns → xs = ns.map T.int
  | [], ns, h => by cases h; rfl
  | .int i :: r, ns, h => by
    have h' : (intsT r).map (i :: ·) = some ns := h
    rw [Option.map_eq_some_iff] at h'
    obtain ⟨ms, e, rfl⟩ := h'
    rw [intsT_eq e] <;> rfl
  | .non :: _, _, h => by cases h
  | .bl _ :: _, _, h => by cases h
  | .str _ :: _, _, h => by cases h
  | .lst _ :: _, _, h => by cases h
  | .tup _ :: _, _, h => by cases h
  | .dct _ :: _, _, h => by cases h
  | .fn _ :: _, _, h => by cases h
  | .scr _ :: _, _, h => by cases h
  | .cls _ _ _ :: _, _, h => by cases h
  | .exn _ _ _ :: _, _, h => by cases h
theorem blsT_eq : ∀ {xs : List T} {ns : List Bool}, blsT xs = some ns → xs = ns.map T.bl
  | [], ns, h => by cases h; rfl
  | .bl i :: r, ns, h => by
    have h' : (blsT r).map (i :: ·) = some ns := h
    rw [Option.map_eq_some_iff] at h'
    obtain ⟨ms, e, rfl⟩ := h'
    rw [blsT_eq e] <;> rfl
  | .non :: _, _, h => by cases h
  | .int _ :: _, _, h => by cases h
  | .str _ :: _, _, h => by cases h
  | .lst _ :: _, _, h => by cases h
  | .tup _ :: _, _, h => by cases h
  | .dct _ :: _, _, h => by cases h
  | .fn _ :: _, _, h => by cases h
  | .scr _ :: _, _, h => by cases h
  | .cls _ _ _ :: _, _, h => by cases h
  | .exn _ _ _ :: _, _, h => by cases h
theorem RpL.isInts {B : Bg} {H : Hp} : ∀ {vs : List V} {ns : List Int}, RpL B H vs (ns.map T.int) → vs = ns.map V.int
  | vs, [], h => by cases h; rfl
  | vs, n :: ns, h => by
    cases h with
    | cons h1 h2 =>
      cases h1
      rw [RpL.isInts h2] <;> rfl
theorem RpL.isBls {B : Bg} {H : Hp} : ∀ {vs : List V} {ns : List Bool}, RpL B H vs (ns.map T.bl) → vs = ns.map V.bl
  | vs, [], h => by cases h; rfl
  | vs, n :: ns, h => by
    cases h with
    | cons h1 h2 =>
      cases h1
      rw [RpL.isBls h2] <;> rfl
theorem insI_perm (x : Int) : ∀ l : List Int, (insI x l).Perm (x :: l)
  | [] => .refl _
  | y :: ys => by
    unfold insI
    split
    · exact .refl _
    · exact ((insI_perm x ys).cons y).trans (.swap x y ys)
theorem sortI_perm : ∀ l : List Int, (sortI l).Perm l
  | [] => .refl _
  | x :: xs => (insI_perm x (sortI xs)).trans ((sortI_perm xs).cons x)
theorem insI_mem {x z : Int} {l : List Int} (h : z ∈ insI x l) : z = x ∨ z ∈ l := List.mem_cons.mp ((insI_perm x l).mem_iff.mp h)
theorem insI_sorted (x : Int) : ∀ {l : List Int}, l.Pairwise (· ≤ ·) → (insI x l).Pairwise (· ≤ ·)
  | [], _ => List.pairwise_singleton _ _
  | y :: ys, h => by
    unfold insI
    obtain ⟨h1, h2⟩ := List.pairwise_cons.mp h
    split
    · rename_i hxy
      refine List.pairwise_cons.mpr ⟨fun z hz => ?_, h⟩
      rcases List.mem_cons.mp hz with rfl | hz
      · exact hxy
      · exact Int.le_trans hxy (h1 z hz)
    · rename_i hxy
      refine List.pairwise_cons.mpr ⟨fun z hz => ?_, insI_sorted x h2⟩
      rcases insI_mem hz with rfl | hz
      · omega
      · exact h1 z hz
theorem sortI_sorted : ∀ l : List Int, (sortI l).Pairwise (· ≤ ·)
  | [] => .nil
  | x :: xs => insI_sorted x (sortI_sorted xs)
theorem sorted_uniq : ∀ {l m : List Int}, l.Perm m → l.Pairwise (· ≤ ·) → m.Pairwise (· ≤ ·) → l = m := fun p h1 h2 =>
  p.eq_of_pairwise (fun a b _ _ x y => Int.le_antisymm x y) h1 h2
theorem minI_spec : ∀ (l : List Int) (m : Int), (minI m l = m ∨ minI m l ∈ l) ∧ minI m l ≤ m ∧ ∀ y ∈ l, minI m l ≤ y
  | [], m => ⟨.inl rfl, Int.le_refl _, fun y h => by cases h⟩
  | x :: xs, m => by
    unfold minI
    obtain ⟨h1, h2, h3⟩ := minI_spec xs (if x < m then x else m)
    refine ⟨?_, ?_, fun y hy => ?_⟩
    · rcases h1 with h1 | h1
      · rw [h1]
        split
        · exact .inr List.mem_cons_self
        · exact .inl rfl
      · exact .inr (List.mem_cons_of_mem _ h1)
    · split at h2 <;> (rename_i hx; first | (rw [if_pos hx]; omega) | (rw [if_neg hx]; omega))
    · rcases List.mem_cons.mp hy with rfl | hy
      · split at h2 <;> (rename_i hx; first | (rw [if_pos hx]; omega) | (rw [if_neg hx]; omega))
      · exact h3 y hy
theorem maxI_spec : ∀ (l : List Int) (m : Int), (maxI m l = m ∨ maxI m l ∈ l) ∧ m ≤ maxI m l ∧ ∀ y ∈ l, y ≤ maxI m l
  | [], m => ⟨.inl rfl, Int.le_refl _, fun y h => by cases h⟩
  | x :: xs, m => by
    unfold maxI
    obtain ⟨h1, h2, h3⟩ := maxI_spec xs (if x > m then x else m)
    refine ⟨?_, ?_, fun y hy => ?_⟩
    · rcases h1 with h1 | h1
      · rw [h1]
        split
        · exact .inr List.mem_cons_self
        · exact .inl rfl
      · exact .inr (List.mem_cons_of_mem _ h1)
    · split at h2 <;> (rename_i hx; first | (rw [if_pos hx]; omega) | (rw [if_neg hx]; omega))
    · rcases List.mem_cons.mp hy with rfl | hy
      · split at h2 <;> (rename_i hx; first | (rw [if_pos hx]; omega) | (rw [if_neg hx]; omega))
      · exact h3 y hy
end MP
namespace MP
open PySem PySem.Spec PyProof.Rows L2
def relX (B : Bg) (k j : Nat) : Bool := k == j || (B.sup k).contains j
structure ExK (K : PySem.W.Frag) (C : Addr) : Prop where
  hc : (PySem.W.clsIn K C).isSome = true
  ga : PySem.W.findIn K (.ref C) "__getattribute__" = some (some (.builtin "BaseException.__getattribute__"))
  gg : PySem.W.findIn K (.ref C) "__getattr__" = some none
  sub : PySem.W.subIn K (.ref C) (.type "BaseException") = some true
  cl : PySem.W.findIn K (.ref C) "__class__" = some (some (.builtin "object.__class__"))
  sp : PySem.W.specialIn K (.builtin "object.__class__") "__get__" = some (some (.builtin "getset_descriptor.__get__"))
  tk : PySem.W.takesIn K (.builtin "object.__class__") = some true
  mro : PySem.W.mroIn K C (.type "object") = some true
  ve : PySem.W.kitOne K (.ref C) (.type "ValueError") = some true
  nn : PySem.W.kitOne K (.type "NoneType") (.ref C) = some false
  kp : PySem.W.keepIn K (.ref C) = true
  ty : PySem.W.typeIn K (.ref C) = some (.type "type")
structure ExF (B : Bg) (k : Nat) (C : Addr) : Prop extends ExK B.K C where
  rel : ∀ j D, B.ca j = some D → PySem.W.exmOne B.K (.ref C) (.ref D) = some (relX B k j) ∧ PySem.W.kitOne B.K (.ref C) (.ref D) = some (relX B k j)
section
variable {X : Cx}
/-- a noted exception of the class at C -/
def NtX (H : Hp) (a C : Addr) : Prop := ∃ oe, H a = some (MPE.note oe a) ∧ oe.cls = .ref C ∧ (∃ vs, oe.data = .fields vs) ∧ (oe.dict = none ∨ ∃ dx fs, oe.dict = some dx ∧ H dx = some (.xd fs))
theorem nt_kit {pins : List (Addr × Obj)} {σ : L2.St} {H : Hp} {s : Shared} {a C : Addr} (I : Inv X pins σ H s) (n : NtX H a C) (T : ExK X.K C) : ∃ P : Heap → Prop, PySem.W.KitX X.K (.ref a) (.ref C) P ∧ P s.heap := by
  obtain ⟨oe, h1, h2, ⟨vs, h3⟩, h4⟩ := n
  have at_ : s.heap.get? a = some oe := (show ObjOk X.prog X.w H s.heap a (.frz oe (.own a)) from I.hok a _ h1).1
  have no : PySem.W.notCls oe = true := by
    unfold PySem.W.notCls
    rw [h3]
  rcases h4 with h4 | ⟨dx, fs, h4, h5⟩
  · have J : PySem.W.InstAt s.heap a oe C none := ⟨at_, h2, no, by rw [h4]; trivial⟩
    exact ⟨_, PySem.W.kitx_exc T.hc T.ga T.gg T.sub T.cl T.sp T.tk T.mro, J⟩
  · obtain ⟨mA, hns, _⟩ := (show ObjOk X.prog X.w H s.heap dx (.xd fs) from I.hok dx _ h5)
    obtain ⟨od, ho, _⟩ := lookIn_ns hns
    have J : PySem.W.InstAt s.heap a oe C (some od) := ⟨at_, h2, no, by rw [h4]; exact ho⟩
    exact ⟨_, PySem.W.kitx_exc T.hc T.ga T.gg T.sub T.cl T.sp T.tk T.mro, J⟩
/-- isinstance(e, c): e None or a noted exception -/
def rIsX (K : PySem.W.Frag) : List V → Hp → VK → Prop := fun xs H Q => ∃ (x c : V) (u : Value) (b : Bool), xs = [x, c] ∧ ClsV c u ∧
  ((x = .non ∧ PySem.W.kitOne K (.type "NoneType") u = some b) ∨ ∃ a C, x = .ref a ∧ NtX H a C ∧ ExK K C ∧ PySem.W.kitOne K (.ref C) u = some b) ∧ Q (.bl b) H
theorem call_isX : CallR X (.builtin "isinstance") (rIsX X.K) := by
  intro pins s σ H xs us Q I r h
  obtain ⟨x, c, u, b, rfl, k, hx, q⟩ := h
  obtain ⟨u1, u2, rfl, r1, r2⟩ := vals2 r
  have e2 := k.eq r2
  subst e2
  rcases hx with ⟨rfl, e⟩ | ⟨a, C, rfl, n, T, e⟩
  · cases (show u1 = Value.none from r1)
    exact PySem.W.kia_one PySem.W.kitx_none I.kIn True.intro e (fun z => nomatch z) fun tk => ⟨.bl b, H, I.tok _, rfl, q⟩
  · obtain rfl : u1 = Value.ref a := r1
    obtain ⟨P, Z, p⟩ := nt_kit I n T
    exact PySem.W.kia_one Z I.kIn p e (fun z => nomatch z) fun tk => ⟨.bl b, H, I.tok _, rfl, q⟩
/-- isinstance(e, (c1, c2, ..)) -/
def rIsXT (K : PySem.W.Frag) : List V → Hp → VK → Prop := fun xs H Q => ∃ (x : V) (tp : Addr) (cs : List V) (us : List Value) (b : Bool), xs = [x, .ref tp] ∧ SqT K H tp cs ∧ Paired ClsV cs us ∧
  ((x = .non ∧ PySem.W.kitAny K (.type "NoneType") us = some b) ∨ ∃ a C, x = .ref a ∧ NtX H a C ∧ ExK K C ∧ PySem.W.kitAny K (.ref C) us = some b) ∧ Q (.bl b) H
theorem call_isXT : CallR X (.builtin "isinstance") (rIsXT X.K) := by
  intro pins s σ H xs us Q I r h
  obtain ⟨x, tp, cs, ws, b, rfl, hT, k, hx, q⟩ := h
  obtain ⟨u1, u2, rfl, r1, r2⟩ := vals2 r
  obtain rfl : u2 = Value.ref tp := r2
  obtain ⟨its, rv, ⟨⟨cc, dd, da, sl⟩, ho, hc, n, hd⟩, _⟩ := I.tuple hT
  obtain rfl : cc = Value.type "tuple" := hc
  obtain rfl : da = Data.seq its.toArray n := hd
  have e2 := ClsV.all k rv
  subst e2
  rcases hx with ⟨rfl, e⟩ | ⟨a, C, rfl, nt, T, e⟩
  · cases (show u1 = Value.none from r1)
    exact PySem.W.kia_tup PySem.W.kitx_none I.kIn True.intro ho e (fun z => nomatch z) fun tk => ⟨.bl b, H, I.tok _, rfl, q⟩
  · obtain rfl : u1 = Value.ref a := r1
    obtain ⟨P, Z, p⟩ := nt_kit I nt T
    exact PySem.W.kia_tup Z I.kIn p ho e (fun z => nomatch z) fun tk => ⟨.bl b, H, I.tok _, rfl, q⟩
end
end MP
namespace MP
open PySem PySem.Spec L2
structure Ck where
  P : List FD
  gn : List Str
  N : List Str
  sc : Scope
  ws : Scope
def glB (ck : Ck) (x : Str) : Bool := decide (ck.sc.names.lookup x = some .globalImplicit) && !(x == ("__debug__" : Str))
def locB (ck : Ck) (x : Str) : Bool := (decide (ck.ws.names.lookup x = some .local) || decide (ck.ws.names.lookup x = some .cell)) && !(x == ("__debug__" : Str)) && !(x == ("__classdict__" : Str))
def visB (ck : Ck) (x : Str) : Bool := (decide (ck.sc.names.lookup x = some .local) || (decide (ck.sc.names.lookup x = some .cell) || decide (ck.sc.names.lookup x = some .free))) && !(x == ("__debug__" : Str)) && !(x == ("__classdict__" : Str))
def xNon : Expr → Bool
  | .Constant .none _ _ => true
  | _ => false
def xBl (b : Bool) : Expr → Bool
  | .Constant (.bool c) _ _ => b == c
  | _ => false
def xInt (i : Int) : Expr → Bool
  | .Constant (.int j) _ _ => decide (i = j)
  | _ => false
def xStr (s : List Nat) : Expr → Bool
  | .Constant (.str z) _ _ => decide (z = ⟨s.toArray⟩)
  | _ => false
def xVar (ck : Ck) (i : Nat) : Expr → Bool
  | .Name x _ => decide (ck.N[i]? = some x) && visB ck x
  | _ => false
def xGlb (ck : Ck) (k : Nat) : Expr → Bool
  | .Name x _ => decide (ck.gn[k]? = some x) && glB ck x
  | _ => false
def xTup : Expr → Option (List Expr)
  | .Tuple es _ _ => some es
  | _ => none
def xLst : Expr → Option (List Expr)
  | .List es _ => some es
  | _ => none
def xChn (o1 o2 : CmpOp) : Expr → Option (Expr × Expr × Expr)
  | .Compare a [p, q] [b, c] _ => if p = o1 ∧ q = o2 then some (a, b, c) else none
  | _ => none
def xBop (a : Bool) : Expr → Option (List Expr)
  | .BoolOp .And es _ => if a then some es else none
  | .BoolOp .Or es _ => if a then none else some es
  | _ => none
def xNot : Expr → Option Expr
  | .UnaryOp .Not a _ => some a
  | _ => none
def xIfe : Expr → Option (Expr × Expr × Expr)
  | .IfExp c a b _ => some (c, a, b)
  | _ => none
/-- a call of a name, without keywords -/
def xCallN : Expr → Option (Str × List Expr)
  | .Call (.Name x _) es [] _ => some (x, es)
  | _ => none
def xCall (ck : Ck) (f : Nat) (x : Expr) : Option (List Expr) := match xCallN x with
  | some (n, es) => if (ck.P[f]?.map FD.name) = some n ∧ glB ck n = true then some es else none
  | none => none
/-- a built-in called -/
def xBlt (ck : Ck) (n : Str) (x : Expr) : Option (List Expr) := match xCallN x with
  | some (m, es) => if m = n ∧ glB ck n = true then some es else none
  | none => none
def xCls : Nat → Str
  | 0 => "int"
  | 1 => "bool"
  | 2 => "str"
  | 3 => "tuple"
  | 4 => "list"
  | 5 => "dict"
  | _ => ""
def isNm (ck : Ck) (n : Str) : Expr → Bool
  | .Name x _ => decide (x = n) && glB ck n
  | _ => false
def one {α : Type} : Option (List α) → Option (List α)
  | some [a] => some [a]
  | _ => none
def two {α : Type} : Option (List α) → Option (List α)
  | some [a, b] => some [a, b]
  | _ => none
/-- x.name(..) -/
def xMeth (n : Str) : Expr → Option (Expr × List Expr)
  | .Call (.Attribute o m ap) es [] cp => if m = n ∧ (ap.endLine == cp.line) = true then some (o, es) else none
  | _ => none
/-- min(xs, default=None) -/
def xMnn (ck : Ck) : Expr → Option (List Expr)
  | .Call (.Name m _) [a] [⟨some dn, .Constant .none _ _, _⟩] _ => if (m = "min" ∧ dn = "default") ∧ glB ck "min" = true then some [a] else none
  | _ => none
def xRange (ck : Ck) (x : Expr) : Option (List Expr) := match xBlt ck "range" x with
  | some [a] => some [a]
  | some [a, b] => some [a, b]
  | _ => none
def xBin (o : Operator) : Expr → Option (List Expr)
  | .BinOp a p b _ => if p = o then some [a, b] else none
  | _ => none
def xUn (o : UnaryOp) : Expr → Option (List Expr)
  | .UnaryOp p a _ => if p = o then some [a] else none
  | _ => none
def xCmp (o : CmpOp) : Expr → Option (List Expr)
  | .Compare a [p] [b] _ => if p = o then some [a, b] else none
  | _ => none
def xSub : Expr → Option (List Expr)
  | .Subscript a b _ => some [a, b]
  | _ => none
def xSlc (l h : Bool) : Expr → Option (List Expr)
  | .Subscript a (.Slice none none none _) _ => if l = false ∧ h = false then some [a] else none
  | .Subscript a (.Slice (some b) none none _) _ => if l = true ∧ h = false then some [a, b] else none
  | .Subscript a (.Slice none (some b) none _) _ => if l = false ∧ h = true then some [a, b] else none
  | _ => none
def xRev : Expr → Option (List Expr)
  | .Subscript a (.Slice none none (some (.UnaryOp .USub (.Constant (.int j) _ _) _)) _) _ => if j = 1 then some [a] else none
  | _ => none
def xStp (lo hi : Option Int) (st : Int) : Expr → Option (List Expr)
  | .Subscript e (.Slice a b (some z) _) _ => if (MPW.cstO a = some lo ∧ MPW.cstO b = some hi) ∧ (MPW.cstO (some z) = some (some st) ∧ st ≠ 0) then some [e] else none
  | _ => none
def xLrng (ck : Ck) (tp : Bool) (x : Expr) : Option (List Expr) := match xBlt ck (if tp then "tuple" else "list") x with
  | some [y] => xRange ck y
  | _ => none
def xLrev (ck : Ck) (tp : Bool) (x : Expr) : Option (List Expr) := match xBlt ck (if tp then "tuple" else "list") x with
  | some [y] => one (xBlt ck "reversed" y)
  | _ => none
def xIsi (ck : Ck) (c : Nat) (x : Expr) : Option (List Expr) := match xBlt ck "isinstance" x with
  | some [y, z] => if isNm ck (xCls c) z = true ∧ c < 6 then some [y] else none
  | _ => none
def xIsi2 (ck : Ck) (x : Expr) : Option (List Expr) := match xBlt ck "isinstance" x with
  | some [y, .Tuple [z, w] _ _] => if isNm ck (xCls 4) z = true ∧ isNm ck (xCls 3) w = true then some [y] else none
  | _ => none
def xIsn (ck : Ck) (x : Expr) : Option (List Expr) := match xBlt ck "isinstance" x with
  | some [y, z] => some [y, z]
  | _ => none
def xIsv (ck : Ck) (x : Expr) : Option (List Expr) := match xBlt ck "isinstance" x with
  | some [y, z] => if isNm ck "ValueError" z = true then some [y] else none
  | _ => none
/-- an operator's operands -/
def opArgs (ck : Ck) : Op → Expr → Option (List Expr)
  | .bin o, x => xBin o x
  | .neg, x => xUn .USub x
  | .inv, x => xUn .Invert x
  | .cmp o, x => xCmp o x
  | .sub, x => xSub x
  | .slc l h, x => xSlc l h x
  | .rev, x => xRev x
  | .len, x => one (xBlt ck "len" x)
  | .abs, x => one (xBlt ck "abs" x)
  | .min2, x => two (xBlt ck "min" x)
  | .max2, x => two (xBlt ck "max" x)
  | .minl, x => one (xBlt ck "min" x)
  | .mnn, x => xMnn ck x
  | .maxl, x => one (xBlt ck "max" x)
  | .suml, x => one (xBlt ck "sum" x)
  | .intc, x => one (xBlt ck "int" x)
  | .boolc, x => one (xBlt ck "bool" x)
  | .tupc, x => one (xBlt ck "tuple" x)
  | .lstc, x => one (xBlt ck "list" x)
  | .srt, x => one (xBlt ck "sorted" x)
  | .alll, x => one (xBlt ck "all" x)
  | .anyl, x => one (xBlt ck "any" x)
  | .lrng tp, x => xLrng ck tp x
  | .lrev tp, x => xLrev ck tp x
  | .isi c, x => xIsi ck c x
  | .isi2, x => xIsi2 ck x
  | .idx, _ => none
  | .cnt, _ => none
  | .stp lo hi st, x => xStp lo hi st x
  | .isn, x => xIsn ck x
  | .isv, x => xIsv ck x
def xPop (ck : Ck) (i : Nat) (x : Expr) : Option (List Expr) := match xMeth "pop" x with
  | some (o, []) => if xVar ck i o = true then some [] else none
  | some (o, [y]) => if xVar ck i o = true then some [y] else none
  | _ => none
def xIxl (ck : Ck) (i : Nat) (x : Expr) : Option (List Expr) := match xMeth "index" x with
  | some (o, [y]) => if xVar ck i o = true then some [y] else none
  | _ => none
def xDnew : Expr → Bool
  | .Dict [] [] _ => true
  | _ => false
def xTmt (c : Bool) (x : Expr) : Option (Expr × Expr) := match xMeth (if c then "count" else "index") x with
  | some (o, [y]) => some (o, y)
  | _ => none
def xFnv (ck : Ck) (f : Nat) : Expr → Bool
  | .Name x _ => decide ((ck.P[f]?.map FD.name) = some x) && glB ck x
  | _ => false
def calB : Expr → Bool
  | .Name _ _ => true
  | .Subscript _ _ _ => true
  | _ => false
def xCal : Expr → Option (Expr × List Expr)
  | .Call fx (y :: ys) [] _ => if calB fx then some (fx, y :: ys) else none
  | _ => none
def interl : List (Option Expr) → List Expr → Option (List Expr)
  | [], [] => some []
  | some k :: ks, v :: vs => (interl ks vs).map fun r => k :: v :: r
  | _, _ => none
def xDsp : Expr → Option (List Expr)
  | .Dict (k :: ks) vs _ => if ks.length ≤ 14 then interl (k :: ks) vs else none
  | _ => none
def dgB : Expr → Bool
  | .Name _ _ => true
  | .Dict _ _ _ => true
  | _ => false
def xDgt (x : Expr) : Option (Expr × Expr × Expr) := match xMeth "get" x with
  | some (o, [y, z]) => if dgB o = true then some (o, y, z) else none
  | _ => none
/-- what a for walks: its operands -/
def itArgs (ck : Ck) : IK → Expr → Option (List Expr)
  | .seq, x => some [x]
  | .range, x => match xBlt ck "range" x with
    | some [a] => some [a]
    | some [a, b] => some [a, b]
    | some [a, b, c] => some [a, b, c]
    | _ => none
  | .enum, x => one (xBlt ck "enumerate" x)
  | .zip, x => two (xBlt ck "zip" x)
  | .rev, x => one (xBlt ck "reversed" x)
  | .revr, x => match xBlt ck "reversed" x with
    | some [y] => one (xBlt ck "range" y)
    | _ => none
/-- a target: names that are the def's (or the block's) own -/
def xTgt1 (ck : Ck) (i : Nat) : Expr → Bool
  | .Name x _ => decide (ck.N[i]? = some x) && locB ck x
  | _ => false
def xTgts (ck : Ck) : List Nat → List Expr → Bool
  | [], [] => true
  | i :: is, x :: xs => xTgt1 ck i x && xTgts ck is xs
  | _, _ => false
def isTg (ck : Ck) (tgs : List Nat) : Bool → Expr → Bool
  | false, x => (match tgs with
    | [i] => xTgt1 ck i x
    | _ => false)
  | true, .Tuple xs _ _ => xTgts ck tgs xs && decide (0 < tgs.length)
  | true, _ => false
def tpOf : Bool → Expr → Bool
  | false, _ => true
  | true, .Tuple _ _ _ => true
  | true, _ => false
def xComp : Expr → Option (Expr × Expr × Expr × List Expr × Scope)
  | .ListComp elt [⟨tg, iter, ifs, 0⟩] scope _ => some (elt, tg, iter, ifs, scope)
  | _ => none
def ownP (ck : Ck) (own : List Nat) : List (Str × Nat) := own.map fun i => (ck.N.getD i "", i)
def subB (a b : List Nat) : Bool := a.all fun i => b.contains i
/-- zip and enumerate are walked by pairs -/
def pairB : IK → Bool → Bool
  | .enum, tp => tp
  | .zip, tp => tp
  | _, _ => true
def okX : Expr → Bool
  | .Starred _ _ => false
  | .Slice _ _ _ _ => false
  | .Set _ _ _ => false
  | .SetComp _ _ _ _ => false
  | .DictComp _ _ _ _ _ => false
  | _ => true
def xVarB : Expr → Bool
  | .Name _ _ => true
  | _ => false
mutual
def isE : Ck → E → Expr → Bool
  | ck, .non, x => xNon x
  | ck, .bl b, x => xBl b x
  | ck, .int i, x => xInt i x
  | ck, .str s, x => xStr s x
  | ck, .var i, x => xVar ck i x
  | ck, .glb k, x => xGlb ck k x
  | ck, .tup es, x => (match xTup x with
    | some xs => isEs ck es xs
    | none => false)
  | ck, .lst es, x => (match xLst x with
    | some xs => isEs ck es xs
    | none => false)
  | ck, .op o es, x => (match opArgs ck o x with
    | some xs => isEs ck es xs
    | none => false)
  | ck, .chn o1 o2 a b c, x => (match xChn o1 o2 x with
    | some (p, q, r) => isE ck a p && (isE ck b q && isE ck c r)
    | none => false)
  | ck, .bop a es, x => (match xBop a x with
    | some xs => isEs ck es xs
    | none => false)
  | ck, .not a, x => (match xNot x with
    | some p => isE ck a p
    | none => false)
  | ck, .ife c a b, x => (match xIfe x with
    | some (p, q, r) => isE ck c p && (isE ck a q && isE ck b r)
    | none => false)
  | ck, .call f es, x => (match xCall ck f x with
    | some xs => isEs ck es xs
    | none => false)
  | ck, .pop i es, x => (match xPop ck i x with
    | some xs => isEs ck es xs
    | none => false)
  | ck, .comp elt tgs tp k es cs own, x => (match xComp x with
    | some (y, tg, iter, ifs, scope) => (match itArgs ck k iter with
      | some xs => isEs ck es xs && (blkC ck.N ck.sc scope (ownP ck own) && (isTg { ck with sc := relS scope ck.sc, ws := scope } tgs tp tg && (subB tgs own && (pairB k tp && (isEs { ck with sc := relS scope ck.sc, ws := scope } cs ifs && isE { ck with sc := relS scope ck.sc, ws := scope } elt y)))))
      | none => false)
    | none => false)
  | _, .any, x => okX x
  | ck, .ixl i es, x => (match xIxl ck i x with
    | some xs => isEs ck es xs
    | none => false)
  | ck, .rdv i, x => xVar ck i x
  | _, .dnew, x => xDnew x
  | ck, .tmt c e a, x => (match xTmt c x with
    | some (o, y) => xVarB o && (isE ck e o && isE ck a y)
    | none => false)
  | ck, .fnv f, x => xFnv ck f x
  | ck, .cal e es, x => (match xCal x with
    | some (fx, xs) => isE ck e fx && isEs ck es xs
    | none => false)
  | ck, .dsp es, x => (match xDsp x with
    | some xs => isEs ck es xs
    | none => false)
  | ck, .dgt e k d, x => (match xDgt x with
    | some (o, y, z) => isE ck e o && (isE ck k y && isE ck d z)
    | none => false)
def isEs : Ck → List E → List Expr → Bool
  | _, [], [] => true
  | ck, e :: es, x :: xs => isE ck e x && isEs ck es xs
  | _, _, _ => false
end
theorem xCallN_some {x : Expr} {n : Str} {es : List Expr} (h : xCallN x = some (n, es)) : ∃ p pos, x = .Call (.Name n p) es [] pos := by
  unfold xCallN at h
  split at h
  · cases h; exact ⟨_, _, rfl⟩
  · cases h
theorem xBlt_some {ck : Ck} {x : Expr} {n : Str} {es : List Expr} (h : xBlt ck n x = some es) : (∃ p pos, x = .Call (.Name n p) es [] pos) ∧ glB ck n = true := by
  unfold xBlt at h
  split at h
  · rename_i m es' e
    split at h
    · rename_i hc
      cases h
      rw [hc.1] at e
      exact ⟨xCallN_some e, hc.2⟩
    · cases h
  · cases h
theorem xCall_some {ck : Ck} {x : Expr} {f : Nat} {es : List Expr} (h : xCall ck f x = some es) : ∃ fd p pos, ck.P[f]? = some fd ∧ x = .Call (.Name fd.name p) es [] pos ∧ glB ck fd.name = true := by
  unfold xCall at h
  split at h
  · rename_i m es' e
    split at h
    · rename_i hc
      cases h
      obtain ⟨h1, h2⟩ := hc
      rw [Option.map_eq_some_iff] at h1
      obtain ⟨fd, h3, h4⟩ := h1
      obtain ⟨p, pos, e'⟩ := xCallN_some e
      exact ⟨fd, p, pos, h3, by rw [h4]; exact e', by rw [h4]; exact h2⟩
    · cases h
  · cases h
theorem one_some {α : Type} {o : Option (List α)} {xs : List α} (h : one o = some xs) : ∃ a, o = some [a] ∧ xs = [a] := by
  unfold one at h
  split at h
  · cases h; exact ⟨_, rfl, rfl⟩
  · cases h
theorem two_some {α : Type} {o : Option (List α)} {xs : List α} (h : two o = some xs) : ∃ a b, o = some [a, b] ∧ xs = [a, b] := by
  unfold two at h
  split at h
  · cases h; exact ⟨_, _, rfl, rfl⟩
  · cases h
theorem xMeth_some {n : Str} {x o : Expr} {es : List Expr} (h : xMeth n x = some (o, es)) : ∃ ap cp, x = .Call (.Attribute o n ap) es [] cp ∧ (ap.endLine == cp.line) = true := by
  unfold xMeth at h
  split at h
  · split at h
    · rename_i hc
      cases h
      exact ⟨_, _, by rw [hc.1], hc.2⟩
    · cases h
  · cases h
theorem isE_okX {ck : Ck} {e : E} {x : Expr} (h : isE ck e x = true) : okX x = true := by
  cases x <;> first
    | rfl
    | (cases e <;> first
        | (exact absurd h Bool.false_ne_true)
        | (rename_i o es
           have h' : (match opArgs ck o _ with | some xs => isEs ck es xs | none => false) = true := h
           cases o <;> exact absurd h' Bool.false_ne_true))
/-- an exception as told -/
def XnOk (B : Bg) (H : Hp) (x : Xn) (cls : Value) (d : Option Addr) : Prop :=
  ∃ a, cls = .ref a ∧ (B.ca x.cls = some a ∧ B.sup x.cls = x.sup) ∧ match x.fld with
    | none => d = none
    | some t => ∃ dx nm v, d = some dx ∧ B.cf x.cls = some nm ∧ H dx = some (.xd [(nm, v)]) ∧ Rp B H v t
abbrev Rel (α β : Type) := Hp → L2.St → Hp → Hp → En → α → β → Prop
def At {α β : Type} (B : Bg) (W : WX) (F : Hp) (A : Nat → Addr) (σ : L2.St) (G : Hp) (r : R α) (rel : Rel α β) (Q : β → Hp → Prop) : Prop := match r with
  | .bad => False
  | .ex x g' => ∀ cls d H' G', XnOk B G' x cls d → Same G G' → Sim B F A σ H' G' g' → W cls d σ H'
  | .ok a g' => ∀ b H' G', Same G G' → Sim B F A σ H' G' g' → rel F σ H' G' g' a b → Q b H'
def Lf {α β : Type} (B : Bg) (W : WX) (m : En → R α) (rel : Rel α β) : L2.St → Hp → (β → Hp → Prop) → Prop := fun σ H Q =>
  ∃ F A G g, Sim B F A σ H G g ∧ At B W F A σ G (m g) rel Q
def relE (B : Bg) : Rel (Bool × T) V := fun F σ H G g a v => Res B F σ H G g a.1 v a.2
def relF (B : Bg) : Rel T V := fun F σ H G g t v => Rp B G v t
def relFs (B : Bg) : Rel (List T) (List V) := fun F σ H G g ts vs => RpL B G vs ts
def relO (B : Bg) : Rel Od V := fun F σ H G g o v => OdOk B G σ [o] [v]
def relOs (B : Bg) : Rel (List Od) (List V) := fun F σ H G g os vs => OdOk B G σ os vs
def relB : Rel Bool Bool := fun _ _ _ _ _ a b => a = b
theorem Same.refl' (H : Hp) : Same H H := fun _ _ e => e
section
variable {B : Bg} {W : WX} {F : Hp} {A : Nat → Addr} {σ : L2.St} {H G G1 : Hp} {g : En} {α β γ δ : Type} {rel : Rel α β}
theorem At.up {r : R α} {Q : β → Hp → Prop} (h : At B W F A σ G r rel Q) (s : Same G G1) : At B W F A σ G1 r rel Q := by
  cases r with
  | bad => exact h
  | ex x g' => exact fun cls d H' G' x1 s1 S1 => h cls d H' G' x1 (s.trans s1) S1
  | ok a g' => exact fun b H' G' s1 S1 r1 => h b H' G' (s.trans s1) S1 r1
theorem At.imp {r : R α} {Q Q' : β → Hp → Prop} (h : At B W F A σ G r rel Q) (k : ∀ b H, Q b H → Q' b H) : At B W F A σ G r rel Q' := by
  cases r with
  | bad => exact h
  | ex x g' => exact h
  | ok a g' => exact fun b H' G' s1 S1 r1 => k _ _ (h b H' G' s1 S1 r1)
/-- the first of two evaluations; what follows is asked where it has come -/
theorem Lf.seq {rel1 : Rel γ δ} {m : En → R γ} {f : γ → En → R α} {Q : β → Hp → Prop} {Q1 : δ → Hp → Prop} (S : Sim B F A σ H G g) (h : At B W F A σ G ((m g).bind f) rel Q)
    (k : ∀ a b H' G' g', Same G G' → Sim B F A σ H' G' g' → rel1 F σ H' G' g' a b → At B W F A σ G' (f a g') rel Q → Q1 b H') : Lf B W m rel1 σ H Q1 := by
  refine ⟨F, A, G, g, S, ?_⟩
  cases e : m g with
  | bad =>
    rw [e] at h
    exact h
  | ex x g' =>
    rw [e] at h
    exact h
  | ok a g' =>
    rw [e] at h
    have h' : At B W F A σ G (f a g') rel Q := h
    exact fun b H' G' s1 S1 r1 => k a b H' G' g' s1 S1 r1 (h'.up s1)
theorem Lf.mk {m : En → R α} {Q : β → Hp → Prop} (S : Sim B F A σ H G g) (h : At B W F A σ G (m g) rel Q) : Lf B W m rel σ H Q := ⟨F, A, G, g, S, h⟩
theorem Lf.imp {m : En → R α} {Q Q' : β → Hp → Prop} (h : Lf B W m rel σ H Q) (k : ∀ b H, Q b H → Q' b H) : Lf B W m rel σ H Q' := by
  obtain ⟨F, A, G, g, S, h⟩ := h
  exact ⟨F, A, G, g, S, h.imp k⟩
theorem At.done {Q : β → Hp → Prop} {a : α} {b : β} (h : At B W F A σ G (.ok a g) rel Q) (S : Sim B F A σ H G g) (r : rel F σ H G g a b) : Q b H := h b H G (Same.refl' G) S r
end
theorem _root_.L2.PE.imp {X : Cx} {x : Expr} {t t' : TE} (h : PE X x t) (k : ∀ σ H Q, t' σ H Q → t σ H Q) : PE X x t' := ⟨fun pins s σ H Q I q => h.run pins s σ H Q I (k σ H Q q)⟩
theorem _root_.L2.PT.imp {X : Cx} {x : Expr} {t t' : TT} (h : PT X x t) (k : ∀ σ H Q, t' σ H Q → t σ H Q) : PT X x t' := ⟨fun pins s σ H Q I q => h.run pins s σ H Q I (k σ H Q q)⟩
theorem _root_.L2.PA.imp {X : Cx} {x : List Expr} {t t' : TA} (h : PA X x t) (k : ∀ σ H Q, t' σ H Q → t σ H Q) : PA X x t' := ⟨fun pos pins s σ H Q I q => h.run pos pins s σ H Q I (k σ H Q q)⟩
theorem _root_.L2.PS.imp {X : Cx} {x : Stmt} {t t' : TS} (h : PS X x t) (k : ∀ D σ H, t' D σ H → t D σ H) : PS X x t' := ⟨fun pins s σ H D I q => h.run pins s σ H D I (k D σ H q)⟩
theorem _root_.L2.PSs.imp {X : Cx} {x : List Stmt} {t t' : TS} (h : PSs X x t) (k : ∀ D σ H, t' D σ H → t D σ H) : PSs X x t' := ⟨fun pins s σ H D I q => h.run pins s σ H D I (k D σ H q)⟩
/-- one operand -/
def ev1 (C : Cn) (e : E) (g : En) : R Od := match ownVar e g with
  | some i => .ok (.s i) g
  | none => (ev C e g).bind fun x g1 => .ok (.t x.2) g1
/-- one, shared -/
def evF (C : Cn) (e : E) (g : En) : R T := (ev C e g).bind fun x g1 => .ok x.2 g1
theorem R.bind_bind {α β γ : Type} (r : R α) (f : α → En → R β) (k : β → En → R γ) : (r.bind f).bind k = r.bind fun a g => (f a g).bind k := by
  cases r <;> rfl
theorem evOs_cons (C : Cn) (e : E) (es : List E) (g : En) : evOs C (e :: es) g = (ev1 C e g).bind fun o g1 => (evOs C es g1).bind fun os g2 => .ok (o :: os) g2 := by
  rw [evOs, ev1]
  cases ownVar e g with
  | some i => rfl
  | none => rw [R.bind_bind]; rfl
theorem evFs_cons (C : Cn) (e : E) (es : List E) (g : En) : evFs C (e :: es) g = (evF C e g).bind fun o g1 => (evFs C es g1).bind fun os g2 => .ok (o :: os) g2 := by
  rw [evFs, evF, R.bind_bind]; rfl
theorem odOk_cons {B : Bg} {G : Hp} {σ : L2.St} {o : Od} {v : V} {os : List Od} {vs : List V} (h : OdOk B G σ [o] [v]) (t : OdOk B G σ os vs) : OdOk B G σ (o :: os) (v :: vs) := by
  cases h with
  | t r _ => exact .t r t
  | s e _ => exact .s e t
def bltNames : List Str := ["len", "abs", "min", "max", "sum", "int", "bool", "tuple", "list", "sorted", "all", "any", "range", "enumerate", "zip", "reversed", "isinstance", "str", "dict", "set", "ValueError"]
/-- what a def promises: what its evaluation tells -/
def spF (P : List FD) (glb : Nat → Option T) (wf : Nat) (B : Bg) (d f : Nat) (n : Nat) : Sp := fun vs H Q E =>
  vs.length = n ∧ ∃ (F : Hp) (A : Nat → Addr) (G : Hp) (as : List Sl), Sim B F A (vs.map some) H G as ∧
    At B (fun cls d _ H => E cls d H) F A (vs.map some) G (callF P glb wf d f as) (relE B) Q
structure Gd (P : List FD) (glb : Nat → Option T) (wf d : Nat) (B : Bg) (ck : Ck) (X : Cx) (W : WX) : Prop where
  calm : X.calm = true
  nd : X.N.Nodup
  hN : X.N = ck.N
  sc : X.env.scope = ck.sc
  fn : ∀ x, ck.ws.names.lookup x = some .local ∨ ck.ws.names.lookup x = some .cell → L2.Loc X.env.scope x ∧ (X.fn x = true ∨ X.env.scope.names.lookup x = some .local)
  un : X.A.units + 65 < cLine
  hK : X.K = B.K
  hP : ck.P = P
  blt : ∀ x ∈ bltNames, X.mg x = none
  hg : ∀ (k : Nat) (x : Str) (t : T), ck.gn[k]? = some x → glb k = some t → ∃ v u, X.mg x = some u ∧ RelV v u ∧ ∀ H, Rp B H v t
  exf : ∀ (k : Nat) (D : Addr), B.ca k = some D → ExF B k D
  exn : ∀ (k c : Nat) (x : Str) (sup fl : List Nat), ck.gn[k]? = some x → glb k = some (.cls c sup fl) → ∃ D, B.ca c = some D ∧ B.sup c = sup ∧ X.mg x = some (.ref D) ∧ (fl = [] → PySem.W.excIn B.K D PySem.HandSPX.veTail "ValueError.__new__" = true)
  fa : ∀ (f : Nat) (a : Addr), B.fa f = some a → ∃ fd, P[f]? = some fd ∧ X.mg fd.name = some (.ref a)
  af : ∀ (f : Nat) (fd : FD), P[f]? = some fd → ∃ a, B.fa f = some a ∧ X.mg fd.name = some (.ref a)
  fns : ∀ (f : Nat) (fd : FD), P[f]? = some fd → ∃ a fdat, X.mg fd.name = some (.ref a) ∧ PySem.W.keepIn X.K (.ref a) = true ∧ Binds X.K fdat fd.ps [] ∧
    FnOk X.prog X.w X.K X.mg X.base (L2.CX X.prog X.w) d a fdat fd.ps (spF P glb wf B d f fd.ps.length)
  room : Room d X.A
  tk : Takes X W
section
variable {P : List FD} {glb : Nat → Option T} {wf d : Nat} {B : Bg} {ck : Ck} {X : Cx} {W : WX}
theorem Gd.gl (G : Gd P glb wf d B ck X W) {x : Str} (h : glB ck x = true) : Gl X x ∧ (x == ("__debug__" : Str)) = false := by
  unfold glB at h
  rw [Bool.and_eq_true, decide_eq_true_eq, Bool.not_eq_true'] at h
  refine ⟨?_, h.2⟩
  show X.env.scope.names.lookup x = _
  rw [G.sc]
  exact h.1
theorem Gd.vis (G : Gd P glb wf d B ck X W) {x : Str} (h : visB ck x = true) : Vis X.env.scope x ∧ (x == ("__debug__" : Str)) = false ∧ (x == ("__classdict__" : Str)) = false := by
  unfold visB at h
  simp only [Bool.and_eq_true, Bool.or_eq_true, decide_eq_true_eq, Bool.not_eq_true'] at h
  refine ⟨?_, h.1.2, h.2⟩
  unfold Vis
  rw [G.sc]
  exact h.1.1
theorem Gd.loc (G : Gd P glb wf d B ck X W) {x : Str} (h : locB ck x = true) : L2.Loc X.env.scope x ∧ (X.fn x = true ∨ X.env.scope.names.lookup x = some .local) := by
  unfold locB at h
  simp only [Bool.and_eq_true, Bool.or_eq_true, decide_eq_true_eq, Bool.not_eq_true'] at h
  exact G.fn x h.1.1
theorem Gd.no (G : Gd P glb wf d B ck X W) (x : Str) (h : x ∈ bltNames := by decide +kernel) : X.mg x = none := G.blt x h
/-- a name in a slot -/
theorem Gd.pvar (G : Gd P glb wf d B ck X W) {i : Nat} {x : Expr} (h : xVar ck i x = true) : PE X x (tVar i) := by
  unfold xVar at h
  split at h
  · rw [Bool.and_eq_true, decide_eq_true_eq] at h
    obtain ⟨h1, h2, h3⟩ := G.vis h.2
    exact pe_var (by rw [G.hN]; exact h.1) h1 h2 h3
  · cases h
/-- an operand: an expression's value, or the name's own list -/
theorem Gd.pO (G : Gd P glb wf d B ck X W) {C : Cn} {e : E} {x : Expr} (hx : isE ck e x = true) (h : PE X x (Lf B W (ev C e) (relE B))) : PE X x (Lf B W (ev1 C e) (relO B)) := by
  refine ⟨fun pins s σ H Q I q => ?_⟩
  obtain ⟨F, A, G0, g, S, q⟩ := q
  unfold ev1 at q
  cases eo : ownVar e g with
  | some i =>
    rw [eo] at q
    have hv : e = .var i ∧ ∃ t, ownS g i = some t := by
      unfold ownVar at eo
      split at eo
      · split at eo
        · rename_i t et
          cases eo
          exact ⟨rfl, t, et⟩
        · cases eo
      · cases eo
    obtain ⟨rfl, t, et⟩ := hv
    obtain ⟨a, h1, _⟩ := S.ownAt et
    have hx' : xVar ck i x = true := by simpa [isE] using hx
    refine (G.pvar hx').run pins s σ H Q I ⟨_, h1, ?_⟩
    exact At.done q S (OdOk.s h1 .nil)
  | none =>
    rw [eo] at q
    refine h.run pins s σ H Q I ?_
    refine Lf.seq (rel1 := relE B) S q fun a b H1 G1 g1 s1 S1 r1 q1 => ?_
    obtain ⟨G2, s2, S2, r2⟩ := S1.shareR r1
    exact At.done (q1.up s2) S2 (OdOk.t r2 .nil)
/-- .. shared -/
theorem Gd.pF (G : Gd P glb wf d B ck X W) {C : Cn} {e : E} {x : Expr} (h : PE X x (Lf B W (ev C e) (relE B))) : PE X x (Lf B W (evF C e) (relF B)) := by
  refine h.imp fun σ H Q q => ?_
  obtain ⟨F, A, G0, g, S, q⟩ := q
  refine Lf.seq (rel1 := relE B) S q fun a b H1 G1 g1 s1 S1 r1 q1 => ?_
  obtain ⟨G2, s2, S2, r2⟩ := S1.shareR r1
  exact At.done (q1.up s2) S2 r2
theorem star_of {x : Expr} (h : okX x = true) (xs : List Expr) (env : Env) : starEach (x :: xs) env = (false, eval x env) :: starEach xs env := by
  cases x <;> first | rfl | cases h
/-- operands in a row: the expressions that they are -/
inductive POs (C : Cn) (B : Bg) (W : WX) (X : Cx) : List Expr → List E → Prop
  | nil : POs C B W X [] []
  | cons {x : Expr} {e : E} {xs : List Expr} {es : List E} : PE X x (Lf B W (ev1 C e) (relO B)) → okX x = true → POs C B W X xs es → POs C B W X (x :: xs) (e :: es)
inductive PFs (C : Cn) (B : Bg) (W : WX) (X : Cx) : List Expr → List E → Prop
  | nil : PFs C B W X [] []
  | cons {x : Expr} {e : E} {xs : List Expr} {es : List E} : PE X x (Lf B W (evF C e) (relF B)) → okX x = true → PFs C B W X xs es → PFs C B W X (x :: xs) (e :: es)
theorem POs.args {C : Cn} : ∀ {xs : List Expr} {es : List E}, POs C B W X xs es → PA X xs (Lf B W (evOs C es) (relOs B))
  | _, _, .nil => pa_nil.imp fun σ H Q q => by
    obtain ⟨F, A, G, g, S, q⟩ := q
    exact At.done q S .nil
  | _, _, .cons h1 h2 h3 => (pa_cons h1 h3.args (star_of h2 _ _)).imp fun σ H Q q => by
    obtain ⟨F, A, G, g, S, q⟩ := q
    rw [evOs_cons] at q
    refine Lf.seq (rel1 := relO B) S q fun a b H1 G1 g1 s1 S1 r1 q1 => ?_
    refine Lf.seq (rel1 := relOs B) S1 q1 fun as bs H2 G2 g2 s2 S2 r2 q2 => ?_
    exact At.done q2 S2 (odOk_cons (OdOk.mono r1 s2) r2)
theorem PFs.args {C : Cn} : ∀ {xs : List Expr} {es : List E}, PFs C B W X xs es → PA X xs (Lf B W (evFs C es) (relFs B))
  | _, _, .nil => pa_nil.imp fun σ H Q q => by
    obtain ⟨F, A, G, g, S, q⟩ := q
    exact At.done q S .nil
  | _, _, .cons h1 h2 h3 => (pa_cons h1 h3.args (star_of h2 _ _)).imp fun σ H Q q => by
    obtain ⟨F, A, G, g, S, q⟩ := q
    rw [evFs_cons] at q
    refine Lf.seq (rel1 := relF B) S q fun a b H1 G1 g1 s1 S1 r1 q1 => ?_
    refine Lf.seq (rel1 := relFs B) S1 q1 fun as bs H2 G2 g2 s2 S2 r2 q2 => ?_
    exact At.done q2 S2 (.cons (Rp.mono s2 _ _ r1) r2)
end
end MP
namespace MP
open PySem PySem.Spec L2
def opK (o : Op) (os : List Od) (g : En) : R (Bool × T) := match (odTs g os).bind (opF o) with
  | some r => .ok r g
  | none => .bad
theorem ev_op (C : Cn) (o : Op) (es : List E) (g : En) : ev C (.op o es) g = (evOs C es g).bind fun os g' => opK o os g' := by
  rw [ev]; rfl
section
variable {B : Bg} {W : WX} {F : Hp} {A : Nat → Addr} {σ : L2.St} {H G : Hp} {g : En} {Q : VK}
theorem opK_at {o : Op} {os : List Od} {vs : List V} (S : Sim B F A σ H G g) (ok : OdOk B G σ os vs) (q : At B W F A σ G (opK o os g) (relE B) Q) :
    ∃ ts r, RpXs B H G vs ts ∧ opF o ts = some r ∧ Kt B F A σ G g r Q := by
  unfold opK at q
  cases e : odTs g os with
  | none => rw [e] at q; exact q.elim
  | some ts =>
    rw [e] at q
    cases e2 : opF o ts with
    | none =>
      rw [Option.bind_some, e2] at q
      exact q.elim
    | some r =>
      rw [Option.bind_some, e2] at q
      exact ⟨ts, r, S.ods ok e, e2, fun v H' G' s1 S1 r1 => q v H' G' s1 S1 r1⟩
theorem RpXs.one {vs : List V} {t : T} (h : RpXs B H G vs [t]) : ∃ v, vs = [v] ∧ RpX B H G v t := by
  cases h with
  | cons h1 h2 => cases h2; exact ⟨_, rfl, h1⟩
theorem RpXs.two {vs : List V} {t u : T} (h : RpXs B H G vs [t, u]) : ∃ v w, vs = [v, w] ∧ RpX B H G v t ∧ RpX B H G w u := by
  cases h with
  | cons h1 h2 =>
    obtain ⟨w, rfl, h3⟩ := h2.one
    exact ⟨_, w, rfl, h1, h3⟩
theorem RpXs.len {vs : List V} {ts : List T} (h : RpXs B H G vs ts) : vs.length = ts.length := by
  induction h with
  | nil => rfl
  | cons _ _ ih => rw [List.length_cons, List.length_cons, ih]
theorem RpXs.one' {v : V} {ts : List T} (h : RpXs B H G [v] ts) : ∃ t, ts = [t] ∧ RpX B H G v t := by
  cases h with
  | cons h1 h2 => cases h2; exact ⟨_, rfl, h1⟩
theorem RpXs.two' {v w : V} {ts : List T} (h : RpXs B H G [v, w] ts) : ∃ t u, ts = [t, u] ∧ RpX B H G v t ∧ RpX B H G w u := by
  cases h with
  | cons h1 h2 =>
    obtain ⟨u, rfl, h3⟩ := h2.one'
    exact ⟨_, u, rfl, h1, h3⟩
theorem RpXs.three' {v w x : V} {ts : List T} (h : RpXs B H G [v, w, x] ts) : ∃ t u r, ts = [t, u, r] ∧ RpX B H G v t ∧ RpX B H G w u ∧ RpX B H G x r := by
  cases h with
  | cons h1 h2 =>
    obtain ⟨u, r, rfl, h3, h4⟩ := h2.two'
    exact ⟨_, u, r, rfl, h1, h3, h4⟩
end
section
variable {P : List FD} {glb : Nat → Option T} {wf d : Nat} {B : Bg} {ck : Ck} {X : Cx} {W : WX} {C : Cn}
/-- what an operator's rule is to say -/
abbrev Snd (B : Bg) (o : Op) (r : List V → Hp → VK → Prop) : Prop := ∀ {F : Hp} {A : Nat → Addr} {σ : L2.St} {H G : Hp} {g : En} {Q : VK} {vs : List V} {ts : List T} {res : Bool × T},
  Sim B F A σ H G g → RpXs B H G vs ts → opF o ts = some res → Kt B F A σ G g res Q → r vs H Q
theorem one_pe {o : Op} {x : Expr} {e : E} {k : V → Hp → VK → Prop} (h : PE X x (fun σ H Q => Lf B W (ev1 C e) (relO B) σ H fun v H1 => k v H1 Q))
    (s : ∀ {F : Hp} {A : Nat → Addr} {σ : L2.St} {H G : Hp} {g : En} {Q : VK} {v : V} {ts : List T} {res : Bool × T}, Sim B F A σ H G g → RpXs B H G [v] ts → opF o ts = some res → Kt B F A σ G g res Q → k v H Q) : PE X x (Lf B W (ev C (.op o [e])) (relE B)) := by
  refine h.imp fun σ H Q q => ?_
  obtain ⟨F, A, G, g, S, q⟩ := q
  rw [ev_op, evOs_cons, R.bind_bind] at q
  refine Lf.seq (rel1 := relO B) S q fun a b H1 G1 g1 s1 S1 r1 q1 => ?_
  have q2 : At B W F A σ G1 (opK o [a] g1) (relE B) Q := by
    rw [evOs] at q1
    exact q1
  obtain ⟨ts, r, h1, h2, h3⟩ := opK_at S1 (show OdOk B G1 σ [a] [b] from r1) q2
  exact s S1 h1 h2 h3
theorem two_pe {o : Op} {x : Expr} {e e2 : E} {k : V → V → Hp → VK → Prop} (h : PE X x (fun σ H Q => Lf B W (ev1 C e) (relO B) σ H fun v H1 => Lf B W (ev1 C e2) (relO B) σ H1 fun w H2 => k v w H2 Q))
    (s : ∀ {F : Hp} {A : Nat → Addr} {σ : L2.St} {H G : Hp} {g : En} {Q : VK} {v w : V} {ts : List T} {res : Bool × T}, Sim B F A σ H G g → RpXs B H G [v, w] ts → opF o ts = some res → Kt B F A σ G g res Q → k v w H Q) : PE X x (Lf B W (ev C (.op o [e, e2])) (relE B)) := by
  refine h.imp fun σ H Q q => ?_
  obtain ⟨F, A, G, g, S, q⟩ := q
  rw [ev_op, evOs_cons, R.bind_bind] at q
  refine Lf.seq (rel1 := relO B) S q fun a b H1 G1 g1 s1 S1 r1 q1 => ?_
  rw [R.bind_bind, evOs_cons, R.bind_bind] at q1
  refine Lf.seq (rel1 := relO B) S1 q1 fun a2 b2 H2 G2 g2 s2 S2 r2 q2 => ?_
  have q3 : At B W F A σ G2 (opK o [a, a2] g2) (relE B) Q := by
    rw [evOs] at q2
    exact q2
  obtain ⟨ts, r, h1, h2, h3⟩ := opK_at S2 (odOk_cons (OdOk.mono r1 s2) r2) q3
  exact s S2 h1 h2 h3
theorem args_pe {o : Op} {x : Expr} {es : List E} {r : List V → Hp → VK → Prop} (h : PE X x (tCB r (Lf B W (evOs C es) (relOs B)))) (s : Snd B o r) : PE X x (Lf B W (ev C (.op o es)) (relE B)) := by
  refine h.imp fun σ H Q q => ?_
  obtain ⟨F, A, G, g, S, q⟩ := q
  rw [ev_op] at q
  refine Lf.seq (rel1 := relOs B) S q fun a b H1 G1 g1 s1 S1 r1 q1 => ?_
  obtain ⟨ts, r', h1, h2, h3⟩ := opK_at S1 r1 q1
  exact s S1 h1 h2 h3
theorem POs.okAll : ∀ {xs : List Expr} {es : List E}, POs C B W X xs es → ∀ pos env, (backTo pos (starEach xs env)).any (·.1) = false
  | _, _, .nil => fun _ _ => rfl
  | _, _, .cons h1 h2 h3 => fun pos env => by
    rw [star_of h2]
    have ih := h3.okAll pos env
    unfold backTo at ih ⊢
    rw [List.map_cons, List.any_cons, ih]
    rfl
theorem blt_pe (G : Gd P glb wf d B ck X W) {o : Op} {x : Expr} {xs : List Expr} {es : List E} {n : Str} {id : String} {r : List V → Hp → VK → Prop} (h : xBlt ck n x = some xs) (hb : n ∈ bltNames) (hne : xs ≠ []) (hv : bootBuiltins n = some (.builtin id)) (hn : n ≠ "__name__")
    (ps : POs C B W X xs es) (hc : CallR X (.builtin id) r) (s : Snd B o r) : PE X x (Lf B W (ev C (.op o es)) (relE B)) := by
  obtain ⟨⟨p, pos, rfl⟩, hg⟩ := xBlt_some h
  obtain ⟨g1, g2⟩ := G.gl hg
  cases ps with
  | nil => exact absurd rfl hne
  | cons h1 h2 h3 => exact args_pe (pe_callB hc g1 (G.blt n hb) hv (POs.args (.cons h1 h2 h3)) hn g2 (star_of h2 _ _) (h3.okAll _ _)) s
theorem ty_pe (G : Gd P glb wf d B ck X W) {o : Op} {x : Expr} {xs : List Expr} {es : List E} {n : Str} {T : String} {r : List V → Hp → VK → Prop} (h : xBlt ck n x = some xs) (hb : n ∈ bltNames) (hne : xs ≠ []) (hv : bootBuiltins n = some (.type T)) (hn : n ≠ "__name__")
    (ps : POs C B W X xs es) (hc : CallR X (.type T) r) (s : Snd B o r) : PE X x (Lf B W (ev C (.op o es)) (relE B)) := by
  obtain ⟨⟨p, pos, rfl⟩, hg⟩ := xBlt_some h
  obtain ⟨g1, g2⟩ := G.gl hg
  cases ps with
  | nil => exact absurd rfl hne
  | cons h1 h2 h3 => exact args_pe (pe_callTy hc g1 (G.blt n hb) hv (POs.args (.cons h1 h2 h3)) hn g2 (star_of h2 _ _) (h3.okAll _ _)) s
theorem okX_plainIx {x : Expr} (h : okX x = true) : PlainIx x := by
  cases x <;> first
    | exact fun _ _ => rfl
    | cases h
theorem okX_noMark {x : Expr} (h : okX x = true) (o : CmpOp) : behindInMarks o x = false := by
  cases x <;> first
    | rfl
    | cases h
theorem s_len : Snd B .len (fun xs H Q => ∃ x n, xs = [x] ∧ LenV B.K x H n ∧ Q (.int n) H) := by
  intro F A σ H G g Q vs ts res S h e k
  replace e : lenF ts = some res := e
  unfold lenF at e
  split at e
  · cases e
    obtain ⟨v, rfl, r⟩ := h.one
    obtain ⟨a, ws, rfl, h1, h2, _⟩ := r.lst S.sub
    exact ⟨_, _, rfl, .inl ⟨ws, .inl (.inl h1), h2.length.symm⟩, k.val S (.int _)⟩
  · cases e
    obtain ⟨v, rfl, r⟩ := h.one
    obtain ⟨a, ws, rfl, h1, h2, _⟩ := r.tup
    exact ⟨_, _, rfl, .inr ⟨ws, S.sqT h1, h2.length.symm⟩, k.val S (.int _)⟩
  · rename_i ns
    cases e
    obtain ⟨v, rfl, r⟩ := h.one
    obtain ⟨a, rfl, h1, _⟩ := r.scr
    exact ⟨_, ns.length, rfl, .inl ⟨_, S.sub.seq h1, by rw [List.length_map]⟩, k.val S (.int _)⟩
  · rename_i z
    split at e
    · rename_i hz
      cases e
      obtain ⟨v, rfl, r⟩ := h.one
      cases r.str
      exact ⟨_, z.length, rfl, ⟨by rw [len_str]; exact hz, (len_str z).symm⟩, k.val S (.int _)⟩
    · cases e
  · cases e
theorem s_abs : Snd B .abs (fun xs H Q => ∃ i, xs = [.int i] ∧ Q (.int (if i < 0 then -i else i)) H) := by
  intro F A σ H G g Q vs ts res S h e k
  replace e : absF ts = some res := e
  unfold absF at e
  split at e
  · cases e
    obtain ⟨v, rfl, r⟩ := h.one
    cases r.int
    exact ⟨_, rfl, k.val S (.int _)⟩
  · cases e
theorem s_min2 : Snd B .min2 (fun xs H Q => ∃ i j, xs = [.int i, .int j] ∧ Q (.int (if j < i then j else i)) H) := by
  intro F A σ H G g Q vs ts res S h e k
  replace e : min2F ts = some res := e
  unfold min2F at e
  split at e
  · cases e
    obtain ⟨v, w, rfl, r, r2⟩ := h.two
    cases r.int
    cases r2.int
    exact ⟨_, _, rfl, k.val S (.int _)⟩
  · cases e
theorem s_max2 : Snd B .max2 (fun xs H Q => ∃ i j, xs = [.int i, .int j] ∧ Q (.int (if j > i then j else i)) H) := by
  intro F A σ H G g Q vs ts res S h e k
  replace e : max2F ts = some res := e
  unfold max2F at e
  split at e
  · cases e
    obtain ⟨v, w, rfl, r, r2⟩ := h.two
    cases r.int
    cases r2.int
    exact ⟨_, _, rfl, k.val S (.int _)⟩
  · cases e
/-- the operand is a list of ints -/
theorem intL_at {F : Hp} {A : Nat → Addr} {σ : L2.St} {H G : Hp} {g : En} {vs : List V} {ts : List T} {ns : List Int} (S : Sim B F A σ H G g) (h : RpXs B H G vs ts) (e : intL ts = some ns) :
    ∃ a, vs = [.ref a] ∧ H a = some (.lst (ns.map V.int)) ∧ RpL B G (ns.map V.int) (ns.map T.int) ∧ ns.length ≤ sizeLine := by
  unfold intL at e
  split at e
  · obtain ⟨v, rfl, r⟩ := h.one
    obtain ⟨a, ws, rfl, h1, h2, h3⟩ := r.lst S.sub
    have e2 := intsT_eq e
    subst e2
    have e3 := h2.isInts
    subst e3
    exact ⟨a, rfl, h1, h2, by rw [List.length_map] at h3; exact h3⟩
  · cases e
theorem blL_at {F : Hp} {A : Nat → Addr} {σ : L2.St} {H G : Hp} {g : En} {vs : List V} {ts : List T} {ns : List Bool} (S : Sim B F A σ H G g) (h : RpXs B H G vs ts) (e : blL ts = some ns) :
    ∃ a, vs = [.ref a] ∧ H a = some (.lst (ns.map V.bl)) := by
  unfold blL at e
  split at e
  · obtain ⟨v, rfl, r⟩ := h.one
    obtain ⟨a, ws, rfl, h1, h2, h3⟩ := r.lst S.sub
    have e2 := blsT_eq e
    subst e2
    have e3 := h2.isBls
    subst e3
    exact ⟨a, rfl, h1⟩
  · cases e
theorem s_minl : Snd B .minl (rMin B.K) := by
  intro F A σ H G g Q vs ts res S h e k
  replace e : minlF ts = some res := e
  unfold minlF at e
  split at e
  · rename_i n ns en
    cases e
    obtain ⟨a, rfl, h1, _⟩ := intL_at S h en
    refine ⟨a, n :: ns, rfl, .inl (.inl h1), Nat.zero_lt_succ _, fun m hm hy => ?_⟩
    obtain ⟨q1, q2, q3⟩ := minI_spec ns n
    have e2 : minI n ns = m := by
      refine Int.le_antisymm ?_ ?_
      · rcases List.mem_cons.mp hm with rfl | hm
        · exact q2
        · exact q3 m hm
      · rcases q1 with q1 | q1
        · rw [q1]; exact hy n List.mem_cons_self
        · exact hy _ (List.mem_cons_of_mem _ q1)
    rw [← e2]
    exact k.val S (.int _)
  · cases e
theorem s_mnn : Snd B .mnn (fun vs H Q => MPR.rMinN B.K vs [.non] H Q) := by
  intro F A σ H G g Q vs ts res S h e k
  replace e : mnnF ts = some res := e
  unfold mnnF at e
  split at e
  · rename_i en
    cases e
    obtain ⟨a, rfl, h1, _⟩ := intL_at S h en
    exact ⟨a, [], rfl, rfl, .inl (.inl h1), fun _ => k.val S .non, fun m hm => absurd hm List.not_mem_nil⟩
  · rename_i n ns en
    cases e
    obtain ⟨a, rfl, h1, _⟩ := intL_at S h en
    refine ⟨a, n :: ns, rfl, rfl, .inl (.inl h1), fun z => absurd z (List.cons_ne_nil _ _), fun m hm hy => ?_⟩
    obtain ⟨q1, q2, q3⟩ := minI_spec ns n
    have e2 : minI n ns = m := by
      refine Int.le_antisymm ?_ ?_
      · rcases List.mem_cons.mp hm with rfl | hm
        · exact q2
        · exact q3 m hm
      · rcases q1 with q1 | q1
        · rw [q1]; exact hy n List.mem_cons_self
        · exact hy _ (List.mem_cons_of_mem _ q1)
    rw [← e2]
    exact k.val S (.int _)
  · cases e
theorem s_maxl : Snd B .maxl (rMax B.K) := by
  intro F A σ H G g Q vs ts res S h e k
  replace e : maxlF ts = some res := e
  unfold maxlF at e
  split at e
  · rename_i n ns en
    cases e
    obtain ⟨a, rfl, h1, _⟩ := intL_at S h en
    refine ⟨a, n :: ns, rfl, .inl (.inl h1), Nat.zero_lt_succ _, fun m hm hy => ?_⟩
    obtain ⟨q1, q2, q3⟩ := maxI_spec ns n
    have e2 : maxI n ns = m := by
      refine Int.le_antisymm ?_ ?_
      · rcases q1 with q1 | q1
        · rw [q1]; exact hy n List.mem_cons_self
        · exact hy _ (List.mem_cons_of_mem _ q1)
      · rcases List.mem_cons.mp hm with rfl | hm
        · exact q2
        · exact q3 m hm
    rw [← e2]
    exact k.val S (.int _)
  · cases e
theorem s_suml : Snd B .suml (rSum B.K) := by
  intro F A σ H G g Q vs ts res S h e k
  replace e : (intL ts).map (fun ns => (false, T.int ns.sum)) = some res := e
  rw [Option.map_eq_some_iff] at e
  obtain ⟨ns, en, rfl⟩ := e
  obtain ⟨a, rfl, h1, _⟩ := intL_at S h en
  exact ⟨a, ns, rfl, .inl (.inl h1), k.val S (.int _)⟩
theorem s_srt : Snd B .srt (fun vs H Q => rSortedI B.K vs H Q ∨ MPX.rSrtTup B.K vs H Q) := by
  intro F A σ H G g Q vs ts res S h e k
  replace e : (intLT ts).map (fun ns => (true, T.lst ((sortI ns).map T.int))) = some res := e
  rw [Option.map_eq_some_iff] at e
  obtain ⟨ns, en, rfl⟩ := e
  have fin : ∀ (ns' : List Int) (p : Addr), ns'.Perm ns → ns'.Pairwise (· ≤ ·) → H p = none → ns.length ≤ sizeLine → Q (.ref p) (upd H p (.lst (ns'.map V.int))) := fun ns' p hp hs hn h3 => by
    have e2 : ns' = sortI ns := sorted_uniq (hp.trans (sortI_perm ns).symm) hs (sortI_sorted ns)
    rw [e2]
    exact k.lst S (RpL.ints _) (by rw [List.length_map, (sortI_perm ns).length_eq]; exact h3) p hn
  unfold intLT at en
  split at en
  · obtain ⟨a, rfl, h1, h2, h3⟩ := intL_at S h (show intL _ = some ns from en)
    exact .inl ⟨a, ns, rfl, .inl (.inl h1), fun ns' p hp hs hn => fin ns' p hp hs hn h3⟩
  · obtain ⟨v, rfl, r⟩ := h.one
    obtain ⟨a, ws, rfl, h1, h2, h3⟩ := r.tup
    have e2 := intsT_eq en
    subst e2
    have e3 := h2.isInts
    subst e3
    exact .inr ⟨a, ns, rfl, S.sqT h1, fun ns' p hp hs hn => fin ns' p hp hs hn (by rw [List.length_map] at h3; exact h3)⟩
  · cases en
theorem s_alll : Snd B .alll (rAll B.K) := by
  intro F A σ H G g Q vs ts res S h e k
  replace e : (blL ts).map (fun ns => (false, T.bl (ns.all id))) = some res := e
  rw [Option.map_eq_some_iff] at e
  obtain ⟨ns, en, rfl⟩ := e
  obtain ⟨a, rfl, h1⟩ := blL_at S h en
  exact ⟨a, ns, rfl, .inl (.inl h1), k.val S (.bl _)⟩
theorem s_anyl : Snd B .anyl (rAny B.K) := by
  intro F A σ H G g Q vs ts res S h e k
  replace e : (blL ts).map (fun ns => (false, T.bl (ns.any id))) = some res := e
  rw [Option.map_eq_some_iff] at e
  obtain ⟨ns, en, rfl⟩ := e
  obtain ⟨a, rfl, h1⟩ := blL_at S h en
  exact ⟨a, ns, rfl, .inl (.inl h1), k.val S (.bl _)⟩
theorem s_intc : Snd B .intc (fun xs H Q => (∃ i, xs = [.int i] ∧ Q (.int i) H) ∨ ∃ k, xs = [.bl k] ∧ Q (.int (if k then 1 else 0)) H) := by
  intro F A σ H G g Q vs ts res S h e k
  replace e : intcF ts = some res := e
  unfold intcF at e
  split at e
  · cases e
    obtain ⟨v, rfl, r⟩ := h.one
    cases r.int
    exact .inl ⟨_, rfl, k.val S (.int _)⟩
  · cases e
    obtain ⟨v, rfl, r⟩ := h.one
    cases r.bl
    exact .inr ⟨_, rfl, k.val S (.int _)⟩
  · cases e
theorem s_boolc : Snd B .boolc (fun xs H Q => (∃ i, xs = [.int i] ∧ Q (.bl (i != 0)) H) ∨ ∃ k, xs = [.bl k] ∧ Q (.bl k) H) := by
  intro F A σ H G g Q vs ts res S h e k
  replace e : boolcF ts = some res := e
  unfold boolcF at e
  split at e
  · cases e
    obtain ⟨v, rfl, r⟩ := h.one
    cases r.int
    exact .inl ⟨_, rfl, k.val S (.bl _)⟩
  · cases e
    obtain ⟨v, rfl, r⟩ := h.one
    cases r.bl
    exact .inr ⟨_, rfl, k.val S (.bl _)⟩
  · cases e
theorem s_tupc : Snd B .tupc (fun xs H Q => ∃ p ys, xs = [.ref p] ∧ ((SqL B.K H p ys ∧ MPT.Ft H ys Q) ∨ (SqT B.K H p ys ∧ Q (.ref p) H))) := by
  intro F A σ H G g Q vs ts res S h e k
  replace e : tupcF ts = some res := e
  unfold tupcF at e
  split at e
  · cases e
    obtain ⟨v, rfl, r⟩ := h.one
    obtain ⟨a, ws, rfl, h1, h2, h3⟩ := r.lst S.sub
    exact ⟨a, ws, rfl, .inl ⟨.inl (.inl h1), k.tup S h2 h3⟩⟩
  · cases e
    obtain ⟨v, rfl, r⟩ := h.one
    obtain ⟨a, ws, rfl, h1, h2, h3⟩ := r.tup
    exact ⟨a, ws, rfl, .inr ⟨S.sqT h1, k.val S (.tup h1 h2 h3)⟩⟩
  · cases e
theorem s_lstc : Snd B .lstc (fun xs H Q => ∃ p ys, xs = [.ref p] ∧ (SqL B.K H p ys ∨ SqT B.K H p ys) ∧ ∀ l, H l = none → Q (.ref l) (upd H l (.lst ys))) := by
  intro F A σ H G g Q vs ts res S h e k
  replace e : lstcF ts = some res := e
  unfold lstcF at e
  split at e
  · cases e
    obtain ⟨v, rfl, r⟩ := h.one
    obtain ⟨a, ws, rfl, h1, h2, h3⟩ := r.lst S.sub
    exact ⟨a, ws, rfl, .inl (.inl (.inl h1)), fun l hl => k.lst S h2 h3 l hl⟩
  · cases e
    obtain ⟨v, rfl, r⟩ := h.one
    obtain ⟨a, ws, rfl, h1, h2, h3⟩ := r.tup
    exact ⟨a, ws, rfl, .inr (S.sqT h1), fun l hl => k.lst S h2 h3 l hl⟩
  · cases e
theorem rangeL_rp {B : Bg} {G : Hp} : ∀ (n : Nat) (lo : Int), RpL B G ((List.range n).map fun i => V.int (lo + (i : Nat))) (rangeL lo n)
  | 0, _ => .nil
  | n + 1, lo => by
    rw [List.range_succ_eq_map, List.map_cons, List.map_map]
    unfold rangeL
    have e : lo + ((0 : Nat) : Int) = lo := by omega
    rw [e]
    refine .cons (.int lo) ?_
    have ih := rangeL_rp (B := B) (G := G) n (lo + 1)
    have e2 : ((fun i : Nat => V.int (lo + (i : Nat))) ∘ Nat.succ) = fun i : Nat => V.int (lo + 1 + (i : Nat)) := by
      funext i
      show V.int (lo + ((i + 1 : Nat) : Int)) = V.int (lo + 1 + (i : Int))
      congr 1
      omega
    rw [e2]
    exact ih
theorem rangeL_len : ∀ (n : Nat) (lo : Int), (rangeL lo n).length = n
  | 0, _ => rfl
  | n + 1, lo => by
    unfold rangeL
    rw [List.length_cons, rangeL_len n]
theorem sml_iff {i : Int} : sml i = true ↔ i.natAbs < 2 ^ 62 := by
  unfold sml
  exact ⟨fun h => Nat.le_of_ble_eq_true h, fun h => Nat.ble_eq_true_of_le h⟩
theorem sml_of {i : Int} (h : sml i = true) : -(2 ^ 62) ≤ i ∧ i < 2 ^ 62 := by
  have := sml_iff.mp h
  omega
def kRng (tp : Bool) (a b : Int) (H : Hp) (Q : VK) : Prop := RgOk a b ∧ if tp = true then MPT.Ft H (rgV a b) Q else ∀ q, H q = none → Q (.ref q) (upd H q (.lst (rgV a b)))
theorem rng_at {F : Hp} {A : Nat → Addr} {σ : L2.St} {H G : Hp} {g : En} {Q : VK} {tp : Bool} {i j : Int} (S : Sim B F A σ H G g) (h1 : sml i = true) (h2 : sml j = true) (h3 : (j - i).toNat ≤ sizeLine)
    (k : Kt B F A σ G g (!tp, mkSeq tp (rangeL i (j - i).toNat)) Q) : kRng tp i j H Q := by
  have hs : sizeLine = 16777216 := sizeLine_eq
  obtain ⟨a1, a2⟩ := sml_of h1
  obtain ⟨b1, b2⟩ := sml_of h2
  have hl : (rangeL i (j - i).toNat).length ≤ sizeLine := by rw [rangeL_len]; omega
  refine ⟨⟨a1, a2, b1, b2, by rw [hs] at h3; omega⟩, ?_⟩
  cases tp with
  | false => exact fun q hq => k.lst S (rangeL_rp _ _) hl q hq
  | true => exact k.tup S (rangeL_rp _ _) hl
theorem s_lrng1 (tp : Bool) : Snd B (.lrng tp) (fun xs H Q => match xs with | [x] => ∃ n, x = .int n ∧ kRng tp 0 n H Q | _ => True) := by
  intro F A σ H G g Q vs ts res S h e k
  replace e : lrngF tp ts = some res := e
  unfold lrngF at e
  split at e
  · rename_i j
    split at e
    · rename_i hz
      cases e
      rw [Bool.and_eq_true, decide_eq_true_eq] at hz
      obtain ⟨v, rfl, r⟩ := h.one
      cases r.int
      refine ⟨_, rfl, rng_at S (by decide) hz.1 (by omega) ?_⟩
      rw [Int.sub_zero]
      exact k
    · cases e
  · obtain ⟨v, w, rfl, _, _⟩ := h.two
    trivial
  · cases e
theorem s_lrng2 (tp : Bool) : Snd B (.lrng tp) (fun xs H Q => match xs with | [x, y] => ∃ i j, x = .int i ∧ y = .int j ∧ kRng tp i j H Q | _ => True) := by
  intro F A σ H G g Q vs ts res S h e k
  replace e : lrngF tp ts = some res := e
  unfold lrngF at e
  split at e
  · obtain ⟨v, rfl, _⟩ := h.one
    trivial
  · rename_i i j
    split at e
    · rename_i hz
      cases e
      rw [Bool.and_eq_true, Bool.and_eq_true, decide_eq_true_eq] at hz
      obtain ⟨v, w, rfl, r, r2⟩ := h.two
      cases r.int
      cases r2.int
      exact ⟨_, _, rfl, rfl, rng_at S hz.1.1 hz.1.2 hz.2 k⟩
    · cases e
  · cases e
def clsS : Nat → String
  | 0 => "int"
  | 1 => "bool"
  | 2 => "str"
  | 3 => "tuple"
  | 4 => "list"
  | 5 => "dict"
  | _ => ""
theorem kit_all : ∀ c, c < 6 → kitB "NoneType" (clsS c) = some false ∧ kitB "bool" (clsS c) = some (c == 0 || c == 1) ∧ kitB "int" (clsS c) = some (c == 0) ∧ kitB "str" (clsS c) = some (c == 2) ∧
   kitB "tuple" (clsS c) = some (c == 3) ∧ kitB "list" (clsS c) = some (c == 4) ∧ kitB "dict" (clsS c) = some (c == 5) := by decide +kernel
/-- a value's type, and isinstance's answers -/
theorem isi_ty {H G : Hp} {v : V} {t : T} {c0 : Nat} {b0 : Bool} (hs : Same G H) (h : RpX B H G v t) (e : isiF c0 t = some b0) : ∃ ty : String, TyX B.K H v (.type ty) ∧
    ∀ c b, c < 6 → isiF c t = some b → PySem.W.kitOne B.K (.type ty) (.type (clsS c)) = some b := by
  have hr := h.rp hs
  cases hr with
  | non => exact ⟨_, .base .non, fun c b hc q => by cases q; exact kit_ty (kit_all c hc).1⟩
  | bl _ => exact ⟨_, .base (.bl _), fun c b hc q => by cases q; exact kit_ty (kit_all c hc).2.1⟩
  | int _ => exact ⟨_, .base (.int _), fun c b hc q => by cases q; exact kit_ty (kit_all c hc).2.2.1⟩
  | str _ => exact ⟨_, .base (.str _), fun c b hc q => by cases q; exact kit_ty (kit_all c hc).2.2.2.1⟩
  | tup h1 h2 h3 =>
    rcases h1.t with (h1 | ⟨o, h1⟩) | ⟨o, its, n, h1, h4, _⟩
    · exact ⟨_, .base (.tup h1), fun c b hc q => by cases q; exact kit_ty (kit_all c hc).2.2.2.2.1⟩
    · exact ⟨_, .fTuple h1, fun c b hc q => by cases q; exact kit_ty (kit_all c hc).2.2.2.2.1⟩
    · exact ⟨_, .kTuple h1 h4, fun c b hc q => by cases q; exact kit_ty (kit_all c hc).2.2.2.2.1⟩
  | lst h1 h2 h3 => exact ⟨_, .base (.lst h1), fun c b hc q => by cases q; exact kit_ty (kit_all c hc).2.2.2.2.2.1⟩
  | dct h1 h2 => exact ⟨_, .base (.dK h1), fun c b hc q => by cases q; exact kit_ty (kit_all c hc).2.2.2.2.2.2⟩
  | fn _ => cases e
  | scr _ _ => cases e
  | cls _ => cases e
  | exn0 _ _ _ _ _ => cases e
  | exn1 _ _ _ _ _ _ _ _ => cases e
end
end MP
namespace MPY
open PySem PySem.Spec PyProof.Rows L2
section
variable {prog : Program} {w : World} {A : Around} {E : Value → Shared → Prop} {s : Shared}
theorem extend_rev {R : Result → Shared → Prop} {it l : Addr} {items : Array Value} (hh : A.handled = none) (hit : s.heap.IsRevIter it l ((items.size : Int) - 1)) (hl : s.heap.IsList l items) (hne : l ≠ it) (hn : items.size ≤ sizeLine) (S : Addr) (res : Value) (c₀ : Nat)
    (hS : s.heap.get? S = some { cls := .type "list", data := .seq #[] c₀ }) (hSi : S ≠ it) (hSl : S ≠ l)
    (hR : ∀ h' tk acc' c', (∀ b o, b ≠ S → b ≠ it → s.heap.get? b = some o → h'.get? b = some o) → h'.get? S = some { cls := .type "list", dict := none, data := .seq acc' c', slots := #[] } →
      ItemsOf (fun i v => items[items.size - 1 - i]? = some v) acc' items.size → R (.ok (.ret res)) { s with heap := h', toks := tk }) :
    wpAny (model prog w) A.in1 (Builtin.List.listExtendWith (.ref S) (.ref it) res)
      (fun fin s' => match fin with | .done f => R (.ok f) s' | .again c' => c'.quiet = true ∧ codeAny (model prog w) A c' R s') (fun e s' => R (.error e) s') s := by
  have W := (Walks.listRev (prog := prog) (w := w) (A := A.in1) hh it l hne items).toS
  have hSf : S ∉ [it, l] := by simp only [List.mem_cons, List.not_mem_nil, or_false, not_or]; exact ⟨hSi, hSl⟩
  have hT : s.TypeIs (.ref it) "list_reverseiterator" := hit.typeIs
  have h1 : Builtin.List.listSameRef (.ref S) (.ref it) = false := by simp [Builtin.List.listSameRef, hSi]
  unfold Builtin.List.listExtendWith
  refine wpAny_bind (wpAny_typeOf hT ?_)
  rw [if_neg (by rw [h1]; decide)]
  refine wpAny_bind (wpAny_pyIter_revIter hit ?_)
  refine wpAny_bind (wpAny_holding ?_)
  unfold Builtin.List.listLengthHint
  refine wpAny_bind (wpAny_specialOf hT RT.nolen_lri ?_)
  show wpAny _ A.in1 (specialOf (Value.ref it) (Str.ofString "__length_hint__") >>= _) _ _ _
  refine wpAny_bind (wpAny_specialOf hT RT.hint_lri ?_)
  generalize hid : ("list_reverseiterator.__length_hint__" : String) = id0
  wp_delta
  rw [show splitId id0 = some ("list_reverseiterator", "__length_hint__") from by subst hid; decide +kernel]
  subst hid
  refine wpAny_bind (wpAny_isInstance (b := true) hT (by rw [isSubtype_type]; kernel_rfl) ?_)
  refine wpAny_pure ?_
  rw [if_neg (by decide)]
  have e0 : ((items.size : Nat) : Int) - 1 - ((0 : Nat) : Int) = (items.size : Int) - 1 := by omega
  refine wpAny_pure ⟨plainId_quiet F.plain_extend_loop _, codeAny_extend_loopS W hn _ hSf _ items.size 0 _ _ _ rfl (Nat.zero_le _) ⟨Nat.zero_le _, by rw [e0]; exact hit, hl⟩ hS (ItemsOf.nil _) fun s' acc' c' hm hS' hacc => ?_⟩
  rw [Moved.eq_with hm]
  refine hR s'.heap s'.toks acc' c' (fun b o hb hb2 e => hm.heap b o (fun hmem => ?_) e) hS' hacc
  rcases List.mem_cons.mp hmem with e' | hmem
  · exact hb e'
  · exact hb2 (List.mem_singleton.mp hmem)
theorem list_init_rev {R : Result → Shared → Prop} {it l : Addr} {items : Array Value} (hh : A.handled = none) (hit : s.heap.IsRevIter it l ((items.size : Int) - 1)) (hl : s.heap.IsList l items) (hne : l ≠ it) (hn : items.size ≤ sizeLine) (S : Addr)
    (hS : s.heap.get? S = some { cls := .type "list", data := .seq #[] }) (hSi : S ≠ it) (hSl : S ≠ l)
    (hR : ∀ h' tk acc' c', (∀ b o, b ≠ S → b ≠ it → s.heap.get? b = some o → h'.get? b = some o) → h'.get? S = some { cls := .type "list", dict := none, data := .seq acc' c', slots := #[] } →
      ItemsOf (fun i v => items[items.size - 1 - i]? = some v) acc' items.size → R (.ok (.ret .none)) { s with heap := h', toks := tk }) :
    wpAny (model prog w) A.in1 (Builtin.«list.__init__» ⟨[.ref S, .ref it], []⟩)
      (fun fin s' => match fin with | .done f => R (.ok f) s' | .again c' => c'.quiet = true ∧ codeAny (model prog w) A c' R s') (fun e s' => R (.error e) s') s := by
  show wpAny _ _ (do let old ← Builtin.List.listItems (.ref S); Builtin.List.listUpdate (.ref S) (fun _ => #[]); letGo old.toList.reverse; Builtin.List.listExtendWith (.ref S) (.ref it) .none) _ _ s
  refine wpAny_bind ?_
  unfold Builtin.List.listItems
  refine wpAny_bind (wpAny_seqItems hS rfl (wpAny_pure ?_))
  show wpAny _ _ (updateSeq S (fun _ => #[]) >>= fun _ => letGo (#[] : Array Value).toList.reverse >>= fun _ => Builtin.List.listExtendWith (.ref S) (.ref it) .none) _ _ s
  refine wpAny_bind (wpAny_updateSeq hS rfl ?_)
  have hS₂ := Heap.get?_update_self (Obj.mapSeq (fun _ => (#[] : Array Value))) hS rfl
  have oth : ∀ b o, b ≠ S → s.heap.get? b = some o → (s.heap.update S (Obj.mapSeq (fun _ => (#[] : Array Value)))).get? b = some o :=
    fun b o hb e => (Heap.get?_update_other _ _ (Ne.symm hb)).trans e
  refine wpAny_bind (wpAny_letGo ?_)
  have hl2 : (s.heap.update S (Obj.mapSeq (fun _ => (#[] : Array Value)))).IsList l items := by
    obtain ⟨o, e, c⟩ := hl
    exact ⟨o, oth l o (Ne.symm hSl) e, c⟩
  refine extend_rev hh (hit.at fun o e => oth it o (Ne.symm hSi) e) hl2 hne hn S .none _ hS₂ hSi hSl fun h' tk acc' c' hk hS' hacc => ?_
  exact hR h' tk acc' c' (fun b o hb hb2 e => hk b o hb hb2 (oth b o hb e)) hS' hacc
theorem call_list_rev {Q : Value → Shared → Prop} {it l : Addr} {items : Array Value} (hh : A.handled = none) (hit : s.heap.IsRevIter it l ((items.size : Int) - 1)) (hl : s.heap.IsList l items) (hne : l ≠ it) (hn : items.size ≤ sizeLine)
    (hQ : ∀ h' tk acc' c', (∀ b o, b ≠ it → s.heap.get? b = some o → h'.get? b = some o) →
      h'.get? s.heap.objs.size = some { cls := .type "list", dict := none, data := .seq acc' c', slots := #[] } → ItemsOf (fun i v => items[items.size - 1 - i]? = some v) acc' items.size → Q (.ref s.heap.objs.size) { s with heap := h', toks := tk }) :
    wpAny (model prog w) A (call (.type "list") [.ref it]) Q E s := by
  refine callType_codes (Q₁ := fun obj s₁ => obj = .ref s.heap.objs.size ∧ s₁ = { s with heap := s.heap.push { cls := .type "list", data := .seq #[] } }) F.called_list (F.typeCall_list_1 _) F.entry_list_init
    (code_list_new _ ⟨rfl, rfl⟩) fun obj s₁ h₁ => ?_
  obtain ⟨rfl, rfl⟩ := h₁
  have hS : (s.heap.push { cls := .type "list", data := .seq #[] }).get? s.heap.objs.size = some { cls := .type "list", data := .seq #[] } := Heap.get?_push_size _ rfl
  obtain ⟨oi, hoi, _⟩ := id hit
  obtain ⟨ol, hol, _⟩ := id hl
  refine ⟨⟨_, hS, rfl⟩, F.args_list_init_2 _ _, list_init_rev (A := A.in1) hh (hit.at fun o e => Heap.get?_push_of_some _ e) (hl.push _) hne hn _ hS (Nat.ne_of_gt (Heap.lt_size hoi)) (Nat.ne_of_gt (Heap.lt_size hol)) fun h' tk acc' c' hk hS' hacc => ?_⟩
  exact ⟨rfl, hQ h' tk acc' c' (fun b o hb e => hk b o (Nat.ne_of_lt (Heap.lt_size e)) hb (Heap.get?_push_of_some _ e)) hS' hacc⟩
end
section
variable {X : Cx}
def tLstRev (K : PySem.W.Frag) (te : TE) : TE := fun σ H Q => te σ H fun v H1 => ∃ (a : Addr) (xs : List V), v = .ref a ∧ SqL K H1 a xs ∧ ∀ q, H1 q = none → Q (.ref q) (upd H1 q (.lst xs.reverse))
theorem pe_lstRev {e : Expr} {te : TE} {p p2 pos pos2 : Pos} (hc : X.calm = true) (hg : Gl X "list") (hm : X.mg "list" = none) (hg2 : Gl X "reversed") (hm2 : X.mg "reversed" = none) (he : PE X e te)
    (hs : starEach [e] X.env = (false, eval e X.env) :: starEach [] X.env := by rfl)
    (hs2 : starEach [.Call (.Name "reversed" p2) [e] [] pos2] X.env = (false, eval (.Call (.Name "reversed" p2) [e] [] pos2) X.env) :: starEach [] X.env := by rfl) :
    PE X (.Call (.Name "list" p) [.Call (.Name "reversed" p2) [e] [] pos2] [] pos) (tLstRev X.K te) := by
  refine ⟨fun pins s σ H Q I h => ?_⟩
  refine Call_ (ld_blt I hg hm boot_list (PyProof.Rows.callWith_type1 (args_cons (Call_ (ld_blt I hg2 hm2 PyProof.Rows.boot_reversed (PyProof.Rows.callWith_type1 (args_cons (thn (he.run pins s σ H _ I h) fun u s1 ⟨v, H1, I1, r1, q1⟩ => args_nil ?_) hs) hs rfl))) hs2) hs2 rfl))
  obtain ⟨a, xs, ev, hq, q⟩ := q1
  subst ev
  obtain rfl : u = Value.ref a := r1
  obtain ⟨its, rv, p', hz⟩ := I1.list hq
  refine call_reversed_list p'.isList (args_nil ?_)
  have hl := p'.isList
  obtain ⟨ol, hol, _⟩ := id hl
  have hne : a ≠ s1.heap.objs.size := Nat.ne_of_lt (Heap.lt_size hol)
  have hn : its.toArray.size ≤ sizeLine := by rw [List.size_toArray, ← rv.length]; exact hz
  refine call_list_rev (s := { s1 with heap := s1.heap.push (revObj a ((its.toArray.size : Int) - 1)) }) (I1.ok.hd hc) ⟨_, Heap.get?_push_size _ rfl, rfl, rfl⟩ (hl.push _) hne hn fun h' tk acc c hk hS hi => ?_
  have hp : s1.heap.objs.size ≤ (s1.heap.push (revObj a ((its.toArray.size : Int) - 1))).objs.size := by rw [Heap.size_push]; exact Nat.le_succ _
  refine ⟨.ref (s1.heap.push (revObj a ((its.toArray.size : Int) - 1))).objs.size, upd H1 (s1.heap.push (revObj a ((its.toArray.size : Int) - 1))).objs.size (.lst xs.reverse),
    I1.laid (t' := tk) (fun c o e => hk c o (Nat.ne_of_lt (Heap.lt_size e)) (Heap.get?_push_of_some _ e)) hp ⟨by rw [List.length_reverse]; exact hz, acc.toList, c, RT.vals_rev rv hi, ?_⟩, rfl, q _ (I1.hok.fresh hp)⟩
  rw [Array.toArray_toList]
  exact hS
end
end MPY
namespace MP
open PySem PySem.Spec L2
theorem boot_cls : ∀ c, c < 6 → bootBuiltins (xCls c) = some (.type (clsS c)) := by decide +kernel
theorem cls_blt : ∀ c, c < 6 → xCls c ∈ bltNames := by decide +kernel
theorem cls_name : ∀ c, c < 6 → xCls c ≠ "__name__" := by decide +kernel
section
variable {P : List FD} {glb : Nat → Option T} {wf d : Nat} {B : Bg} {ck : Ck} {X : Cx} {W : WX} {C : Cn}
theorem s_isi (c : Nat) (hc : c < 6) : Snd B (.isi c) (fun xs H Q => match xs with | [v] => rIsi B.K [v, .ty (clsS c)] H Q | _ => False) := by
  intro F A σ H G g Q vs ts res S h e k
  replace e : isi1F c ts = some res := e
  unfold isi1F at e
  split at e
  · rw [Option.map_eq_some_iff] at e
    obtain ⟨b, e, rfl⟩ := e
    obtain ⟨v, rfl, r⟩ := h.one
    obtain ⟨ty, h1, h2⟩ := isi_ty S.sub r e
    exact ⟨v, _, _, _, b, rfl, .ty _, h1, h2 c b hc e, k.val S (.bl _)⟩
  · cases e
theorem RpX.monoH {H H' G : Hp} {v : V} {t : T} (h : RpX B H G v t) (s : Same H H') : RpX B H' G v t := by
  rcases h with h | ⟨a, rfl, h⟩
  · exact .inl h
  · exact .inr ⟨a, rfl, h.mono (fun o e => s _ _ e) (Same.refl' G)⟩
theorem s_isi2 : Snd B .isi2 (fun xs H Q => match xs with | [v] => ∀ p, H p = none → rIsiT B.K [v, .ref p] (upd H p (.tup [.ty "list", .ty "tuple"])) Q | _ => False) := by
  intro F A σ H G g Q vs ts res S h e k
  replace e : isi2F ts = some res := e
  unfold isi2F at e
  split at e
  · rw [Option.bind_eq_some_iff] at e
    obtain ⟨b4, e4, e⟩ := e
    rw [Option.map_eq_some_iff] at e
    obtain ⟨b3, e3, rfl⟩ := e
    obtain ⟨v, rfl, r⟩ := h.one
    intro p hp
    have r' := r.monoH (same_upd (o := .tup [.ty "list", .ty "tuple"]) hp)
    have S' := S.alloc (o := .tup [.ty "list", .ty "tuple"]) hp
    obtain ⟨ty, h1, h2⟩ := isi_ty S'.sub r' e4
    refine ⟨v, p, [.ty "list", .ty "tuple"], _, [.type "list", .type "tuple"], b4 || b3, rfl, upd_same, .cons (.ty _) (.cons (.ty _) .nil), h1, ?_, k (.bl _) _ G (Same.refl' G) S' (.bl _)⟩
    refine kitAny_cons (h2 4 b4 (by decide) e4) (fun z => ?_) (fun z => by rw [z]; rfl)
    refine kitAny_cons (h2 3 b3 (by decide) e3) (fun z2 => ?_) (fun z2 => by rw [z2]; cases b4 <;> rfl)
    rw [z, z2]
    rfl
  · cases e
theorem Rp.nt {H : Hp} {v : V} {k : Nat} {sup : List Nat} {fs : List T} (h : Rp B H v (.exn k sup fs)) : sup = B.sup k ∧ ∃ a C, v = .ref a ∧ B.ca k = some C ∧ NtX H a C := by
  cases h with
  | exn0 h1 h2 h3 h4 h5 => exact ⟨rfl, _, _, rfl, h1, _, h5, h2, h3, .inl h4⟩
  | exn1 h1 h2 h3 h4 h5 h6 h7 h8 => exact ⟨rfl, _, _, rfl, h1, _, h5, h2, h3, .inr ⟨_, _, h4, h7⟩⟩
theorem cls_all (hx : ∀ (k : Nat) (D : Addr), B.ca k = some D → ExF B k D) {H : Hp} : ∀ {cs : List T} {ws : List V} {ks : List Nat}, RpL B H ws cs → clsKs cs = some ks → ∃ us, Paired ClsV ws us ∧ PySem.W.kitAny B.K (.type "NoneType") us = some false ∧
    ∀ k C, B.ca k = some C → PySem.W.kitAny B.K (.ref C) us = some (ks.any fun j => relX B k j)
  | [], _, _, h, e => by
    cases h
    cases e
    exact ⟨[], .nil, rfl, fun _ _ _ => rfl⟩
  | .cls j _ _ :: cs, _, ks, h, e => by
    cases h with
    | cons h1 h2 =>
      obtain ⟨ks', e', rfl⟩ := Option.map_eq_some_iff.mp (show (clsKs cs).map (j :: ·) = some ks from e)
      obtain ⟨us, p, n, a⟩ := cls_all hx h2 e'
      cases h1 with
      | cls h3 =>
        refine ⟨_, .cons (.own _) p, kitAny_cons (hx _ _ h3).nn (fun _ => n) (fun z => by cases z), fun k C hC => kitAny_cons ((hx k C hC).rel _ _ h3).2 (fun z => ?_) (fun z => ?_)⟩
        · rw [a k C hC, List.any_cons, z, Bool.false_or]
        · rw [List.any_cons, z, Bool.true_or]
  | .non :: _, _, _, _, e | .bl _ :: _, _, _, _, e | .int _ :: _, _, _, _, e | .str _ :: _, _, _, _, e | .lst _ :: _, _, _, _, e | .tup _ :: _, _, _, _, e | .dct _ :: _, _, _, _, e | .fn _ :: _, _, _, _, e | .scr _ :: _, _, _, _, e | .exn _ _ _ :: _, _, _, _, e => by cases e
theorem s_isn (hx : ∀ (k : Nat) (D : Addr), B.ca k = some D → ExF B k D) : Snd B .isn (fun xs H Q => rIsX B.K xs H Q ∨ rIsXT B.K xs H Q) := by
  intro F A σ H G g Q vs ts res S h e k
  replace e : isnF ts = some res := e
  unfold isnF at e
  split at e
  · rename_i x j sup fl
    obtain ⟨v, w, rfl, r1, r2⟩ := h.two
    have r2 := r2.rp S.sub
    have r1 := r1.rp S.sub
    cases r2 with
    | cls h3 =>
      refine .inl ?_
      unfold isnX at e
      split at e
      · rename_i c sp fs _
        cases e
        obtain ⟨rfl, a, C, rfl, hC, n⟩ := r1.nt
        refine ⟨_, _, _, _, rfl, .own _, .inr ⟨a, C, rfl, n, (hx _ _ hC).toExK, ((hx c C hC).rel _ _ h3).2⟩, ?_⟩
        have eb : ([j].any fun k => c == k || (B.sup c).contains k) = relX B c j := by
          unfold relX
          rw [List.any_cons, List.any_nil, Bool.or_false]
        rw [eb] at k
        exact k.val S (.bl _)
      · cases e
        cases r1
        exact ⟨_, _, _, _, rfl, .own _, .inl ⟨rfl, (hx _ _ h3).nn⟩, k.val S (.bl _)⟩
      · cases e
  · rename_i x cs
    obtain ⟨v, w, rfl, r1, r2⟩ := h.two
    have r2 := r2.rp S.sub
    have r1 := r1.rp S.sub
    obtain ⟨ks, e1, e⟩ := Option.bind_eq_some_iff.mp e
    cases r2 with
    | tup h1 h2 h3 =>
      refine .inr ?_
      obtain ⟨us, p, n, al⟩ := cls_all hx h2 e1
      unfold isnX at e
      split at e
      · rename_i c sp fs _ _
        cases e
        obtain ⟨rfl, a, C, rfl, hC, nt⟩ := r1.nt
        exact ⟨_, _, _, us, _, rfl, h1.t, p, .inr ⟨a, C, rfl, nt, (hx _ _ hC).toExK, al c C hC⟩, k.val S (.bl _)⟩
      · cases e
        cases r1
        exact ⟨_, _, _, us, _, rfl, h1.t, p, .inl ⟨rfl, n⟩, k.val S (.bl _)⟩
      · cases e
  · cases e
theorem none_ve : kitB "NoneType" "ValueError" = some false := by decide +kernel
theorem boot_ve : bootBuiltins "ValueError" = some (.type "ValueError") := by decide +kernel
theorem s_isv (hx : ∀ (k : Nat) (D : Addr), B.ca k = some D → ExF B k D) : Snd B .isv (fun xs H Q => match xs with | [v] => rIsX B.K [v, .ty "ValueError"] H Q | _ => False) := by
  intro F A σ H G g Q vs ts res S h e k
  replace e : isvF ts = some res := e
  unfold isvF at e
  split at e
  · cases e
    obtain ⟨v, rfl, r⟩ := h.one
    have r := r.rp S.sub
    obtain ⟨rfl, a, C, rfl, hC, n⟩ := r.nt
    exact ⟨_, _, _, _, rfl, .ty _, .inr ⟨a, C, rfl, n, (hx _ _ hC).toExK, (hx _ _ hC).ve⟩, k.val S (.bl _)⟩
  · cases e
    obtain ⟨v, rfl, r⟩ := h.one
    have r := r.rp S.sub
    cases r
    exact ⟨_, _, _, _, rfl, .ty _, .inl ⟨rfl, kit_ty none_ve⟩, k.val S (.bl _)⟩
  · cases e
theorem xRange_some {x : Expr} {xs : List Expr} (h : xRange ck x = some xs) : (∃ a, xBlt ck "range" x = some [a] ∧ xs = [a]) ∨ ∃ a b, xBlt ck "range" x = some [a, b] ∧ xs = [a, b] := by
  unfold xRange at h
  split at h
  · rename_i e; cases h; exact .inl ⟨_, e, rfl⟩
  · rename_i e; cases h; exact .inr ⟨_, _, e, rfl⟩
  · cases h
theorem isNm_some {n : Str} {z : Expr} (h : isNm ck n z = true) : ∃ p, z = .Name n p ∧ glB ck n = true := by
  unfold isNm at h
  split at h
  · rw [Bool.and_eq_true, decide_eq_true_eq] at h
    obtain ⟨rfl, h2⟩ := h
    exact ⟨_, rfl, h2⟩
  · cases h
/-- the name of a built-in class -/
theorem Gd.pcls (G : Gd P glb wf d B ck X W) {c : Nat} {z : Expr} (hc : c < 6) (h : isNm ck (xCls c) z = true) : PE X z (tC (.ty (clsS c))) := by
  obtain ⟨p, rfl, hg⟩ := isNm_some h
  obtain ⟨g1, g2⟩ := G.gl hg
  exact pe_bltn g1 (G.blt _ (cls_blt c hc)) (boot_cls c hc) rfl (cls_name c hc) g2
theorem okX_nm {n : Str} {z : Expr} (h : isNm ck n z = true) : okX z = true := by
  obtain ⟨p, rfl, _⟩ := isNm_some h
  rfl
theorem s_bin (o : Operator) : Snd B (.bin o) (fun vs H Q => match vs with | [v, w] => rBin B.K o v w H Q | _ => False) := by
  intro F A σ H G g Q vs ts res S h e k
  replace e : binTs o ts = some res := e
  unfold binTs at e
  split at e
  · obtain ⟨v, w, rfl, r1, r2⟩ := h.two
    exact bin_ok S e r1 r2 k
  · cases e
theorem s_cmp (o : CmpOp) : Snd B (.cmp o) (fun vs H Q => match vs with | [v, w] => rCmp B.K o v w H Q | _ => False) := by
  intro F A σ H G g Q vs ts res S h e k
  replace e : cmpTs o ts = some res := e
  unfold cmpTs at e
  split at e
  · rw [Option.map_eq_some_iff] at e
    obtain ⟨c, e, rfl⟩ := e
    obtain ⟨v, w, rfl, r1, r2⟩ := h.two
    exact cmp_ok S e r1 r2 k
  · cases e
theorem s_sub : Snd B .sub (fun vs H Q => match vs with | [v, w] => rIx2 B.K v w H Q | _ => False) := by
  intro F A σ H G g Q vs ts res S h e k
  replace e : subF ts = some res := e
  unfold subF at e
  split at e
  · rw [Option.map_eq_some_iff] at e
    obtain ⟨c, e, rfl⟩ := e
    obtain ⟨v, w, rfl, r1, r2⟩ := h.two
    exact item_ok S e r1 r2 k
  · cases e
theorem s_neg : Snd B .neg (fun vs H Q => match vs with | [v] => rU (fun i => .int (-i)) v H Q | _ => False) := by
  intro F A σ H G g Q vs ts res S h e k
  replace e : negF ts = some res := e
  unfold negF at e
  split at e
  · cases e
    obtain ⟨v, rfl, r⟩ := h.one
    exact ⟨_, r.int, k.val S (.int _)⟩
  · cases e
theorem s_inv : Snd B .inv (fun vs H Q => match vs with | [v] => rU (fun i => .int (Builtin.bitNot i)) v H Q | _ => False) := by
  intro F A σ H G g Q vs ts res S h e k
  replace e : invF ts = some res := e
  unfold invF at e
  split at e
  · cases e
    obtain ⟨v, rfl, r⟩ := h.one
    exact ⟨_, r.int, k.val S (.int _)⟩
  · cases e
theorem s_lrev (tp : Bool) : Snd B (.lrev tp) (fun vs H Q => match vs with | [v] => ∃ a xs, v = .ref a ∧ SqL B.K H a xs ∧ if tp = true then MPT.Ft H xs.reverse Q else ∀ p, H p = none → Q (.ref p) (upd H p (.lst xs.reverse)) | _ => False) := by
  intro F A σ H G g Q vs ts res S h e k
  replace e : lrevF tp ts = some res := e
  unfold lrevF at e
  split at e
  · cases e
    obtain ⟨v, rfl, r⟩ := h.one
    obtain ⟨a, vs, rfl, h1, h2, h3⟩ := r.lst S.sub
    refine ⟨a, vs, rfl, .inl (.inl h1), ?_⟩
    cases tp with
    | false => exact fun p hp => k.lst S h2.rev (by rw [List.length_reverse]; exact h3) p hp
    | true => exact k.tup S h2.rev (by rw [List.length_reverse]; exact h3)
  · cases e
theorem pick_len {α : Type} (xs : List α) (lo hi st : Option Int) : (MPW.pick xs lo hi st).length ≤ xs.length := by
  have h := slicePick_size_le (xs.map fun _ => Value.none).toArray lo hi st
  have e : ((MPW.pick xs lo hi st).map fun _ => Value.none) = (slicePick (xs.map fun _ => Value.none).toArray lo hi st).toList := by
    unfold MPW.pick slicePick
    rw [List.size_toArray, List.length_map, List.map_filterMap]
    show _ = List.filterMap _ _
    congr 1
    funext i
    simp
  rw [← Array.length_toList, ← e, List.length_map, List.size_toArray, List.length_map] at h
  exact h
theorem RpL.pick {G : Hp} {vs : List V} {ts : List T} (h : RpL B G vs ts) (lo hi st : Option Int) : RpL B G (MPW.pick vs lo hi st) (MPW.pick ts lo hi st) := by
  unfold MPW.pick
  rw [h.length]
  generalize sliceRange _ _ _ = is
  induction is with
  | nil => exact .nil
  | cons i is ih =>
    cases hx : ts[i]? with
    | none =>
      rw [List.filterMap_cons, List.filterMap_cons, hx, h.none_of hx]
      exact ih
    | some x =>
      obtain ⟨u, hu, ru⟩ := h.get hx
      rw [List.filterMap_cons, List.filterMap_cons, hx, hu]
      exact .cons ru ih
theorem s_stp {lo hi : Option Int} {st : Int} : Snd B (.stp lo hi st) (fun vs H Q => match vs with | [v] => ∃ a xs, v = .ref a ∧ SqL B.K H a xs ∧ ∀ p, H p = none → Q (.ref p) (upd H p (.lst (MPW.pick xs lo hi (some st)))) | _ => False) := by
  intro F A σ H G g Q vs ts res S h e k
  replace e : stpF lo hi st ts = some res := e
  unfold stpF at e
  split at e
  · cases e
    obtain ⟨v, rfl, r⟩ := h.one
    obtain ⟨a, ws, rfl, h1, h2, h3⟩ := r.lst S.sub
    exact ⟨a, ws, rfl, .inl (.inl h1), fun p hp => k.lst S (h2.pick _ _ _) (Nat.le_trans (pick_len _ _ _ _) h3) p hp⟩
  · cases e
theorem s_rev : Snd B .rev (fun vs H Q => match vs with | [v] => ∃ a xs, v = .ref a ∧ SqL B.K H a xs ∧ ∀ p, H p = none → Q (.ref p) (upd H p (.lst xs.reverse)) | _ => False) := by
  intro F A σ H G g Q vs ts res S h e k
  replace e : revF ts = some res := e
  unfold revF at e
  split at e
  · cases e
    obtain ⟨v, rfl, r⟩ := h.one
    obtain ⟨a, ws, rfl, h1, h2, h3⟩ := r.lst S.sub
    exact ⟨a, ws, rfl, .inl (.inl h1), fun p hp => k.lst S h2.rev (by rw [List.length_reverse]; exact h3) p hp⟩
  · cases e
/-- a slice: what its parts are -/
theorem slc_any {F : Hp} {A : Nat → Addr} {σ : L2.St} {H G : Hp} {g : En} {Q : VK} {v : V} {t : T} {ps : List T} {l h : Bool} {res : Bool × T} (S : Sim B F A σ H G g) (r : RpX B H G v t) (e : slcT l h (t :: ps) = some res) (k : Kt B F A σ G g res Q) :
    ∃ lo hi : Option Int, rSlc B.K v lo hi H Q ∧ ((l = false ∧ h = false ∧ ps = [] ∧ lo = none ∧ hi = none) ∨ (∃ i, l = true ∧ h = false ∧ ps = [.int i] ∧ lo = some i ∧ hi = none) ∨ (∃ j, l = false ∧ h = true ∧ ps = [.int j] ∧ lo = none ∧ hi = some j) ∨
      ∃ i j, l = true ∧ h = true ∧ ps = [.int i, .int j] ∧ lo = some i ∧ hi = some j) := by
  have key : ∀ (xs ys : List T), slcF xs l h ps = some ys → ∃ lo hi : Option Int, ys = cutL xs lo hi ∧ ((l = false ∧ h = false ∧ ps = [] ∧ lo = none ∧ hi = none) ∨ (∃ i, l = true ∧ h = false ∧ ps = [.int i] ∧ lo = some i ∧ hi = none) ∨ (∃ j, l = false ∧ h = true ∧ ps = [.int j] ∧ lo = none ∧ hi = some j) ∨
      ∃ i j, l = true ∧ h = true ∧ ps = [.int i, .int j] ∧ lo = some i ∧ hi = some j) := fun xs ys q => by
    unfold slcF at q
    split at q
    · cases q; exact ⟨none, none, rfl, .inl ⟨rfl, rfl, rfl, rfl, rfl⟩⟩
    · cases q; exact ⟨_, none, rfl, .inr (.inl ⟨_, rfl, rfl, rfl, rfl, rfl⟩)⟩
    · cases q; exact ⟨none, _, rfl, .inr (.inr (.inl ⟨_, rfl, rfl, rfl, rfl, rfl⟩))⟩
    · cases q; exact ⟨_, _, rfl, .inr (.inr (.inr ⟨_, _, rfl, rfl, rfl, rfl, rfl⟩))⟩
    · cases q
  cases t with
  | lst xs =>
    replace e : (slcF xs l h ps).map (fun ys => (true, T.lst ys)) = some res := e
    rw [Option.map_eq_some_iff] at e
    obtain ⟨ys, e, rfl⟩ := e
    obtain ⟨lo, hi, rfl, q⟩ := key xs ys e
    exact ⟨lo, hi, slc_lst S r k, q⟩
  | scr xs =>
    replace e : (slcF (xs.map T.int) l h ps).map (fun ys => (true, T.lst ys)) = some res := e
    rw [Option.map_eq_some_iff] at e
    obtain ⟨ys, e, rfl⟩ := e
    obtain ⟨lo, hi, rfl, q⟩ := key _ ys e
    exact ⟨lo, hi, slc_scr S r k, q⟩
  | tup xs =>
    replace e : (slcF xs l h ps).map (fun ys => (false, T.tup ys)) = some res := e
    rw [Option.map_eq_some_iff] at e
    obtain ⟨ys, e, rfl⟩ := e
    obtain ⟨lo, hi, rfl, q⟩ := key xs ys e
    exact ⟨lo, hi, slc_tup S r k, q⟩
  | _ => cases e
theorem s_slc0 : Snd B (.slc false false) (fun vs H Q => match vs with | [v] => rSlc B.K v none none H Q | _ => True) := by
  intro F A σ H G g Q vs ts res S h e k
  cases h with
  | nil => cases e
  | cons h1 h2 =>
    obtain ⟨lo, hi, q1, q2⟩ := slc_any S h1 e k
    rcases q2 with ⟨_, _, rfl, rfl, rfl⟩ | ⟨i, z, _⟩ | ⟨j, _, z, _⟩ | ⟨i, j, z, _⟩
    · cases h2; exact q1
    all_goals cases z
theorem s_slc1 : Snd B (.slc true false) (fun vs H Q => match vs with | [v, w] => ∃ i, w = .int i ∧ rSlc B.K v (some i) none H Q | _ => True) := by
  intro F A σ H G g Q vs ts res S h e k
  cases h with
  | nil => cases e
  | cons h1 h2 =>
    obtain ⟨lo, hi, q1, q2⟩ := slc_any S h1 e k
    rcases q2 with ⟨z, _⟩ | ⟨i, _, _, rfl, rfl, rfl⟩ | ⟨j, z, _⟩ | ⟨i, j, _, z, _⟩
    · cases z
    · obtain ⟨w, rfl, r⟩ := h2.one
      exact ⟨i, r.int, q1⟩
    all_goals cases z
theorem s_slc2 : Snd B (.slc false true) (fun vs H Q => match vs with | [v, w] => ∃ i, w = .int i ∧ rSlc B.K v none (some i) H Q | _ => True) := by
  intro F A σ H G g Q vs ts res S h e k
  cases h with
  | nil => cases e
  | cons h1 h2 =>
    obtain ⟨lo, hi, q1, q2⟩ := slc_any S h1 e k
    rcases q2 with ⟨_, z, _⟩ | ⟨i, z, _⟩ | ⟨j, _, _, rfl, rfl, rfl⟩ | ⟨i, j, z, _⟩
    · cases z
    · cases z
    · obtain ⟨w, rfl, r⟩ := h2.one
      exact ⟨j, r.int, q1⟩
    all_goals cases z
theorem op_pe (G : Gd P glb wf d B ck X W) (o : Op) {x : Expr} {xs : List Expr} {es : List E} (h : opArgs ck o x = some xs) (ps : POs C B W X xs es) : PE X x (Lf B W (ev C (.op o es)) (relE B)) := by
  have hK := G.hK
  have o1 : ∀ {a : Expr}, POs C B W X [a] es → ∃ e, es = [e] ∧ PE X a (Lf B W (ev1 C e) (relO B)) ∧ okX a = true := fun {a} p => by
    cases p with
    | cons h1 h2 h3 => cases h3; exact ⟨_, rfl, h1, h2⟩
  have o2 : ∀ {a b : Expr}, POs C B W X [a, b] es → ∃ e e2, es = [e, e2] ∧ PE X a (Lf B W (ev1 C e) (relO B)) ∧ PE X b (Lf B W (ev1 C e2) (relO B)) ∧ okX a = true ∧ okX b = true := fun {a b} p => by
    cases p with
    | cons h1 h2 h3 =>
      cases h3 with
      | cons h4 h5 h6 => cases h6; exact ⟨_, _, rfl, h1, h4, h2, h5⟩
  have o3 : ∀ {a b c : Expr}, POs C B W X [a, b, c] es → ∃ e e2 e3, es = [e, e2, e3] ∧ PE X a (Lf B W (ev1 C e) (relO B)) ∧ PE X b (Lf B W (ev1 C e2) (relO B)) ∧ PE X c (Lf B W (ev1 C e3) (relO B)) := fun {a b c} p => by
    cases p with
    | cons h1 h2 h3 =>
      cases h3 with
      | cons h4 h5 h6 =>
        cases h6 with
        | cons h7 h8 h9 => cases h9; exact ⟨_, _, _, rfl, h1, h4, h7⟩
  have b1 : ∀ {n : Str} {x : Expr}, one (xBlt ck n x) = some xs → xBlt ck n x = some xs ∧ xs ≠ [] := fun {n x} q => by
    obtain ⟨a, q1, rfl⟩ := one_some q
    exact ⟨q1, List.cons_ne_nil _ _⟩
  have b2 : ∀ {n : Str} {x : Expr}, two (xBlt ck n x) = some xs → xBlt ck n x = some xs ∧ xs ≠ [] := fun {n x} q => by
    obtain ⟨a, b, q1, rfl⟩ := two_some q
    exact ⟨q1, List.cons_ne_nil _ _⟩
  have hsl : SlR X (rSlc B.K) := hK ▸ sl_slc
  have hbin : ∀ o, OpR X (binaryOp o) (rBin B.K o) := hK ▸ op_bin
  have hcmp : ∀ o, OpR X (compareOp o) (rCmp B.K o) := hK ▸ op_cmp G.un
  have hix : IxR X (rIx2 B.K) := hK ▸ (IxR.or ix_seq (MPS.ix_dict (by have := G.un; omega)))
  cases o with
  | bin o =>
    replace h : xBin o x = some xs := h
    unfold xBin at h
    split at h
    · split at h
      · rename_i e; cases h; subst e
        obtain ⟨e, e2, rfl, p1, p2, _, _⟩ := o2 ps
        exact two_pe (pe_op (hbin _) p1 p2) fun S h e k => s_bin _ S h e k
      · cases h
    · cases h
  | neg =>
    replace h : xUn .USub x = some xs := h
    unfold xUn at h
    split at h
    · split at h
      · rename_i e; cases h; subst e
        obtain ⟨e, rfl, p1, _⟩ := o1 ps
        exact one_pe (pe_un un_neg p1) fun S h e k => s_neg S h e k
      · cases h
    · cases h
  | inv =>
    replace h : xUn .Invert x = some xs := h
    unfold xUn at h
    split at h
    · split at h
      · rename_i e; cases h; subst e
        obtain ⟨e, rfl, p1, _⟩ := o1 ps
        exact one_pe (pe_un un_inv p1) fun S h e k => s_inv S h e k
      · cases h
    · cases h
  | cmp o =>
    replace h : xCmp o x = some xs := h
    unfold xCmp at h
    split at h
    · split at h
      · rename_i e; cases h; subst e
        obtain ⟨e, e2, rfl, p1, p2, _, k2⟩ := o2 ps
        exact two_pe (pe_cmpR (hcmp _) p1 p2 (okX_noMark k2 _)) fun S h e k => s_cmp _ S h e k
      · cases h
    · cases h
  | sub =>
    replace h : xSub x = some xs := h
    unfold xSub at h
    split at h
    · cases h
      obtain ⟨e, e2, rfl, p1, p2, _, k2⟩ := o2 ps
      exact two_pe (pe_ix hix p1 p2 (okX_plainIx k2)) fun S h e k => s_sub S h e k
    · cases h
  | slc l h' =>
    replace h : xSlc l h' x = some xs := h
    unfold xSlc at h
    split at h
    · split at h
      · rename_i e; cases h; obtain ⟨rfl, rfl⟩ := e
        obtain ⟨e, rfl, p1, _⟩ := o1 ps
        exact one_pe (k := fun v H Q => rSlc B.K v none none H Q) (pe_slice hsl p1 po_none po_none) fun S h e k => s_slc0 S h e k
      · cases h
    · split at h
      · rename_i e; cases h; obtain ⟨rfl, rfl⟩ := e
        obtain ⟨e, e2, rfl, p1, p2, _, _⟩ := o2 ps
        exact two_pe (k := fun v w H Q => ∃ i, w = .int i ∧ rSlc B.K v (some i) none H Q) (pe_slice hsl p1 (po_some p2) po_none) fun S h e k => s_slc1 S h e k
      · cases h
    · split at h
      · rename_i e; cases h; obtain ⟨rfl, rfl⟩ := e
        obtain ⟨e, e2, rfl, p1, p2, _, _⟩ := o2 ps
        exact two_pe (k := fun v w H Q => ∃ i, w = .int i ∧ rSlc B.K v none (some i) H Q) (pe_slice hsl p1 po_none (po_some p2)) fun S h e k => s_slc2 S h e k
      · cases h
    · cases h
  | rev =>
    replace h : xRev x = some xs := h
    unfold xRev at h
    split at h
    · split at h
      · rename_i e; cases h; subst e
        obtain ⟨e, rfl, p1, _⟩ := o1 ps
        exact one_pe (hK ▸ pe_revL p1) fun S h e k => s_rev S h e k
      · cases h
    · cases h
  | stp lo hi st =>
    replace h : xStp lo hi st x = some xs := h
    unfold xStp at h
    split at h
    · split at h
      · rename_i e; cases h
        obtain ⟨⟨c1, c2⟩, c3, c4⟩ := e
        obtain ⟨e, rfl, p1, _⟩ := o1 ps
        exact one_pe (hK ▸ MPW.pe_stp p1 c1 c2 c3 (fun z => c4 (Option.some.inj z))) fun S h e k => s_stp S h e k
      · cases h
    · cases h
  | len =>
    obtain ⟨q1, q2⟩ := b1 h
    exact blt_pe G q1 (by decide +kernel) q2 boot_len (by decide +kernel) ps (hK ▸ call_len) s_len
  | abs =>
    obtain ⟨q1, q2⟩ := b1 h
    exact blt_pe G q1 (by decide +kernel) q2 PyProof.Rows.boot_abs (by decide +kernel) ps call_abs s_abs
  | min2 =>
    obtain ⟨q1, q2⟩ := b2 h
    exact blt_pe G q1 (by decide +kernel) q2 PyProof.Rows.boot_min (by decide +kernel) ps (call_min2 G.calm) s_min2
  | max2 =>
    obtain ⟨q1, q2⟩ := b2 h
    exact blt_pe G q1 (by decide +kernel) q2 PyProof.Rows.boot_max (by decide +kernel) ps (call_max2 G.calm) s_max2
  | minl =>
    obtain ⟨q1, q2⟩ := b1 h
    exact blt_pe G q1 (by decide +kernel) q2 PyProof.Rows.boot_min (by decide +kernel) ps (hK ▸ cr_min G.calm) s_minl
  | mnn =>
    replace h : xMnn ck x = some xs := h
    unfold xMnn at h
    split at h
    · split at h
      · rename_i e; cases h
        obtain ⟨⟨rfl, rfl⟩, hg⟩ := e
        obtain ⟨g1, g2⟩ := G.gl hg
        cases ps with
        | cons h1 h2 h3 =>
          have hc : CallRK X (.builtin "min") [Str.ofString "default"] (MPR.rMinN B.K) := hK ▸ MPR.cr_minN G.calm
          refine args_pe ?_ s_mnn
          exact PE.imp (pe_callBK hc g1 (G.blt _ (by decide +kernel)) PyProof.Rows.boot_min (POs.args (.cons h1 h2 h3)) (pk_cons pe_non pk_nil) (by decide +kernel) g2 (congrArg (backTo _) (star_of h2 _ _)) (POs.okAll (.cons h1 h2 h3) _ _)) fun σ H Q q => q
      · cases h
    · cases h
  | maxl =>
    obtain ⟨q1, q2⟩ := b1 h
    exact blt_pe G q1 (by decide +kernel) q2 PyProof.Rows.boot_max (by decide +kernel) ps (hK ▸ cr_max G.calm) s_maxl
  | suml =>
    obtain ⟨q1, q2⟩ := b1 h
    exact blt_pe G q1 (by decide +kernel) q2 PyProof.Rows.boot_sum (by decide +kernel) ps (hK ▸ cr_sum G.calm) s_suml
  | intc =>
    obtain ⟨q1, q2⟩ := b1 h
    exact ty_pe G q1 (by decide +kernel) q2 PyProof.Rows.boot_int (by decide +kernel) ps call_int1 s_intc
  | boolc =>
    obtain ⟨q1, q2⟩ := b1 h
    exact ty_pe G q1 (by decide +kernel) q2 PyProof.Rows.boot_bool (by decide +kernel) ps call_bool1 s_boolc
  | tupc =>
    obtain ⟨q1, q2⟩ := b1 h
    exact ty_pe G q1 (by decide +kernel) q2 PyProof.Rows.boot_tuple (by decide +kernel) ps (hK ▸ MPT.call_tupP) s_tupc
  | lstc =>
    obtain ⟨q1, q2⟩ := b1 h
    exact ty_pe G q1 (by decide +kernel) q2 PyProof.Rows.boot_list (by decide +kernel) ps (hK ▸ call_list_of) s_lstc
  | srt =>
    obtain ⟨q1, q2⟩ := b1 h
    exact blt_pe G q1 (by decide +kernel) q2 PyProof.Rows.boot_sorted (by decide +kernel) ps (hK ▸ (cr_sortedI.or MPX.cr_srtTup)) s_srt
  | alll =>
    obtain ⟨q1, q2⟩ := b1 h
    exact blt_pe G q1 (by decide +kernel) q2 PyProof.Rows.boot_all (by decide +kernel) ps (hK ▸ cr_all G.calm) s_alll
  | anyl =>
    obtain ⟨q1, q2⟩ := b1 h
    exact blt_pe G q1 (by decide +kernel) q2 PyProof.Rows.boot_any (by decide +kernel) ps (hK ▸ cr_any G.calm) s_anyl
  | lrng tp =>
    replace h : xLrng ck tp x = some xs := h
    unfold xLrng at h
    split at h
    · rename_i y hy
      rcases xRange_some h with ⟨a, q1, rfl⟩ | ⟨a, b, q1, rfl⟩
      · obtain ⟨e, rfl, p1, k1⟩ := o1 ps
        obtain ⟨⟨p, pos, rfl⟩, hg⟩ := xBlt_some q1
        obtain ⟨⟨p2, pos2, rfl⟩, hg2⟩ := xBlt_some hy
        obtain ⟨g1, g2⟩ := G.gl hg
        obtain ⟨g3, g4⟩ := G.gl hg2
        have pr := prg_1 (p := p) (pos := pos) g1 (G.no "range") p1 (star_of k1 _ _)
        cases tp with
        | false => exact one_pe (k := fun v H Q => ∃ n, v = .int n ∧ kRng false 0 n H Q) (pe_listRg G.calm g3 (G.no "list") pr) fun S h e k => s_lrng1 false S h e k
        | true => exact one_pe (k := fun v H Q => ∃ n, v = .int n ∧ kRng true 0 n H Q) (MPT.pe_tupRgP G.calm g3 (G.no "tuple") pr) fun S h e k => s_lrng1 true S h e k
      · obtain ⟨e, e2, rfl, p1, p2', k1, k2⟩ := o2 ps
        obtain ⟨⟨p, pos, rfl⟩, hg⟩ := xBlt_some q1
        obtain ⟨⟨p2, pos2, rfl⟩, hg2⟩ := xBlt_some hy
        obtain ⟨g1, g2⟩ := G.gl hg
        obtain ⟨g3, g4⟩ := G.gl hg2
        have pr := prg_2 (p := p) (pos := pos) g1 (G.no "range") p1 p2' (star_of k1 _ _) (star_of k2 _ _) (by rw [star_of k2]; rfl)
        cases tp with
        | false => exact two_pe (k := fun v w H Q => ∃ i j, v = .int i ∧ w = .int j ∧ kRng false i j H Q) (pe_listRg G.calm g3 (G.no "list") pr) fun S h e k => s_lrng2 false S h e k
        | true => exact two_pe (k := fun v w H Q => ∃ i j, v = .int i ∧ w = .int j ∧ kRng true i j H Q) (MPT.pe_tupRgP G.calm g3 (G.no "tuple") pr) fun S h e k => s_lrng2 true S h e k
    · cases h
  | lrev tp =>
    replace h : xLrev ck tp x = some xs := h
    unfold xLrev at h
    split at h
    · rename_i y hy
      obtain ⟨a, q1, rfl⟩ := one_some h
      obtain ⟨e, rfl, p1, k1⟩ := o1 ps
      obtain ⟨⟨p, pos, rfl⟩, hg⟩ := xBlt_some q1
      obtain ⟨⟨p2, pos2, rfl⟩, hg2⟩ := xBlt_some hy
      obtain ⟨g1, g2⟩ := G.gl hg
      obtain ⟨g3, g4⟩ := G.gl hg2
      cases tp with
      | false => exact one_pe (hK ▸ MPY.pe_lstRev G.calm g3 (G.no "list") g1 (G.no "reversed") p1 (star_of k1 _ _) (by rfl)) fun S h e k => s_lrev false S h e k
      | true => exact one_pe (hK ▸ MPT.pe_tupRevP G.calm g3 (G.no "tuple") g1 (G.no "reversed") p1 (star_of k1 _ _) (by rfl)) fun S h e k => s_lrev true S h e k
    · cases h
  | isi c =>
    replace h : xIsi ck c x = some xs := h
    unfold xIsi at h
    split at h
    · rename_i y z hy
      split at h
      · rename_i hc
        cases h
        obtain ⟨e, rfl, p1, k1⟩ := o1 ps
        obtain ⟨⟨p, pos, rfl⟩, hg⟩ := xBlt_some hy
        obtain ⟨g1, g2⟩ := G.gl hg
        have pa := pa_cons p1 (pa_cons (G.pcls hc.2 hc.1) pa_nil (star_of (okX_nm hc.1) _ _)) (star_of k1 _ _)
        exact one_pe (k := fun v H Q => rIsi B.K [v, .ty (clsS c)] H Q) (hK ▸ pe_callB call_isi g1 (G.no "isinstance") PyProof.Rows.boot_isinstance pa (by decide +kernel) g2 (star_of k1 _ _) (by rw [star_of (okX_nm hc.1)]; rfl)) fun S h e k => s_isi c hc.2 S h e k
      · cases h
    · cases h
  | isi2 =>
    replace h : xIsi2 ck x = some xs := h
    unfold xIsi2 at h
    split at h
    · rename_i y z w k3 ps3 hy
      split at h
      · rename_i hc
        cases h
        obtain ⟨e, rfl, p1, k1⟩ := o1 ps
        obtain ⟨⟨p, pos, rfl⟩, hg⟩ := xBlt_some hy
        obtain ⟨g1, g2⟩ := G.gl hg
        have pt := pa_cons (G.pcls (c := 4) (by decide) hc.1) (pa_cons (G.pcls (c := 3) (by decide) hc.2) pa_nil (star_of (okX_nm hc.2) _ _)) (star_of (okX_nm hc.1) _ _)
        have pa := pa_cons p1 (pa_cons (pe_tup (x1 := k3) (pos := ps3) pt) pa_nil) (star_of k1 _ _)
        have base : PE X (.Call (.Name "isinstance" p) [y, .Tuple [z, w] k3 ps3] [] pos) (tCB (rIsiT B.K) (tCons (Lf B W (ev1 C e) (relO B)) (tCons (tTup (tCons (tC (.ty (clsS 4))) (tCons (tC (.ty (clsS 3))) tNil))) tNil))) :=
          hK ▸ pe_callB call_isiT g1 (G.no "isinstance") PyProof.Rows.boot_isinstance pa (by decide +kernel) g2 (star_of k1 _ _) rfl
        refine one_pe (k := fun v H Q => ∀ p, H p = none → rIsiT B.K [v, .ref p] (upd H p (.tup [.ty "list", .ty "tuple"])) Q) (base.imp fun σ H Q q => ?_) fun S h e k => s_isi2 S h e k
        exact Lf.imp q fun v H1 q1 => ⟨(by show 2 ≤ sizeLine; decide), fun p hp => q1 p hp⟩
      · cases h
    · cases h
  | isn =>
    replace h : xIsn ck x = some xs := h
    unfold xIsn at h
    split at h
    · rename_i y z hy
      cases h
      exact blt_pe G hy (by decide +kernel) (List.cons_ne_nil _ _) PyProof.Rows.boot_isinstance (by decide +kernel) ps (hK ▸ (call_isX.or call_isXT)) (s_isn G.exf)
    · cases h
  | isv =>
    replace h : xIsv ck x = some xs := h
    unfold xIsv at h
    split at h
    · rename_i y z hy
      split at h
      · rename_i hc
        cases h
        obtain ⟨e, rfl, p1, k1⟩ := o1 ps
        obtain ⟨⟨p, pos, rfl⟩, hg⟩ := xBlt_some hy
        obtain ⟨g1, g2⟩ := G.gl hg
        have pv : PE X z (tC (.ty "ValueError")) := by
          obtain ⟨p, rfl, hg⟩ := isNm_some hc
          obtain ⟨g1, g2⟩ := G.gl hg
          exact pe_bltn g1 (G.blt "ValueError" (by decide +kernel)) boot_ve rfl (by decide +kernel) g2
        have pa := pa_cons p1 (pa_cons pv pa_nil (star_of (okX_nm hc) _ _)) (star_of k1 _ _)
        exact one_pe (k := fun v H Q => rIsX B.K [v, .ty "ValueError"] H Q) (hK ▸ pe_callB call_isX g1 (G.no "isinstance") PyProof.Rows.boot_isinstance pa (by decide +kernel) g2 (star_of k1 _ _) (by rw [star_of (okX_nm hc)]; rfl)) fun S h e k => s_isv G.exf S h e k
      · cases h
    · cases h
  | idx => cases h
  | cnt => cases h
end
end MP
namespace MPZ
open PySem PySem.Spec PyProof.Rows L2
open AutoSeq1 (wpAny_loadPart')
theorem meets_enumT (l : Addr) (items : Array Value) (n : Nat) (dct : Option Addr) (sl : Array (Option Value)) :
    Meets (Builtin.«enumerate.__new__» ⟨[.type "enumerate", .ref l], []⟩) (fun _ R s => s.heap.get? l = some { cls := .type "tuple", dict := dct, data := .seq items n, slots := sl } ∧
      R (.ok (.ret (.ref (s.heap.push { cls := .type "tuple_iterator", data := .fields #[.ref l, .int 0 0] }).objs.size)))
        { s with heap := (s.heap.push { cls := .type "tuple_iterator", data := .fields #[.ref l, .int 0 0] }).push { cls := .type "enumerate", data := .fields #[.none, .bool false, .ref s.heap.objs.size, rawInt 0, .none, .none] } }) :=
  .of_wp fun prog w A R s h => by
    obtain ⟨hp, g, d, tk, os⟩ := s; obtain ⟨hl, h⟩ := h
    have hsub := sub_enumerate
    have hL : Heap.IsTuple (Shared.heap ⟨hp, g, d, tk, os⟩) l items := ⟨_, hl, rfl, n, rfl⟩
    wp_walk using wpAny_loadPart' hl
    refine wpAny_stack_any fun st => wpAny_pure ?_
    split
    · rename_i c _ _ _ _ _
      cases (c == Value.type "enumerate")
      · wp_walk using wpAny_loadPart' hl, wpAny_pyIter_tuple hL
        exact ⟨_, rfl, h⟩
      · wp_walk using wpAny_loadPart' hl, wpAny_pyIter_tuple hL
        exact ⟨_, rfl, h⟩
    · wp_walk using wpAny_loadPart' hl, wpAny_pyIter_tuple hL
      exact ⟨_, rfl, h⟩
section
variable {prog : Program} {w : World} {A : Around} {E : Value → Shared → Prop} {s : Shared}
theorem call_enumT {l : Addr} {items : Array Value} {Q : Value → Shared → Prop} (hL : s.heap.IsTuple l items)
    (h : ∀ h', IsEnum h' (s.heap.objs.size + 1) s.heap.objs.size 0 .none → h'.IsTupleIter s.heap.objs.size l 0 → h'.objs.size = s.heap.objs.size + 2 →
      (∀ b o, s.heap.get? b = some o → h'.get? b = some o) → Q (.ref (s.heap.objs.size + 1)) { s with heap := h' }) :
    wpAny (model prog w) A (call (.type "enumerate") [.ref l]) Q E s := by
  obtain ⟨⟨c, dct, dt, sl⟩, hl, hc, n, hd⟩ := hL
  replace hc : c = .type "tuple" := hc
  replace hd : dt = .seq items n := hd
  subst hc hd
  refine callType_new F.called_enumerate (by decide) (F.typeCall_enumerate_1 _) (F.newCall_enumerate_1 _) (fun obj => F.args_object_init_2 obj _) F.entry_enumerate_new
    (meets_enumT l items n dct sl) ⟨hl, ?_⟩
  have hz : (s.heap.push { cls := .type "tuple_iterator", data := .fields #[.ref l, .int 0 0] }).objs.size = s.heap.objs.size + 1 := Heap.size_push ..
  show _ ∧ _
  rw [hz]
  have he : IsEnum ((s.heap.push { cls := .type "tuple_iterator", data := .fields #[.ref l, .int 0 0] }).push
      { cls := .type "enumerate", data := .fields #[.none, .bool false, .ref s.heap.objs.size, rawInt 0, .none, .none] }) (s.heap.objs.size + 1) s.heap.objs.size 0 .none := by
    have := Heap.get?_push_size (s.heap.push { cls := .type "tuple_iterator", data := .fields #[.ref l, .int 0 0] })
      (o := { cls := .type "enumerate", data := .fields #[.none, .bool false, .ref s.heap.objs.size, rawInt 0, .none, .none] }) rfl
    rw [hz] at this; exact this
  refine ⟨⟨_, he, rfl⟩, h _ he ⟨_, Heap.get?_push_of_some _ (Heap.get?_push_size _ rfl), rfl, rfl⟩ (by rw [Heap.size_push, hz]) fun b o x => Heap.get?_push_of_some _ (Heap.get?_push_of_some _ x)⟩
end
/-- the tuple at a, each item in a new pair -/
def IteT (K : PySem.W.Frag) (a : Addr) : It :=
  ⟨fun i H => ∃ (xs : List V) (x : V), SqT K H a xs ∧ xs[i]? = some x, fun i H v H' => ∃ T x, v = .ref T ∧ H T = none ∧ H' = upd H T (.tup [.int (i : Nat), x]) ∧ ∀ xs, SqT K H a xs → xs[i]? = some x, fun i H => ∃ xs : List V, SqT K H a xs ∧ xs.length ≤ i⟩
theorem turn_enumT {P : Program} {w : World} {K : PySem.W.Frag} {elts : List Expr} {kk : Nat} {tpos : Pos} {a e it : Addr} (hne : e ≠ it) (hai : a ≠ it) (hae : a ≠ e) :
    Turn P w K (.Tuple elts kk tpos) (IteT K a) [e, it] e (fun i h => (∃ old, IsEnum h e it ((i : Nat) : Int) old) ∧ h.IsTupleIter it a i) where
  mem := by simp
  obj := fun i h st b hb => by
    obtain ⟨⟨old, he⟩, ⟨o, ho, hc, hd⟩⟩ := st
    have e' : b = e ∨ b = it := by simpa using hb
    rcases e' with z | z
    · rw [z]; exact ⟨_, he, fun v q => nomatch q⟩
    · rw [z]; exact ⟨o, ho, fun v q => by rw [hd] at q; cases q⟩
  keep := fun i h h' st k => let ⟨⟨old, he⟩, hi⟩ := st; ⟨⟨old, k e (by simp) _ he⟩, hi.at fun o q => k it (by simp) o q⟩
  item := by
    intro X hP hw hK hc i pins s σ H E I hf st hg
    subst hP hw hK
    obtain ⟨⟨old, he⟩, hit⟩ := st
    obtain ⟨xs, x, hq, hx⟩ := hg
    obtain ⟨its, rv, p, hz⟩ := I.tuple hq
    obtain ⟨u, hu, ru⟩ := rv.get hx
    have hel : e < s.heap.objs.size := Heap.lt_size he
    have hil : it < s.heap.objs.size := by obtain ⟨_, q, _⟩ := hit; exact Heap.lt_size q
    have hlt : i < its.toArray.size := by
      have := (List.getElem?_eq_some_iff.mp hu).1
      simpa using this
    have D := Draws.tuple (prog := X.prog) (w := X.w) (A := X.A.in1) (show X.A.in1.handled = none from I.ok.hd hc) it a hai its.toArray
    refine wpAny_pyNext_enum_itemD D he ⟨hit, p⟩ hlt hne (by simp only [List.mem_cons, List.not_mem_nil, or_false, not_or]; exact ⟨hne, fun z => hae z.symm⟩) fun x0 h' tk hP0 ho hit' hT hsz hk => ?_
    have ex : x0 = u := by
      have h1 : its.toArray[i]? = some x0 := hP0
      have h2 : its.toArray[i]? = some u := by simpa using hu
      rw [h1] at h2
      exact Option.some.inj h2
    subst ex
    refine ⟨_, rfl, wpAny_letOwnedTupleGo_enum (s := { s with heap := h', toks := tk + 1 }) ho fun h'' he' sb => ?_⟩
    have hT2 : h''.get? s.heap.objs.size = some { cls := .type "tuple", data := .seq #[.int i tk, x0] } := (sb.2 _ (Nat.ne_of_gt hel)).trans hT
    have new : ObjOk X.prog X.w (upd H s.heap.objs.size (.tup [.int (i : Nat), x])) h'' s.heap.objs.size (.tup [.int (i : Nat), x]) :=
      ⟨by show 2 ≤ sizeLine; decide, [.int i tk, x0], .cons ⟨_, rfl⟩ (.cons ru .nil), ⟨_, hT2, rfl, _, rfl⟩⟩
    have I1 : Inv X pins σ (upd H s.heap.objs.size (.tup [.int (i : Nat), x])) { s with heap := h'', toks := tk + 1 } :=
      I.turnedNew (ch := [e, it]) (fun b ob hb q => (sb.2 b (fun z => hb (by simp [z]))).trans (hk b ob (fun z => hb (by simp [z])) (fun z => hb (by simp [z])) q)) hf (Nat.le_refl _) new
    refine ⟨.ref s.heap.objs.size, _, I1, rfl, ⟨_, x, rfl, I.hok.fresh (Nat.le_refl _), rfl, fun ys hy => by rw [I.tuple_inj hy hq]; exact hx⟩, ⟨⟨x0, ?_⟩, hit'.1.at fun o q => (sb.2 it (Ne.symm hne)).trans q⟩, fun b hb => ?_⟩
    · have e1 : ((i + 1 : Nat) : Int) = (i : Int) + 1 := by omega
      rw [e1]; exact he'
    · have hb' : b < s.heap.objs.size := by
        have e' : b = e ∨ b = it := by simpa using hb
        rcases e' with z | z
        · rw [z]; exact hel
        · rw [z]; exact hil
      rw [upd_ne (Nat.ne_of_lt hb')]
      exact (hf b hb).1
  done := by
    intro X hP hw hK hc i pins s σ H E I hf st hg
    subst hP hw hK
    obtain ⟨⟨old, he⟩, hit⟩ := st
    obtain ⟨xs, hq, hx⟩ := hg
    obtain ⟨its, rv, p, hz⟩ := I.tuple hq
    obtain ⟨f0, f1, f2, f3, f4, f5⟩ := hf it (by simp)
    have hl := rv.length
    have hn : its.toArray[i]? = none := by simp; omega
    have D : Draws X.prog X.w X.A.in1 it [it, a] i (fun _ _ => False) (fun j h => j = i ∧ h.IsTupleIter it a i ∧ h.IsTuple a its.toArray) :=
      { live := fun _ _ st => let ⟨o, ho, _⟩ := st.2.1; ⟨o, ho⟩
        frame := fun _ _ _ st hk => ⟨st.1, st.2.1.at fun o e => hk it (by simp) o e, st.2.2.at fun o e => hk a (by simp) o e⟩
        item := fun j _ _ _ hj st => absurd hj (by rw [st.1]; exact Nat.lt_irrefl _)
        done := fun s Q E st hE => wpAny_nextOf_tuple_end (show X.A.in1.handled = none from I.ok.hd hc) st.2.1 st.2.2 hn hE }
    exact wpAny_pyNext_enum_endD D he ⟨rfl, hit, p⟩ fun h' eb => ⟨rfl, I.turned (t' := s.toks) (fun b o hb q => eb b o hb q) f0 f1 f3 f4 f5⟩
  self := fun _ _ _ _ _ st h => let ⟨⟨_, he⟩, _⟩ := st; wpAny_pyIter_enum he h
/-- enumerate(x), x a list or a tuple -/
def iEnumA (K : PySem.W.Frag) (ta : TA) : TI := fun σ H R => ta σ H fun vs H1 => ∃ a xs, vs = [.ref a] ∧ ((SqL K H1 a xs ∧ R (Ite K a) H1) ∨ (SqT K H1 a xs ∧ R (IteT K a) H1))
theorem pi_enumA {X : Cx} {e : Expr} {ta : TA} {p pos tpos : Pos} {elts : List Expr} {kk : Nat} (hg : Gl X "enumerate") (hm : X.mg "enumerate" = none) (ha : PA X [e] ta) (hs : starEach [e] X.env = [(false, eval e X.env)] := by rfl) :
    PI X (.Tuple elts kk tpos) (.Call (.Name "enumerate" p) [e] [] pos) (iEnumA X.K ta) := by
  refine ⟨fun pins s σ H R I h => ?_⟩
  refine Call_ (ld_blt I hg hm boot_enumerate (PyProof.Rows.callWith_type1 (thn (ha.run pos pins s σ H _ I h) fun us s1 ⟨vs, H1, I1, r1, q1⟩ => ?_) hs rfl))
  obtain ⟨a, xs, ex, q1⟩ := q1
  subst ex
  cases r1 with
  | cons r rr =>
    cases rr
    cases r
    have fresh2 : ∀ b, b ∈ [s1.heap.objs.size + 1, s1.heap.objs.size] → FpOk X pins H1 b := fun b hb => by
      have e' : b = s1.heap.objs.size + 1 ∨ b = s1.heap.objs.size := by simpa using hb
      have hle : s1.heap.objs.size ≤ b := by
        rcases e' with z | z
        · rw [z]; exact Nat.le_add_right _ _
        · rw [z]; exact Nat.le_refl _
      exact I1.fpOk hle (I1.hok.fresh hle)
    rcases q1 with ⟨hq, q⟩ | ⟨hq, q⟩
    · obtain ⟨its, rv, p', hz⟩ := I1.list hq
      refine call_enumerate_list p'.isList fun h' he hit hsz hk => wpAny_pyIter_enum he ?_
      have I2 : Inv X pins σ H1 { s1 with heap := h' } := I1.kept (t' := s1.toks) hk
      exact ⟨s1.heap.objs.size + 1, [s1.heap.objs.size + 1, s1.heap.objs.size], _, _, H1, rfl, I2, turn_enum a (s1.heap.objs.size + 1) s1.heap.objs.size, ⟨⟨.none, he⟩, hit, Nat.succ_ne_self _⟩, fresh2, q⟩
    · obtain ⟨its, rv, p', hz⟩ := I1.tuple hq
      obtain ⟨o1, ho1, _⟩ := id p'
      have hlt : a < s1.heap.objs.size := Heap.lt_size ho1
      refine call_enumT (show s1.heap.IsTuple a its.toArray from p') fun h' he hit hsz hk => wpAny_pyIter_enum he ?_
      have I2 : Inv X pins σ H1 { s1 with heap := h' } := I1.kept (t' := s1.toks) hk
      exact ⟨s1.heap.objs.size + 1, [s1.heap.objs.size + 1, s1.heap.objs.size], _, _, H1, rfl, I2, turn_enumT (Nat.succ_ne_self _) (Nat.ne_of_lt hlt) (Nat.ne_of_lt (Nat.lt_succ_of_lt hlt)), ⟨⟨.none, he⟩, hit⟩, fresh2, q⟩
/-- over a list or a tuple -/
def iSeq (K : PySem.W.Frag) (te : TE) : TI := fun σ H R => te σ H fun v H1 => ∃ (a : Addr), v = .ref a ∧ (((∃ xs, SqL K H1 a xs) ∧ R (Itl K a) H1) ∨ ((∃ xs, SqT K H1 a xs) ∧ R (Itt K a) H1))
theorem pi_seq {X : Cx} {tg l : Expr} {tl : TE} (hl : PE X l tl) : PI X tg l (iSeq X.K tl) := by
  refine ⟨fun pins s σ H R I h => ?_⟩
  refine thn (hl.run pins s σ H _ I h) fun v s1 ⟨x, H1, I1, r1, q1⟩ => ?_
  obtain ⟨a, e, q1⟩ := q1
  subst e
  cases r1
  rcases q1 with ⟨⟨xs, hq⟩, q⟩ | ⟨⟨xs, hq⟩, q⟩
  · obtain ⟨its, rv, p, hz⟩ := I1.list hq
    refine wpAny_pyIter_list p.isList ?_
    refine ⟨s1.heap.objs.size, [s1.heap.objs.size], _, _, H1, rfl, I1.kept (t' := s1.toks) fun b o e => Heap.get?_push_of_some _ e, turn_list a _, ⟨_, Heap.get?_push_size _ rfl, rfl, rfl⟩, fun b hb => ?_, q⟩
    have e : b = s1.heap.objs.size := by simpa using hb
    subst e
    exact I1.fpOk (Nat.le_refl _) (I1.hok.fresh (Nat.le_refl _))
  · obtain ⟨its, rv, p, hz⟩ := I1.tuple hq
    refine wpAny_pyIter_tuple (show s1.heap.IsTuple a its.toArray from p) ?_
    refine ⟨s1.heap.objs.size, [s1.heap.objs.size], _, _, H1, rfl, I1.kept (t' := s1.toks) fun b o e => Heap.get?_push_of_some _ e, turn_tuple a _, ⟨_, Heap.get?_push_size _ rfl, rfl, rfl⟩, fun b hb => ?_, q⟩
    have e : b = s1.heap.objs.size := by simpa using hb
    subst e
    exact I1.fpOk (Nat.le_refl _) (I1.hok.fresh (Nat.le_refl _))
end MPZ
namespace MP
open PySem PySem.Spec L2
/-- a walk of the operands' values -/
structure ItOk (B : Bg) (k : IK) (n : Nat × Bool) (vs : List V) (J : It) : Prop where
  go : ∀ i H G ts x, Same G H → RpXs B H G vs ts → itT k n ts i = some (some x) → J.go i H
  stop : ∀ i H G ts, Same G H → RpXs B H G vs ts → itT k n ts i = some none → J.stop i H
  yld : ∀ i H G ts x v H', Same G H → RpXs B H G vs ts → itT k n ts i = some (some x) → J.yld i H v H' → (H' = H ∧ Rp B G v x) ∨
    pairB k false = false ∧ ∃ T ws ys, x = .tup ys ∧ v = .ref T ∧ H T = none ∧ H' = upd H T (.tup ws) ∧ RpL B G ws ys ∧ ys.length ≤ sizeLine
  most : n.1 ≤ sizeLine
def itM (C : Cn) (k : IK) (es : List E) (g : En) : R (List Od × (Nat × Bool)) := (evOs C es g).bind fun os g1 => match (odTs g1 os).bind (itN k) with
  | none => .bad
  | some n => .ok (os, n) g1
def relI (B : Bg) (k : IK) : Rel (List Od × (Nat × Bool)) It := fun F σ H G g p J => ∃ vs, OdOk B G σ p.1 vs ∧ ItOk B k p.2 vs J
theorem _root_.L2.PI.imp {X : Cx} {tg iter : Expr} {t t' : TI} (h : PI X tg iter t) (k : ∀ σ H R, t' σ H R → t σ H R) : PI X tg iter t' := ⟨fun pins s σ H R I q => h.run pins s σ H R I (k σ H R q)⟩
section
variable {B : Bg}
theorem ok_seqL {a : Addr} {n : Nat} (hn : n ≤ sizeLine) : ItOk B .seq (n, false) [.ref a] (Itl B.K a) where
  most := hn
  go := fun i H G ts x s h e => by
    replace e : seqAt false i ts = some (some x) := e
    unfold seqAt at e
    split at e
    · rw [if_neg Bool.false_ne_true] at e
      obtain ⟨v, hv, r⟩ := h.one
      cases hv
      obtain ⟨b, vs, hb, h1, h2, _⟩ := r.lst s
      cases hb
      obtain ⟨w, hw, _⟩ := h2.get (Option.some.inj e)
      exact ⟨vs, w, .inl (.inl h1), hw⟩
    · cases e
    · cases e
  stop := fun i H G ts s h e => by
    replace e : seqAt false i ts = some none := e
    unfold seqAt at e
    split at e
    · rw [if_neg Bool.false_ne_true] at e
      obtain ⟨v, hv, r⟩ := h.one
      cases hv
      obtain ⟨b, vs, hb, h1, h2, _⟩ := r.lst s
      cases hb
      exact ⟨vs, .inl (.inl h1), List.getElem?_eq_none_iff.mp (h2.none_of (Option.some.inj e))⟩
    · cases e
    · cases e
  yld := fun i H G ts x v H' s h e y => by
    replace e : seqAt false i ts = some (some x) := e
    unfold seqAt at e
    split at e
    · rw [if_neg Bool.false_ne_true] at e
      obtain ⟨v', hv, r⟩ := h.one
      cases hv
      obtain ⟨b, vs, hb, h1, h2, _⟩ := r.lst s
      cases hb
      obtain ⟨w, hw, rw⟩ := h2.get (Option.some.inj e)
      obtain ⟨y1, y2⟩ := y
      have := y2 vs (.inl (.inl h1))
      rw [hw] at this
      cases this
      exact .inl ⟨y1, rw⟩
    · cases e
    · cases e
theorem ok_seqT {a : Addr} {n : Nat} (hn : n ≤ sizeLine) : ItOk B .seq (n, true) [.ref a] (Itt B.K a) where
  most := hn
  go := fun i H G ts x s h e => by
    replace e : seqAt true i ts = some (some x) := e
    unfold seqAt at e
    split at e
    · cases e
    · rw [if_pos rfl] at e
      obtain ⟨v, hv, r⟩ := h.one
      cases hv
      obtain ⟨b, vs, hb, h1, h2, _⟩ := r.tup
      cases hb
      obtain ⟨w, hw, _⟩ := h2.get (Option.some.inj e)
      exact ⟨vs, w, Same.sqT s h1.t, hw⟩
    · cases e
  stop := fun i H G ts s h e => by
    replace e : seqAt true i ts = some none := e
    unfold seqAt at e
    split at e
    · cases e
    · rw [if_pos rfl] at e
      obtain ⟨v, hv, r⟩ := h.one
      cases hv
      obtain ⟨b, vs, hb, h1, h2, _⟩ := r.tup
      cases hb
      exact ⟨vs, Same.sqT s h1.t, List.getElem?_eq_none_iff.mp (h2.none_of (Option.some.inj e))⟩
    · cases e
  yld := fun i H G ts x v H' s h e y => by
    replace e : seqAt true i ts = some (some x) := e
    unfold seqAt at e
    split at e
    · cases e
    · rw [if_pos rfl] at e
      obtain ⟨v', hv, r⟩ := h.one
      cases hv
      obtain ⟨b, vs, hb, h1, h2, _⟩ := r.tup
      cases hb
      obtain ⟨w, hw, rw⟩ := h2.get (Option.some.inj e)
      obtain ⟨y1, y2⟩ := y
      have := y2 vs (Same.sqT s h1.t)
      rw [hw] at this
      cases this
      exact .inl ⟨y1, rw⟩
    · cases e
theorem pair_rp {G : Hp} {v w : V} {x y : T} (h1 : Rp B G v x) (h2 : Rp B G w y) : RpL B G [v, w] [x, y] ∧ [x, y].length ≤ sizeLine := ⟨.cons h1 (.cons h2 .nil), (by show 2 ≤ sizeLine; decide)⟩
theorem ok_enumL {a : Addr} {n : Nat} (hn : n ≤ sizeLine) : ItOk B .enum (n, false) [.ref a] (Ite B.K a) where
  most := hn
  go := fun i H G ts x s h e => by
    replace e : enumAt false i ts = some (some x) := e
    unfold enumAt at e
    split at e
    · rw [if_neg Bool.false_ne_true] at e
      obtain ⟨v, hv, r⟩ := h.one
      cases hv
      obtain ⟨b, vs, hb, h1, h2, _⟩ := r.lst s
      cases hb
      obtain ⟨z, hz, _⟩ := Option.map_eq_some_iff.mp (Option.some.inj e)
      obtain ⟨w, hw, _⟩ := h2.get hz
      exact ⟨vs, w, .inl (.inl h1), hw⟩
    · cases e
    · cases e
  stop := fun i H G ts s h e => by
    replace e : enumAt false i ts = some none := e
    unfold enumAt at e
    split at e
    · rw [if_neg Bool.false_ne_true] at e
      obtain ⟨v, hv, r⟩ := h.one
      cases hv
      obtain ⟨b, vs, hb, h1, h2, _⟩ := r.lst s
      cases hb
      exact ⟨vs, .inl (.inl h1), List.getElem?_eq_none_iff.mp (h2.none_of (Option.map_eq_none_iff.mp (Option.some.inj e)))⟩
    · cases e
    · cases e
  yld := fun i H G ts x v H' s h e y => by
    replace e : enumAt false i ts = some (some x) := e
    unfold enumAt at e
    split at e
    · rw [if_neg Bool.false_ne_true] at e
      obtain ⟨v', hv, r⟩ := h.one
      cases hv
      obtain ⟨b, vs, hb, h1, h2, _⟩ := r.lst s
      cases hb
      obtain ⟨z, hz, rfl⟩ := Option.map_eq_some_iff.mp (Option.some.inj e)
      obtain ⟨w, hw, rw⟩ := h2.get hz
      obtain ⟨T, x', y1, y2, y3, y4⟩ := y
      have := y4 vs (.inl (.inl h1))
      rw [hw] at this
      cases this
      obtain ⟨q1, q2⟩ := pair_rp (Rp.int (B := B) (H := G) i) rw
      exact .inr ⟨rfl, T, _, _, rfl, y1, y2, y3, q1, q2⟩
    · cases e
    · cases e
theorem ok_enumT {a : Addr} {n : Nat} (hn : n ≤ sizeLine) : ItOk B .enum (n, true) [.ref a] (MPZ.IteT B.K a) where
  most := hn
  go := fun i H G ts x s h e => by
    replace e : enumAt true i ts = some (some x) := e
    unfold enumAt at e
    split at e
    · cases e
    · rw [if_pos rfl] at e
      obtain ⟨v, hv, r⟩ := h.one
      cases hv
      obtain ⟨b, vs, hb, h1, h2, _⟩ := r.tup
      cases hb
      obtain ⟨z, hz, _⟩ := Option.map_eq_some_iff.mp (Option.some.inj e)
      obtain ⟨w, hw, _⟩ := h2.get hz
      exact ⟨vs, w, Same.sqT s h1.t, hw⟩
    · cases e
  stop := fun i H G ts s h e => by
    replace e : enumAt true i ts = some none := e
    unfold enumAt at e
    split at e
    · cases e
    · rw [if_pos rfl] at e
      obtain ⟨v, hv, r⟩ := h.one
      cases hv
      obtain ⟨b, vs, hb, h1, h2, _⟩ := r.tup
      cases hb
      exact ⟨vs, Same.sqT s h1.t, List.getElem?_eq_none_iff.mp (h2.none_of (Option.map_eq_none_iff.mp (Option.some.inj e)))⟩
    · cases e
  yld := fun i H G ts x v H' s h e y => by
    replace e : enumAt true i ts = some (some x) := e
    unfold enumAt at e
    split at e
    · cases e
    · rw [if_pos rfl] at e
      obtain ⟨v', hv, r⟩ := h.one
      cases hv
      obtain ⟨b, vs, hb, h1, h2, _⟩ := r.tup
      cases hb
      obtain ⟨z, hz, rfl⟩ := Option.map_eq_some_iff.mp (Option.some.inj e)
      obtain ⟨w, hw, rw⟩ := h2.get hz
      obtain ⟨T, x', y1, y2, y3, y4⟩ := y
      have := y4 vs (Same.sqT s h1.t)
      rw [hw] at this
      cases this
      obtain ⟨q1, q2⟩ := pair_rp (Rp.int (B := B) (H := G) i) rw
      exact .inr ⟨rfl, T, _, _, rfl, y1, y2, y3, q1, q2⟩
    · cases e
theorem zip_some {xs ys : List T} {i : Nat} {x : T} (e : (xs[i]?.bind fun a => ys[i]?.map fun b => T.tup [a, b]) = some x) : ∃ a b, xs[i]? = some a ∧ ys[i]? = some b ∧ x = .tup [a, b] := by
  obtain ⟨a, h1, e⟩ := Option.bind_eq_some_iff.mp e
  obtain ⟨b, h2, rfl⟩ := Option.map_eq_some_iff.mp e
  exact ⟨a, b, h1, h2, rfl⟩
theorem zip_none {xs ys : List T} {i : Nat} (e : (xs[i]?.bind fun a => ys[i]?.map fun b => T.tup [a, b]) = none) : xs[i]? = none ∨ ys[i]? = none := by
  cases h1 : xs[i]? with
  | none => exact .inl rfl
  | some a =>
    rw [h1, Option.bind_some, Option.map_eq_none_iff] at e
    exact .inr e
theorem ok_zipL {a b : Addr} {n : Nat} (hn : n ≤ sizeLine) : ItOk B .zip (n, false) [.ref a, .ref b] (Itz B.K a b) where
  most := hn
  go := fun i H G ts x s h e => by
    replace e : zipAt false i ts = some (some x) := e
    unfold zipAt at e
    split at e
    · rw [if_neg Bool.false_ne_true] at e
      obtain ⟨v, w, hv, r, r'⟩ := h.two
      cases hv
      obtain ⟨_, vs, hb, h1, h2, _⟩ := r.lst s
      cases hb
      obtain ⟨_, ws, hb, h3, h4, _⟩ := r'.lst s
      cases hb
      obtain ⟨p, q, hp, hq, _⟩ := zip_some (Option.some.inj e)
      obtain ⟨w1, hw1, _⟩ := h2.get hp
      obtain ⟨w2, hw2, _⟩ := h4.get hq
      exact ⟨vs, ws, w1, w2, .inl (.inl h1), .inl (.inl h3), hw1, hw2⟩
    · cases e
    · cases e
  stop := fun i H G ts s h e => by
    replace e : zipAt false i ts = some none := e
    unfold zipAt at e
    split at e
    · rw [if_neg Bool.false_ne_true] at e
      obtain ⟨v, w, hv, r, r'⟩ := h.two
      cases hv
      obtain ⟨_, vs, hb, h1, h2, _⟩ := r.lst s
      cases hb
      obtain ⟨_, ws, hb, h3, h4, _⟩ := r'.lst s
      cases hb
      refine ⟨vs, ws, .inl (.inl h1), .inl (.inl h3), ?_⟩
      rcases zip_none (Option.some.inj e) with z | z
      · exact .inl (List.getElem?_eq_none_iff.mp (h2.none_of z))
      · exact .inr (List.getElem?_eq_none_iff.mp (h4.none_of z))
    · cases e
    · cases e
  yld := fun i H G ts x v H' s h e y => by
    replace e : zipAt false i ts = some (some x) := e
    unfold zipAt at e
    split at e
    · rw [if_neg Bool.false_ne_true] at e
      obtain ⟨_, _, hv, r, r'⟩ := h.two
      cases hv
      obtain ⟨_, vs, hb, h1, h2, _⟩ := r.lst s
      cases hb
      obtain ⟨_, ws, hb, h3, h4, _⟩ := r'.lst s
      cases hb
      obtain ⟨p, q, hp, hq, rfl⟩ := zip_some (Option.some.inj e)
      obtain ⟨w1, hw1, r1⟩ := h2.get hp
      obtain ⟨w2, hw2, r2⟩ := h4.get hq
      obtain ⟨T, x1, x2, y1, y2, y3, y4, y5⟩ := y
      have z1 := y4 vs (.inl (.inl h1))
      rw [hw1] at z1
      cases z1
      have z2 := y5 ws (.inl (.inl h3))
      rw [hw2] at z2
      cases z2
      obtain ⟨q1, q2⟩ := pair_rp r1 r2
      exact .inr ⟨rfl, T, _, _, rfl, y1, y2, y3, q1, q2⟩
    · cases e
    · cases e
theorem ok_zipT {a b : Addr} {n : Nat} (hn : n ≤ sizeLine) : ItOk B .zip (n, true) [.ref a, .ref b] (RZ.ItzT B.K a b) where
  most := hn
  go := fun i H G ts x s h e => by
    replace e : zipAt true i ts = some (some x) := e
    unfold zipAt at e
    split at e
    · cases e
    · rw [if_pos rfl] at e
      obtain ⟨v, w, hv, r, r'⟩ := h.two
      cases hv
      obtain ⟨_, vs, hb, h1, h2, _⟩ := r.tup
      cases hb
      obtain ⟨_, ws, hb, h3, h4, _⟩ := r'.tup
      cases hb
      obtain ⟨p, q, hp, hq, _⟩ := zip_some (Option.some.inj e)
      obtain ⟨w1, hw1, _⟩ := h2.get hp
      obtain ⟨w2, hw2, _⟩ := h4.get hq
      exact ⟨vs, ws, w1, w2, Same.sqT s h1.t, Same.sqT s h3.t, hw1, hw2⟩
    · cases e
  stop := fun i H G ts s h e => by
    replace e : zipAt true i ts = some none := e
    unfold zipAt at e
    split at e
    · cases e
    · rw [if_pos rfl] at e
      obtain ⟨v, w, hv, r, r'⟩ := h.two
      cases hv
      obtain ⟨_, vs, hb, h1, h2, _⟩ := r.tup
      cases hb
      obtain ⟨_, ws, hb, h3, h4, _⟩ := r'.tup
      cases hb
      refine ⟨vs, ws, Same.sqT s h1.t, Same.sqT s h3.t, ?_⟩
      rcases zip_none (Option.some.inj e) with z | z
      · exact .inl (List.getElem?_eq_none_iff.mp (h2.none_of z))
      · exact .inr (List.getElem?_eq_none_iff.mp (h4.none_of z))
    · cases e
  yld := fun i H G ts x v H' s h e y => by
    replace e : zipAt true i ts = some (some x) := e
    unfold zipAt at e
    split at e
    · cases e
    · rw [if_pos rfl] at e
      obtain ⟨_, _, hv, r, r'⟩ := h.two
      cases hv
      obtain ⟨_, vs, hb, h1, h2, _⟩ := r.tup
      cases hb
      obtain ⟨_, ws, hb, h3, h4, _⟩ := r'.tup
      cases hb
      obtain ⟨p, q, hp, hq, rfl⟩ := zip_some (Option.some.inj e)
      obtain ⟨w1, hw1, r1⟩ := h2.get hp
      obtain ⟨w2, hw2, r2⟩ := h4.get hq
      obtain ⟨T, x1, x2, y1, y2, y3, y4, y5⟩ := y
      have z1 := y4 vs (Same.sqT s h1.t)
      rw [hw1] at z1
      cases z1
      have z2 := y5 ws (Same.sqT s h3.t)
      rw [hw2] at z2
      cases z2
      obtain ⟨q1, q2⟩ := pair_rp r1 r2
      exact .inr ⟨rfl, T, _, _, rfl, y1, y2, y3, q1, q2⟩
    · cases e
theorem ok_revL {a : Addr} {n : Nat} (hn : n ≤ sizeLine) : ItOk B .rev (n, false) [.ref a] (Itv B.K a n) where
  most := hn
  go := fun i H G ts x s h e => by
    replace e : revAt false n i ts = some (some x) := e
    unfold revAt at e
    split at e
    · rw [if_neg Bool.false_ne_true] at e
      split at e
      · rename_i hi
        split at e
        · obtain ⟨v, hv, r⟩ := h.one
          cases hv
          obtain ⟨b, vs, hb, h1, h2, _⟩ := r.lst s
          cases hb
          obtain ⟨w, hw, _⟩ := h2.get (Option.some.inj e)
          exact ⟨hi, vs, w, .inl (.inl h1), hw⟩
        · cases e
      · cases e
    · cases e
    · cases e
  stop := fun i H G ts s h e => by
    replace e : revAt false n i ts = some none := e
    unfold revAt at e
    split at e
    · rw [if_neg Bool.false_ne_true] at e
      split at e
      · rename_i hi
        split at e
        · rename_i hl
          have z := List.getElem?_eq_none_iff.mp (Option.some.inj e)
          exact absurd z (by omega)
        · cases e
      · rename_i hi
        exact Nat.le_of_not_lt hi
    · cases e
    · cases e
  yld := fun i H G ts x v H' s h e y => by
    replace e : revAt false n i ts = some (some x) := e
    unfold revAt at e
    split at e
    · rw [if_neg Bool.false_ne_true] at e
      split at e
      · rename_i hi
        split at e
        · obtain ⟨v', hv, r⟩ := h.one
          cases hv
          obtain ⟨b, vs, hb, h1, h2, _⟩ := r.lst s
          cases hb
          obtain ⟨w, hw, rw⟩ := h2.get (Option.some.inj e)
          obtain ⟨y1, y2⟩ := y
          have := y2 vs (.inl (.inl h1))
          rw [hw] at this
          cases this
          exact .inl ⟨y1, rw⟩
        · cases e
      · cases e
    · cases e
    · cases e
theorem ok_revT {a : Addr} {n : Nat} (hn : n ≤ sizeLine) : ItOk B .rev (n, true) [.ref a] (RT.ItvT B.K a n) where
  most := hn
  go := fun i H G ts x s h e => by
    replace e : revAt true n i ts = some (some x) := e
    unfold revAt at e
    split at e
    · cases e
    · rw [if_pos rfl] at e
      split at e
      · rename_i hi
        split at e
        · obtain ⟨v, hv, r⟩ := h.one
          cases hv
          obtain ⟨b, vs, hb, h1, h2, _⟩ := r.tup
          cases hb
          obtain ⟨w, hw, _⟩ := h2.get (Option.some.inj e)
          exact ⟨hi, vs, w, Same.sqT s h1.t, hw⟩
        · cases e
      · cases e
    · cases e
  stop := fun i H G ts s h e => by
    replace e : revAt true n i ts = some none := e
    unfold revAt at e
    split at e
    · cases e
    · rw [if_pos rfl] at e
      split at e
      · rename_i hi
        split at e
        · rename_i hl
          have z := List.getElem?_eq_none_iff.mp (Option.some.inj e)
          exact absurd z (by omega)
        · cases e
      · rename_i hi
        exact Nat.le_of_not_lt hi
    · cases e
  yld := fun i H G ts x v H' s h e y => by
    replace e : revAt true n i ts = some (some x) := e
    unfold revAt at e
    split at e
    · cases e
    · rw [if_pos rfl] at e
      split at e
      · rename_i hi
        split at e
        · obtain ⟨v', hv, r⟩ := h.one
          cases hv
          obtain ⟨b, vs, hb, h1, h2, _⟩ := r.tup
          cases hb
          obtain ⟨w, hw, rw⟩ := h2.get (Option.some.inj e)
          obtain ⟨y1, y2⟩ := y
          have := y2 vs (Same.sqT s h1.t)
          rw [hw] at this
          cases this
          exact .inl ⟨y1, rw⟩
        · cases e
      · cases e
    · cases e
/-- a walk of ints: by where it begins and its step -/
theorem ok_ints {k : IK} {vs : List V} {J : It} {n : Nat} {f : Nat → Int} (hn : n ≤ sizeLine) (hJ : (∀ i H, i < n → J.go i H) ∧ (∀ i H, n ≤ i → J.stop i H) ∧ ∀ i H v H', J.yld i H v H' → H' = H ∧ v = .int (f i))
    (ht : ∀ i H G ts, RpXs B H G vs ts → ∀ x, itT k (n, false) ts i = some x → (i < n ∧ x = some (.int (f i))) ∨ (n ≤ i ∧ x = none)) : ItOk B k (n, false) vs J where
  most := hn
  go := fun i H G ts x s h e => by
    rcases ht i H G ts h _ e with ⟨h1, h2⟩ | ⟨h1, h2⟩
    · exact hJ.1 i H h1
    · cases h2
  stop := fun i H G ts s h e => by
    rcases ht i H G ts h _ e with ⟨h1, h2⟩ | ⟨h1, h2⟩
    · cases h2
    · exact hJ.2.1 i H h1
  yld := fun i H G ts x v H' s h e y => by
    rcases ht i H G ts h _ e with ⟨h1, h2⟩ | ⟨h1, h2⟩
    · cases h2
      obtain ⟨y1, rfl⟩ := hJ.2.2 i H v H' y
      exact .inl ⟨y1, .int _⟩
    · cases h2
end
end MP
namespace MP
open PySem PySem.Spec L2
section
variable {P : List FD} {glb : Nat → Option T} {wf d : Nat} {B : Bg} {ck : Ck} {X : Cx} {W : WX} {C : Cn}
theorem itM_at {F : Hp} {A : Nat → Addr} {σ : L2.St} {H G : Hp} {g : En} {k : IK} {os : List Od} {vs : List V} {R' : It → Hp → Prop} (S : Sim B F A σ H G g) (ok : OdOk B G σ os vs)
    (q : At B W F A σ G (match (odTs g os).bind (itN k) with | none => .bad | some n => .ok (os, n) g) (relI B k) R') :
    ∃ ts n, RpXs B H G vs ts ∧ itN k ts = some n ∧ ∀ J, ItOk B k n vs J → R' J H := by
  cases e : odTs g os with
  | none => rw [e] at q; exact q.elim
  | some ts =>
    rw [e] at q
    cases e2 : itN k ts with
    | none =>
      rw [Option.bind_some, e2] at q
      exact q.elim
    | some n =>
      rw [Option.bind_some, e2] at q
      exact ⟨ts, n, S.ods ok e, e2, fun J hJ => At.done q S ⟨vs, ok, hJ⟩⟩
/-- one operand: the walk is chosen by its value -/
theorem it_one {k : IK} {tg iter : Expr} {e : E} {t : TI} (h : PI X tg iter t)
    (s : ∀ {F : Hp} {A : Nat → Addr} {σ : L2.St} {H : Hp} {R : It → Hp → Prop}, Lf B W (ev1 C e) (relO B) σ H (fun v H1 => ∃ F A σ' G g ts n, Sim B F A σ' H1 G g ∧ RpXs B H1 G [v] ts ∧ itN k ts = some n ∧ ∀ J, ItOk B k n [v] J → R J H1) → t σ H R) :
    PI X tg iter (Lf B W (itM C k [e]) (relI B k)) := by
  refine h.imp fun σ H R q => s (F := fun _ => none) (A := fun _ => 0) ?_
  obtain ⟨F, A, G, g, S, q⟩ := q
  unfold itM at q
  rw [evOs_cons, MP.R.bind_bind] at q
  refine Lf.seq (rel1 := relO B) S q fun a b H1 G1 g1 s1 S1 r1 q1 => ?_
  rw [evOs] at q1
  obtain ⟨ts, n, h1, h2, h3⟩ := itM_at (os := [a]) (vs := [b]) S1 r1 q1
  exact ⟨F, A, σ, G1, g1, ts, n, S1, h1, h2, h3⟩
theorem len2 {α : Type} : ∀ {l : List α}, l.length = 2 → ∃ a b, l = [a, b]
  | [a, b], _ => ⟨a, b, rfl⟩
theorem len3 {α : Type} : ∀ {l : List α}, l.length = 3 → ∃ a b c, l = [a, b, c]
  | [a, b, c], _ => ⟨a, b, c, rfl⟩
theorem evOs_len : ∀ (es : List E) (g : En) (os : List Od) (g' : En), evOs C es g = .ok os g' → os.length = es.length
  | [], g, os, g', h => by rw [evOs] at h; cases h; rfl
  | e :: es, g, os, g', h => by
    rw [evOs_cons] at h
    cases e1 : ev1 C e g with
    | bad => rw [e1] at h; cases h
    | ex x g1 => rw [e1] at h; cases h
    | ok o g1 =>
      rw [e1] at h
      have h : ((evOs C es g1).bind fun os g2 => MP.R.ok (o :: os) g2) = .ok os g' := h
      cases e2 : evOs C es g1 with
      | bad => rw [e2] at h; cases h
      | ex x g3 => rw [e2] at h; cases h
      | ok os2 g2 =>
        rw [e2] at h
        have h : MP.R.ok (o :: os2) g2 = .ok os g' := h
        cases h
        rw [List.length_cons, List.length_cons, evOs_len _ _ _ _ e2]
theorem OdOk.length {G : Hp} {σ : L2.St} {os : List Od} {vs : List V} (h : OdOk B G σ os vs) : vs.length = os.length := by
  induction h with
  | nil => rfl
  | t _ _ ih => rw [List.length_cons, List.length_cons, ih]
  | s _ _ ih => rw [List.length_cons, List.length_cons, ih]
theorem Lf.seqE {α β γ δ : Type} {F : Hp} {A : Nat → Addr} {σ : L2.St} {H G : Hp} {g : En} {rel : Rel α β} {rel1 : Rel γ δ} {m : En → MP.R γ} {f : γ → En → MP.R α} {Q : β → Hp → Prop} {Q1 : δ → Hp → Prop} (S : Sim B F A σ H G g) (h : At B W F A σ G ((m g).bind f) rel Q)
    (k : ∀ a b H' G' g', m g = .ok a g' → Same G G' → Sim B F A σ H' G' g' → rel1 F σ H' G' g' a b → At B W F A σ G' (f a g') rel Q → Q1 b H') : Lf B W m rel1 σ H Q1 := by
  refine ⟨F, A, G, g, S, ?_⟩
  cases e : m g with
  | bad => rw [e] at h; exact h
  | ex x g' => rw [e] at h; exact h
  | ok a g' =>
    rw [e] at h
    have h' : At B W F A σ G (f a g') rel Q := h
    exact fun b H' G' s1 S1 r1 => k a b H' G' g' e s1 S1 r1 (h'.up s1)
theorem it_args {k : IK} {tg iter : Expr} {es : List E} {t : TI} (h : PI X tg iter t)
    (s : ∀ {σ : L2.St} {H : Hp} {R : It → Hp → Prop}, Lf B W (evOs C es) (relOs B) σ H (fun vs H1 => ∃ F A σ' G g ts n, Sim B F A σ' H1 G g ∧ RpXs B H1 G vs ts ∧ itN k ts = some n ∧ vs.length = es.length ∧ ∀ J, ItOk B k n vs J → R J H1) → t σ H R) :
    PI X tg iter (Lf B W (itM C k es) (relI B k)) := by
  refine h.imp fun σ H R q => s ?_
  obtain ⟨F, A, G, g, S, q⟩ := q
  unfold itM at q
  refine Lf.seqE (rel1 := relOs B) S q fun a b H1 G1 g1 ee s1 S1 r1 q1 => ?_
  obtain ⟨ts, n, h1, h2, h3⟩ := itM_at S1 r1 q1
  exact ⟨F, A, σ, G1, g1, ts, n, S1, h1, h2, (OdOk.length r1).trans (evOs_len _ _ _ _ ee), h3⟩
theorem seqN_at {H G : Hp} {v : V} {ts : List T} {n : Nat × Bool} (hs : Same G H) (h : RpXs B H G [v] ts) (e : seqN ts = some n) :
    (∃ a vs, v = .ref a ∧ H a = some (.lst vs) ∧ n = (vs.length, false) ∧ vs.length ≤ sizeLine) ∨ ∃ a vs, v = .ref a ∧ SqT B.K H a vs ∧ n = (vs.length, true) ∧ vs.length ≤ sizeLine := by
  unfold seqN at e
  split at e
  · cases e
    obtain ⟨v', hv, r⟩ := h.one
    cases hv
    obtain ⟨a, vs, rfl, h1, h2, h3⟩ := r.lst hs
    exact .inl ⟨a, vs, rfl, h1, by rw [h2.length], by rw [h2.length]; exact h3⟩
  · cases e
    obtain ⟨v', hv, r⟩ := h.one
    cases hv
    obtain ⟨a, vs, rfl, h1, h2, h3⟩ := r.tup
    exact .inr ⟨a, vs, rfl, Same.sqT hs h1.t, by rw [h2.length], by rw [h2.length]; exact h3⟩
  · cases e
theorem ok_range1 {j : Int} (h : j ≤ sizeLine) : ItOk B .range (j.toNat, false) [.int j] (Itr 0 j.toNat) :=
  ok_ints (f := fun i => (i : Int)) (by omega) ⟨fun _ _ h => h, fun _ _ h => h, fun i H v H' y => ⟨y.1, by rw [y.2, Int.zero_add]⟩⟩ fun i H G ts hx x e => by
    obtain ⟨t, rfl, r⟩ := hx.one'
    replace e : rangeAt i [t] = some x := e
    unfold rangeAt at e
    split at e
    · rename_i j' he
      cases he
      have := r.int
      cases this
      split at e
      · rename_i hc; cases e; exact .inl ⟨by omega, rfl⟩
      · rename_i hc; cases e; exact .inr ⟨by omega, rfl⟩
    · rename_i he; cases he
    · rename_i he; cases he
    · cases e
theorem ok_range2 {i0 j : Int} (h : j - i0 ≤ sizeLine) : ItOk B .range ((j - i0).toNat, false) [.int i0, .int j] (Itr i0 (j - i0).toNat) :=
  ok_ints (f := fun i => i0 + (i : Int)) (by omega) ⟨fun _ _ h => h, fun _ _ h => h, fun i H v H' y => y⟩ fun i H G ts hx x e => by
    obtain ⟨t, u, rfl, r, r2⟩ := hx.two'
    replace e : rangeAt i [t, u] = some x := e
    unfold rangeAt at e
    split at e
    · rename_i he; cases he
    · rename_i p q he
      cases he
      have := r.int
      cases this
      have := r2.int
      cases this
      split at e
      · rename_i hc; cases e; exact .inl ⟨by omega, rfl⟩
      · rename_i hc; cases e; exact .inr ⟨by omega, rfl⟩
    · rename_i he; cases he
    · cases e
theorem ok_range3 {i0 j : Int} (h : i0 - j ≤ sizeLine) : ItOk B .range ((i0 - j).toNat, false) [.int i0, .int j, .int (-1)] (Itc i0 (-1) (i0 - j).toNat) :=
  ok_ints (f := fun i => i0 - (i : Int)) (by omega) ⟨fun _ _ h => h, fun _ _ h => h, fun i H v H' y => ⟨y.1, by rw [y.2]; congr 1; omega⟩⟩ fun i H G ts hx x e => by
    obtain ⟨t, u, w, rfl, r, r2, r3⟩ := hx.three'
    replace e : rangeAt i [t, u, w] = some x := e
    unfold rangeAt at e
    split at e
    · rename_i he; cases he
    · rename_i he; cases he
    · rename_i p q c he
      cases he
      have := r.int
      cases this
      have := r2.int
      cases this
      split at e
      · split at e
        · rename_i hc; cases e; exact .inl ⟨by omega, rfl⟩
        · rename_i hc; cases e; exact .inr ⟨by omega, rfl⟩
      · cases e
    · cases e
theorem ok_revr {j : Int} (h : j ≤ sizeLine) : ItOk B .revr (j.toNat, false) [.int j] (Itc (0 + (((j - 0).toNat : Nat) : Int) - 1) (-1) (j - 0).toNat) :=
  ok_ints (f := fun i => (((j - 0).toNat : Nat) : Int) - 1 - (i : Int)) (by omega) ⟨fun i H hi => by show i < (j - 0).toNat; omega, fun i H hi => by show (j - 0).toNat ≤ i; omega, fun i H v H' y => ⟨y.1, by rw [y.2]; congr 1; omega⟩⟩ fun i H G ts hx x e => by
    obtain ⟨t, rfl, r⟩ := hx.one'
    replace e : revrAt i [t] = some x := e
    unfold revrAt at e
    split at e
    · rename_i j' he
      cases he
      have := r.int
      cases this
      split at e
      · rename_i hc; cases e; exact .inl ⟨by omega, by congr 2; omega⟩
      · rename_i hc; cases e; exact .inr ⟨by omega, rfl⟩
    · cases e
/-- every walk -/
theorem it_pi (G : Gd P glb wf d B ck X W) (k : IK) {tg iter : Expr} {tp : Bool} {xs : List Expr} {es : List E} (h : itArgs ck k iter = some xs) (hp : pairB k tp = true) (ht : tpOf tp tg = true) (ps : POs C B W X xs es) : PI X tg iter (Lf B W (itM C k es) (relI B k)) := by
  have hK := G.hK
  have o1 : ∀ {a : Expr}, POs C B W X [a] es → ∃ e, es = [e] ∧ PE X a (Lf B W (ev1 C e) (relO B)) ∧ okX a = true := fun {a} p => by
    cases p with
    | cons h1 h2 h3 => cases h3; exact ⟨_, rfl, h1, h2⟩
  have tt : tp = true → ∃ elts kk pos, tg = .Tuple elts kk pos := fun z => by
    rw [z] at ht
    unfold tpOf at ht
    split at ht
    · rename_i z2; cases z2
    · exact ⟨_, _, _, rfl⟩
    · cases ht
  cases k with
  | seq =>
    cases h
    obtain ⟨e, rfl, p1, k1⟩ := o1 ps
    refine it_one (hK ▸ MPZ.pi_seq p1) fun {F A σ H R} q => Lf.imp q fun v H1 ⟨F, A, σ', G1, g, ts, n, S, h1, h2, h3⟩ => ?_
    rcases seqN_at S.sub h1 h2 with ⟨a, vs, rfl, h4, rfl, h5⟩ | ⟨a, vs, rfl, h4, rfl, h5⟩
    · exact ⟨a, rfl, .inl ⟨⟨vs, .inl (.inl h4)⟩, h3 _ (ok_seqL h5)⟩⟩
    · exact ⟨a, rfl, .inr ⟨⟨vs, h4⟩, h3 _ (ok_seqT h5)⟩⟩
  | enum =>
    obtain ⟨a, q1, rfl⟩ := one_some h
    obtain ⟨e, rfl, p1, k1⟩ := o1 ps
    obtain ⟨⟨p, pos, rfl⟩, hg⟩ := xBlt_some q1
    obtain ⟨g1, g2⟩ := G.gl hg
    obtain ⟨elts, kk, tpos, rfl⟩ := tt hp
    refine it_args (hK ▸ MPZ.pi_enumA g1 (G.no "enumerate") ps.args (star_of k1 _ _)) fun {σ H R} q => Lf.imp q fun vs H1 ⟨F, A, σ', G1, g, ts, n, S, h1, h2, hl0, h3⟩ => ?_
    have hl : ∃ v, vs = [v] := by
      replace h2 : seqN ts = some n := h2
      unfold seqN at h2
      split at h2
      · obtain ⟨v, hv, _⟩ := h1.one; exact ⟨v, hv⟩
      · obtain ⟨v, hv, _⟩ := h1.one; exact ⟨v, hv⟩
      · cases h2
    obtain ⟨v, rfl⟩ := hl
    rcases seqN_at S.sub h1 h2 with ⟨a, vs, rfl, h4, rfl, h5⟩ | ⟨a, vs, rfl, h4, rfl, h5⟩
    · exact ⟨a, vs, rfl, .inl ⟨.inl (.inl h4), h3 _ (ok_enumL h5)⟩⟩
    · exact ⟨a, vs, rfl, .inr ⟨h4, h3 _ (ok_enumT h5)⟩⟩
  | zip =>
    obtain ⟨a, b, q1, rfl⟩ := two_some h
    obtain ⟨⟨p, pos, rfl⟩, hg⟩ := xBlt_some q1
    obtain ⟨g1, g2⟩ := G.gl hg
    obtain ⟨elts, kk, tpos, rfl⟩ := tt hp
    have ks : okX a = true ∧ okX b = true := by
      cases ps with
      | cons _ k1 h3 => cases h3 with | cons _ k2 _ => exact ⟨k1, k2⟩
    refine it_args (hK ▸ RZ.pi_zipA g1 (G.no "zip") ps.args (star_of ks.1 _ _) (by rw [star_of ks.2]; rfl)) fun {σ H R} q => Lf.imp q fun vs H1 ⟨F, A, σ', G1, g, ts, n, S, h1, h2, hl0, h3⟩ => ?_
    replace h2 : zipN ts = some n := h2
    unfold zipN at h2
    split at h2
    · cases h2
      obtain ⟨v, w, rfl, r, r2⟩ := h1.two
      obtain ⟨a, vs, rfl, k1, k2, k3⟩ := r.lst S.sub
      obtain ⟨b, ws, rfl, k4, k5, k6⟩ := r2.lst S.sub
      exact ⟨a, b, vs, ws, rfl, .inl ⟨.inl (.inl k1), .inl (.inl k4), h3 _ (ok_zipL (Nat.le_trans (Nat.min_le_left _ _) k3))⟩⟩
    · cases h2
      obtain ⟨v, w, rfl, r, r2⟩ := h1.two
      obtain ⟨a, vs, rfl, k1, k2, k3⟩ := r.tup
      obtain ⟨b, ws, rfl, k4, k5, k6⟩ := r2.tup
      exact ⟨a, b, vs, ws, rfl, .inr ⟨S.sqT k1, S.sqT k4, h3 _ (ok_zipT (Nat.le_trans (Nat.min_le_left _ _) k3))⟩⟩
    · cases h2
  | rev =>
    obtain ⟨a, q1, rfl⟩ := one_some h
    obtain ⟨e, rfl, p1, k1⟩ := o1 ps
    obtain ⟨⟨p, pos, rfl⟩, hg⟩ := xBlt_some q1
    obtain ⟨g1, g2⟩ := G.gl hg
    refine it_one (hK ▸ RT.pi_revA g1 (G.no "reversed") p1 (star_of k1 _ _)) fun {F A σ H R} q => Lf.imp q fun v H1 ⟨F, A, σ', G1, g, ts, n, S, h1, h2, h3⟩ => ?_
    rcases seqN_at S.sub h1 h2 with ⟨a, vs, rfl, h4, rfl, h5⟩ | ⟨a, vs, rfl, h4, rfl, h5⟩
    · exact ⟨a, vs, rfl, .inl ⟨.inl (.inl h4), h3 _ (ok_revL h5)⟩⟩
    · exact ⟨a, vs, rfl, .inr ⟨h4, h3 _ (ok_revT h5)⟩⟩
  | revr =>
    replace h : (match xBlt ck "reversed" iter with | some [y] => one (xBlt ck "range" y) | _ => none) = some xs := h
    split at h
    · rename_i y hy
      obtain ⟨a, q1, rfl⟩ := one_some h
      obtain ⟨e, rfl, p1, k1⟩ := o1 ps
      obtain ⟨⟨p, pos, rfl⟩, hg⟩ := xBlt_some q1
      obtain ⟨⟨p2, pos2, rfl⟩, hg2⟩ := xBlt_some hy
      obtain ⟨g1, g2⟩ := G.gl hg
      obtain ⟨g3, g4⟩ := G.gl hg2
      have pr := prg_1 (p := p) (pos := pos) g1 (G.no "range") p1 (star_of k1 _ _)
      refine it_one (pi_revR g3 (G.no "reversed") pr) fun {F A σ H R} q => Lf.imp q fun v H1 ⟨F, A, σ', G1, g, ts, n, S, h1, h2, h3⟩ => ?_
      replace h2 : revrN ts = some n := h2
      unfold revrN at h2
      split at h2
      · rename_i j
        split at h2
        · rename_i hz
          rw [Bool.and_eq_true, decide_eq_true_eq] at hz
          cases h2
          obtain ⟨v', hv, r⟩ := h1.one
          cases hv
          cases r.int
          obtain ⟨b1, b2⟩ := sml_of hz.1
          exact ⟨j, rfl, by omega, by omega, b1, b2, h3 _ (ok_revr (by omega))⟩
        · cases h2
      · cases h2
    · cases h
  | range =>
    replace h : (match xBlt ck "range" iter with | some [a] => some [a] | some [a, b] => some [a, b] | some [a, b, c] => some [a, b, c] | _ => none) = some xs := h
    split at h
    · rename_i a q1
      cases h
      obtain ⟨⟨p, pos, rfl⟩, hg⟩ := xBlt_some q1
      obtain ⟨g1, g2⟩ := G.gl hg
      obtain ⟨e, rfl, p1, k1⟩ := o1 ps
      refine it_args (pi_range1 g1 (G.no "range") ps.args (star_of k1 _ _)) fun {σ H R} q => Lf.imp q fun vs H1 ⟨F, A, σ', G1, g, ts, n, S, h1, h2, hl0, h3⟩ => ?_
      replace h2 : rangeN ts = some n := h2
      obtain ⟨v, rfl⟩ := List.length_eq_one_iff.mp hl0
      obtain ⟨t, rfl, r⟩ := h1.one'
      unfold rangeN at h2
      split at h2
      · rename_i j hj
        cases hj
        split at h2
        · rename_i hz
          rw [Bool.and_eq_true, decide_eq_true_eq] at hz
          cases h2
          cases r.int
          obtain ⟨b1, b2⟩ := sml_of hz.1
          exact ⟨j, rfl, b1, b2, h3 _ (ok_range1 (by omega))⟩
        · cases h2
      · rename_i hj; cases hj
      · rename_i hj; cases hj
      · cases h2
    · rename_i a b q1
      cases h
      obtain ⟨⟨p, pos, rfl⟩, hg⟩ := xBlt_some q1
      obtain ⟨g1, g2⟩ := G.gl hg
      obtain ⟨e1, e2, rfl, k1, k2⟩ : ∃ e1 e2, es = [e1, e2] ∧ okX a = true ∧ okX b = true := by
        cases ps with
        | cons _ k1 h3 => cases h3 with | cons _ k2 h4 => cases h4; exact ⟨_, _, rfl, k1, k2⟩
      refine it_args (pi_range2 g1 (G.no "range") ps.args (by rw [star_of k1, star_of k2]; rfl) (by rw [star_of k2]; rfl)) fun {σ H R} q => Lf.imp q fun vs H1 ⟨F, A, σ', G1, g, ts, n, S, h1, h2, hl0, h3⟩ => ?_
      replace h2 : rangeN ts = some n := h2
      obtain ⟨v, w, rfl⟩ := len2 hl0
      obtain ⟨t, u, rfl, r, r2⟩ := h1.two'
      unfold rangeN at h2
      split at h2
      · rename_i hj; cases hj
      · rename_i i j hj
        cases hj
        split at h2
        · rename_i hz
          rw [Bool.and_eq_true, Bool.and_eq_true, decide_eq_true_eq] at hz
          cases h2
          cases r.int
          cases r2.int
          obtain ⟨b1, b2⟩ := sml_of hz.1.1
          obtain ⟨b3, b4⟩ := sml_of hz.1.2
          exact ⟨i, j, rfl, ⟨b1, b2, b3, b4⟩, h3 _ (ok_range2 (by omega))⟩
        · cases h2
      · rename_i hj; cases hj
      · cases h2
    · rename_i a b c q1
      cases h
      obtain ⟨⟨p, pos, rfl⟩, hg⟩ := xBlt_some q1
      obtain ⟨g1, g2⟩ := G.gl hg
      obtain ⟨e1, e2, e3, rfl, k1, k2, k3⟩ : ∃ e1 e2 e3, es = [e1, e2, e3] ∧ okX a = true ∧ okX b = true ∧ okX c = true := by
        cases ps with
        | cons _ k1 h3 => cases h3 with | cons _ k2 h4 => cases h4 with | cons _ k3 h5 => cases h5; exact ⟨_, _, _, rfl, k1, k2, k3⟩
      refine it_args (pi_range3 g1 (G.no "range") ps.args (star_of k1 _ _) (by rw [star_of k2, star_of k3]; rfl)) fun {σ H R} q => Lf.imp q fun vs H1 ⟨F, A, σ', G1, g, ts, n, S, h1, h2, hl0, h3⟩ => ?_
      replace h2 : rangeN ts = some n := h2
      obtain ⟨v, w, x, rfl⟩ := len3 hl0
      obtain ⟨t, u, t3, rfl, r, r2, r3⟩ := h1.three'
      unfold rangeN at h2
      split at h2
      · rename_i hj; cases hj
      · rename_i hj; cases hj
      · rename_i i j c hj
        cases hj
        split at h2
        · rename_i hz
          rw [Bool.and_eq_true, Bool.and_eq_true, Bool.and_eq_true, decide_eq_true_eq, decide_eq_true_eq] at hz
          obtain ⟨⟨⟨rfl, z1⟩, z2⟩, z3⟩ := hz
          cases h2
          cases r.int
          cases r2.int
          cases r3.int
          obtain ⟨b1, b2⟩ := sml_of z1
          obtain ⟨b3, b4⟩ := sml_of z2
          exact ⟨i, j, -1, _, rfl, RgC.neg b1 b2 b3 b4, h3 _ (ok_range3 (by omega))⟩
        · cases h2
      · cases h2
    · cases h
end
end MP
namespace MP
open PySem PySem.Spec L2
def gsT : List Nat → TGs
  | [] => gNil
  | i :: is => gCons (gName i) (gsT is)
def tgT (K : PySem.W.Frag) (tgs : List Nat) : Bool → TG
  | false => fun v σ H Q => ∃ i, tgs = [i] ∧ gName i v σ H Q
  | true => fun v σ H Q => gTup K tgs.length (gsT tgs) v σ H Q ∨ gLst K tgs.length (gsT tgs) v σ H Q
theorem wipe_at (σ : L2.St) : ∀ (vs : List Nat) (j : Nat), (wipe σ vs)[j]? = if j ∈ vs then (if j < σ.length then some none else none) else σ[j]?
  | [], j => by rw [if_neg (by simp)]; rfl
  | v :: vs, j => by
    unfold wipe
    rw [getElem?_set', wipe_length, wipe_at σ vs j]
    by_cases h : v = j
    · subst h
      rw [if_pos rfl, if_pos List.mem_cons_self]
    · rw [if_neg h]
      by_cases h2 : j ∈ vs
      · rw [if_pos h2, if_pos (List.mem_cons_of_mem _ h2)]
      · rw [if_neg h2, if_neg (by simp only [List.mem_cons, not_or]; exact ⟨fun e => h e.symm, h2⟩)]
theorem wipe_eq {σ σ2 : L2.St} {own tgs : List Nat} (hs : subB tgs own = true) (hl : σ2.length = σ.length) (ha : ∀ j, j ∉ tgs → σ2[j]? = (wipe σ own)[j]?) : wipe σ2 own = wipe σ own := by
  apply List.ext_getElem?
  intro j
  rw [wipe_at σ2 own j]
  by_cases h : j ∈ own
  · rw [if_pos h, wipe_at σ own j, if_pos h, hl]
  · rw [if_neg h]
    refine ha j fun q => h ?_
    unfold subB at hs
    rw [List.all_eq_true] at hs
    have := hs j q
    simpa using this
theorem wipeS_at (g : En) : ∀ (vs : List Nat) (j : Nat), (wipeS g vs)[j]? = if j ∈ vs then (if j < g.length then some .un else none) else g[j]?
  | [], j => by rw [if_neg (by simp)]; rfl
  | v :: vs, j => by
    have hl : ∀ vs : List Nat, (wipeS g vs).length = g.length := fun vs => by
      induction vs with
      | nil => rfl
      | cons v vs ih => unfold wipeS; rw [List.length_set, ih]
    unfold wipeS
    rw [getElem?_set', hl, wipeS_at g vs j]
    by_cases h : v = j
    · subst h
      rw [if_pos rfl, if_pos List.mem_cons_self]
    · rw [if_neg h]
      by_cases h2 : j ∈ vs
      · rw [if_pos h2, if_pos (List.mem_cons_of_mem _ h2)]
      · rw [if_neg h2, if_neg (by simp only [List.mem_cons, not_or]; exact ⟨fun e => h e.symm, h2⟩)]
theorem wipeS_length (g : En) : ∀ vs : List Nat, (wipeS g vs).length = g.length
  | [] => rfl
  | v :: vs => by unfold wipeS; rw [List.length_set, wipeS_length g vs]
theorem giveS_length (g g0 : En) : ∀ vs : List Nat, (giveS g g0 vs).length = g.length
  | [] => rfl
  | v :: vs => by unfold giveS; rw [List.length_set, giveS_length g g0 vs]
theorem giveS_at (g g0 : En) : ∀ (vs : List Nat) (j : Nat), (giveS g g0 vs)[j]? = if j ∈ vs then (if j < g.length then some (g0.getD j .un) else none) else g[j]?
  | [], j => by rw [if_neg (by simp)]; rfl
  | v :: vs, j => by
    unfold giveS
    rw [getElem?_set', giveS_length, giveS_at g g0 vs j]
    by_cases h : v = j
    · subst h
      rw [if_pos rfl, if_pos List.mem_cons_self]
    · rw [if_neg h]
      by_cases h2 : j ∈ vs
      · rw [if_pos h2, if_pos (List.mem_cons_of_mem _ h2)]
      · rw [if_neg h2, if_neg (by simp only [List.mem_cons, not_or]; exact ⟨fun e => h e.symm, h2⟩)]
theorem plainS_at {g : En} : ∀ {vs : List Nat} {j : Nat}, plainS g vs = true → j ∈ vs → g[j]? = some .un ∨ ∃ t, g[j]? = some (.sh t)
  | v :: vs, j, h, hj => by
    unfold plainS at h
    rw [Bool.and_eq_true] at h
    rcases List.mem_cons.mp hj with rfl | hj
    · have h1 := h.1
      split at h1
      · rename_i e; exact .inl e
      · rename_i t e; exact .inr ⟨t, e⟩
      · cases h1
    · exact plainS_at h.2 hj
section
variable {B : Bg} {F : Hp} {A : Nat → Addr} {σ : L2.St} {H H' G G' : Hp} {g : En}
theorem Sim.wipe (S : Sim B F A σ H G g) (vs : List Nat) : Sim B F A (L2.wipe σ vs) H G (wipeS g vs) := by
  have tr : ∀ j : Nat, Own (wipeS g vs)[j]? → j ∉ vs ∧ Own g[j]? := fun j hj => by
    rw [wipeS_at] at hj
    by_cases h : j ∈ vs
    · rw [if_pos h] at hj
      split at hj <;> exact hj.elim
    · rw [if_neg h] at hj; exact ⟨h, hj⟩
  refine ⟨S.sub, S.frn, ?_, fun j s e => ?_, fun j k hj hk e => ?_⟩
  · rw [wipeS_length, L2.wipe_length]; exact S.len
  · rw [wipeS_at] at e
    by_cases h : j ∈ vs
    · rw [if_pos h] at e
      split at e
      · cases e; trivial
      · cases e
    · rw [if_neg h] at e
      rw [wipe_at, if_neg h]
      exact S.at_ j s e
  · obtain ⟨nj, hj⟩ := tr j hj
    obtain ⟨nk, hk⟩ := tr k hk
    rw [wipe_at, if_neg nj, wipe_at, if_neg nk] at e
    exact S.sep j k hj hk e
/-- the block's names given back -/
theorem Sim.give {g1 : En} {F1 H1 G1 : Hp} {vs : List Nat} (S1 : Sim B F1 A σ H1 G1 g1) (hp : plainS g1 vs = true) (s : Same G1 G) (S : Sim B F A (L2.wipe σ vs) H G g) : Sim B F A σ H G (giveS g g1 vs) := by
  have hl : g.length = g1.length := by rw [S.len, L2.wipe_length, S1.len]
  have hin : ∀ j : Nat, j ∈ vs → ∀ s, (giveS g g1 vs)[j]? = some s → g1[j]? = some s := fun j hj s e => by
    rw [giveS_at, if_pos hj] at e
    split at e
    · rename_i h
      rw [hl] at h
      rw [List.getElem?_eq_getElem h]
      rw [List.getD_eq_getElem?_getD, List.getElem?_eq_getElem h] at e
      exact e
    · cases e
  have tr : ∀ j : Nat, Own (giveS g g1 vs)[j]? → j ∉ vs ∧ Own g[j]? := fun j hj => by
    by_cases h : j ∈ vs
    · cases e : (giveS g g1 vs)[j]? with
      | none => rw [e] at hj; exact hj.elim
      | some s =>
        have := hin j h s e
        rcases plainS_at hp h with q | ⟨t, q⟩ <;>
        · rw [this] at q; cases q; rw [e] at hj; exact hj.elim
    · rw [giveS_at, if_neg h] at hj
      exact ⟨h, hj⟩
  refine ⟨S.sub, S.frn, ?_, fun j s' e => ?_, fun j k hj hk e => ?_⟩
  · rw [giveS_length, S.len, L2.wipe_length]
  · by_cases h : j ∈ vs
    · have e1 := hin j h s' e
      have q := S1.at_ j s' e1
      rcases plainS_at hp h with z | ⟨t, z⟩
      · rw [e1] at z; cases z; trivial
      · rw [e1] at z; cases z
        obtain ⟨v, h1, h2⟩ := q
        exact ⟨v, h1, h2.mono s⟩
    · rw [giveS_at, if_neg h] at e
      have q := S.at_ j s' e
      rw [wipe_at, if_neg h] at q
      exact q
  · obtain ⟨nj, hj⟩ := tr j hj
    obtain ⟨nk, hk⟩ := tr k hk
    refine S.sep j k hj hk ?_
    rw [wipe_at, if_neg nj, wipe_at, if_neg nk]
    exact e
/-- one more foreign thing, new -/
theorem Sim.addF (S : Sim B F A σ H G g) {p : Addr} {o : HO} (hp : H p = none) : Sim B (upd F p o) A σ (upd H p o) G g := by
  have S' := S.alloc (o := o) hp
  refine ⟨S'.sub, fun b x e => ?_, S'.len, fun i s e => ?_, S'.sep⟩
  · by_cases hb : b = p
    · subst hb
      rw [upd_same] at e ⊢
      exact ⟨e, S.noneG hp⟩
    · rw [upd_ne hb] at e
      exact S'.frn b x e
  · have q := S'.at_ i s e
    have k : ∀ b, Own g[i]? → σ[i]? = some (some (.ref b)) → F b = none → upd F p o b = none := fun b h1 h2 h3 => by
      rw [upd_ne (S.none_own hp h1 h2)]
      exact h3
    cases s with
    | un => trivial
    | sh t => exact q
    | ow t => obtain ⟨a, h1, h2, h3, h4⟩ := q; exact ⟨a, h1, h2, k a (by rw [e]; trivial) h1 h3, h4⟩
    | io t => obtain ⟨h1, h2, h3, h4⟩ := q; exact ⟨h1, h2, k _ (by rw [e]; trivial) h1 h3, h4⟩
    | fz t => exact q
/-- a foreign thing changes -/
theorem Sim.chF (S : Sim B F A σ H G g) {p : Addr} {o u : HO} (hp : F p = some u) : Sim B (upd F p o) A σ (upd H p o) G g := by
  obtain ⟨hH, hG⟩ := S.frn _ _ hp
  have ng : ∀ b x, G b = some x → b ≠ p := fun b x e z => by rw [z, hG] at e; cases e
  refine ⟨fun b x e => ?_, fun b x e => ?_, S.len, fun i s e => ?_, S.sep⟩
  · rw [upd_ne (ng b x e)]; exact S.sub b x e
  · by_cases hb : b = p
    · subst hb
      rw [upd_same] at e ⊢
      exact ⟨e, hG⟩
    · rw [upd_ne hb] at e ⊢
      exact S.frn b x e
  · have q := S.at_ i s e
    have k : ∀ b, F b = none → b ≠ p := fun b h1 z => by rw [z, hp] at h1; cases h1
    cases s with
    | un => trivial
    | sh t => exact q
    | ow t =>
      obtain ⟨a, h1, h2, h3, h4⟩ := q
      exact ⟨a, h1, h2, by rw [upd_ne (k a h3)]; exact h3, h4.mono (fun x z => by rw [upd_ne (k a h3)]; exact z) (Same.refl' G)⟩
    | io t =>
      obtain ⟨h1, h2, h3, h4⟩ := q
      exact ⟨h1, h2, by rw [upd_ne (k _ h3)]; exact h3, h4.mono (fun x z => by rw [upd_ne (k _ h3)]; exact z) (Same.refl' G)⟩
    | fz t => exact q
/-- the operands as known outside the block -/
theorem Sim.odsW {vs : List Nat} (S : Sim B F A (L2.wipe σ vs) H G g) : ∀ {os : List Od} {us : List V} {ts : List T}, OdOk B G σ os us → odTs g os = some ts → RpXs B H G us ts
  | _, _, _, .nil, h => by
    cases (show some [] = some _ from h)
    exact .nil
  | _, _, ts, .t (t := t0) (os := os) r q, h => by
    have h' : (some t0).bind (fun t => (odTs g os).map (t :: ·)) = some ts := h
    rw [Option.bind_some, Option.map_eq_some_iff] at h'
    obtain ⟨us, e, rfl⟩ := h'
    exact .cons (.inl r) (S.odsW q e)
  | _, _, ts, .s (i := i) (v := v) (os := os) r q, h => by
    have h' : (getS g i).bind (fun t => (odTs g os).map (t :: ·)) = some ts := h
    rw [Option.bind_eq_some_iff] at h'
    obtain ⟨t, e1, h'⟩ := h'
    rw [Option.map_eq_some_iff] at h'
    obtain ⟨us, e, rfl⟩ := h'
    refine .cons (S.getX e1 ?_) (S.odsW q e)
    rw [wipe_at]
    by_cases hi : i ∈ vs
    · exfalso
      unfold getS at e1
      split at e1
      · rename_i t0 z; obtain ⟨v', h1, _⟩ := S.at_ i _ z
        exact (wipe_some h1).2 hi
      · rename_i t0 z; obtain ⟨a, h1, _⟩ := S.at_ i _ z
        exact (wipe_some h1).2 hi
      · rename_i t0 z; obtain ⟨h1, _⟩ := S.at_ i _ z
        exact (wipe_some h1).2 hi
      · rename_i t0 z; obtain ⟨h1, _⟩ := S.at_ i _ z
        exact (wipe_some h1).2 hi
      · cases e1
    · rw [if_neg hi]; exact r
theorem asgs_at {Q : L2.St → Hp → Prop} {ga : En} : ∀ {tgs : List Nat} {ts : List T} {vs : List V} {g : En} {σ : L2.St}, asgs tgs ts g = some ga → Sim B F A σ H G g → RpL B G vs ts →
    (∀ σ2, Sim B F A σ2 H G ga → σ2.length = σ.length → (∀ j, j ∉ tgs → σ2[j]? = σ[j]?) → Q σ2 H) → vs.length = tgs.length ∧ gsT tgs vs σ H Q
  | [], [], vs, g, σ, h, S, r, k => by
    cases h
    cases r
    exact ⟨rfl, rfl, k σ S rfl fun _ _ => rfl⟩
  | [], _ :: _, _, _, _, h, _, _, _ => by cases h
  | _ :: _, [], _, _, _, h, _, _, _ => by cases h
  | i :: is, t :: ts, vs, g, σ, h, S, r, k => by
    have h' : (setS g i (.sh t)).bind (fun g' => asgs is ts g') = some ga := h
    rw [Option.bind_eq_some_iff] at h'
    obtain ⟨g1, e1, e2⟩ := h'
    cases r with
    | cons r1 r2 =>
      obtain ⟨q1, q2⟩ := asgs_at (Q := Q) e2 (S.setSh e1 r1) r2 fun σ2 S2 l2 a2 => k σ2 S2 (by rw [l2, List.length_set]) fun j hj => by
        simp only [List.mem_cons, not_or] at hj
        rw [a2 j hj.2, List.getElem?_set_ne (fun e => hj.1 e.symm)]
      exact ⟨by rw [List.length_cons, List.length_cons, q1], _, _, rfl, q2⟩
/-- a value, or a tuple that is taken apart at once -/
def RpY (B : Bg) (G : Hp) (tp : Bool) (v : V) (t : T) : Prop := Rp B G v t ∨ (tp = true ∧ ∃ (a : Addr) (vs : List V) (ts : List T), v = .ref a ∧ t = .tup ts ∧ SqT B.K G a vs ∧ RpL B G vs ts)
theorem tgt_at {Q : L2.St → Hp → Prop} {ga : En} {tgs : List Nat} {tp : Bool} {x : T} {v : V} (e : tgtF tgs tp x g = some ga) (S : Sim B F A σ H G g) (r : RpY B G tp v x)
    (k : ∀ σ2, Sim B F A σ2 H G ga → σ2.length = σ.length → (∀ j, j ∉ tgs → σ2[j]? = σ[j]?) → Q σ2 H) : tgT B.K tgs tp v σ H Q := by
  rcases r with r | ⟨rfl, a, vs, ts, rfl, rfl, h1, h2⟩
  case inr =>
    have e : asgs tgs _ g = some ga := e
    obtain ⟨q1, q2⟩ := asgs_at e S h2 k
    exact .inl ⟨_, _, rfl, Same.sqT S.sub h1, q1, q2⟩
  cases tp with
  | false =>
    cases tgs with
    | nil => cases e
    | cons i is =>
      cases is with
      | nil =>
        have e : setS g i (.sh x) = some ga := e
        exact ⟨i, rfl, k _ (S.setSh e r) (List.length_set ..) fun j hj => by rw [List.getElem?_set_ne (by simp at hj; exact fun z => hj z.symm)]⟩
      | cons _ _ => cases e
  | true =>
    cases r with
    | tup h1 h2 h3 =>
      have e : asgs tgs _ g = some ga := e
      obtain ⟨q1, q2⟩ := asgs_at e S h2 k
      exact .inl ⟨_, _, rfl, S.sqT h1, q1, q2⟩
    | lst h1 h2 h3 =>
      have e : asgs tgs _ g = some ga := e
      obtain ⟨q1, q2⟩ := asgs_at e S h2 k
      exact .inr ⟨_, _, rfl, .inl (.inl (S.sub _ _ h1)), q1, q2⟩
    | _ => cases e
end
section
variable {P : List FD} {glb : Nat → Option T} {wf d : Nat} {B : Bg} {ck : Ck} {X : Cx} {W : WX} {C : Cn}
theorem xTgt1_some {i : Nat} {x : Expr} (h : xTgt1 ck i x = true) : ∃ n p, x = .Name n p ∧ ck.N[i]? = some n ∧ locB ck n = true := by
  unfold xTgt1 at h
  split at h
  · rw [Bool.and_eq_true, decide_eq_true_eq] at h
    exact ⟨_, _, rfl, h.1, h.2⟩
  · cases h
theorem Gd.tg1 (G : Gd P glb wf d B ck X W) {i : Nat} {x : Expr} (h : xTgt1 ck i x = true) : PG X x (gName i) := by
  obtain ⟨n, p, rfl, h1, h2⟩ := xTgt1_some h
  obtain ⟨g1, g2⟩ := G.loc h2
  exact pg_name G.nd (by rw [G.hN]; exact h1) g1 g2
theorem Gd.tgs (G : Gd P glb wf d B ck X W) : ∀ {is : List Nat} {xs : List Expr}, xTgts ck is xs = true → PGs X xs (gsT is) ∧ (assignEach xs X.env).length = is.length ∧ ∀ y ∈ assignEach xs X.env, y.1 = false
  | [], [], _ => ⟨pgs_nil, rfl, by simp [assignEach]⟩
  | [], _ :: _, h => by cases h
  | _ :: _, [], h => by cases h
  | i :: is, x :: xs, h => by
    have h' : (xTgt1 ck i x && xTgts ck is xs) = true := h
    rw [Bool.and_eq_true] at h'
    obtain ⟨q1, q2, q3⟩ := G.tgs h'.2
    have p1 := G.tg1 h'.1
    obtain ⟨n, p, rfl, _, _⟩ := xTgt1_some h'.1
    have e : assignEach (.Name n p :: xs) X.env = (false, assign (.Name n p) X.env) :: assignEach xs X.env := rfl
    refine ⟨pgs_cons p1 q1 (by rw [e]; rfl), by rw [e, List.length_cons, q2]; rfl, fun y hy => ?_⟩
    rw [e] at hy
    rcases List.mem_cons.mp hy with rfl | hy
    · rfl
    · exact q3 y hy
theorem Gd.tg (G : Gd P glb wf d B ck X W) {tgs : List Nat} {tp : Bool} {x : Expr} (h : isTg ck tgs tp x = true) : PG X x (tgT B.K tgs tp) := by
  cases tp with
  | false =>
    cases tgs with
    | nil => cases h
    | cons i is =>
      cases is with
      | nil =>
        refine ⟨fun pins s σ H v u Q I r hw => ?_⟩
        obtain ⟨j, e, hw⟩ := hw
        cases e
        exact (G.tg1 h).run pins s σ H v u Q I r hw
      | cons _ _ => cases h
  | true =>
    have hx : ∃ xs kk pos, x = .Tuple xs kk pos ∧ xTgts ck tgs xs = true := by
      cases x <;> first
        | (rename_i xs kk pos
           have h' : (xTgts ck tgs xs && decide (0 < tgs.length)) = true := h
           exact ⟨_, _, _, rfl, (Bool.and_eq_true_iff.mp h').1⟩)
        | cases h
    obtain ⟨xs, kk, pos, rfl, hx⟩ := hx
    obtain ⟨q1, q2, q3⟩ := G.tgs hx
    have q4 : (assignEach xs X.env).findIdx? (·.1) = none := List.findIdx?_eq_none_iff.mpr q3
    refine ⟨fun pins s σ H v u Q I r hw => ?_⟩
    rcases hw with hw | hw
    · exact (pg_tup G.calm q1 q2 q4).run pins s σ H v u Q I r (by rw [G.hK]; exact hw)
    · exact (pg_lst G.calm q1 q2 q4).run pins s σ H v u Q I r (by rw [G.hK]; exact hw)
theorem isTg_tp {tgs : List Nat} {tp : Bool} {x : Expr} (h : isTg ck tgs tp x = true) : tpOf tp x = true := by
  cases tp with
  | false => rfl
  | true => cases x <;> first | rfl | cases h
abbrev W0 : WX := fun _ _ _ _ => False
abbrev ckB (ck : Ck) (scope : Scope) : Ck := { ck with sc := relS scope ck.sc, ws := scope }
theorem Gd.blk (G : Gd P glb wf d B ck X W) (s : Shared) (H : Hp) (scope : Scope) (a : Addr) (cl : List (Str × Addr)) (fp : List Addr) : Gd P glb wf d B (ckB ck scope) (X.blk s H scope (compEnvC scope cl a X.env) fp) W0 where
  calm := G.calm
  nd := G.nd
  hN := G.hN
  sc := by show relS scope X.env.scope = relS scope ck.sc; rw [G.sc]
  fn := fun x h => by
    have e : ∀ k, k ≠ NameKind.free → scope.names.lookup x = some k → (relS scope X.env.scope).names.lookup x = some k := fun k hk hl => lookup_relS_keep hk hl
    rcases h with h | h
    · exact ⟨.inl (e _ (by decide) h), .inr (e _ (by decide) h)⟩
    · exact ⟨.inr (e _ (by decide) h), .inl (by show (scope.names.lookup x == some .cell) = true; rw [show scope.names.lookup x = some .cell from h]; rfl)⟩
  un := G.un
  hK := G.hK
  hP := G.hP
  blt := G.blt
  hg := G.hg
  exf := G.exf
  exn := G.exn
  fa := G.fa
  af := G.af
  fns := G.fns
  room := G.room
  tk := takes0
theorem folded_of {x : Expr} (h : okX x = true) (env : Env) (v : Value) : foldedSetIterable x env v = pure v := by
  cases x <;> first | rfl | cases h
theorem itArgs_ok {k : IK} {x : Expr} {xs : List Expr} {es : List E} (h : itArgs ck k x = some xs) (ps : POs C B W X xs es) : okX x = true := by
  have hc : ∀ {n : Str} {ys : List Expr}, xBlt ck n x = some ys → okX x = true := fun h => by
    obtain ⟨⟨p, pos, rfl⟩, _⟩ := xBlt_some h
    rfl
  cases k with
  | seq => cases h; cases ps with | cons _ h2 _ => exact h2
  | range =>
    replace h : (match xBlt ck "range" x with | some [a] => some [a] | some [a, b] => some [a, b] | some [a, b, c] => some [a, b, c] | _ => none) = some xs := h
    split at h <;> first
      | (rename_i q; exact hc q)
      | cases h
  | enum => obtain ⟨a, q, _⟩ := one_some h; exact hc q
  | zip => obtain ⟨a, b, q, _⟩ := two_some h; exact hc q
  | rev => obtain ⟨a, q, _⟩ := one_some h; exact hc q
  | revr =>
    replace h : (match xBlt ck "reversed" x with | some [y] => one (xBlt ck "range" y) | _ => none) = some xs := h
    split at h
    · rename_i q; exact hc q
    · cases h
def compR (C : Cn) (elt : E) (tgs : List Nat) (tp : Bool) (k : IK) (cs : List E) (own : List Nat) (p : List Od × (Nat × Bool)) (g1 : En) : R (Bool × T) :=
  if plainS g1 own then
    (match compL (fun g => ev C elt g) (fun g => evTs C cs g) tgs tp k p.2 p.1 own p.2.1 0 [] (wipeS g1 own) with
    | .ok ts g2 => .ok (true, .lst ts) (giveS g2 g1 own)
    | _ => .bad)
  else .bad
theorem ev_comp (C : Cn) (elt : E) (tgs : List Nat) (tp : Bool) (k : IK) (es cs : List E) (own : List Nat) (g : En) : ev C (.comp elt tgs tp k es cs own) g = (itM C k es g).bind (compR C elt tgs tp k cs own) := by
  rw [ev]
  unfold itM
  rw [R.bind_bind]
  congr 1
  funext os g1
  cases (odTs g1 os).bind (itN k) with
  | none => rfl
  | some n => rfl
theorem Lf.ok {α β : Type} {F : Hp} {A : Nat → Addr} {σ : L2.St} {H G : Hp} {g g' : En} {rel : Rel α β} {m : En → MP.R α} {a : α} {Q : β → Hp → Prop} (S : Sim B F A σ H G g) (e : m g = .ok a g')
    (k : ∀ b H' G', Same G G' → Sim B F A σ H' G' g' → rel F σ H' G' g' a b → Q b H') : Lf B W m rel σ H Q := by
  refine ⟨F, A, G, g, S, ?_⟩
  rw [e]
  exact k
/-- what a walk hands over, as a shared value -/
theorem yld_at {F : Hp} {A : Nat → Addr} {σ : L2.St} {H H' G : Hp} {g : En} {k : IK} {n : Nat × Bool} {vs : List V} {J : It} {i : Nat} {ts : List T} {x : T} {v : V} {tp : Bool} (hpr : pairB k tp = true) (ok : ItOk B k n vs J) (S : Sim B F A σ H G g) (h : RpXs B H G vs ts) (e : itT k n ts i = some (some x)) (y : J.yld i H v H') :
    ∃ G', Same G G' ∧ Sim B F A σ H' G' g ∧ RpY B G' tp v x := by
  rcases ok.yld i H G ts x v H' S.sub h e y with ⟨rfl, r⟩ | ⟨hk, p, ws, ys, rfl, rfl, h1, rfl, h2, h3⟩
  · exact ⟨G, Same.refl' G, S, .inl r⟩
  · refine ⟨upd G p (.tup ws), same_upd (S.noneG h1), S.allocG h1, .inr ⟨?_, _, _, _, rfl, rfl, .inl (.inl upd_same), h2.mono (same_upd (S.noneG h1))⟩⟩
    cases tp with
    | true => rfl
    | false => rw [hk] at hpr; cases hpr
/-- the block's loop -/
def LoopI (B : Bg) (elt : En → R (Bool × T)) (test : En → R Bool) (tgs : List Nat) (tp : Bool) (k : IK) (n : Nat × Bool) (os : List Od) (own : List Nat) (F : Hp) (A : Nat → Addr) (σ : L2.St) (G1 : Hp) (D : Addr) (ts : List T) (g2 : En) (i m : Nat) (H' : Hp) : Prop :=
  m = n.1 - i ∧ i ≤ n.1 ∧ ∃ G' g' acc accV, Same G1 G' ∧ H' D = some (.lst accV) ∧ RpL B G' accV acc ∧ acc.length ≤ i ∧ Sim B (upd F D (.lst accV)) A (wipe σ own) H' G' g' ∧
    compL elt test tgs tp k n os own m i acc g' = .ok ts g2
theorem comp_imp {elt : E} {tgs : List Nat} {tp : Bool} {k : IK} {es cs : List E} {own : List Nat} {σ : L2.St} {H : Hp} {Q : VK} (hpr : pairB k tp = true) (hs : subB tgs own = true) (q : Lf B W (ev C (.comp elt tgs tp k es cs own)) (relE B) σ H Q) :
    tLc (Lf B W (itM C k es) (relI B k)) (tgT B.K tgs tp) (Lf B W0 (evTs C cs) relB) (Lf B W0 (ev C elt) (relE B)) own σ H Q := by
  obtain ⟨F, A, G0, g, S, q⟩ := q
  rw [ev_comp] at q
  refine Lf.seq (rel1 := relI B k) S q fun p J H1 G1 g1 s1 S1 r1 q1 => ?_
  obtain ⟨vs, hod, hit⟩ := r1
  obtain ⟨os, n⟩ := p
  unfold compR at q1
  split at q1
  · rename_i hpl
    split at q1
    · rename_i ts g2 hL
      intro D hD
      have FD : F D = none := S1.noneF hD
      refine ⟨LoopI B (fun g => ev C elt g) (fun g => evTs C cs g) tgs tp k n os own F A σ G1 D ts g2, ⟨n.1, ?_⟩, fun i m H' w => ?_⟩
      · refine ⟨rfl, Nat.zero_le _, G1, wipeS g1 own, [], [], Same.refl' G1, upd_same, .nil, Nat.le_refl _, (S1.wipe own).addF hD, hL⟩
      · obtain ⟨hm, hi, G', g', acc, accV, sG, hDa, rAcc, lAcc, S', hc⟩ := w
        have hc' := hc
        unfold compL at hc
        cases e1 : (odTs g' os).bind fun ts => itT k n ts i with
        | none => rw [e1] at hc; cases hc
        | some o =>
          rw [e1] at hc
          rw [Option.bind_eq_some_iff] at e1
          obtain ⟨us, eo, ei⟩ := e1
          have hx : RpXs B H' G' vs us := S'.odsW (hod.mono sG) eo
          cases o with
          | none =>
            cases hc
            refine .inl ⟨hit.stop i H' G' us S'.sub hx ei, ?_⟩
            have S2 : Sim B F A σ H' G' (giveS g2 g1 own) := Sim.give S1 hpl sG (S'.less (same_upd FD))
            have gD : G' D = none := (S'.frn D _ upd_same).2
            refine At.done (q1.up sG) S2 ?_
            refine ⟨D, rfl, ⟨gD, FD, fun j hj e => ?_⟩, .lst hDa rAcc (Nat.le_trans (Nat.le_trans lAcc hi) hit.most)⟩
            have S3 : Sim B (upd F D (.lst accV)) A σ H' G' (giveS g2 g1 own) := Sim.give S1 hpl sG S'
            obtain ⟨a, t, k1, k2, k3, _⟩ := S3.own hj
            rw [e] at k1
            cases k1
            rw [upd_same] at k3
            cases k3
          | some x =>
            cases m with
            | zero => cases hc
            | succ m' =>
              have hc : (match tgtF tgs tp x g' with
                | none => MP.R.bad
                | some g1 => match evTs C cs g1 with
                  | .ok true g2 => (match ev C elt g2 with
                    | .ok r g3 => compL (fun g => ev C elt g) (fun g => evTs C cs g) tgs tp k n os own m' (i + 1) (acc ++ [r.2]) (wipeS g3 own)
                    | _ => .bad)
                  | .ok false g2 => compL (fun g => ev C elt g) (fun g => evTs C cs g) tgs tp k n os own m' (i + 1) acc (wipeS g2 own)
                  | _ => .bad) = .ok ts g2 := hc
              refine .inr ⟨hit.go i H' G' us x S'.sub hx ei, LoopI B (fun g => ev C elt g) (fun g => evTs C cs g) tgs tp k n os own F A σ G1 D ts g2 (i + 1) m', fun H'' z => ⟨m', Nat.lt_succ_self _, z⟩, fun v H2 yl => ?_⟩
              obtain ⟨G2, s2, S2, r2⟩ := yld_at hpr hit S' hx ei yl
              cases et : tgtF tgs tp x g' with
              | none => rw [et] at hc; cases hc
              | some ga =>
                rw [et] at hc
                refine tgt_at et S2 r2 fun σ2 S3 l3 a3 => ?_
                have hw : wipe σ2 own = wipe σ own := wipe_eq hs (l3.trans (L2.wipe_length _ _)) a3
                refine ⟨hw, ?_⟩
                have hc : (match evTs C cs ga with
                  | .ok true g2 => (match ev C elt g2 with
                    | .ok r g3 => compL (fun g => ev C elt g) (fun g => evTs C cs g) tgs tp k n os own m' (i + 1) (acc ++ [r.2]) (wipeS g3 own)
                    | _ => .bad)
                  | .ok false g2 => compL (fun g => ev C elt g) (fun g => evTs C cs g) tgs tp k n os own m' (i + 1) acc (wipeS g2 own)
                  | _ => .bad) = .ok ts g2 := hc
                cases ec : evTs C cs ga with
                | bad => rw [ec] at hc; cases hc
                | ex x g3 => rw [ec] at hc; cases hc
                | ok b g3 =>
                  rw [ec] at hc
                  refine Lf.ok S3 ec fun b' H3 G3 s3 S4 rb => ?_
                  cases (show b = b' from rb)
                  cases b with
                  | false =>
                    have hc : compL (fun g => ev C elt g) (fun g => evTs C cs g) tgs tp k n os own m' (i + 1) acc (wipeS g3 own) = .ok ts g2 := hc
                    rw [if_neg Bool.false_ne_true]
                    refine ⟨by omega, by omega, G3, wipeS g3 own, acc, accV, (sG.trans s2).trans s3, (S4.frn D _ upd_same).1, rAcc.mono (s2.trans s3), by omega, ?_, hc⟩
                    rw [← hw]
                    exact S4.wipe own
                  | true =>
                    have hc : (match ev C elt g3 with
                      | .ok r g3 => compL (fun g => ev C elt g) (fun g => evTs C cs g) tgs tp k n os own m' (i + 1) (acc ++ [r.2]) (wipeS g3 own)
                      | _ => .bad) = .ok ts g2 := hc
                    rw [if_pos rfl]
                    cases ee : ev C elt g3 with
                    | bad => rw [ee] at hc; cases hc
                    | ex x g4 => rw [ee] at hc; cases hc
                    | ok r g4 =>
                      rw [ee] at hc
                      have hc : compL (fun g => ev C elt g) (fun g => evTs C cs g) tgs tp k n os own m' (i + 1) (acc ++ [r.2]) (wipeS g4 own) = .ok ts g2 := hc
                      refine Lf.ok (m := fun g => ev C elt g) S4 ee fun y' H4 G4 s4 S5 ry => ?_
                      obtain ⟨G5, s5, S6, ry⟩ := S5.shareR ry
                      have hlz : acc.length < sizeLine := by have : n.1 ≤ sizeLine := hit.most; omega
                      refine ⟨accV, (S6.frn D _ upd_same).1, by rw [rAcc.length]; exact hlz, by omega, by omega, G5, wipeS g4 own, acc ++ [r.2], accV ++ [y'], (((sG.trans s2).trans s3).trans s4).trans s5, upd_same, (rAcc.mono (((s2.trans s3).trans s4).trans s5)).snoc ry, by rw [List.length_append]; show acc.length + 1 ≤ i + 1; omega, ?_, hc⟩
                      rw [← hw]
                      have S7 := (S6.chF (o := .lst (accV ++ [y'])) upd_same).wipe own
                      rw [upd_upd] at S7
                      exact S7
    · exact q1.elim
  · exact q1.elim
theorem comp_pe (G : Gd P glb wf d B ck X W) {elt : E} {y : Expr} {tgs : List Nat} {tp : Bool} {k : IK} {es cs : List E} {own : List Nat} {iter tg : Expr} {ifs : List Expr} {scope : Scope} {pos : Pos} {xs : List Expr}
    (h1 : itArgs ck k iter = some xs) (ps : POs C B W X xs es) (hb : blkC ck.N ck.sc scope (ownP ck own) = true) (htg : isTg (ckB ck scope) tgs tp tg = true) (hs : subB tgs own = true) (hp : pairB k tp = true)
    (hcs : ∀ X', Gd P glb wf d B (ckB ck scope) X' W0 → PTs X' ifs (Lf B W0 (evTs C cs) relB)) (hel : ∀ X', Gd P glb wf d B (ckB ck scope) X' W0 → PE X' y (Lf B W0 (ev C elt) (relE B))) :
    PE X (.ListComp y [⟨tg, iter, ifs, 0⟩] scope pos) (Lf B W (ev C (.comp elt tgs tp k es cs own)) (relE B)) := by
  have ho : (ownP ck own).map (·.2) = own := by unfold ownP; rw [List.map_map]; exact List.map_id _
  have okb : BlkOk X.N X.env.scope scope (ownP ck own) := by rw [G.hN, G.sc]; exact blkOk_by hb
  refine (pe_lc G.calm G.nd (it_pi G k h1 hp (isTg_tp htg) ps) okb (fun s H a cl fp => (G.blk s H scope a cl fp).tg htg) (fun s H a cl fp => hcs _ (G.blk s H scope a cl fp)) (fun s H a cl fp => hel _ (G.blk s H scope a cl fp)) (folded_of (itArgs_ok h1 ps) _)).imp fun σ H Q q => ?_
  rw [ho]
  exact comp_imp hp hs q
theorem comp_ps (G : Gd P glb wf d B ck X W) {elt : E} {y : Expr} {tgs : List Nat} {tp : Bool} {k : IK} {es cs : List E} {own : List Nat} {iter tg : Expr} {ifs : List Expr} {scope : Scope} {pos : Pos} {xs : List Expr}
    (h1 : itArgs ck k iter = some xs) (ps : POs C B W X xs es) (hb : blkC ck.N ck.sc scope (ownP ck own) = true) (htg : isTg (ckB ck scope) tgs tp tg = true) (hs : subB tgs own = true) (hp : pairB k tp = true)
    (hcs : ∀ X', Gd P glb wf d B (ckB ck scope) X' W0 → PTs X' ifs (Lf B W0 (evTs C cs) relB)) (hel : ∀ X', Gd P glb wf d B (ckB ck scope) X' W0 → PE X' y (Lf B W0 (ev C elt) (relE B)))
    {i : Nat} {n : Str} {np spos : Pos} (hi : ck.N[i]? = some n) (hl : ck.sc.names.lookup n = some .local) (hsw : swapsWith (.ListComp y [⟨tg, iter, ifs, 0⟩] scope pos) (some (.Name n np)) spos.line X.env = pure true) :
    PS X (.Assign [.Name n np] (.ListComp y [⟨tg, iter, ifs, 0⟩] scope pos) spos) (tAsg (Lf B W (ev C (.comp elt tgs tp k es cs own)) (relE B)) (gName i)) := by
  have ho : (ownP ck own).map (·.2) = own := by unfold ownP; rw [List.map_map]; exact List.map_id _
  have okb : BlkOk X.N X.env.scope scope (ownP ck own) := by rw [G.hN, G.sc]; exact blkOk_by hb
  refine (ps_setLc G.calm G.nd (by rw [G.hN]; exact hi) (by rw [G.sc]; exact hl) hsw (it_pi G k h1 hp (isTg_tp htg) ps) okb (fun s H a cl fp => (G.blk s H scope a cl fp).tg htg) (fun s H a cl fp => hcs _ (G.blk s H scope a cl fp)) (fun s H a cl fp => hel _ (G.blk s H scope a cl fp)) (folded_of (itArgs_ok h1 ps) _)).imp fun D σ H q => ?_
  rw [ho]
  exact comp_imp hp hs q
end
end MP
namespace MP
open PySem PySem.Spec L2
def bk1 : Option Sl → Sl → Option Sl
  | some (.ow _), .io t => some (.ow t)
  | some (.io _), .io t => some (.io t)
  | some (.ow _), .fz t => some (.sh t)
  | some (.io _), .fz t => some (.fz t)
  | _, _ => none
theorem back1_some {g g' : En} {i : Nat} {o : Sl} (h : back1 g i o = some g') : ∃ s', bk1 g[i]? o = some s' ∧ g' = g.set i s' ∧ i < g.length := by
  cases o with
  | io t =>
    have h : putS g i t = some g' := h
    unfold putS at h
    split at h
    · rename_i t0 e; rw [e]; exact ⟨_, rfl, (Option.some.inj h).symm, (List.getElem?_eq_some_iff.mp e).1⟩
    · rename_i t0 e; rw [e]; exact ⟨_, rfl, (Option.some.inj h).symm, (List.getElem?_eq_some_iff.mp e).1⟩
    · cases h
  | fz t =>
    have h : (match g[i]? with
      | some (.ow _) => some (g.set i (.sh t))
      | some (.io _) => some (g.set i (.fz t))
      | _ => none) = some g' := h
    split at h
    · rename_i t0 e; rw [e]; exact ⟨_, rfl, (Option.some.inj h).symm, (List.getElem?_eq_some_iff.mp e).1⟩
    · rename_i t0 e; rw [e]; exact ⟨_, rfl, (Option.some.inj h).symm, (List.getElem?_eq_some_iff.mp e).1⟩
    · cases h
  | un => cases h
  | sh t => cases h
  | ow t => cases h
def isRef : Od → Sl → Bool
  | .s _, .io _ => true
  | _, _ => false
theorem refs_skip {o : Od} {a : Sl} (h : isRef o a = false) (os : List Od) (as : List Sl) : refs (o :: os) (a :: as) = refs os as := by
  cases o <;> cases a <;> first | rfl | cases h
theorem backs_skip {o : Od} {a b : Sl} (h : isRef o a = false) (os : List Od) (as outs : List Sl) (g : En) : backs (o :: os) (a :: as) (b :: outs) g = backs os as outs g := by
  cases o <;> cases a <;> first | rfl | cases h
theorem isRef_some {o : Od} {a : Sl} (h : isRef o a = true) : ∃ i t, o = .s i ∧ a = .io t := by
  cases o <;> cases a <;> first | exact ⟨_, _, rfl, rfl⟩ | cases h
theorem refs_mem : ∀ {os : List Od} {as : List Sl} {i : Nat}, i ∈ refs os as → ∃ (j : Nat) (t : T), os[j]? = some (.s i) ∧ as[j]? = some (.io t)
  | [], _, _, h => by simp [refs] at h
  | _ :: _, [], _, h => by simp [refs] at h
  | o :: os, a :: as, i, h => by
    cases hr : isRef o a with
    | false =>
      rw [refs_skip hr] at h
      obtain ⟨j, t, h1, h2⟩ := refs_mem h
      exact ⟨j + 1, t, h1, h2⟩
    | true =>
      obtain ⟨k, t, rfl, rfl⟩ := isRef_some hr
      have h' : i ∈ k :: refs os as := h
      rcases List.mem_cons.mp h' with rfl | h'
      · exact ⟨0, t, rfl, rfl⟩
      · obtain ⟨j, t2, h1, h2⟩ := refs_mem h'
        exact ⟨j + 1, t2, h1, h2⟩
theorem mem_refs : ∀ {os : List Od} {as : List Sl} {i j : Nat} {t : T}, os[j]? = some (.s i) → as[j]? = some (.io t) → i ∈ refs os as
  | [], _, _, _, _, h, _ => by simp at h
  | _ :: _, [], _, _, _, _, h => by simp at h
  | o :: os, a :: as, i, 0, t, h1, h2 => by
    cases h1
    cases h2
    exact List.mem_cons_self
  | o :: os, a :: as, i, j + 1, t, h1, h2 => by
    have ih := mem_refs (os := os) (as := as) (i := i) (j := j) (t := t) h1 h2
    cases hr : isRef o a with
    | false => rw [refs_skip hr]; exact ih
    | true =>
      obtain ⟨k, t, rfl, rfl⟩ := isRef_some hr
      exact List.mem_cons_of_mem _ ih
theorem nodupB_cons {x : Nat} {xs : List Nat} (h : nodupB (x :: xs) = true) : x ∉ xs ∧ nodupB xs = true := by
  have h' : (!xs.contains x && nodupB xs) = true := h
  rw [Bool.and_eq_true, Bool.not_eq_true'] at h'
  refine ⟨fun q => ?_, h'.2⟩
  have e : xs.contains x = true := List.contains_iff_mem.mpr q
  rw [h'.1] at e
  cases e
theorem refs_inj : ∀ {os : List Od} {as : List Sl} {i j k : Nat} {t u : T}, nodupB (refs os as) = true → os[j]? = some (.s i) → as[j]? = some (.io t) → os[k]? = some (.s i) → as[k]? = some (.io u) → j = k
  | [], _, _, _, _, _, _, _, h, _, _, _ => by simp at h
  | _ :: _, [], _, _, _, _, _, _, _, h, _, _ => by simp at h
  | o :: os, a :: as, i, j, k, t, u, hn, h1, h2, h3, h4 => by
    have tl : nodupB (refs os as) = true := by
      cases hr : isRef o a with
      | false => rw [refs_skip hr] at hn; exact hn
      | true =>
        obtain ⟨k, t, rfl, rfl⟩ := isRef_some hr
        exact (nodupB_cons hn).2
    cases j with
    | zero =>
      cases k with
      | zero => rfl
      | succ k =>
        cases h1
        cases h2
        exact absurd (mem_refs (os := os) (as := as) h3 h4) (nodupB_cons hn).1
    | succ j =>
      cases k with
      | zero =>
        cases h3
        cases h4
        exact absurd (mem_refs (os := os) (as := as) h1 h2) (nodupB_cons hn).1
      | succ k => rw [refs_inj (os := os) (as := as) tl h1 h2 h3 h4]
theorem backs_at : ∀ {os : List Od} {as outs : List Sl} {g g' : En}, backs os as outs g = some g' → nodupB (refs os as) = true → g'.length = g.length ∧
    ∀ i : Nat, (i ∉ refs os as ∧ g'[i]? = g[i]?) ∨ ∃ (j : Nat) (t : T) (o s' : Sl), os[j]? = some (.s i) ∧ as[j]? = some (.io t) ∧ outs[j]? = some o ∧ bk1 g[i]? o = some s' ∧ g'[i]? = some s'
  | [], [], outs, g, g', h, _ => by
    have h' : some g = some g' := by
      cases outs <;> exact h
    cases h'
    exact ⟨rfl, fun i => .inl ⟨by simp [refs], rfl⟩⟩
  | [], _ :: _, outs, _, _, h, _ => by cases outs <;> cases h
  | .t _ :: _, [], outs, _, _, h, _ => by cases outs <;> cases h
  | .s _ :: _, [], outs, _, _, h, _ => by cases outs <;> cases h
  | o :: os, a :: as, [], g, g', h, _ => by
    exfalso
    cases o <;> cases a <;> cases h
  | o :: os, a :: as, b :: outs, g, g', h, hn => by
    cases hr : isRef o a with
    | false =>
      rw [backs_skip hr] at h
      rw [refs_skip hr] at hn
      obtain ⟨h1, h2⟩ := backs_at h hn
      refine ⟨h1, fun i => ?_⟩
      rcases h2 i with ⟨k1, k2⟩ | ⟨j, t, o', s', k1, k2, k3, k4, k5⟩
      · exact .inl ⟨by rw [refs_skip hr]; exact k1, k2⟩
      · exact .inr ⟨j + 1, t, o', s', k1, k2, k3, k4, k5⟩
    | true =>
      obtain ⟨k, t, rfl, rfl⟩ := isRef_some hr
      obtain ⟨n1, n2⟩ := nodupB_cons hn
      have h' : (back1 g k b).bind (fun g1 => backs os as outs g1) = some g' := h
      rw [Option.bind_eq_some_iff] at h'
      obtain ⟨g1, e1, e2⟩ := h'
      obtain ⟨s1, b1, rfl, b3⟩ := back1_some e1
      obtain ⟨h1, h2⟩ := backs_at e2 n2
      refine ⟨by rw [h1, List.length_set], fun i => ?_⟩
      by_cases hi : k = i
      · subst hi
        rcases h2 k with ⟨k1, k2⟩ | ⟨j, t, o', s', k1, k2, k3, k4, k5⟩
        · exact .inr ⟨0, t, b, s1, rfl, rfl, rfl, b1, by rw [k2, getElem?_set', if_pos rfl, if_pos b3]⟩
        · exact absurd (mem_refs k1 k2) n1
      · rcases h2 i with ⟨k1, k2⟩ | ⟨j, t, o', s', k1, k2, k3, k4, k5⟩
        · refine .inl ⟨fun q => ?_, by rw [k2, List.getElem?_set_ne hi]⟩
          have q' : i ∈ k :: refs os as := q
          rcases List.mem_cons.mp q' with q' | q'
          · exact hi q'.symm
          · exact k1 q'
        · rw [List.getElem?_set_ne hi] at k4
          exact .inr ⟨j + 1, t, o', s', k1, k2, k3, k4, k5⟩
theorem odAs_at {g : En} : ∀ {os : List Od} {as : List Sl}, odAs g os = some as → as.length = os.length ∧ ∀ (j : Nat) (a : Sl), as[j]? = some a → ∃ o, os[j]? = some o ∧ odA g o = some a
  | [], as, h => by
    cases (show some [] = some as from h)
    exact ⟨rfl, fun j a e => by simp at e⟩
  | o :: os, as, h => by
    have h' : (odA g o).bind (fun t => (odAs g os).map (t :: ·)) = some as := h
    rw [Option.bind_eq_some_iff] at h'
    obtain ⟨a, e1, h'⟩ := h'
    rw [Option.map_eq_some_iff] at h'
    obtain ⟨as', e2, rfl⟩ := h'
    obtain ⟨h1, h2⟩ := odAs_at e2
    refine ⟨by rw [List.length_cons, List.length_cons, h1], fun j b e => ?_⟩
    cases j with
    | zero => cases e; exact ⟨o, rfl, e1⟩
    | succ j => exact h2 j b e
def OdAt (B : Bg) (G : Hp) (σ : L2.St) (v : V) : Od → Prop
  | .t t => Rp B G v t
  | .s i => σ[i]? = some (some v)
theorem OdOk.at_ {B : Bg} {G : Hp} {σ : L2.St} {os : List Od} {vs : List V} (h : OdOk B G σ os vs) : ∀ {j : Nat} {o : Od}, os[j]? = some o → ∃ v, vs[j]? = some v ∧ OdAt B G σ v o := by
  induction h with
  | nil => intro j o e; simp at e
  | t r _ ih =>
    intro j o e
    cases j with
    | zero => cases e; exact ⟨_, rfl, r⟩
    | succ j => exact ih e
  | s r _ ih =>
    intro j o e
    cases j with
    | zero => cases e; exact ⟨_, rfl, r⟩
    | succ j => exact ih e
/-- what a callee is to leave as it is -/
def outF (H G : Hp) (σ : L2.St) (ps : List Nat) : Hp := fun b => if ((G b).isNone && !(ps.any fun i => decide (σ[i]? = some (some (.ref b))))) = true then H b else none
def adr (vs : List V) (j : Nat) : Addr := match vs[j]? with
  | some (.ref a) => a
  | _ => 0
theorem outF_some {H G : Hp} {σ : L2.St} {ps : List Nat} {b : Addr} {o : HO} (h : outF H G σ ps b = some o) : H b = some o ∧ G b = none ∧ ∀ i ∈ ps, σ[i]? ≠ some (some (.ref b)) := by
  unfold outF at h
  split at h
  · rename_i hc
    rw [Bool.and_eq_true, Option.isNone_iff_eq_none, Bool.not_eq_true', List.any_eq_false] at hc
    exact ⟨h, hc.1, fun i hi e => hc.2 i hi (decide_eq_true e)⟩
  · cases h
theorem outF_of {H G : Hp} {σ : L2.St} {ps : List Nat} {b : Addr} {o : HO} (h1 : H b = some o) (h2 : G b = none) (h3 : ∀ i ∈ ps, σ[i]? ≠ some (some (.ref b))) : outF H G σ ps b = some o := by
  unfold outF
  rw [if_pos, h1]
  rw [Bool.and_eq_true, Option.isNone_iff_eq_none, Bool.not_eq_true', List.any_eq_false]
  exact ⟨h2, fun i hi e => h3 i hi (of_decide_eq_true e)⟩
theorem outF_in {H G : Hp} {σ : L2.St} {ps : List Nat} {b : Addr} {i : Nat} (h : i ∈ ps) (e : σ[i]? = some (some (.ref b))) : outF H G σ ps b = none := by
  cases q : outF H G σ ps b with
  | none => rfl
  | some o => exact absurd e ((outF_some q).2.2 i h)
theorem map_some {vs : List V} {j : Nat} {x : Option V} (h : (vs.map some)[j]? = some x) : ∃ v, vs[j]? = some v ∧ x = some v := by
  rw [List.getElem?_map, Option.map_eq_some_iff] at h
  obtain ⟨v, h1, h2⟩ := h
  exact ⟨v, h1, h2.symm⟩
theorem map_some' {vs : List V} {j : Nat} {v : V} (h : vs[j]? = some v) : (vs.map some)[j]? = some (some v) := by rw [List.getElem?_map, h]; rfl
theorem adr_of {vs : List V} {j : Nat} {a : Addr} (h : vs[j]? = some (.ref a)) : adr vs j = a := by unfold adr; rw [h]
section
variable {B : Bg} {F : Hp} {A : Nat → Addr} {σ : L2.St} {H H1 H2 G G1 G2 : Hp} {g g' : En} {os : List Od} {as outs : List Sl} {vs : List V}
/-- the caller's lists, as the callee knows them -/
theorem io_at (S : Sim B F A σ H G g) (ok : OdOk B G σ os vs) (ha : odAs g os = some as) {j : Nat} {t : T} (h : as[j]? = some (.io t)) :
    ∃ i a, os[j]? = some (.s i) ∧ i ∈ refs os as ∧ Own g[i]? ∧ σ[i]? = some (some (.ref a)) ∧ vs[j]? = some (.ref a) ∧ G a = none ∧ F a = none ∧ RpW B H G a t ∧ (g[i]? = some (.ow t) ∨ g[i]? = some (.io t) ∧ a = A i) := by
  obtain ⟨o, e1, e2⟩ := (odAs_at ha).2 j _ h
  obtain ⟨v, e3, e4⟩ := ok.at_ e1
  cases o with
  | t t0 => cases e2
  | s i =>
    have e4 : σ[i]? = some (some v) := e4
    have e2 : (match g[i]? with
      | some (.sh t) => some (Sl.sh t)
      | some (.fz t) => some (.sh t)
      | some (.ow t) => some (.io t)
      | some (.io t) => some (.io t)
      | _ => none) = some (.io t) := e2
    split at e2
    · cases e2
    · cases e2
    · rename_i t0 eg
      cases e2
      obtain ⟨a, h1, h2, h3, h4⟩ := S.at_ i _ eg
      rw [e4] at h1; cases h1
      exact ⟨i, a, e1, mem_refs e1 h, by rw [eg]; trivial, e4, e3, h2, h3, h4, .inl eg⟩
    · rename_i t0 eg
      cases e2
      obtain ⟨h1, h2, h3, h4⟩ := S.at_ i _ eg
      rw [e4] at h1; cases h1
      exact ⟨i, _, e1, mem_refs e1 h, by rw [eg]; trivial, e4, e3, h2, h3, h4, .inr ⟨eg, rfl⟩⟩
    · cases e2
theorem odA_own {o : Od} {a : Sl} (h : odA g o = some a) : (∃ t, a = .sh t) ∨ ∃ t, a = .io t := by
  cases o with
  | t t => cases h; exact .inl ⟨_, rfl⟩
  | s i =>
    have h : (match g[i]? with
      | some (.sh t) => some (Sl.sh t)
      | some (.fz t) => some (.sh t)
      | some (.ow t) => some (.io t)
      | some (.io t) => some (.io t)
      | _ => none) = some a := h
    split at h <;> first
      | (cases h; exact .inl ⟨_, rfl⟩)
      | (cases h; exact .inr ⟨_, rfl⟩)
      | cases h
theorem call_in (S : Sim B F A σ H G g) (ok : OdOk B G σ os vs) (ha : odAs g os = some as) (hn : nodupB (refs os as) = true) : Sim B (outF H G σ (refs os as)) (adr vs) (vs.map some) H G as where
  sub := S.sub
  frn := fun b o e => ⟨(outF_some e).1, (outF_some e).2.1⟩
  len := by rw [(odAs_at ha).1, List.length_map, ok.length]
  at_ := fun j s e => by
    obtain ⟨o, e1, e2⟩ := (odAs_at ha).2 j s e
    obtain ⟨v, e3, e4⟩ := ok.at_ e1
    rcases odA_own e2 with ⟨t, rfl⟩ | ⟨t, rfl⟩
    · refine ⟨v, map_some' e3, ?_⟩
      cases o with
      | t t0 => cases e2; exact e4
      | s i =>
        have e4 : σ[i]? = some (some v) := e4
        have e2 : (match g[i]? with
          | some (.sh t) => some (Sl.sh t)
          | some (.fz t) => some (.sh t)
          | some (.ow t) => some (.io t)
          | some (.io t) => some (.io t)
          | _ => none) = some (.sh t) := e2
        split at e2
        · rename_i t0 eg
          cases e2
          obtain ⟨v', h1, h2⟩ := S.at_ i _ eg
          rw [e4] at h1; cases h1
          exact h2
        · rename_i t0 eg
          cases e2
          obtain ⟨h1, h2⟩ := S.at_ i _ eg
          rw [e4] at h1; cases h1
          exact h2
        · cases e2
        · cases e2
        · cases e2
    · obtain ⟨i, a, h1, h2, h3, h4, h5, h6, h7, h8, h9⟩ := io_at S ok ha e
      have ea := adr_of h5
      exact ⟨by rw [ea]; exact map_some' h5, by rw [ea]; exact h6, by rw [ea]; exact outF_in h2 h4, by rw [ea]; exact h8⟩
  sep := fun j k hj hk e => by
    have own : ∀ j : Nat, Own as[j]? → ∃ t, as[j]? = some (.io t) := fun j hj => by
      rcases hj.cases with ⟨t, q⟩ | ⟨t, q⟩
      · obtain ⟨o, _, e2⟩ := (odAs_at ha).2 j _ q
        rcases odA_own e2 with ⟨t, z⟩ | ⟨t, z⟩ <;> cases z
      · exact ⟨t, q⟩
    obtain ⟨t, hj⟩ := own j hj
    obtain ⟨u, hk⟩ := own k hk
    obtain ⟨i, a, h1, h2, h3, h4, h5, _⟩ := io_at S ok ha hj
    obtain ⟨i', a', k1, k2, k3, k4, k5, _⟩ := io_at S ok ha hk
    rw [map_some' h5, map_some' k5] at e
    cases e
    have := S.sep i i' h3 k3 (h4.trans k4.symm)
    subst this
    exact refs_inj hn h1 hj k1 hk
/-- what comes back -/
theorem call_out (S : Sim B F A σ H G g) (ok : OdOk B G σ os vs) (ha : odAs g os = some as) (hn : nodupB (refs os as) = true) (s : Same G G2)
    (S2 : Sim B (outF H G σ (refs os as)) (adr vs) (vs.map some) H2 G2 outs) (hb : backs os as outs g = some g') :
    Sim B F A σ H2 G2 g' ∧ ∀ fr v t, Res B (outF H G σ (refs os as)) (vs.map some) H2 G2 outs fr v t → Res B F σ H2 G2 g' fr v t := by
  obtain ⟨hl, hp⟩ := backs_at hb hn
  -- an owned list that is not handed
  have out : ∀ (i : Nat) (a : Addr), i ∉ refs os as → Own g[i]? → σ[i]? = some (some (.ref a)) → ∀ o, H a = some o → outF H G σ (refs os as) a = some o := fun i a hi ow e o ho => by
    obtain ⟨a', t, h1, h2, h3, h4, _⟩ := S.own ow
    rw [e] at h1; cases h1
    refine outF_of ho h2 fun i' hi' e' => ?_
    obtain ⟨j, t', q1, q2⟩ := refs_mem hi'
    obtain ⟨i2, a2, z1, z2, z3, z4, _⟩ := io_at S ok ha q2
    rw [q1] at z1; cases z1
    have := S.sep i i' ow z3 (e.trans e'.symm)
    exact hi (this ▸ hi')
  have frn : ∀ b o, F b = some o → outF H G σ (refs os as) b = some o := fun b o e => by
    obtain ⟨h1, h2⟩ := S.frn b o e
    refine outF_of h1 h2 fun i hi e' => ?_
    obtain ⟨j, t', q1, q2⟩ := refs_mem hi
    obtain ⟨i2, a2, z1, z2, z3, z4, z5, z6, z7, _⟩ := io_at S ok ha q2
    rw [q1] at z1; cases z1
    rw [e'] at z4; cases z4
    rw [e] at z7; cases z7
  have ownEq : ∀ i : Nat, Own g'[i]? → Own g[i]? := fun i hi => by
    rcases hp i with ⟨k1, k2⟩ | ⟨j, t, o, s', k1, k2, k3, k4, k5⟩
    · rw [k2] at hi; exact hi
    · obtain ⟨i2, a2, z1, z2, z3, _⟩ := io_at S ok ha k2
      rw [k1] at z1; cases z1
      exact z3
  refine ⟨⟨S2.sub, fun b o e => S2.frn b o (frn b o e), by rw [hl]; exact S.len, fun i s' e => ?_, fun i k hi hk e => S.sep i k (ownEq i hi) (ownEq k hk) e⟩, fun fr v t r => ?_⟩
  · rcases hp i with ⟨k1, k2⟩ | ⟨j, t, o, s1, k1, k2, k3, k4, k5⟩
    · rw [k2] at e
      have q := S.at_ i s' e
      have keep : ∀ a, Own g[i]? → σ[i]? = some (some (.ref a)) → ∀ t, RpW B H G a t → G2 a = none ∧ RpW B H2 G2 a t := fun a ow ea t w => by
        obtain ⟨o, ho⟩ := w.there
        have z := S2.frn _ _ (out i a k1 ow ea o ho)
        exact ⟨z.2, w.mono (fun o' h' => (S2.frn _ _ (out i a k1 ow ea o' h')).1) s⟩
      cases s' with
      | un => trivial
      | sh t => obtain ⟨v, h1, h2⟩ := q; exact ⟨v, h1, h2.mono s⟩
      | ow t =>
        obtain ⟨a, h1, h2, h3, h4⟩ := q
        obtain ⟨m1, m2⟩ := keep a (by rw [e]; trivial) h1 t h4
        exact ⟨a, h1, m1, h3, m2⟩
      | io t =>
        obtain ⟨h1, h2, h3, h4⟩ := q
        obtain ⟨m1, m2⟩ := keep _ (by rw [e]; trivial) h1 t h4
        exact ⟨h1, m1, h3, m2⟩
      | fz t => obtain ⟨h1, h2⟩ := q; exact ⟨h1, h2.mono s⟩
    · rw [k5] at e
      cases e
      obtain ⟨i2, a, z1, z2, z3, z4, z5, z6, z7, z8, z9⟩ := io_at S ok ha k2
      rw [k1] at z1; cases z1
      have q := S2.at_ j o k3
      have ea := adr_of z5
      cases o with
      | io t' =>
        obtain ⟨m1, m2, m3, m4⟩ := q
        rw [ea] at m2 m4
        rcases z9 with z9 | ⟨z9, z10⟩
        · rw [z9] at k4; cases k4
          exact ⟨a, z4, m2, z7, m4⟩
        · rw [z9] at k4; cases k4
          subst z10
          exact ⟨z4, m2, z7, m4⟩
      | fz t' =>
        obtain ⟨m1, m2⟩ := q
        rw [ea] at m2
        rcases z9 with z9 | ⟨z9, z10⟩
        · rw [z9] at k4; cases k4
          exact ⟨_, z4, m2⟩
        · rw [z9] at k4; cases k4
          subst z10
          exact ⟨z4, m2⟩
      | un => rcases z9 with z9 | ⟨z9, _⟩ <;> (rw [z9] at k4; cases k4)
      | sh t' => rcases z9 with z9 | ⟨z9, _⟩ <;> (rw [z9] at k4; cases k4)
      | ow t' => rcases z9 with z9 | ⟨z9, _⟩ <;> (rw [z9] at k4; cases k4)
  · unfold Res at r ⊢
    cases fr with
    | false => exact r
    | true =>
      obtain ⟨a, rfl, ⟨f1, f2, f3⟩, w⟩ := r
      refine ⟨a, rfl, ⟨f1, ?_, fun i hi e => ?_⟩, w⟩
      · cases q : F a with
        | none => rfl
        | some o => rw [frn a o q] at f2; cases f2
      · rcases hp i with ⟨k1, k2⟩ | ⟨j, t, o, s1, k1, k2, k3, k4, k5⟩
        · have ow := ownEq i hi
          obtain ⟨a', t', h1, h2, h3, h4, _⟩ := S.own ow
          rw [e] at h1; cases h1
          obtain ⟨o, ho⟩ := h4.there
          rw [out i a k1 ow e o ho] at f2
          cases f2
        · obtain ⟨i2, a2, z1, z2, z3, z4, z5, z6, z7, z8, z9⟩ := io_at S ok ha k2
          rw [k1] at z1; cases z1
          rw [e] at z4; cases z4
          refine f3 j ?_ (map_some' z5)
          rw [k3]
          rw [k5] at hi
          cases o with
          | io t' => trivial
          | fz t' => rcases z9 with z9 | ⟨z9, _⟩ <;> (rw [z9] at k4; cases k4; exact hi.elim)
          | un => rcases z9 with z9 | ⟨z9, _⟩ <;> (rw [z9] at k4; cases k4)
          | sh t' => rcases z9 with z9 | ⟨z9, _⟩ <;> (rw [z9] at k4; cases k4)
          | ow t' => rcases z9 with z9 | ⟨z9, _⟩ <;> (rw [z9] at k4; cases k4)
end
section
variable {P : List FD} {glb : Nat → Option T} {wf d : Nat} {B : Bg} {ck : Ck} {X : Cx} {W : WX}
/-- the callee's promise is asked -/
theorem callF_len {f : Nat} {fd : FD} {as : List Sl} (h : P[f]? = some fd) (hne : callF P glb wf d f as ≠ .bad) : as.length = fd.ps.length := by
  cases d with
  | zero => exact absurd rfl hne
  | succ d =>
    by_cases hl : as.length = fd.ps.length
    · exact hl
    · refine absurd ?_ hne
      unfold callF
      rw [h]
      exact if_neg hl
theorem call_sp {F : Hp} {A : Nat → Addr} {σ : L2.St} {H G : Hp} {g : En} {os : List Od} {vs : List V} {f : Nat} {fd : FD} {Q : VK} (S : Sim B F A σ H G g) (ok : OdOk B G σ os vs) (hf : P[f]? = some fd)
    (q : At B W F A σ G (doCall ⟨callF P glb wf d, glb, wf⟩ f os g) (relE B) Q) : spF P glb wf B d f fd.ps.length vs H Q (WE W σ) := by
  unfold doCall at q
  split at q
  · exact q.elim
  · rename_i as ha
    split at q
    · rename_i hd
      have S1 := call_in S ok ha hd
      have hn : os.length = fd.ps.length := by
        rw [← (odAs_at ha).1]
        refine callF_len (glb := glb) (wf := wf) (d := d) hf fun z => ?_
        have q : At B W F A σ G (match callF P glb wf d f as with
          | .ok r outs => (match backs os as outs g with
            | some g' => MP.R.ok r g'
            | none => .bad)
          | .ex x outs => (match backs os as outs g with
            | some g' => .ex x g'
            | none => .bad)
          | .bad => .bad) (relE B) Q := q
        rw [z] at q
        exact q.elim
      refine ⟨by rw [ok.length]; exact hn, _, _, G, as, S1, ?_⟩
      have q : At B W F A σ G (match callF P glb wf d f as with
        | .ok r outs => (match backs os as outs g with
          | some g' => MP.R.ok r g'
          | none => .bad)
        | .ex x outs => (match backs os as outs g with
          | some g' => .ex x g'
          | none => .bad)
        | .bad => .bad) (relE B) Q := q
      cases e : callF P glb wf d f as with
      | bad => rw [e] at q; exact q.elim
      | ok r outs =>
        rw [e] at q
        have q : At B W F A σ G (match backs os as outs g with
          | some g' => MP.R.ok r g'
          | none => .bad) (relE B) Q := q
        cases eb : backs os as outs g with
        | none => rw [eb] at q; exact q.elim
        | some g' =>
          rw [eb] at q
          intro v H' G' s1 S2 r2
          obtain ⟨S3, k⟩ := call_out S ok ha hd s1 S2 eb
          exact q v H' G' s1 S3 (k _ _ _ r2)
      | ex x outs =>
        rw [e] at q
        have q : At B W F A σ G (match backs os as outs g with
          | some g' => (MP.R.ex x g' : MP.R (Bool × T))
          | none => .bad) (relE B) Q := q
        cases eb : backs os as outs g with
        | none => rw [eb] at q; exact q.elim
        | some g' =>
          rw [eb] at q
          intro cls dd H' G' x1 s1 S2
          obtain ⟨S3, k⟩ := call_out S ok ha hd s1 S2 eb
          exact q cls dd H' G' x1 s1 S3
    · exact q.elim
theorem call_pe (G : Gd P glb wf d B ck X W) {f : Nat} {x : Expr} {xs : List Expr} {es : List E} (h : xCall ck f x = some xs) (ps : POs ⟨callF P glb wf d, glb, wf⟩ B W X xs es) :
    PE X x (Lf B W (ev ⟨callF P glb wf d, glb, wf⟩ (.call f es)) (relE B)) := by
  obtain ⟨fd, p, pos, h1, rfl, h3⟩ := xCall_some h
  rw [G.hP] at h1
  obtain ⟨g1, g2⟩ := G.gl h3
  obtain ⟨a, fdat, k1, k2, k3, k4⟩ := G.fns f fd h1
  have key : ∀ {σ : L2.St} {H : Hp} {Q : VK}, Lf B W (ev ⟨callF P glb wf d, glb, wf⟩ (.call f es)) (relE B) σ H Q → Lf B W (evOs ⟨callF P glb wf d, glb, wf⟩ es) (relOs B) σ H fun vs H1 => spF P glb wf B d f fd.ps.length vs H1 Q (WE W σ) := fun {σ H Q} q => by
    obtain ⟨F, A, G0, g, S, q⟩ := q
    have q : At B W F A σ G0 ((evOs ⟨callF P glb wf d, glb, wf⟩ es g).bind fun os g' => doCall ⟨callF P glb wf d, glb, wf⟩ f os g') (relE B) Q := by
      rw [ev] at q
      exact q
    refine Lf.seqE (rel1 := relOs B) S q fun os vs H1 G1 g1 ee s1 S1 r1 q1 => ?_
    exact call_sp S1 r1 h1 q1
  cases ps with
  | nil =>
    refine ⟨fun pins s σ H Q I q => ?_⟩
    refine wpAny_Call_Name_kw (ld_glob I g1 k1 ?_ g2)
    refine PySem.W.callWith_K0 I.kIn k2 (run_fnS (us := []) (vs := []) (E := WE W) k4 G.room k3 (passAt G.tk σ) I .nil ?_)
    obtain ⟨F, A, G0, g, S, q⟩ := key q
    rw [evOs] at q
    exact At.done q S .nil
  | cons p1 p2 p3 =>
    exact (pe_callS (E := WE W) k4 G.room g1 k1 k2 k3 (passAt G.tk) (POs.args (.cons p1 p2 p3)) g2 (star_of p2 _ _) (p3.okAll _ _)).imp fun σ H Q q => key q
end
end MP
namespace MP
open PySem PySem.Spec L2
def blv (C : Cn) (e : E) (g : En) : R Bool := blOf (ev C e g)
section
variable {B : Bg} {F : Hp} {A : Nat → Addr} {σ : L2.St} {H G : Hp} {g : En} {W : WX} {C : Cn}
theorem res_bl {fr : Bool} {v : V} {b : Bool} (r : Res B F σ H G g fr v (.bl b)) : v = .bl b := by
  unfold Res at r
  cases fr with
  | false => cases r; rfl
  | true =>
    obtain ⟨a, _, _, w⟩ := r
    cases w
theorem Lf.tbR {m : En → MP.R (Bool × T)} {Q : Bool → Hp → Prop} (q : Lf B W (fun g => blOf (m g)) relB σ H Q) : Lf B W m (relE B) σ H (fun x H1 => ∃ c, x = .bl c ∧ Q c H1) := by
  obtain ⟨F, A, G, g, S, q⟩ := q
  refine ⟨F, A, G, g, S, ?_⟩
  have q : At B W F A σ G (blOf (m g)) relB Q := q
  cases e1 : m g with
  | bad => rw [e1] at q; exact q.elim
  | ex x g' => rw [e1] at q; exact q
  | ok r g' =>
    obtain ⟨fr, t⟩ := r
    rw [e1] at q
    cases t with
    | bl b =>
      intro v H' G' s1 S1 r1
      have := res_bl r1
      subst this
      exact ⟨b, rfl, q b H' G' s1 S1 rfl⟩
    | _ => exact q.elim
theorem Lf.tb {e : E} {Q : Bool → Hp → Prop} (q : Lf B W (blv C e) relB σ H Q) : Lf B W (ev C e) (relE B) σ H (fun x H1 => ∃ c, x = .bl c ∧ Q c H1) := Lf.tbR q
end
def plainT : Expr → Bool
  | .UnaryOp .Not _ _ => false
  | .BoolOp _ _ _ => false
  | .IfExp _ _ _ _ => false
  | .Compare _ _ _ _ => false
  | _ => true
theorem isTrue_plain {x : Expr} (h : plainT x = true) (env : Env) (whole : Sem Value) : isTrue x env whole = (do let v ← whole; standAt x.pos; holding [v] (truthy v)) := by
  cases x <;> first
    | rfl
    | cases h
    | (rename_i o _ _; cases o <;> first | rfl | cases h)
section
variable {P : List FD} {glb : Nat → Option T} {wf d : Nat} {B : Bg} {ck : Ck} {X : Cx} {W : WX} {C : Cn}
theorem pt_of {e : E} {x : Expr} (h : PE X x (Lf B W (ev C e) (relE B))) (hp : plainT x = true) : PT X x (Lf B W (blv C e) relB) :=
  (pt_val h (isTrue_plain hp _)).imp fun σ H Q q => Lf.tb q
/-- expressions in a row -/
inductive PEs (C : Cn) (B : Bg) (W : WX) (X : Cx) (ck : Ck) : List Expr → List E → Prop
  | nil : PEs C B W X ck [] []
  | cons {x : Expr} {e : E} {xs : List Expr} {es : List E} : isE ck e x = true → PE X x (Lf B W (ev C e) (relE B)) → PT X x (Lf B W (blv C e) relB) → PEs C B W X ck xs es → PEs C B W X ck (x :: xs) (e :: es)
theorem PEs.os (G : Gd P glb wf d B ck X W) {xs : List Expr} {es : List E} (h : PEs C B W X ck xs es) : POs C B W X xs es := by
  induction h with
  | nil => exact .nil
  | cons h1 h2 _ _ ih => exact .cons (G.pO h1 h2) (isE_okX h1) ih
theorem PEs.fs (G : Gd P glb wf d B ck X W) {xs : List Expr} {es : List E} (h : PEs C B W X ck xs es) : PFs C B W X xs es := by
  induction h with
  | nil => exact .nil
  | cons h1 h2 _ _ ih => exact .cons (G.pF h2) (isE_okX h1) ih
def opB (a : Bool) : BoolOp := if a then .And else .Or
theorem evBs_cons (a : Bool) (e e' : E) (es : List E) (g : En) : evBs C a (e :: e' :: es) g = (ev C e g).bind fun x g1 => match x.2 with
    | .bl b => if b = a then evBs C a (e' :: es) g1 else .ok (false, .bl b) g1
    | _ => .bad := by rw [evBs] <;> rfl
theorem evBs_bl (a : Bool) (e e' : E) (es : List E) (g : En) : blOf (evBs C a (e :: e' :: es) g) = (blv C e g).bind fun b g1 => if b = a then blOf (evBs C a (e' :: es) g1) else .ok b g1 := by
  rw [evBs_cons]
  unfold blv
  cases ev C e g with
  | bad => rfl
  | ex x g' => rfl
  | ok r g' =>
    obtain ⟨fr, t⟩ := r
    cases t with
    | bl b =>
      show blOf (if b = a then evBs C a (e' :: es) g' else .ok (false, .bl b) g') = if b = a then blOf (evBs C a (e' :: es) g') else .ok b g'
      split <;> rfl
    | _ => rfl
theorem PEs.bop {xs : List Expr} {es : List E} (h : PEs C B W X ck xs es) : es ≠ [] → ∀ (a : Bool) (pos : Pos), PE X (.BoolOp (opB a) xs pos) (Lf B W (evBs C a es) (relE B)) ∧ PW X (.BoolOp (opB a) xs pos) (Lf B W (fun g => blOf (evBs C a es g)) relB) := by
  induction h with
  | nil => exact fun h => absurd rfl h
  | @cons x e xs es h1 h2 h3 h4 ih =>
    intro _ a pos
    cases h4 with
    | nil =>
      refine ⟨(pe_one h2).imp fun σ H Q q => ?_, ?_⟩
      · obtain ⟨F, A, G, g, S, q⟩ := q
        rw [evBs] at q
        exact ⟨F, A, G, g, S, q⟩
      · have t : ∀ {σ : L2.St} {H : Hp} {Q : Bool → Hp → Prop}, Lf B W (fun g => blOf (evBs C a [e] g)) relB σ H Q → Lf B W (blv C e) relB σ H Q := fun {σ H Q} q => by
          obtain ⟨F, A, G, g, S, q⟩ := q
          have q : At B W F A σ G (blOf (evBs C a [e] g)) relB Q := q
          rw [evBs] at q
          exact ⟨F, A, G, g, S, q⟩
        cases a with
        | true => exact ⟨fun wh pins s σ H Q I q => (pw_and1 h3).run wh pins s σ H Q I (t q)⟩
        | false => exact ⟨fun wh pins s σ H Q I q => (pw_or1 h3).run wh pins s σ H Q I (t q)⟩
    | @cons x' e' xs' es' k1 k2 k3 k4 =>
      obtain ⟨i1, i2⟩ := ih (List.cons_ne_nil _ _) a pos
      have key : ∀ {σ : L2.St} {H : Hp} {Q : VK}, Lf B W (evBs C a (e :: e' :: es')) (relE B) σ H Q → Lf B W (ev C e) (relE B) σ H fun v H1 => ∃ c, v = .bl c ∧ if c = a then Lf B W (evBs C a (e' :: es')) (relE B) σ H1 Q else Q (.bl c) H1 := fun {σ H Q} q => by
        obtain ⟨F, A, G, g, S, q⟩ := q
        rw [evBs_cons] at q
        refine Lf.seq (rel1 := relE B) S q fun r v H1 G1 g1 s1 S1 r1 q1 => ?_
        obtain ⟨fr, t⟩ := r
        cases t with
        | bl b =>
          refine ⟨b, res_bl r1, ?_⟩
          have q1 : At B W F A σ G1 (if b = a then evBs C a (e' :: es') g1 else .ok (false, .bl b) g1) (relE B) Q := q1
          by_cases hb : b = a
          · rw [if_pos hb] at q1 ⊢
            exact Lf.mk S1 q1
          · rw [if_neg hb] at q1 ⊢
            exact At.done q1 S1 (.bl b)
        | _ => exact q1.elim
      have keyB : ∀ {σ : L2.St} {H : Hp} {Q : Bool → Hp → Prop}, Lf B W (fun g => blOf (evBs C a (e :: e' :: es') g)) relB σ H Q → Lf B W (blv C e) relB σ H fun c H1 => if c = a then Lf B W (fun g => blOf (evBs C a (e' :: es') g)) relB σ H1 Q else Q c H1 := fun {σ H Q} q => by
        obtain ⟨F, A, G, g, S, q⟩ := q
        have q : At B W F A σ G (blOf (evBs C a (e :: e' :: es') g)) relB Q := q
        rw [evBs_bl] at q
        refine Lf.seq (rel1 := relB) S q fun b v H1 G1 g1 s1 S1 r1 q1 => ?_
        cases (show b = v from r1)
        by_cases hb : b = a
        · rw [if_pos hb] at q1 ⊢
          exact Lf.mk S1 q1
        · rw [if_neg hb] at q1 ⊢
          exact At.done q1 S1 rfl
      cases a with
      | true =>
        refine ⟨(pe_and h2 i1).imp fun σ H Q q => Lf.imp (key q) fun v H1 ⟨c, e, z⟩ => ⟨c, e, ?_⟩, ⟨fun wh pins s σ H Q I q => (pw_and h3 i2).run wh pins s σ H Q I (Lf.imp (keyB q) fun c H1 z => ?_)⟩⟩
        · cases c with
          | true => rw [if_pos rfl] at z ⊢; exact z
          | false => rw [if_neg (by decide)] at z ⊢; exact z
        · cases c with
          | true => rw [if_pos rfl] at z ⊢; exact z
          | false => rw [if_neg (by decide)] at z ⊢; exact z
      | false =>
        refine ⟨(pe_or h2 i1).imp fun σ H Q q => Lf.imp (key q) fun v H1 ⟨c, e, z⟩ => ⟨c, e, ?_⟩, ⟨fun wh pins s σ H Q I q => (pw_or h3 i2).run wh pins s σ H Q I (Lf.imp (keyB q) fun c H1 z => ?_)⟩⟩
        · cases c with
          | true => rw [if_neg (by decide)] at z; rw [if_pos rfl]; exact z
          | false => rw [if_pos rfl] at z; rw [if_neg (by decide)]; exact z
        · cases c with
          | true => rw [if_neg (by decide)] at z; rw [if_pos rfl]; exact z
          | false => rw [if_pos rfl] at z; rw [if_neg (by decide)]; exact z
theorem PEs.ts {xs : List Expr} {es : List E} (h : PEs C B W X ck xs es) : PTs X xs (Lf B W (evTs C es) relB) := by
  cases h with
  | nil =>
    refine ⟨fun pins s σ H Q I q => pts_nil.run pins s σ H Q I ?_⟩
    obtain ⟨F, A, G, g, S, q⟩ := q
    rw [evTs] at q
    exact At.done q S rfl
  | cons h1 h2 h3 h4 =>
    cases h4 with
    | nil =>
      refine ⟨fun pins s σ H Q I q => (pts_one h3).run pins s σ H Q I ?_⟩
      obtain ⟨F, A, G, g, S, q⟩ := q
      rw [evTs] at q
      exact ⟨F, A, G, g, S, q⟩
    | cons k1 k2 k3 k4 =>
      refine ⟨fun pins s σ H Q I q => ?_⟩
      obtain ⟨F, A, G, g, S, q⟩ := q
      rw [evTs] at q
      · exact q.elim
      all_goals simp
theorem pt_ifExp {c a b : Expr} {pos : Pos} {tc ta tb : TT} (hc : PT X c tc) (ha : PT X a ta) (hb : PT X b tb) : PT X (.IfExp c a b pos) (fun σ H Q => tc σ H fun d H1 => if d = true then ta σ H1 Q else tb σ H1 Q) := by
  refine ⟨fun pins s σ H Q I h => ?_⟩
  show wpAny _ _ (do if ← isTrue c X.env (eval c X.env) then isTrue a X.env (eval a X.env) else isTrue b X.env (eval b X.env)) _ _ _
  refine wpAny_bind (thn (hc.run pins s σ H _ I h) fun d s1 ⟨H1, I1, q1⟩ => ?_)
  cases d with
  | true => exact ha.run pins s1 σ H1 Q I1 q1
  | false => exact hb.run pins s1 σ H1 Q I1 q1
theorem k_var (G : Gd P glb wf d B ck X W) {i : Nat} {x : Expr} (h : xVar ck i x = true) : PE X x (Lf B W (ev C (.var i)) (relE B)) := by
  refine (G.pvar h).imp fun σ H Q q => ?_
  obtain ⟨F, A, G0, g, S, q⟩ := q
  rw [ev] at q
  split at q
  · rename_i t e
    obtain ⟨v, h1, h2⟩ := S.at_ i _ e
    exact ⟨v, h1, At.done q S h2⟩
  · rename_i t e
    obtain ⟨h1, h2⟩ := S.at_ i _ e
    exact ⟨_, h1, At.done q S h2⟩
  · rename_i t e
    obtain ⟨G', v, s1, S1, h1, h2⟩ := S.shareSlot (s' := .sh t) (.inl ⟨e, rfl⟩)
    exact ⟨v, h1, At.done (q.up s1) S1 h2⟩
  · rename_i t e
    obtain ⟨G', v, s1, S1, h1, h2⟩ := S.shareSlot (s' := .fz t) (.inr ⟨e, rfl⟩)
    exact ⟨v, h1, At.done (q.up s1) S1 h2⟩
  · exact q.elim
theorem k_glb (G : Gd P glb wf d B ck X W) (hC : C.glb = glb) {k : Nat} {x : Expr} (h : xGlb ck k x = true) : PE X x (Lf B W (ev C (.glb k)) (relE B)) := by
  unfold xGlb at h
  split at h
  · rename_i n pos
    rw [Bool.and_eq_true, decide_eq_true_eq] at h
    obtain ⟨g1, g2⟩ := G.gl h.2
    refine ⟨fun pins s σ H Q I q => ?_⟩
    obtain ⟨F, A, G0, g, S, q⟩ := q
    rw [ev, hC] at q
    cases e : glb k with
    | none => rw [e] at q; exact q.elim
    | some t =>
      rw [e] at q
      obtain ⟨v, u, h1, h2, h3⟩ := G.hg k n t h.1 e
      exact (pe_glob g1 h1 h2 g2).run pins s σ H Q I (At.done q S (h3 _))
  · cases h
theorem k_tup {xs : List Expr} {es : List E} {kk : Nat} {pos : Pos} (ps : PFs C B W X xs es) : PE X (.Tuple xs kk pos) (Lf B W (ev C (.tup es)) (relE B)) := by
  refine (MPT.pe_tupP ps.args).imp fun σ H Q q => ?_
  obtain ⟨F, A, G0, g, S, q⟩ := q
  rw [ev] at q
  refine Lf.seq (rel1 := relFs B) S q fun ts vs H1 G1 g1 s1 S1 r1 q1 => ?_
  split at q1
  · rename_i hz
    exact ⟨by rw [r1.length]; exact hz, Kt.tup (fun v H' G' s S r => q1 v H' G' s S r) S1 r1 hz⟩
  · exact q1.elim
theorem k_lst {xs : List Expr} {es : List E} {pos : Pos} (ps : PFs C B W X xs es) : PE X (.List xs pos) (Lf B W (ev C (.lst es)) (relE B)) := by
  refine (pe_lst ps.args).imp fun σ H Q q => ?_
  obtain ⟨F, A, G0, g, S, q⟩ := q
  rw [ev] at q
  refine Lf.seq (rel1 := relFs B) S q fun ts vs H1 G1 g1 s1 S1 r1 q1 => ?_
  split at q1
  · rename_i hz
    exact ⟨by rw [r1.length]; exact hz, fun p hp => Kt.lst (fun v H' G' s S r => q1 v H' G' s S r) S1 r1 hz p hp⟩
  · exact q1.elim
theorem k_chn (G : Gd P glb wf d B ck X W) {o1 o2 : CmpOp} {x y z : Expr} {a b c : E} {pos : Pos} (ha : PE X x (Lf B W (ev C a) (relE B))) (hb : PE X y (Lf B W (ev C b) (relE B))) (hc : PE X z (Lf B W (ev C c) (relE B))) (hy : okX y = true) (hz : okX z = true) :
    PE X (.Compare x [o1, o2] [y, z] pos) (Lf B W (ev C (.chn o1 o2 a b c)) (relE B)) ∧ PT X (.Compare x [o1, o2] [y, z] pos) (Lf B W (blv C (.chn o1 o2 a b c)) relB) := by
  have hcmp : ∀ o, OpR X (compareOp o) (rCmp B.K o) := G.hK ▸ op_cmp G.un
  have hm : lastMarks [o1, o2] [y, z] = false := okX_noMark hz o2
  have key : ∀ {σ : L2.St} {H : Hp} {Q : VK}, Lf B W (ev C (.chn o1 o2 a b c)) (relE B) σ H Q → tChain (rCmp B.K o1) (rCmp B.K o2) (Lf B W (ev C a) (relE B)) (Lf B W (ev C b) (relE B)) (Lf B W (ev C c) (relE B)) σ H Q := fun {σ H Q} q => by
    obtain ⟨F, A, G0, g, S, q⟩ := q
    rw [ev] at q
    refine Lf.seq (rel1 := relE B) S q fun u v H1 G1 g1 s1 S1 r1 q1 => ?_
    obtain ⟨G2, s2, S2, r2⟩ := S1.shareR r1
    refine Lf.seq (rel1 := relE B) S2 (q1.up s2) fun u2 v2 H3 G3 g3 s3 S3 r3 q3 => ?_
    obtain ⟨G4, s4, S4, r4⟩ := S3.shareR r3
    have q4 := q3.up s4
    have rA : RpX B H3 G4 v u.2 := .inl (r2.mono (s3.trans s4))
    have rB : RpX B H3 G4 v2 u2.2 := .inl r4
    split at q4
    · exact q4.elim
    · rename_i e
      refine cmp_ok S4 e rA rB fun w H5 G5 s5 S5 r5 => ?_
      cases (show Rp B G5 w (.bl false) from r5)
      refine ⟨false, rfl, ?_⟩
      rw [if_neg Bool.false_ne_true]
      exact At.done (q4.up s5) S5 (.bl false)
    · rename_i e
      refine cmp_ok S4 e rA rB fun w H5 G5 s5 S5 r5 => ?_
      cases (show Rp B G5 w (.bl true) from r5)
      refine ⟨true, rfl, ?_⟩
      rw [if_pos rfl]
      refine Lf.seq (rel1 := relE B) S5 (q4.up s5) fun u3 v3 H6 G6 g6 s6 S6 r6 q6 => ?_
      obtain ⟨G7, s7, S7, r7⟩ := S6.shareR r6
      have q7 := q6.up s7
      split at q7
      · exact q7.elim
      · rename_i e2
        exact cmp_ok S7 e2 (.inl (r4.mono ((s5.trans s6).trans s7))) (.inl r7) fun w H8 G8 s8 S8 r8 => q7 w H8 G8 s8 S8 r8
  exact ⟨(pe_chain (hcmp o1) (hcmp o2) ha hb hc hm).imp fun σ H Q q => key q, (pt_chain (hcmp o1) (hcmp o2) ha hb hc hm).imp fun σ H Q q => key (Lf.tb q)⟩
theorem two_imp {o : Op} {e e2 : E} {k : V → V → Hp → VK → Prop}
    (s : ∀ {F : Hp} {A : Nat → Addr} {σ : L2.St} {H G : Hp} {g : En} {Q : VK} {v w : V} {ts : List T} {res : Bool × T}, Sim B F A σ H G g → RpXs B H G [v, w] ts → opF o ts = some res → Kt B F A σ G g res Q → k v w H Q) {σ : L2.St} {H : Hp} {Q : VK}
    (q : Lf B W (ev C (.op o [e, e2])) (relE B) σ H Q) : Lf B W (ev1 C e) (relO B) σ H fun v H1 => Lf B W (ev1 C e2) (relO B) σ H1 fun w H2 => k v w H2 Q := by
  obtain ⟨F, A, G, g, S, q⟩ := q
  rw [ev_op, evOs_cons, R.bind_bind] at q
  refine Lf.seq (rel1 := relO B) S q fun a b H1 G1 g1 s1 S1 r1 q1 => ?_
  rw [R.bind_bind, evOs_cons, R.bind_bind] at q1
  refine Lf.seq (rel1 := relO B) S1 q1 fun a2 b2 H2 G2 g2 s2 S2 r2 q2 => ?_
  have q3 : At B W F A σ G2 (opK o [a, a2] g2) (relE B) Q := by
    rw [evOs] at q2
    exact q2
  obtain ⟨ts, r, h1, h2, h3⟩ := opK_at S2 (odOk_cons (OdOk.mono r1 s2) r2) q3
  exact s S2 h1 h2 h3
theorem op_pt (G : Gd P glb wf d B ck X W) (o : Op) {x : Expr} {xs : List Expr} {es : List E} (h : opArgs ck o x = some xs) (ps : POs C B W X xs es) : PT X x (Lf B W (blv C (.op o es)) relB) := by
  have pe := op_pe G o h ps
  have hb : ∀ {n : Str} {x : Expr} {ys : List Expr}, xBlt ck n x = some ys → plainT x = true := fun h => by
    obtain ⟨⟨p, pos, rfl⟩, _⟩ := xBlt_some h
    rfl
  have b1 : ∀ {n : Str} {x : Expr}, one (xBlt ck n x) = some xs → plainT x = true := fun q => by
    obtain ⟨a, q1, _⟩ := one_some q
    exact hb q1
  have b2 : ∀ {n : Str} {x : Expr}, two (xBlt ck n x) = some xs → plainT x = true := fun q => by
    obtain ⟨a, b, q1, _⟩ := two_some q
    exact hb q1
  cases o with
  | cmp o =>
    replace h : xCmp o x = some xs := h
    unfold xCmp at h
    split at h
    · split at h
      · rename_i a p b pos e; cases h; subst e
        obtain ⟨e1, e2, rfl, p1, p2, k2⟩ : ∃ e1 e2, es = [e1, e2] ∧ PE X a (Lf B W (ev1 C e1) (relO B)) ∧ PE X b (Lf B W (ev1 C e2) (relO B)) ∧ okX b = true := by
          cases ps with
          | cons h1 _ h3 => cases h3 with | cons h4 h5 h6 => cases h6; exact ⟨_, _, rfl, h1, h4, h5⟩
        have hcmp : ∀ o, OpR X (compareOp o) (rCmp B.K o) := G.hK ▸ op_cmp G.un
        exact (pt_cmpR (hcmp _) p1 p2 (okX_noMark k2 _)).imp fun σ H Q q => two_imp (k := fun v w H Q => rCmp B.K p v w H Q) (fun S h e k => s_cmp _ S h e k) (Lf.tb q)
      · cases h
    · cases h
  | bin o =>
    refine pt_of pe ?_
    replace h : xBin o x = some xs := h
    unfold xBin at h
    split at h
    · rfl
    · cases h
  | neg =>
    refine pt_of pe ?_
    replace h : xUn .USub x = some xs := h
    unfold xUn at h
    split at h
    · split at h
      · rename_i e; subst e; rfl
      · cases h
    · cases h
  | inv =>
    refine pt_of pe ?_
    replace h : xUn .Invert x = some xs := h
    unfold xUn at h
    split at h
    · split at h
      · rename_i e; subst e; rfl
      · cases h
    · cases h
  | sub =>
    refine pt_of pe ?_
    replace h : xSub x = some xs := h
    unfold xSub at h
    split at h
    · rfl
    · cases h
  | slc l h' =>
    refine pt_of pe ?_
    replace h : xSlc l h' x = some xs := h
    unfold xSlc at h
    split at h <;> first | rfl | cases h
  | rev =>
    refine pt_of pe ?_
    replace h : xRev x = some xs := h
    unfold xRev at h
    split at h
    · rfl
    · cases h
  | stp lo hi st =>
    refine pt_of pe ?_
    replace h : xStp lo hi st x = some xs := h
    unfold xStp at h
    split at h <;> first | rfl | cases h
  | len => exact pt_of pe (b1 h)
  | abs => exact pt_of pe (b1 h)
  | min2 => exact pt_of pe (b2 h)
  | max2 => exact pt_of pe (b2 h)
  | minl => exact pt_of pe (b1 h)
  | mnn =>
    refine pt_of pe ?_
    replace h : xMnn ck x = some xs := h
    unfold xMnn at h
    split at h
    · rfl
    · cases h
  | maxl => exact pt_of pe (b1 h)
  | suml => exact pt_of pe (b1 h)
  | intc => exact pt_of pe (b1 h)
  | boolc => exact pt_of pe (b1 h)
  | tupc => exact pt_of pe (b1 h)
  | lstc => exact pt_of pe (b1 h)
  | srt => exact pt_of pe (b1 h)
  | alll => exact pt_of pe (b1 h)
  | anyl => exact pt_of pe (b1 h)
  | lrng tp =>
    refine pt_of pe ?_
    replace h : xLrng ck tp x = some xs := h
    unfold xLrng at h
    split at h
    · rename_i q; exact hb q
    · cases h
  | lrev tp =>
    refine pt_of pe ?_
    replace h : xLrev ck tp x = some xs := h
    unfold xLrev at h
    split at h
    · rename_i q; exact hb q
    · cases h
  | isi c =>
    refine pt_of pe ?_
    replace h : xIsi ck c x = some xs := h
    unfold xIsi at h
    split at h
    · rename_i q; exact hb q
    · cases h
  | isi2 =>
    refine pt_of pe ?_
    replace h : xIsi2 ck x = some xs := h
    unfold xIsi2 at h
    split at h
    · rename_i q; exact hb q
    · cases h
  | isn =>
    refine pt_of pe ?_
    replace h : xIsn ck x = some xs := h
    unfold xIsn at h
    split at h
    · rename_i q; exact hb q
    · cases h
  | isv =>
    refine pt_of pe ?_
    replace h : xIsv ck x = some xs := h
    unfold xIsv at h
    split at h
    · rename_i q; exact hb q
    · cases h
  | idx => cases h
  | cnt => cases h
end
end MP
namespace MP
open PySem PySem.Spec L2
section
variable {B : Bg} {F : Hp} {A : Nat → Addr} {σ : L2.St} {H G : Hp} {g : En}
theorem Sim.lessF {p : Addr} {o : HO} (S : Sim B (upd F p o) A σ H G g) (hp : F p = none) : Sim B F A σ H G g := by
  have ne : ∀ b x, F b = some x → b ≠ p := fun b x e z => by rw [z, hp] at e; cases e
  have k : ∀ b, upd F p o b = none → F b = none := fun b e => by
    by_cases hb : b = p
    · rw [hb]; exact hp
    · rwa [upd_ne hb] at e
  refine ⟨S.sub, fun b x e => S.frn b x (by rw [upd_ne (ne b x e)]; exact e), S.len, fun i s e => ?_, S.sep⟩
  have q := S.at_ i s e
  cases s with
  | un => trivial
  | sh t => exact q
  | ow t => obtain ⟨a, h1, h2, h3, h4⟩ := q; exact ⟨a, h1, h2, k a h3, h4⟩
  | io t => obtain ⟨h1, h2, h3, h4⟩ := q; exact ⟨h1, h2, k _ h3, h4⟩
  | fz t => exact q
/-- what no slot holds and nobody knows is new -/
theorem Sim.newF {p : Addr} {o u : HO} (S : Sim B (upd F p o) A σ H G g) (hp : F p = none) : Sim B F A σ (upd H p u) G g ∧ Fresh B F σ (upd H p u) G g p := by
  have S2 := S.chF (o := u) upd_same
  rw [upd_upd] at S2
  refine ⟨S2.lessF hp, (S2.frn p u upd_same).2, hp, fun i ow e => ?_⟩
  obtain ⟨a, t, h1, h2, h3, h4, _⟩ := S2.own ow
  rw [e] at h1
  cases h1
  rw [upd_same] at h3
  cases h3
theorem Lf.seqF {W : WX} {F' : Hp} {α β γ δ : Type} {rel : Rel α β} {rel1 : Rel γ δ} {m : En → MP.R γ} {f : γ → En → MP.R α} {Q : β → Hp → Prop} {Q1 : δ → Hp → Prop} (S : Sim B F' A σ H G g) (less : ∀ H G g, Sim B F' A σ H G g → Sim B F A σ H G g)
    (h : At B W F A σ G ((m g).bind f) rel Q) (k : ∀ a b H' G' g', Same G G' → Sim B F' A σ H' G' g' → rel1 F' σ H' G' g' a b → At B W F A σ G' (f a g') rel Q → Q1 b H') : Lf B W m rel1 σ H Q1 := by
  refine ⟨F', A, G, g, S, ?_⟩
  cases e : m g with
  | bad => rw [e] at h; exact h
  | ex x g' => rw [e] at h; exact fun cls d H' G' x1 s1 S1 => h cls d H' G' x1 s1 (less _ _ _ S1)
  | ok a g' =>
    rw [e] at h
    have h' : At B W F A σ G (f a g') rel Q := h
    exact fun b H' G' s1 S1 r1 => k a b H' G' g' s1 S1 r1 (h'.up s1)
end
section
variable {P : List FD} {glb : Nat → Option T} {wf d : Nat} {B : Bg} {ck : Ck} {X : Cx} {W : WX} {C : Cn}
theorem baseB {o : Expr} (h : xVarB o = true) (n : Str) (env : Env) : attributeBase o n env (eval o env) = eval o env := by
  cases o <;> first | rfl | cases h
theorem k_tmt (G : Gd P glb wf d B ck X W) {c : Bool} {e a : E} {o y : Expr} {ap cp : Pos} (hl : (ap.endLine == cp.line) = true) (hv : xVarB o = true) (ky : okX y = true) (pe : PE X o (Lf B W (ev C e) (relE B))) (pa : PE X y (Lf B W (ev C a) (relE B))) :
    PE X (.Call (.Attribute o (if c then "count" else "index") ap) [y] [] cp) (Lf B W (ev C (.tmt c e a)) (relE B)) := by
  have fin : ∀ {σ : L2.St} {H : Hp} {Q : VK} {r : V → List V → Hp → VK → Prop}, (∀ (a : Addr) (ns : List Int) (k : Int) (H : Hp) (Q : VK), SqT B.K H a (ns.map V.int) → (c = false → k ∈ ns) → Q (.int (((if c then ns.count k else ns.idxOf k) : Nat) : Int)) H → r (.ref a) [.int k] H Q) →
      Lf B W (ev C (.tmt c e a)) (relE B) σ H Q → tMG (MPU.tyPl X.K) r (Lf B W (ev C e) (relE B)) (tCons (Lf B W (ev C a) (relE B)) tNil) σ H Q := fun {σ H Q r} hr q => by
    obtain ⟨F, A, G0, g, S, q⟩ := q
    rw [ev] at q
    refine Lf.seq (rel1 := relE B) S q fun x v H1 G1 g1 s1 S1 r1 q1 => ?_
    obtain ⟨G2, s2, S2, r2⟩ := S1.shareR r1
    have q2 := q1.up s2
    split at q2
    · rename_i ts et
      rw [et] at r2
      cases r2 with
      | tup h1 h2 h3 =>
        refine ⟨⟨_, _, rfl, by rw [G.hK]; exact Same.sqP S2.sub h1⟩, ?_⟩
        refine Lf.seq (rel1 := relE B) S2 q2 fun y w H3 G3 g3 s3 S3 r3 q3 => ?_
        obtain ⟨fr, t⟩ := y
        split at q3
        · rename_i t' et'
          unfold tmtF at et'
          split at et'
          · rename_i k ek
            have ek : t = .int k := ek
            subst ek
            have hw : w = .int k := by
              unfold relE Res at r3
              cases fr with
              | false => cases r3; rfl
              | true => obtain ⟨_, _, _, w⟩ := r3; cases w
            subst hw
            rw [Option.bind_eq_some_iff] at et'
            obtain ⟨ns, en, et'⟩ := et'
            have ets := intsT_eq en
            subst ets
            have hvs := RpL.isInts (h2.mono s3)
            subst hvs
            have sq : SqT B.K H3 _ (ns.map V.int) := Same.sqT S3.sub (Same.sqP s3 h1).t
            refine hr _ ns k H3 Q sq (fun hc => ?_) ?_
            · subst hc
              rw [if_neg Bool.false_ne_true] at et'
              split at et'
              · rename_i hk; exact List.contains_iff_mem.mp hk
              · cases et'
            · cases c with
              | true =>
                rw [if_pos rfl] at et'
                cases et'
                exact At.done q3 S3 (.int _)
              | false =>
                rw [if_neg Bool.false_ne_true] at et'
                split at et'
                · cases et'; exact At.done q3 S3 (.int _)
                · cases et'
          · cases et'
        · exact q3.elim
    · exact q2.elim
  cases c with
  | true =>
    refine (pe_mG (r := MPU.rTct X.K) MPU.ty_pl PySem.F.plainAttrs_tuple PySem.F.slot_tuple_count PySem.F.type_tuple_count MPU.mt_tct pe (pa_cons pa pa_nil (star_of ky _ _)) (baseB hv _ _) (by rw [star_of ky]; rfl) hl (star_of ky _ _) (by rfl)).imp fun σ H Q q => fin ?_ q
    exact fun a ns k H Q h1 _ h3 => ⟨a, ns, k, rfl, rfl, by rw [G.hK]; exact h1, h3⟩
  | false =>
    refine (pe_mG (r := MPU.rTix X.K) MPU.ty_pl PySem.F.plainAttrs_tuple PySem.F.slot_tuple_index PySem.F.type_tuple_index MPU.mt_tix pe (pa_cons pa pa_nil (star_of ky _ _)) (baseB hv _ _) (by rw [star_of ky]; rfl) hl (star_of ky _ _) (by rfl)).imp fun σ H Q q => fin ?_ q
    exact fun a ns k H Q h1 h2 h3 => ⟨a, ns, k, rfl, rfl, by rw [G.hK]; exact h1, h2 rfl, h3⟩
theorem k_fnv (G : Gd P glb wf d B ck X W) {f : Nat} {x : Expr} (h : xFnv ck f x = true) : PE X x (Lf B W (ev C (.fnv f)) (relE B)) := by
  unfold xFnv at h
  split at h
  · rename_i n p
    rw [Bool.and_eq_true, decide_eq_true_eq] at h
    obtain ⟨h1, h2⟩ := h
    rw [Option.map_eq_some_iff] at h1
    obtain ⟨fd, e1, e2⟩ := h1
    rw [G.hP] at e1
    obtain ⟨g1, g2⟩ := G.gl h2
    obtain ⟨a, b1, b2⟩ := G.af f fd e1
    rw [e2] at b2
    refine ⟨fun pins s σ H Q I q => ?_⟩
    obtain ⟨F, A, G0, g, S, q⟩ := q
    rw [ev] at q
    exact (pe_glob (v := .ref a) g1 b2 rfl g2).run pins s σ H Q I (At.done q S (.fn b1))
  · cases h
theorem call_gen {fx : Expr} (h : calB fx = true) (es : List Expr) (pos : Pos) (env : Env) : eval (.Call fx es [] pos) env = (do
    callWith pos (← eval fx env) [] (backTo pos (starEach es env)) (backToKw pos (keywordEach [] env))) := by
  cases fx <;> first | rfl | cases h
theorem k_cal (G : Gd P glb wf d B ck X W) {e : E} {es : List E} {x fx : Expr} {xs : List Expr} (h : xCal x = some (fx, xs)) (pf : PE X fx (Lf B W (ev ⟨callF P glb wf d, glb, wf⟩ e) (relE B))) (ps : POs ⟨callF P glb wf d, glb, wf⟩ B W X xs es) :
    PE X x (Lf B W (ev ⟨callF P glb wf d, glb, wf⟩ (.cal e es)) (relE B)) := by
  unfold xCal at h
  split at h
  · rename_i fx' y ys pos
    split at h
    · rename_i hc
      cases h
      refine ⟨fun pins s σ H Q I q => ?_⟩
      obtain ⟨F, A, G0, g, S, q⟩ := q
      rw [ev] at q
      rw [call_gen hc]
      refine wpAny_bind (thn (pf.run pins s σ H (fun v H1 => ∃ f a, v = .ref a ∧ B.fa f = some a ∧ Lf B W (fun g => (evOs ⟨callF P glb wf d, glb, wf⟩ es g).bind fun os g' => doCall ⟨callF P glb wf d, glb, wf⟩ f os g') (relE B) σ H1 Q) I ?_) ?_)
      · refine Lf.seq (rel1 := relE B) S q fun r v H1 G1 g1 s1 S1 r1 q1 => ?_
        obtain ⟨G2, s2, S2, r2⟩ := S1.shareR r1
        have q2 := q1.up s2
        split at q2
        · rename_i f ef
          rw [ef] at r2
          cases r2 with
          | fn hf => exact ⟨f, _, rfl, hf, Lf.mk S2 q2⟩
        · exact q2.elim
      · rintro u s1 ⟨v, H1, I1, ru, f, a, rfl, hf, q1⟩
        obtain rfl : u = Value.ref a := ru
        obtain ⟨fd, h1, h2⟩ := G.fa f a hf
        obtain ⟨a', fdat, k1, k2, k3, k4⟩ := G.fns f fd h1
        rw [h2] at k1
        cases k1
        cases ps with
        | @cons _ e0 _ es0 p1 p2 p3 =>
          have ha := POs.args (.cons p1 p2 p3)
          have q2 : Lf B W (evOs ⟨callF P glb wf d, glb, wf⟩ (e0 :: es0)) (relOs B) σ H1 fun vs H1 => spF P glb wf B d f fd.ps.length vs H1 Q (WE W σ) := by
            obtain ⟨F2, A2, G3, g3, S3, q3⟩ := q1
            refine Lf.seqE (rel1 := relOs B) S3 q3 fun os vs H2 G2 g2 ee s2 S2 r2 q4 => ?_
            exact call_sp S2 r2 h1 q4
          refine PySem.W.callWith_K (h₀ := X.base) I1.ok.mod.kin k2 (thn (ha.run pos pins s1 σ H1 _ I1 q2) fun us s2 ⟨vs, H2, I2, r, q3⟩ => ⟨I2.kIn, ?_⟩) (star_of p2 _ _) (p3.okAll _ _)
          exact run_fnS (E := WE W) k4 G.room k3 (passAt G.tk σ) I2 r q3
    · cases h
  · cases h
theorem hasK_none {k : T} : ∀ {kts : List (T × T)}, getK k kts = none → hasK k kts = false
  | [], _ => rfl
  | p :: r, h => by
    have h' : (if T.keq p.1 k then some p.2 else getK k r) = none := h
    split at h'
    · cases h'
    · rename_i c
      show (T.keq p.1 k || hasK k r) = false
      rw [hasK_none h', Bool.or_false]
      exact Bool.eq_false_iff.mpr c
def trsOf (C : Cn) (B : Bg) (W : WX) : List E → List (TE × TE)
  | k :: v :: r => (Lf B W (evF C k) (relF B), Lf B W (evF C v) (relF B)) :: trsOf C B W r
  | _ => []
theorem prs_pp {pos : Pos} : ∀ {ks : List (Option Expr)} {vs xs : List Expr} {es : List E}, interl ks vs = some xs → PFs C B W X xs es → PPs X pos ks vs (trsOf C B W es) ∧ ks.all (·.isSome) = true ∧ ks.length = vs.length
  | [], [], xs, es, h, p => by
    cases h
    cases p
    exact ⟨pps_nil, rfl, rfl⟩
  | [], _ :: _, _, _, h, _ => by cases h
  | none :: _, _, _, _, h, _ => by cases h
  | some _ :: _, [], _, _, h, _ => by cases h
  | some k :: ks, v :: vs, xs, es, h, p => by
    have h' : (interl ks vs).map (fun r => k :: v :: r) = some xs := h
    rw [Option.map_eq_some_iff] at h'
    obtain ⟨r, e, rfl⟩ := h'
    cases p with
    | cons p1 _ p =>
      cases p with
      | cons p2 _ p3 =>
        obtain ⟨q1, q2, q3⟩ := prs_pp (pos := pos) e p3
        exact ⟨pps_cons p1 p2 q1, by rw [List.all_cons, q2]; rfl, by rw [List.length_cons, List.length_cons, q3]⟩
def pairUp {α : Type} : List α → List (α × α)
  | k :: v :: r => (k, v) :: pairUp r
  | _ => []
def evnB {α : Type} : List α → Bool
  | [] => true
  | _ :: _ :: r => evnB r
  | _ => false
theorem interl_even : ∀ {ks : List (Option Expr)} {vs xs : List Expr}, interl ks vs = some xs → evnB xs = true
  | [], [], xs, h => by cases h; rfl
  | [], _ :: _, _, h => by cases h
  | none :: _, _, _, h => by cases h
  | some _ :: _, [], _, h => by cases h
  | some k :: ks, v :: vs, xs, h => by
    have h' : (interl ks vs).map (fun r => k :: v :: r) = some xs := h
    rw [Option.map_eq_some_iff] at h'
    obtain ⟨r, e, rfl⟩ := h'
    show evnB r = true
    exact interl_even e
theorem PFs.even : ∀ {xs : List Expr} {es : List E}, PFs C B W X xs es → evnB xs = true → evnB es = true
  | _, _, .nil, _ => rfl
  | _, _, .cons _ _ .nil, h => by cases h
  | _, _, .cons _ _ (.cons _ _ p), h => by have z := PFs.even p h; exact z
theorem prs_at {F F' : Hp} {A : Nat → Addr} {σ : L2.St} {α β : Type} {rel : Rel α β} {Q : β → Hp → Prop} (less : ∀ H G g, Sim B F' A σ H G g → Sim B F A σ H G g) : ∀ {es : List E} {H G : Hp} {g : En} {f : List T → En → MP.R α} {Q' : List (V × V) → Hp → Prop}, evnB es = true → Sim B F' A σ H G g → At B W F A σ G ((evFs C es g).bind f) rel Q →
    (∀ ts vs H2 G2 g2, Same G G2 → Sim B F' A σ H2 G2 g2 → RpL B G2 vs ts → At B W F A σ G2 (f ts g2) rel Q → Q' (pairUp vs) H2) → tPairs (trsOf C B W es) σ H Q'
  | [], H, G, g, f, Q', _, S, q, k => by
    rw [evFs] at q
    exact k [] [] H G g (Same.refl' G) S .nil q
  | [_], _, _, _, _, _, h, _, _, _ => by cases h
  | e1 :: e2 :: es, H, G, g, f, Q', h, S, q, k => by
    rw [evFs_cons, R.bind_bind] at q
    show (Lf B W (evF C e1) (relF B)) σ H fun x H1 => (Lf B W (evF C e2) (relF B)) σ H1 fun y H2 => tPairs (trsOf C B W es) σ H2 fun ps H3 => Q' ((x, y) :: ps) H3
    refine Lf.seqF (rel1 := relF B) S less q fun t1 v1 H1 G1 g1 s1 S1 r1 q1 => ?_
    rw [R.bind_bind, evFs_cons, R.bind_bind] at q1
    refine Lf.seqF (rel1 := relF B) S1 less q1 fun t2 v2 H2 G2 g2 s2 S2 r2 q2 => ?_
    rw [R.bind_bind] at q2
    refine prs_at less (es := es) h S2 q2 fun ts vs H3 G3 g3 s3 S3 r3 q3 => ?_
    exact k (t1 :: t2 :: ts) (v1 :: v2 :: vs) H3 G3 g3 ((s1.trans s2).trans s3) S3 (.cons (r1.mono (s2.trans s3)) (.cons (r2.mono s3) r3)) q3
theorem pairsT_rp {G : Hp} : ∀ {ts : List T} {vs : List V} {kts : List (T × T)}, pairsT ts = some kts → RpL B G vs ts → ∃ kvs : List (Key × V), pairUp vs = kvs.map (fun kv => (kV kv.1, kv.2)) ∧ RpK B G kvs kts
  | [], vs, kts, h, r => by
    cases h
    cases r
    exact ⟨[], rfl, .nil⟩
  | [_], _, _, h, _ => by cases h
  | k :: v :: ts, vs, kts, h, r => by
    have h' : (if k.keyB then (pairsT ts).map ((k, v) :: ·) else none) = some kts := h
    split at h'
    · rename_i hk
      rw [Option.map_eq_some_iff] at h'
      obtain ⟨r', e, rfl⟩ := h'
      cases r with
      | cons r1 r =>
        cases r with
        | cons r2 r3 =>
          obtain ⟨kvs, e1, e2⟩ := pairsT_rp e r3
          obtain ⟨kk, rfl, rfl⟩ := RpX.key (H := G) (.inl r1) hk
          exact ⟨(kk, _) :: kvs, by rw [List.map_cons, ← e1]; rfl, .cons r2 e2⟩
    · cases h'
theorem RpK.merge {G : Hp} : ∀ {kvs : List (Key × V)} {kts : List (T × T)} {acc : List (Key × V)} {tacc : List (T × T)}, RpK B G kvs kts → RpK B G acc tacc → RpK B G (mergeK acc kvs) (kts.foldl (fun acc p => putKT acc p.1 p.2) tacc)
  | _, _, _, _, .nil, h => h
  | _, _, _, _, @RpK.cons _ _ kk _ _ _ _ r q, h => by have z := RpK.merge q (h.put (k := kk) r); exact z
theorem k_dgt (G : Gd P glb wf d B ck X W) {e k dd : E} {o y z : Expr} {ap cp : Pos} (hl : (ap.endLine == cp.line) = true) (hb : ∀ n env, attributeBase o n env (eval o env) = eval o env) (ky : okX y = true) (kz : okX z = true)
    (pe : PE X o (Lf B W (ev C e) (relE B))) (pk : PE X y (Lf B W (ev C k) (relE B))) (pd : PE X z (Lf B W (ev C dd) (relE B))) : PE X (.Call (.Attribute o "get" ap) [y, z] [] cp) (Lf B W (ev C (.dgt e k dd)) (relE B)) := by
  have m : M2 X o "get" ap y z cp := ⟨hb _ _, by rw [star_of ky, star_of kz]; rfl, hl, by rw [star_of ky, star_of kz]; rfl⟩
  refine (pe_dget2 (by have := G.un; omega) pe pk pd m).imp fun σ H Q q => ?_
  obtain ⟨F, A, G0, g, S, q⟩ := q
  rw [ev] at q
  refine Lf.seq (rel1 := relE B) S q fun x v H1 G1 g1 s1 S1 r1 q1 => ?_
  obtain ⟨G2, s2, S2, r2⟩ := S1.shareR r1
  have q2 := q1.up s2
  split at q2
  · rename_i kvs ek
    rw [ek] at r2
    cases r2 with
    | @dct a vs _ h1 h2 =>
      refine ⟨a, rfl, .inl ⟨_, .inl (S2.sub _ _ h1)⟩, ?_⟩
      refine Lf.seq (rel1 := relE B) S2 q2 fun y w H3 G3 g3 s3 S3 r3 q3 => ?_
      obtain ⟨G4, s4, S4, r4⟩ := S3.shareR r3
      refine Lf.seq (rel1 := relE B) S4 (q3.up s4) fun z u H5 G5 g5 s5 S5 r5 q5 => ?_
      obtain ⟨G6, s6, S6, r6⟩ := S5.shareR r5
      have q6 := q5.up s6
      split at q6
      · rename_i hk
        obtain ⟨kk, e1, e2⟩ := RpX.key (H := H5) (G := G6) (.inl (r4.mono (s5.trans s6))) hk
        have h2' := h2.mono ((s3.trans s4).trans (s5.trans s6))
        have at_ : H5 a = some (.dK vs) := S6.sub _ _ (s6 _ _ (s5 _ _ (s4 _ _ (s3 _ _ h1))))
        refine ⟨valV vs kk, .inl ⟨vs, kk, .inl at_, e1, rfl⟩, ?_⟩
        rw [e2] at q6
        cases eg : getK (keyT kk) kvs with
        | none =>
          rw [eg] at q6
          have hn : valV vs kk = none := by
            have := h2'.has (k := kk)
            cases ev0 : valV vs kk with
            | none => rfl
            | some w =>
              rw [ev0, hasK_none eg] at this
              cases this
          rw [hn]
          exact At.done q6 S6 r6
        | some t =>
          rw [eg] at q6
          obtain ⟨v', k1, k2⟩ := h2'.get eg
          rw [k1]
          exact At.done q6 S6 k2
      · exact q6.elim
  · exact q2.elim
theorem k_dsp {x : Expr} {xs : List Expr} {es : List E} (h : xDsp x = some xs) (ps : PFs C B W X xs es) : PE X x (Lf B W (ev C (.dsp es)) (relE B)) := by
  unfold xDsp at h
  split at h
  · rename_i k ks vs pos
    split at h
    · rename_i hl
      obtain ⟨p1, p2, p3⟩ := prs_pp (pos := pos) h ps
      have ev_ := PFs.even ps (interl_even h)
      refine (pe_disp p1 p2 p3 (List.cons_ne_nil _ _) (by rw [List.length_cons]; omega)).imp fun σ H Q q => ?_
      intro p hp
      obtain ⟨F, A, G0, g, S, q⟩ := q
      have hF := S.noneF hp
      rw [ev] at q
      refine prs_at (fun H G g S => S.lessF hF) ev_ (S.addF hp) q fun ts us H2 G2 g2 s2 S2 r2 q2 => ?_
      refine ⟨(S2.frn p _ upd_same).1, ?_⟩
      split at q2
      · rename_i kts ek
        obtain ⟨kvs, e1, e2⟩ := pairsT_rp ek r2
        obtain ⟨S3, fr⟩ := S2.newF (u := .dK (mergeK [] kvs)) hF
        split at q2
        · rename_i hz
          exact ⟨kvs, e1, by rw [e2.length]; exact hz, q2 _ _ G2 (Same.refl' G2) S3 ⟨p, rfl, fr, .dct upd_same (RpK.merge e2 .nil)⟩⟩
        · exact q2.elim
      · exact q2.elim
    · cases h
  · cases h
end
end MP
namespace MP
open PySem PySem.Spec L2
section
variable {P : List FD} {glb : Nat → Option T} {wf d : Nat} {B : Bg} {ck : Ck} {X : Cx} {W : WX} {C : Cn}
theorem xVar_base {i : Nat} {o : Expr} (h : xVar ck i o = true) (n : Str) (env : Env) : attributeBase o n env (eval o env) = eval o env := by
  unfold xVar at h
  split at h
  · rfl
  · cases h
theorem lst_own {F : Hp} {A : Nat → Addr} {σ : L2.St} {H G : Hp} {g : En} {i : Nat} {ts : List T} (S : Sim B F A σ H G g) (h : ownS g i = some (.lst ts)) : ∃ a vs, σ[i]? = some (some (.ref a)) ∧ H a = some (.lst vs) ∧ RpL B G vs ts ∧ ts.length ≤ sizeLine := by
  obtain ⟨a, h1, _, _, w⟩ := S.ownAt h
  cases w with
  | lst k1 k2 k3 => exact ⟨a, _, h1, k1, k2, k3⟩
theorem lstB_some {g : En} {i : Nat} (h : lstB g i = true) : ∃ ts, ownS g i = some (.lst ts) := by
  unfold lstB at h
  split at h
  · rename_i ts e; exact ⟨ts, e⟩
  · cases h
theorem lst_ty {F : Hp} {A : Nat → Addr} {σ : L2.St} {H G : Hp} {g : En} {i : Nat} (S : Sim B F A σ H G g) (h : lstB g i = true) (hK : X.K = B.K) : ∃ a, σ[i]? = some (some (.ref a)) ∧ tyV X.K "list" (.ref a) H := by
  obtain ⟨ts, e⟩ := lstB_some h
  obtain ⟨a, vs, h1, h2, _⟩ := lst_own S e
  exact ⟨a, h1, .inl ⟨rfl, vs, .inl (.inl h2)⟩⟩
theorem evFs_len : ∀ (es : List E) (g : En) (ts : List T) (g' : En), evFs C es g = .ok ts g' → ts.length = es.length
  | [], g, os, g', h => by rw [evFs] at h; cases h; rfl
  | e :: es, g, os, g', h => by
    rw [evFs_cons] at h
    cases e1 : evF C e g with
    | bad => rw [e1] at h; cases h
    | ex x g1 => rw [e1] at h; cases h
    | ok o g1 =>
      rw [e1] at h
      have h : ((evFs C es g1).bind fun os g2 => MP.R.ok (o :: os) g2) = .ok os g' := h
      cases e2 : evFs C es g1 with
      | bad => rw [e2] at h; cases h
      | ex x g3 => rw [e2] at h; cases h
      | ok os2 g2 =>
        rw [e2] at h
        have h : MP.R.ok (o :: os2) g2 = .ok os g' := h
        cases h
        rw [List.length_cons, List.length_cons, evFs_len _ _ _ _ e2]
theorem k_pop (G : Gd P glb wf d B ck X W) {i : Nat} {x : Expr} {xs : List Expr} {es : List E} (h : xPop ck i x = some xs) (ps : PFs C B W X xs es) : PE X x (Lf B W (ev C (.pop i es)) (relE B)) := by
  unfold xPop at h
  split at h
  · rename_i o hm
    split at h
    · rename_i hv
      cases h
      cases ps
      obtain ⟨ap, cp, rfl, hl⟩ := xMeth_some hm
      refine (pe_bm0 PySem.F.plainAttrs_list PySem.F.slot_list_pop PySem.F.type_list_pop mt_pop (G.pvar hv) (xVar_base hv _ _) hl).imp fun σ H Q q => ?_
      obtain ⟨F, A, G0, g, S, q⟩ := q
      rw [ev] at q
      split at q
      · rename_i hb
        rw [evFs] at q
        obtain ⟨a, h1, h2⟩ := lst_ty S hb G.hK
        refine ⟨_, h1, h2, ?_⟩
        have q : At B W F A σ G0 (popF i [] g) (relE B) Q := q
        obtain ⟨ts, e⟩ := lstB_some hb
        obtain ⟨a', vs, k1, k2, k3, k4⟩ := lst_own S e
        rw [h1] at k1; cases k1
        unfold popF at q
        rw [e] at q
        have q : At B W F A σ G0 (match ts[ts.length - 1]? with
          | some x => (match putS g i (.lst ts.dropLast) with
            | some g2 => MP.R.ok (false, x) g2
            | none => .bad)
          | none => .bad) (relE B) Q := q
        cases e1 : ts[ts.length - 1]? with
        | none => rw [e1] at q; exact q.elim
        | some y =>
          rw [e1] at q
          have q : At B W F A σ G0 (match putS g i (.lst ts.dropLast) with
            | some g2 => MP.R.ok (false, y) g2
            | none => .bad) (relE B) Q := q
          cases e2 : putS g i (.lst ts.dropLast) with
          | none => rw [e2] at q; exact q.elim
          | some g2 =>
            rw [e2] at q
            obtain ⟨v, k5, k6⟩ := k3.get e1
            refine ⟨a, vs, v, rfl, rfl, k2, by rw [k3.length]; exact k5, ?_⟩
            have S2 := S.put (o := .lst vs.dropLast) e2 h1 (.lst upd_same k3.dropLast (by rw [List.length_dropLast]; omega))
            exact At.done q S2 k6
      · exact q.elim
    · cases h
  · rename_i o y hm
    split at h
    · rename_i hv
      cases h
      obtain ⟨ap, cp, rfl, hl⟩ := xMeth_some hm
      obtain ⟨e0, rfl, p1, ky⟩ : ∃ e0, es = [e0] ∧ PE X y (Lf B W (evF C e0) (relF B)) ∧ okX y = true := by
        cases ps with
        | cons h1 h2 h3 => cases h3; exact ⟨_, rfl, h1, h2⟩
      refine (pe_bm PySem.F.plainAttrs_list PySem.F.slot_list_pop PySem.F.type_list_pop mt_popAt (G.pvar hv) (PFs.args (.cons p1 ky .nil)) (xVar_base hv _ _) (by rw [star_of ky]; rfl) hl (star_of ky _ _) (by rfl)).imp fun σ H Q q => ?_
      obtain ⟨F, A, G0, g, S, q⟩ := q
      rw [ev] at q
      split at q
      · rename_i hb
        obtain ⟨a, h1, h2⟩ := lst_ty S hb G.hK
        refine ⟨_, h1, h2, ?_⟩
        refine Lf.seqE (rel1 := relFs B) S q fun us ws H1 G1 g1 ee s1 S1 r1 q1 => ?_
        obtain ⟨u, rfl⟩ := List.length_eq_one_iff.mp (evFs_len _ _ _ _ ee)
        cases r1 with
        | cons ru rn =>
        cases rn
        unfold popF at q1
        split at q1
        · rename_i e; cases e
        · rename_i ts k eo e
          cases e
          cases ru
          obtain ⟨a', vs, k1, k2, k3, k4⟩ := lst_own S1 eo
          rw [h1] at k1; cases k1
          split at q1
          · rename_i j ej
            split at ej
            · rename_i hk
              split at q1
              · rename_i y ey
                split at q1
                · rename_i g2 e2
                  obtain ⟨v, k5, k6⟩ := k3.get ey
                  refine ⟨a, vs, k, j, v, rfl, rfl, k2, by omega, by omega, by rw [k3.length]; exact ej, k5, ?_⟩
                  have S2 := S1.put (o := .lst (vs.eraseIdx j)) e2 h1 (.lst upd_same (k3.erase j) (by have := List.length_eraseIdx_le ts j; omega))
                  exact At.done q1 S2 k6
                · exact q1.elim
              · exact q1.elim
            · cases ej
          · exact q1.elim
        · exact q1.elim
      · exact q.elim
    · cases h
  · cases h
theorem ix_at {y : T} : ∀ {xs : List T} {k j : Nat}, T.ix y xs k = some j → ∃ i, j = k + i ∧ ∃ z, xs[i]? = some z ∧ T.beq z y = true ∧ ∀ m z', m < i → xs[m]? = some z' → T.beq z' y = false
  | [], k, j, h => by cases h
  | x :: xs, k, j, h => by
    have h : (if T.beq x y = true then some k else T.ix y xs (k + 1)) = some j := h
    split at h
    · rename_i c
      cases h
      exact ⟨0, rfl, x, rfl, c, fun m z' hm => absurd hm (Nat.not_lt_zero _)⟩
    · rename_i c
      obtain ⟨i, e, z, h1, h2, h3⟩ := ix_at h
      refine ⟨i + 1, by omega, z, h1, h2, fun m z' hm hz => ?_⟩
      cases m with
      | zero => cases hz; exact Bool.eq_false_iff.mpr c
      | succ m => exact h3 m z' (by omega) hz
theorem k_ixl (G : Gd P glb wf d B ck X W) {i : Nat} {x : Expr} {xs : List Expr} {es : List E} (h : xIxl ck i x = some xs) (ps : PFs C B W X xs es) : PE X x (Lf B W (ev C (.ixl i es)) (relE B)) := by
  unfold xIxl at h
  split at h
  · rename_i o y hm
    split at h
    · rename_i hv
      cases h
      obtain ⟨ap, cp, rfl, hl⟩ := xMeth_some hm
      obtain ⟨e0, rfl, p1, ky⟩ : ∃ e0, es = [e0] ∧ PE X y (Lf B W (evF C e0) (relF B)) ∧ okX y = true := by
        cases ps with
        | cons h1 h2 h3 => cases h3; exact ⟨_, rfl, h1, h2⟩
      have hmt : MtR X "list.index" (rIndex B.K) := G.hK ▸ mt_index
      refine (pe_bm PySem.F.plainAttrs_list PySem.F.slot_list_index PySem.F.type_list_index hmt (G.pvar hv) (PFs.args (.cons p1 ky .nil)) (xVar_base hv _ _) (by rw [star_of ky]; rfl) hl (star_of ky _ _) (by rfl)).imp fun σ H Q q => ?_
      obtain ⟨F, A, G0, g, S, q⟩ := q
      rw [ev] at q
      split at q
      · rename_i hb
        obtain ⟨a, h1, h2⟩ := lst_ty S hb G.hK
        refine ⟨_, h1, h2, ?_⟩
        refine Lf.seqE (rel1 := relFs B) S q fun us ws H1 G1 g1 ee s1 S1 r1 q1 => ?_
        obtain ⟨u, rfl⟩ := List.length_eq_one_iff.mp (evFs_len _ _ _ _ ee)
        cases r1 with
        | cons ru rn =>
        cases rn
        unfold ixlF at q1
        split at q1
        · rename_i ts t eo e
          cases e
          split at q1
          · rename_i hf
            rw [Bool.and_eq_true] at hf
            split at q1
            · rename_i j ej
              obtain ⟨a', vs, k1, k2, k3, k4⟩ := lst_own S1 eo
              rw [h1] at k1; cases k1
              obtain ⟨i0, e0, z, z1, z2, z3⟩ := ix_at ej
              rw [Nat.zero_add] at e0
              subst e0
              obtain ⟨f1, f2⟩ := ru.flat hf.1
              obtain ⟨f3, f4⟩ := k3.flats hf.2
              subst f1
              subst f3
              refine ⟨a, _, _, j, vOf z, rfl, rfl, .inl (.inl k2), f2, f4, by rw [List.getElem?_map, z1]; rfl, ?_, fun m z' hm hz => ?_, At.done q1 S1 (.int _)⟩
              · rw [eqV_flat (List.all_eq_true.mp hf.2 z (List.mem_of_getElem? z1)) hf.1]
                exact z2
              · rw [List.getElem?_map] at hz
                obtain ⟨w, hw, rfl⟩ := Option.map_eq_some_iff.mp hz
                rw [eqV_flat (List.all_eq_true.mp hf.2 w (List.mem_of_getElem? hw)) hf.1]
                exact z3 m w hm hw
            · exact q1.elim
          · exact q1.elim
        · exact q1.elim
      · exact q.elim
    · cases h
  · cases h
abbrev CC (P : List FD) (glb : Nat → Option T) (wf d : Nat) : Cn := ⟨callF P glb wf d, glb, wf⟩
theorem not_blv (e : E) (g : En) : blv C (.not e) g = (blv C e g).bind fun b g1 => .ok (!b) g1 := by
  unfold blv
  rw [ev]
  cases ev C e g with
  | bad => rfl
  | ex x g' => rfl
  | ok r g' =>
    obtain ⟨fr, t⟩ := r
    cases t <;> rfl
theorem ife_ev (c a b : E) (g : En) : ev C (.ife c a b) g = (blv C c g).bind fun d g1 => if d = true then ev C a g1 else ev C b g1 := by
  rw [ev]
  unfold blv
  cases ev C c g with
  | bad => rfl
  | ex x g' => rfl
  | ok r g' =>
    obtain ⟨fr, t⟩ := r
    cases t with
    | bl b => cases b <;> rfl
    | _ => rfl
mutual
theorem main_e : ∀ (e : E) {ck : Ck} {X : Cx} {W : WX} {x : Expr}, Gd P glb wf d B ck X W → isE ck e x = true → PE X x (Lf B W (ev (CC P glb wf d) e) (relE B)) ∧ PT X x (Lf B W (blv (CC P glb wf d) e) relB)
  | .non, ck, X, W, x, G, h => by
    have h : xNon x = true := by simpa [isE] using h
    unfold xNon at h
    split at h
    · rename_i j pos _
      have p : PE X (.Constant .none j pos) (Lf B W (ev (CC P glb wf d) .non) (relE B)) := (pe_non (j := j) (pos := pos)).imp fun σ H Q q => by
        obtain ⟨F, A, G0, g, S, q⟩ := q
        rw [ev] at q
        exact At.done q S .non
      exact ⟨p, pt_of p rfl⟩
    · cases h
  | .bl b, ck, X, W, x, G, h => by
    have h : xBl b x = true := by simpa [isE] using h
    unfold xBl at h
    split at h
    · rename_i c j pos _
      have e : b = c := by simpa using h
      subst e
      have p : PE X (.Constant (.bool b) j pos) (Lf B W (ev (CC P glb wf d) (.bl b)) (relE B)) := (pe_bl (j := j) (pos := pos)).imp fun σ H Q q => by
        obtain ⟨F, A, G0, g, S, q⟩ := q
        rw [ev] at q
        exact At.done q S (.bl b)
      exact ⟨p, pt_of p rfl⟩
    · cases h
  | .int i, ck, X, W, x, G, h => by
    have h : xInt i x = true := by simpa [isE] using h
    unfold xInt at h
    split at h
    · rename_i c j pos _
      have e : i = c := of_decide_eq_true h
      subst e
      have p : PE X (.Constant (.int i) j pos) (Lf B W (ev (CC P glb wf d) (.int i)) (relE B)) := (pe_int (j := j) (pos := pos)).imp fun σ H Q q => by
        obtain ⟨F, A, G0, g, S, q⟩ := q
        rw [ev] at q
        exact At.done q S (.int i)
      exact ⟨p, pt_of p rfl⟩
    · cases h
  | .str s, ck, X, W, x, G, h => by
    have h : xStr s x = true := by simpa [isE] using h
    unfold xStr at h
    split at h
    · rename_i c j pos _
      have e : c = ⟨s.toArray⟩ := of_decide_eq_true h
      subst e
      have p : PE X (.Constant (.str ⟨s.toArray⟩) j pos) (Lf B W (ev (CC P glb wf d) (.str s)) (relE B)) := (pe_str (j := j) (pos := pos)).imp fun σ H Q q => by
        obtain ⟨F, A, G0, g, S, q⟩ := q
        rw [ev] at q
        exact At.done q S (.str s)
      exact ⟨p, pt_of p rfl⟩
    · cases h
  | .var i, ck, X, W, x, G, h => by
    have h : xVar ck i x = true := by simpa [isE] using h
    have p := k_var (C := CC P glb wf d) G h
    refine ⟨p, pt_of p ?_⟩
    unfold xVar at h
    split at h
    · rfl
    · cases h
  | .glb k, ck, X, W, x, G, h => by
    have h : xGlb ck k x = true := by simpa [isE] using h
    have p := k_glb (C := CC P glb wf d) G rfl h
    refine ⟨p, pt_of p ?_⟩
    unfold xGlb at h
    split at h
    · rfl
    · cases h
  | .tup es, ck, X, W, x, G, h => by
    rw [isE] at h
    cases x with
    | Tuple xs kk pos =>
      have h : isEs ck es xs = true := h
      have p := k_tup (C := CC P glb wf d) (kk := kk) (pos := pos) ((main_es es G h).fs G)
      exact ⟨p, pt_of p rfl⟩
    | _ => cases h
  | .lst es, ck, X, W, x, G, h => by
    rw [isE] at h
    cases x with
    | List xs pos =>
      have h : isEs ck es xs = true := h
      have p := k_lst (C := CC P glb wf d) (pos := pos) ((main_es es G h).fs G)
      exact ⟨p, pt_of p rfl⟩
    | _ => cases h
  | .op o es, ck, X, W, x, G, h => by
    rw [isE] at h
    split at h
    · rename_i xs e
      have ps := (main_es es G h).os G
      exact ⟨op_pe G o e ps, op_pt G o e ps⟩
    · cases h
  | .chn o1 o2 a b c, ck, X, W, x, G, h => by
    rw [isE] at h
    split at h
    · rename_i p q r e
      rw [Bool.and_eq_true, Bool.and_eq_true] at h
      unfold xChn at e
      split at e
      · split at e
        · rename_i hc
          cases e
          obtain ⟨rfl, rfl⟩ := hc
          exact k_chn G (main_e a G h.1).1 (main_e b G h.2.1).1 (main_e c G h.2.2).1 (isE_okX h.2.1) (isE_okX h.2.2)
        · cases e
      · cases e
    · cases h
  | .bop a es, ck, X, W, x, G, h => by
    rw [isE] at h
    split at h
    · rename_i xs e
      have ps := main_es es G h
      have hne : es ≠ [] → PE X x (Lf B W (ev (CC P glb wf d) (.bop a es)) (relE B)) ∧ PT X x (Lf B W (blv (CC P glb wf d) (.bop a es)) relB) := fun hn => by
        obtain ⟨pos, rfl⟩ : ∃ pos, x = .BoolOp (opB a) xs pos := by
          unfold xBop at e
          split at e
          · split at e
            · rename_i ha; cases e; subst ha; exact ⟨_, rfl⟩
            · cases e
          · split at e
            · cases e
            · rename_i ha; cases e
              have : a = false := by simpa using ha
              subst this; exact ⟨_, rfl⟩
          · cases e
        obtain ⟨q1, q2⟩ := ps.bop hn a pos
        refine ⟨q1.imp fun σ H Q q => ?_, q2.pt.imp fun σ H Q q => ?_⟩
        · obtain ⟨F, A, G0, g, S, q⟩ := q
          rw [ev] at q
          exact ⟨F, A, G0, g, S, q⟩
        · obtain ⟨F, A, G0, g, S, q⟩ := q
          refine ⟨F, A, G0, g, S, ?_⟩
          unfold blv at q
          rw [ev] at q
          exact q
      cases es with
      | nil =>
        refine ⟨⟨fun pins s σ H Q I q => ?_⟩, ⟨fun pins s σ H Q I q => ?_⟩⟩
        · obtain ⟨F, A, G0, g, S, q⟩ := q
          rw [ev, evBs] at q
          exact q.elim
        · obtain ⟨F, A, G0, g, S, q⟩ := q
          unfold blv at q
          rw [ev, evBs] at q
          exact q.elim
      | cons e1 es => exact hne (List.cons_ne_nil _ _)
    · cases h
  | .not a, ck, X, W, x, G, h => by
    rw [isE] at h
    split at h
    · rename_i p e
      unfold xNot at e
      split at e
      · cases e
        obtain ⟨p1, p2⟩ := main_e a G h
        refine ⟨(pe_not p1).imp fun σ H Q q => ?_, (pt_not p2).imp fun σ H Q q => ?_⟩
        · obtain ⟨F, A, G0, g, S, q⟩ := q
          rw [ev] at q
          refine Lf.seq (rel1 := relE B) S q fun r v H1 G1 g1 s1 S1 r1 q1 => ?_
          obtain ⟨fr, t⟩ := r
          cases t with
          | bl b => exact ⟨b, res_bl r1, At.done q1 S1 (.bl _)⟩
          | _ => exact q1.elim
        · obtain ⟨F, A, G0, g, S, q⟩ := q
          rw [not_blv] at q
          refine Lf.seq (rel1 := relB) S q fun b c H1 G1 g1 s1 S1 r1 q1 => ?_
          cases (show b = c from r1)
          exact At.done q1 S1 rfl
      · cases e
    · cases h
  | .ife c a b, ck, X, W, x, G, h => by
    rw [isE] at h
    split at h
    · rename_i p q r e
      rw [Bool.and_eq_true, Bool.and_eq_true] at h
      unfold xIfe at e
      split at e
      · cases e
        obtain ⟨_, c2⟩ := main_e c G h.1
        obtain ⟨a1, a2⟩ := main_e a G h.2.1
        obtain ⟨b1, b2⟩ := main_e b G h.2.2
        refine ⟨(pe_ifExp c2 a1 b1).imp fun σ H Q q => ?_, (pt_ifExp c2 a2 b2).imp fun σ H Q q => ?_⟩
        · obtain ⟨F, A, G0, g, S, q⟩ := q
          rw [ife_ev] at q
          refine Lf.seq (rel1 := relB) S q fun b c H1 G1 g1 s1 S1 r1 q1 => ?_
          cases (show b = c from r1)
          cases b with
          | true => exact Lf.mk S1 q1
          | false => exact Lf.mk S1 q1
        · obtain ⟨F, A, G0, g, S, q⟩ := q
          unfold blv at q
          rw [ife_ev] at q
          have e : ∀ (m : MP.R Bool) (f : Bool → En → MP.R (Bool × T)), blOf (m.bind f) = m.bind fun b g => blOf (f b g) := fun m f => by cases m <;> rfl
          rw [e] at q
          refine Lf.seq (rel1 := relB) S q fun b c H1 G1 g1 s1 S1 r1 q1 => ?_
          cases (show b = c from r1)
          cases b with
          | true => exact Lf.mk S1 q1
          | false => exact Lf.mk S1 q1
      · cases e
    · cases h
  | .ixl i es, ck, X, W, x, G, h => by
    rw [isE] at h
    split at h
    · rename_i xs e
      have p := k_ixl (C := CC P glb wf d) G e ((main_es es G h).fs G)
      refine ⟨p, pt_of p ?_⟩
      unfold xIxl at e
      split at e
      · rename_i hm; obtain ⟨_, _, rfl, _⟩ := xMeth_some hm; rfl
      · cases e
    · cases h
  | .any, ck, X, W, x, G, h => by
    refine ⟨⟨fun pins s σ H Q I q => ?_⟩, ⟨fun pins s σ H Q I q => ?_⟩⟩
    · obtain ⟨F, A, G0, g, S, q⟩ := q
      rw [ev] at q
      exact q.elim
    · obtain ⟨F, A, G0, g, S, q⟩ := q
      unfold blv at q
      rw [ev] at q
      exact q.elim
  | .call f es, ck, X, W, x, G, h => by
    rw [isE] at h
    split at h
    · rename_i xs e
      have p := call_pe G e ((main_es es G h).os G)
      refine ⟨p, pt_of p ?_⟩
      obtain ⟨_, _, _, _, rfl, _⟩ := xCall_some e
      rfl
    · cases h
  | .pop i es, ck, X, W, x, G, h => by
    rw [isE] at h
    split at h
    · rename_i xs e
      have p := k_pop (C := CC P glb wf d) G e ((main_es es G h).fs G)
      refine ⟨p, pt_of p ?_⟩
      unfold xPop at e
      split at e
      · rename_i hm; obtain ⟨_, _, rfl, _⟩ := xMeth_some hm; rfl
      · rename_i hm; obtain ⟨_, _, rfl, _⟩ := xMeth_some hm; rfl
      · cases e
    · cases h
  | .comp elt tgs tp k es cs own, ck, X, W, x, G, h => by
    rw [isE] at h
    split at h
    · rename_i y tg iter ifs scope e
      split at h
      · rename_i xs e2
        simp only [Bool.and_eq_true] at h
        obtain ⟨h1, h2, h3, h4, h5, h6, h7⟩ := h
        obtain ⟨pos, rfl⟩ : ∃ pos, x = .ListComp y [⟨tg, iter, ifs, 0⟩] scope pos := by
          unfold xComp at e
          split at e
          · cases e; exact ⟨_, rfl⟩
          · cases e
        have p := comp_pe (pos := pos) G e2 ((main_es es G h1).os G) h2 h3 h4 h5 (fun X' G' => (main_es cs G' h6).ts) (fun X' G' => (main_e elt G' h7).1)
        exact ⟨p, pt_of p rfl⟩
      · cases h
    · cases h
  | .rdv i, ck, X, W, x, G, h => by
    have h : xVar ck i x = true := by simpa [isE] using h
    have p : PE X x (Lf B W (ev (CC P glb wf d) (.rdv i)) (relE B)) := (k_var (C := CC P glb wf d) G h).imp fun σ H Q q => by
      obtain ⟨F, A, G0, g, S, q⟩ := q
      have e : ev (CC P glb wf d) (.rdv i) g = ev (CC P glb wf d) (.var i) g := by rw [ev, ev]
      have q : At B W F A σ G0 (ev (CC P glb wf d) (.rdv i) g) (relE B) Q := q
      rw [e] at q
      exact ⟨F, A, G0, g, S, q⟩
    refine ⟨p, pt_of p ?_⟩
    unfold xVar at h
    split at h
    · rfl
    · cases h
  | .dnew, ck, X, W, x, G, h => by
    have h : xDnew x = true := by simpa [isE] using h
    unfold xDnew at h
    split at h
    · rename_i pos _
      have p : PE X (.Dict [] [] pos) (Lf B W (ev (CC P glb wf d) .dnew) (relE B)) := (pe_dnewK (pos := pos)).imp fun σ H Q q => by
        obtain ⟨F, A, G0, g, S, q⟩ := q
        rw [ev] at q
        exact fun a ha => q (.ref a) _ G0 (Same.refl' G0) (S.alloc ha) ⟨a, rfl, S.fresh ha, .dct upd_same .nil⟩
      exact ⟨p, pt_of p rfl⟩
    · cases h
  | .tmt c e a, ck, X, W, x, G, h => by
    rw [isE] at h
    split at h
    · rename_i o y eo
      rw [Bool.and_eq_true, Bool.and_eq_true] at h
      obtain ⟨h1, h2, h3⟩ := h
      unfold xTmt at eo
      split at eo
      · rename_i o' y' hm
        cases eo
        obtain ⟨ap, cp, rfl, hl⟩ := xMeth_some hm
        have p := k_tmt (C := CC P glb wf d) (c := c) (ap := ap) (cp := cp) G hl h1 (isE_okX h3) (main_e e G h2).1 (main_e a G h3).1
        exact ⟨p, pt_of p rfl⟩
      · cases eo
    · cases h
  | .fnv f, ck, X, W, x, G, h => by
    have h : xFnv ck f x = true := by simpa [isE] using h
    have p := k_fnv (C := CC P glb wf d) G h
    refine ⟨p, pt_of p ?_⟩
    unfold xFnv at h
    split at h
    · rfl
    · cases h
  | .cal e es, ck, X, W, x, G, h => by
    rw [isE] at h
    split at h
    · rename_i fx xs ec
      rw [Bool.and_eq_true] at h
      have p := k_cal G ec (main_e e G h.1).1 ((main_es es G h.2).os G)
      refine ⟨p, pt_of p ?_⟩
      unfold xCal at ec
      split at ec
      · rfl
      · cases ec
    · cases h
  | .dsp es, ck, X, W, x, G, h => by
    rw [isE] at h
    split at h
    · rename_i xs ed
      have p := k_dsp (C := CC P glb wf d) ed ((main_es es G h).fs G)
      refine ⟨p, pt_of p ?_⟩
      unfold xDsp at ed
      split at ed
      · rfl
      · cases ed
    · cases h
  | .dgt e k dd, ck, X, W, x, G, h => by
    rw [isE] at h
    split at h
    · rename_i o y z ed
      rw [Bool.and_eq_true, Bool.and_eq_true] at h
      obtain ⟨h1, h2, h3⟩ := h
      unfold xDgt at ed
      split at ed
      · rename_i o' y' z' hm
        split at ed
        · rename_i hb
          cases ed
          obtain ⟨ap, cp, rfl, hl⟩ := xMeth_some hm
          have hbase : ∀ n env, attributeBase o n env (eval o env) = eval o env := fun n env => by
            cases o <;> first | rfl | cases hb
          have p := k_dgt (C := CC P glb wf d) (ap := ap) (cp := cp) G hl hbase (isE_okX h2) (isE_okX h3) (main_e e G h1).1 (main_e k G h2).1 (main_e dd G h3).1
          exact ⟨p, pt_of p rfl⟩
        · cases ed
      · cases ed
    · cases h
theorem main_es : ∀ (es : List E) {ck : Ck} {X : Cx} {W : WX} {xs : List Expr}, Gd P glb wf d B ck X W → isEs ck es xs = true → PEs (CC P glb wf d) B W X ck xs es
  | [], ck, X, W, xs, G, h => by
    cases xs with
    | nil => exact .nil
    | cons _ _ => rw [isEs] at h; cases h; all_goals simp
  | e :: es, ck, X, W, xs, G, h => by
    cases xs with
    | nil => rw [isEs] at h; cases h; all_goals simp
    | cons x xs =>
      rw [isEs, Bool.and_eq_true] at h
      obtain ⟨p1, p2⟩ := main_e e G h.1
      exact .cons h.1 p1 p2 (main_es es G h.2)
end
end
end MP
namespace MP
open PySem PySem.Spec L2
def fnB (ck : Ck) : Bool := match ck.sc.kind with
  | .function => true
  | _ => false
def compB : Expr → Bool
  | .ListComp _ _ _ _ => true
  | _ => false
def tupB : Expr → Bool
  | .Tuple _ _ _ => true
  | _ => false
def xSetN : Stmt → Option (Expr × Expr)
  | .Assign [t] e _ => some (t, e)
  | _ => none
def xSubI (ck : Ck) (i : Nat) : Expr → Option Expr
  | .Subscript o k _ => if xVar ck i o = true then some k else none
  | _ => none
/-- a target among them that is no plain local -/
def nsN (sc : Scope) : Expr → Bool
  | .Name x _ => !decide (sc.names.lookup x = some .local)
  | _ => true
def nsB (ck : Ck) : Expr → Bool
  | .Tuple ts _ _ => ts.any (nsN ck.sc)
  | _ => false
def locO (ck : Ck) (x : Str) : Bool := decide (ck.sc.names.lookup x = some .local)
def xPar (ck : Ck) : List Nat → Expr → Expr → Bool
  | [i, j], .Tuple [.Name x px, .Name y py] _ _, .Tuple [a, b] _ _ => (decide (ck.N[i]? = some x) && (decide (ck.N[j]? = some y) && (locO ck x && locO ck y))) && ((py.line == px.line) && (!(x == y) && (![a, b].all (foldedForSure 8) && ![a, b].all (constantsAlone 8))))
  | [i, j, l], .Tuple [.Name x px, .Name y py, .Name z pz] _ _, .Tuple [a, b, c] _ _ => (decide (ck.N[i]? = some x) && (decide (ck.N[j]? = some y) && (decide (ck.N[l]? = some z) && (locO ck x && (locO ck y && locO ck z))))) &&
    (((py.line == px.line) && (pz.line == px.line)) && ((!(x == y) && (!(x == z) && !(y == z))) && (![a, b, c].all (foldedForSure 8) && ![a, b, c].all (constantsAlone 8))))
  | _, _, _ => false
def xAug (ck : Ck) (i : Nat) (o : Operator) : Stmt → Option Expr
  | .AugAssign t p y _ => if p = o ∧ xTgt1 ck i t = true then some y else none
  | _ => none
def xExp : Stmt → Option Expr
  | .Expr y _ => some y
  | _ => none
def xM1 (ck : Ck) (i : Nat) (n : Str) (x : Stmt) : Option Expr := match xExp x with
  | some y => (match xMeth n y with
    | some (o, [z]) => if xVar ck i o = true then some z else none
    | _ => none)
  | none => none
def xM2 (ck : Ck) (i : Nat) (n : Str) (x : Stmt) : Option (List Expr) := match xExp x with
  | some y => (match xMeth n y with
    | some (o, [z, w]) => if xVar ck i o = true then some [z, w] else none
    | _ => none)
  | none => none
def xM0 (ck : Ck) (i : Nat) (n : Str) (x : Stmt) : Bool := match xExp x with
  | some y => (match xMeth n y with
    | some (o, []) => xVar ck i o
    | _ => false)
  | none => false
def xRet : Stmt → Option Expr
  | .Return (some y) _ => some y
  | _ => none
def xRetN : Stmt → Bool
  | .Return none _ => true
  | _ => false
def xIf : Stmt → Option (Expr × List Stmt × List Stmt)
  | .If c a b _ => some (c, a, b)
  | _ => none
def xWhl : Stmt → Option (Expr × List Stmt)
  | .While c a [] _ => some (c, a)
  | _ => none
def xFor : Stmt → Option (Expr × Expr × List Stmt)
  | .For t i b [] _ => some (t, i, b)
  | _ => none
def xSt2 (ck : Ck) (i : Nat) : Expr → Option (Expr × Expr)
  | .Tuple [.Subscript o1 a _, .Subscript o2 b _] _ _ => if xVar ck i o1 = true ∧ xVar ck i o2 = true then some (a, b) else none
  | _ => none
def xRse (ck : Ck) (k : Nat) : Stmt → Bool
  | .Raise (some (.Call (.Name x _) [.Constant (.str _) _ _] [] _)) none _ => decide (ck.gn[k]? = some x) && glB ck x
  | _ => false
def xTri (ck : Ck) (k i j : Nat) : Stmt → Option (List Stmt)
  | .Try b [.ExceptHandler (some (.Name x _)) (some n) [.Assign [.Name m _] (.Name n2 _) _] _] [] [] _ =>
    if (n2 = n ∧ ck.gn[k]? = some x ∧ glB ck x = true) ∧ (ck.N[i]? = some n ∧ ck.N[j]? = some m) ∧ (ck.sc.names.lookup n = some .local ∧ ck.ws.names.lookup m = some .local) ∧ ((n == ("__debug__" : Str)) = false ∧ (n == ("__classdict__" : Str)) = false) then some b else none
  | _ => none
mutual
def isS : Ck → S → Stmt → Bool
  | ck, .set i e, x => (match xSetN x with
    | some (t, y) => xTgt1 ck i t && (isE ck e y && fnB ck)
    | none => false)
  | ck, .unp is e, x => (match xSetN x with
    | some (t, y) => isTg ck is true t && (isE ck e y && (!tupB y || nsB ck t))
    | none => false)
  | ck, .par is es, x => (match xSetN x with
    | some (t, y) => (match xTup y with
      | some ys => xPar ck is t y && (isEs ck es ys && fnB ck)
      | none => false)
    | none => false)
  | ck, .aug i o e, x => (match xAug ck i o x with
    | some y => isE ck e y
    | none => false)
  | ck, .sts i k e, x => (match xSetN x with
    | some (t, y) => (match xSubI ck i t with
      | some z => isE ck k z && isE ck e y
      | none => false)
    | none => false)
  | ck, .app i e, x => (match xM1 ck i "append" x with
    | some y => isE ck e y
    | none => false)
  | ck, .ext i e, x => (match xM1 ck i "extend" x with
    | some y => isE ck e y
    | none => false)
  | ck, .ins i k e, x => (match xM2 ck i "insert" x with
    | some ys => isEs ck [k, e] ys
    | none => false)
  | ck, .rvs i, x => xM0 ck i "reverse" x
  | ck, .clr i, x => xM0 ck i "clear" x
  | ck, .exp e, x => (match xExp x with
    | some y => isE ck e y && !compB y
    | none => false)
  | ck, .ret e, x => (match xRet x with
    | some y => isE ck e y
    | none => false)
  | ck, .retn, x => xRetN x
  | ck, .ife c a b, x => (match xIf x with
    | some (p, q, r) => isE ck c p && (isSs ck a q && isSs ck b r)
    | none => false)
  | ck, .whl c b, x => (match xWhl x with
    | some (p, q) => isE ck c p && isSs ck b q
    | none => false)
  | ck, .for tgs tp k es b, x => (match xFor x with
    | some (tg, iter, q) => (match itArgs ck k iter with
      | some xs => isEs ck es xs && (isTg ck tgs tp tg && (pairB k tp && isSs ck b q))
      | none => false)
    | none => false)
  | _, .any, _ => true
  | ck, .rse k, x => xRse ck k x
  | ck, .tri b k i j, x => (match xTri ck k i j x with
    | some q => isSs ck b q
    | none => false)
  | ck, .st2 i a b e, x => (match xSetN x with
    | some (t, y) => (match xSt2 ck i t with
      | some (p, q) => isE ck a p && (isE ck b q && isE ck e y)
      | none => false)
    | none => false)
  | ck, .dst i k e, x => (match xSetN x with
    | some (t, y) => (match xSubI ck i t with
      | some z => isE ck k z && isE ck e y
      | none => false)
    | none => false)
def isSs : Ck → List S → List Stmt → Bool
  | _, [], [] => true
  | ck, s :: ss, x :: xs => isS ck s x && isSs ck ss xs
  | _, _, _ => false
end
def AtS (B : Bg) (W : WX) (F : Hp) (A : Nat → Addr) (σ : L2.St) (L : List Nat) (G : Hp) (r : R Fl) (D : Ends) : Prop := match r with
  | .bad => False
  | .ex x g' => ∀ cls d σ' H' G', XnOk B G' x cls d → Same G G' → Sim B F A σ' H' G' g' → (∀ j, j ∉ L → σ'[j]? = σ[j]?) → W cls d σ' H'
  | .ok .nx g' => ∀ σ' H' G', Same G G' → Sim B F A σ' H' G' g' → (∀ j, j ∉ L → σ'[j]? = σ[j]?) → D.nx σ' H'
  | .ok (.rt fr t) g' => ∀ v σ' H' G', Same G G' → Sim B F A σ' H' G' g' → Res B F σ' H' G' g' fr v t → D.rt v H'
def LfS (B : Bg) (W : WX) (L : List Nat) (m : En → R Fl) : TS := fun D σ H => ∃ F A G g, Sim B F A σ H G g ∧ AtS B W F A σ L G (m g) D
section
variable {B : Bg} {W : WX} {F : Hp} {A : Nat → Addr} {σ σ1 : L2.St} {H G G1 : Hp} {g : En} {L L1 : List Nat} {D : Ends}
theorem AtS.up {r : R Fl} (h : AtS B W F A σ L G r D) (s : Same G G1) (k : ∀ j, j ∉ L → j ∉ L1 ∧ σ1[j]? = σ[j]?) : AtS B W F A σ1 L1 G1 r D := by
  cases r with
  | bad => exact h
  | ex x g' => exact fun cls d σ' H' G' x1 s1 S1 a => h cls d σ' H' G' x1 (s.trans s1) S1 fun j hj => (a j (k j hj).1).trans (k j hj).2
  | ok f g' =>
    cases f with
    | nx => exact fun σ' H' G' s1 S1 a => h σ' H' G' (s.trans s1) S1 fun j hj => (a j (k j hj).1).trans (k j hj).2
    | rt fr t => exact fun v σ' H' G' s1 S1 r1 => h v σ' H' G' (s.trans s1) S1 r1
theorem AtS.here {r : R Fl} (h : AtS B W F A σ L G r D) (s : Same G G1) : AtS B W F A σ L G1 r D := h.up s fun j hj => ⟨hj, rfl⟩
theorem LfS.e {γ δ : Type} {rel1 : Rel γ δ} {m : En → R γ} {f : γ → En → R Fl} {Q1 : δ → Hp → Prop} (S : Sim B F A σ H G g) (h : AtS B W F A σ L G ((m g).bind f) D)
    (k : ∀ a b H' G' g', m g = .ok a g' → Same G G' → Sim B F A σ H' G' g' → rel1 F σ H' G' g' a b → AtS B W F A σ L G' (f a g') D → Q1 b H') : Lf B W m rel1 σ H Q1 := by
  refine ⟨F, A, G, g, S, ?_⟩
  cases e : m g with
  | bad => rw [e] at h; exact h
  | ex x g' => rw [e] at h; exact fun cls d H' G' x1 s1 S1 => h cls d σ H' G' x1 s1 S1 fun _ _ => rfl
  | ok a g' =>
    rw [e] at h
    have h' : AtS B W F A σ L G (f a g') D := h
    exact fun b H' G' s1 S1 r1 => k a b H' G' g' e s1 S1 r1 (h'.here s1)
theorem AtS.set {o : Option En} {σ1 : L2.St} (h : AtS B W F A σ L G (doneS o) D) (S : ∀ g', o = some g' → Sim B F A σ1 H G g') (k : ∀ j, j ∉ L → σ1[j]? = σ[j]?) : D.nx σ1 H := by
  cases o with
  | none => exact h.elim
  | some g' => exact h σ1 H G (Same.refl' G) (S g' rfl) k
/-- the first of two statements -/
theorem LfS.seq {m : En → R Fl} {f : En → R Fl} {L2' : List Nat} (S : Sim B F A σ H G g) (h : AtS B W F A σ L G ((m g).bind fun x g1 => match x with | .nx => f g1 | .rt fr t => .ok (.rt fr t) g1) D)
    (hL : ∀ j, j ∉ L → j ∉ L1 ∧ j ∉ L2') {N : L2.St → Hp → Prop} (hN : ∀ σ' H' G' g', Same G G' → Sim B F A σ' H' G' g' → (∀ j, j ∉ L1 → σ'[j]? = σ[j]?) → AtS B W F A σ' L2' G' (f g') D → N σ' H') (bk ct : L2.St → Hp → Prop) :
    AtS B W F A σ L1 G (m g) { D with nx := N, bk := bk, ct := ct } := by
  cases e : m g with
  | bad => rw [e] at h; exact h
  | ex x g' => rw [e] at h; exact fun cls d σ' H' G' x1 s1 S1 a => h cls d σ' H' G' x1 s1 S1 fun j hj => a j (hL j hj).1
  | ok x g' =>
    rw [e] at h
    cases x with
    | nx =>
      have h : AtS B W F A σ L G (f g') D := h
      exact fun σ' H' G' s1 S1 a => hN σ' H' G' g' s1 S1 a (h.up s1 fun j hj => ⟨(hL j hj).2, a j (hL j hj).1⟩)
    | rt fr t => exact h
end
section
variable {P : List FD} {glb : Nat → Option T} {wf d : Nat} {B : Bg} {ck : Ck} {X : Cx} {W : WX} {C : Cn}
theorem blockKind_fn {env : Env} (hk : env.scope.kind = .function) : env.blockKind = .function := by unfold Env.blockKind; rw [hk]; rfl
theorem sw2 {env : Env} {x y : Str} {px py pt pt2 : Pos} {kt k2 : Nat} {a b : Expr} (hk : env.scope.kind = .function) (hx : env.scope.names.lookup x = some .local) (hy : env.scope.names.lookup y = some .local) (hl : (py.line == px.line) = true) (hn : (x == y) = false)
    (ha : okX a = true) (hb : okX b = true) (hf : [a, b].all (foldedForSure 8) = false) (hc : [a, b].all (constantsAlone 8) = false) :
    swappedStores [.Tuple [.Name x px, .Name y py] kt pt] (.Tuple [a, b] k2 pt2) env = pure (some [x, y]) := by
  have e1 : ∀ z, okX z = true → (match z with | .Starred .. => true | _ => false) = false := fun z h => by cases z <;> first | rfl | cases h
  have kx : env.kindOf x = some .local := hx
  have ky : env.kindOf y = some .local := hy
  have hn' : (y == x) = false := by rw [beq_eq_false_iff_ne] at hn ⊢; exact fun e => hn e.symm
  unfold swappedStores
  rw [blockKind_fn hk]
  simp only [hf, hc]
  simp [kx, ky, Expr.pos, hl, List.eraseDups_cons, hn, hn', List.filterMap_cons, eq_of_beq hl]
  rintro (h | h)
  · exact absurd ((e1 a ha).symm.trans h) Bool.false_ne_true
  · exact absurd ((e1 b hb).symm.trans h) Bool.false_ne_true
theorem sw3 {env : Env} {x y z : Str} {px py pz pt pt2 : Pos} {kt k2 : Nat} {a b c : Expr} (hk : env.scope.kind = .function) (hx : env.scope.names.lookup x = some .local) (hy : env.scope.names.lookup y = some .local) (hz : env.scope.names.lookup z = some .local) (hl : (py.line == px.line) = true) (hl2 : (pz.line == px.line) = true) (hn : (x == y) = false) (hn2 : (x == z) = false) (hn3 : (y == z) = false)
    (ha : okX a = true) (hb : okX b = true) (hcc : okX c = true) (hf : [a, b, c].all (foldedForSure 8) = false) (hc : [a, b, c].all (constantsAlone 8) = false) :
    swappedStores [.Tuple [.Name x px, .Name y py, .Name z pz] kt pt] (.Tuple [a, b, c] k2 pt2) env = pure (some [x, y, z]) := by
  have e1 : ∀ z, okX z = true → (match z with | .Starred .. => true | _ => false) = false := fun z h => by cases z <;> first | rfl | cases h
  have kx : env.kindOf x = some .local := hx
  have ky : env.kindOf y = some .local := hy
  have kz : env.kindOf z = some .local := hz
  have c1 : ∀ {x y : Str}, (x == y) = false → (y == x) = false := fun hn => by rw [beq_eq_false_iff_ne] at hn ⊢; exact fun e => hn e.symm
  unfold swappedStores
  rw [blockKind_fn hk]
  simp only [hf, hc]
  simp [kx, ky, kz, Expr.pos, hl, hl2, List.eraseDups_cons, hn, hn2, hn3, c1 hn, c1 hn2, c1 hn3, List.filterMap_cons, eq_of_beq hl, eq_of_beq hl2]
  rintro (h | h | h)
  · exact absurd ((e1 a ha).symm.trans h) Bool.false_ne_true
  · exact absurd ((e1 b hb).symm.trans h) Bool.false_ne_true
  · exact absurd ((e1 c hcc).symm.trans h) Bool.false_ne_true
theorem fnB_kind (h : fnB ck = true) : ck.sc.kind = .function := by
  unfold fnB at h
  split at h
  · assumption
  · cases h
theorem swap_no {y : Expr} {t : Option Expr} {l : Nat} {env : Env} (h : okX y = true) (hc : compB y = false) : swapsWith y t l env = pure false := by
  cases y <;> first | rfl | (exact absurd h Bool.false_ne_true) | (cases hc; done)
theorem swap_tup {y : Expr} {xs : List Expr} {k : Nat} {p : Pos} {l : Nat} {env : Env} (h : okX y = true) : swapsWith y (some (.Tuple xs k p)) l env = pure false := by
  cases y <;> first | rfl | cases h
theorem swap_sub {y : Expr} {a b : Expr} {p : Pos} {l : Nat} {env : Env} (h : okX y = true) : swapsWith y (some (.Subscript a b p)) l env = pure false := by
  cases y <;> first | rfl | cases h
theorem swapped_no {t y : Expr} {env : Env} (h : tupB y = false) : swappedStores [t] y env = pure none := by
  cases t <;> cases y <;> first | rfl | cases h
theorem filt_less {α β : Type} {f : α → Option β} : ∀ {xs : List α}, (∃ x ∈ xs, f x = none) → (xs.filterMap f).length < xs.length
  | [], ⟨x, hx, _⟩ => by cases hx
  | x :: xs, ⟨y, hy, hn⟩ => by
    rcases List.mem_cons.mp hy with rfl | hy
    · rw [List.filterMap_cons, hn, List.length_cons]
      exact Nat.lt_succ_of_le (List.length_filterMap_le f xs)
    · have ih := filt_less (f := f) ⟨y, hy, hn⟩
      rw [List.filterMap_cons, List.length_cons]
      cases f x with
      | none => exact Nat.lt_succ_of_lt ih
      | some b => exact Nat.succ_lt_succ ih
theorem swapped_ns {ck : Ck} {t y : Expr} {env : Env} (hs : env.scope = ck.sc) (h : nsB ck t = true) : swappedStores [t] y env = pure none := by
  cases t with
  | Tuple ts k p =>
    cases y with
    | Tuple vs k2 p2 =>
      obtain ⟨x, hx, hn⟩ := List.any_eq_true.mp (show ts.any (nsN ck.sc) = true from h)
      unfold swappedStores
      simp only []
      split
      · rfl
      · split
        · rfl
        · rw [if_pos]
          rw [Bool.or_eq_true]
          left
          have := filt_less (f := fun (e : Expr) => match e with
            | .Name id pos => if (env.kindOf id == some .local && pos.line == (ts.head?.map (·.pos.line)).getD 0) = true then some id else none
            | _ => none) ⟨x, hx, by
              cases x with
              | Name id pos =>
                have hk : env.kindOf id ≠ some .local := by
                  have hn : (!decide (ck.sc.names.lookup id = some .local)) = true := hn
                  rw [Bool.not_eq_true', decide_eq_false_iff_not] at hn
                  show env.scope.names.lookup id ≠ _
                  rw [hs]
                  exact hn
                show (if (env.kindOf id == some .local && pos.line == _) = true then some id else none) = none
                rw [if_neg]
                rw [Bool.and_eq_true]
                exact fun z => hk (eq_of_beq z.1)
              | _ => rfl⟩
          exact bne_iff_ne.mpr (Nat.ne_of_lt this)
    | _ => rfl
  | _ => cases h
theorem swapped_sub {a b y : Expr} {p : Pos} {env : Env} : swappedStores [.Subscript a b p] y env = pure none := by
  cases y <;> rfl
/-- what is told by a store of a name -/
theorem set_imp {i : Nat} {e : E} {D : Ends} {σ : L2.St} {H : Hp} (q : LfS B W [i] (evS C (.set i e)) D σ H) : tAsg (Lf B W (ev C e) (relE B)) (gName i) D σ H := by
  obtain ⟨F, A, G, g, S, q⟩ := q
  rw [evS] at q
  refine LfS.e (rel1 := relE B) S q fun r v H1 G1 g1 _ s1 S1 r1 q1 => ?_
  obtain ⟨fr, t⟩ := r
  have off : ∀ j, j ∉ [i] → (σ.set i (some v))[j]? = σ[j]? := fun j hj => List.getElem?_set_ne (fun e => hj (by rw [e]; exact List.mem_singleton_self _))
  cases fr with
  | true =>
    obtain ⟨a, rfl, f, w⟩ := r1
    exact AtS.set q1 (fun g' e => S1.setOw e f w) off
  | false => exact AtS.set q1 (fun g' e => S1.setSh e r1) off
theorem k_set (G : Gd P glb wf d B ck X W) {i : Nat} {e : E} {x : Stmt} (h : isS ck (.set i e) x = true) : PS X x (LfS B W [i] (evS (CC P glb wf d) (.set i e))) := by
  rw [isS] at h
  split at h
  · rename_i t y ex
    unfold xSetN at ex
    split at ex
    · rename_i pos
      cases ex
      rw [Bool.and_eq_true, Bool.and_eq_true] at h
      obtain ⟨h1, h2, h3⟩ := h
      obtain ⟨n, np, rfl, h4, h5⟩ := xTgt1_some h1
      obtain ⟨g1, g2⟩ := G.loc h5
      have pe := (main_e e G h2).1
      have ok := isE_okX h2
      cases hc : compB y with
      | false => exact (ps_set G.nd (by rw [G.hN]; exact h4) g1 pe (swap_no ok hc) g2).imp fun D σ H q => set_imp q
      | true =>
        cases y with
        | ListComp elt gs scope cpos =>
          have hk : X.env.scope.kind = .function := by rw [G.sc]; exact fnB_kind h3
          cases hb : (decide (ck.sc.names.lookup n = some .local) && np.line == cpos.line && !(scope.names.any fun (m, k) => m == n && (k == NameKind.local || k == NameKind.cell))) with
          | false =>
            refine (ps_set G.nd (by rw [G.hN]; exact h4) g1 pe ?_ g2).imp fun D σ H q => set_imp q
            have e : (X.env.blockKind == ScopeKind.function && X.env.kindOf n == some NameKind.local && np.line == cpos.line && !(scope.names.any fun (m, k) => m == n && (k == NameKind.local || k == NameKind.cell))) = false := by
              rw [blockKind_fn hk]
              have e2 : (X.env.kindOf n == some NameKind.local) = decide (ck.sc.names.lookup n = some .local) := by
                show (X.env.scope.names.lookup n == some NameKind.local) = _
                rw [G.sc]
                exact Bool.eq_iff_iff.mpr (by rw [beq_iff_eq, decide_eq_true_iff])
              rw [e2]
              exact hb
            have z : swapsWith (.ListComp elt gs scope cpos) (some (.Name n np)) pos.line X.env = (pure (X.env.blockKind == ScopeKind.function && X.env.kindOf n == some NameKind.local && np.line == cpos.line && !(scope.names.any fun (m, k) => m == n && (k == NameKind.local || k == NameKind.cell))) : Sem Bool) := rfl
            rw [z, e]
          | true =>
            simp only [Bool.and_eq_true, decide_eq_true_eq, Bool.not_eq_true'] at hb
            obtain ⟨⟨b1, b2⟩, b3⟩ := hb
            have hsw : ∀ l, swapsWith (.ListComp elt gs scope cpos) (some (.Name n np)) l X.env = pure true := fun l => sw_true hk (by rw [G.sc]; exact b1) b2 b3
            cases e with
            | comp el tgs tp k es cs own =>
              have h2' := h2
              rw [isE] at h2'
              split at h2'
              · rename_i y' tg iter ifs scope' ee
                split at h2'
                · rename_i xs e2
                  simp only [Bool.and_eq_true] at h2'
                  obtain ⟨z1, z2, z3, z4, z5, z6, z7⟩ := h2'
                  unfold xComp at ee
                  split at ee
                  · rename_i w1 w2 w3 w4 w5 w6 w7
                    cases w7
                    cases ee
                    exact (comp_ps G e2 ((main_es es G z1).os G) z2 z3 z4 z5 (fun X' G' => (main_es cs G' z6).ts) (fun X' G' => (main_e el G' z7).1) h4 b1 (hsw _)).imp fun D σ H q => set_imp q
                  · cases ee
                · cases h2'
              · cases h2'
            | op o es => rw [isE] at h2; cases o <;> cases h2
            | any => exact ⟨fun pins s σ H D I q => by
                obtain ⟨F, A, G0, g, S, q⟩ := q
                rw [evS, ev] at q
                exact q.elim⟩
            | _ => rw [isE] at h2; cases h2
        | _ => cases hc
    · cases ex
  · cases h
end
end MP
namespace MP
open PySem PySem.Spec L2
section
variable {P : List FD} {glb : Nat → Option T} {wf d : Nat} {B : Bg} {ck : Ck} {X : Cx} {W : WX} {C : Cn}
theorem k_unp (G : Gd P glb wf d B ck X W) {is : List Nat} {e : E} {x : Stmt} (h : isS ck (.unp is e) x = true) : PS X x (LfS B W is (evS (CC P glb wf d) (.unp is e))) := by
  rw [isS] at h
  split at h
  · rename_i t y ex
    unfold xSetN at ex
    split at ex
    · cases ex
      rw [Bool.and_eq_true, Bool.and_eq_true, Bool.or_eq_true, Bool.not_eq_true'] at h
      obtain ⟨h1, h2, h3⟩ := h
      have pe := (main_e e G h2).1
      have ok := isE_okX h2
      have pg := G.tg h1
      have ht : ∃ xs k p, t = .Tuple xs k p := by
        cases t <;> first
          | exact ⟨_, _, _, rfl⟩
          | (exact absurd h1 Bool.false_ne_true)
      obtain ⟨txs, tk, tp, rfl⟩ := ht
      refine (ps_asg pe pg (by unfold swapsWithSole; exact swap_tup ok) (h3.elim (fun h3 => swapped_no h3) fun h3 => swapped_ns G.sc h3) (by rfl)).imp fun D σ H q => ?_
      obtain ⟨F, A, G0, g, S, q⟩ := q
      rw [evS] at q
      refine LfS.e (rel1 := relE B) S q fun r v H1 G1 g1 _ s1 S1 r1 q1 => ?_
      obtain ⟨G2, s2, S2, r2⟩ := S1.shareR r1
      have q2 := q1.here s2
      cases ea : tgtF is true r.2 g1 with
      | none => rw [ea] at q2; exact q2.elim
      | some ga =>
        rw [ea] at q2
        exact tgt_at ea S2 (.inl r2) fun σ2 S3 l3 a3 => q2 σ2 H1 G2 (Same.refl' G2) S3 a3
    · cases ex
  · cases h
theorem asgs2 {i j : Nat} {t u : T} {g ga : En} (h : asgs [i, j] [t, u] g = some ga) : ∃ g1, setS g i (.sh t) = some g1 ∧ setS g1 j (.sh u) = some ga := by
  have h' : (setS g i (.sh t)).bind (fun g' => (setS g' j (.sh u)).bind fun g'' => some g'') = some ga := h
  rw [Option.bind_eq_some_iff] at h'
  obtain ⟨g1, e1, e2⟩ := h'
  rw [Option.bind_eq_some_iff] at e2
  obtain ⟨g2, e2, e3⟩ := e2
  cases e3
  exact ⟨g1, e1, e2⟩
theorem asgs3 {i j l : Nat} {t u v : T} {g ga : En} (h : asgs [i, j, l] [t, u, v] g = some ga) : ∃ g1 g2, setS g i (.sh t) = some g1 ∧ setS g1 j (.sh u) = some g2 ∧ setS g2 l (.sh v) = some ga := by
  have h' : (setS g i (.sh t)).bind (fun g' => asgs [j, l] [u, v] g') = some ga := h
  rw [Option.bind_eq_some_iff] at h'
  obtain ⟨g1, e1, e2⟩ := h'
  obtain ⟨g2, e3, e4⟩ := asgs2 e2
  exact ⟨g1, g2, e1, e3, e4⟩
theorem ne_ix {i j : Nat} {x y : Str} {N : List Str} (hi : N[i]? = some x) (hj : N[j]? = some y) (h : (x == y) = false) : i ≠ j := fun e => by
  subst e
  rw [hi] at hj
  cases hj
  rw [beq_self_eq_true] at h
  cases h
theorem k_par (G : Gd P glb wf d B ck X W) {is : List Nat} {es : List E} {x : Stmt} (h : isS ck (.par is es) x = true) : PS X x (LfS B W is (evS (CC P glb wf d) (.par is es))) := by
  rw [isS] at h
  split at h
  · rename_i t y ex
    split at h
    · rename_i ys ey
      unfold xSetN at ex
      split at ex
      · cases ex
        rw [Bool.and_eq_true, Bool.and_eq_true] at h
        obtain ⟨h1, h2, h3⟩ := h
        have hk : X.env.scope.kind = .function := by rw [G.sc]; exact fnB_kind h3
        have ps := (main_es es G h2).fs G
        unfold xPar at h1
        split at h1
        · rename_i i j x px z pz kt pt a b k2 pt2
          simp only [Bool.and_eq_true, decide_eq_true_eq, Bool.not_eq_true', locO] at h1
          obtain ⟨⟨i1, i2, l1, l2⟩, ln, nd, f1, f2⟩ := h1
          cases ey
          have oks : okX a = true ∧ okX b = true := by
            cases ps with
            | cons _ k1 h3 => cases h3 with | cons _ k2 _ => exact ⟨k1, k2⟩
          rw [← G.sc] at l1 l2
          refine (ps_par G.calm G.nd (by rw [G.hN]; exact i1) (by rw [G.hN]; exact i2) (ne_ix i1 i2 nd) l1 l2 ps.args (sw2 hk l1 l2 ln nd oks.1 oks.2 f1 f2) (by rfl)).imp fun D σ H q => ?_
          obtain ⟨F, A, G0, g, S, q⟩ := q
          rw [evS] at q
          refine LfS.e (rel1 := relFs B) S q fun ts vs H1 G1 g1 ee s1 S1 r1 q1 => ?_
          have hl := evFs_len _ _ _ _ ee
          have hes : es.length = 2 := by
            cases ps with
            | cons _ _ h3 => cases h3 with | cons _ _ h4 => cases h4; rfl
          obtain ⟨t1, t2, rfl⟩ := len2 (hl.trans hes)
          cases r1 with
          | cons ra rr =>
          cases rr with
          | cons rb rn =>
          cases rn
          split at q1
          · cases ea : asgs [i, j] [t1, t2] g1 with
            | none => rw [ea] at q1; exact q1.elim
            | some ga =>
              rw [ea] at q1
              obtain ⟨g2, e1, e2⟩ := asgs2 ea
              refine ⟨_, _, rfl, q1 _ _ G1 (Same.refl' G1) ((S1.setSh e1 ra).setSh e2 rb) fun l hl => ?_⟩
              simp only [List.mem_cons, not_or] at hl
              rw [List.getElem?_set_ne (fun e => hl.2.1 e.symm), List.getElem?_set_ne (fun e => hl.1 e.symm)]
          · exact q1.elim
        · rename_i i j l x px z pz u pu kt pt a b c k2 pt2
          simp only [Bool.and_eq_true, decide_eq_true_eq, Bool.not_eq_true', locO] at h1
          obtain ⟨⟨i1, i2, i3, l1, l2, l3⟩, ⟨ln, ln2⟩, ⟨nd, nd2, nd3⟩, f1, f2⟩ := h1
          cases ey
          have oks : okX a = true ∧ okX b = true ∧ okX c = true := by
            cases ps with
            | cons _ k1 h3 => cases h3 with | cons _ k2 h4 => cases h4 with | cons _ k3 _ => exact ⟨k1, k2, k3⟩
          rw [← G.sc] at l1 l2 l3
          refine (ps_par3 G.calm G.nd (by rw [G.hN]; exact i1) (by rw [G.hN]; exact i2) (by rw [G.hN]; exact i3) (ne_ix i1 i2 nd) (ne_ix i1 i3 nd2) (ne_ix i2 i3 nd3) l1 l2 l3 ps.args (sw3 hk l1 l2 l3 ln ln2 nd nd2 nd3 oks.1 oks.2.1 oks.2.2 f1 f2) (by rfl)).imp fun D σ H q => ?_
          obtain ⟨F, A, G0, g, S, q⟩ := q
          rw [evS] at q
          refine LfS.e (rel1 := relFs B) S q fun ts vs H1 G1 g1 ee s1 S1 r1 q1 => ?_
          have hl := evFs_len _ _ _ _ ee
          have hes : es.length = 3 := by
            cases ps with
            | cons _ _ h3 => cases h3 with | cons _ _ h4 => cases h4 with | cons _ _ h5 => cases h5; rfl
          obtain ⟨t1, t2, t3, rfl⟩ := len3 (hl.trans hes)
          cases r1 with
          | cons ra rr =>
          cases rr with
          | cons rb rn =>
          cases rn with
          | cons rc rn =>
          cases rn
          split at q1
          · cases ea : asgs [i, j, l] [t1, t2, t3] g1 with
            | none => rw [ea] at q1; exact q1.elim
            | some ga =>
              rw [ea] at q1
              obtain ⟨g2, g3, e1, e2, e3⟩ := asgs3 ea
              refine ⟨_, _, _, rfl, q1 _ _ G1 (Same.refl' G1) (((S1.setSh e1 ra).setSh e2 rb).setSh e3 rc) fun m hl => ?_⟩
              simp only [List.mem_cons, not_or] at hl
              rw [List.getElem?_set_ne (fun e => hl.2.2.1 e.symm), List.getElem?_set_ne (fun e => hl.2.1 e.symm), List.getElem?_set_ne (fun e => hl.1 e.symm)]
          · exact q1.elim
        · cases h1
      · cases ex
    · cases h
  · cases h
theorem aug_ok {o : Operator} {a b z : T} {x y : V} {H G : Hp} {Q : VK} (h : augF o a b = some z) (ra : Rp B G x a) (rb : Rp B G y b) (k : ∀ v, Rp B G v z → Q v H) : rIbin o x y H Q := by
  have key : o ≠ .Pow → ∃ i j r, a = .int i ∧ b = .int j ∧ binF o (.int i) (.int j) = some r ∧ r.2 = z := fun hp => by
    unfold augF at h
    split at h
    · exact absurd rfl hp
    · rename_i i j _
      obtain ⟨r, h1, h2⟩ := Option.map_eq_some_iff.mp h
      exact ⟨i, j, r, rfl, rfl, h1, h2⟩
    · cases h
  by_cases hp : o = .Pow
  · subst hp; cases h
  obtain ⟨i, j, r, rfl, rfl, h1, rfl⟩ := key hp
  cases ra
  cases rb
  cases o with
  | Add => cases h1; exact ⟨i, j, rfl, rfl, k _ (.int _)⟩
  | Sub => cases h1; exact ⟨i, j, rfl, rfl, k _ (.int _)⟩
  | Mult =>
    replace h1 : (if okInt i || okInt j then some (false, T.int (i * j)) else none) = some r := h1
    split at h1
    · rename_i hz; cases h1; exact ⟨i, j, rfl, rfl, okInt_of hz, k _ (.int _)⟩
    · cases h1
  | FloorDiv =>
    replace h1 : (if 0 < j ∧ j.natAbs < 1180591620717411303424 then some (false, T.int (i / j)) else none) = some r := h1
    split at h1
    · rename_i hz; cases h1; exact ⟨i, j, rfl, rfl, (by first | exact fdivW hz | exact hz | exact ⟨hz.1, by omega⟩ | exact ⟨hz.1, by omega, hz.2.2⟩), k _ (.int _)⟩
    · cases h1
  | Mod =>
    replace h1 : (if 0 < j then some (false, T.int (i % j)) else none) = some r := h1
    split at h1
    · rename_i hz; cases h1; exact ⟨i, j, rfl, rfl, (by first | exact hz | exact ⟨hz.1, by omega⟩ | exact ⟨hz.1, by omega, hz.2.2⟩), k _ (.int _)⟩
    · cases h1
  | LShift =>
    replace h1 : (if 0 ≤ j ∧ j.natAbs ≤ 1000000 ∧ i.natAbs < 2 ^ 64 then some (false, T.int (i * 2 ^ j.toNat)) else none) = some r := h1
    split at h1
    · rename_i hz; cases h1; exact ⟨i, j, rfl, rfl, (by first | exact hz | exact ⟨hz.1, by omega⟩ | exact ⟨hz.1, by omega, hz.2.2⟩), k _ (.int _)⟩
    · cases h1
  | RShift =>
    replace h1 : (if 0 ≤ j then some (false, T.int (i / 2 ^ j.toNat)) else none) = some r := h1
    split at h1
    · rename_i hz; cases h1; exact ⟨i, j, rfl, rfl, (by first | exact hz | exact ⟨hz.1, by omega⟩ | exact ⟨hz.1, by omega, hz.2.2⟩), k _ (.int _)⟩
    · cases h1
  | BitAnd => cases h1; exact ⟨i, j, rfl, rfl, k _ (.int _)⟩
  | BitOr => cases h1; exact ⟨i, j, rfl, rfl, k _ (.int _)⟩
  | BitXor => cases h1; exact ⟨i, j, rfl, rfl, k _ (.int _)⟩
  | Pow => exact absurd rfl hp
  | _ => cases h1
theorem off1 {i : Nat} {σ : L2.St} {v : Option V} : ∀ j, j ∉ [i] → (σ.set i v)[j]? = σ[j]? := fun j hj => List.getElem?_set_ne (fun e => hj (by rw [e]; exact List.mem_singleton_self _))
theorem k_aug (G : Gd P glb wf d B ck X W) {i : Nat} {o : Operator} {e : E} {x : Stmt} (h : isS ck (.aug i o e) x = true) : PS X x (LfS B W [i] (evS (CC P glb wf d) (.aug i o e))) := by
  rw [isS] at h
  split at h
  · rename_i y ex
    unfold xAug at ex
    split at ex
    · split at ex
      · rename_i hc
        cases ex
        obtain ⟨rfl, h1⟩ := hc
        obtain ⟨n, np, rfl, h4, h5⟩ := xTgt1_some h1
        obtain ⟨g1, g2⟩ := G.loc h5
        have pe := (main_e e G h).1
        refine (ps_aug G.nd (by rw [G.hN]; exact h4) g1 pe (op_ibin _) g2).imp fun D σ H q => ?_
        obtain ⟨F, A, G0, g, S, q⟩ := q
        rw [evS] at q
        split at q
        · rename_i a ea
          obtain ⟨v, h6, h7⟩ := S.at_ i _ ea
          refine ⟨v, h6, ?_⟩
          refine LfS.e (rel1 := relE B) S q fun r w H1 G1 g1 _ s1 S1 r1 q1 => ?_
          obtain ⟨G2, s2, S2, r2⟩ := S1.shareR r1
          have q2 := q1.here s2
          split at q2
          · rename_i z ez
            refine aug_ok ez (h7.mono (s1.trans s2)) r2 fun u ru => ?_
            exact AtS.set q2 (fun g' eg => S2.setSh eg ru) off1
          · exact q2.elim
        · exact q.elim
      · cases ex
    · cases ex
  · cases h
theorem asg_sub {o z : Expr} {pos : Pos} {env : Env} (h : okX z = true) (v : Value) : assign (.Subscript o z pos) env v = (do
    let ov ← holding [v] (eval o env)
    let iv ← holding [v, ov] (eval z env)
    standAt pos
    holding [v, ov, iv] (setItem ov iv v)
    release [v, ov, iv] []) := by
  cases z <;> first | rfl | cases h
theorem k_sts (G : Gd P glb wf d B ck X W) {i : Nat} {k e : E} {x : Stmt} (h : isS ck (.sts i k e) x = true) : PS X x (LfS B W [] (evS (CC P glb wf d) (.sts i k e))) := by
  rw [isS] at h
  split at h
  · rename_i t y ex
    split at h
    · rename_i z ez
      unfold xSetN at ex
      split at ex
      · cases ex
        rw [Bool.and_eq_true] at h
        have pk := (main_e k G h.1).1
        have pe := (main_e e G h.2).1
        have ok := isE_okX h.2
        unfold xSubI at ez
        split at ez
        · split at ez
          · rename_i hv
            cases ez
            refine (ps_asg pe (pg_sub (G.pvar hv) pk set_list (asg_sub (isE_okX h.1))) (by unfold swapsWithSole; exact swap_sub ok) swapped_sub (by rfl)).imp fun D σ H q => ?_
            obtain ⟨F, A, G0, g, S, q⟩ := q
            rw [evS] at q
            refine LfS.e (rel1 := relE B) S q fun r v H1 G1 g1 _ s1 S1 r1 q1 => ?_
            obtain ⟨G2, s2, S2, r2⟩ := S1.shareR r1
            have q2 := q1.here s2
            split at q2
            · rename_i hb
              obtain ⟨ts0, e0⟩ := lstB_some hb
              obtain ⟨a, vs0, h1, _⟩ := lst_own S2 e0
              refine ⟨_, h1, ?_⟩
              refine LfS.e (rel1 := relE B) S2 q2 fun r3 v3 H3 G3 g3 _ s3 S3 r3' q3 => ?_
              split at q3
              · rename_i ts n eo en
                have ev3 : v3 = .int n := by
                  obtain ⟨fr, t3⟩ := r3
                  have en : t3 = .int n := en
                  subst en
                  unfold relE Res at r3'
                  cases fr with
                  | false => cases r3'; rfl
                  | true => obtain ⟨_, _, _, w⟩ := r3'; cases w
                split at q3
                · rename_i m em
                  obtain ⟨a', vs, k1, k2, k3, k4⟩ := lst_own S3 eo
                  rw [h1] at k1; cases k1
                  refine ⟨a, vs, n, m, rfl, ev3, k2, by rw [k3.length]; exact em, ?_⟩
                  refine AtS.set q3 (fun g' eg => S3.put eg h1 (.lst upd_same (RpL.set (r2.mono s3) m k3) (by rw [List.length_set]; exact k4))) fun _ _ => rfl
                · exact q3.elim
              · exact q3.elim
            · exact q2.elim
          · cases ez
        · cases ez
      · cases ex
    · cases h
  · cases h
theorem xM1_some {i : Nat} {n : Str} {x : Stmt} {z : Expr} (h : xM1 ck i n x = some z) : ∃ o ap cp pos, x = .Expr (.Call (.Attribute o n ap) [z] [] cp) pos ∧ (ap.endLine == cp.line) = true ∧ xVar ck i o = true := by
  unfold xM1 at h
  split at h
  · rename_i y ey
    split at h
    · rename_i o z' hm
      split at h
      · rename_i hv
        cases h
        obtain ⟨ap, cp, rfl, hl⟩ := xMeth_some hm
        unfold xExp at ey
        split at ey
        · cases ey; exact ⟨o, ap, cp, _, rfl, hl, hv⟩
        · cases ey
      · cases h
    · cases h
  · cases h
theorem xM0_some {i : Nat} {n : Str} {x : Stmt} (h : xM0 ck i n x = true) : ∃ o ap cp pos, x = .Expr (.Call (.Attribute o n ap) [] [] cp) pos ∧ (ap.endLine == cp.line) = true ∧ xVar ck i o = true := by
  unfold xM0 at h
  split at h
  · rename_i y ey
    split at h
    · rename_i o hm
      obtain ⟨ap, cp, rfl, hl⟩ := xMeth_some hm
      unfold xExp at ey
      split at ey
      · cases ey; exact ⟨o, ap, cp, _, rfl, hl, h⟩
      · cases ey
    · cases h
  · cases h
theorem k_app (G : Gd P glb wf d B ck X W) {i : Nat} {e : E} {x : Stmt} (h : isS ck (.app i e) x = true) : PS X x (LfS B W [] (evS (CC P glb wf d) (.app i e))) := by
  rw [isS] at h
  split at h
  · rename_i z ez
    obtain ⟨o, ap, cp, pos, rfl, hl, hv⟩ := xM1_some ez
    have pe := (main_e e G h).1
    have kz := isE_okX h
    refine (ps_expr (pe_bm PySem.F.plainAttrs_list PySem.F.slot_list_append PySem.F.type_list_append mt_append (G.pvar hv) (pa_cons pe pa_nil (star_of kz _ _)) (xVar_base hv _ _) (by rw [star_of kz]; rfl) hl (star_of kz _ _) (by rfl)) (by rfl)).imp fun D σ H q => ?_
    obtain ⟨F, A, G0, g, S, q⟩ := q
    rw [evS] at q
    split at q
    · rename_i hb
      obtain ⟨a, h1, h2⟩ := lst_ty S hb G.hK
      refine ⟨_, h1, h2, ?_⟩
      refine LfS.e (rel1 := relE B) S q fun r v H1 G1 g1 _ s1 S1 r1 q1 => ?_
      obtain ⟨G2, s2, S2, r2⟩ := S1.shareR r1
      have q2 := q1.here s2
      split at q2
      · rename_i ts eo
        split at q2
        · rename_i hz
          obtain ⟨a', vs, k1, k2, k3, k4⟩ := lst_own S2 eo
          rw [h1] at k1; cases k1
          refine ⟨a, vs, v, rfl, rfl, k2, by rw [k3.length]; exact hz, ?_⟩
          exact AtS.set q2 (fun g' eg => S2.put eg h1 (.lst upd_same (k3.snoc r2) (by rw [List.length_append]; exact hz))) fun _ _ => rfl
        · exact q2.elim
      · exact q2.elim
    · exact q.elim
  · cases h
theorem xM2_some {i : Nat} {n : Str} {x : Stmt} {ys : List Expr} (h : xM2 ck i n x = some ys) : ∃ o z w ap cp pos, ys = [z, w] ∧ x = .Expr (.Call (.Attribute o n ap) [z, w] [] cp) pos ∧ (ap.endLine == cp.line) = true ∧ xVar ck i o = true := by
  unfold xM2 at h
  split at h
  · rename_i y ey
    split at h
    · rename_i o z w hm
      split at h
      · rename_i hv
        cases h
        obtain ⟨ap, cp, rfl, hl⟩ := xMeth_some hm
        unfold xExp at ey
        split at ey
        · cases ey; exact ⟨o, z, w, ap, cp, _, rfl, rfl, hl, hv⟩
        · cases ey
      · cases h
    · cases h
  · cases h
theorem k_ins (G : Gd P glb wf d B ck X W) {i : Nat} {k e : E} {x : Stmt} (h : isS ck (.ins i k e) x = true) : PS X x (LfS B W [] (evS (CC P glb wf d) (.ins i k e))) := by
  rw [isS] at h
  split at h
  · rename_i ys ez
    obtain ⟨o, z, w, ap, cp, pos, rfl, rfl, hl, hv⟩ := xM2_some ez
    have ps := (main_es [k, e] G h).fs G
    obtain ⟨p1, kz, p2, kw⟩ : PE X z (Lf B W (evF (CC P glb wf d) k) (relF B)) ∧ okX z = true ∧ PE X w (Lf B W (evF (CC P glb wf d) e) (relF B)) ∧ okX w = true := by
      cases ps with
      | cons h1 h2 h3 =>
        cases h3 with
        | cons h4 h5 h6 => exact ⟨h1, h2, h4, h5⟩
    refine (ps_expr (pe_bm PySem.F.plainAttrs_list PySem.F.slot_list_insert PySem.F.type_list_insert mt_insert (G.pvar hv) (PFs.args (.cons p1 kz (.cons p2 kw .nil))) (xVar_base hv _ _) (by rw [star_of kz, star_of kw]; rfl) hl (star_of kz _ _) (by rw [star_of kw]; rfl)) (by rfl)).imp fun D σ H q => ?_
    obtain ⟨F, A, G0, g, S, q⟩ := q
    rw [evS] at q
    split at q
    · rename_i hb
      obtain ⟨a, h1, h2⟩ := lst_ty S hb G.hK
      refine ⟨_, h1, h2, ?_⟩
      refine LfS.e (rel1 := relFs B) S q fun us vs H1 G1 g1 ee s1 S1 r1 q1 => ?_
      unfold insS at q1
      split at q1
      · rename_i ts n t eo
        cases r1 with
        | cons rn r2 =>
        cases r2 with
        | cons rv r3 =>
        cases r3
        cases rn
        split at q1
        · rename_i hz
          obtain ⟨a', ws, k1, k2, k3, k4⟩ := lst_own S1 eo
          rw [h1] at k1; cases k1
          refine ⟨a, ws, n, _, rfl, rfl, k2, by rw [k3.length]; exact hz.2.2, hz.1, by omega, ?_⟩
          exact AtS.set q1 (fun g' eg => S1.put eg h1 (.lst upd_same (((k3.take n.toNat).snoc rv).app (k3.drop n.toNat)) (by rw [List.length_append, List.length_append, List.length_take, List.length_drop, List.length_singleton]; omega))) fun _ _ => rfl
        · exact q1.elim
      · exact q1.elim
    · exact q.elim
  · cases h
theorem k_ext (G : Gd P glb wf d B ck X W) {i : Nat} {e : E} {x : Stmt} (h : isS ck (.ext i e) x = true) : PS X x (LfS B W [] (evS (CC P glb wf d) (.ext i e))) := by
  rw [isS] at h
  split at h
  · rename_i z ez
    obtain ⟨o, ap, cp, pos, rfl, hl, hv⟩ := xM1_some ez
    have pe := (main_e e G h).1
    have kz := isE_okX h
    refine (ps_expr (pe_bm PySem.F.plainAttrs_list PySem.F.slot_list_extend PySem.F.type_list_extend mt_extend (G.pvar hv) (pa_cons pe pa_nil (star_of kz _ _)) (xVar_base hv _ _) (by rw [star_of kz]; rfl) hl (star_of kz _ _) (by rfl)) (by rfl)).imp fun D σ H q => ?_
    obtain ⟨F, A, G0, g, S, q⟩ := q
    rw [evS] at q
    split at q
    · rename_i hb
      obtain ⟨a, h1, h2⟩ := lst_ty S hb G.hK
      refine ⟨_, h1, h2, ?_⟩
      refine LfS.e (rel1 := relE B) S q fun r v H1 G1 g1 _ s1 S1 r1 q1 => ?_
      obtain ⟨G2, s2, S2, r2⟩ := S1.shareR r1
      have q2 := q1.here s2
      split at q2
      · rename_i ts us eo eu
        split at q2
        · rename_i hz
          obtain ⟨a', vs, k1, k2, k3, k4⟩ := lst_own S2 eo
          rw [h1] at k1; cases k1
          rw [eu] at r2
          cases r2 with
          | lst j1 j2 j3 =>
            refine ⟨a, _, vs, _, rfl, rfl, k2, S2.sub _ _ j1, by rw [k3.length, j2.length]; exact hz, ?_⟩
            exact AtS.set q2 (fun g' eg => S2.put eg h1 (.lst upd_same (k3.app j2) (by rw [List.length_append]; exact hz))) fun _ _ => rfl
        · exact q2.elim
      · exact q2.elim
    · exact q.elim
  · cases h
theorem k_rvs (G : Gd P glb wf d B ck X W) {i : Nat} {x : Stmt} (h : isS ck (.rvs i) x = true) : PS X x (LfS B W [] (evS (CC P glb wf d) (.rvs i))) := by
  rw [isS] at h
  obtain ⟨o, ap, cp, pos, rfl, hl, hv⟩ := xM0_some h
  refine (ps_expr (pe_bm0 PySem.F.plainAttrs_list PySem.F.slot_list_reverse PySem.F.type_list_reverse mt_reverse (G.pvar hv) (xVar_base hv _ _) hl) (by rfl)).imp fun D σ H q => ?_
  obtain ⟨F, A, G0, g, S, q⟩ := q
  rw [evS] at q
  split at q
  · rename_i ts eo
    obtain ⟨a, vs, k1, k2, k3, k4⟩ := lst_own S eo
    refine ⟨_, k1, .inl ⟨rfl, vs, .inl (.inl k2)⟩, a, vs, rfl, rfl, k2, ?_⟩
    exact AtS.set q (fun g' eg => S.put eg k1 (.lst upd_same k3.rev (by rw [List.length_reverse]; exact k4))) fun _ _ => rfl
  · exact q.elim
theorem k_clr (G : Gd P glb wf d B ck X W) {i : Nat} {x : Stmt} (h : isS ck (.clr i) x = true) : PS X x (LfS B W [] (evS (CC P glb wf d) (.clr i))) := by
  rw [isS] at h
  obtain ⟨o, ap, cp, pos, rfl, hl, hv⟩ := xM0_some h
  refine (ps_expr (pe_bm0 PySem.F.plainAttrs_list PySem.F.slot_list_clear PySem.F.type_list_clear mt_clear (G.pvar hv) (xVar_base hv _ _) hl) (by rfl)).imp fun D σ H q => ?_
  obtain ⟨F, A, G0, g, S, q⟩ := q
  rw [evS] at q
  split at q
  · rename_i ts eo
    obtain ⟨a, vs, k1, k2, k3, k4⟩ := lst_own S eo
    refine ⟨_, k1, .inl ⟨rfl, vs, .inl (.inl k2)⟩, a, vs, rfl, rfl, k2, ?_⟩
    exact AtS.set q (fun g' eg => S.put eg k1 (.lst upd_same .nil (Nat.zero_le _))) fun _ _ => rfl
  · exact q.elim
theorem k_exp (G : Gd P glb wf d B ck X W) {e : E} {x : Stmt} (h : isS ck (.exp e) x = true) : PS X x (LfS B W [] (evS (CC P glb wf d) (.exp e))) := by
  rw [isS] at h
  split at h
  · rename_i y ey
    rw [Bool.and_eq_true, Bool.not_eq_true'] at h
    unfold xExp at ey
    split at ey
    · cases ey
      refine (ps_expr (main_e e G h.1).1 (swap_no (isE_okX h.1) h.2)).imp fun D σ H q => ?_
      obtain ⟨F, A, G0, g, S, q⟩ := q
      rw [evS] at q
      exact LfS.e (rel1 := relE B) S q fun r v H1 G1 g1 _ s1 S1 r1 q1 => q1 σ H1 G1 (Same.refl' G1) S1 fun _ _ => rfl
    · cases ey
  · cases h
/-- a name forgotten -/
theorem Sim.drop {F : Hp} {A : Nat → Addr} {σ : L2.St} {H G : Hp} {g : En} (S : Sim B F A σ H G g) (i : Nat) : Sim B F A σ H G (g.set i .un) := by
  have tr : ∀ j : Nat, Own (g.set i .un)[j]? → j ≠ i ∧ Own g[j]? := fun j hj => by
    rw [getElem?_set'] at hj
    by_cases hji : i = j
    · subst hji
      rw [if_pos rfl] at hj
      split at hj <;> exact hj.elim
    · rw [if_neg hji] at hj; exact ⟨Ne.symm hji, hj⟩
  refine ⟨S.sub, S.frn, ?_, fun j s e => ?_, fun j k hj hk e => S.sep j k (tr j hj).2 (tr k hk).2 e⟩
  · rw [List.length_set]; exact S.len
  · rw [getElem?_set'] at e
    by_cases hj : i = j
    · rw [if_pos hj] at e
      split at e
      · cases e; trivial
      · cases e
    · rw [if_neg hj] at e
      exact S.at_ j s e
theorem ret_pe (G : Gd P glb wf d B ck X W) {e : E} {x : Expr} (h : isE ck e x = true) : PE X x (Lf B W (retE (CC P glb wf d) e) (relE B)) := by
  have pe := (main_e e G h).1
  by_cases hv : ∃ i, e = .var i
  · obtain ⟨i, rfl⟩ := hv
    have hx : xVar ck i x = true := by simpa [isE] using h
    refine ⟨fun pins s σ H Q I q => ?_⟩
    obtain ⟨F, A, G0, g, S, q⟩ := q
    have q : At B W F A σ G0 (match g[i]? with
      | some (.ow t) => MP.R.ok (true, t) (g.set i .un)
      | _ => ev (CC P glb wf d) (.var i) g) (relE B) Q := q
    split at q
    · rename_i t e
      obtain ⟨a, h1, h2, h3, h4⟩ := S.at_ i _ e
      refine (G.pvar hx).run pins s σ H Q I ⟨_, h1, ?_⟩
      refine At.done q (S.drop i) ⟨a, rfl, ⟨h2, h3, fun j hj e2 => ?_⟩, h4⟩
      rw [getElem?_set'] at hj
      by_cases hji : i = j
      · rw [if_pos hji] at hj
        split at hj <;> exact hj.elim
      · rw [if_neg hji] at hj
        exact hji (S.sep i j (by rw [e]; trivial) hj (h1.trans e2.symm))
    · exact pe.run pins s σ H Q I ⟨F, A, G0, g, S, q⟩
  · refine pe.imp fun σ H Q q => ?_
    obtain ⟨F, A, G0, g, S, q⟩ := q
    refine ⟨F, A, G0, g, S, ?_⟩
    cases e <;> first
      | exact q
      | exact absurd ⟨_, rfl⟩ hv
theorem k_ret (G : Gd P glb wf d B ck X W) {e : E} {x : Stmt} (h : isS ck (.ret e) x = true) : PS X x (LfS B W [] (evS (CC P glb wf d) (.ret e))) := by
  rw [isS] at h
  split at h
  · rename_i y ey
    unfold xRet at ey
    split at ey
    · cases ey
      refine (ps_ret (ret_pe G h)).imp fun D σ H q => ?_
      obtain ⟨F, A, G0, g, S, q⟩ := q
      rw [evS] at q
      exact LfS.e (rel1 := relE B) S q fun r v H1 G1 g1 _ s1 S1 r1 q1 => q1 v σ H1 G1 (Same.refl' G1) S1 r1
    · cases ey
  · cases h
theorem k_retn {x : Stmt} (h : isS ck .retn x = true) : PS X x (LfS B W [] (evS C .retn)) := by
  rw [isS] at h
  unfold xRetN at h
  split at h
  · refine ps_retN.imp fun D σ H q => ?_
    obtain ⟨F, A, G0, g, S, q⟩ := q
    rw [evS] at q
    exact q .non σ H G0 (Same.refl' G0) S .non
  · cases h
theorem res_int {F : Hp} {σ : L2.St} {H G : Hp} {g : En} {fr : Bool} {v : V} {n : Int} (r : Res B F σ H G g fr v (.int n)) : v = .int n := by
  unfold Res at r
  cases fr with
  | false => cases r; rfl
  | true => obtain ⟨_, _, _, w⟩ := r; cases w
theorem res_key {F : Hp} {σ : L2.St} {H G : Hp} {g : En} {fr : Bool} {v : V} {t : T} (r : Res B F σ H G g fr v t) (f : t.keyB = true) : ∃ k : Key, v = kV k ∧ t = keyT k := by
  unfold Res at r
  cases fr with
  | false => exact RpX.key (H := H) (.inl r) f
  | true => obtain ⟨_, _, _, w⟩ := r; cases w <;> cases f
theorem stL_at {F : Hp} {A : Nat → Addr} {σ : L2.St} {H G : Hp} {g g' : En} {i : Nat} {j t : T} {fr : Bool} {v u : V} (S : Sim B F A σ H G g) (h : stL g i j t = some g') (rj : Res B F σ H G g fr v j) (ru : Rp B G u t) :
    ∃ a vs n m, σ[i]? = some (some (.ref a)) ∧ v = .int n ∧ H a = some (.lst vs) ∧ ixN vs.length n = some m ∧ Sim B F A σ (upd H a (.lst (vs.set m u))) G g' := by
  unfold stL at h
  split at h
  · rename_i xs n e
    rw [Option.bind_eq_some_iff] at h
    obtain ⟨m, em, h⟩ := h
    obtain ⟨a, vs, k1, k2, k3, k4⟩ := lst_own S e
    exact ⟨a, vs, n, m, k1, res_int rj, k2, by rw [k3.length]; exact em, S.put h k1 (.lst upd_same (RpL.set ru m k3) (by rw [List.length_set]; exact k4))⟩
  · cases h
theorem stD_at {F : Hp} {A : Nat → Addr} {σ : L2.St} {H G : Hp} {g g' : En} {i : Nat} {k t : T} {fr : Bool} {v u : V} (S : Sim B F A σ H G g) (h : stD g i k t = some g') (rj : Res B F σ H G g fr v k) (ru : Rp B G u t) :
    ∃ a H', σ[i]? = some (some (.ref a)) ∧ DPut H a v u H' ∧ Sim B F A σ H' G g' := by
  unfold stD at h
  split at h
  · rename_i kvs e
    split at h
    · rename_i hc
      rw [Bool.and_eq_true, decide_eq_true_eq] at hc
      obtain ⟨a, h1, _, _, w⟩ := S.ownAt e
      obtain ⟨kk, rfl, rfl⟩ := res_key rj hc.1
      cases w with
      | dct k1 k2 => exact ⟨a, _, h1, DPut.k k1 (by rw [k2.length]; exact hc.2), S.put h h1 (.dct upd_same (k2.put ru))⟩
    · cases h
  · cases h
theorem k_dst (G : Gd P glb wf d B ck X W) {i : Nat} {k e : E} {x : Stmt} (h : isS ck (.dst i k e) x = true) : PS X x (LfS B W [] (evS (CC P glb wf d) (.dst i k e))) := by
  rw [isS] at h
  split at h
  · rename_i t y ex
    split at h
    · rename_i z ez
      unfold xSetN at ex
      split at ex
      · cases ex
        rw [Bool.and_eq_true] at h
        have pk := (main_e k G h.1).1
        have pe := (main_e e G h.2).1
        have ok := isE_okX h.2
        unfold xSubI at ez
        split at ez
        · split at ez
          · rename_i hv
            cases ez
            refine (ps_asg pe (pg_sub (G.pvar hv) pk (MPS.set_dictc (by have := G.un; omega)) (asg_sub (isE_okX h.1))) (by unfold swapsWithSole; exact swap_sub ok) swapped_sub (by rfl)).imp fun D σ H q => ?_
            obtain ⟨F, A, G0, g, S, q⟩ := q
            rw [evS] at q
            refine LfS.e (rel1 := relE B) S q fun r v H1 G1 g1 _ s1 S1 r1 q1 => ?_
            obtain ⟨G2, s2, S2, r2⟩ := S1.shareR r1
            have q2 := q1.here s2
            split at q2
            · rename_i kvs e0
              obtain ⟨a, h1, _⟩ := S2.ownAt e0
              refine ⟨_, h1, ?_⟩
              refine LfS.e (rel1 := relE B) S2 q2 fun r3 v3 H3 G3 g3 _ s3 S3 r3' q3 => ?_
              cases ed : stD g3 i r3.2 r.2 with
              | none => rw [ed] at q3; exact q3.elim
              | some g4 =>
                rw [ed] at q3
                obtain ⟨a', H4, k1, k2, k3⟩ := stD_at S3 ed r3' (r2.mono s3)
                rw [h1] at k1
                cases k1
                exact ⟨a, H4, rfl, k2, q3 σ H4 G3 (Same.refl' G3) k3 fun _ _ => rfl⟩
            · exact q2.elim
          · cases ez
        · cases ez
      · cases ex
    · cases h
  · cases h
theorem k_st2 (G : Gd P glb wf d B ck X W) {i : Nat} {a b e : E} {x : Stmt} (h : isS ck (.st2 i a b e) x = true) : PS X x (LfS B W [] (evS (CC P glb wf d) (.st2 i a b e))) := by
  rw [isS] at h
  split at h
  · rename_i t y ex
    split at h
    · rename_i za zb ez
      unfold xSetN at ex
      split at ex
      · cases ex
        rw [Bool.and_eq_true, Bool.and_eq_true] at h
        have pa := (main_e a G h.1).1
        have pb := (main_e b G h.2.1).1
        have pe := (main_e e G h.2.2).1
        have ok := isE_okX h.2.2
        unfold xSt2 at ez
        split at ez
        · split at ez
          · rename_i hv
            cases ez
            refine (ps_asg pe (pg_tup G.calm (pgs_cons (pg_sub (G.pvar hv.1) pa set_list (asg_sub (isE_okX h.1))) (pgs_cons (pg_sub (G.pvar hv.2) pb set_list (asg_sub (isE_okX h.2.1))) pgs_nil (by rfl)) (by rfl)) (by rfl) (by rfl)) (by unfold swapsWithSole; exact swap_tup ok) (swapped_ns G.sc rfl) (by rfl)).imp fun D σ H q => ?_
            obtain ⟨F, A, G0, g, S, q⟩ := q
            rw [evS] at q
            refine LfS.e (rel1 := relE B) S q fun r v H1 G1 g1 _ s1 S1 r1 q1 => ?_
            obtain ⟨G2, s2, S2, r2⟩ := S1.shareR r1
            have q2 := q1.here s2
            cases e2 : two2 r.2 with
            | none => rw [e2] at q2; exact q2.elim
            | some p =>
              rw [e2] at q2
              have er : r.2 = .tup [p.1, p.2] := by
                unfold two2 at e2
                split at e2
                · rename_i et; cases e2; exact et
                · cases e2
              rw [er] at r2
              have q2 : AtS B W F A σ [] G2 (if lstB g1 i then (ev (CC P glb wf d) a g1).bind fun j g2 => (match stL g2 i j.2 p.1 with
                | none => .bad
                | some g3 => if lstB g3 i then (ev (CC P glb wf d) b g3).bind fun k g4 => doneS (stL g4 i k.2 p.2) else .bad) else .bad) D := q2
              split at q2
              · rename_i hb
                obtain ⟨va, vs, rfl, hq, hl⟩ : ∃ (va : Addr) (vs : List V), v = .ref va ∧ MPU.SqP B.K G2 va vs ∧ RpL B G2 vs [p.1, p.2] := by
                  cases r2 with
                  | tup h1 h2 h3 => exact ⟨_, _, rfl, h1, h2⟩
                cases hl with
                | cons w1 hl2 =>
                  cases hl2 with
                  | cons w2 hl3 =>
                    cases hl3
                    obtain ⟨ts0, e0⟩ := lstB_some hb
                    obtain ⟨a0, vs0, h1, _⟩ := lst_own S2 e0
                    refine ⟨_, _, rfl, G.hK ▸ S2.sqT hq, rfl, _, _, rfl, _, h1, ?_⟩
                    refine LfS.e (rel1 := relE B) S2 q2 fun r3 v3 H3 G3 g3 _ s3 S3 r3' q3 => ?_
                    cases ed : stL g3 i r3.2 p.1 with
                    | none => rw [ed] at q3; exact q3.elim
                    | some g4 =>
                      rw [ed] at q3
                      obtain ⟨a1, vs1, n1, m1, k1, k2, k3, k4, k5⟩ := stL_at S3 ed r3' (w1.mono s3)
                      rw [h1] at k1
                      cases k1
                      have q3 : AtS B W F A σ [] G3 (if lstB g4 i then (ev (CC P glb wf d) b g4).bind fun k g5 => doneS (stL g5 i k.2 p.2) else .bad) D := q3
                      split at q3
                      · rename_i hb2
                        refine ⟨a0, vs1, n1, m1, rfl, k2, k3, k4, _, _, rfl, _, h1, ?_⟩
                        refine LfS.e (rel1 := relE B) k5 q3 fun r5 v5 H5 G5 g5 _ s5 S5 r5' q5 => ?_
                        cases ed2 : stL g5 i r5.2 p.2 with
                        | none => rw [ed2] at q5; exact q5.elim
                        | some g6 =>
                          rw [ed2] at q5
                          obtain ⟨a2, vs2, n2, m2, j1, j2, j3, j4, j5⟩ := stL_at S5 ed2 r5' (w2.mono (s3.trans s5))
                          rw [h1] at j1
                          cases j1
                          exact ⟨a0, vs2, n2, m2, rfl, j2, j3, j4, rfl, q5 σ _ G5 (Same.refl' G5) j5 fun _ _ => rfl⟩
                      · exact q3.elim
              · exact q2.elim
          · cases ez
        · cases ez
      · cases ex
    · cases h
  · cases h
end
end MP
namespace MP
open PySem PySem.Spec L2
section
variable {P : List FD} {glb : Nat → Option T} {wf d : Nat} {B : Bg} {ck : Ck} {X : Cx} {W : WX} {C : Cn}
theorem ss_nil : PSs X [] (LfS B W [] (evSs C [])) := pss_nil.imp fun D σ H q => by
  obtain ⟨F, A, G0, g, S, q⟩ := q
  rw [evSs] at q
  exact q σ H G0 (Same.refl' G0) S fun _ _ => rfl
theorem ss_cons {s : S} {ss : List S} {x : Stmt} {xs : List Stmt} {L1 L2' : List Nat} (h1 : PS X x (LfS B W L1 (evS C s))) (h2 : PSs X xs (LfS B W L2' (evSs C ss))) : PSs X (x :: xs) (LfS B W (L1 ++ L2') (evSs C (s :: ss))) :=
  (pss_cons h1 h2).imp fun D σ H q => by
    obtain ⟨F, A, G0, g, S, q⟩ := q
    rw [evSs] at q
    refine ⟨F, A, G0, g, S, LfS.seq (f := fun g => evSs C ss g) (L2' := L2') S q (fun j hj => by rw [List.mem_append, not_or] at hj; exact hj) (fun σ' H' G' g' s1 S1 a q1 => ⟨F, A, G', g', S1, q1⟩) _ _⟩
theorem k_ife {c : E} {a b : List S} {p : Expr} {q r : List Stmt} {pos : Pos} {L1 L2' : List Nat} (hc : PT X p (Lf B W (blv C c) relB)) (ha : PSs X q (LfS B W L1 (evSs C a))) (hb : PSs X r (LfS B W L2' (evSs C b))) : PS X (.If p q r pos) (LfS B W (L1 ++ L2') (evS C (.ife c a b))) :=
  (ps_if hc ha hb).imp fun D σ H q => by
    obtain ⟨F, A, G0, g, S, q⟩ := q
    rw [evS] at q
    refine LfS.e (m := blv C c) (rel1 := relB) S q fun b1 b2 H1 G1 g1 _ s1 S1 r1 q1 => ?_
    cases (show b1 = b2 from r1)
    cases b1 with
    | true => exact ⟨F, A, G1, g1, S1, q1.up (Same.refl' G1) fun j hj => by rw [List.mem_append, not_or] at hj; exact ⟨hj.1, rfl⟩⟩
    | false => exact ⟨F, A, G1, g1, S1, q1.up (Same.refl' G1) fun j hj => by rw [List.mem_append, not_or] at hj; exact ⟨hj.2, rfl⟩⟩
theorem k_whl {c : E} {b : List S} {p : Expr} {q : List Stmt} {pos : Pos} {L : List Nat} (hp : PassesOwn (model X.prog X.w) X.A X.env X.xe) (hc : PT X p (Lf B W (blv C c) relB)) (hb : PSs X q (LfS B W L (evSs C b))) : PS X (.While p q [] pos) (LfS B W L (evS C (.whl c b))) :=
  (ps_while hp hc hb).imp fun D σ H q => by
    obtain ⟨F, A, G0, g, S, q⟩ := q
    rw [evS] at q
    refine ⟨fun n σ H => ∃ G g, Same G0 G ∧ Sim B F A σ H G g ∧ AtS B W F A σ L G (whileL (fun g => blOf (ev C c g)) (fun g => evSs C b g) n g) D, ⟨C.wf, G0, g, Same.refl' G0, S, q⟩, fun m σ H ⟨G, g, s0, S, q⟩ => ?_⟩
    cases m with
    | zero => exact q.elim
    | succ m =>
      have q : AtS B W F A σ L G ((blv C c g).bind fun d g1 => if d = true then (evSs C b g1).bind (fun f g2 => match f with
        | .nx => whileL (fun g => blOf (ev C c g)) (fun g => evSs C b g) m g2
        | .rt fr t => .ok (.rt fr t) g2) else .ok .nx g1) D := q
      refine LfS.e (m := blv C c) (rel1 := relB) S q fun b1 b2 H1 G1 g1 _ s1 S1 r1 q1 => ?_
      cases (show b1 = b2 from r1)
      cases b1 with
      | true =>
        rw [if_pos rfl] at q1 ⊢
        refine ⟨_, fun σ' H' w => ⟨m, Nat.lt_succ_self _, w⟩, F, A, G1, g1, S1, LfS.seq (L2' := L) S1 q1 (fun j hj => ⟨hj, hj⟩) (fun σ' H' G' g' s2 S2 a q2 => ⟨G', g', (s0.trans s1).trans s2, S2, q2⟩) _ _⟩
      | false =>
        rw [if_neg Bool.false_ne_true] at q1 ⊢
        exact q1 σ H1 G1 (Same.refl' G1) S1 fun _ _ => rfl
theorem evS_for (tgs : List Nat) (tp : Bool) (k : IK) (es : List E) (b : List S) (g : En) : evS C (.for tgs tp k es b) g = (itM C k es g).bind fun p g1 => if okFor tgs b p.1 then forL (fun g => evSs C b g) tgs tp k p.2 p.1 p.2.1 0 g1 else .bad := by
  rw [evS]
  unfold itM
  rw [R.bind_bind]
  congr 1
  funext os g1
  cases (odTs g1 os).bind (itN k) with
  | none => rfl
  | some n => rfl
theorem odFor {G : Hp} {σ σ' : L2.St} {tgs : List Nat} {b : List S} {os : List Od} {vs : List V} (h : OdOk B G σ os vs) (k : ∀ j, j ∉ tgs ++ setsL b → σ'[j]? = σ[j]?) : okFor tgs b os = true → OdOk B G σ' os vs := by
  induction h with
  | nil => exact fun _ => .nil
  | t r _ ih => exact fun h => .t r (ih h)
  | @s i v os vs e _ ih =>
    intro h
    have h' : (!(tgs ++ setsL b).contains i && okFor tgs b os) = true := h
    rw [Bool.and_eq_true, Bool.not_eq_true'] at h'
    refine .s ?_ (ih h'.2)
    rw [k i fun z => ?_]
    · exact e
    · have := List.contains_iff_mem.mpr z
      rw [h'.1] at this
      cases this
theorem k_for (G : Gd P glb wf d B ck X W) {tgs : List Nat} {tp : Bool} {k : IK} {es : List E} {b : List S} {tg iter : Expr} {xs : List Expr} {q : List Stmt} {pos : Pos} (hp : PassesOwn (model X.prog X.w) X.A X.env X.xe) (h1 : itArgs ck k iter = some xs) (ps : POs C B W X xs es)
    (htg : isTg ck tgs tp tg = true) (hpr : pairB k tp = true) (hb : PSs X q (LfS B W (setsL b) (evSs C b))) : PS X (.For tg iter q [] pos) (LfS B W (tgs ++ setsL b) (evS C (.for tgs tp k es b))) :=
  (ps_for hp G.calm (it_pi G k h1 hpr (isTg_tp htg) ps) (G.tg htg) hb (folded_of (itArgs_ok h1 ps) _)).imp fun D σ H q => by
    obtain ⟨F, A, G0, g, S, q⟩ := q
    rw [evS_for] at q
    refine LfS.e (rel1 := relI B k) S q fun p J H1 G1 g1 _ s1 S1 r1 q1 => ?_
    obtain ⟨vs, hod, hit⟩ := r1
    obtain ⟨os, n⟩ := p
    split at q1
    · rename_i hok
      have hok : okFor tgs b os = true := hok
      have q1 : AtS B W F A σ (tgs ++ setsL b) G1 (forL (fun g => evSs C b g) tgs tp k n os n.1 0 g1) D := q1
      refine ⟨fun i m σ' H' => m = n.1 - i ∧ i ≤ n.1 ∧ ∃ G g, Same G1 G ∧ Sim B F A σ' H' G g ∧ (∀ j, j ∉ tgs ++ setsL b → σ'[j]? = σ[j]?) ∧ AtS B W F A σ' (tgs ++ setsL b) G (forL (fun g => evSs C b g) tgs tp k n os m i g) D,
        ⟨n.1, rfl, Nat.zero_le _, G1, g1, Same.refl' G1, S1, fun _ _ => rfl, q1⟩, fun i m σ' H' w => ?_⟩
      obtain ⟨hm, hi, G', g', sG, S', hk, hc⟩ := w
      have hc' := hc
      unfold forL at hc
      cases e1 : (odTs g' os).bind fun ts => itT k n ts i with
      | none => rw [e1] at hc; exact hc.elim
      | some o =>
        rw [e1] at hc
        rw [Option.bind_eq_some_iff] at e1
        obtain ⟨us, eo, ei⟩ := e1
        have hx : RpXs B H' G' vs us := S'.ods (odFor (hod.mono sG) hk hok) eo
        cases o with
        | none => exact .inl ⟨hit.stop i H' G' us S'.sub hx ei, hc σ' H' G' (Same.refl' G') S' fun _ _ => rfl⟩
        | some x =>
          cases m with
          | zero => exact hc.elim
          | succ m' =>
            refine .inr ⟨hit.go i H' G' us x S'.sub hx ei, _, fun σ'' H'' w => ⟨m', Nat.lt_succ_self _, w⟩, fun v H2 yl => ?_⟩
            obtain ⟨G2, s2, S2, r2⟩ := yld_at hpr hit S' hx ei yl
            have hc : AtS B W F A σ' (tgs ++ setsL b) G' (match tgtF tgs tp x g' with
              | none => MP.R.bad
              | some g1 => (evSs C b g1).bind fun f g2 => match f with
                | .nx => forL (fun g => evSs C b g) tgs tp k n os m' (i + 1) g2
                | .rt fr t => .ok (.rt fr t) g2) D := hc
            cases et : tgtF tgs tp x g' with
            | none => rw [et] at hc; exact hc.elim
            | some ga =>
              rw [et] at hc
              refine tgt_at et S2 r2 fun σ2 S3 l3 a3 => ?_
              have hc2 := hc.up (σ1 := σ2) (L1 := tgs ++ setsL b) s2 fun j hj => ⟨hj, a3 j fun z => hj (List.mem_append_left _ z)⟩
              refine ⟨F, A, G2, ga, S3, LfS.seq (L2' := tgs ++ setsL b) S3 hc2 (fun j hj => ⟨fun z => hj (List.mem_append_right _ z), hj⟩) (fun σ3 H3 G3 g3 s3 S4 a q3 => ?_) _ _⟩
              refine ⟨by omega, by omega, G3, g3, (sG.trans s2).trans s3, S4, fun j hj => ?_, q3⟩
              rw [a j fun z => hj (List.mem_append_right _ z), a3 j fun z => hj (List.mem_append_left _ z), hk j hj]
    · exact q1.elim
theorem Sim.any {F : Hp} {A : Nat → Addr} {σ : L2.St} {H G : Hp} {g : En} (S : Sim B F A σ H G g) {i : Nat} (z : Option V) (h : ∀ s, g[i]? = some s → s = .un) : Sim B F A (σ.set i z) H G g := by
  have ni : ∀ j : Nat, Own g[j]? → i ≠ j := fun j hj e => by
    subst e
    cases q : g[i]? with
    | none => rw [q] at hj; exact hj.elim
    | some s => rw [q, h s q] at hj; exact hj.elim
  refine ⟨S.sub, S.frn, ?_, fun j s e => ?_, fun j k hj hk e => ?_⟩
  · rw [List.length_set]; exact S.len
  · by_cases hj : i = j
    · subst hj
      rw [h s e]
      trivial
    · rw [List.getElem?_set_ne hj]
      exact S.at_ j s e
  · rw [List.getElem?_set_ne (ni j hj), List.getElem?_set_ne (ni k hk)] at e
    exact S.sep j k hj hk e
structure Top (X : Cx) : Prop where
  st : X.stack = X.env :: X.outer
  fr : X.env.frame = some X.env.locals
  ex : X.ex = []
theorem k_rse (G : Gd P glb wf d B ck X W) {k : Nat} {x : Stmt} (h : isS ck (.rse k) x = true) : PS X x (LfS B W (setsS (.rse k)) (evS (CC P glb wf d) (.rse k))) := by
  rw [isS] at h
  unfold xRse at h
  split at h
  · rename_i n p m j p2 pos pos2
    rw [Bool.and_eq_true, decide_eq_true_eq] at h
    obtain ⟨g1, g2⟩ := G.gl h.2
    cases hg : glb k with
    | none =>
      refine ⟨fun pins s σ H D I q => ?_⟩
      obtain ⟨F, A, G0, g, S, q⟩ := q
      rw [evS] at q
      have hg' : (CC P glb wf d).glb k = none := hg
      rw [hg'] at q
      exact q.elim
    | some t =>
      have hg' : (CC P glb wf d).glb k = some t := hg
      by_cases ht : ∃ c sup, t = .cls c sup []
      · obtain ⟨c, sup, rfl⟩ := ht
        obtain ⟨C, h1, h2, h3, h4⟩ := G.exn k c n sup [] h.1 hg
        have E := G.exf c C h1
        have mk := pmk_own (X := X) (m := m) (j := j) (p := p) (p2 := p2) (pos := pos) PySem.F.excBase_ValueError (by rw [G.hK]; exact h4 rfl) h3 (by rw [G.hK]; exact E.kp) (raises_own (by rw [G.hK]; exact E.sub) (by rw [G.hK]; exact E.ty)) g1 g2
        refine (ps_raise G.calm G.tk mk).imp fun D σ H q => ?_
        obtain ⟨F, A, G0, g, S, q⟩ := q
        rw [evS, hg'] at q
        exact q (.ref C) none σ H G0 ⟨C, rfl, ⟨h1, h2⟩, rfl⟩ (Same.refl' G0) S fun _ _ => rfl
      · refine ⟨fun pins s σ H D I q => ?_⟩
        obtain ⟨F, A, G0, g, S, q⟩ := q
        rw [evS, hg'] at q
        cases t with
        | cls c sup fl =>
          cases fl with
          | nil => exact absurd ⟨c, sup, rfl⟩ ht
          | cons a r => exact q.elim
        | _ => exact q.elim
  · cases h
theorem Gd.tr (G : Gd P glb wf d B ck X W) {W' : WX} {pn : List (Addr × Obj)} {xe : Value → Shared → Prop} (tk : Takes (X.tr pn xe) W') : Gd P glb wf d B ck (X.tr pn xe) W' := {
  calm := G.calm
  nd := G.nd
  hN := G.hN
  sc := G.sc
  fn := G.fn
  un := G.un
  hK := G.hK
  hP := G.hP
  blt := G.blt
  hg := G.hg
  exf := G.exf
  exn := G.exn
  fa := G.fa
  af := G.af
  fns := G.fns
  room := G.room
  tk := tk }
theorem k_tri (G : Gd P glb wf d B ck X W) (T : Top X) {b : List S} {k i j : Nat} {x : Stmt} {body : List Stmt} (e : xTri ck k i j x = some body)
    (hb : ∀ {X' : Cx} {W' : WX}, Gd P glb wf d B ck X' W' → PassesOwn (model X'.prog X'.w) X'.A X'.env X'.xe → Top X' → PSs X' body (LfS B W' (setsL b) (evSs (CC P glb wf d) b))) :
    PS X x (LfS B W (setsL b ++ [i, j]) (evS (CC P glb wf d) (.tri b k i j))) := by
  unfold xTri at e
  split at e
  · rename_i b0 n0 np n m q1 n2 q2 q3 pos' pos
    split at e
    · rename_i hc
      cases e
      obtain ⟨⟨rfl, gk, gg⟩, ⟨hi, hj⟩, ⟨ln, lm⟩, dbn, cdn⟩ := hc
      obtain ⟨g1, g2⟩ := G.gl gg
      by_cases ht : ∃ c sup fl, glb k = some (.cls c sup fl)
      case neg =>
        refine ⟨fun pins s σ H D I q => ?_⟩
        obtain ⟨F, A, G0, g, S, q⟩ := q
        rw [evS] at q
        split at q
        · rename_i c sup fl hg
          exact absurd ⟨c, sup, fl, hg⟩ ht
        · exact q.elim
      case pos =>
        obtain ⟨kc, sup0, fl0, hg⟩ := ht
        obtain ⟨C, hca, _, mC, _⟩ := G.exn k kc n0 sup0 fl0 gk hg
        have base := MPE.ps_try_note (X := X) (x := n0) (n := n2) (m := m) (c := .ref C) (i := i) (j := j) (body := body) (np := np) (pos := pos) (pos' := pos') (q1 := q1) (q2 := q2) (q3 := q3) (Wout := W) (tb := fun W' => LfS B W' (setsL b) (evSs (CC P glb wf d) b))
          T.st T.fr T.ex G.nd (by rw [G.hN]; exact hi) (by rw [G.hN]; exact hj) (by show X.env.scope.names.lookup n2 = _; rw [G.sc]; exact ln) (G.fn m (.inl lm)).1 (G.fn m (.inl lm)).2 ⟨g1, g2, .inl mC⟩ G.tk dbn cdn
          (fun W' pn xe tk hp => hb (G.tr tk) hp ⟨T.st, T.fr, T.ex⟩)
        refine base.imp fun D σ H q => ?_
        obtain ⟨F, A, G0, g, S, q⟩ := q
        refine ⟨F, A, G0, g, S, ?_⟩
        rw [evS] at q
        have hg' : (CC P glb wf d).glb k = some (.cls kc sup0 fl0) := hg
        rw [hg'] at q
        simp only [] at q
        cases ev : evSs (CC P glb wf d) b g with
        | bad => rw [ev] at q; exact q.elim
        | ok f g1 =>
          rw [ev] at q
          cases f with
          | nx => exact fun σ' H' G' s1 S1 a => q σ' H' G' s1 S1 fun l hl => a l fun z => hl (List.mem_append_left _ z)
          | rt fr t => exact q
        | ex xn g1 =>
          rw [ev] at q
          replace q : AtS B W F A σ (setsL b ++ [i, j]) G0 (if (xn.cls == kc || xn.sup.contains kc) = true then (if i = j then .bad else doneS (setS (g1.set i .un) j (.sh (.exn xn.cls xn.sup xn.fld.toList)))) else .ex xn g1) D := q
          intro cls dx σ' H' G' x1 s1 S1 fr
          have x1' := x1
          obtain ⟨a0, rfl, ⟨h1, h2⟩, h3⟩ := x1
          have E := G.exf xn.cls a0 h1
          refine ⟨relX B xn.cls kc, by rw [G.hK]; exact (E.rel kc C hca).1, fun ht a oe na hz hd => ?_, fun hf => ?_⟩
          · have hr : (xn.cls == kc || xn.sup.contains kc) = true := by
              rw [← h2]
              exact ht
            rw [if_pos hr] at q
            replace q : AtS B W F A σ (setsL b ++ [i, j]) G0 (if i = j then .bad else doneS (setS (g1.set i .un) j (.sh (.exn xn.cls xn.sup xn.fld.toList)))) D := q
            by_cases hij : i = j
            · rw [if_pos hij] at q; exact q.elim
            rw [if_neg hij] at q
            have S2 : Sim B F A σ' (upd H' a (MPE.note oe a)) (upd G' a (MPE.note oe a)) (g1.set i .un) := (S1.allocG na).drop i
            have un_i : ∀ s, (g1.set i Sl.un)[i]? = some s → s = .un := fun s hs => by
              rw [getElem?_set', if_pos rfl] at hs
              split at hs
              · exact (Option.some.inj hs).symm
              · cases hs
            have S3 := S2.any (some (.ref a)) un_i
            have sG : Same G' (upd G' a (MPE.note oe a)) := same_upd (S1.noneG na)
            have rp : Rp B (upd G' a (MPE.note oe a)) (.ref a) (.exn xn.cls xn.sup xn.fld.toList) := by
              rw [← h2]
              cases hfl : xn.fld with
              | none =>
                rw [hfl] at h3
                cases h3
                exact .exn0 h1 hz.1 hd hz.2 upd_same
              | some t =>
                rw [hfl] at h3
                obtain ⟨d1, nm, v, rfl, c1, c2, c3⟩ := h3
                exact .exn1 h1 hz.1 hd hz.2 upd_same c1 (sG _ _ c2) (c3.mono sG)
            refine AtS.set (q.here (s1.trans sG)) (fun g' hs => ?_) fun l hl => ?_
            · have S4 := S3.setSh hs rp
              refine S4.any none fun s hs2 => ?_
              have : g' = (g1.set i Sl.un).set j (.sh (.exn xn.cls xn.sup xn.fld.toList)) := by
                unfold setS at hs
                split at hs <;> first
                  | exact (Option.some.inj hs).symm
                  | cases hs
              rw [this, List.getElem?_set_ne (Ne.symm hij)] at hs2
              exact un_i s hs2
            · have li : i ≠ l := fun z => hl (List.mem_append_right _ (by rw [z]; exact List.mem_cons_self))
              have lj : j ≠ l := fun z => hl (List.mem_append_right _ (by rw [z]; exact List.mem_cons_of_mem _ List.mem_cons_self))
              rw [List.getElem?_set_ne li, List.getElem?_set_ne lj, List.getElem?_set_ne li]
              exact fr l fun z => hl (List.mem_append_left _ z)
          · have hr : ¬ (xn.cls == kc || xn.sup.contains kc) = true := fun z => by
              rw [← h2] at z
              have : relX B xn.cls kc = true := z
              rw [hf] at this
              cases this
            rw [if_neg hr] at q
            exact q (.ref a0) dx σ' H' G' x1' s1 S1 fun l hl => fr l fun z => hl (List.mem_append_left _ z)
    · cases e
  · cases e
mutual
theorem main_s : ∀ (s : S) {ck : Ck} {X : Cx} {W : WX} {x : Stmt}, Gd P glb wf d B ck X W → PassesOwn (model X.prog X.w) X.A X.env X.xe → Top X → isS ck s x = true → PS X x (LfS B W (setsS s) (evS (CC P glb wf d) s))
  | .set i e, ck, X, W, x, G, hp, hT, h => by have := k_set G h; simpa [setsS] using this
  | .unp is e, ck, X, W, x, G, hp, hT, h => by have := k_unp G h; simpa [setsS] using this
  | .par is es, ck, X, W, x, G, hp, hT, h => by have := k_par G h; simpa [setsS] using this
  | .aug i o e, ck, X, W, x, G, hp, hT, h => by have := k_aug G h; simpa [setsS] using this
  | .sts i k e, ck, X, W, x, G, hp, hT, h => by have := k_sts G h; simpa [setsS] using this
  | .app i e, ck, X, W, x, G, hp, hT, h => by have := k_app G h; simpa [setsS] using this
  | .ext i e, ck, X, W, x, G, hp, hT, h => by have := k_ext G h; simpa [setsS] using this
  | .ins i k e, ck, X, W, x, G, hp, hT, h => by have := k_ins G h; simpa [setsS] using this
  | .any, ck, X, W, x, G, hp, hT, h => ⟨fun pins s σ H D I q => by
    obtain ⟨F, A, G0, g, S, q⟩ := q
    rw [evS] at q
    exact q.elim⟩
  | .rse k, ck, X, W, x, G, hp, hT, h => k_rse G h
  | .tri b k i j, ck, X, W, x, G, hp, hT, h => by
    rw [isS] at h
    split at h
    · rename_i q ex
      have := k_tri G hT ex fun G' hp' T' => main_ss b G' hp' T' h
      simpa [setsS] using this
    · cases h
  | .st2 i a b e, ck, X, W, x, G, hp, hT, h => by have := k_st2 G h; simpa [setsS] using this
  | .dst i k e, ck, X, W, x, G, hp, hT, h => by have := k_dst G h; simpa [setsS] using this
  | .rvs i, ck, X, W, x, G, hp, hT, h => by have := k_rvs G h; simpa [setsS] using this
  | .clr i, ck, X, W, x, G, hp, hT, h => by have := k_clr G h; simpa [setsS] using this
  | .exp e, ck, X, W, x, G, hp, hT, h => by have := k_exp G h; simpa [setsS] using this
  | .ret e, ck, X, W, x, G, hp, hT, h => by have := k_ret G h; simpa [setsS] using this
  | .retn, ck, X, W, x, G, hp, hT, h => by have := k_retn (B := B) (W := W) (C := CC P glb wf d) (X := X) h; simpa [setsS] using this
  | .ife c a b, ck, X, W, x, G, hp, hT, h => by
    rw [isS] at h
    split at h
    · rename_i p q r ex
      rw [Bool.and_eq_true, Bool.and_eq_true] at h
      unfold xIf at ex
      split at ex
      · rename_i pos
        cases ex
        have := k_ife (pos := pos) (main_e c G h.1).2 (main_ss a G hp hT h.2.1) (main_ss b G hp hT h.2.2)
        simpa [setsS] using this
      · cases ex
    · cases h
  | .whl c b, ck, X, W, x, G, hp, hT, h => by
    rw [isS] at h
    split at h
    · rename_i p q ex
      rw [Bool.and_eq_true] at h
      unfold xWhl at ex
      split at ex
      · rename_i pos
        cases ex
        have := k_whl (pos := pos) hp (main_e c G h.1).2 (main_ss b G hp hT h.2)
        simpa [setsS] using this
      · cases ex
    · cases h
  | .for tgs tp k es b, ck, X, W, x, G, hp, hT, h => by
    rw [isS] at h
    split at h
    · rename_i tg iter q ex
      split at h
      · rename_i xs e2
        simp only [Bool.and_eq_true] at h
        obtain ⟨h1, h2, h3, h4⟩ := h
        unfold xFor at ex
        split at ex
        · rename_i pos
          cases ex
          have := k_for (pos := pos) G hp e2 ((main_es es G h1).os G) h2 h3 (main_ss b G hp hT h4)
          simpa [setsS] using this
        · cases ex
      · cases h
    · cases h
theorem main_ss : ∀ (ss : List S) {ck : Ck} {X : Cx} {W : WX} {xs : List Stmt}, Gd P glb wf d B ck X W → PassesOwn (model X.prog X.w) X.A X.env X.xe → Top X → isSs ck ss xs = true → PSs X xs (LfS B W (setsL ss) (evSs (CC P glb wf d) ss))
  | [], ck, X, W, xs, G, hp, hT, h => by
    cases xs with
    | nil => have := ss_nil (B := B) (W := W) (C := CC P glb wf d) (X := X); simpa [setsL] using this
    | cons _ _ => rw [isSs] at h; cases h; all_goals simp
  | s :: ss, ck, X, W, xs, G, hp, hT, h => by
    cases xs with
    | nil => rw [isSs] at h; cases h; all_goals simp
    | cons x xs =>
      rw [isSs, Bool.and_eq_true] at h
      have := ss_cons (main_s s G hp hT h.1) (main_ss ss G hp hT h.2)
      simpa [setsL] using this
end
end
end MP
namespace MP
open PySem PySem.Spec L2
theorem zip_lookup {ps : List Str} {us : List Value} (hl : us.length = ps.length) {n : Str} (h : n ∈ ps) : ((ps.zip us).lookup n).isNone = false := by
  induction ps generalizing us with
  | nil => cases h
  | cons p ps ih =>
    cases us with
    | nil => cases hl
    | cons u us =>
      rw [List.zip_cons_cons, List.lookup_cons]
      cases e : n == p with
      | true => rfl
      | false =>
        rcases List.mem_cons.mp h with rfl | h
        · rw [beq_self_eq_true] at e; cases e
        · exact ih (by simpa using hl) h
theorem fm_congr {α β : Type} {f k : α → Option β} : ∀ {l : List α}, (∀ n ∈ l, f n = k n) → l.filterMap f = l.filterMap k
  | [], _ => rfl
  | a :: l, h => by
    rw [List.filterMap_cons, List.filterMap_cons, h a List.mem_cons_self, fm_congr fun n hn => h n (List.mem_cons_of_mem _ hn)]
theorem zip_all {ps : List Str} {us : List Value} (nd : ps.Nodup) (hl : us.length = ps.length) : ps.filterMap (fun n => ((ps.zip us).lookup n).map fun v => (n, v)) = ps.zip us := by
  induction ps generalizing us with
  | nil => cases us with
    | nil => rfl
    | cons _ _ => cases hl
  | cons p ps ih =>
    cases us with
    | nil => cases hl
    | cons u us =>
      obtain ⟨n1, n2⟩ := List.nodup_cons.mp nd
      have ih := ih (us := us) n2 (by simpa using hl)
      rw [List.zip_cons_cons, List.filterMap_cons, List.lookup_cons_self]
      show (p, u) :: _ = _
      congr 1
      rw [← ih]
      refine fm_congr fun n hn => ?_
      have hne : (n == p) = false := beq_eq_false_iff_ne.mpr fun e => n1 (e ▸ hn)
      rw [List.lookup_cons, hne, ih]
theorem bind_plain {x qual : Str} {as : List Arg} {body : List Stmt} {scope : Scope} {kV doc pm : Value} {an : Option Addr} {cdv ct : Value} {ps : List Str} {us : List Value} (nd : ps.Nodup) (hp : as.map (·.arg) = ps) (hl : us.length = ps.length) :
    bindArgs (PySem.W.fnOf x qual ⟨[], as, none, [], [], none, []⟩ body scope .none kV doc pm an cdv ct) ⟨us, []⟩ = pure (ps.zip us) := by
  have hm : (ps.filter fun n => ((ps.zip us).lookup n).isNone) = [] := List.filter_eq_nil_iff.mpr fun n hn => by rw [zip_lookup hl hn]; decide
  have ht : ps.take (ps.length - ([] : List Value).length) = ps := by simp
  unfold bindArgs
  simp [PySem.W.fnOf, hp, hl, seqItems?, hm, zip_all nd hl]
  rfl
theorem outS_nil : ∀ (as : List Sl), outS as [] = as.map fun _ => .un
  | [] => rfl
  | a :: as => by
    have e : outS (a :: as) [] = .un :: outS as [] := by cases a <;> rfl
    rw [e, outS_nil as]
    rfl
theorem outS_at : ∀ {as : List Sl} {g : En} {i : Nat} {s : Sl}, (outS as g)[i]? = some s → s = .un ∨ ∃ t t', as[i]? = some (.io t) ∧ g[i]? = some s ∧ (s = .io t' ∨ s = .fz t')
  | [], g, i, s, h => by
    have e : outS [] g = [] := by cases g <;> rfl
    rw [e] at h
    simp at h
  | a :: as, [], i, s, h => by
    rw [outS_nil, List.getElem?_map, Option.map_eq_some_iff] at h
    obtain ⟨_, _, e⟩ := h
    exact .inl e.symm
  | a :: as, b :: g, 0, s, h => by
    cases a <;> cases b <;> (simp [outS] at h; subst h) <;> first
      | exact .inl rfl
      | exact .inr ⟨_, _, rfl, rfl, .inl rfl⟩
      | exact .inr ⟨_, _, rfl, rfl, .inr rfl⟩
  | a :: as, b :: g, i + 1, s, h => by
    have h' : (outS as g)[i]? = some s := by
      cases a <;> cases b <;> simpa [outS] using h
    exact outS_at (as := as) (g := g) (i := i) h'
theorem outS_length : ∀ {as : List Sl} {g : En}, (outS as g).length = as.length
  | [], g => by
    have e : outS [] g = [] := by cases g <;> rfl
    rw [e]
  | a :: as, [] => by rw [outS_nil, List.length_map]
  | a :: as, b :: g => by
    have ih := outS_length (as := as) (g := g)
    cases a <;> cases b <;> simp [outS, ih]
section
variable {B : Bg} {F : Hp} {A : Nat → Addr} {H H' G G' : Hp} {as : List Sl} {g : En} {vs : List V} {σ' : L2.St}
theorem io_start (S0 : Sim B F A (vs.map some) H G as) {i : Nat} {t : T} (h : as[i]? = some (.io t)) : (vs.map some)[i]? = some (some (.ref (A i))) := (S0.at_ i _ h).1
theorem Sim.out (S0 : Sim B F A (vs.map some) H G as) (S : Sim B F A σ' H' G' g) : Sim B F A (vs.map some) H' G' (outS as g) ∧ ∀ fr v t, Res B F σ' H' G' g fr v t → Res B F (vs.map some) H' G' (outS as g) fr v t := by
  have own : ∀ i : Nat, Own (outS as g)[i]? → Own g[i]? ∧ ∃ t, as[i]? = some (.io t) ∧ (vs.map some)[i]? = some (some (.ref (A i))) ∧ σ'[i]? = some (some (.ref (A i))) := fun i hi => by
    rcases hi.cases with ⟨t, e⟩ | ⟨t, e⟩
    · rcases outS_at e with z | ⟨t1, t2, h1, h2, z⟩
      · cases z
      · rcases z with z | z <;> cases z
    · rcases outS_at e with z | ⟨t1, t2, h1, h2, z⟩
      · cases z
      · exact ⟨by rw [h2]; trivial, t1, h1, io_start S0 h1, (S.at_ i _ h2).1⟩
  refine ⟨⟨S.sub, S.frn, ?_, fun i s e => ?_, fun i j hi hj e => ?_⟩, fun fr v t r => ?_⟩
  · rw [outS_length]; exact S0.len
  · rcases outS_at e with rfl | ⟨t1, t2, h1, h2, z⟩
    · trivial
    · have q := S.at_ i s h2
      rcases z with rfl | rfl
      · exact ⟨io_start S0 h1, q.2⟩
      · exact ⟨io_start S0 h1, q.2⟩
  · obtain ⟨o1, t1, a1, b1, c1⟩ := own i hi
    obtain ⟨o2, t2, a2, b2, c2⟩ := own j hj
    refine S.sep i j o1 o2 ?_
    rw [c1, c2, ← b1, ← b2]
    exact e
  · unfold Res at r ⊢
    cases fr with
    | false => exact r
    | true =>
      obtain ⟨a, rfl, ⟨f1, f2, f3⟩, w⟩ := r
      refine ⟨a, rfl, ⟨f1, f2, fun i hi e => ?_⟩, w⟩
      obtain ⟨o1, t1, a1, b1, c1⟩ := own i hi
      rw [b1] at e
      exact f3 i o1 (c1.trans e)
theorem Sim.begin {N : List Str} (S : Sim B F A (vs.map some) H G as) : Sim B F A (L2.start N vs) H G (as ++ List.replicate (N.length - as.length) .un) := by
  have hl : as.length = vs.length := by rw [S.len, List.length_map]
  have own : ∀ i : Nat, Own (as ++ List.replicate (N.length - as.length) .un)[i]? → i < as.length ∧ Own as[i]? := fun i hi => by
    by_cases h : i < as.length
    · rw [List.getElem?_append_left h] at hi; exact ⟨h, hi⟩
    · rw [List.getElem?_append_right (by omega), List.getElem?_replicate] at hi
      split at hi <;> exact hi.elim
  have st : ∀ i : Nat, i < as.length → (L2.start N vs)[i]? = (vs.map some)[i]? := fun i h => by
    unfold L2.start
    rw [List.getElem?_append_left (by rw [List.length_map]; omega)]
  refine ⟨S.sub, S.frn, ?_, fun i s e => ?_, fun i j hi hj e => ?_⟩
  · unfold L2.start
    rw [List.length_append, List.length_append, List.length_replicate, List.length_replicate, List.length_map]
    omega
  · by_cases h : i < as.length
    · rw [List.getElem?_append_left h] at e
      rw [st i h]
      exact S.at_ i s e
    · rw [List.getElem?_append_right (by omega), List.getElem?_replicate] at e
      split at e
      · cases e; trivial
      · cases e
  · obtain ⟨l1, o1⟩ := own i hi
    obtain ⟨l2, o2⟩ := own j hj
    rw [st i l1, st j l2] at e
    exact S.sep i j o1 o2 e
end
def argB (ps : List Str) (p : Arguments) : Bool := match p with
  | ⟨[], as, none, [], [], none, []⟩ => decide (as.map (·.arg) = ps)
  | _ => false
theorem argB_some {ps : List Str} {p : Arguments} (h : argB ps p = true) : ∃ as, p = ⟨[], as, none, [], [], none, []⟩ ∧ as.map (·.arg) = ps := by
  unfold argB at h
  split at h
  · exact ⟨_, rfl, of_decide_eq_true h⟩
  · cases h
def nilB {α : Type} : List α → Bool
  | [] => true
  | _ => false
def scB (N P : List Str) (sc : Scope) : Bool :=
  ((match sc.kind with | .function => true | _ => false) && (!sc.isCoroutine && !sc.isGenerator)) && ((decide N.Nodup && decide (N.take P.length = P)) && (P.all (fun x => decide (sc.names.lookup x = some .local) || decide (sc.names.lookup x = some .cell)) && sc.names.all (fun y => !decide (y.2 = .free))))
theorem scB_some {N P : List Str} {sc : Scope} (h : scB N P sc = true) : FnScope N P sc := by
  unfold scB at h
  simp only [Bool.and_eq_true, Bool.not_eq_true', decide_eq_true_eq, List.all_eq_true, Bool.or_eq_true, decide_eq_false_iff_not] at h
  obtain ⟨⟨h1, h2, h3⟩, ⟨h4, h5⟩, h6, h7⟩ := h
  refine ⟨?_, h2, h3, h4, h5, h6, h7⟩
  split at h1
  · assumption
  · cases h1
/-- a def of the text is the def of the syntax -/
def dfB (P : List FD) (gn : List Str) (fd : FD) (dd : He.DefD) : Bool :=
  (decide (dd.at_ = (fd.name, none)) && (argB fd.ps dd.params && (nilB dd.dfl && nilB dd.kwd))) && (scB fd.N fd.ps dd.scope && isSs ⟨P, gn, fd.N, dd.scope, dd.scope⟩ fd.body dd.body)
/-- what is known at a world -/
structure Wd (P : List FD) (gn : List Str) (glb : Nat → Option T) (B : Bg) (mg : Str → Option Value) : Prop where
  hD : ∀ (f : Nat) (fd : FD), P[f]? = some fd → ∃ dd a fdat, dfB P gn fd dd = true ∧ FunD B.K dd.name dd.qual dd.params dd.body dd.scope (dd.dvs B.K) (dd.kws B.K) a fdat ∧ mg fd.name = some (.ref a)
  blt : ∀ x ∈ bltNames, mg x = none
  fa : ∀ (f : Nat) (a : Addr), B.fa f = some a → ∃ fd, P[f]? = some fd ∧ mg fd.name = some (.ref a)
  af : ∀ (f : Nat) (fd : FD), P[f]? = some fd → ∃ a, B.fa f = some a ∧ mg fd.name = some (.ref a)
  hg : ∀ (k : Nat) (x : Str) (t : T), gn[k]? = some x → glb k = some t → ∃ v u, mg x = some u ∧ RelV v u ∧ ∀ H, Rp B H v t
  exf : ∀ (k : Nat) (D : Addr), B.ca k = some D → ExF B k D
  exn : ∀ (k c : Nat) (x : Str) (sup fl : List Nat), gn[k]? = some x → glb k = some (.cls c sup fl) → ∃ D, B.ca c = some D ∧ B.sup c = sup ∧ mg x = some (.ref D) ∧ (fl = [] → PySem.W.excIn B.K D PySem.HandSPX.veTail "ValueError.__new__" = true)
section
variable {P : List FD} {gn : List Str} {glb : Nat → Option T} {wf : Nat} {B : Bg} {mg : Str → Option Value} {prog : Program} {w : World}
theorem at_len {d f : Nat} {fd : FD} {B : Bg} {W : WX} {F : Hp} {A : Nat → Addr} {σ : L2.St} {G : Hp} {as : List Sl} {Q : VK} (h : P[f]? = some fd) (q : At B W F A σ G (callF P glb wf (d + 1) f as) (relE B) Q) :
    as.length = fd.ps.length ∧ At B W F A σ G (match evSs (CC P glb wf d) fd.body (as ++ List.replicate (fd.N.length - as.length) .un) with
      | .ok .nx g => MP.R.ok (false, .non) (outS as g)
      | .ok (.rt fr t) g => .ok (fr, t) (outS as g)
      | .ex x g => .ex x (outS as g)
      | .bad => .bad) (relE B) Q := by
  have hl : as.length = fd.ps.length := callF_len (glb := glb) (wf := wf) (d := d + 1) h fun z => by rw [z] at q; exact q.elim
  refine ⟨hl, ?_⟩
  unfold callF at q
  rw [h] at q
  have q : At B W F A σ G (if as.length = fd.ps.length then
        (match evSs ⟨callF P glb wf d, glb, wf⟩ fd.body (as ++ List.replicate (fd.N.length - as.length) .un) with
        | .ok .nx g => .ok (false, .non) (outS as g)
        | .ok (.rt fr t) g => .ok (fr, t) (outS as g)
        | .ex x g => .ex x (outS as g)
        | .bad => .bad)
      else .bad) (relE B) Q := q
  rw [if_pos hl] at q
  exact q
/-- every def keeps its promise -/
theorem fns_ok (Z : Wd P gn glb B mg) : ∀ d f fd, P[f]? = some fd → ∃ a fdat, mg fd.name = some (.ref a) ∧ PySem.W.keepIn B.K (.ref a) = true ∧ Binds B.K fdat fd.ps [] ∧ (∀ (s : Shared) (us : List Value), us.length = fd.ps.length → BindsTo s fdat ⟨us, []⟩ (fd.ps.zip us)) ∧
    ∀ base : Heap, FnOk prog w B.K mg base (L2.CX prog w) d a fdat fd.ps (spF P glb wf B d f fd.ps.length)
  | d, f, fd, h => by
    obtain ⟨dd, a, fdat, hb, F, hm⟩ := Z.hD f fd h
    unfold dfB at hb
    simp only [Bool.and_eq_true, decide_eq_true_eq] at hb
    obtain ⟨⟨h1, h2, h3, h4⟩, h5, h6⟩ := hb
    obtain ⟨args, ep, ea⟩ := argB_some h2
    have S := scB_some h5
    have ndP : fd.ps.Nodup := by rw [← S.pre]; exact S.nd.sublist (List.take_sublist _ _)
    have edv : dd.dvs B.K = [] := by
      unfold He.DefD.dvs
      cases e : dd.dfl with
      | nil => rfl
      | cons _ _ => rw [e] at h3; cases h3
    rw [edv] at F
    have bnd : ∀ (kV doc pm : Value) (an : Option Addr) (cdv ct : Value) (us : List Value), us.length = fd.ps.length → bindArgs (PySem.W.fnOf dd.name dd.qual dd.params dd.body dd.scope .none kV doc pm an cdv ct) ⟨us, []⟩ = pure (fd.ps.zip us) := fun kV doc pm an cdv ct us hl => by
      rw [ep]
      exact bind_plain ndP ea hl
    refine ⟨a, fdat, hm, F.kp, FunD.bindsN F bnd, FunD.bindsA F bnd, fun base => ?_⟩
    have len : ∀ vs H Q E, spF P glb wf B d f fd.ps.length vs H Q E → vs.length = fd.ps.length := fun vs H Q E q => q.1
    cases d with
    | zero =>
      refine ⟨len, fun A outer s H args us vs Q E hr e0 hb hv hs => ?_⟩
      obtain ⟨_, F', A', G, as, _, q⟩ := hs
      exact q.elim
    | succ d =>
      refine FunD.ok F S len fun cdv A outer s H vs Q E hr hs => ?_
      obtain ⟨hvl, F', A', G, as, S0, q⟩ := hs
      obtain ⟨hal, q⟩ := at_len h q
      have hu : ∀ n : Nat, n + 16 * d + 200 < cLine → n + 65 < cLine := fun n h => by omega
      have Gd' : Gd P glb wf d B ⟨P, gn, fd.N, dd.scope, dd.scope⟩ (cxOf (L2.CX prog w) prog w B.K mg base fd.N dd.qual dd.scope a cdv A outer s H E) (fun cls d _ H => E cls d H) := {
        calm := rfl
        nd := S.nd
        hN := rfl
        sc := rfl
        fn := fun x hx => ⟨hx, .inl rfl⟩
        un := hu _ hr.un
        hK := rfl
        hP := rfl
        blt := Z.blt
        hg := Z.hg
        exf := Z.exf
        exn := Z.exn
        fa := Z.fa
        af := Z.af
        fns := fun f' fd' h' => by
          obtain ⟨a', fdat', k1, k2, k3, _, k4⟩ := fns_ok Z d f' fd' h'
          exact ⟨a', fdat', k1, k2, k3, k4 base⟩
        room := hr
        tk := takes_of rfl rfl rfl rfl }
      refine ⟨_, main_ss fd.body Gd' (passes_of rfl) ⟨rfl, rfl, rfl⟩ h6, F', A', G, _, S0.begin, ?_⟩
      cases e : evSs (CC P glb wf d) fd.body (as ++ List.replicate (fd.N.length - as.length) .un) with
      | bad => rw [e] at q; exact q.elim
      | ex x g =>
        rw [e] at q
        intro cls dd' σ' H' G' x1 s1 S1 _
        exact q cls dd' H' G' x1 s1 (S0.out S1).1
      | ok fl g =>
        rw [e] at q
        cases fl with
        | nx => exact fun σ' H' G' s1 S1 _ => q .non H' G' s1 (S0.out S1).1 .non
        | rt fr t => exact fun v σ' H' G' s1 S1 r1 => q v H' G' s1 (S0.out S1).1 ((S0.out S1).2 fr v t r1)
end
end MP
namespace MP
open PySem PySem.Spec L2
def dv1 : T → He.Dv
  | .int i => .int i
  | .str x => .str ⟨x.toArray⟩
  | _ => .non
def flat1 : T → Bool
  | .int _ => true
  | .str _ => true
  | _ => false
def cOk : T → Bool
  | .int _ => true
  | .str _ => true
  | .tup ts => ts.all flat1 && decide (ts.length ≤ sizeLine)
  | .cls _ _ _ => true
  | _ => false
def cFa : Str × T → He.Fa
  | (x, .int i) => .int x i
  | (x, .str z) => .str x ⟨z.toArray⟩
  | (x, _) => .glo x
/-- what is looked at in the heap behind the top: a tuple's parts, a refusal's class, how two of them stand -/
inductive Tb
  | tup (x : Str) (ds : List He.Dv) | cls (x : Str) (nf ix : Bool) | rel (x y : Str) (b : Bool)
def tupTb : Str × T → Option Tb
  | (x, .tup ts) => some (.tup x (ts.map dv1))
  | _ => none
def clsOf : (Str × T) × Nat → Option (Str × Nat × Nat × List Nat × List Nat)
  | ((x, .cls c sup fl), i) => some (x, i, c, sup, fl)
  | _ => none
def clsL (cs : List (Str × T)) : List (Str × Nat × Nat × List Nat × List Nat) := cs.zipIdx.filterMap clsOf
def cTb (cs : List (Str × T)) : List Tb := cs.filterMap tupTb ++ ((clsL cs).map (fun p => Tb.cls p.1 p.2.2.2.2.isEmpty (p.2.2.1 == p.2.1)) ++ (clsL cs).flatMap fun p => (clsL cs).map fun q => Tb.rel p.1 q.1 (p.2.1 == q.2.1 || p.2.2.2.1.contains q.2.1))
def faOf (P : List FD) (cs : List (Str × T)) : List He.Fa := P.map (fun fd => .glo fd.name) ++ (bltNames.map .free ++ cs.map cFa)
abbrev AlM : Type := He.AlD × Bool
def isB (o : Option (Option Value)) (s : String) : Bool := match o with
  | some (some (.builtin t)) => t == s
  | _ => false
def isNo : Option (Option Value) → Bool
  | some none => true
  | _ => false
def isTy (o : Option Value) (s : String) : Bool := match o with
  | some (.type t) => t == s
  | _ => false
def exB (K : PySem.W.Frag) (C : Addr) : Bool :=
  ((PySem.W.clsIn K C).isSome && (isB (PySem.W.findIn K (.ref C) "__getattribute__") "BaseException.__getattribute__" && isNo (PySem.W.findIn K (.ref C) "__getattr__"))) &&
  ((decide (PySem.W.subIn K (.ref C) (.type "BaseException") = some true) && (isB (PySem.W.findIn K (.ref C) "__class__") "object.__class__" && isB (PySem.W.specialIn K (.builtin "object.__class__") "__get__") "getset_descriptor.__get__")) &&
  ((decide (PySem.W.takesIn K (.builtin "object.__class__") = some true) && decide (PySem.W.mroIn K C (.type "object") = some true)) &&
  ((decide (PySem.W.kitOne K (.ref C) (.type "ValueError") = some true) && decide (PySem.W.kitOne K (.type "NoneType") (.ref C) = some false)) && (PySem.W.keepIn K (.ref C) && isTy (PySem.W.typeIn K (.ref C)) "type"))))
def Tb.ok (K : PySem.W.Frag) : Tb → Bool
  | .tup x ds => MPU.ptB K x ds
  | .cls x nf ix => ix && (exB K (He.ga K x) && (!nf || PySem.W.excIn K (He.ga K x) PySem.HandSPX.veTail "ValueError.__new__"))
  | .rel x y b => decide (PySem.W.exmOne K (.ref (He.ga K x)) (.ref (He.ga K y)) = some b) && decide (PySem.W.kitOne K (.ref (He.ga K x)) (.ref (He.ga K y)) = some b)
theorem isB_eq {o : Option (Option Value)} {s : String} (h : isB o s = true) : o = some (some (.builtin s)) := by
  unfold isB at h
  split at h
  · rw [eq_of_beq h]
  · cases h
theorem isNo_eq {o : Option (Option Value)} (h : isNo o = true) : o = some none := by
  unfold isNo at h
  split at h
  · rfl
  · cases h
theorem isTy_eq {o : Option Value} {s : String} (h : isTy o s = true) : o = some (.type s) := by
  unfold isTy at h
  split at h
  · rw [eq_of_beq h]
  · cases h
theorem exB_ok {K : PySem.W.Frag} {C : Addr} (h : exB K C = true) : ExK K C := by
  unfold exB at h
  simp only [Bool.and_eq_true, decide_eq_true_eq] at h
  obtain ⟨⟨h1, h2, h3⟩, ⟨h4, h5, h6⟩, ⟨h7, h8⟩, ⟨h9, h10⟩, h11, h12⟩ := h
  exact ⟨h1, isB_eq h2, isNo_eq h3, h4, isB_eq h5, isB_eq h6, h7, h8, h9, h10, h11, isTy_eq h12⟩
def tbB (tb : List Tb) (K : PySem.W.Frag) : Bool := tb.all fun p => p.ok K
def obsM (fa : List He.Fa) (fn : List He.DefD) (tb : List Tb) (K : PySem.W.Frag) : AlM := (He.obsD fa fn K, tbB tb K)
def valM (fn : List He.DefD) : AlM := (He.valD fn, true)
def SaysM (fa : List He.Fa) (fn : List He.DefD) (tb : List Tb) (K : PySem.W.Frag) : Prop := obsM fa fn tb K = valM fn
def obsMG (n : Nat) (fa : List He.Fa) (fn : List He.DefD) (tb : List Tb) (g : Addr → Option Obj) : AlM := obsM fa fn tb (He.frG g (He.asD g n))
def hookM (n : Nat) (fa : List He.Fa) (fn : List He.DefD) (tb : List Tb) : PySem.W.Hook where
  α := AlM
  obs := fun s => obsMG n fa fn tb s.heap.get?
  val := fun _ => valM fn
  says := fun _ h => ∃ K : PySem.W.Frag, K.In h ∧ SaysM fa fn tb K
  of := fun _ _ e => ⟨_, He.frG_in, e⟩
  keeps := fun _ _ _ ⟨K, hK, c⟩ k => ⟨K, PySem.W.Frag.In.keeps hK k, c⟩
theorem obsMG_eq {n : Nat} {fa : List He.Fa} {fn : List He.DefD} {tb : List Tb} {g : Addr → Option Obj} {s : Shared} (h : ∀ a, g a = s.heap.get? a) : obsMG n fa fn tb g = (hookM n fa fn tb).obs s := by
  have e : g = s.heap.get? := funext h
  rw [e] <;> rfl
/-- the text and the syntax, def by def -/
def chkB (P : List FD) (gn : List Str) : List FD → List He.DefD → Bool
  | [], [] => true
  | fd :: fs, dd :: ds => dfB P gn fd dd && chkB P gn fs ds
  | _, _ => false
theorem chkB_at {P : List FD} {gn : List Str} : ∀ {fs : List FD} {ds : List He.DefD} {i : Nat} {fd : FD}, chkB P gn fs ds = true → fs[i]? = some fd → ∃ dd, ds[i]? = some dd ∧ dfB P gn fd dd = true
  | [], _, _, _, _, h => by simp at h
  | _ :: _, [], _, _, h, _ => by cases h
  | fd :: fs, dd :: ds, 0, _, h, e => by
    cases e
    exact ⟨dd, rfl, (Bool.and_eq_true_iff.mp (show (dfB P gn fd dd && chkB P gn fs ds) = true from h)).1⟩
  | fd :: fs, dd :: ds, i + 1, _, h, e => chkB_at (fs := fs) (ds := ds) (i := i) (Bool.and_eq_true_iff.mp (show (dfB P gn fd dd && chkB P gn fs ds) = true from h)).2 e
def bgOf (P : List FD) (cs : List (Str × T)) (K : PySem.W.Frag) : Bg := ⟨K, fun f => (P[f]?).map fun fd => He.ga K fd.name,
  fun k => match cs[k]? with
    | some (x, .cls _ _ _) => some (He.ga K x)
    | _ => none,
  fun k => match cs[k]? with
    | some (_, .cls _ _ (c :: fl)) => some ⟨(c :: fl).toArray⟩
    | _ => none,
  fun k => match cs[k]? with
    | some (_, .cls _ sup _) => sup
    | _ => []⟩
section
variable {P : List FD} {cs : List (Str × T)} {D : List He.DefD} {K : PySem.W.Frag} {h : Heap} {mg : Str → Option Value}
theorem says_fact (c : SaysM (faOf P cs) D (cTb cs) K) {f : He.Fa} (m : f ∈ faOf P cs) : f.ok K = true := by
  have c0 : He.obsD (faOf P cs) D K = He.valD D := congrArg (fun z : AlM => z.1) c
  obtain ⟨i, e⟩ := List.getElem?_of_mem m
  exact He.SaysD.fact c0 i e
theorem dv_rp {B : Bg} {H : Hp} : ∀ {ts : List T}, ts.all flat1 = true → RpL B H ((ts.map dv1).map (He.Dv.v B.K)) ts
  | [], _ => .nil
  | t :: ts, h => by
    rw [List.all_cons, Bool.and_eq_true] at h
    refine .cons ?_ (dv_rp h.2)
    cases t with
    | int i => exact .int i
    | str x => exact .str x
    | _ => exact absurd h.1 Bool.false_ne_true
theorem cTb_mem {cs : List (Str × T)} {x : Str} {ts : List T} (h : (x, T.tup ts) ∈ cs) : Tb.tup x (ts.map dv1) ∈ cTb cs :=
  List.mem_append_left _ (List.mem_filterMap.mpr ⟨_, h, rfl⟩)
theorem clsL_mem {cs : List (Str × T)} {i c : Nat} {x : Str} {sup fl : List Nat} (h : cs[i]? = some (x, .cls c sup fl)) : (x, i, c, sup, fl) ∈ clsL cs :=
  List.mem_filterMap.mpr ⟨((x, .cls c sup fl), i), List.mk_mem_zipIdx_iff_getElem?.mpr h, rfl⟩
theorem cTb_cls {cs : List (Str × T)} {i c : Nat} {x : Str} {sup fl : List Nat} (h : cs[i]? = some (x, .cls c sup fl)) : Tb.cls x fl.isEmpty (c == i) ∈ cTb cs :=
  List.mem_append_right _ (List.mem_append_left _ (List.mem_map.mpr ⟨_, clsL_mem h, rfl⟩))
theorem cTb_rel {cs : List (Str × T)} {i c j e : Nat} {x y : Str} {sup fl sup' fl' : List Nat} (h : cs[i]? = some (x, .cls c sup fl)) (h' : cs[j]? = some (y, .cls e sup' fl')) : Tb.rel x y (i == j || sup.contains j) ∈ cTb cs :=
  List.mem_append_right _ (List.mem_append_right _ (List.mem_flatMap.mpr ⟨_, clsL_mem h, List.mem_map.mpr ⟨_, clsL_mem h', rfl⟩⟩))
theorem ca_of {k : Nat} {C : Addr} (h : (bgOf P cs K).ca k = some C) : ∃ x c sup fl, cs[k]? = some (x, .cls c sup fl) ∧ C = He.ga K x := by
  unfold bgOf at h
  dsimp only at h
  split at h
  · rename_i x c sup fl e
    cases h
    exact ⟨x, c, sup, fl, e, rfl⟩
  · cases h
theorem ca_at {k c : Nat} {x : Str} {sup fl : List Nat} (h : cs[k]? = some (x, .cls c sup fl)) : (bgOf P cs K).ca k = some (He.ga K x) ∧ (bgOf P cs K).sup k = sup := by
  unfold bgOf
  dsimp only
  rw [h]
  exact ⟨rfl, rfl⟩
theorem cs_at {k : Nat} {x : Str} {t : T} (e1 : (cs.map (·.1))[k]? = some x) (e2 : glbOf cs k = some t) : cs[k]? = some (x, t) := by
  rw [List.getElem?_map, Option.map_eq_some_iff] at e1
  unfold glbOf at e2
  rw [Option.map_eq_some_iff] at e2
  obtain ⟨p, q1, q2⟩ := e1
  obtain ⟨p', q3, q4⟩ := e2
  rw [q1] at q3
  cases q3
  subst q2 q4
  exact q1
theorem wd_of (X : K.In h) (G : h.Ns mainGlobals mg) (c : SaysM (faOf P cs) D (cTb cs) K) (hc : chkB P (cs.map (·.1)) P D = true) (hk : cs.all (fun p => cOk p.2) = true) : Wd P (cs.map (·.1)) (glbOf cs) (bgOf P cs K) mg where
  hD := fun f fd e => by
    obtain ⟨dd, e1, e2⟩ := chkB_at hc e
    have c0 : He.obsD (faOf P cs) D K = He.valD D := congrArg (fun z : AlM => z.1) c
    obtain ⟨fdat, F⟩ := He.SaysD.def_ c0 f e1
    refine ⟨dd, _, fdat, e2, F, ?_⟩
    have ha : dd.at_ = (fd.name, none) := by
      unfold dfB at e2
      simp only [Bool.and_eq_true, decide_eq_true_eq] at e2
      exact e2.1.1
    have e3 : He.fAd K dd.at_ = He.ga K fd.name := by rw [ha]; rfl
    rw [e3]
    exact He.glo_ok X G (says_fact c (List.mem_append_left _ (List.mem_map.mpr ⟨fd, List.mem_of_getElem? e, rfl⟩)))
  fa := fun f a e => by
    have e : (P[f]?).map (fun fd => He.ga K fd.name) = some a := e
    rw [Option.map_eq_some_iff] at e
    obtain ⟨fd, e1, rfl⟩ := e
    exact ⟨fd, e1, He.glo_ok X G (says_fact c (List.mem_append_left _ (List.mem_map.mpr ⟨fd, List.mem_of_getElem? e1, rfl⟩)))⟩
  af := fun f fd e => ⟨He.ga K fd.name, by
    show (P[f]?).map (fun fd => He.ga K fd.name) = _
    rw [e]
    rfl, He.glo_ok X G (says_fact c (List.mem_append_left _ (List.mem_map.mpr ⟨fd, List.mem_of_getElem? e, rfl⟩)))⟩
  blt := fun x hx => He.free_ok X G (says_fact c (List.mem_append_right _ (List.mem_append_left _ (List.mem_map.mpr ⟨x, hx, rfl⟩))))
  hg := fun k x t e1 e2 => by
    have hm : (x, t) ∈ cs := by
      rw [List.getElem?_map, Option.map_eq_some_iff] at e1
      unfold glbOf at e2
      rw [Option.map_eq_some_iff] at e2
      obtain ⟨p, q1, q2⟩ := e1
      obtain ⟨p', q3, q4⟩ := e2
      rw [q1] at q3
      cases q3
      subst q2 q4
      exact List.mem_of_getElem? q1
    have hok : cOk t = true := List.all_eq_true.mp hk (x, t) hm
    have c0 := c
    have fact : (cFa (x, t)).ok K = true := says_fact c (List.mem_append_right _ (List.mem_append_right _ (List.mem_map.mpr ⟨(x, t), hm, rfl⟩)))
    cases t with
    | int i =>
      obtain ⟨tk, e⟩ := He.int_ok X G (x := x) (i := i) fact
      exact ⟨.int i, _, e, ⟨tk, rfl⟩, fun H => .int i⟩
    | str z =>
      obtain ⟨tk, e⟩ := He.str_ok X G (x := x) (z := ⟨z.toArray⟩) fact
      exact ⟨.str ⟨z.toArray⟩, _, e, ⟨tk, rfl⟩, fun H => .str z⟩
    | tup ts =>
      have e := He.glo_ok X G (x := x) fact
      have hok : (ts.all flat1 && decide (ts.length ≤ sizeLine)) = true := hok
      rw [Bool.and_eq_true, decide_eq_true_eq] at hok
      have tb : tbB (cTb cs) K = true := congrArg (fun z : AlM => z.2) c
      have q := List.all_eq_true.mp tb _ (cTb_mem hm)
      exact ⟨.ref (He.ga K x), _, e, rfl, fun H => .tup (MPU.ptB_ok q H) (dv_rp hok.1) hok.2⟩
    | cls c sup fl =>
      have e := He.glo_ok X G (x := x) fact
      have hat := cs_at e1 e2
      have tb : tbB (cTb cs) K = true := congrArg (fun z : AlM => z.2) c0
      have q := List.all_eq_true.mp tb _ (cTb_cls hat)
      have hck : c = k := by
        have q : ((c == k) && _) = true := q
        exact eq_of_beq (Bool.and_eq_true_iff.mp q).1
      subst hck
      obtain ⟨r1, r2⟩ := ca_at (P := P) (K := K) hat
      exact ⟨.ref (He.ga K x), _, e, rfl, fun H => r2 ▸ .cls r1⟩
    | _ => cases hok
  exf := fun k C hC => by
    obtain ⟨x, c', sup, fl, hat, rfl⟩ := ca_of hC
    have tb : tbB (cTb cs) K = true := congrArg (fun z : AlM => z.2) c
    have q := List.all_eq_true.mp tb _ (cTb_cls hat)
    have q : ((c' == k) && (exB K (He.ga K x) && _)) = true := q
    have q := (Bool.and_eq_true_iff.mp (Bool.and_eq_true_iff.mp q).2).1
    refine ⟨exB_ok q, fun j D hD => ?_⟩
    obtain ⟨y, e', sup', fl', hat', rfl⟩ := ca_of hD
    have q2 := List.all_eq_true.mp tb _ (cTb_rel hat hat')
    have q2 : (decide (PySem.W.exmOne K (.ref (He.ga K x)) (.ref (He.ga K y)) = some (k == j || sup.contains j)) && decide (PySem.W.kitOne K (.ref (He.ga K x)) (.ref (He.ga K y)) = some (k == j || sup.contains j))) = true := q2
    rw [Bool.and_eq_true, decide_eq_true_eq, decide_eq_true_eq] at q2
    have er : relX (bgOf P cs K) k j = (k == j || sup.contains j) := by
      unfold relX
      rw [(ca_at (P := P) (K := K) hat).2]
    rw [er]
    exact q2
  exn := fun k c' x sup fl e1 e2 => by
    have hat := cs_at e1 e2
    have tb : tbB (cTb cs) K = true := congrArg (fun z : AlM => z.2) c
    have q := List.all_eq_true.mp tb _ (cTb_cls hat)
    have q : ((c' == k) && (exB K (He.ga K x) && (!fl.isEmpty || PySem.W.excIn K (He.ga K x) PySem.HandSPX.veTail "ValueError.__new__"))) = true := q
    rw [Bool.and_eq_true, Bool.and_eq_true] at q
    obtain ⟨q1, q2, q3⟩ := q
    have hck := eq_of_beq q1
    subst hck
    obtain ⟨r1, r2⟩ := ca_at (P := P) (K := K) hat
    have hm : (x, T.cls c' sup fl) ∈ cs := List.mem_of_getElem? hat
    have fact : (cFa (x, T.cls c' sup fl)).ok K = true := says_fact c (List.mem_append_right _ (List.mem_append_right _ (List.mem_map.mpr ⟨_, hm, rfl⟩)))
    refine ⟨He.ga K x, r1, r2, He.glo_ok X G (x := x) fact, fun hf => ?_⟩
    subst hf
    exact q3
end
def dOf (s : Stmt) : He.DefD := match s with
  | .FunctionDef n a b _ _ _ sc _ _ _ => ⟨(n, none), n, n, a, b, sc, [], []⟩
  | _ => ⟨("", none), "", "", ⟨[], [], none, [], [], none, []⟩, [], ⟨.function, [], false, false, []⟩, [], []⟩
def dsOf (b : List Stmt) (is : List Nat) : List He.DefD := is.map fun i => dOf (b.getD i (.Pass ⟨0, 0, 0, 0⟩))
/-- what is wanted of a law's def -/
def spLaw (K : PySem.W.Frag) : Sp := fun vs H Q _ => ∃ (a : Addr) (ns : List Int), vs = [.ref a] ∧ SqL K H a (ns.map V.int) ∧ ns.length ≤ 63 ∧ ∀ H', Q (.bl true) H'
theorem fn_cx0 {prog : Program} {w : World} {K : PySem.W.Frag} {mg : Str → Option Value} {base : Heap} {k : Nat} {f : Addr} {fd : FuncData} {ps : List Str} {sp : Sp} (F : FnOk prog w K mg base (L2.CX prog w) k f fd ps sp) :
    FnOk prog w K mg base CX0 k f fd ps (fun vs H Q _ => sp vs H Q fun _ _ _ => False) where
  len := fun vs H Q E q => F.len vs H Q _ q
  run := fun A outer s H args us vs Q E hr e0 hb hv hs => codeAny_mono (F.run A outer s H args us vs Q _ hr e0 hb hv hs) fun r s' hq => by
    cases r with
    | error e =>
      obtain ⟨_, _, _, _, _, _, _, _, _, _, _, _, z⟩ := hq
      exact z.elim
    | ok fl => cases fl <;> exact hq
theorem size63 {n : Nat} (h : n ≤ 63) : n ≤ sizeLine := by rw [sizeLine_eq]; omega
theorem law_sp {P : List FD} {glb : Nat → Option T} {wf : Nat} {B : Bg} {d i : Nat} (hl : ∀ ns : List Int, ns.length ≤ 63 → ∃ g, callF P glb wf d i [.sh (.scr ns)] = .ok (false, .bl true) g) (vs : List V) (H : Hp) (Q : VK) (E : XK) (h : spLaw B.K vs H Q E) :
    spF P glb wf B d i 1 vs H Q fun _ _ _ => False := by
  obtain ⟨a, ns, rfl, hS, hn, hQ⟩ := h
  obtain ⟨g, e⟩ := hl ns hn
  refine ⟨rfl, fun _ => none, fun _ => 0, H, [.sh (.scr ns)], ⟨fun _ _ e => e, fun b o e => (by cases e), rfl, fun j s e => ?_, fun j k hj hk _ => ?_⟩, ?_⟩
  · cases j with
    | zero =>
      cases e
      exact ⟨.ref a, rfl, .scr hS (size63 hn)⟩
    | succ j => simp at e
  · exfalso
    cases j with
    | zero => exact hj
    | succ j => exact hj
  · rw [e]
    intro v H' G' s1 S1 r1
    cases (show Rp B G' v (.bl true) from r1)
    exact hQ H'
/-- the facts that the end wants -/
theorem law_facts {P : List FD} {cs : List (Str × T)} {D : List He.DefD} {K : PySem.W.Frag} {h : Heap} {mg : Str → Option Value} {prog : Program} {w : World} {f : Addr} {wf d i : Nat} {fd : FD} {x : Str} (X : K.In h) (G : h.Ns mainGlobals mg) (hfa : mg ("law" : Str) = some (.ref f))
    (c : SaysM (faOf P cs) D (cTb cs) K) (hc : chkB P (cs.map (·.1)) P D = true) (hk : cs.all (fun p => cOk p.2) = true) (hi : P[i]? = some fd) (hn : fd.name = "law") (hps : fd.ps = [x])
    (hl : ∀ ns : List Int, ns.length ≤ 63 → ∃ g, callF P (glbOf cs) wf d i [.sh (.scr ns)] = .ok (false, .bl true) g) :
    ∃ fdat : FuncData, (∀ (s : Shared) (v : Value), BindsTo s fdat ⟨[v], []⟩ [(x, v)]) ∧ ∀ base : Heap, K.In base → base.Ns mainGlobals mg → FnOk prog w K mg base CX0 d f fdat [x] (spLaw K) := by
  have Z := wd_of X G c hc hk
  obtain ⟨a, fdat, k1, k2, k3, k4, k5⟩ := fns_ok (prog := prog) (w := w) (wf := wf) Z d i fd hi
  rw [hn, hfa] at k1
  cases k1
  rw [hps] at k4 k5
  exact ⟨fdat, fun s v => k4 s [v] rfl, fun base _ _ => (fn_cx0 (k5 base)).imp fun vs H Q E h => law_sp hl vs H Q E h⟩
end MP
set_option maxHeartbeats 0
namespace Law
open PySem PySem.Spec L2 MP
def f_mask_of : FD where
  name := "mask_of"
  ps := ["places"]
  N := ["places", "mask", "place"]
  body := [
    .set 1 (.int 0),
    .for [2] false .seq [(.var 0)] [.aug 1 .BitOr (.op (.bin .LShift) [(.int 1), (.var 2)])],
    .ret (.var 1)]
def f_staying : FD where
  name := "staying"
  ps := ["width"]
  N := ["width", "place"]
  body := [
    .ret (.op .tupc [(.comp (.var 1) [1] false .range [(.var 0)] [] [1])])]
def f_then : FD where
  name := "then"
  ps := ["one", "other"]
  N := ["one", "other", "entry"]
  body := [
    .ret (.op .tupc [(.comp (.ife (.op (.cmp .GtE) [(.var 2), (.int 0)]) (.op .sub [(.var 0), (.var 2)]) (.var 2)) [2] false .seq [(.var 1)] [] [2])])]
def f_kept_by : FD where
  name := "kept_by"
  ps := ["leading"]
  N := ["leading", "entry"]
  body := [
    .ret (.call 0 [(.comp (.var 1) [1] false .seq [(.var 0)] [(.op (.cmp .GtE) [(.var 1), (.int 0)])] [1])])]
def f_is_even : FD where
  name := "is_even"
  ps := ["leading"]
  N := ["leading"]
  body := [
    .ret (.op (.cmp .Eq) [(.op .srt [(.var 0)]), (.op (.lrng false) [(.op .len [(.var 0)])])])]
def f_turned_back : FD where
  name := "turned_back"
  ps := ["leading"]
  N := ["leading", "found", "place", "entry"]
  body := [
    .ife (.not (.call 4 [(.var 0)])) [.rse 0] [],
    .set 1 (.op (.bin .Mult) [(.lst [(.int 0)]), (.op .len [(.var 0)])]),
    .for [2, 3] true .enum [(.var 0)] [.sts 1 (.var 3) (.var 2)],
    .ret (.op .tupc [(.var 1)])]
def f_law_hand : FD where
  name := "_law_hand"
  ps := ["_law_script"]
  N := ["_law_script", "_law_cell"]
  body := [
    .ret (.lst [(.comp (.op .abs [(.var 1)]) [1] false .seq [(.op (.slc false true) [(.var 0), (.int 63)])] [] [1]), (.int 0), (.int 0), (.int 0)])]
def f_law_draw : FD where
  name := "_law_draw"
  ps := ["_law_hand_here", "_law_many"]
  N := ["_law_hand_here", "_law_many", "_law_cell", "_law_once", "_law_twice", "_law_found"]
  body := [
    .sts 0 (.int 3) (.op (.bin .Add) [(.op .sub [(.var 0), (.int 3)]), (.int 1)]),
    .ife (.op (.cmp .Eq) [(.op .sub [(.var 0), (.int 2)]), (.int 0)]) [.set 2 (.int 0), .ife (.op (.cmp .Gt) [(.op .len [(.op .sub [(.var 0), (.int 0)])]), (.int 0)]) [.set 2 (.op .sub [(.op .sub [(.var 0), (.int 0)]), (.op (.bin .Mod) [(.op .sub [(.var 0), (.int 1)]), (.op .len [(.op .sub [(.var 0), (.int 0)])])])])] [], .sts 0 (.int 1) (.op (.bin .Add) [(.op .sub [(.var 0), (.int 1)]), (.int 1)]), .ife (.bop false [(.op (.cmp .Lt) [(.var 2), (.op (.bin .Pow) [(.int 10), (.int 18)])]), (.op (.cmp .Gt) [(.op .sub [(.var 0), (.int 1)]), (.op .len [(.op .sub [(.var 0), (.int 0)])])])]) [.set 3 (.op (.bin .Mod) [(.op (.bin .Mult) [(.op (.bin .Add) [(.op (.bin .Add) [(.op (.bin .Mod) [(.var 2), (.int 2147483629)]), (.op (.bin .Mult) [(.int 7919), (.op .sub [(.var 0), (.int 3)])])]), (.int 11)]), (.int 48271)]), (.int 2147483647)]), .set 4 (.op (.bin .Mod) [(.op (.bin .Add) [(.op (.bin .Mult) [(.var 3), (.op (.bin .Add) [(.op (.bin .Mod) [(.var 3), (.int 39373)]), (.op .sub [(.var 0), (.int 3)])])]), (.op (.bin .Mult) [(.int 104729), (.op .sub [(.var 0), (.int 3)])])]), (.int 1999999973)]), .ret (.op (.bin .Mod) [(.op (.bin .FloorDiv) [(.var 4), (.int 64)]), (.var 1)])] [], .sts 0 (.int 2) (.var 2)] [],
    .set 5 (.op (.bin .Mod) [(.op .sub [(.var 0), (.int 2)]), (.var 1)]),
    .sts 0 (.int 2) (.op (.bin .FloorDiv) [(.op .sub [(.var 0), (.int 2)]), (.var 1)]),
    .ret (.var 5)]
def f_law_width : FD where
  name := "_law_width"
  ps := ["_law_hand_here"]
  N := ["_law_hand_here", "_law_way"]
  body := [
    .set 1 (.call 7 [(.var 0), (.int 8)]),
    .ife (.op (.cmp .Eq) [(.var 1), (.int 0)]) [.ret (.op (.bin .Sub) [(.int 64), (.call 7 [(.var 0), (.int 17)])])] [],
    .ife (.op (.cmp .Lt) [(.var 1), (.int 3)]) [.ret (.op (.bin .Add) [(.int 9), (.call 7 [(.var 0), (.int 25)])])] [],
    .ret (.op (.bin .Add) [(.int 1), (.call 7 [(.var 0), (.int 8)])])]
def f_law_leading : FD where
  name := "_law_leading"
  ps := ["_law_hand_here", "_law_width_here"]
  N := ["_law_hand_here", "_law_width_here", "_law_way", "_law_p", "_law_some", "_law_k"]
  body := [
    .set 2 (.call 7 [(.var 0), (.int 4)]),
    .ife (.op (.cmp .Eq) [(.var 2), (.int 0)]) [.ret (.op .tupc [(.comp (.op (.bin .Sub) [(.call 7 [(.var 0), (.op (.bin .Add) [(.var 1), (.int 2)])]), (.int 2)]) [3] false .range [(.var 1)] [] [3])])] [],
    .ife (.op (.cmp .Eq) [(.var 2), (.int 1)]) [.set 4 (.comp (.call 7 [(.var 0), (.var 1)]) [5] false .range [(.int 3)] [] [5]), .ret (.op .tupc [(.comp (.op .sub [(.op (.bin .Add) [(.var 4), (.lst [(.op .neg [(.int 1)]), (.op .neg [(.int 2)])])]), (.call 7 [(.var 0), (.int 5)])]) [3] false .range [(.var 1)] [] [3])])] [],
    .ife (.op (.cmp .Eq) [(.var 2), (.int 2)]) [.ret (.call 10 [(.var 0), (.var 1)])] [],
    .ret (.op .tupc [(.comp (.ife (.op (.cmp .Gt) [(.call 7 [(.var 0), (.int 4)]), (.int 0)]) (.var 3) (.op (.bin .Sub) [(.op .neg [(.int 1)]), (.call 7 [(.var 0), (.int 2)])])) [3] false .range [(.var 1)] [] [3])])]
def f_law_even : FD where
  name := "_law_even"
  ps := ["_law_hand_here", "_law_width_here"]
  N := ["_law_hand_here", "_law_width_here", "_law_left", "_law_found"]
  body := [
    .set 2 (.op (.lrng false) [(.var 1)]),
    .set 3 (.lst []),
    .whl (.op (.cmp .NotEq) [(.var 2), (.lst [])]) [.app 3 (.pop 2 [(.call 7 [(.var 0), (.op .len [(.var 2)])])])],
    .ret (.op .tupc [(.var 3)])]
def f_law_from_bits : FD where
  name := "_law_from_bits"
  ps := ["_law_bits"]
  N := ["_law_bits", "_law_found", "_law_bit"]
  body := [
    .set 1 (.int 0),
    .for [2] false .rev [(.var 0)] [.set 1 (.op (.bin .Add) [(.op (.bin .Mult) [(.int 2), (.var 1)]), (.var 2)])],
    .ret (.var 1)]
def f_law_is : FD where
  name := "_law_is"
  ps := ["_law_found", "_law_due"]
  N := ["_law_found", "_law_due"]
  body := [
    .ret (.bop true [(.op (.isi 0) [(.var 0)]), (.not (.op (.isi 1) [(.var 0)])), (.op (.cmp .Eq) [(.var 0), (.var 1)])])]
def f_law_says : FD where
  name := "_law_says"
  ps := ["_law_found", "_law_due"]
  N := ["_law_found", "_law_due"]
  body := [
    .ret (.bop true [(.op (.isi 1) [(.var 0)]), (.op (.cmp .Eq) [(.var 0), (.var 1)])])]
def f_law_refused : FD where
  name := "_law_refused"
  ps := ["_law_leading_here"]
  N := ["_law_leading_here", "_law_caught", "error"]
  body := [
    .set 1 .non,
    .tri [.exp (.call 5 [(.var 0)])] 1 2 1,
    .ife (.bop false [(.not (.op .isn [(.var 1), (.glb 0)])), (.not (.op .isv [(.var 1)]))]) [.ret (.bl false)] [],
    .ret (.not (.op .isn [(.var 1), (.tup [(.glb 2), (.glb 3), (.glb 4)])]))]
def f_law_right : FD where
  name := "_law_right"
  ps := ["_law_leading_here"]
  N := ["_law_leading_here", "_law_width_here", "_law_kept", "_law_place", "_law_often", "_law_due", "_law_home"]
  body := [
    .set 1 (.op .len [(.var 0)]),
    .set 2 (.call 11 [(.comp (.op .intc [(.op (.cmp .In) [(.var 3), (.var 0)])]) [3] false .range [(.var 1)] [] [3])]),
    .set 4 (.comp (.tmt true (.var 0) (.var 3)) [3] false .range [(.var 1)] [] [3]),
    .set 5 (.op (.cmp .Eq) [(.var 4), (.op (.bin .Mult) [(.lst [(.int 1)]), (.var 1)])]),
    .ife (.bop false [(.not (.call 12 [(.call 3 [(.var 0)]), (.var 2)])), (.not (.call 13 [(.call 4 [(.var 0)]), (.var 5)]))]) [.ret (.bl false)] [],
    .ife (.not (.var 5)) [.ret (.call 14 [(.var 0)])] [],
    .set 6 (.call 5 [(.var 0)]),
    .ife (.bop false [(.not (.op (.isi 3) [(.var 6)])), (.op (.cmp .NotEq) [(.call 5 [(.var 6)]), (.var 0)])]) [.ret (.bl false)] [],
    .ret (.bop true [(.op (.cmp .Eq) [(.call 2 [(.var 0), (.var 6)]), (.call 1 [(.var 1)])]), (.op (.cmp .Eq) [(.call 2 [(.var 6), (.var 0)]), (.call 1 [(.var 1)])])])]
def f_law : FD where
  name := "law"
  ps := ["_law_script"]
  N := ["_law_script", "_law_hand_here", "_law_turn", "_law_width_here", "_law_leading_here", "_law_k", "_law_entry"]
  body := [
    .set 1 (.call 6 [(.var 0)]),
    .for [2] false .range [(.int 20)] [.set 3 (.call 8 [(.var 1)]), .set 4 (.call 9 [(.var 1), (.var 3)]), .ife (.op (.cmp .Eq) [(.call 7 [(.var 1), (.int 2)]), (.int 0)]) [.set 4 (.call 10 [(.var 1), (.var 3)])] [], .ife (.not (.call 15 [(.var 4)])) [.ret (.bl false)] [], .set 5 (.call 7 [(.var 1), (.var 3)]), .set 6 (.op .sub [(.lst [(.op .neg [(.int 1)]), (.op .neg [(.int 2)]), (.call 7 [(.var 1), (.var 3)])]), (.call 7 [(.var 1), (.int 3)])]), .ife (.not (.call 15 [(.op (.bin .Add) [(.op (.bin .Add) [(.op (.slc false true) [(.var 4), (.var 5)]), (.tup [(.var 6)])]), (.op (.slc true false) [(.var 4), (.op (.bin .Add) [(.var 5), (.int 1)])])])])) [.ret (.bl false)] []],
    .ret (.bl true)]
def P : List FD := [f_mask_of, f_staying, f_then, f_kept_by, f_is_even, f_turned_back, f_law_hand, f_law_draw, f_law_width, f_law_leading, f_law_even, f_law_from_bits, f_law_is, f_law_says, f_law_refused, f_law_right, f_law]
def cs : List (Str × T) := [("Uneven", (.cls 0 [1] [])), ("LeadError", (.cls 1 [] [])), ("BadRow", (.cls 2 [1] [114, 111, 119])), ("Lost", (.cls 3 [1] [112, 108, 97, 99, 101])), ("Unhalved", (.cls 4 [1] []))]
def D : List He.DefD := dsOf PySem.Challenge.pw_bitlead_k05_even_ones_led_back.main.body [7, 9, 10, 11, 12, 13, 15, 16, 17, 18, 19, 20, 21, 22, 23, 24, 25]
theorem chk : chkB P (cs.map (·.1)) P D = true := by decide +kernel
theorem cok : cs.all (fun p => cOk p.2) = true := by decide +kernel
abbrev R : PySem.W.OpenRow := PySem.W.OpenLaw.row PySem.Challenge.rw_bitlead_k05_even_ones_led_back
abbrev hk : PySem.W.Hook := hookM 4 (faOf P cs) D (cTb cs)
def ob (s : PySem.W.SharedT) : AlM := obsMG 4 (faOf P cs) D (cTb cs) (HandSHeadRun.getT s)
theorem ob_eq (s : PySem.W.SharedT) : ob s = hk.obs s.abs := obsMG_eq (HandSHeadRun.getT_eq s)
def loose : List PySem.Str := (["LeadError", "Uneven", "Unhalved", "Lost", "BadRow", "mask_of", "staying", "then", "kept_by", "is_even", "turned_back", "_law_hand", "_law_draw", "_law_width", "_law_leading", "_law_even", "_law_from_bits", "_law_is", "_law_says", "_law_refused", "_law_right"] : List PySem.Str)
theorem run (w : World) : HandSHeadRun.RunEq R (PySem.W.view R.prog [25]) hk ob 3000 loose w := by
  intro os
  kernel_rfl
end Law
namespace MP
open PySem
universe u
/-- keeps what it stands by from being looked into -/
inductive Tg {α : Sort u} (a : α) : Type
  | mk | no
def Ok {α : Type} (r : R α) (Q : α → En → Prop) (_ : Tg Q := .mk) : Prop := match r with
  | .ok a g => Q a g
  | _ => False
section
variable {α β : Type} {Q Q' : α → En → Prop}
theorem ok_fun {r : R α} (h : ∀ a g, Q a g = Q' a g) : Ok r Q = Ok r Q' := by
  have e : Q = Q' := funext fun a => funext fun g => h a g
  rw [e]
theorem Ok.mono {r : R α} (h : Ok r Q) (k : ∀ a g, Q a g → Q' a g) : Ok r Q' := by
  cases r with
  | ok a g => exact k a g h
  | ex x g => exact h
  | bad => exact h
theorem ok_ok (a : α) (g : En) : Ok (.ok a g) Q = Q a g := rfl
theorem ok_bad : Ok (.bad : R α) Q = False := rfl
theorem ok_bind {r : R β} {f : β → En → R α} : Ok (r.bind f) Q = Ok r fun a g => Ok (f a g) Q := by cases r <;> rfl
theorem Ok.get {r : R α} (h : Ok r Q) : ∃ a g, r = .ok a g ∧ Q a g := by
  cases r with
  | ok a g => exact ⟨a, g, rfl, h⟩
  | ex x g => exact h.elim
  | bad => exact h.elim
theorem ok_done {o : Option En} {Q : Fl → En → Prop} : Ok (doneS o) Q = match o with
  | some g => Q .nx g
  | none => False := by cases o <;> rfl
end
/-- what a body comes to, for its caller -/
def Rt (as : List Sl) (Q : Bool × T → En → Prop) : Fl → En → Prop
  | .nx, g => Q (false, .non) (outS as g)
  | .rt fr t, g => Q (fr, t) (outS as g)
abbrev CA (P : List FD) (glb : Nat → Option T) (wf d : Nat) : Cn := ⟨callF P glb wf d, glb, wf⟩
theorem call_ok {P : List FD} {glb : Nat → Option T} {wf d f : Nat} {fd : FD} {as : List Sl} {Q : Bool × T → En → Prop} (hf : P[f]? = some fd) (hl : as.length = fd.ps.length)
    (h : Ok (evSs (CA P glb wf d) fd.body (as ++ List.replicate (fd.N.length - as.length) .un)) (Rt as Q)) : Ok (callF P glb wf (d + 1) f as) Q := by
  unfold callF
  rw [hf]
  show Ok (if as.length = fd.ps.length then _ else _) Q
  rw [if_pos hl]
  cases e : evSs (CA P glb wf d) fd.body (as ++ List.replicate (fd.N.length - as.length) .un) with
  | bad => rw [e] at h; exact h.elim
  | ex x g => rw [e] at h; exact h.elim
  | ok fl g =>
    rw [e] at h
    cases fl with
    | nx => exact h
    | rt fr t => exact h
/-- something that is there, and so -/
def Os {α : Type} (o : Option α) (Q : α → Prop) (_ : Tg Q := .mk) : Prop := match o with
  | some a => Q a
  | none => False
/-- a truth, and so -/
def Bl (t : T) (Q : Bool → Prop) (_ : Tg Q := .mk) : Prop := match t with
  | .bl b => Q b
  | _ => False
def Fn (f : Fl) (Q : Prop) (K : Fl → Prop) (_ : Tg Q := .mk) (_ : Tg K := .mk) : Prop := match f with
  | .nx => Q
  | .rt fr t => K (.rt fr t)
section
variable {α β : Type} {Q : α → Prop}
theorem os_some (a : α) : Os (some a) Q = Q a := rfl
theorem os_none : Os (none : Option α) Q = False := rfl
theorem os_bind {o : Option β} {f : β → Option α} : Os (o.bind f) Q = Os o fun a => Os (f a) Q := by cases o <;> rfl
theorem os_map {o : Option β} {f : β → α} : Os (o.map f) Q = Os o fun a => Q (f a) := by cases o <;> rfl
theorem os_ifn {c : Prop} [Decidable c] {a : Option α} : Os (if c then a else none) Q = (c ∧ Os a Q) := by
  split
  · rename_i h; simp [h]
  · rename_i h; simp [h, Os]
theorem Os.mono {o : Option α} {Q' : α → Prop} (h : Os o Q) (k : ∀ a, Q a → Q' a) : Os o Q' := by
  cases o with
  | some a => exact k a h
  | none => exact h.elim
theorem os_eq {o : Option α} {a : α} (h : o = some a) (q : Q a) : Os o Q := by rw [h]; exact q
theorem bl_bl (b : Bool) {Q : Bool → Prop} : Bl (.bl b) Q = Q b := rfl
theorem bl_fun {t : T} {Q Q' : Bool → Prop} (h : ∀ b, Q b = Q' b) : Bl t Q = Bl t Q' := by
  have e : Q = Q' := funext h
  rw [e]
theorem os_fun {α : Type} {o : Option α} {Q Q' : α → Prop} (h : ∀ a, Q a = Q' a) : Os o Q = Os o Q' := by
  have e : Q = Q' := funext h
  rw [e]
theorem fn_nx {Q : Prop} {K : Fl → Prop} : Fn .nx Q K = Q := rfl
theorem fn_rt {Q : Prop} {K : Fl → Prop} {fr : Bool} {t : T} : Fn (.rt fr t) Q K = K (.rt fr t) := rfl
theorem rt_nx {as : List Sl} {g : En} {Q : Bool × T → En → Prop} : Rt as Q .nx g = Q (false, .non) (outS as g) := rfl
theorem rt_rt {as : List Sl} {g : En} {Q : Bool × T → En → Prop} {fr : Bool} {t : T} : Rt as Q (.rt fr t) g = Q (fr, t) (outS as g) := rfl
end
section
variable {C : Cn} {Q : Fl → En → Prop} {K : Bool × T → En → Prop} {KB : Bool → En → Prop} {KT : List T → En → Prop} {KO : List Od → En → Prop} {g : En}
theorem ok_doneS {o : Option En} : Ok (doneS o) Q = Os o fun g => Q .nx g := by cases o <;> rfl
theorem ok_blOf {r : R (Bool × T)} : Ok (blOf r) KB = Ok r fun x g => Bl x.2 fun b => KB b g := by
  cases r with
  | bad => rfl
  | ex x g => rfl
  | ok a g =>
    obtain ⟨fr, t⟩ := a
    cases t <;> rfl
theorem w_nil : Ok (evSs C [] g) Q = Q .nx g := by rw [evSs]; rfl
theorem w_cons {s : S} {ss : List S} : Ok (evSs C (s :: ss) g) Q = Ok (evS C s g) fun f g1 => Fn f (Ok (evSs C ss g1) Q) fun f => Q f g1 := by
  rw [evSs, ok_bind]
  refine ok_fun fun f g1 => ?_
  cases f <;> rfl
theorem w_set {i : Nat} {e : E} : Ok (evS C (.set i e) g) Q = Ok (ev C e g) fun x g1 => Os (setS g1 i (if x.1 then .ow x.2 else .sh x.2)) fun g2 => Q .nx g2 := by
  rw [evS, ok_bind]
  refine ok_fun fun x g1 => ?_
  rw [ok_doneS]
theorem w_unp {is : List Nat} {e : E} : Ok (evS C (.unp is e) g) Q = Ok (ev C e g) fun x g1 => Os (tgtF is true x.2 g1) fun g2 => Q .nx g2 := by
  rw [evS, ok_bind]
  refine ok_fun fun x g1 => ?_
  rw [ok_doneS]
theorem w_par {is : List Nat} {es : List E} : Ok (evS C (.par is es) g) Q = Ok (evFs C es g) fun ts g1 => nodupB is = true ∧ Os (asgs is ts g1) fun g2 => Q .nx g2 := by
  rw [evS, ok_bind]
  refine ok_fun fun x g1 => ?_
  rw [ok_doneS, os_ifn]
theorem w_aug {i : Nat} {o : Operator} {e : E} : Ok (evS C (.aug i o e) g) Q = Os (g[i]?) fun s => match s with
    | .sh x => Ok (ev C e g) fun y g1 => Os (augF o x y.2) fun z => Os (setS g1 i (.sh z)) fun g2 => Q .nx g2
    | _ => False := by
  rw [evS]
  cases g[i]? with
  | none => rfl
  | some s =>
    cases s with
    | sh x =>
      show Ok (R.bind _ _) _ = Ok _ _
      rw [ok_bind]
      refine ok_fun fun y g1 => ?_
      cases augF o x y.2 with
      | none => rfl
      | some z => exact ok_doneS
    | _ => rfl
theorem w_dst {i : Nat} {k e : E} : Ok (evS C (.dst i k e) g) Q = Ok (ev C e g) fun v g1 => Os (ownS g1 i) fun l => match l with
    | .dct _ => Ok (ev C k g1) fun j g2 => Os (stD g2 i j.2 v.2) fun g3 => Q .nx g3
    | _ => False := by
  rw [evS, ok_bind]
  refine ok_fun fun v g1 => ?_
  cases ownS g1 i with
  | none => rfl
  | some l =>
    cases l <;> first
      | rfl
      | (rw [os_some]
         show Ok ((ev C k g1).bind fun j g2 => doneS (stD g2 i j.2 v.2)) Q = _
         rw [ok_bind]
         exact ok_fun fun j g2 => ok_doneS)
theorem os_stD {i : Nat} {k v : T} {Q : En → Prop} : Os (stD g i k v) Q = Os (ownS g i) fun l => match l with
    | .dct kvs => (k.keyB && decide (kvs.length < sizeLine)) = true ∧ Os (putS g i (.dct (putKT kvs k v))) Q
    | _ => False := by
  unfold stD
  cases ownS g i with
  | none => rfl
  | some l =>
    cases l <;> first
      | rfl
      | exact os_ifn
theorem os_stL {i : Nat} {j v : T} {Q : En → Prop} : Os (stL g i j v) Q = Os (ownS g i) fun l => match l, j with
    | .lst xs, .int n => Os (L2.ixN xs.length n) fun m => Os (putS g i (.lst (xs.set m v))) Q
    | _, _ => False := by
  unfold stL
  cases ownS g i with
  | none => rfl
  | some l =>
    cases l <;> cases j <;> first
      | rfl
      | exact os_bind
theorem two2_t {v w : T} : two2 (.tup [v, w]) = some (v, w) := rfl
theorem w_st2 {i : Nat} {a b e : E} : Ok (evS C (.st2 i a b e) g) Q = Ok (ev C e g) fun r g1 => Os (two2 r.2) fun p => lstB g1 i = true ∧ Ok (ev C a g1) fun j g2 => Os (stL g2 i j.2 p.1) fun g3 =>
    lstB g3 i = true ∧ Ok (ev C b g3) fun k g4 => Os (stL g4 i k.2 p.2) fun g5 => Q .nx g5 := by
  rw [evS, ok_bind]
  refine ok_fun fun r g1 => ?_
  cases two2 r.2 with
  | none => rfl
  | some p =>
    rw [os_some]
    show Ok (if lstB g1 i then (ev C a g1).bind fun j g2 => (match stL g2 i j.2 p.1 with
      | none => .bad
      | some g3 => if lstB g3 i then (ev C b g3).bind fun k g4 => doneS (stL g4 i k.2 p.2) else .bad) else .bad) Q = _
    cases lstB g1 i with
    | false => simp [Ok]
    | true =>
      rw [if_pos rfl, ok_bind]
      simp only [true_and]
      refine ok_fun fun j g2 => ?_
      cases stL g2 i j.2 p.1 with
      | none => rfl
      | some g3 =>
        rw [os_some]
        show Ok (if lstB g3 i then (ev C b g3).bind fun k g4 => doneS (stL g4 i k.2 p.2) else .bad) Q = _
        cases lstB g3 i with
        | false => simp [Ok]
        | true =>
          rw [if_pos rfl, ok_bind]
          simp only [true_and]
          exact ok_fun fun k g4 => ok_doneS
theorem w_sts {i : Nat} {k e : E} : Ok (evS C (.sts i k e) g) Q = Ok (ev C e g) fun v g1 => lstB g1 i = true ∧ Ok (ev C k g1) fun j g2 => Os (ownS g2 i) fun l => match l, j.2 with
    | .lst xs, .int n => Os (L2.ixN xs.length n) fun m => Os (putS g2 i (.lst (xs.set m v.2))) fun g3 => Q .nx g3
    | _, _ => False := by
  rw [evS, ok_bind]
  refine ok_fun fun v g1 => ?_
  cases lstB g1 i with
  | false => simp [Ok]
  | true =>
    rw [if_pos rfl, ok_bind]
    simp only [true_and]
    refine ok_fun fun j g2 => ?_
    obtain ⟨fr, t⟩ := j
    cases ownS g2 i with
    | none => rfl
    | some l =>
      cases l <;> first
        | rfl
        | (cases t <;> first
            | rfl
            | (rename_i xs n
               show Ok (match L2.ixN xs.length n with | some m => doneS (putS g2 i (.lst (xs.set m v.2))) | none => .bad) Q = Os (L2.ixN xs.length n) fun m => Os (putS g2 i (.lst (xs.set m v.2))) fun g3 => Q .nx g3
               cases L2.ixN xs.length n with
               | none => rfl
               | some m => exact ok_doneS))
theorem w_app {i : Nat} {e : E} : Ok (evS C (.app i e) g) Q = (lstB g i = true ∧ Ok (ev C e g) fun v g1 => Os (ownS g1 i) fun l => match l with
    | .lst xs => xs.length < sizeLine ∧ Os (putS g1 i (.lst (xs ++ [v.2]))) fun g2 => Q .nx g2
    | _ => False) := by
  rw [evS]
  cases lstB g i with
  | false => simp [Ok]
  | true =>
    rw [if_pos rfl, ok_bind]
    simp only [true_and]
    refine ok_fun fun v g1 => ?_
    cases ownS g1 i with
    | none => rfl
    | some l =>
      cases l <;> first
        | rfl
        | (rename_i xs
           show Ok (if xs.length < sizeLine then doneS (putS g1 i (.lst (xs ++ [v.2]))) else .bad) Q = _
           split
           · rename_i h
             rw [ok_doneS]
             simp [Os, h]
           · rename_i h
             simp [Os, h, Ok])
theorem w_ext {i : Nat} {e : E} : Ok (evS C (.ext i e) g) Q = (lstB g i = true ∧ Ok (ev C e g) fun v g1 => Os (ownS g1 i) fun l => match l, v.2 with
    | .lst xs, .lst ys => xs.length + ys.length ≤ sizeLine ∧ Os (putS g1 i (.lst (xs ++ ys))) fun g2 => Q .nx g2
    | _, _ => False) := by
  rw [evS]
  cases lstB g i with
  | false => simp [Ok]
  | true =>
    rw [if_pos rfl, ok_bind]
    simp only [true_and]
    refine ok_fun fun v g1 => ?_
    obtain ⟨fr, t⟩ := v
    cases ownS g1 i with
    | none => rfl
    | some l =>
      cases l <;> first
        | rfl
        | (cases t <;> first
            | rfl
            | (rename_i xs ys
               show Ok (if xs.length + ys.length ≤ sizeLine then doneS (putS g1 i (.lst (xs ++ ys))) else .bad) Q = _
               split
               · rename_i h
                 rw [ok_doneS]
                 simp [Os, h]
               · rename_i h
                 simp [Os, h, Ok]))
theorem w_ins {i : Nat} {k e : E} : Ok (evS C (.ins i k e) g) Q = (lstB g i = true ∧ Ok (evFs C [k, e] g) fun ts g1 => Ok (insS i ts g1) Q) := by
  rw [evS]
  cases lstB g i with
  | false => simp [Ok]
  | true => rw [if_pos rfl, ok_bind]; simp
theorem w_exp {e : E} : Ok (evS C (.exp e) g) Q = Ok (ev C e g) fun _ g1 => Q .nx g1 := by rw [evS, ok_bind]; rfl
theorem w_ret {e : E} : Ok (evS C (.ret e) g) Q = Ok (retE C e g) fun x g1 => Q (.rt x.1 x.2) g1 := by rw [evS, ok_bind]; rfl
theorem w_retn : Ok (evS C .retn g) Q = Q (.rt false .non) g := by rw [evS]; rfl
theorem w_ife {c : E} {a b : List S} : Ok (evS C (.ife c a b) g) Q = Ok (ev C c g) fun x g1 => Bl x.2 fun d => if d = true then Ok (evSs C a g1) Q else Ok (evSs C b g1) Q := by
  rw [evS, ok_bind, ok_blOf]
  refine ok_fun fun x g1 => ?_
  refine bl_fun fun d => ?_
  cases d <;> rfl
theorem w_whl {c : E} {b : List S} : Ok (evS C (.whl c b) g) Q = Ok (whileL (fun g => blOf (ev C c g)) (fun g => evSs C b g) C.wf g) Q := by rw [evS]
theorem w_for {tgs : List Nat} {tp : Bool} {k : IK} {es : List E} {b : List S} : Ok (evS C (.for tgs tp k es b) g) Q = Ok (evOs C es g) fun os g1 => Os ((odTs g1 os).bind (itN k)) fun n => okFor tgs b os = true ∧ Ok (forL (fun g => evSs C b g) tgs tp k n os n.1 0 g1) Q := by
  rw [evS, ok_bind]
  refine ok_fun fun os g1 => ?_
  cases (odTs g1 os).bind (itN k) with
  | none => rfl
  | some n =>
    show Ok (if okFor tgs b os = true then _ else _) Q = _
    simp only [os_some]
    cases okFor tgs b os with
    | true => simp
    | false => simp [Ok]
theorem w_non : Ok (ev C .non g) K = K (false, .non) g := by rw [ev]; rfl
theorem w_bl {b : Bool} : Ok (ev C (.bl b) g) K = K (false, .bl b) g := by rw [ev]; rfl
theorem w_int {i : Int} : Ok (ev C (.int i) g) K = K (false, .int i) g := by rw [ev]; rfl
theorem w_str {x : List Nat} : Ok (ev C (.str x) g) K = K (false, .str x) g := by rw [ev]; rfl
theorem w_var {i : Nat} : Ok (ev C (.var i) g) K = Os (g[i]?) fun s => match s with
    | .sh t => K (false, t) g
    | .fz t => K (false, t) g
    | .ow t => K (false, t) (g.set i (.sh t))
    | .io t => K (false, t) (g.set i (.fz t))
    | .un => False := by
  rw [ev]
  cases g[i]? with
  | none => rfl
  | some s => cases s <;> rfl
theorem w_glb {k : Nat} : Ok (ev C (.glb k) g) K = Os (C.glb k) fun t => K (false, t) g := by
  rw [ev]
  cases C.glb k <;> rfl
theorem w_tup {es : List E} : Ok (ev C (.tup es) g) K = Ok (evFs C es g) fun ts g' => ts.length ≤ sizeLine ∧ K (false, .tup ts) g' := by
  rw [ev, ok_bind]
  refine ok_fun fun ts g' => ?_
  split
  · rename_i h; simp [h, Ok]
  · rename_i h; simp [h, Ok]
theorem w_lst {es : List E} : Ok (ev C (.lst es) g) K = Ok (evFs C es g) fun ts g' => ts.length ≤ sizeLine ∧ K (true, .lst ts) g' := by
  rw [ev, ok_bind]
  refine ok_fun fun ts g' => ?_
  split
  · rename_i h; simp [h, Ok]
  · rename_i h; simp [h, Ok]
theorem w_op {o : Op} {es : List E} : Ok (ev C (.op o es) g) K = Ok (evOs C es g) fun os g' => Os (odTs g' os) fun ts => Os (opF o ts) fun r => K r g' := by
  rw [ev, ok_bind]
  refine ok_fun fun os g' => ?_
  rw [← os_bind]
  cases (odTs g' os).bind (opF o) <;> rfl
theorem w_chn {o1 o2 : CmpOp} {a b c : E} : Ok (ev C (.chn o1 o2 a b c) g) K = Ok (ev C a g) fun x g1 => Ok (ev C b g1) fun y g2 => Os (cmpF o1 x.2 y.2) fun d => if d = true then Ok (ev C c g2) fun z g3 => Os (cmpF o2 y.2 z.2) fun e => K (false, .bl e) g3 else K (false, .bl false) g2 := by
  rw [ev, ok_bind]
  refine ok_fun fun x g1 => ?_
  rw [ok_bind]
  refine ok_fun fun y g2 => ?_
  cases cmpF o1 x.2 y.2 with
  | none => rfl
  | some d =>
    cases d with
    | false => rfl
    | true =>
      show Ok (R.bind _ _) K = Ok _ _
      rw [ok_bind]
      refine ok_fun fun z g3 => ?_
      cases cmpF o2 y.2 z.2 <;> rfl
theorem w_not {a : E} : Ok (ev C (.not a) g) K = Ok (ev C a g) fun x g1 => Bl x.2 fun b => K (false, .bl (!b)) g1 := by
  rw [ev, ok_bind]
  refine ok_fun fun x g1 => ?_
  obtain ⟨fr, t⟩ := x
  cases t <;> rfl
theorem w_ifx {c a b : E} : Ok (ev C (.ife c a b) g) K = Ok (ev C c g) fun x g1 => Bl x.2 fun d => if d = true then Ok (ev C a g1) K else Ok (ev C b g1) K := by
  rw [ev, ok_bind]
  refine ok_fun fun x g1 => ?_
  obtain ⟨fr, t⟩ := x
  cases t with
  | bl b => cases b <;> rfl
  | _ => rfl
theorem w_bop {a : Bool} {es : List E} : Ok (ev C (.bop a es) g) K = Ok (evBs C a es g) K := by rw [ev]
theorem w_b1 {a : Bool} {e : E} : Ok (evBs C a [e] g) K = Ok (ev C e g) K := by rw [evBs]
theorem w_b2 {a : Bool} {e e' : E} {es : List E} : Ok (evBs C a (e :: e' :: es) g) K = Ok (ev C e g) fun x g1 => Bl x.2 fun b => if b = a then Ok (evBs C a (e' :: es) g1) K else K (false, .bl b) g1 := by
  rw [evBs, ok_bind]
  refine ok_fun fun x g1 => ?_
  obtain ⟨fr, t⟩ := x
  cases t with
  | bl b =>
    show Ok (if b = a then _ else _) K = if b = a then _ else _
    split <;> rfl
  | _ => rfl
theorem w_call {f : Nat} {es : List E} : Ok (ev C (.call f es) g) K = Ok (evOs C es g) fun os g' => Ok (doCall C f os g') K := by rw [ev, ok_bind]
theorem w_do {f : Nat} {os : List Od} : Ok (doCall C f os g) K = Os (odAs g os) fun as => nodupB (refs os as) = true ∧ Ok (C.call f as) fun r outs => Os (backs os as outs g) fun g' => K r g' := by
  unfold doCall
  cases odAs g os with
  | none => rfl
  | some as =>
    show Ok (if nodupB (refs os as) = true then _ else _) K = _
    simp only [os_some]
    cases nodupB (refs os as) with
    | false => simp [Ok]
    | true =>
      simp only [if_true, true_and]
      cases C.call f as with
      | bad => rfl
      | ex x outs =>
        show Ok (match backs os as outs g with | some g' => .ex x g' | none => .bad) K = False
        cases backs os as outs g <;> rfl
      | ok r outs =>
        show Ok (match backs os as outs g with | some g' => .ok r g' | none => .bad) K = Os (backs os as outs g) fun g' => K r g'
        cases backs os as outs g <;> rfl
theorem w_pop {i : Nat} {es : List E} : Ok (ev C (.pop i es) g) K = (lstB g i = true ∧ Ok (evFs C es g) fun ts g' => Ok (popF i ts g') K) := by
  rw [ev]
  cases lstB g i with
  | false => simp [Ok]
  | true => rw [if_pos rfl, ok_bind]; simp
theorem w_ixl {i : Nat} {es : List E} : Ok (ev C (.ixl i es) g) K = (lstB g i = true ∧ Ok (evFs C es g) fun ts g' => Ok (ixlF i ts g') K) := by
  rw [ev]
  cases lstB g i with
  | false => simp [Ok]
  | true => rw [if_pos rfl, ok_bind]; simp
theorem w_rdv {i : Nat} : Ok (ev C (.rdv i) g) K = Os (g[i]?) fun s => match s with
    | .sh t => K (false, t) g
    | .fz t => K (false, t) g
    | .ow t => K (false, t) (g.set i (.sh t))
    | .io t => K (false, t) (g.set i (.fz t))
    | .un => False := by
  rw [ev]
  cases g[i]? with
  | none => rfl
  | some s => cases s <;> rfl
theorem w_tmt {c : Bool} {e a : E} : Ok (ev C (.tmt c e a) g) K = Ok (ev C e g) fun x g1 => match x.2 with
    | .tup ts => Ok (ev C a g1) fun y g2 => Os (tmtF c ts y.2) fun t => K (false, t) g2
    | _ => False := by
  rw [ev, ok_bind]
  refine ok_fun fun x g1 => ?_
  obtain ⟨fr, t⟩ := x
  cases t <;> first
    | rfl
    | (show Ok ((ev C a g1).bind _) K = _
       rw [ok_bind]
       exact ok_fun fun y g2 => by
         generalize tmtF c _ y.2 = o
         cases o <;> rfl)
theorem w_fnv {f : Nat} : Ok (ev C (.fnv f) g) K = K (false, .fn f) g := by rw [ev]; rfl
theorem w_cal {e : E} {es : List E} : Ok (ev C (.cal e es) g) K = Ok (ev C e g) fun x g1 => match x.2 with
    | .fn f => Ok (evOs C es g1) fun os g2 => Ok (doCall C f os g2) K
    | _ => False := by
  rw [ev, ok_bind]
  refine ok_fun fun x g1 => ?_
  obtain ⟨fr, t⟩ := x
  cases t <;> first
    | rfl
    | (show Ok ((evOs C es g1).bind _) K = _
       rw [ok_bind])
theorem w_dsp {es : List E} : Ok (ev C (.dsp es) g) K = Ok (evFs C es g) fun ts g1 => Os (pairsT ts) fun kts => kts.length ≤ 15 ∧ K (true, .dct (dspT kts)) g1 := by
  rw [ev, ok_bind]
  refine ok_fun fun ts g1 => ?_
  cases pairsT ts with
  | none => rfl
  | some kts =>
    show Ok (if kts.length ≤ 15 then _ else _) K = (kts.length ≤ 15 ∧ _)
    split
    · rename_i h; exact propext ⟨fun q => ⟨h, q⟩, fun q => q.2⟩
    · rename_i h; exact propext ⟨fun q => q.elim, fun q => absurd q.1 h⟩
theorem w_dgt {e k d : E} : Ok (ev C (.dgt e k d) g) K = Ok (ev C e g) fun x g1 => match x.2 with
    | .dct kvs => Ok (ev C k g1) fun y g2 => Ok (ev C d g2) fun z g3 => y.2.keyB = true ∧ K (false, (getK y.2 kvs).getD z.2) g3
    | _ => False := by
  rw [ev, ok_bind]
  refine ok_fun fun x g1 => ?_
  obtain ⟨fr, t⟩ := x
  cases t <;> first
    | rfl
    | (show Ok ((ev C k g1).bind _) K = _
       rw [ok_bind]
       refine ok_fun fun y g2 => ?_
       rw [ok_bind]
       refine ok_fun fun z g3 => ?_
       show Ok (if y.2.keyB = true then _ else _) K = (y.2.keyB = true ∧ _)
       split
       · rename_i h; exact propext ⟨fun q => ⟨h, q⟩, fun q => q.2⟩
       · rename_i h; exact propext ⟨fun q => q.elim, fun q => absurd q.1 h⟩)
theorem w_dnew : Ok (ev C .dnew g) K = K (true, .dct []) g := by rw [ev]; rfl
theorem w_comp {elt : E} {tgs : List Nat} {tp : Bool} {k : IK} {es cs : List E} {own : List Nat} : Ok (ev C (.comp elt tgs tp k es cs own) g) K = Ok (evOs C es g) fun os g1 => Os ((odTs g1 os).bind (itN k)) fun n => plainS g1 own = true ∧
    Ok (compL (fun g => ev C elt g) (fun g => evTs C cs g) tgs tp k n os own n.1 0 [] (wipeS g1 own)) fun ts g2 => K (true, .lst ts) (giveS g2 g1 own) := by
  rw [ev, ok_bind]
  refine ok_fun fun os g1 => ?_
  cases (odTs g1 os).bind (itN k) with
  | none => rfl
  | some n =>
    show Ok (if plainS g1 own = true then _ else _) K = _
    simp only [os_some]
    cases plainS g1 own with
    | false => simp [Ok]
    | true =>
      simp only [if_true, true_and]
      cases compL (fun g => ev C elt g) (fun g => evTs C cs g) tgs tp k n os own n.1 0 [] (wipeS g1 own) <;> rfl
theorem w_fs0 : Ok (evFs C [] g) KT = KT [] g := by rw [evFs]; rfl
theorem w_fs {e : E} {es : List E} : Ok (evFs C (e :: es) g) KT = Ok (ev C e g) fun x g1 => Ok (evFs C es g1) fun xs g2 => KT (x.2 :: xs) g2 := by
  rw [evFs, ok_bind]
  refine ok_fun fun x g1 => ?_
  rw [ok_bind]
  rfl
theorem w_os0 : Ok (evOs C [] g) KO = KO [] g := by rw [evOs]; rfl
theorem w_os {e : E} {es : List E} : Ok (evOs C (e :: es) g) KO = match ownVar e g with
    | some i => Ok (evOs C es g) fun os g2 => KO (.s i :: os) g2
    | none => Ok (ev C e g) fun x g1 => Ok (evOs C es g1) fun os g2 => KO (.t x.2 :: os) g2 := by
  rw [evOs]
  cases ownVar e g with
  | some i =>
    show Ok (R.bind _ _) KO = Ok _ _
    rw [ok_bind]
    rfl
  | none =>
    show Ok (R.bind _ _) KO = Ok _ _
    rw [ok_bind]
    refine ok_fun fun x g1 => ?_
    rw [ok_bind]
    rfl
theorem w_ts0 : Ok (evTs C [] g) KB = KB true g := by rw [evTs]; rfl
theorem w_ts1 {e : E} : Ok (evTs C [e] g) KB = Ok (ev C e g) fun x g1 => Bl x.2 fun b => KB b g1 := by rw [evTs, ok_blOf]
end
/-- a slot that may be stored -/
def stB : Sl → Bool
  | .un => true
  | .sh _ => true
  | .ow _ => true
  | _ => false
def stO : Option Sl → Bool
  | some s => stB s
  | none => false
theorem stO_some {s : Sl} : stO (some s) = stB s := rfl
theorem stO_none : stO none = false := rfl
theorem stB_un : stB .un = true := rfl
theorem stB_sh {t : T} : stB (.sh t) = true := rfl
theorem stB_ow {t : T} : stB (.ow t) = true := rfl
theorem os_setS {g : En} {i : Nat} {s : Sl} {Q : En → Prop} : Os (setS g i s) Q = (stO g[i]? = true ∧ Q (g.set i s)) := by
  unfold setS
  cases g[i]? with
  | none => simp [stO, Os]
  | some s0 => cases s0 <;> simp [stO, stB, Os]
end MP
namespace MP
open PySem
/-- what is walked, item by item -/
def Wk (k : IK) (n : Nat × Bool) (ts : List T) (xs : List T) : Prop := n.1 = xs.length ∧ ∀ i, i ≤ xs.length → itT k n ts i = some xs[i]?
def enumT : Nat → List T → List T
  | _, [] => []
  | k, x :: xs => .tup [.int k, x] :: enumT (k + 1) xs
theorem rangeL_get : ∀ (n : Nat) (lo : Int) (i : Nat), (rangeL lo n)[i]? = if i < n then some (T.int (lo + i)) else none
  | 0, lo, i => by simp [rangeL]
  | n + 1, lo, 0 => by simp [rangeL]
  | n + 1, lo, i + 1 => by
    unfold rangeL
    rw [List.getElem?_cons_succ, rangeL_get n (lo + 1) i]
    by_cases h : i < n
    · rw [if_pos h, if_pos (by omega)]
      congr 2
      omega
    · rw [if_neg h, if_neg (by omega)]
theorem rangeL_length : ∀ (n : Nat) (lo : Int), (rangeL lo n).length = n
  | 0, _ => rfl
  | n + 1, lo => by unfold rangeL; rw [List.length_cons, rangeL_length n]
theorem wk_range1 (j : Int) : Wk .range (j.toNat, false) [.int j] (rangeL 0 j.toNat) := by
  refine ⟨(rangeL_length _ _).symm, fun i hi => ?_⟩
  rw [rangeL_length] at hi
  rw [rangeL_get]
  show (if (i : Int) < j then some (some (T.int i)) else some none) = _
  by_cases h : (i : Int) < j
  · rw [if_pos h, if_pos (by omega)]
    simp
  · rw [if_neg h, if_neg (by omega)]
theorem wk_lst (xs : List T) : Wk .seq (xs.length, false) [.lst xs] xs := ⟨rfl, fun i hi => rfl⟩
theorem wk_tup (xs : List T) : Wk .seq (xs.length, true) [.tup xs] xs := ⟨rfl, fun i hi => rfl⟩
theorem wk_rev (xs : List T) : Wk .rev (xs.length, false) [.lst xs] xs.reverse := by
  refine ⟨by rw [List.length_reverse], fun i hi => ?_⟩
  rw [List.length_reverse] at hi
  show (if i < xs.length then (if xs.length = xs.length then some xs[xs.length - 1 - i]? else none) else some none) = _
  by_cases h : i < xs.length
  · rw [if_pos h, if_pos rfl, List.getElem?_reverse h]
  · rw [if_neg h, List.getElem?_eq_none (by rw [List.length_reverse]; omega)]
theorem enumT_get : ∀ (xs : List T) (k i : Nat), (enumT k xs)[i]? = xs[i]?.map fun x => T.tup [.int ((k + i : Nat) : Int), x]
  | [], k, i => by simp [enumT]
  | x :: xs, k, 0 => by simp [enumT]
  | x :: xs, k, i + 1 => by
    unfold enumT
    rw [List.getElem?_cons_succ, enumT_get xs (k + 1) i, List.getElem?_cons_succ]
    have e : k + 1 + i = k + (i + 1) := by omega
    rw [e]
theorem enumT_length : ∀ (xs : List T) (k : Nat), (enumT k xs).length = xs.length
  | [], k => rfl
  | x :: xs, k => by unfold enumT; rw [List.length_cons, List.length_cons, enumT_length xs]
theorem wk_enumT (xs : List T) : Wk .enum (xs.length, true) [.tup xs] (enumT 0 xs) := by
  refine ⟨(enumT_length _ _).symm, fun i hi => ?_⟩
  rw [enumT_get]
  simp only [Nat.zero_add]
  rfl
section
variable {C : Cn} {b : En → R Fl} {c : En → R Bool} {tgs : List Nat} {tp : Bool} {k : IK} {n : Nat × Bool} {os : List Od} {Q : Fl → En → Prop} {g : En}
/-- a for, by an invariant -/
theorem for_ok {ts xs : List T} (I : Nat → En → Prop) (hw : Wk k n ts xs) (h0 : I 0 g) (ho : ∀ i g, I i g → odTs g os = some ts)
    (hs : ∀ i x g, xs[i]? = some x → I i g → Os (tgtF tgs tp x g) fun g1 => Ok (b g1) fun f g2 => Fn f (I (i + 1) g2) fun f => Q f g2) (hd : ∀ g, I xs.length g → Q .nx g) : Ok (forL b tgs tp k n os n.1 0 g) Q := by
  obtain ⟨hn, hi⟩ := hw
  have main : ∀ m i g, m + i = xs.length → I i g → Ok (forL b tgs tp k n os m i g) Q := by
    intro m
    induction m with
    | zero =>
      intro i g e hI
      unfold forL
      rw [ho i g hI, Option.bind_some, hi i (by omega), List.getElem?_eq_none (by omega)]
      have : i = xs.length := by omega
      subst this
      exact hd g hI
    | succ m ih =>
      intro i g e hI
      have hlt : i < xs.length := by omega
      have hx : xs[i]? = some xs[i] := List.getElem?_eq_getElem hlt
      have q := hs i _ g hx hI
      unfold forL
      rw [ho i g hI, Option.bind_some, hi i (by omega), hx]
      show Ok (match tgtF tgs tp xs[i] g with
        | none => .bad
        | some g1 => (b g1).bind fun f g2 => match f with
          | .nx => forL b tgs tp k n os m (i + 1) g2
          | .rt fr t => .ok (.rt fr t) g2) Q
      cases et : tgtF tgs tp xs[i] g with
      | none => rw [et] at q; exact q.elim
      | some g1 =>
        rw [et] at q
        show Ok (R.bind _ _) Q
        rw [ok_bind]
        refine Ok.mono (show Ok (b g1) _ from q) fun f g2 q2 => ?_
        cases f with
        | nx => exact ih (i + 1) g2 (by omega) q2
        | rt fr t => exact q2
  rw [hn]
  exact main xs.length 0 g (by omega) h0
/-- a while, by an invariant and what it lessens -/
theorem whl_ok {m wf : Nat} (I : Nat → En → Prop) (h0 : I m g) (hm : m < wf)
    (hs : ∀ m g, I m g → Ok (c g) fun d g1 => if d = true then Ok (b g1) fun f g2 => Fn f (∃ m', m' < m ∧ I m' g2) fun f => Q f g2 else Q .nx g1) : Ok (whileL c b wf g) Q := by
  have main : ∀ wf m g, m < wf → I m g → Ok (whileL c b wf g) Q := by
    intro wf
    induction wf with
    | zero => intro m g h _; omega
    | succ wf ih =>
      intro m g h hI
      unfold whileL
      rw [ok_bind]
      refine Ok.mono (hs m g hI) fun d g1 q => ?_
      cases d with
      | false => exact q
      | true =>
        rw [if_pos rfl] at q ⊢
        rw [ok_bind]
        refine Ok.mono q fun f g2 q2 => ?_
        cases f with
        | nx =>
          obtain ⟨m', h1, h2⟩ := q2
          exact ih m' g2 (by omega) h2
        | rt fr t => exact q2
  exact main wf m g hm h0
end
section
variable {elt : En → R (Bool × T)} {test : En → R Bool} {tgs : List Nat} {tp : Bool} {k : IK} {n : Nat × Bool} {os : List Od} {own : List Nat} {Q : List T → En → Prop} {g : En}
/-- a comprehension, by an invariant -/
theorem comp_ok {ts xs : List T} (I : Nat → List T → En → Prop) (hw : Wk k n ts xs) (h0 : I 0 [] g) (ho : ∀ i acc g, I i acc g → odTs g os = some ts)
    (hs : ∀ i x acc g, xs[i]? = some x → I i acc g → Os (tgtF tgs tp x g) fun g1 => Ok (test g1) fun b g2 => if b = true then Ok (elt g2) fun r g3 => I (i + 1) (acc ++ [r.2]) (wipeS g3 own) else I (i + 1) acc (wipeS g2 own)) (hd : ∀ acc g, I xs.length acc g → Q acc g) : Ok (compL elt test tgs tp k n os own n.1 0 [] g) Q := by
  obtain ⟨hn, hi⟩ := hw
  have main : ∀ m i acc g, m + i = xs.length → I i acc g → Ok (compL elt test tgs tp k n os own m i acc g) Q := by
    intro m
    induction m with
    | zero =>
      intro i acc g e hI
      unfold compL
      rw [ho i acc g hI, Option.bind_some, hi i (by omega), List.getElem?_eq_none (by omega)]
      have : i = xs.length := by omega
      subst this
      exact hd acc g hI
    | succ m ih =>
      intro i acc g e hI
      have hlt : i < xs.length := by omega
      have hx : xs[i]? = some xs[i] := List.getElem?_eq_getElem hlt
      have q := hs i _ acc g hx hI
      unfold compL
      rw [ho i acc g hI, Option.bind_some, hi i (by omega), hx]
      show Ok (match tgtF tgs tp xs[i] g with
        | none => .bad
        | some g1 => match test g1 with
          | .ok true g2 => (match elt g2 with
            | .ok r g3 => compL elt test tgs tp k n os own m (i + 1) (acc ++ [r.2]) (wipeS g3 own)
            | _ => .bad)
          | .ok false g2 => compL elt test tgs tp k n os own m (i + 1) acc (wipeS g2 own)
          | _ => .bad) Q
      cases et : tgtF tgs tp xs[i] g with
      | none => rw [et] at q; exact q.elim
      | some g1 =>
        rw [et] at q
        have q : Ok (test g1) _ := q
        show Ok (match test g1 with
          | .ok true g2 => (match elt g2 with
            | .ok r g3 => compL elt test tgs tp k n os own m (i + 1) (acc ++ [r.2]) (wipeS g3 own)
            | _ => .bad)
          | .ok false g2 => compL elt test tgs tp k n os own m (i + 1) acc (wipeS g2 own)
          | _ => .bad) Q
        cases ec : test g1 with
        | bad => rw [ec] at q; exact q.elim
        | ex x g2 => rw [ec] at q; exact q.elim
        | ok b g2 =>
          rw [ec] at q
          have q : (if b = true then Ok (elt g2) fun r g3 => I (i + 1) (acc ++ [r.2]) (wipeS g3 own) else I (i + 1) acc (wipeS g2 own)) := q
          cases b with
          | false =>
            rw [if_neg Bool.false_ne_true] at q
            exact ih (i + 1) acc _ (by omega) q
          | true =>
            rw [if_pos rfl] at q
            show Ok (match elt g2 with
              | .ok r g3 => compL elt test tgs tp k n os own m (i + 1) (acc ++ [r.2]) (wipeS g3 own)
              | _ => .bad) Q
            cases ee : elt g2 with
            | bad => rw [ee] at q; exact q.elim
            | ex x g3 => rw [ee] at q; exact q.elim
            | ok r g3 =>
              rw [ee] at q
              exact ih (i + 1) _ _ (by omega) q
  rw [hn]
  exact main xs.length 0 [] g (by omega) h0
/-- one that changes nothing: items that pass, each its value -/
theorem comp_map {ts xs : List T} (p : T → Bool) (f : T → T) (hw : Wk k n ts xs) (ho : odTs g os = some ts)
    (hs : ∀ x, x ∈ xs → Os (tgtF tgs tp x g) fun g1 => Ok (test g1) fun b g2 => b = p x ∧ if b = true then Ok (elt g2) fun r g3 => r.2 = f x ∧ wipeS g3 own = g else wipeS g2 own = g) (hd : Q ((xs.filter p).map f) g) : Ok (compL elt test tgs tp k n os own n.1 0 [] g) Q := by
  refine comp_ok (I := fun i acc g' => g' = g ∧ acc = ((xs.take i).filter p).map f) hw ⟨rfl, rfl⟩ (fun i acc g' h => by rw [h.1]; exact ho) (fun i x acc g' hx h => ?_) (fun acc g' h => ?_)
  · obtain ⟨rfl, rfl⟩ := h
    have hm : x ∈ xs := List.mem_of_getElem? hx
    have e : xs.take (i + 1) = xs.take i ++ [x] := by rw [List.take_add_one, hx]; rfl
    refine Os.mono (hs x hm) fun g1 q => Ok.mono q fun b g2 ⟨hb, q⟩ => ?_
    cases b with
    | true =>
      rw [if_pos rfl] at q ⊢
      refine Ok.mono q fun r g3 ⟨q1, q2⟩ => ⟨q2, ?_⟩
      rw [e, List.filter_append, List.map_append, List.filter_cons, if_pos hb.symm, q1]
      rfl
    | false =>
      rw [if_neg Bool.false_ne_true] at q ⊢
      refine ⟨q, ?_⟩
      rw [e, List.filter_append, List.map_append, List.filter_cons, if_neg (by rw [← hb]; decide)]
      simp
  · obtain ⟨rfl, rfl⟩ := h
    rw [List.take_length]
    exact hd
/-- .. without a test -/
theorem comp_mapT {ts xs : List T} (f : T → T) (hw : Wk k n ts xs) (ho : odTs g os = some ts)
    (hs : ∀ x, x ∈ xs → Os (tgtF tgs tp x g) fun g1 => Ok (test g1) fun b g2 => b = true ∧ Ok (elt g2) fun r g3 => r.2 = f x ∧ wipeS g3 own = g) (hd : Q (xs.map f) g) : Ok (compL elt test tgs tp k n os own n.1 0 [] g) Q := by
  refine comp_map (fun _ => true) f hw ho (fun x hx => Os.mono (hs x hx) fun g1 q => Ok.mono q fun b g2 ⟨hb, q⟩ => ⟨hb, ?_⟩) ?_
  · rw [if_pos hb]; exact q
  · have e : xs.filter (fun _ => true) = xs := List.filter_eq_self.mpr fun _ _ => rfl
    rw [e]
    exact hd
end
end MP
namespace MP
open PySem
section
variable {Q : Bool × T → Prop} {QT : T → Prop} {QB : Bool → Prop} {i j : Int} {xs ys : List T}
theorem o_bin {o : Operator} {a b : T} : opF (.bin o) [a, b] = binF o a b := rfl
theorem b_add : binF .Add (.int i) (.int j) = some (false, .int (i + j)) := rfl
theorem b_sub : binF .Sub (.int i) (.int j) = some (false, .int (i - j)) := rfl
theorem b_and : binF .BitAnd (.int i) (.int j) = some (false, .int (Builtin.bitAnd i j)) := rfl
theorem b_or : binF .BitOr (.int i) (.int j) = some (false, .int (Builtin.bitOr i j)) := rfl
theorem b_xor : binF .BitXor (.int i) (.int j) = some (false, .int (Builtin.bitXor i j)) := rfl
theorem b_mod : Os (binF .Mod (.int i) (.int j)) Q = (0 < j ∧ Q (false, .int (i % j))) := os_ifn
theorem b_fdiv : Os (binF .FloorDiv (.int i) (.int j)) Q = ((0 < j ∧ j.natAbs < 1180591620717411303424) ∧ Q (false, .int (i / j))) := os_ifn
theorem b_mul : Os (binF .Mult (.int i) (.int j)) Q = ((okInt i || okInt j) = true ∧ Q (false, .int (i * j))) := os_ifn
theorem b_pow : Os (binF .Pow (.int i) (.int j)) Q = ((0 ≤ j ∧ j.natAbs ≤ 1000000 ∧ i.natAbs < 2 ^ 64) ∧ Q (false, .int (i ^ j.toNat))) := os_ifn
theorem b_shl : Os (binF .LShift (.int i) (.int j)) Q = ((0 ≤ j ∧ j.natAbs ≤ 1000000 ∧ i.natAbs < 2 ^ 64) ∧ Q (false, .int (i * 2 ^ j.toNat))) := os_ifn
theorem b_shr : Os (binF .RShift (.int i) (.int j)) Q = (0 ≤ j ∧ Q (false, .int (i / 2 ^ j.toNat))) := os_ifn
theorem b_cat : Os (binF .Add (.lst xs) (.lst ys)) Q = (xs.length + ys.length ≤ sizeLine ∧ Q (true, .lst (xs ++ ys))) := os_ifn
theorem b_catT : Os (binF .Add (.tup xs) (.tup ys)) Q = (xs.length + ys.length ≤ sizeLine ∧ Q (false, .tup (xs ++ ys))) := os_ifn
theorem b_rep : Os (binF .Mult (.lst xs) (.int j)) Q = ((j.natAbs < 2 ^ 63 ∧ xs.length * j.toNat ≤ sizeLine) ∧ Q (true, .lst (List.replicate j.toNat xs).flatten)) := os_ifn
theorem a_add : augF .Add (.int i) (.int j) = some (.int (i + j)) := rfl
theorem a_sub : augF .Sub (.int i) (.int j) = some (.int (i - j)) := rfl
theorem a_and : augF .BitAnd (.int i) (.int j) = some (.int (Builtin.bitAnd i j)) := rfl
theorem a_or : augF .BitOr (.int i) (.int j) = some (.int (Builtin.bitOr i j)) := rfl
theorem a_xor : augF .BitXor (.int i) (.int j) = some (.int (Builtin.bitXor i j)) := rfl
theorem a_shr : Os (augF .RShift (.int i) (.int j)) QT = (0 ≤ j ∧ QT (.int (i / 2 ^ j.toNat))) := by
  show Os ((binF .RShift (.int i) (.int j)).map (·.2)) QT = _
  rw [os_map, b_shr]
theorem a_shl : Os (augF .LShift (.int i) (.int j)) QT = ((0 ≤ j ∧ j.natAbs ≤ 1000000 ∧ i.natAbs < 2 ^ 64) ∧ QT (.int (i * 2 ^ j.toNat))) := by
  show Os ((binF .LShift (.int i) (.int j)).map (·.2)) QT = _
  rw [os_map, b_shl]
theorem a_fdiv : Os (augF .FloorDiv (.int i) (.int j)) QT = ((0 < j ∧ j.natAbs < 1180591620717411303424) ∧ QT (.int (i / j))) := by
  show Os ((binF .FloorDiv (.int i) (.int j)).map (·.2)) QT = _
  rw [os_map, b_fdiv]
theorem o_neg : opF .neg [.int i] = some (false, .int (-i)) := rfl
theorem o_inv : opF .inv [.int i] = some (false, .int (Builtin.bitNot i)) := rfl
theorem o_cmp {o : CmpOp} {a b : T} : Os (opF (.cmp o) [a, b]) Q = Os (cmpF o a b) fun c => Q (false, .bl c) := os_map
theorem c_eq : cmpF .Eq (.int i) (.int j) = some (decide (i = j)) := by
  show some (i == j) = _
  rw [Bool.beq_eq_decide_eq]
theorem c_ne : cmpF .NotEq (.int i) (.int j) = some (!decide (i = j)) := by
  show some (!(i == j)) = _
  rw [Bool.beq_eq_decide_eq]
theorem c_lt : cmpF .Lt (.int i) (.int j) = some (decide (i < j)) := rfl
theorem c_le : cmpF .LtE (.int i) (.int j) = some (decide (i ≤ j)) := rfl
theorem c_gt : cmpF .Gt (.int i) (.int j) = some (decide (j < i)) := rfl
theorem c_ge : cmpF .GtE (.int i) (.int j) = some (decide (j ≤ i)) := rfl
theorem c_isn {a : T} : cmpF .Is a .non = some a.isNon := by cases a <;> rfl
theorem c_notn {a : T} : cmpF .IsNot a .non = some (!a.isNon) := by cases a <;> rfl
theorem c_inl {x : T} : Os (cmpF .In x (.lst ys)) QB = ((x.ok && (T.lst ys).ok) = true ∧ QB (T.mem x ys)) := os_ifn
theorem c_ninl {x : T} : Os (cmpF .NotIn x (.lst ys)) QB = ((x.ok && (T.lst ys).ok) = true ∧ QB (!T.mem x ys)) := os_ifn
theorem c_int {x : T} : Os (cmpF .In x (.tup ys)) QB = ((x.flat && ys.all T.flat) = true ∧ QB (T.mem x ys)) := os_ifn
theorem c_nint {x : T} : Os (cmpF .NotIn x (.tup ys)) QB = ((x.flat && ys.all T.flat) = true ∧ QB (!T.mem x ys)) := os_ifn
theorem c_ind {x : T} {kvs : List (T × T)} : Os (cmpF .In x (.dct kvs)) QB = (x.keyB = true ∧ QB (hasK x kvs)) := os_ifn
theorem c_nind {x : T} {kvs : List (T × T)} : Os (cmpF .NotIn x (.dct kvs)) QB = (x.keyB = true ∧ QB (!hasK x kvs)) := os_ifn
theorem kB_int {i : Int} : (T.int i).keyB = true := rfl
theorem kB_str {x : List Nat} : (T.str x).keyB = true := rfl
theorem o_subD {k : T} {kvs : List (T × T)} : Os (opF .sub [.dct kvs, k]) Q = (k.keyB = true ∧ Os (getK k kvs) fun t => Q (false, t)) := by
  show Os ((itemF (.dct kvs) k).map fun t => (false, t)) Q = _
  rw [os_map]
  show Os (if k.keyB = true then getK k kvs else none) _ = _
  exact os_ifn
theorem o_sub : Os (opF .sub [.lst xs, .int i]) Q = Os (L2.atI xs i) fun t => Q (false, t) := os_map
theorem o_subT : Os (opF .sub [.tup xs, .int i]) Q = Os (L2.atI xs i) fun t => Q (false, t) := os_map
theorem at_nat {α : Type} (xs : List α) (n : Nat) : L2.atI xs (n : Int) = xs[n]? := by
  unfold L2.atI L2.ixN
  rw [if_pos (by omega)]
  by_cases h : n < xs.length
  · rw [if_pos (by omega)]; rfl
  · rw [if_neg (by omega), List.getElem?_eq_none (by omega)]; rfl
theorem at_int {α : Type} (xs : List α) {i : Int} (h : 0 ≤ i) : L2.atI xs i = xs[i.toNat]? := by
  have := at_nat xs i.toNat
  rw [Int.toNat_of_nonneg h] at this
  exact this
section
variable {α : Type} {l : List α}
theorem at0 : L2.atI l 0 = l[0]? := at_nat l 0
theorem at1 : L2.atI l 1 = l[1]? := at_nat l 1
theorem at2 : L2.atI l 2 = l[2]? := at_nat l 2
theorem at3 : L2.atI l 3 = l[3]? := at_nat l 3
theorem at4 : L2.atI l 4 = l[4]? := at_nat l 4
end
theorem ix_nat {n m : Nat} : L2.ixN n (m : Int) = if m < n then some m else none := by
  unfold L2.ixN
  rw [if_pos (by omega)]
  by_cases h : m < n
  · rw [if_pos (by omega), if_pos h]; rfl
  · rw [if_neg (by omega), if_neg h]
theorem ix0 {n : Nat} : L2.ixN n 0 = if 0 < n then some 0 else none := ix_nat (m := 0)
theorem ix1 {n : Nat} : L2.ixN n 1 = if 1 < n then some 1 else none := ix_nat (m := 1)
theorem ix2 {n : Nat} : L2.ixN n 2 = if 2 < n then some 2 else none := ix_nat (m := 2)
theorem ix3 {n : Nat} : L2.ixN n 3 = if 3 < n then some 3 else none := ix_nat (m := 3)
theorem o_len : opF .len [.lst xs] = some (false, .int xs.length) := rfl
theorem o_lenT : opF .len [.tup xs] = some (false, .int xs.length) := rfl
theorem o_abs : opF .abs [.int i] = some (false, .int (if i < 0 then -i else i)) := rfl
theorem o_min2 : opF .min2 [.int i, .int j] = some (false, .int (if j < i then j else i)) := rfl
theorem o_max2 : opF .max2 [.int i, .int j] = some (false, .int (if j > i then j else i)) := rfl
theorem o_int : opF .intc [.int i] = some (false, .int i) := rfl
theorem o_intb {b : Bool} : opF .intc [.bl b] = some (false, .int (if b then 1 else 0)) := rfl
theorem o_tup : opF .tupc [.lst xs] = some (false, .tup xs) := rfl
theorem o_tupt : opF .tupc [.tup xs] = some (false, .tup xs) := rfl
theorem o_lst : opF .lstc [.lst xs] = some (true, .lst xs) := rfl
theorem o_lstt : opF .lstc [.tup xs] = some (true, .lst xs) := rfl
theorem o_rev : opF .rev [.lst xs] = some (true, .lst xs.reverse) := rfl
theorem o_lrevl : opF (.lrev false) [.lst xs] = some (true, .lst xs.reverse) := rfl
theorem o_lrevt : opF (.lrev true) [.lst xs] = some (false, .tup xs.reverse) := rfl
theorem o_isi {c : Nat} {t : T} : Os (opF (.isi c) [t]) Q = Os (isiF c t) fun b => Q (false, .bl b) := os_map
theorem o_isi2 {t : T} : Os (opF .isi2 [t]) Q = Os (isiF 4 t) fun a => Os (isiF 3 t) fun b => Q (false, .bl (a || b)) := by
  show Os ((isiF 4 t).bind fun a => (isiF 3 t).map fun b => (false, T.bl (a || b))) Q = _
  rw [os_bind]
  refine os_fun fun a => ?_
  rw [os_map]
theorem i_int {c : Nat} : isiF c (.int i) = some (c == 0) := rfl
theorem i_bl {c : Nat} {b : Bool} : isiF c (.bl b) = some (c == 0 || c == 1) := rfl
theorem i_lst {c : Nat} : isiF c (.lst xs) = some (c == 4) := rfl
theorem i_tup {c : Nat} : isiF c (.tup xs) = some (c == 3) := rfl
theorem i_str {c : Nat} {x : List Nat} : isiF c (.str x) = some (c == 2) := rfl
theorem i_non {c : Nat} : isiF c .non = some false := rfl
theorem o_slu : Os (opF (.slc false true) [.lst xs, .int j]) Q = Q (true, .lst (cutL xs none (some j))) := rfl
theorem o_slsu {ns : List Int} : Os (opF (.slc false true) [.scr ns, .int j]) Q = Q (true, .lst (cutL (ns.map T.int) none (some j))) := rfl
theorem o_sll : Os (opF (.slc true false) [.lst xs, .int i]) Q = Q (true, .lst (cutL xs (some i) none)) := rfl
theorem o_sla : Os (opF (.slc false false) [.lst xs]) Q = Q (true, .lst (cutL xs none none)) := rfl
theorem o_slut : Os (opF (.slc false true) [.tup xs, .int j]) Q = Q (false, .tup (cutL xs none (some j))) := rfl
theorem o_sllt : Os (opF (.slc true false) [.tup xs, .int i]) Q = Q (false, .tup (cutL xs (some i) none)) := rfl
theorem o_alll {t : T} {bs : List Bool} (h : blL [t] = some bs) : opF .alll [t] = some (false, .bl (bs.all id)) := by
  show (blL [t]).map _ = _
  rw [h]; rfl
theorem o_anyl {t : T} {bs : List Bool} (h : blL [t] = some bs) : opF .anyl [t] = some (false, .bl (bs.any id)) := by
  show (blL [t]).map _ = _
  rw [h]; rfl
theorem bls_map : ∀ (bs : List Bool), blsT (bs.map T.bl) = some bs
  | [] => rfl
  | b :: bs => by
    show (blsT (bs.map T.bl)).map (b :: ·) = _
    rw [bls_map bs]; rfl
theorem ints_map : ∀ (ns : List Int), intsT (ns.map T.int) = some ns
  | [] => rfl
  | b :: bs => by
    show (intsT (bs.map T.int)).map (b :: ·) = _
    rw [ints_map bs]; rfl
theorem o_all {bs : List Bool} : opF .alll [.lst (bs.map T.bl)] = some (false, .bl (bs.all id)) := o_alll (bls_map bs)
theorem o_any {bs : List Bool} : opF .anyl [.lst (bs.map T.bl)] = some (false, .bl (bs.any id)) := o_anyl (bls_map bs)
theorem o_sum {ns : List Int} : opF .suml [.lst (ns.map T.int)] = some (false, .int ns.sum) := by
  show (intsT (ns.map T.int)).map _ = _
  rw [ints_map]; rfl
theorem o_srt {ns : List Int} : opF .srt [.lst (ns.map T.int)] = some (true, .lst ((sortI ns).map T.int)) := by
  show (intsT (ns.map T.int)).map _ = _
  rw [ints_map]; rfl
theorem o_srtT {ns : List Int} : opF .srt [.tup (ns.map T.int)] = some (true, .lst ((sortI ns).map T.int)) := by
  show ((intsT (ns.map T.int)).map fun ns => (true, T.lst ((sortI ns).map T.int))) = _
  rw [ints_map]
  rfl
theorem o_stp {lo hi : Option Int} {st : Int} : opF (.stp lo hi st) [.lst xs] = some (true, .lst (MPW.pick xs lo hi (some st))) := rfl
theorem o_lrng1 {tp : Bool} : Os (opF (.lrng tp) [.int j]) Q = ((sml j && decide (j.toNat ≤ sizeLine)) = true ∧ Q (!tp, mkSeq tp (rangeL 0 j.toNat))) := os_ifn
theorem o_lrng2 {tp : Bool} : Os (opF (.lrng tp) [.int i, .int j]) Q = ((sml i && sml j && decide ((j - i).toNat ≤ sizeLine)) = true ∧ Q (!tp, mkSeq tp (rangeL i (j - i).toNat))) := os_ifn
theorem okI (h : -(2 ^ 64) < i ∧ i < 2 ^ 64) : okInt i = true := by
  unfold okInt
  exact Nat.ble_eq_true_of_le (show i.natAbs < 2 ^ 64 by omega)
theorem okL (h : -(2 ^ 64) < i ∧ i < 2 ^ 64) : (okInt i || okInt j) = true := by rw [okI h]; rfl
theorem okR (h : -(2 ^ 64) < j ∧ j < 2 ^ 64) : (okInt i || okInt j) = true := by rw [okI h, Bool.or_true]
theorem smlI (h : -(2 ^ 62) < i ∧ i < 2 ^ 62) : sml i = true := by
  unfold sml
  exact Nat.ble_eq_true_of_le (show i.natAbs < 2 ^ 62 by omega)
end
section
variable {Q : Nat × Bool → Prop} {i j c : Int} {xs ys : List T}
theorem n_seqL : itN .seq [.lst xs] = some (xs.length, false) := rfl
theorem n_seqT : itN .seq [.tup xs] = some (xs.length, true) := rfl
theorem n_enumL : itN .enum [.lst xs] = some (xs.length, false) := rfl
theorem n_enumT : itN .enum [.tup xs] = some (xs.length, true) := rfl
theorem n_rev : itN .rev [.lst xs] = some (xs.length, false) := rfl
theorem n_revT : itN .rev [.tup xs] = some (xs.length, true) := rfl
theorem n_zipL : itN .zip [.lst xs, .lst ys] = some (min xs.length ys.length, false) := rfl
theorem n_zipT : itN .zip [.tup xs, .tup ys] = some (min xs.length ys.length, true) := rfl
theorem n_rng1 : Os (itN .range [.int j]) Q = ((sml j && decide (j.toNat ≤ sizeLine)) = true ∧ Q (j.toNat, false)) := os_ifn
theorem n_rng2 : Os (itN .range [.int i, .int j]) Q = ((sml i && sml j && decide ((j - i).toNat ≤ sizeLine)) = true ∧ Q ((j - i).toNat, false)) := os_ifn
theorem n_revr : Os (itN .revr [.int j]) Q = ((sml j && decide (j.toNat ≤ sizeLine)) = true ∧ Q (j.toNat, false)) := os_ifn
theorem small_ok (h : 0 ≤ j ∧ j ≤ 16777216) : (sml j && decide (j.toNat ≤ sizeLine)) = true := by
  rw [Bool.and_eq_true, decide_eq_true_eq]
  have hs : sizeLine = 16777216 := by decide +kernel
  exact ⟨smlI (by omega), by rw [hs]; omega⟩
end
end MP
namespace MP
open PySem
local macro_rules
  | `(tactic| dsimp! only [$a,*]) => `(tactic| simp only [w_nil, w_cons, w_set, w_unp, w_par, w_aug, w_sts, w_dst, w_st2, os_stD, os_stL, two2_t, w_rdv, w_dnew, w_tmt, w_fnv, w_cal, w_dsp, w_dgt, w_app, w_ext, w_ins, w_ixl, w_exp, w_ret, w_retn, w_ife, w_non, w_bl, w_int, w_str, w_var, w_glb, w_tup, w_lst, w_op, w_chn, w_not, w_ifx, w_bop, w_b1, w_b2, w_call, w_do, w_pop, w_fs0, w_fs, w_os0, w_os, w_ts0, w_ts1, ok_ok, ok_bad, ok_bind, os_some, os_none, os_bind, os_map, os_ifn, bl_bl, fn_nx, fn_rt, rt_nx, rt_rt, o_bin, b_add, b_sub, b_and, b_or, b_xor, b_mod, b_fdiv, b_mul, b_pow, b_shl, b_shr, b_cat, b_catT, b_rep, a_add, a_sub, a_and, a_or, a_xor, a_shr, a_shl, a_fdiv, o_neg, o_inv, o_cmp, c_eq, c_ne, c_lt, c_le, c_gt, c_ge, c_isn, c_notn, c_inl, c_ninl, c_int, c_nint, c_ind, c_nind, kB_int, kB_str, o_subD, o_sub, o_subT, at0, at1, at2, at3, at4, ix0, ix1, ix2, ix3, o_len, o_lenT, o_abs, o_min2, o_max2, o_int, o_intb, o_tup, o_tupt, o_lst, o_lstt, o_rev, o_lrevl, o_lrevt, o_isi, o_isi2, i_int, i_bl, i_lst, i_tup, i_str, i_non, o_slu, o_slsu, o_sll, o_sla, o_slut, o_sllt, o_all, o_any, o_sum, o_srt, o_srtT, o_stp, o_lrng1, o_lrng2, n_seqL, n_seqT, n_enumL, n_enumT, n_rev, n_revT, n_zipL, n_zipT, n_rng1, n_rng2, n_revr, ownVar, ownS, getS, lstB, os_setS, stO_some, stO_none, stB_un, stB_sh, stB_ow, putS, odTs, odT, odAs, odA, refs, nodupB, backs, back1, retE, outS, wipeS, giveS, plainS, tgtF, asgs, mkSeq, T.isNon, okFor, setsS, setsL, List.getElem?_cons_zero, List.getElem?_cons_succ, List.getElem?_nil, List.set_cons_zero, List.set_cons_succ, List.length_cons, List.length_nil, List.length_map, List.cons_append, List.nil_append, List.append_nil, List.replicate, List.getD_cons_zero, List.getD_cons_succ, Option.getD, List.contains_nil, List.contains_cons, Bool.not_true, Bool.not_false, Bool.and_true, Bool.true_and, Bool.and_self, if_true, if_false, true_and, and_true, ite_true, ite_false, reduceIte, Bool.false_eq_true, Bool.true_eq_false, decide_true, decide_false, decide_eq_true_eq, eq_self, Nat.reduceAdd, Nat.reduceLT, Nat.reduceSub, Int.reduceLT, Int.reduceLE, Int.reduceToNat, Int.reduceAbs, Int.reducePow, Int.natAbs_natCast, Nat.reducePow, Nat.reduceLeDiff, Nat.reduceMul, Nat.reduceBEq, Bool.or_true, Bool.or_false, Bool.true_or, Bool.false_or, Int.reduceNeg, $a,*])
  | `(tactic| dsimp! only [$a,*] $l:location) => `(tactic| simp only [w_nil, w_cons, w_set, w_unp, w_par, w_aug, w_sts, w_dst, w_st2, os_stD, os_stL, two2_t, w_rdv, w_dnew, w_tmt, w_fnv, w_cal, w_dsp, w_dgt, w_app, w_ext, w_ins, w_ixl, w_exp, w_ret, w_retn, w_ife, w_non, w_bl, w_int, w_str, w_var, w_glb, w_tup, w_lst, w_op, w_chn, w_not, w_ifx, w_bop, w_b1, w_b2, w_call, w_do, w_pop, w_fs0, w_fs, w_os0, w_os, w_ts0, w_ts1, ok_ok, ok_bad, ok_bind, os_some, os_none, os_bind, os_map, os_ifn, bl_bl, fn_nx, fn_rt, rt_nx, rt_rt, o_bin, b_add, b_sub, b_and, b_or, b_xor, b_mod, b_fdiv, b_mul, b_pow, b_shl, b_shr, b_cat, b_catT, b_rep, a_add, a_sub, a_and, a_or, a_xor, a_shr, a_shl, a_fdiv, o_neg, o_inv, o_cmp, c_eq, c_ne, c_lt, c_le, c_gt, c_ge, c_isn, c_notn, c_inl, c_ninl, c_int, c_nint, c_ind, c_nind, kB_int, kB_str, o_subD, o_sub, o_subT, at0, at1, at2, at3, at4, ix0, ix1, ix2, ix3, o_len, o_lenT, o_abs, o_min2, o_max2, o_int, o_intb, o_tup, o_tupt, o_lst, o_lstt, o_rev, o_lrevl, o_lrevt, o_isi, o_isi2, i_int, i_bl, i_lst, i_tup, i_str, i_non, o_slu, o_slsu, o_sll, o_sla, o_slut, o_sllt, o_all, o_any, o_sum, o_srt, o_srtT, o_stp, o_lrng1, o_lrng2, n_seqL, n_seqT, n_enumL, n_enumT, n_rev, n_revT, n_zipL, n_zipT, n_rng1, n_rng2, n_revr, ownVar, ownS, getS, lstB, os_setS, stO_some, stO_none, stB_un, stB_sh, stB_ow, putS, odTs, odT, odAs, odA, refs, nodupB, backs, back1, retE, outS, wipeS, giveS, plainS, tgtF, asgs, mkSeq, T.isNon, okFor, setsS, setsL, List.getElem?_cons_zero, List.getElem?_cons_succ, List.getElem?_nil, List.set_cons_zero, List.set_cons_succ, List.length_cons, List.length_nil, List.length_map, List.cons_append, List.nil_append, List.append_nil, List.replicate, List.getD_cons_zero, List.getD_cons_succ, Option.getD, List.contains_nil, List.contains_cons, Bool.not_true, Bool.not_false, Bool.and_true, Bool.true_and, Bool.and_self, if_true, if_false, true_and, and_true, ite_true, ite_false, reduceIte, Bool.false_eq_true, Bool.true_eq_false, decide_true, decide_false, decide_eq_true_eq, eq_self, Nat.reduceAdd, Nat.reduceLT, Nat.reduceSub, Int.reduceLT, Int.reduceLE, Int.reduceToNat, Int.reduceAbs, Int.reducePow, Int.natAbs_natCast, Nat.reducePow, Nat.reduceLeDiff, Nat.reduceMul, Nat.reduceBEq, Bool.or_true, Bool.or_false, Bool.true_or, Bool.false_or, Int.reduceNeg, $a,*] $l)
def x_draw (dn : Str) : FD where
  name := "_law_draw"
  ps := ["_law_hand_here", dn]
  N := ["_law_hand_here", dn, "_law_cell", "_law_once", "_law_twice", "_law_found"]
  body := [
    .sts 0 (.int 3) (.op (.bin .Add) [(.op .sub [(.var 0), (.int 3)]), (.int 1)]),
    .ife (.op (.cmp .Eq) [(.op .sub [(.var 0), (.int 2)]), (.int 0)]) [.set 2 (.int 0), .ife (.op (.cmp .Gt) [(.op .len [(.op .sub [(.var 0), (.int 0)])]), (.int 0)]) [.set 2 (.op .sub [(.op .sub [(.var 0), (.int 0)]), (.op (.bin .Mod) [(.op .sub [(.var 0), (.int 1)]), (.op .len [(.op .sub [(.var 0), (.int 0)])])])])] [], .sts 0 (.int 1) (.op (.bin .Add) [(.op .sub [(.var 0), (.int 1)]), (.int 1)]), .ife (.bop false [(.op (.cmp .Lt) [(.var 2), (.op (.bin .Pow) [(.int 10), (.int 18)])]), (.op (.cmp .Gt) [(.op .sub [(.var 0), (.int 1)]), (.op .len [(.op .sub [(.var 0), (.int 0)])])])]) [.set 3 (.op (.bin .Mod) [(.op (.bin .Mult) [(.op (.bin .Add) [(.op (.bin .Add) [(.op (.bin .Mod) [(.var 2), (.int 2147483629)]), (.op (.bin .Mult) [(.int 7919), (.op .sub [(.var 0), (.int 3)])])]), (.int 11)]), (.int 48271)]), (.int 2147483647)]), .set 4 (.op (.bin .Mod) [(.op (.bin .Add) [(.op (.bin .Mult) [(.var 3), (.op (.bin .Add) [(.op (.bin .Mod) [(.var 3), (.int 39373)]), (.op .sub [(.var 0), (.int 3)])])]), (.op (.bin .Mult) [(.int 104729), (.op .sub [(.var 0), (.int 3)])])]), (.int 1999999973)]), .ret (.op (.bin .Mod) [(.op (.bin .FloorDiv) [(.var 4), (.int 64)]), (.var 1)])] [], .sts 0 (.int 2) (.var 2)] [],
    .set 5 (.op (.bin .Mod) [(.op .sub [(.var 0), (.int 2)]), (.var 1)]),
    .sts 0 (.int 2) (.op (.bin .FloorDiv) [(.op .sub [(.var 0), (.int 2)]), (.var 1)]),
    .ret (.var 5)]
/-- the hand of draws -/
def HandT (t : T) : Prop := ∃ (xs : List Int) (i b c : Int), t = .lst [.lst (xs.map T.int), .int i, .int b, .int c] ∧ (∀ x ∈ xs, 0 ≤ x) ∧ 0 ≤ i ∧ 0 ≤ b ∧ 0 ≤ c
theorem hand_mk {xs : List Int} {i b c : Int} (hx : ∀ x ∈ xs, 0 ≤ x) (hi : 0 ≤ i) (hb : 0 ≤ b) (hc : 0 ≤ c) : HandT (.lst [.lst (xs.map T.int), .int i, .int b, .int c]) := ⟨xs, i, b, c, rfl, hx, hi, hb, hc⟩
/-- what a draw ends in -/
def DrawQ (m : Int) (r : Bool × T) (outs : En) : Prop := ∃ v h', r = (false, .int v) ∧ outs = [.io h', .un] ∧ HandT h' ∧ 0 ≤ v ∧ v < m
theorem draw_fin {xs : List Int} {h : T} {m : Int} (hm : 0 < m) (hm2 : m < 1073741824) (hx : ∀ x ∈ xs, 0 ≤ x) (C : Cn) (s2 s3 s4 : Sl) {b i c : Int} (hi : 0 ≤ i) (hb : 0 ≤ b) (hc : 0 ≤ c) : Ok (evSs C [.set 5 (.op (.bin .Mod) [(.op .sub [(.var 0), (.int 2)]), (.var 1)]),
    .sts 0 (.int 2) (.op (.bin .FloorDiv) [(.op .sub [(.var 0), (.int 2)]), (.var 1)]),
    .ret (.var 5)] [.io (.lst [.lst (xs.map T.int), .int i, .int b, .int c]), .sh (.int m), s2, s3, s4, .un]) (Rt [.io h, .sh (.int m)] (DrawQ m)) := by
  dsimp! only []
  exact ⟨hm, ⟨hm, by omega⟩, _, _, rfl, rfl, hand_mk hx hi (Int.ediv_nonneg hb (by omega)) hc, Int.emod_nonneg _ (by omega), Int.emod_lt_of_pos _ hm⟩
theorem draw_new {xs : List Int} {m i c v : Int} (hm : 0 < m) (hx : ∀ x ∈ xs, 0 ≤ x) (hi : 0 ≤ i) (hc : 0 ≤ c) : DrawQ m (false, .int (v % m)) [.io (.lst [.lst (xs.map T.int), .int i, .int 0, .int c]), .un] :=
  ⟨_, _, rfl, rfl, hand_mk hx hi (Int.le_refl _) hc, Int.emod_nonneg _ (by omega), Int.emod_lt_of_pos _ hm⟩
theorem mod_ok {x : Int} : -(2 ^ 64) < x % 2147483647 ∧ x % 2147483647 < 2 ^ 64 := by
  have h1 := Int.emod_nonneg x (show (2147483647 : Int) ≠ 0 by decide)
  have h2 := Int.emod_lt_of_pos x (show (0 : Int) < 2147483647 by decide)
  omega
theorem draw_ok {P : List FD} {glb : Nat → Option T} {wf d f : Nat} {h : T} {m : Int} (hf : P[f]? = some (x_draw dn)) (hh : HandT h) (hm : 0 < m) (hm2 : m < 1073741824) :
    Ok (callF P glb wf (d + 1) f [.io h, .sh (.int m)]) (DrawQ m) := by
  obtain ⟨xs, i, b, c, eh, hx, hi, hb, hc⟩ := hh
  refine call_ok hf rfl ?_
  subst eh
  have hc1 : 0 ≤ c + 1 := by omega
  have hi1 : 0 ≤ i + 1 := by omega
  have fin : ∀ (C : Cn) (v : Int), 0 ≤ v → Ok (evSs C [.sts 0 (.int 1) (.op (.bin .Add) [(.op .sub [(.var 0), (.int 1)]), (.int 1)]), .ife (.bop false [(.op (.cmp .Lt) [(.var 2), (.op (.bin .Pow) [(.int 10), (.int 18)])]), (.op (.cmp .Gt) [(.op .sub [(.var 0), (.int 1)]), (.op .len [(.op .sub [(.var 0), (.int 0)])])])]) [.set 3 (.op (.bin .Mod) [(.op (.bin .Mult) [(.op (.bin .Add) [(.op (.bin .Add) [(.op (.bin .Mod) [(.var 2), (.int 2147483629)]), (.op (.bin .Mult) [(.int 7919), (.op .sub [(.var 0), (.int 3)])])]), (.int 11)]), (.int 48271)]), (.int 2147483647)]), .set 4 (.op (.bin .Mod) [(.op (.bin .Add) [(.op (.bin .Mult) [(.var 3), (.op (.bin .Add) [(.op (.bin .Mod) [(.var 3), (.int 39373)]), (.op .sub [(.var 0), (.int 3)])])]), (.op (.bin .Mult) [(.int 104729), (.op .sub [(.var 0), (.int 3)])])]), (.int 1999999973)]), .ret (.op (.bin .Mod) [(.op (.bin .FloorDiv) [(.var 4), (.int 64)]), (.var 1)])] [], .sts 0 (.int 2) (.var 2)]
      [.io (.lst [.lst (xs.map T.int), .int i, .int 0, .int (c + 1)]), .sh (.int m), .sh (.int v), .un, .un, .un]) fun f g1 => Fn f (Ok (evSs C [.set 5 (.op (.bin .Mod) [(.op .sub [(.var 0), (.int 2)]), (.var 1)]),
    .sts 0 (.int 2) (.op (.bin .FloorDiv) [(.op .sub [(.var 0), (.int 2)]), (.var 1)]),
    .ret (.var 5)] g1) (Rt [.io (.lst [.lst (xs.map T.int), .int i, .int 0, .int c]), .sh (.int m)] (DrawQ m))) fun f => Rt [.io (.lst [.lst (xs.map T.int), .int i, .int 0, .int c]), .sh (.int m)] (DrawQ m) f g1 := fun C v hv => by
    dsimp! only []
    have ends : 0 < m ∧ (0 < m ∧ m.natAbs < 1180591620717411303424) ∧ DrawQ m (false, T.int (v % m)) [Sl.io (T.lst [T.lst (List.map T.int xs), T.int (i + 1), T.int (v / m), T.int (c + 1)]), Sl.un] :=
      ⟨hm, ⟨hm, by omega⟩, _, _, rfl, rfl, hand_mk hx hi1 (Int.ediv_nonneg hv (by omega)) hc1, Int.emod_nonneg _ (by omega), Int.emod_lt_of_pos _ hm⟩
    by_cases h1 : v < 1000000000000000000
    · rw [if_neg (by rw [decide_eq_true h1]; decide), if_pos h1]
      exact ⟨okL (by decide), okR (by decide), okL mod_ok, okL (by decide), hm, draw_new hm hx hi1 hc1⟩
    · rw [if_pos (decide_eq_false h1)]
      by_cases h2 : (xs.length : Int) < i + 1
      · rw [if_pos h2]
        exact ⟨okL (by decide), okR (by decide), okL mod_ok, okL (by decide), hm, draw_new hm hx hi1 hc1⟩
      · rw [if_neg h2]
        exact ends
  show Ok (evSs _ (x_draw dn).body [.io (.lst [.lst (xs.map T.int), .int i, .int b, .int c]), .sh (.int m), .un, .un, .un, .un]) _
  unfold x_draw
  by_cases hb0 : b = 0
  · subst hb0
    by_cases hl : (0 : Int) < xs.length
    · have h1 : 0 ≤ i % (xs.length : Int) := Int.emod_nonneg _ (by omega)
      have h2 : i % (xs.length : Int) < xs.length := Int.emod_lt_of_pos _ hl
      have h3 : (i % (xs.length : Int)).toNat < xs.length := by omega
      have e : L2.atI (xs.map T.int) (i % (xs.length : Int)) = some (T.int xs[(i % (xs.length : Int)).toNat]) := by
        rw [at_int _ h1, List.getElem?_map, List.getElem?_eq_getElem h3]; rfl
      have q := fin (CA P glb wf d) _ (hx _ (List.getElem_mem h3))
      dsimp! only [] at q
      dsimp! only [hl, e]
      exact q
    · have q := fin (CA P glb wf d) 0 (Int.le_refl _)
      dsimp! only [] at q
      dsimp! only [hl]
      exact q
  · have q := draw_fin (h := .lst [.lst (xs.map T.int), .int i, .int b, .int c]) hm hm2 hx (CA P glb wf d) .un .un .un hi hb hc1
    dsimp! only [] at q
    dsimp! only [hb0]
    exact q
end MP
namespace MP
open PySem
theorem bnot_bnot (x : Int) : Builtin.bitNot (Builtin.bitNot x) = x := by unfold Builtin.bitNot; omega
theorem bor (a b : Nat) : Builtin.bitOr (a : Int) (b : Int) = ((a ||| b : Nat) : Int) := by
  unfold Builtin.bitOr
  have e : Builtin.bitAnd (Builtin.bitNot (a : Int)) (Builtin.bitNot (b : Int)) = Builtin.bitNot ((a ||| b : Nat) : Int) := by
    unfold Builtin.bitAnd
    have h1 : decide ((0 : Int) ≤ Builtin.bitNot (a : Int)) = false := decide_eq_false (by unfold Builtin.bitNot; omega)
    have h2 : decide ((0 : Int) ≤ Builtin.bitNot (b : Int)) = false := decide_eq_false (by unfold Builtin.bitNot; omega)
    rw [h1, h2]
    show Builtin.bitNot (((Builtin.bitNot (Builtin.bitNot (a : Int))).toNat ||| (Builtin.bitNot (Builtin.bitNot (b : Int))).toNat : Nat) : Int) = _
    rw [bnot_bnot, bnot_bnot, Int.toNat_natCast, Int.toNat_natCast]
  rw [e, bnot_bnot]
theorem shl1 (w : Nat) : (1 : Int) * 2 ^ w = ((2 ^ w : Nat) : Int) := by rw [Int.one_mul]; norm_cast
end MP
namespace MP
open PySem
local macro_rules
  | `(tactic| dsimp! only [$a,*]) => `(tactic| simp only [w_nil, w_cons, w_set, w_unp, w_par, w_aug, w_sts, w_dst, w_st2, os_stD, os_stL, two2_t, w_rdv, w_dnew, w_tmt, w_fnv, w_cal, w_dsp, w_dgt, w_app, w_ext, w_ins, w_ixl, w_exp, w_ret, w_retn, w_ife, w_non, w_bl, w_int, w_str, w_var, w_glb, w_tup, w_lst, w_op, w_chn, w_not, w_ifx, w_bop, w_b1, w_b2, w_call, w_do, w_pop, w_fs0, w_fs, w_os0, w_os, w_ts0, w_ts1, ok_ok, ok_bad, ok_bind, os_some, os_none, os_bind, os_map, os_ifn, bl_bl, fn_nx, fn_rt, rt_nx, rt_rt, o_bin, b_add, b_sub, b_and, b_or, b_xor, b_mod, b_fdiv, b_mul, b_pow, b_shl, b_shr, b_cat, b_catT, b_rep, a_add, a_sub, a_and, a_or, a_xor, a_shr, a_shl, a_fdiv, o_neg, o_inv, o_cmp, c_eq, c_ne, c_lt, c_le, c_gt, c_ge, c_isn, c_notn, c_inl, c_ninl, c_int, c_nint, c_ind, c_nind, kB_int, kB_str, o_subD, o_sub, o_subT, at0, at1, at2, at3, at4, ix0, ix1, ix2, ix3, o_len, o_lenT, o_abs, o_min2, o_max2, o_int, o_intb, o_tup, o_tupt, o_lst, o_lstt, o_rev, o_lrevl, o_lrevt, o_isi, o_isi2, i_int, i_bl, i_lst, i_tup, i_str, i_non, o_slu, o_slsu, o_sll, o_sla, o_slut, o_sllt, o_all, o_any, o_sum, o_srt, o_srtT, o_stp, o_lrng1, o_lrng2, n_seqL, n_seqT, n_enumL, n_enumT, n_rev, n_revT, n_zipL, n_zipT, n_rng1, n_rng2, n_revr, ownVar, ownS, getS, lstB, os_setS, stO_some, stO_none, stB_un, stB_sh, stB_ow, putS, odTs, odT, odAs, odA, refs, nodupB, backs, back1, retE, outS, wipeS, giveS, plainS, tgtF, asgs, mkSeq, T.isNon, okFor, setsS, setsL, List.getElem?_cons_zero, List.getElem?_cons_succ, List.getElem?_nil, List.set_cons_zero, List.set_cons_succ, List.length_cons, List.length_nil, List.length_map, List.cons_append, List.nil_append, List.append_nil, List.replicate, List.getD_cons_zero, List.getD_cons_succ, Option.getD, List.contains_nil, List.contains_cons, Bool.not_true, Bool.not_false, Bool.and_true, Bool.true_and, Bool.and_self, if_true, if_false, true_and, and_true, ite_true, ite_false, reduceIte, Bool.false_eq_true, Bool.true_eq_false, decide_true, decide_false, decide_eq_true_eq, eq_self, Nat.reduceAdd, Nat.reduceLT, Nat.reduceSub, Int.reduceLT, Int.reduceLE, Int.reduceToNat, Int.reduceAbs, Int.reducePow, Int.natAbs_natCast, Nat.reducePow, Nat.reduceLeDiff, Nat.reduceMul, Nat.reduceBEq, Bool.or_true, Bool.or_false, Bool.true_or, Bool.false_or, Int.reduceNeg, $a,*])
  | `(tactic| dsimp! only [$a,*] $l:location) => `(tactic| simp only [w_nil, w_cons, w_set, w_unp, w_par, w_aug, w_sts, w_dst, w_st2, os_stD, os_stL, two2_t, w_rdv, w_dnew, w_tmt, w_fnv, w_cal, w_dsp, w_dgt, w_app, w_ext, w_ins, w_ixl, w_exp, w_ret, w_retn, w_ife, w_non, w_bl, w_int, w_str, w_var, w_glb, w_tup, w_lst, w_op, w_chn, w_not, w_ifx, w_bop, w_b1, w_b2, w_call, w_do, w_pop, w_fs0, w_fs, w_os0, w_os, w_ts0, w_ts1, ok_ok, ok_bad, ok_bind, os_some, os_none, os_bind, os_map, os_ifn, bl_bl, fn_nx, fn_rt, rt_nx, rt_rt, o_bin, b_add, b_sub, b_and, b_or, b_xor, b_mod, b_fdiv, b_mul, b_pow, b_shl, b_shr, b_cat, b_catT, b_rep, a_add, a_sub, a_and, a_or, a_xor, a_shr, a_shl, a_fdiv, o_neg, o_inv, o_cmp, c_eq, c_ne, c_lt, c_le, c_gt, c_ge, c_isn, c_notn, c_inl, c_ninl, c_int, c_nint, c_ind, c_nind, kB_int, kB_str, o_subD, o_sub, o_subT, at0, at1, at2, at3, at4, ix0, ix1, ix2, ix3, o_len, o_lenT, o_abs, o_min2, o_max2, o_int, o_intb, o_tup, o_tupt, o_lst, o_lstt, o_rev, o_lrevl, o_lrevt, o_isi, o_isi2, i_int, i_bl, i_lst, i_tup, i_str, i_non, o_slu, o_slsu, o_sll, o_sla, o_slut, o_sllt, o_all, o_any, o_sum, o_srt, o_srtT, o_stp, o_lrng1, o_lrng2, n_seqL, n_seqT, n_enumL, n_enumT, n_rev, n_revT, n_zipL, n_zipT, n_rng1, n_rng2, n_revr, ownVar, ownS, getS, lstB, os_setS, stO_some, stO_none, stB_un, stB_sh, stB_ow, putS, odTs, odT, odAs, odA, refs, nodupB, backs, back1, retE, outS, wipeS, giveS, plainS, tgtF, asgs, mkSeq, T.isNon, okFor, setsS, setsL, List.getElem?_cons_zero, List.getElem?_cons_succ, List.getElem?_nil, List.set_cons_zero, List.set_cons_succ, List.length_cons, List.length_nil, List.length_map, List.cons_append, List.nil_append, List.append_nil, List.replicate, List.getD_cons_zero, List.getD_cons_succ, Option.getD, List.contains_nil, List.contains_cons, Bool.not_true, Bool.not_false, Bool.and_true, Bool.true_and, Bool.and_self, if_true, if_false, true_and, and_true, ite_true, ite_false, reduceIte, Bool.false_eq_true, Bool.true_eq_false, decide_true, decide_false, decide_eq_true_eq, eq_self, Nat.reduceAdd, Nat.reduceLT, Nat.reduceSub, Int.reduceLT, Int.reduceLE, Int.reduceToNat, Int.reduceAbs, Int.reducePow, Int.natAbs_natCast, Nat.reducePow, Nat.reduceLeDiff, Nat.reduceMul, Nat.reduceBEq, Bool.or_true, Bool.or_false, Bool.true_or, Bool.false_or, Int.reduceNeg, $a,*] $l)
def x_hand : FD where
  name := "_law_hand"
  ps := ["_law_script"]
  N := ["_law_script", "_law_cell"]
  body := [
    .ret (.lst [(.comp (.op .abs [(.var 1)]) [1] false .seq [(.op (.slc false true) [(.var 0), (.int 63)])] [] [1]), (.int 0), (.int 0), (.int 0)])]
def x_width (cd : Nat) : FD where
  name := "_law_width"
  ps := ["_law_hand_here"]
  N := ["_law_hand_here", "_law_way"]
  body := [
    .set 1 (.call cd [(.var 0), (.int 8)]),
    .ife (.op (.cmp .Eq) [(.var 1), (.int 0)]) [.ret (.op (.bin .Sub) [(.int 64), (.call cd [(.var 0), (.int 17)])])] [],
    .ife (.op (.cmp .Lt) [(.var 1), (.int 3)]) [.ret (.op (.bin .Add) [(.int 9), (.call cd [(.var 0), (.int 25)])])] [],
    .ret (.op (.bin .Add) [(.int 1), (.call cd [(.var 0), (.int 8)])])]
section
variable {P : List FD} {glb : Nat → Option T} {wf d f cd : Nat} {h : T}
theorem abs_nonneg (x : Int) : 0 ≤ (if x < 0 then -x else x) := by split <;> omega
theorem hand_ok {ns : List Int} (hf : P[f]? = some x_hand) : Ok (callF P glb wf (d + 1) f [.sh (.scr ns)]) fun r outs => ∃ h, r = (true, h) ∧ outs = [.un] ∧ HandT h := by
  refine call_ok hf rfl ?_
  unfold x_hand
  dsimp! only [w_comp, Option.bind_some, Option.map_some, itN, seqN, rangeN, zipN, revrN]
  have e : cutL (ns.map T.int) none (some 63) = (cutL ns none (some 63)).map T.int := by
    unfold cutL
    rw [List.length_map, ← List.map_drop, ← List.map_take]
  rw [e]
  refine comp_mapT (fun t => match t with | .int x => .int (if x < 0 then -x else x) | t => t) (wk_lst _) rfl (fun x hx => ?_) ?_
  · obtain ⟨i, _, rfl⟩ := List.mem_map.mp hx
    dsimp! only []
  · dsimp! only [List.map_map]
    refine ⟨by decide +kernel, _, rfl, (cutL ns none (some 63)).map fun x => if x < 0 then -x else x, 0, 0, 0, ?_, fun x hx => ?_, Int.le_refl _, Int.le_refl _, Int.le_refl _⟩
    · rw [List.map_map]; rfl
    · obtain ⟨y, _, rfl⟩ := List.mem_map.mp hx
      exact abs_nonneg y
theorem width_ok (hf : P[f]? = some (x_width cd)) (hd : P[cd]? = some (x_draw dn)) (hh : HandT h) : Ok (callF P glb wf (d + 2) f [.io h]) fun r outs => ∃ (w : Nat) (h' : T), r = (false, .int w) ∧ outs = [.io h'] ∧ HandT h' ∧ 1 ≤ w ∧ w ≤ 64 := by
  refine call_ok hf rfl ?_
  unfold x_width
  dsimp! only []
  refine Ok.mono (draw_ok hd hh (by decide) (by decide)) ?_
  rintro _ _ ⟨v, h1, rfl, rfl, hh1, hv0, hv⟩
  dsimp! only []
  have fin : ∀ (a m : Int), 0 < m → m < 1073741824 → ∀ k : Int → Int, (∀ v, 0 ≤ v → v < m → 1 ≤ k v ∧ k v ≤ 64) → True := fun _ _ _ _ _ _ => trivial
  by_cases e1 : v = 0
  · rw [if_pos e1]
    refine Ok.mono (draw_ok hd hh1 (by decide) (by decide)) ?_
    rintro _ _ ⟨u, h2, rfl, rfl, hh2, hu0, hu⟩
    dsimp! only []
    exact ⟨(64 - u).toNat, h2, by rw [Int.toNat_of_nonneg (by omega)], rfl, hh2, by omega, by omega⟩
  · rw [if_neg e1]
    by_cases e2 : v < 3
    · rw [if_pos e2]
      refine Ok.mono (draw_ok hd hh1 (by decide) (by decide)) ?_
      rintro _ _ ⟨u, h2, rfl, rfl, hh2, hu0, hu⟩
      dsimp! only []
      exact ⟨(9 + u).toNat, h2, by rw [Int.toNat_of_nonneg (by omega)], rfl, hh2, by omega, by omega⟩
    · rw [if_neg e2]
      refine Ok.mono (draw_ok hd hh1 (by decide) (by decide)) ?_
      rintro _ _ ⟨u, h2, rfl, rfl, hh2, hu0, hu⟩
      dsimp! only []
      exact ⟨(1 + u).toNat, h2, by rw [Int.toNat_of_nonneg (by omega)], rfl, hh2, by omega, by omega⟩
end
end MP
namespace MP
open PySem
/-- an argument that is read: a value, or a caller's list -/
def Ar (t : T) (s o : Sl) : Prop := (s = .sh t ∧ o = .un) ∨ (s = .io t ∧ o = .io t)
theorem ar_sh {t : T} : Ar t (.sh t) .un := .inl ⟨rfl, rfl⟩
def T.toI : T → Int
  | .int i => i
  | _ => 0
section
variable {C : Cn} {b : En → R Fl} {tgs : List Nat} {tp : Bool} {k : IK} {n : Nat × Bool} {os : List Od} {Q : Fl → En → Prop} {g : En}
theorem for_fold {α : Type} {ts xs : List T} (S : α → En → Prop) (f : α → T → α) (a0 : α) (hw : Wk k n ts xs) (h0 : S a0 g) (ho : ∀ a g, S a g → odTs g os = some ts)
    (hs : ∀ i a x g, xs[i]? = some x → a = (xs.take i).foldl f a0 → S a g → Os (tgtF tgs tp x g) fun g1 => Ok (b g1) fun fl g2 => fl = .nx ∧ S (f a x) g2) (hd : ∀ g, S (xs.foldl f a0) g → Q .nx g) : Ok (forL b tgs tp k n os n.1 0 g) Q := by
  refine for_ok (fun i g => S ((xs.take i).foldl f a0) g) hw (by simpa using h0) (fun i g h => ho _ g h) (fun i x g hx h => ?_) (fun g h => by rw [List.take_length] at h; exact hd g h)
  refine Os.mono (hs i _ x g hx rfl h) fun g1 q => Ok.mono q fun fl g2 ⟨e, q⟩ => ?_
  subst e
  show S ((xs.take (i + 1)).foldl f a0) g2
  rw [List.take_add_one, hx, List.foldl_append]
  exact q
end
theorem rangeL_eq : ∀ (n : Nat) (lo : Nat), rangeL (lo : Int) n = (List.range n).map fun j : Nat => T.int ((lo + j : Nat) : Int)
  | 0, _ => rfl
  | n + 1, lo => by
    rw [List.range_succ_eq_map, List.map_cons, List.map_map]
    unfold rangeL
    have ih := rangeL_eq n (lo + 1)
    have e : ((lo : Int) + 1) = ((lo + 1 : Nat) : Int) := by omega
    rw [e, ih]
    have e2 : ((List.range n).map fun j : Nat => T.int ((lo + 1 + j : Nat) : Int)) = (List.range n).map ((fun j : Nat => T.int ((lo + j : Nat) : Int)) ∘ Nat.succ) := List.map_congr_left fun j _ => by
      show T.int ((lo + 1 + j : Nat) : Int) = T.int ((lo + (j + 1) : Nat) : Int)
      congr 2
      omega
    rw [e2]
    rfl
theorem range0_eq (n : Nat) : rangeL 0 n = (List.range n).map fun j : Nat => T.int (j : Int) := by
  have := rangeL_eq n 0
  simp only [Nat.zero_add] at this
  exact this
/-- ints as trees -/
def tI (ns : List Nat) : List T := ns.map fun n : Nat => T.int (n : Int)
theorem tI_len (ns : List Nat) : (tI ns).length = ns.length := List.length_map ..
theorem tI_get (ns : List Nat) (i : Nat) : (tI ns)[i]? = ns[i]?.map fun n : Nat => T.int (n : Int) := List.getElem?_map ..
theorem tI_app (ns ms : List Nat) : tI (ns ++ ms) = tI ns ++ tI ms := List.map_append ..
theorem tI_rev (ns : List Nat) : (tI ns).reverse = tI ns.reverse := List.map_reverse.symm
theorem tI_ints (ns : List Nat) : tI ns = (ns.map fun n : Nat => (n : Int)).map T.int := by unfold tI; rw [List.map_map]; rfl
def ofB (bs : List Nat) : Nat := bs.foldr (fun b a => 2 * a + b) 0
def placesN (m w : Nat) : List Nat := (List.range w).filter fun j => m.testBit j
def orP (ps : List Nat) : Nat := ps.foldl (fun a p => a ||| 2 ^ p) 0
theorem orP_from (ps : List Nat) : ∀ (a j : Nat), (ps.foldl (fun a p => a ||| 2 ^ p) a).testBit j = (a.testBit j || decide (j ∈ ps)) := by
  induction ps with
  | nil => intro a j; simp
  | cons p ps ih =>
    intro a j
    rw [List.foldl_cons, ih, Nat.testBit_or, Nat.testBit_two_pow, Bool.or_assoc]
    congr 1
    by_cases h : p = j
    · subst h; simp
    · have h' : j ≠ p := fun e => h e.symm
      simp [h, h']
theorem orP_bit (ps : List Nat) (j : Nat) : (orP ps).testBit j = decide (j ∈ ps) := by
  unfold orP
  rw [orP_from]
  simp
theorem ofB_bit : ∀ (bs : List Nat) (j : Nat), (∀ b ∈ bs, b ≤ 1) → (ofB bs).testBit j = decide (bs[j]? = some 1)
  | [], j, _ => by simp [ofB]
  | b :: bs, j, h => by
    have hb := h b List.mem_cons_self
    have ih := ofB_bit bs
    have e : ofB (b :: bs) = 2 * ofB bs + b := rfl
    rw [e]
    cases j with
    | zero =>
      rw [Nat.testBit_zero]
      have : (2 * ofB bs + b) % 2 = b := by omega
      rw [this]
      simp
    | succ j =>
      rw [Nat.testBit_succ]
      have : (2 * ofB bs + b) / 2 = ofB bs := by omega
      rw [this, ih j fun x hx => h x (List.mem_cons_of_mem _ hx)]
      simp
theorem dats_ints : ∀ ns : List Int, T.dats (ns.map T.int) = true
  | [] => by simp only [List.map_nil, T.dats]
  | n :: ns => by simp only [List.map_cons, T.dats, T.dat, dats_ints ns, Bool.and_self]
theorem deps_ints : ∀ ns : List Int, T.deps (ns.map T.int) = 0
  | [] => by simp only [List.map_nil, T.deps]
  | n :: ns => by simp only [List.map_cons, T.deps, T.dep, deps_ints ns]; rfl
theorem okT_ints (ns : List Int) : (T.lst (ns.map T.int)).ok = true := by
  unfold T.ok
  simp only [T.dat, T.dep, dats_ints, deps_ints]
  rfl
theorem ok_tI (ns : List Nat) : (T.lst (tI ns)).ok = true := by rw [tI_ints]; exact okT_ints _
theorem beqs_ints : ∀ ns ms : List Int, T.beqs (ns.map T.int) (ms.map T.int) = decide (ns = ms)
  | [], [] => by simp [T.beqs]
  | [], _ :: _ => by simp [T.beqs]
  | _ :: _, [] => by simp [T.beqs]
  | n :: ns, m :: ms => by
    simp only [List.map_cons, T.beqs, T.beq, beqs_ints ns ms]
    by_cases h : n = m
    · subst h; simp
    · simp [h]
theorem c_nel (ns ms : List Nat) : cmpF .NotEq (.lst (tI ns)) (.lst (tI ms)) = some (!decide (ns = ms)) := by
  show (if (T.lst (tI ns)).ok && (T.lst (tI ms)).ok then some (!T.beq (.lst (tI ns)) (.lst (tI ms))) else none) = _
  rw [ok_tI, ok_tI]
  simp only [Bool.and_self, if_true, T.beq]
  rw [tI_ints, tI_ints, beqs_ints]
  congr 2
  by_cases h : ns = ms
  · subst h; simp
  · rw [decide_eq_false h, decide_eq_false]
    intro e
    apply h
    have e2 := congrArg (List.map Int.toNat) e
    rw [List.map_map, List.map_map] at e2
    have e3 : (Int.toNat ∘ fun n : Nat => (n : Int)) = id := funext fun n => Int.toNat_natCast n
    rw [e3, List.map_id, List.map_id] at e2
    exact e2
end MP
namespace MP
open PySem
local macro_rules
  | `(tactic| dsimp! only [$a,*]) => `(tactic| simp only [w_nil, w_cons, w_set, w_unp, w_par, w_aug, w_sts, w_dst, w_st2, os_stD, os_stL, two2_t, w_rdv, w_dnew, w_tmt, w_fnv, w_cal, w_dsp, w_dgt, w_app, w_ext, w_ins, w_ixl, w_exp, w_ret, w_retn, w_ife, w_non, w_bl, w_int, w_str, w_var, w_glb, w_tup, w_lst, w_op, w_chn, w_not, w_ifx, w_bop, w_b1, w_b2, w_call, w_do, w_pop, w_fs0, w_fs, w_os0, w_os, w_ts0, w_ts1, ok_ok, ok_bad, ok_bind, os_some, os_none, os_bind, os_map, os_ifn, bl_bl, fn_nx, fn_rt, rt_nx, rt_rt, o_bin, b_add, b_sub, b_and, b_or, b_xor, b_mod, b_fdiv, b_mul, b_pow, b_shl, b_shr, b_cat, b_catT, b_rep, a_add, a_sub, a_and, a_or, a_xor, a_shr, a_shl, a_fdiv, o_neg, o_inv, o_cmp, c_eq, c_ne, c_lt, c_le, c_gt, c_ge, c_isn, c_notn, c_inl, c_ninl, c_int, c_nint, c_ind, c_nind, kB_int, kB_str, o_subD, o_sub, o_subT, at0, at1, at2, at3, at4, ix0, ix1, ix2, ix3, o_len, o_lenT, o_abs, o_min2, o_max2, o_int, o_intb, o_tup, o_tupt, o_lst, o_lstt, o_rev, o_lrevl, o_lrevt, o_isi, o_isi2, i_int, i_bl, i_lst, i_tup, i_str, i_non, o_slu, o_slsu, o_sll, o_sla, o_slut, o_sllt, o_all, o_any, o_sum, o_srt, o_srtT, o_stp, o_lrng1, o_lrng2, n_seqL, n_seqT, n_enumL, n_enumT, n_rev, n_revT, n_zipL, n_zipT, n_rng1, n_rng2, n_revr, ownVar, ownS, getS, lstB, os_setS, stO_some, stO_none, stB_un, stB_sh, stB_ow, putS, odTs, odT, odAs, odA, refs, nodupB, backs, back1, retE, outS, wipeS, giveS, plainS, tgtF, asgs, mkSeq, T.isNon, okFor, setsS, setsL, List.getElem?_cons_zero, List.getElem?_cons_succ, List.getElem?_nil, List.set_cons_zero, List.set_cons_succ, List.length_cons, List.length_nil, List.length_map, List.cons_append, List.nil_append, List.append_nil, List.replicate, List.getD_cons_zero, List.getD_cons_succ, Option.getD, List.contains_nil, List.contains_cons, Bool.not_true, Bool.not_false, Bool.and_true, Bool.true_and, Bool.and_self, if_true, if_false, true_and, and_true, ite_true, ite_false, reduceIte, Bool.false_eq_true, Bool.true_eq_false, decide_true, decide_false, decide_eq_true_eq, eq_self, Nat.reduceAdd, Nat.reduceLT, Nat.reduceSub, Int.reduceLT, Int.reduceLE, Int.reduceToNat, Int.reduceAbs, Int.reducePow, Int.natAbs_natCast, Nat.reducePow, Nat.reduceLeDiff, Nat.reduceMul, Nat.reduceBEq, Bool.or_true, Bool.or_false, Bool.true_or, Bool.false_or, Int.reduceNeg, $a,*])
  | `(tactic| dsimp! only [$a,*] $l:location) => `(tactic| simp only [w_nil, w_cons, w_set, w_unp, w_par, w_aug, w_sts, w_dst, w_st2, os_stD, os_stL, two2_t, w_rdv, w_dnew, w_tmt, w_fnv, w_cal, w_dsp, w_dgt, w_app, w_ext, w_ins, w_ixl, w_exp, w_ret, w_retn, w_ife, w_non, w_bl, w_int, w_str, w_var, w_glb, w_tup, w_lst, w_op, w_chn, w_not, w_ifx, w_bop, w_b1, w_b2, w_call, w_do, w_pop, w_fs0, w_fs, w_os0, w_os, w_ts0, w_ts1, ok_ok, ok_bad, ok_bind, os_some, os_none, os_bind, os_map, os_ifn, bl_bl, fn_nx, fn_rt, rt_nx, rt_rt, o_bin, b_add, b_sub, b_and, b_or, b_xor, b_mod, b_fdiv, b_mul, b_pow, b_shl, b_shr, b_cat, b_catT, b_rep, a_add, a_sub, a_and, a_or, a_xor, a_shr, a_shl, a_fdiv, o_neg, o_inv, o_cmp, c_eq, c_ne, c_lt, c_le, c_gt, c_ge, c_isn, c_notn, c_inl, c_ninl, c_int, c_nint, c_ind, c_nind, kB_int, kB_str, o_subD, o_sub, o_subT, at0, at1, at2, at3, at4, ix0, ix1, ix2, ix3, o_len, o_lenT, o_abs, o_min2, o_max2, o_int, o_intb, o_tup, o_tupt, o_lst, o_lstt, o_rev, o_lrevl, o_lrevt, o_isi, o_isi2, i_int, i_bl, i_lst, i_tup, i_str, i_non, o_slu, o_slsu, o_sll, o_sla, o_slut, o_sllt, o_all, o_any, o_sum, o_srt, o_srtT, o_stp, o_lrng1, o_lrng2, n_seqL, n_seqT, n_enumL, n_enumT, n_rev, n_revT, n_zipL, n_zipT, n_rng1, n_rng2, n_revr, ownVar, ownS, getS, lstB, os_setS, stO_some, stO_none, stB_un, stB_sh, stB_ow, putS, odTs, odT, odAs, odA, refs, nodupB, backs, back1, retE, outS, wipeS, giveS, plainS, tgtF, asgs, mkSeq, T.isNon, okFor, setsS, setsL, List.getElem?_cons_zero, List.getElem?_cons_succ, List.getElem?_nil, List.set_cons_zero, List.set_cons_succ, List.length_cons, List.length_nil, List.length_map, List.cons_append, List.nil_append, List.append_nil, List.replicate, List.getD_cons_zero, List.getD_cons_succ, Option.getD, List.contains_nil, List.contains_cons, Bool.not_true, Bool.not_false, Bool.and_true, Bool.true_and, Bool.and_self, if_true, if_false, true_and, and_true, ite_true, ite_false, reduceIte, Bool.false_eq_true, Bool.true_eq_false, decide_true, decide_false, decide_eq_true_eq, eq_self, Nat.reduceAdd, Nat.reduceLT, Nat.reduceSub, Int.reduceLT, Int.reduceLE, Int.reduceToNat, Int.reduceAbs, Int.reducePow, Int.natAbs_natCast, Nat.reducePow, Nat.reduceLeDiff, Nat.reduceMul, Nat.reduceBEq, Bool.or_true, Bool.or_false, Bool.true_or, Bool.false_or, Int.reduceNeg, $a,*] $l)
def x_is (b : Str) : FD where
  name := "_law_is"
  ps := ["_law_found", b]
  N := ["_law_found", b]
  body := [
    .ret (.bop true [(.op (.isi 0) [(.var 0)]), (.not (.op (.isi 1) [(.var 0)])), (.op (.cmp .Eq) [(.var 0), (.var 1)])])]
def x_mask_of : FD where
  name := "mask_of"
  ps := ["places"]
  N := ["places", "mask", "place"]
  body := [
    .set 1 (.int 0),
    .for [2] false .seq [(.var 0)] [.aug 1 .BitOr (.op (.bin .LShift) [(.int 1), (.var 2)])],
    .ret (.var 1)]
/-- a name that may be stored -/
def Fr (s : Sl) : Prop := s = .un ∨ ∃ t, s = .sh t
theorem fr_un : Fr .un := .inl rfl
theorem fr_sh {t : T} : Fr (.sh t) := .inr ⟨t, rfl⟩
theorem setS_at {g : En} {i : Nat} {s s' : Sl} (h : g[i]? = some s) (f : Fr s) : setS g i s' = some (g.set i s') := by
  unfold setS
  rw [h]
  rcases f with rfl | ⟨t, rfl⟩ <;> rfl
section
variable {P : List FD} {glb : Nat → Option T} {wf d f ci : Nat}
theorem size_lt {n : Nat} (h : n ≤ 4096) : n < sizeLine := by
  have hs : sizeLine = 16777216 := by decide +kernel
  omega
theorem size_le {n : Nat} (h : n ≤ 4096) : n ≤ sizeLine := Nat.le_of_lt (size_lt h)
theorem ofB_fold (bs : List Nat) : ((tI bs).reverse.foldl (fun (a : Int) t => 2 * a + t.toI) 0) = ((ofB bs : Nat) : Int) := by
  rw [List.foldl_reverse]
  induction bs with
  | nil => rfl
  | cons b bs ih =>
    show 2 * (List.foldr (fun (x : T) (y : Int) => 2 * y + x.toI) 0 (tI bs)) + (b : Int) = ((2 * ofB bs + b : Nat) : Int)
    rw [ih]
    omega
theorem is_ok {i j : Int} {b : Str} (hf : P[f]? = some (x_is b)) : Ok (callF P glb wf (d + 1) f [.sh (.int i), .sh (.int j)]) fun r outs => r = (false, .bl (decide (i = j))) ∧ outs = [.un, .un] := by
  refine call_ok hf rfl ?_
  unfold x_is
  dsimp! only []
theorem orP_fold (ps : List Nat) (a : Nat) : (tI ps).foldl (fun (a : Nat) t => a ||| 2 ^ t.toI.toNat) a = ps.foldl (fun a p => a ||| 2 ^ p) a := by
  induction ps generalizing a with
  | nil => rfl
  | cons p ps ih => exact ih _
theorem mask_of_ok {ps : List Nat} {s o : Sl} {t : T} (hf : P[f]? = some x_mask_of) (ht : t = .lst (tI ps) ∨ t = .tup (tI ps)) (ha : Ar t s o) (hp : ∀ p ∈ ps, p ≤ 1000) : Ok (callF P glb wf (d + 1) f [s]) fun r outs => r = (false, .int (orP ps)) ∧ outs = [o] := by
  have main : ∀ (C : Cn) (os : List Od) (s' : Sl) (tp : Bool), (∀ a b, odTs [s', a, b] os = some [t]) → Wk .seq ((tI ps).length, tp) [t] (tI ps) →
      Ok (forL (fun g => evSs C [.aug 1 .BitOr (.op (.bin .LShift) [(.int 1), (.var 2)])] g) [2] false .seq ((tI ps).length, tp) os (tI ps).length 0 [s', .sh (.int 0), .un]) fun f g => f = .nx ∧ ∃ s2, g = [s', .sh (.int (orP ps)), s2] ∧ Fr s2 := fun C os s' tp h1 hw => by
    refine for_fold (fun (a : Nat) g => ∃ s2, g = [s', .sh (.int a), s2] ∧ Fr s2) (fun a t => a ||| 2 ^ t.toI.toNat) 0 hw ⟨.un, rfl, fr_un⟩ (fun a g h => ?_) (fun i a x g hx ea h => ?_) (fun g h => ?_)
    · obtain ⟨s2, rfl, _⟩ := h
      exact h1 _ _
    · obtain ⟨s2, rfl, hs2⟩ := h
      rw [tI_get] at hx
      obtain ⟨b, hb, rfl⟩ := Option.map_eq_some_iff.mp hx
      have hb1 := hp b (List.mem_of_getElem? hb)
      show Os (setS _ 2 _) _
      rw [setS_at (s := s2) rfl hs2, os_some]
      dsimp! only [Int.toNat_natCast, shl1, bor]
      exact ⟨⟨by omega, by omega⟩, _, rfl, fr_sh⟩
    · rw [orP_fold] at h
      exact ⟨rfl, h⟩
  refine call_ok hf rfl ?_
  unfold x_mask_of
  rcases ht with rfl | rfl <;> rcases ha with ⟨rfl, rfl⟩ | ⟨rfl, rfl⟩
  · dsimp! only [w_for, Option.bind_some, Option.map_some, itN, seqN, rangeN, zipN, revrN]
    refine Ok.mono (main _ _ _ _ (fun a b => rfl) (wk_lst _)) ?_
    rintro _ _ ⟨rfl, s2, rfl, hs2⟩
    dsimp! only []
  · dsimp! only [w_for, Option.bind_some, Option.map_some, itN, seqN, rangeN, zipN, revrN]
    refine Ok.mono (main _ _ _ _ (fun a b => rfl) (wk_lst _)) ?_
    rintro _ _ ⟨rfl, s2, rfl, hs2⟩
    dsimp! only []
  · dsimp! only [w_for, Option.bind_some, Option.map_some, itN, seqN, rangeN, zipN, revrN]
    refine Ok.mono (main _ _ _ _ (fun a b => rfl) (wk_tup _)) ?_
    rintro _ _ ⟨rfl, s2, rfl, hs2⟩
    dsimp! only []
  · dsimp! only [w_for, Option.bind_some, Option.map_some, itN, seqN, rangeN, zipN, revrN]
    refine Ok.mono (main _ _ _ _ (fun a b => rfl) (wk_tup _)) ?_
    rintro _ _ ⟨rfl, s2, rfl, hs2⟩
    dsimp! only []
end
end MP
namespace MP
open PySem
local macro_rules
  | `(tactic| dsimp! only [$a,*]) => `(tactic| simp only [w_nil, w_cons, w_set, w_unp, w_par, w_aug, w_sts, w_dst, w_st2, os_stD, os_stL, two2_t, w_rdv, w_dnew, w_tmt, w_fnv, w_cal, w_dsp, w_dgt, w_app, w_ext, w_ins, w_ixl, w_exp, w_ret, w_retn, w_ife, w_non, w_bl, w_int, w_str, w_var, w_glb, w_tup, w_lst, w_op, w_chn, w_not, w_ifx, w_bop, w_b1, w_b2, w_call, w_do, w_pop, w_fs0, w_fs, w_os0, w_os, w_ts0, w_ts1, ok_ok, ok_bad, ok_bind, os_some, os_none, os_bind, os_map, os_ifn, bl_bl, fn_nx, fn_rt, rt_nx, rt_rt, o_bin, b_add, b_sub, b_and, b_or, b_xor, b_mod, b_fdiv, b_mul, b_pow, b_shl, b_shr, b_cat, b_catT, b_rep, a_add, a_sub, a_and, a_or, a_xor, a_shr, a_shl, a_fdiv, o_neg, o_inv, o_cmp, c_eq, c_ne, c_lt, c_le, c_gt, c_ge, c_isn, c_notn, c_inl, c_ninl, c_int, c_nint, c_ind, c_nind, kB_int, kB_str, o_subD, o_sub, o_subT, at0, at1, at2, at3, at4, ix0, ix1, ix2, ix3, o_len, o_lenT, o_abs, o_min2, o_max2, o_int, o_intb, o_tup, o_tupt, o_lst, o_lstt, o_rev, o_lrevl, o_lrevt, o_isi, o_isi2, i_int, i_bl, i_lst, i_tup, i_str, i_non, o_slu, o_slsu, o_sll, o_sla, o_slut, o_sllt, o_all, o_any, o_sum, o_srt, o_srtT, o_stp, o_lrng1, o_lrng2, n_seqL, n_seqT, n_enumL, n_enumT, n_rev, n_revT, n_zipL, n_zipT, n_rng1, n_rng2, n_revr, ownVar, ownS, getS, lstB, os_setS, stO_some, stO_none, stB_un, stB_sh, stB_ow, putS, odTs, odT, odAs, odA, refs, nodupB, backs, back1, retE, outS, wipeS, giveS, plainS, tgtF, asgs, mkSeq, T.isNon, okFor, setsS, setsL, List.getElem?_cons_zero, List.getElem?_cons_succ, List.getElem?_nil, List.set_cons_zero, List.set_cons_succ, List.length_cons, List.length_nil, List.length_map, List.cons_append, List.nil_append, List.append_nil, List.replicate, List.getD_cons_zero, List.getD_cons_succ, Option.getD, List.contains_nil, List.contains_cons, Bool.not_true, Bool.not_false, Bool.and_true, Bool.true_and, Bool.and_self, if_true, if_false, true_and, and_true, ite_true, ite_false, reduceIte, Bool.false_eq_true, Bool.true_eq_false, decide_true, decide_false, decide_eq_true_eq, eq_self, Nat.reduceAdd, Nat.reduceLT, Nat.reduceSub, Int.reduceLT, Int.reduceLE, Int.reduceToNat, Int.reduceAbs, Int.reducePow, Int.natAbs_natCast, Nat.reducePow, Nat.reduceLeDiff, Nat.reduceMul, Nat.reduceBEq, Bool.or_true, Bool.or_false, Bool.true_or, Bool.false_or, Int.reduceNeg, $a,*])
  | `(tactic| dsimp! only [$a,*] $l:location) => `(tactic| simp only [w_nil, w_cons, w_set, w_unp, w_par, w_aug, w_sts, w_dst, w_st2, os_stD, os_stL, two2_t, w_rdv, w_dnew, w_tmt, w_fnv, w_cal, w_dsp, w_dgt, w_app, w_ext, w_ins, w_ixl, w_exp, w_ret, w_retn, w_ife, w_non, w_bl, w_int, w_str, w_var, w_glb, w_tup, w_lst, w_op, w_chn, w_not, w_ifx, w_bop, w_b1, w_b2, w_call, w_do, w_pop, w_fs0, w_fs, w_os0, w_os, w_ts0, w_ts1, ok_ok, ok_bad, ok_bind, os_some, os_none, os_bind, os_map, os_ifn, bl_bl, fn_nx, fn_rt, rt_nx, rt_rt, o_bin, b_add, b_sub, b_and, b_or, b_xor, b_mod, b_fdiv, b_mul, b_pow, b_shl, b_shr, b_cat, b_catT, b_rep, a_add, a_sub, a_and, a_or, a_xor, a_shr, a_shl, a_fdiv, o_neg, o_inv, o_cmp, c_eq, c_ne, c_lt, c_le, c_gt, c_ge, c_isn, c_notn, c_inl, c_ninl, c_int, c_nint, c_ind, c_nind, kB_int, kB_str, o_subD, o_sub, o_subT, at0, at1, at2, at3, at4, ix0, ix1, ix2, ix3, o_len, o_lenT, o_abs, o_min2, o_max2, o_int, o_intb, o_tup, o_tupt, o_lst, o_lstt, o_rev, o_lrevl, o_lrevt, o_isi, o_isi2, i_int, i_bl, i_lst, i_tup, i_str, i_non, o_slu, o_slsu, o_sll, o_sla, o_slut, o_sllt, o_all, o_any, o_sum, o_srt, o_srtT, o_stp, o_lrng1, o_lrng2, n_seqL, n_seqT, n_enumL, n_enumT, n_rev, n_revT, n_zipL, n_zipT, n_rng1, n_rng2, n_revr, ownVar, ownS, getS, lstB, os_setS, stO_some, stO_none, stB_un, stB_sh, stB_ow, putS, odTs, odT, odAs, odA, refs, nodupB, backs, back1, retE, outS, wipeS, giveS, plainS, tgtF, asgs, mkSeq, T.isNon, okFor, setsS, setsL, List.getElem?_cons_zero, List.getElem?_cons_succ, List.getElem?_nil, List.set_cons_zero, List.set_cons_succ, List.length_cons, List.length_nil, List.length_map, List.cons_append, List.nil_append, List.append_nil, List.replicate, List.getD_cons_zero, List.getD_cons_succ, Option.getD, List.contains_nil, List.contains_cons, Bool.not_true, Bool.not_false, Bool.and_true, Bool.true_and, Bool.and_self, if_true, if_false, true_and, and_true, ite_true, ite_false, reduceIte, Bool.false_eq_true, Bool.true_eq_false, decide_true, decide_false, decide_eq_true_eq, eq_self, Nat.reduceAdd, Nat.reduceLT, Nat.reduceSub, Int.reduceLT, Int.reduceLE, Int.reduceToNat, Int.reduceAbs, Int.reducePow, Int.natAbs_natCast, Nat.reducePow, Nat.reduceLeDiff, Nat.reduceMul, Nat.reduceBEq, Bool.or_true, Bool.or_false, Bool.true_or, Bool.false_or, Int.reduceNeg, $a,*] $l)
/-- a comprehension that draws: the hand is the only thing that changes -/
theorem comp_draws {C : Cn} {elt : En → R (Bool × T)} {v n : Nat} {os : List Od} {h : T} {Q : List T → En → Prop} (S : T → En) (p : T → Prop) (hh : HandT h) (ho : ∀ h, odTs (S h) os = some [.int n])
    (hs : ∀ (h : T) (i : Nat), HandT h → i < n → Os (setS (S h) v (.sh (.int (i : Int)))) fun g1 => Ok (elt g1) fun r g2 => p r.2 ∧ ∃ h', HandT h' ∧ wipeS g2 [v] = S h')
    (hK : ∀ ts h', ts.length = n → (∀ t ∈ ts, p t) → HandT h' → Q ts (S h')) : Ok (compL elt (fun g => evTs C [] g) [v] false .range ((n : Int).toNat, false) os [v] (n : Int).toNat 0 [] (S h)) Q := by
  refine comp_ok (fun i acc g => acc.length = i ∧ (∀ t ∈ acc, p t) ∧ ∃ h', HandT h' ∧ g = S h') (wk_range1 n) ⟨rfl, by simp, h, hh, rfl⟩ (fun i acc g hI => ?_) (fun i x acc g hx hI => ?_) (fun acc g hI => ?_)
  · obtain ⟨_, _, h', _, rfl⟩ := hI
    exact ho h'
  · obtain ⟨hl, hp, h', hh', rfl⟩ := hI
    rw [rangeL_get] at hx
    split at hx
    · rename_i hi
      cases hx
      have q := hs h' i hh' (by omega)
      show Os (setS (S h') v (.sh (.int (0 + (i : Int))))) _
      rw [Int.zero_add]
      refine Os.mono q fun g1 q => ?_
      rw [w_ts0, if_pos rfl]
      refine Ok.mono q fun r g2 ⟨q1, h2, hh2, e⟩ => ⟨by rw [List.length_append, hl]; rfl, fun t ht => ?_, h2, hh2, e⟩
      rcases List.mem_append.mp ht with ht | ht
      · exact hp t ht
      · rw [List.mem_singleton.mp ht]; exact q1
    · cases hx
  · obtain ⟨hl, hp, h', hh', rfl⟩ := hI
    rw [rangeL_length] at hl
    exact hK acc h' (by omega) hp hh'
def x_leading (wn : Str) (cd ce : Nat) : FD where
  name := "_law_leading"
  ps := ["_law_hand_here", wn]
  N := ["_law_hand_here", wn, "_law_way", "_law_p", "_law_some", "_law_k"]
  body := [
    .set 2 (.call cd [(.var 0), (.int 4)]),
    .ife (.op (.cmp .Eq) [(.var 2), (.int 0)]) [.ret (.op .tupc [(.comp (.op (.bin .Sub) [(.call cd [(.var 0), (.op (.bin .Add) [(.var 1), (.int 2)])]), (.int 2)]) [3] false .range [(.var 1)] [] [3])])] [],
    .ife (.op (.cmp .Eq) [(.var 2), (.int 1)]) [.set 4 (.comp (.call cd [(.var 0), (.var 1)]) [5] false .range [(.int 3)] [] [5]), .ret (.op .tupc [(.comp (.op .sub [(.op (.bin .Add) [(.var 4), (.lst [(.op .neg [(.int 1)]), (.op .neg [(.int 2)])])]), (.call cd [(.var 0), (.int 5)])]) [3] false .range [(.var 1)] [] [3])])] [],
    .ife (.op (.cmp .Eq) [(.var 2), (.int 2)]) [.ret (.call ce [(.var 0), (.var 1)])] [],
    .ret (.op .tupc [(.comp (.ife (.op (.cmp .Gt) [(.call cd [(.var 0), (.int 4)]), (.int 0)]) (.var 3) (.op (.bin .Sub) [(.op .neg [(.int 1)]), (.call cd [(.var 0), (.int 2)])])) [3] false .range [(.var 1)] [] [3])])]
def x_even (wn : Str) (cd : Nat) : FD where
  name := "_law_even"
  ps := ["_law_hand_here", wn]
  N := ["_law_hand_here", wn, "_law_left", "_law_found"]
  body := [
    .set 2 (.op (.lrng false) [(.var 1)]),
    .set 3 (.lst []),
    .whl (.op (.cmp .NotEq) [(.var 2), (.lst [])]) [.app 3 (.pop 2 [(.call cd [(.var 0), (.op .len [(.var 2)])])])],
    .ret (.op .tupc [(.var 3)])]
def x_staying : FD where
  name := "staying"
  ps := ["width"]
  N := ["width", "place"]
  body := [
    .ret (.op .tupc [(.comp (.var 1) [1] false .range [(.var 0)] [] [1])])]
def tZ (es : List Int) : List T := es.map T.int
theorem tZ_len (es : List Int) : (tZ es).length = es.length := List.length_map ..
theorem tZ_get (es : List Int) (i : Nat) : (tZ es)[i]? = es[i]?.map T.int := List.getElem?_map ..
section
variable {P : List FD} {glb : Nat → Option T} {wf d f cb g1 cl : Nat} {h : T}
theorem tI_tZ (ns : List Nat) : tI ns = tZ (ns.map fun n : Nat => (n : Int)) := tI_ints ns
theorem staying_ok {w : Nat} (hf : P[f]? = some x_staying) (hw : w ≤ 4096) : Ok (callF P glb wf (d + 1) f [.sh (.int w)]) fun r outs => r = (false, .tup (tZ ((List.range w).map fun n : Nat => (n : Int)))) ∧ outs = [.un] := by
  refine call_ok hf rfl ?_
  unfold x_staying
  dsimp! only [w_comp, Option.bind_some, Option.map_some, itN, seqN, rangeN, zipN, revrN]
  refine ⟨small_ok (by omega), ?_⟩
  refine comp_mapT id (wk_range1 w) rfl (fun x hx => ?_) ?_
  · dsimp! only [id]
  · rw [List.map_id, Int.toNat_natCast, range0_eq]
    dsimp! only []
    unfold tZ
    rw [List.map_map]
    rfl
theorem os_pop {i : Nat} {k : Int} {g : En} {K : Bool × T → En → Prop} : Ok (popF i [.int k] g) K = Os (ownS g i) fun l => match l with
    | .lst xs => Os (if k.natAbs < 2 ^ 63 then seqIndex? k xs.length else none) fun j => Os xs[j]? fun x => Os (putS g i (.lst (xs.eraseIdx j))) fun g2 => K (false, x) g2
    | _ => False := by
  unfold popF
  cases ownS g i with
  | none => rfl
  | some l =>
    cases l <;> first
      | rfl
      | (rename_i xs
         show Ok (match if k.natAbs < 2 ^ 63 then seqIndex? k xs.length else none with
           | some j => (match xs[j]? with
             | some x => (match putS g i (.lst (xs.eraseIdx j)) with
               | some g2 => .ok (false, x) g2
               | none => .bad)
             | none => .bad)
           | none => .bad) K = Os (if k.natAbs < 2 ^ 63 then seqIndex? k xs.length else none) fun j => Os xs[j]? fun x => Os (putS g i (.lst (xs.eraseIdx j))) fun g2 => K (false, x) g2
         cases (if k.natAbs < 2 ^ 63 then seqIndex? k xs.length else none) with
         | none => rfl
         | some j =>
           show Ok (match xs[j]? with
             | some x => (match putS g i (.lst (xs.eraseIdx j)) with
               | some g2 => .ok (false, x) g2
               | none => .bad)
             | none => .bad) K = Os xs[j]? fun x => Os (putS g i (.lst (xs.eraseIdx j))) fun g2 => K (false, x) g2
           cases xs[j]? with
           | none => rfl
           | some x =>
             show Ok (match putS g i (.lst (xs.eraseIdx j)) with
               | some g2 => .ok (false, x) g2
               | none => .bad) K = Os (putS g i (.lst (xs.eraseIdx j))) fun g2 => K (false, x) g2
             cases putS g i (.lst (xs.eraseIdx j)) <;> rfl)
theorem seq_nat {k n : Nat} (h : k < n) : seqIndex? (k : Int) n = some k := by
  unfold seqIndex?
  have h0 : ¬ ((k : Int) < 0) := by omega
  simp only [h0, if_false]
  rw [if_pos (by simp; omega)]
  simp
theorem c_ne0 (ns : List Nat) : cmpF .NotEq (.lst (tI ns)) (.lst []) = some (!decide (ns = [])) := c_nel ns []
theorem tI_erase (ns : List Nat) (j : Nat) : (tI ns).eraseIdx j = tI (ns.eraseIdx j) := by
  induction ns generalizing j with
  | nil => rfl
  | cons n ns ih =>
    cases j with
    | zero => rfl
    | succ j =>
      show T.int (n : Int) :: (tI ns).eraseIdx j = T.int (n : Int) :: tI (ns.eraseIdx j)
      rw [ih]
theorem perm_erase : ∀ (ls : List Nat) (k : Nat) (h : k < ls.length), (ls[k] :: ls.eraseIdx k).Perm ls
  | x :: xs, 0, _ => .refl _
  | x :: xs, k + 1, h => by
    have hk : k < xs.length := by simpa using h
    show (xs[k] :: x :: xs.eraseIdx k).Perm (x :: xs)
    exact (List.Perm.swap _ _ _).trans ((perm_erase xs k hk).cons x)
theorem even_ok {cd w : Nat} (hf : P[f]? = some (x_even wn cd)) (hd : P[cd]? = some (x_draw dn)) (hh : HandT h) (hw : w ≤ 64) (hwf : 100 ≤ wf) :
    Ok (callF P glb wf (d + 2) f [.io h, .sh (.int w)]) fun r outs => ∃ (fs : List Nat) (h' : T), r = (false, .tup (tI fs)) ∧ outs = [.io h', .un] ∧ HandT h' ∧ fs.Perm (List.range w) := by
  refine call_ok hf rfl ?_
  unfold x_even
  dsimp! only [w_whl, Int.toNat_natCast, range0_eq]
  refine ⟨small_ok (by omega), size_le (by decide), ?_⟩
  refine whl_ok (m := w) (fun μ g => ∃ (ls fs : List Nat) (h' : T), μ = ls.length ∧ g = [.io h', .sh (.int w), .ow (.lst (tI ls)), .ow (.lst (tI fs))] ∧ HandT h' ∧ (fs ++ ls).Perm (List.range w)) ⟨List.range w, [], h, by rw [List.length_range], rfl, hh, by simp⟩ (by omega) (fun μ g hI => ?_)
  obtain ⟨ls, fs, h1, rfl, rfl, hh1, hp⟩ := hI
  have hlen : (fs ++ ls).length = w := by rw [hp.length_eq, List.length_range]
  rw [List.length_append] at hlen
  dsimp! only [ok_blOf, c_ne0]
  refine ⟨size_le (by decide), ?_⟩
  by_cases he : ls = []
  · subst he
    dsimp! only []
    refine ⟨fs, h1, rfl, rfl, hh1, by simpa using hp⟩
  · have hpos : 0 < ls.length := List.length_pos_iff.mpr he
    dsimp! only [he, tI_len]
    refine Ok.mono (draw_ok hd hh1 (by omega) (by omega)) ?_
    rintro _ _ ⟨v, h2, rfl, rfl, hh2, hv0, hv⟩
    obtain ⟨k, rfl⟩ := Int.eq_ofNat_of_zero_le hv0
    have hk : k < ls.length := by omega
    have hx : (tI ls)[k]? = some (.int ((ls[k] : Nat) : Int)) := by rw [tI_get, List.getElem?_eq_getElem hk]; rfl
    have hsq := seq_nat hk
    dsimp! only [os_pop, tI_len, hsq, hx, tI_erase]
    refine ⟨by omega, size_lt (by omega), ls.length - 1, by omega, ls.eraseIdx k, fs ++ [ls[k]], h2, ?_, ?_, hh2, ?_⟩
    · rw [List.length_eraseIdx, if_pos hk]
    · rw [tI_app]; rfl
    · refine List.Perm.trans ?_ hp
      rw [List.append_assoc]
      refine List.Perm.append_left fs ?_
      exact perm_erase ls k hk
/-- a leading of w places -/
def LeadZ (w : Nat) (es : List Int) : Prop := es.length = w ∧ ∀ e ∈ es, -2 ≤ e ∧ e < w
theorem tZ_of : ∀ {ts : List T} {p : Int → Prop}, (∀ t ∈ ts, ∃ e, t = .int e ∧ p e) → ∃ es, ts = tZ es ∧ ∀ e ∈ es, p e
  | [], _, _ => ⟨[], rfl, by simp⟩
  | t :: ts, p, h => by
    obtain ⟨e, rfl, he⟩ := h t List.mem_cons_self
    obtain ⟨es, rfl, hes⟩ := tZ_of (ts := ts) fun t ht => h t (List.mem_cons_of_mem _ ht)
    refine ⟨e :: es, rfl, fun x hx => ?_⟩
    rcases List.mem_cons.mp hx with rfl | hx
    · exact he
    · exact hes x hx
theorem leading_ok {cd ce w : Nat} (hf : P[f]? = some (x_leading wn cd ce)) (hd : P[cd]? = some (x_draw dn)) (hE : P[ce]? = some (x_even wn cd)) (hh : HandT h) (hw1 : 1 ≤ w) (hw : w ≤ 64) (hwf : 100 ≤ wf) :
    Ok (callF P glb wf (d + 3) f [.io h, .sh (.int w)]) fun r outs => ∃ (es : List Int) (h' : T), r = (false, .tup (tZ es)) ∧ outs = [.io h', .un] ∧ HandT h' ∧ LeadZ w es := by
  refine call_ok hf rfl ?_
  unfold x_leading
  dsimp! only []
  refine Ok.mono (draw_ok hd hh (by decide) (by decide)) ?_
  rintro _ _ ⟨v, h1, rfl, rfl, hh1, hv0, hv⟩
  have fin : ∀ (ts : List T), ts.length = w → (∀ t ∈ ts, ∃ e : Int, t = .int e ∧ (-2 ≤ e ∧ e < w)) → ∃ es, T.tup ts = .tup (tZ es) ∧ LeadZ w es := fun ts hl ht => by
    obtain ⟨es, rfl, hes⟩ := tZ_of ht
    rw [tZ_len] at hl
    exact ⟨es, rfl, hl, hes⟩
  dsimp! only [w_comp, Option.bind_some, Option.map_some, itN, seqN, rangeN, zipN, revrN]
  by_cases e0 : v = 0
  · rw [if_pos e0]
    refine ⟨small_ok (by omega), ?_⟩
    refine comp_draws (fun h => [.io h, .sh (.int w), .sh (.int v), .un, .un, .un]) (fun t => ∃ e : Int, t = .int e ∧ (-2 ≤ e ∧ e < w)) hh1 (fun h => rfl) (fun h i hh hi => ?_) (fun ts h' hl hp hh' => ?_)
    · dsimp! only []
      refine Ok.mono (draw_ok hd hh (by omega) (by omega)) ?_
      rintro _ _ ⟨u, h2, rfl, rfl, hh2, hu0, hu⟩
      dsimp! only []
      exact ⟨⟨_, rfl, by omega, by omega⟩, h2, hh2, rfl⟩
    · dsimp! only []
      obtain ⟨es, e, hes⟩ := fin ts hl hp
      exact ⟨es, h', by rw [e], rfl, hh', hes⟩
  · rw [if_neg e0]
    by_cases e1 : v = 1
    · rw [if_pos e1]
      refine ⟨small_ok (by decide), ?_⟩
      refine comp_draws (n := 3) (fun h => [.io h, .sh (.int w), .sh (.int v), .un, .un, .un]) (fun t => ∃ e : Int, t = .int e ∧ (-2 ≤ e ∧ e < w)) hh1 (fun h => rfl) (fun h i hh hi => ?_) (fun ts h' hl hp hh' => ?_)
      · dsimp! only []
        refine Ok.mono (draw_ok hd hh (by omega) (by omega)) ?_
        rintro _ _ ⟨u, h2, rfl, rfl, hh2, hu0, hu⟩
        dsimp! only []
        exact ⟨⟨_, rfl, by omega, by omega⟩, h2, hh2, rfl⟩
      · dsimp! only [w_comp, Option.bind_some, Option.map_some, itN, seqN, rangeN, zipN, revrN]
        refine ⟨small_ok (by omega), ?_⟩
        refine comp_draws (fun h => [.io h, .sh (.int w), .sh (.int v), .un, .ow (.lst ts), .un]) (fun t => ∃ e : Int, t = .int e ∧ (-2 ≤ e ∧ e < w)) hh' (fun h => rfl) (fun h i hh hi => ?_) (fun ts2 h' hl2 hp2 hh' => ?_)
        · dsimp! only []
          refine ⟨size_le (by decide), by rw [hl]; exact size_le (by decide), ?_⟩
          refine Ok.mono (draw_ok hd hh (by decide) (by decide)) ?_
          rintro _ _ ⟨u, h2, rfl, rfl, hh2, hu0, hu⟩
          obtain ⟨k, rfl⟩ := Int.eq_ofNat_of_zero_le hu0
          dsimp! only [at_nat]
          have hk : k < (ts ++ [T.int (-1), T.int (-2)]).length := by rw [List.length_append, hl]; show k < 3 + 2; omega
          refine os_eq (List.getElem?_eq_getElem hk) ?_
          have hm : (ts ++ [T.int (-1), T.int (-2)])[k] ∈ ts ++ [T.int (-1), T.int (-2)] := List.getElem_mem hk
          refine ⟨?_, h2, hh2, rfl⟩
          rcases List.mem_append.mp hm with hm | hm
          · exact hp _ hm
          · rcases List.mem_cons.mp hm with hm | hm
            · exact ⟨-1, hm, by omega, by omega⟩
            · exact ⟨-2, List.mem_singleton.mp hm, by omega, by omega⟩
        · dsimp! only []
          obtain ⟨es, e, hes⟩ := fin ts2 hl2 hp2
          exact ⟨es, h', by rw [e], rfl, hh', hes⟩
    · rw [if_neg e1]
      by_cases e2 : v = 2
      · rw [if_pos e2]
        refine Ok.mono (even_ok hE hd hh1 hw hwf) ?_
        rintro _ _ ⟨fs, h2, rfl, rfl, hh2, hp⟩
        dsimp! only []
        refine ⟨fs.map fun n : Nat => (n : Int), h2, by rw [tI_tZ], rfl, hh2, ?_, fun e he => ?_⟩
        · rw [List.length_map, hp.length_eq, List.length_range]
        · obtain ⟨n, hn, rfl⟩ := List.mem_map.mp he
          have := List.mem_range.mp (hp.mem_iff.mp hn)
          omega
      · rw [if_neg e2]
        refine ⟨small_ok (by omega), ?_⟩
        refine comp_draws (fun h => [.io h, .sh (.int w), .sh (.int v), .un, .un, .un]) (fun t => ∃ e : Int, t = .int e ∧ (-2 ≤ e ∧ e < w)) hh1 (fun h => rfl) (fun h i hh hi => ?_) (fun ts h' hl hp hh' => ?_)
        · dsimp! only []
          refine Ok.mono (draw_ok hd hh (by decide) (by decide)) ?_
          rintro _ _ ⟨u, h2, rfl, rfl, hh2, hu0, hu⟩
          dsimp! only []
          by_cases h0 : 0 < u
          · rw [if_pos h0]
            exact ⟨⟨_, rfl, by omega, by omega⟩, h2, hh2, rfl⟩
          · rw [if_neg h0]
            refine Ok.mono (draw_ok hd hh2 (by decide) (by decide)) ?_
            rintro _ _ ⟨q, h3, rfl, rfl, hh3, hq0, hq⟩
            dsimp! only []
            exact ⟨⟨_, rfl, by omega, by omega⟩, h3, hh3, rfl⟩
        · dsimp! only []
          obtain ⟨es, e, hes⟩ := fin ts hl hp
          exact ⟨es, h', by rw [e], rfl, hh', hes⟩
end
end MP
namespace MP
open PySem
local macro_rules
  | `(tactic| dsimp! only [$a,*]) => `(tactic| simp only [w_nil, w_cons, w_set, w_unp, w_par, w_aug, w_sts, w_dst, w_st2, os_stD, os_stL, two2_t, w_rdv, w_dnew, w_tmt, w_fnv, w_cal, w_dsp, w_dgt, w_app, w_ext, w_ins, w_ixl, w_exp, w_ret, w_retn, w_ife, w_non, w_bl, w_int, w_str, w_var, w_glb, w_tup, w_lst, w_op, w_chn, w_not, w_ifx, w_bop, w_b1, w_b2, w_call, w_do, w_pop, w_fs0, w_fs, w_os0, w_os, w_ts0, w_ts1, ok_ok, ok_bad, ok_bind, os_some, os_none, os_bind, os_map, os_ifn, bl_bl, fn_nx, fn_rt, rt_nx, rt_rt, o_bin, b_add, b_sub, b_and, b_or, b_xor, b_mod, b_fdiv, b_mul, b_pow, b_shl, b_shr, b_cat, b_catT, b_rep, a_add, a_sub, a_and, a_or, a_xor, a_shr, a_shl, a_fdiv, o_neg, o_inv, o_cmp, c_eq, c_ne, c_lt, c_le, c_gt, c_ge, c_isn, c_notn, c_inl, c_ninl, c_int, c_nint, c_ind, c_nind, kB_int, kB_str, o_subD, o_sub, o_subT, at0, at1, at2, at3, at4, ix0, ix1, ix2, ix3, o_len, o_lenT, o_abs, o_min2, o_max2, o_int, o_intb, o_tup, o_tupt, o_lst, o_lstt, o_rev, o_lrevl, o_lrevt, o_isi, o_isi2, i_int, i_bl, i_lst, i_tup, i_str, i_non, o_slu, o_slsu, o_sll, o_sla, o_slut, o_sllt, o_all, o_any, o_sum, o_srt, o_srtT, o_stp, o_lrng1, o_lrng2, n_seqL, n_seqT, n_enumL, n_enumT, n_rev, n_revT, n_zipL, n_zipT, n_rng1, n_rng2, n_revr, ownVar, ownS, getS, lstB, os_setS, stO_some, stO_none, stB_un, stB_sh, stB_ow, putS, odTs, odT, odAs, odA, refs, nodupB, backs, back1, retE, outS, wipeS, giveS, plainS, tgtF, asgs, mkSeq, T.isNon, okFor, setsS, setsL, List.getElem?_cons_zero, List.getElem?_cons_succ, List.getElem?_nil, List.set_cons_zero, List.set_cons_succ, List.length_cons, List.length_nil, List.length_map, List.cons_append, List.nil_append, List.append_nil, List.replicate, List.getD_cons_zero, List.getD_cons_succ, Option.getD, List.contains_nil, List.contains_cons, Bool.not_true, Bool.not_false, Bool.and_true, Bool.true_and, Bool.and_self, if_true, if_false, true_and, and_true, ite_true, ite_false, reduceIte, Bool.false_eq_true, Bool.true_eq_false, decide_true, decide_false, decide_eq_true_eq, eq_self, Nat.reduceAdd, Nat.reduceLT, Nat.reduceSub, Int.reduceLT, Int.reduceLE, Int.reduceToNat, Int.reduceAbs, Int.reducePow, Int.natAbs_natCast, Nat.reducePow, Nat.reduceLeDiff, Nat.reduceMul, Nat.reduceBEq, Bool.or_true, Bool.or_false, Bool.true_or, Bool.false_or, Int.reduceNeg, $a,*])
  | `(tactic| dsimp! only [$a,*] $l:location) => `(tactic| simp only [w_nil, w_cons, w_set, w_unp, w_par, w_aug, w_sts, w_dst, w_st2, os_stD, os_stL, two2_t, w_rdv, w_dnew, w_tmt, w_fnv, w_cal, w_dsp, w_dgt, w_app, w_ext, w_ins, w_ixl, w_exp, w_ret, w_retn, w_ife, w_non, w_bl, w_int, w_str, w_var, w_glb, w_tup, w_lst, w_op, w_chn, w_not, w_ifx, w_bop, w_b1, w_b2, w_call, w_do, w_pop, w_fs0, w_fs, w_os0, w_os, w_ts0, w_ts1, ok_ok, ok_bad, ok_bind, os_some, os_none, os_bind, os_map, os_ifn, bl_bl, fn_nx, fn_rt, rt_nx, rt_rt, o_bin, b_add, b_sub, b_and, b_or, b_xor, b_mod, b_fdiv, b_mul, b_pow, b_shl, b_shr, b_cat, b_catT, b_rep, a_add, a_sub, a_and, a_or, a_xor, a_shr, a_shl, a_fdiv, o_neg, o_inv, o_cmp, c_eq, c_ne, c_lt, c_le, c_gt, c_ge, c_isn, c_notn, c_inl, c_ninl, c_int, c_nint, c_ind, c_nind, kB_int, kB_str, o_subD, o_sub, o_subT, at0, at1, at2, at3, at4, ix0, ix1, ix2, ix3, o_len, o_lenT, o_abs, o_min2, o_max2, o_int, o_intb, o_tup, o_tupt, o_lst, o_lstt, o_rev, o_lrevl, o_lrevt, o_isi, o_isi2, i_int, i_bl, i_lst, i_tup, i_str, i_non, o_slu, o_slsu, o_sll, o_sla, o_slut, o_sllt, o_all, o_any, o_sum, o_srt, o_srtT, o_stp, o_lrng1, o_lrng2, n_seqL, n_seqT, n_enumL, n_enumT, n_rev, n_revT, n_zipL, n_zipT, n_rng1, n_rng2, n_revr, ownVar, ownS, getS, lstB, os_setS, stO_some, stO_none, stB_un, stB_sh, stB_ow, putS, odTs, odT, odAs, odA, refs, nodupB, backs, back1, retE, outS, wipeS, giveS, plainS, tgtF, asgs, mkSeq, T.isNon, okFor, setsS, setsL, List.getElem?_cons_zero, List.getElem?_cons_succ, List.getElem?_nil, List.set_cons_zero, List.set_cons_succ, List.length_cons, List.length_nil, List.length_map, List.cons_append, List.nil_append, List.append_nil, List.replicate, List.getD_cons_zero, List.getD_cons_succ, Option.getD, List.contains_nil, List.contains_cons, Bool.not_true, Bool.not_false, Bool.and_true, Bool.true_and, Bool.and_self, if_true, if_false, true_and, and_true, ite_true, ite_false, reduceIte, Bool.false_eq_true, Bool.true_eq_false, decide_true, decide_false, decide_eq_true_eq, eq_self, Nat.reduceAdd, Nat.reduceLT, Nat.reduceSub, Int.reduceLT, Int.reduceLE, Int.reduceToNat, Int.reduceAbs, Int.reducePow, Int.natAbs_natCast, Nat.reducePow, Nat.reduceLeDiff, Nat.reduceMul, Nat.reduceBEq, Bool.or_true, Bool.or_false, Bool.true_or, Bool.false_or, Int.reduceNeg, $a,*] $l)
def x_then : FD where
  name := "then"
  ps := ["one", "other"]
  N := ["one", "other", "entry"]
  body := [
    .ret (.op .tupc [(.comp (.ife (.op (.cmp .GtE) [(.var 2), (.int 0)]) (.op .sub [(.var 0), (.var 2)]) (.var 2)) [2] false .seq [(.var 1)] [] [2])])]
def thenZ (a b : List Int) : List Int := b.map fun e => if 0 ≤ e then a.getD e.toNat 0 else e
def stayZ (w : Nat) : List Int := (List.range w).map fun n : Nat => (n : Int)
theorem stayZ_len (w : Nat) : (stayZ w).length = w := by unfold stayZ; rw [List.length_map, List.length_range]
theorem stayZ_get {w j : Nat} (h : j < w) : (stayZ w)[j]? = some (j : Int) := by
  unfold stayZ
  rw [List.getElem?_map, List.getElem?_range h]
  rfl
theorem stay_lead (w : Nat) : LeadZ w (stayZ w) := ⟨stayZ_len w, fun e he => by
  obtain ⟨n, hn, rfl⟩ := List.mem_map.mp he
  have := List.mem_range.mp hn
  omega⟩
theorem lead_get {w : Nat} {es : List Int} (h : LeadZ w es) {k : Nat} (hk : k < w) : ∃ e, es[k]? = some e ∧ es.getD k 0 = e ∧ -2 ≤ e ∧ e < w := by
  have hl : k < es.length := by rw [h.1]; exact hk
  refine ⟨es[k], List.getElem?_eq_getElem hl, ?_, h.2 _ (List.getElem_mem hl)⟩
  rw [List.getD_eq_getElem?_getD, List.getElem?_eq_getElem hl]
  rfl
theorem then_stay {w : Nat} {a : List Int} (ha : LeadZ w a) : thenZ (stayZ w) a = a := by
  unfold thenZ
  conv => rhs; rw [← List.map_id a]
  refine List.map_congr_left fun e he => ?_
  have := ha.2 e he
  split
  · rw [List.getD_eq_getElem?_getD, stayZ_get (show e.toNat < w by omega)]
    show ((e.toNat : Nat) : Int) = e
    omega
  · rfl
theorem stay_then {w : Nat} {a : List Int} (ha : LeadZ w a) : thenZ a (stayZ w) = a := by
  apply List.ext_getElem?
  intro j
  unfold thenZ
  rw [List.getElem?_map]
  by_cases hj : j < w
  · rw [stayZ_get hj]
    obtain ⟨e, h1, h2, _⟩ := lead_get ha hj
    show some (if 0 ≤ (j : Int) then a.getD (j : Int).toNat 0 else (j : Int)) = a[j]?
    rw [if_pos (by omega), Int.toNat_natCast, h2, h1]
  · rw [List.getElem?_eq_none (by rw [stayZ_len]; omega), List.getElem?_eq_none (by rw [ha.1]; omega)]
    rfl
theorem then_assoc {w : Nat} {a b c : List Int} (ha : LeadZ w a) (hb : LeadZ w b) (hc : LeadZ w c) : thenZ (thenZ a b) c = thenZ a (thenZ b c) := by
  unfold thenZ
  rw [List.map_map]
  refine List.map_congr_left fun e he => ?_
  have h1 := hc.2 e he
  show (if 0 ≤ e then (b.map fun e => if 0 ≤ e then a.getD e.toNat 0 else e).getD e.toNat 0 else e) = if 0 ≤ (if 0 ≤ e then b.getD e.toNat 0 else e) then a.getD (if 0 ≤ e then b.getD e.toNat 0 else e).toNat 0 else (if 0 ≤ e then b.getD e.toNat 0 else e)
  by_cases h0 : 0 ≤ e
  · rw [if_pos h0, if_pos h0]
    obtain ⟨y, h2, h3, _⟩ := lead_get hb (k := e.toNat) (by omega)
    rw [List.getD_eq_getElem?_getD, List.getElem?_map, h2, h3]
    rfl
  · rw [if_neg h0, if_neg h0, if_neg h0]
theorem okT_tZ (es : List Int) : (T.tup (tZ es)).ok = true := by
  have := okT_ints es
  unfold T.ok at this ⊢
  simpa [T.dat, T.dep, tZ] using this
theorem c_neZ (a b : List Int) : cmpF .NotEq (.tup (tZ a)) (.tup (tZ b)) = some (!decide (a = b)) := by
  show (if (T.tup (tZ a)).ok && (T.tup (tZ b)).ok then some (!T.beqs (tZ a) (tZ b)) else none) = _
  rw [okT_tZ, okT_tZ]
  unfold tZ
  rw [beqs_ints]
  rfl
theorem c_eqZ (a b : List Int) : cmpF .Eq (.tup (tZ a)) (.tup (tZ b)) = some (decide (a = b)) := by
  show (if (T.tup (tZ a)).ok && (T.tup (tZ b)).ok then some (T.beqs (tZ a) (tZ b)) else none) = _
  rw [okT_tZ, okT_tZ]
  unfold tZ
  rw [beqs_ints]
  rfl
section
variable {P : List FD} {glb : Nat → Option T} {wf d f : Nat}
theorem then_ok {w : Nat} {a b : List Int} (hf : P[f]? = some x_then) (ha : LeadZ w a) (hb : LeadZ w b) : Ok (callF P glb wf (d + 1) f [.sh (.tup (tZ a)), .sh (.tup (tZ b))]) fun r outs => r = (false, .tup (tZ (thenZ a b))) ∧ outs = [.un, .un] := by
  refine call_ok hf rfl ?_
  unfold x_then
  dsimp! only [w_comp, Option.bind_some, Option.map_some, itN, seqN, rangeN, zipN, revrN]
  refine comp_mapT (fun t => .int (if 0 ≤ t.toI then a.getD t.toI.toNat 0 else t.toI)) (wk_tup (tZ b)) rfl (fun x hx => ?_) ?_
  · obtain ⟨e, he', rfl⟩ := List.mem_map.mp hx
    have z := hb.2 e he'
    have hv : ∀ t, (t = T.int (if 0 ≤ (T.int e).toI then a.getD (T.int e).toI.toNat 0 else (T.int e).toI)) = (t = T.int (if 0 ≤ e then a.getD e.toNat 0 else e)) := fun _ => rfl
    dsimp! only []
    by_cases h0 : 0 ≤ e
    · simp only [h0, decide_true, if_true]
      obtain ⟨y, h2, h3, _⟩ := lead_get ha (k := e.toNat) (by omega)
      refine os_eq (a := T.int y) ?_ ⟨?_, rfl⟩
      · rw [at_int _ h0, tZ_get, h2]
        rfl
      · rw [hv, if_pos h0, h3]
    · simp only [h0, decide_false, if_false]
      show T.int e = T.int (if 0 ≤ e then a.getD e.toNat 0 else e)
      rw [if_neg h0]
  · have e : (tZ b).map (fun t => T.int (if 0 ≤ t.toI then a.getD t.toI.toNat 0 else t.toI)) = tZ (thenZ a b) := by
      unfold tZ thenZ
      rw [List.map_map, List.map_map]
      rfl
    rw [e]
    dsimp! only []
end
end MP
namespace MP
open PySem
/-- a sum of whole numbers -/
theorem intsT_map {α : Type} (xs : List α) (p : α → Int) : intsT (xs.map fun x => T.int (p x)) = some (xs.map p) := by
  induction xs with
  | nil => rfl
  | cons x xs ih =>
    show (intsT (xs.map fun x => T.int (p x))).map (p x :: ·) = _
    rw [ih]
    rfl
theorem os_at {xs : List T} {k : Nat} {Q : T → Prop} (hk : k < xs.length) (h : ∀ t ∈ xs, Q t) : Os (L2.atI xs (k : Int)) Q := by
  rw [at_nat]
  exact os_eq (List.getElem?_eq_getElem hk) (h _ (List.getElem_mem hk))
end MP
namespace MP
open PySem
local macro_rules
  | `(tactic| dsimp! only [$a,*]) => `(tactic| simp only [w_nil, w_cons, w_set, w_unp, w_par, w_aug, w_sts, w_dst, w_st2, os_stD, os_stL, two2_t, w_rdv, w_dnew, w_tmt, w_fnv, w_cal, w_dsp, w_dgt, w_app, w_ext, w_ins, w_ixl, w_exp, w_ret, w_retn, w_ife, w_non, w_bl, w_int, w_str, w_var, w_glb, w_tup, w_lst, w_op, w_chn, w_not, w_ifx, w_bop, w_b1, w_b2, w_call, w_do, w_pop, w_fs0, w_fs, w_os0, w_os, w_ts0, w_ts1, ok_ok, ok_bad, ok_bind, os_some, os_none, os_bind, os_map, os_ifn, bl_bl, fn_nx, fn_rt, rt_nx, rt_rt, o_bin, b_add, b_sub, b_and, b_or, b_xor, b_mod, b_fdiv, b_mul, b_pow, b_shl, b_shr, b_cat, b_catT, b_rep, a_add, a_sub, a_and, a_or, a_xor, a_shr, a_shl, a_fdiv, o_neg, o_inv, o_cmp, c_eq, c_ne, c_lt, c_le, c_gt, c_ge, c_isn, c_notn, c_inl, c_ninl, c_int, c_nint, c_ind, c_nind, kB_int, kB_str, o_subD, o_sub, o_subT, at0, at1, at2, at3, at4, ix0, ix1, ix2, ix3, o_len, o_lenT, o_abs, o_min2, o_max2, o_int, o_intb, o_tup, o_tupt, o_lst, o_lstt, o_rev, o_lrevl, o_lrevt, o_isi, o_isi2, i_int, i_bl, i_lst, i_tup, i_str, i_non, o_slu, o_slsu, o_sll, o_sla, o_slut, o_sllt, o_all, o_any, o_sum, o_srt, o_srtT, o_stp, o_lrng1, o_lrng2, n_seqL, n_seqT, n_enumL, n_enumT, n_rev, n_revT, n_zipL, n_zipT, n_rng1, n_rng2, n_revr, ownVar, ownS, getS, lstB, os_setS, stO_some, stO_none, stB_un, stB_sh, stB_ow, putS, odTs, odT, odAs, odA, refs, nodupB, backs, back1, retE, outS, wipeS, giveS, plainS, tgtF, asgs, mkSeq, T.isNon, okFor, setsS, setsL, List.getElem?_cons_zero, List.getElem?_cons_succ, List.getElem?_nil, List.set_cons_zero, List.set_cons_succ, List.length_cons, List.length_nil, List.length_map, List.cons_append, List.nil_append, List.append_nil, List.replicate, List.getD_cons_zero, List.getD_cons_succ, Option.getD, List.contains_nil, List.contains_cons, Bool.not_true, Bool.not_false, Bool.and_true, Bool.true_and, Bool.and_self, if_true, if_false, true_and, and_true, ite_true, ite_false, reduceIte, Bool.false_eq_true, Bool.true_eq_false, decide_true, decide_false, decide_eq_true_eq, eq_self, Nat.reduceAdd, Nat.reduceLT, Nat.reduceSub, Int.reduceLT, Int.reduceLE, Int.reduceToNat, Int.reduceAbs, Int.reducePow, Int.natAbs_natCast, Nat.reducePow, Nat.reduceLeDiff, Nat.reduceMul, Nat.reduceBEq, Bool.or_true, Bool.or_false, Bool.true_or, Bool.false_or, Int.reduceNeg, $a,*])
  | `(tactic| dsimp! only [$a,*] $l:location) => `(tactic| simp only [w_nil, w_cons, w_set, w_unp, w_par, w_aug, w_sts, w_dst, w_st2, os_stD, os_stL, two2_t, w_rdv, w_dnew, w_tmt, w_fnv, w_cal, w_dsp, w_dgt, w_app, w_ext, w_ins, w_ixl, w_exp, w_ret, w_retn, w_ife, w_non, w_bl, w_int, w_str, w_var, w_glb, w_tup, w_lst, w_op, w_chn, w_not, w_ifx, w_bop, w_b1, w_b2, w_call, w_do, w_pop, w_fs0, w_fs, w_os0, w_os, w_ts0, w_ts1, ok_ok, ok_bad, ok_bind, os_some, os_none, os_bind, os_map, os_ifn, bl_bl, fn_nx, fn_rt, rt_nx, rt_rt, o_bin, b_add, b_sub, b_and, b_or, b_xor, b_mod, b_fdiv, b_mul, b_pow, b_shl, b_shr, b_cat, b_catT, b_rep, a_add, a_sub, a_and, a_or, a_xor, a_shr, a_shl, a_fdiv, o_neg, o_inv, o_cmp, c_eq, c_ne, c_lt, c_le, c_gt, c_ge, c_isn, c_notn, c_inl, c_ninl, c_int, c_nint, c_ind, c_nind, kB_int, kB_str, o_subD, o_sub, o_subT, at0, at1, at2, at3, at4, ix0, ix1, ix2, ix3, o_len, o_lenT, o_abs, o_min2, o_max2, o_int, o_intb, o_tup, o_tupt, o_lst, o_lstt, o_rev, o_lrevl, o_lrevt, o_isi, o_isi2, i_int, i_bl, i_lst, i_tup, i_str, i_non, o_slu, o_slsu, o_sll, o_sla, o_slut, o_sllt, o_all, o_any, o_sum, o_srt, o_srtT, o_stp, o_lrng1, o_lrng2, n_seqL, n_seqT, n_enumL, n_enumT, n_rev, n_revT, n_zipL, n_zipT, n_rng1, n_rng2, n_revr, ownVar, ownS, getS, lstB, os_setS, stO_some, stO_none, stB_un, stB_sh, stB_ow, putS, odTs, odT, odAs, odA, refs, nodupB, backs, back1, retE, outS, wipeS, giveS, plainS, tgtF, asgs, mkSeq, T.isNon, okFor, setsS, setsL, List.getElem?_cons_zero, List.getElem?_cons_succ, List.getElem?_nil, List.set_cons_zero, List.set_cons_succ, List.length_cons, List.length_nil, List.length_map, List.cons_append, List.nil_append, List.append_nil, List.replicate, List.getD_cons_zero, List.getD_cons_succ, Option.getD, List.contains_nil, List.contains_cons, Bool.not_true, Bool.not_false, Bool.and_true, Bool.true_and, Bool.and_self, if_true, if_false, true_and, and_true, ite_true, ite_false, reduceIte, Bool.false_eq_true, Bool.true_eq_false, decide_true, decide_false, decide_eq_true_eq, eq_self, Nat.reduceAdd, Nat.reduceLT, Nat.reduceSub, Int.reduceLT, Int.reduceLE, Int.reduceToNat, Int.reduceAbs, Int.reducePow, Int.natAbs_natCast, Nat.reducePow, Nat.reduceLeDiff, Nat.reduceMul, Nat.reduceBEq, Bool.or_true, Bool.or_false, Bool.true_or, Bool.false_or, Int.reduceNeg, $a,*] $l)
section
variable {C : Cn} {elt : En → R (Bool × T)} {test : En → R Bool} {tgs own : List Nat} {tp : Bool} {k : IK} {n : Nat × Bool} {os : List Od} {Q : List T → En → Prop} {g : En}
/-- a comprehension with a test, its items a row of something -/
theorem comp_filt {α : Type} {ts : List T} {as : List α} {mk : α → T} (p : α → Bool) (f : α → T) (hw : Wk k n ts (as.map mk)) (ho : odTs g os = some ts)
    (hs : ∀ a, a ∈ as → Os (tgtF tgs tp (mk a) g) fun g1 => Ok (test g1) fun b g2 => b = p a ∧ if b = true then Ok (elt g2) fun r g3 => r.2 = f a ∧ wipeS g3 own = g else wipeS g2 own = g) (hd : Q ((as.filter p).map f) g) : Ok (compL elt test tgs tp k n os own n.1 0 [] g) Q := by
  refine comp_ok (I := fun i acc g' => g' = g ∧ acc = ((as.take i).filter p).map f) hw ⟨rfl, rfl⟩ (fun i acc g' h => by rw [h.1]; exact ho) (fun i x acc g' hx h => ?_) (fun acc g' h => ?_)
  · obtain ⟨rfl, rfl⟩ := h
    rw [List.getElem?_map] at hx
    obtain ⟨a, ha, rfl⟩ := Option.map_eq_some_iff.mp hx
    have hm : a ∈ as := List.mem_of_getElem? ha
    have e : as.take (i + 1) = as.take i ++ [a] := by rw [List.take_add_one, ha]; rfl
    refine Os.mono (hs a hm) fun g1 q => Ok.mono q fun b g2 ⟨hb, q⟩ => ?_
    rw [e, List.filter_append, List.map_append]
    cases b with
    | true =>
      rw [if_pos rfl] at q ⊢
      refine Ok.mono q fun r g3 ⟨q1, q2⟩ => ⟨q2, ?_⟩
      rw [List.filter_cons, ← hb, if_pos rfl, q1]
      rfl
    | false =>
      rw [if_neg (by decide)] at q ⊢
      refine ⟨q, ?_⟩
      rw [List.filter_cons, ← hb, if_neg (by decide)]
      simp
  · obtain ⟨rfl, rfl⟩ := h
    rw [List.length_map, List.take_length]
    exact hd
theorem comp_each {α : Type} {ts : List T} {as : List α} {mk : α → T} (f : α → T) (hw : Wk k n ts (as.map mk)) (ho : odTs g os = some ts)
    (hs : ∀ a, a ∈ as → Os (tgtF tgs tp (mk a) g) fun g1 => Ok (test g1) fun b g2 => b = true ∧ Ok (elt g2) fun r g3 => r.2 = f a ∧ wipeS g3 own = g) (hd : Q (as.map f) g) : Ok (compL elt test tgs tp k n os own n.1 0 [] g) Q := by
  refine comp_filt (fun _ => true) f hw ho (fun x hx => Os.mono (hs x hx) fun g1 q => Ok.mono q fun b g2 ⟨hb, q⟩ => ⟨hb, ?_⟩) ?_
  · rw [if_pos hb]; exact q
  · have e : as.filter (fun _ => true) = as := List.filter_eq_self.mpr fun _ _ => rfl
    rw [e]
    exact hd
end
theorem wk_rng (n : Nat) : Wk .range (((n : Nat) : Int).toNat, false) [.int (n : Int)] ((List.range n).map fun j : Nat => T.int (j : Int)) := by
  have := wk_range1 (n : Int)
  rw [Int.toNat_natCast] at this ⊢
  rwa [range0_eq] at this
theorem wk_tupM {α : Type} (mk : α → T) (xs : List α) : Wk .seq (xs.length, true) [.tup (xs.map mk)] (xs.map mk) := by
  have := wk_tup (xs.map mk)
  rwa [List.length_map] at this
end MP
namespace MP
open PySem
theorem bit_ext {a b : Nat} (h : ∀ j, a.testBit j = true ↔ b.testBit j = true) : a = b := Nat.eq_of_testBit_eq fun j => Bool.eq_iff_iff.mpr (h j)
end MP
namespace MP
open PySem
end MP
namespace MP
open PySem
local macro_rules
  | `(tactic| dsimp! only [$a,*]) => `(tactic| simp only [w_nil, w_cons, w_set, w_unp, w_par, w_aug, w_sts, w_dst, w_st2, os_stD, os_stL, two2_t, w_rdv, w_dnew, w_tmt, w_fnv, w_cal, w_dsp, w_dgt, w_app, w_ext, w_ins, w_ixl, w_exp, w_ret, w_retn, w_ife, w_non, w_bl, w_int, w_str, w_var, w_glb, w_tup, w_lst, w_op, w_chn, w_not, w_ifx, w_bop, w_b1, w_b2, w_call, w_do, w_pop, w_fs0, w_fs, w_os0, w_os, w_ts0, w_ts1, ok_ok, ok_bad, ok_bind, os_some, os_none, os_bind, os_map, os_ifn, bl_bl, fn_nx, fn_rt, rt_nx, rt_rt, o_bin, b_add, b_sub, b_and, b_or, b_xor, b_mod, b_fdiv, b_mul, b_pow, b_shl, b_shr, b_cat, b_catT, b_rep, a_add, a_sub, a_and, a_or, a_xor, a_shr, a_shl, a_fdiv, o_neg, o_inv, o_cmp, c_eq, c_ne, c_lt, c_le, c_gt, c_ge, c_isn, c_notn, c_inl, c_ninl, c_int, c_nint, c_ind, c_nind, kB_int, kB_str, o_subD, o_sub, o_subT, at0, at1, at2, at3, at4, ix0, ix1, ix2, ix3, o_len, o_lenT, o_abs, o_min2, o_max2, o_int, o_intb, o_tup, o_tupt, o_lst, o_lstt, o_rev, o_lrevl, o_lrevt, o_isi, o_isi2, i_int, i_bl, i_lst, i_tup, i_str, i_non, o_slu, o_slsu, o_sll, o_sla, o_slut, o_sllt, o_all, o_any, o_sum, o_srt, o_srtT, o_stp, o_lrng1, o_lrng2, n_seqL, n_seqT, n_enumL, n_enumT, n_rev, n_revT, n_zipL, n_zipT, n_rng1, n_rng2, n_revr, ownVar, ownS, getS, lstB, os_setS, stO_some, stO_none, stB_un, stB_sh, stB_ow, putS, odTs, odT, odAs, odA, refs, nodupB, backs, back1, retE, outS, wipeS, giveS, plainS, tgtF, asgs, mkSeq, T.isNon, okFor, setsS, setsL, List.getElem?_cons_zero, List.getElem?_cons_succ, List.getElem?_nil, List.set_cons_zero, List.set_cons_succ, List.length_cons, List.length_nil, List.length_map, List.cons_append, List.nil_append, List.append_nil, List.replicate, List.getD_cons_zero, List.getD_cons_succ, Option.getD, List.contains_nil, List.contains_cons, Bool.not_true, Bool.not_false, Bool.and_true, Bool.true_and, Bool.and_self, if_true, if_false, true_and, and_true, ite_true, ite_false, reduceIte, Bool.false_eq_true, Bool.true_eq_false, decide_true, decide_false, decide_eq_true_eq, eq_self, Nat.reduceAdd, Nat.reduceLT, Nat.reduceSub, Int.reduceLT, Int.reduceLE, Int.reduceToNat, Int.reduceAbs, Int.reducePow, Int.natAbs_natCast, Nat.reducePow, Nat.reduceLeDiff, Nat.reduceMul, Nat.reduceBEq, Bool.or_true, Bool.or_false, Bool.true_or, Bool.false_or, Int.reduceNeg, $a,*])
  | `(tactic| dsimp! only [$a,*] $l:location) => `(tactic| simp only [w_nil, w_cons, w_set, w_unp, w_par, w_aug, w_sts, w_dst, w_st2, os_stD, os_stL, two2_t, w_rdv, w_dnew, w_tmt, w_fnv, w_cal, w_dsp, w_dgt, w_app, w_ext, w_ins, w_ixl, w_exp, w_ret, w_retn, w_ife, w_non, w_bl, w_int, w_str, w_var, w_glb, w_tup, w_lst, w_op, w_chn, w_not, w_ifx, w_bop, w_b1, w_b2, w_call, w_do, w_pop, w_fs0, w_fs, w_os0, w_os, w_ts0, w_ts1, ok_ok, ok_bad, ok_bind, os_some, os_none, os_bind, os_map, os_ifn, bl_bl, fn_nx, fn_rt, rt_nx, rt_rt, o_bin, b_add, b_sub, b_and, b_or, b_xor, b_mod, b_fdiv, b_mul, b_pow, b_shl, b_shr, b_cat, b_catT, b_rep, a_add, a_sub, a_and, a_or, a_xor, a_shr, a_shl, a_fdiv, o_neg, o_inv, o_cmp, c_eq, c_ne, c_lt, c_le, c_gt, c_ge, c_isn, c_notn, c_inl, c_ninl, c_int, c_nint, c_ind, c_nind, kB_int, kB_str, o_subD, o_sub, o_subT, at0, at1, at2, at3, at4, ix0, ix1, ix2, ix3, o_len, o_lenT, o_abs, o_min2, o_max2, o_int, o_intb, o_tup, o_tupt, o_lst, o_lstt, o_rev, o_lrevl, o_lrevt, o_isi, o_isi2, i_int, i_bl, i_lst, i_tup, i_str, i_non, o_slu, o_slsu, o_sll, o_sla, o_slut, o_sllt, o_all, o_any, o_sum, o_srt, o_srtT, o_stp, o_lrng1, o_lrng2, n_seqL, n_seqT, n_enumL, n_enumT, n_rev, n_revT, n_zipL, n_zipT, n_rng1, n_rng2, n_revr, ownVar, ownS, getS, lstB, os_setS, stO_some, stO_none, stB_un, stB_sh, stB_ow, putS, odTs, odT, odAs, odA, refs, nodupB, backs, back1, retE, outS, wipeS, giveS, plainS, tgtF, asgs, mkSeq, T.isNon, okFor, setsS, setsL, List.getElem?_cons_zero, List.getElem?_cons_succ, List.getElem?_nil, List.set_cons_zero, List.set_cons_succ, List.length_cons, List.length_nil, List.length_map, List.cons_append, List.nil_append, List.append_nil, List.replicate, List.getD_cons_zero, List.getD_cons_succ, Option.getD, List.contains_nil, List.contains_cons, Bool.not_true, Bool.not_false, Bool.and_true, Bool.true_and, Bool.and_self, if_true, if_false, true_and, and_true, ite_true, ite_false, reduceIte, Bool.false_eq_true, Bool.true_eq_false, decide_true, decide_false, decide_eq_true_eq, eq_self, Nat.reduceAdd, Nat.reduceLT, Nat.reduceSub, Int.reduceLT, Int.reduceLE, Int.reduceToNat, Int.reduceAbs, Int.reducePow, Int.natAbs_natCast, Nat.reducePow, Nat.reduceLeDiff, Nat.reduceMul, Nat.reduceBEq, Bool.or_true, Bool.or_false, Bool.true_or, Bool.false_or, Int.reduceNeg, $a,*] $l)
theorem map_rep {α β : Type} (ws : List α) (b : β) : (ws.map fun _ => b) = List.replicate ws.length b := by
  induction ws with
  | nil => rfl
  | cons w ws ih => rw [List.map_cons, ih]; rfl
end MP
namespace MP
open PySem
local macro_rules
  | `(tactic| dsimp! only [$a,*]) => `(tactic| simp only [w_nil, w_cons, w_set, w_unp, w_par, w_aug, w_sts, w_dst, w_st2, os_stD, os_stL, two2_t, w_rdv, w_dnew, w_tmt, w_fnv, w_cal, w_dsp, w_dgt, w_app, w_ext, w_ins, w_ixl, w_exp, w_ret, w_retn, w_ife, w_non, w_bl, w_int, w_str, w_var, w_glb, w_tup, w_lst, w_op, w_chn, w_not, w_ifx, w_bop, w_b1, w_b2, w_call, w_do, w_pop, w_fs0, w_fs, w_os0, w_os, w_ts0, w_ts1, ok_ok, ok_bad, ok_bind, os_some, os_none, os_bind, os_map, os_ifn, bl_bl, fn_nx, fn_rt, rt_nx, rt_rt, o_bin, b_add, b_sub, b_and, b_or, b_xor, b_mod, b_fdiv, b_mul, b_pow, b_shl, b_shr, b_cat, b_catT, b_rep, a_add, a_sub, a_and, a_or, a_xor, a_shr, a_shl, a_fdiv, o_neg, o_inv, o_cmp, c_eq, c_ne, c_lt, c_le, c_gt, c_ge, c_isn, c_notn, c_inl, c_ninl, c_int, c_nint, c_ind, c_nind, kB_int, kB_str, o_subD, o_sub, o_subT, at0, at1, at2, at3, at4, ix0, ix1, ix2, ix3, o_len, o_lenT, o_abs, o_min2, o_max2, o_int, o_intb, o_tup, o_tupt, o_lst, o_lstt, o_rev, o_lrevl, o_lrevt, o_isi, o_isi2, i_int, i_bl, i_lst, i_tup, i_str, i_non, o_slu, o_slsu, o_sll, o_sla, o_slut, o_sllt, o_all, o_any, o_sum, o_srt, o_srtT, o_stp, o_lrng1, o_lrng2, n_seqL, n_seqT, n_enumL, n_enumT, n_rev, n_revT, n_zipL, n_zipT, n_rng1, n_rng2, n_revr, ownVar, ownS, getS, lstB, os_setS, stO_some, stO_none, stB_un, stB_sh, stB_ow, putS, odTs, odT, odAs, odA, refs, nodupB, backs, back1, retE, outS, wipeS, giveS, plainS, tgtF, asgs, mkSeq, T.isNon, okFor, setsS, setsL, List.getElem?_cons_zero, List.getElem?_cons_succ, List.getElem?_nil, List.set_cons_zero, List.set_cons_succ, List.length_cons, List.length_nil, List.length_map, List.cons_append, List.nil_append, List.append_nil, List.replicate, List.getD_cons_zero, List.getD_cons_succ, Option.getD, List.contains_nil, List.contains_cons, Bool.not_true, Bool.not_false, Bool.and_true, Bool.true_and, Bool.and_self, if_true, if_false, true_and, and_true, ite_true, ite_false, reduceIte, Bool.false_eq_true, Bool.true_eq_false, decide_true, decide_false, decide_eq_true_eq, eq_self, Nat.reduceAdd, Nat.reduceLT, Nat.reduceSub, Int.reduceLT, Int.reduceLE, Int.reduceToNat, Int.reduceAbs, Int.reducePow, Int.natAbs_natCast, Nat.reducePow, Nat.reduceLeDiff, Nat.reduceMul, Nat.reduceBEq, Bool.or_true, Bool.or_false, Bool.true_or, Bool.false_or, Int.reduceNeg, $a,*])
  | `(tactic| dsimp! only [$a,*] $l:location) => `(tactic| simp only [w_nil, w_cons, w_set, w_unp, w_par, w_aug, w_sts, w_dst, w_st2, os_stD, os_stL, two2_t, w_rdv, w_dnew, w_tmt, w_fnv, w_cal, w_dsp, w_dgt, w_app, w_ext, w_ins, w_ixl, w_exp, w_ret, w_retn, w_ife, w_non, w_bl, w_int, w_str, w_var, w_glb, w_tup, w_lst, w_op, w_chn, w_not, w_ifx, w_bop, w_b1, w_b2, w_call, w_do, w_pop, w_fs0, w_fs, w_os0, w_os, w_ts0, w_ts1, ok_ok, ok_bad, ok_bind, os_some, os_none, os_bind, os_map, os_ifn, bl_bl, fn_nx, fn_rt, rt_nx, rt_rt, o_bin, b_add, b_sub, b_and, b_or, b_xor, b_mod, b_fdiv, b_mul, b_pow, b_shl, b_shr, b_cat, b_catT, b_rep, a_add, a_sub, a_and, a_or, a_xor, a_shr, a_shl, a_fdiv, o_neg, o_inv, o_cmp, c_eq, c_ne, c_lt, c_le, c_gt, c_ge, c_isn, c_notn, c_inl, c_ninl, c_int, c_nint, c_ind, c_nind, kB_int, kB_str, o_subD, o_sub, o_subT, at0, at1, at2, at3, at4, ix0, ix1, ix2, ix3, o_len, o_lenT, o_abs, o_min2, o_max2, o_int, o_intb, o_tup, o_tupt, o_lst, o_lstt, o_rev, o_lrevl, o_lrevt, o_isi, o_isi2, i_int, i_bl, i_lst, i_tup, i_str, i_non, o_slu, o_slsu, o_sll, o_sla, o_slut, o_sllt, o_all, o_any, o_sum, o_srt, o_srtT, o_stp, o_lrng1, o_lrng2, n_seqL, n_seqT, n_enumL, n_enumT, n_rev, n_revT, n_zipL, n_zipT, n_rng1, n_rng2, n_revr, ownVar, ownS, getS, lstB, os_setS, stO_some, stO_none, stB_un, stB_sh, stB_ow, putS, odTs, odT, odAs, odA, refs, nodupB, backs, back1, retE, outS, wipeS, giveS, plainS, tgtF, asgs, mkSeq, T.isNon, okFor, setsS, setsL, List.getElem?_cons_zero, List.getElem?_cons_succ, List.getElem?_nil, List.set_cons_zero, List.set_cons_succ, List.length_cons, List.length_nil, List.length_map, List.cons_append, List.nil_append, List.append_nil, List.replicate, List.getD_cons_zero, List.getD_cons_succ, Option.getD, List.contains_nil, List.contains_cons, Bool.not_true, Bool.not_false, Bool.and_true, Bool.true_and, Bool.and_self, if_true, if_false, true_and, and_true, ite_true, ite_false, reduceIte, Bool.false_eq_true, Bool.true_eq_false, decide_true, decide_false, decide_eq_true_eq, eq_self, Nat.reduceAdd, Nat.reduceLT, Nat.reduceSub, Int.reduceLT, Int.reduceLE, Int.reduceToNat, Int.reduceAbs, Int.reducePow, Int.natAbs_natCast, Nat.reducePow, Nat.reduceLeDiff, Nat.reduceMul, Nat.reduceBEq, Bool.or_true, Bool.or_false, Bool.true_or, Bool.false_or, Int.reduceNeg, $a,*] $l)
theorem c_neLZ (a b : List Int) : cmpF .NotEq (.lst (tZ a)) (.lst (tZ b)) = some (!decide (a = b)) := by
  show (if (T.lst (tZ a)).ok && (T.lst (tZ b)).ok then some (!T.beqs (tZ a) (tZ b)) else none) = _
  have h1 : (T.lst (tZ a)).ok = true := okT_ints a
  have h2 : (T.lst (tZ b)).ok = true := okT_ints b
  rw [h1, h2]
  unfold tZ
  rw [beqs_ints]
  rfl
end MP
namespace MP
open PySem
end MP
namespace MP
open PySem
theorem sq_and_and : cmpF .Eq (.str [97, 110, 100]) (.str [97, 110, 100]) = some true := rfl
theorem sq_and_or : cmpF .Eq (.str [97, 110, 100]) (.str [111, 114]) = some false := rfl
theorem sq_and_gather : cmpF .Eq (.str [97, 110, 100]) (.str [103, 97, 116, 104, 101, 114]) = some false := rfl
theorem sq_and_strew : cmpF .Eq (.str [97, 110, 100]) (.str [115, 116, 114, 101, 119]) = some false := rfl
theorem sq_and_left : cmpF .Eq (.str [97, 110, 100]) (.str [108, 101, 102, 116]) = some false := rfl
theorem sq_and_right : cmpF .Eq (.str [97, 110, 100]) (.str [114, 105, 103, 104, 116]) = some false := rfl
theorem sq_and_turn : cmpF .Eq (.str [97, 110, 100]) (.str [116, 117, 114, 110]) = some false := rfl
theorem sq_and_swap : cmpF .Eq (.str [97, 110, 100]) (.str [115, 119, 97, 112]) = some false := rfl
theorem sq_and_copy : cmpF .Eq (.str [97, 110, 100]) (.str [99, 111, 112, 121]) = some false := rfl
theorem si_and_M : cmpF .In (.str [97, 110, 100]) (.tup [(.str [97, 110, 100]), (.str [111, 114]), (.str [103, 97, 116, 104, 101, 114]), (.str [115, 116, 114, 101, 119])]) = some true := rfl
theorem si_and_B : cmpF .In (.str [97, 110, 100]) (.tup [(.str [108, 101, 102, 116]), (.str [114, 105, 103, 104, 116]), (.str [116, 117, 114, 110])]) = some false := rfl
theorem si_and_S : cmpF .In (.str [97, 110, 100]) (.tup [(.str [115, 119, 97, 112]), (.str [99, 111, 112, 121])]) = some false := rfl
theorem si_and_L : cmpF .In (.str [97, 110, 100]) (.tup [(.str [108, 101, 102, 116]), (.str [114, 105, 103, 104, 116])]) = some false := rfl
theorem sn_and : cmpF .NotIn (.str [97, 110, 100]) (.tup [(.str [115, 119, 97, 112]), (.str [99, 111, 112, 121])]) = some true := rfl
theorem sq_or_and : cmpF .Eq (.str [111, 114]) (.str [97, 110, 100]) = some false := rfl
theorem sq_or_or : cmpF .Eq (.str [111, 114]) (.str [111, 114]) = some true := rfl
theorem sq_or_gather : cmpF .Eq (.str [111, 114]) (.str [103, 97, 116, 104, 101, 114]) = some false := rfl
theorem sq_or_strew : cmpF .Eq (.str [111, 114]) (.str [115, 116, 114, 101, 119]) = some false := rfl
theorem sq_or_left : cmpF .Eq (.str [111, 114]) (.str [108, 101, 102, 116]) = some false := rfl
theorem sq_or_right : cmpF .Eq (.str [111, 114]) (.str [114, 105, 103, 104, 116]) = some false := rfl
theorem sq_or_turn : cmpF .Eq (.str [111, 114]) (.str [116, 117, 114, 110]) = some false := rfl
theorem sq_or_swap : cmpF .Eq (.str [111, 114]) (.str [115, 119, 97, 112]) = some false := rfl
theorem sq_or_copy : cmpF .Eq (.str [111, 114]) (.str [99, 111, 112, 121]) = some false := rfl
theorem si_or_M : cmpF .In (.str [111, 114]) (.tup [(.str [97, 110, 100]), (.str [111, 114]), (.str [103, 97, 116, 104, 101, 114]), (.str [115, 116, 114, 101, 119])]) = some true := rfl
theorem si_or_B : cmpF .In (.str [111, 114]) (.tup [(.str [108, 101, 102, 116]), (.str [114, 105, 103, 104, 116]), (.str [116, 117, 114, 110])]) = some false := rfl
theorem si_or_S : cmpF .In (.str [111, 114]) (.tup [(.str [115, 119, 97, 112]), (.str [99, 111, 112, 121])]) = some false := rfl
theorem si_or_L : cmpF .In (.str [111, 114]) (.tup [(.str [108, 101, 102, 116]), (.str [114, 105, 103, 104, 116])]) = some false := rfl
theorem sn_or : cmpF .NotIn (.str [111, 114]) (.tup [(.str [115, 119, 97, 112]), (.str [99, 111, 112, 121])]) = some true := rfl
theorem sq_gather_and : cmpF .Eq (.str [103, 97, 116, 104, 101, 114]) (.str [97, 110, 100]) = some false := rfl
theorem sq_gather_or : cmpF .Eq (.str [103, 97, 116, 104, 101, 114]) (.str [111, 114]) = some false := rfl
theorem sq_gather_gather : cmpF .Eq (.str [103, 97, 116, 104, 101, 114]) (.str [103, 97, 116, 104, 101, 114]) = some true := rfl
theorem sq_gather_strew : cmpF .Eq (.str [103, 97, 116, 104, 101, 114]) (.str [115, 116, 114, 101, 119]) = some false := rfl
theorem sq_gather_left : cmpF .Eq (.str [103, 97, 116, 104, 101, 114]) (.str [108, 101, 102, 116]) = some false := rfl
theorem sq_gather_right : cmpF .Eq (.str [103, 97, 116, 104, 101, 114]) (.str [114, 105, 103, 104, 116]) = some false := rfl
theorem sq_gather_turn : cmpF .Eq (.str [103, 97, 116, 104, 101, 114]) (.str [116, 117, 114, 110]) = some false := rfl
theorem sq_gather_swap : cmpF .Eq (.str [103, 97, 116, 104, 101, 114]) (.str [115, 119, 97, 112]) = some false := rfl
theorem sq_gather_copy : cmpF .Eq (.str [103, 97, 116, 104, 101, 114]) (.str [99, 111, 112, 121]) = some false := rfl
theorem si_gather_M : cmpF .In (.str [103, 97, 116, 104, 101, 114]) (.tup [(.str [97, 110, 100]), (.str [111, 114]), (.str [103, 97, 116, 104, 101, 114]), (.str [115, 116, 114, 101, 119])]) = some true := rfl
theorem si_gather_B : cmpF .In (.str [103, 97, 116, 104, 101, 114]) (.tup [(.str [108, 101, 102, 116]), (.str [114, 105, 103, 104, 116]), (.str [116, 117, 114, 110])]) = some false := rfl
theorem si_gather_S : cmpF .In (.str [103, 97, 116, 104, 101, 114]) (.tup [(.str [115, 119, 97, 112]), (.str [99, 111, 112, 121])]) = some false := rfl
theorem si_gather_L : cmpF .In (.str [103, 97, 116, 104, 101, 114]) (.tup [(.str [108, 101, 102, 116]), (.str [114, 105, 103, 104, 116])]) = some false := rfl
theorem sn_gather : cmpF .NotIn (.str [103, 97, 116, 104, 101, 114]) (.tup [(.str [115, 119, 97, 112]), (.str [99, 111, 112, 121])]) = some true := rfl
theorem sq_strew_and : cmpF .Eq (.str [115, 116, 114, 101, 119]) (.str [97, 110, 100]) = some false := rfl
theorem sq_strew_or : cmpF .Eq (.str [115, 116, 114, 101, 119]) (.str [111, 114]) = some false := rfl
theorem sq_strew_gather : cmpF .Eq (.str [115, 116, 114, 101, 119]) (.str [103, 97, 116, 104, 101, 114]) = some false := rfl
theorem sq_strew_strew : cmpF .Eq (.str [115, 116, 114, 101, 119]) (.str [115, 116, 114, 101, 119]) = some true := rfl
theorem sq_strew_left : cmpF .Eq (.str [115, 116, 114, 101, 119]) (.str [108, 101, 102, 116]) = some false := rfl
theorem sq_strew_right : cmpF .Eq (.str [115, 116, 114, 101, 119]) (.str [114, 105, 103, 104, 116]) = some false := rfl
theorem sq_strew_turn : cmpF .Eq (.str [115, 116, 114, 101, 119]) (.str [116, 117, 114, 110]) = some false := rfl
theorem sq_strew_swap : cmpF .Eq (.str [115, 116, 114, 101, 119]) (.str [115, 119, 97, 112]) = some false := rfl
theorem sq_strew_copy : cmpF .Eq (.str [115, 116, 114, 101, 119]) (.str [99, 111, 112, 121]) = some false := rfl
theorem si_strew_M : cmpF .In (.str [115, 116, 114, 101, 119]) (.tup [(.str [97, 110, 100]), (.str [111, 114]), (.str [103, 97, 116, 104, 101, 114]), (.str [115, 116, 114, 101, 119])]) = some true := rfl
theorem si_strew_B : cmpF .In (.str [115, 116, 114, 101, 119]) (.tup [(.str [108, 101, 102, 116]), (.str [114, 105, 103, 104, 116]), (.str [116, 117, 114, 110])]) = some false := rfl
theorem si_strew_S : cmpF .In (.str [115, 116, 114, 101, 119]) (.tup [(.str [115, 119, 97, 112]), (.str [99, 111, 112, 121])]) = some false := rfl
theorem si_strew_L : cmpF .In (.str [115, 116, 114, 101, 119]) (.tup [(.str [108, 101, 102, 116]), (.str [114, 105, 103, 104, 116])]) = some false := rfl
theorem sn_strew : cmpF .NotIn (.str [115, 116, 114, 101, 119]) (.tup [(.str [115, 119, 97, 112]), (.str [99, 111, 112, 121])]) = some true := rfl
theorem sq_left_and : cmpF .Eq (.str [108, 101, 102, 116]) (.str [97, 110, 100]) = some false := rfl
theorem sq_left_or : cmpF .Eq (.str [108, 101, 102, 116]) (.str [111, 114]) = some false := rfl
theorem sq_left_gather : cmpF .Eq (.str [108, 101, 102, 116]) (.str [103, 97, 116, 104, 101, 114]) = some false := rfl
theorem sq_left_strew : cmpF .Eq (.str [108, 101, 102, 116]) (.str [115, 116, 114, 101, 119]) = some false := rfl
theorem sq_left_left : cmpF .Eq (.str [108, 101, 102, 116]) (.str [108, 101, 102, 116]) = some true := rfl
theorem sq_left_right : cmpF .Eq (.str [108, 101, 102, 116]) (.str [114, 105, 103, 104, 116]) = some false := rfl
theorem sq_left_turn : cmpF .Eq (.str [108, 101, 102, 116]) (.str [116, 117, 114, 110]) = some false := rfl
theorem sq_left_swap : cmpF .Eq (.str [108, 101, 102, 116]) (.str [115, 119, 97, 112]) = some false := rfl
theorem sq_left_copy : cmpF .Eq (.str [108, 101, 102, 116]) (.str [99, 111, 112, 121]) = some false := rfl
theorem si_left_M : cmpF .In (.str [108, 101, 102, 116]) (.tup [(.str [97, 110, 100]), (.str [111, 114]), (.str [103, 97, 116, 104, 101, 114]), (.str [115, 116, 114, 101, 119])]) = some false := rfl
theorem si_left_B : cmpF .In (.str [108, 101, 102, 116]) (.tup [(.str [108, 101, 102, 116]), (.str [114, 105, 103, 104, 116]), (.str [116, 117, 114, 110])]) = some true := rfl
theorem si_left_S : cmpF .In (.str [108, 101, 102, 116]) (.tup [(.str [115, 119, 97, 112]), (.str [99, 111, 112, 121])]) = some false := rfl
theorem si_left_L : cmpF .In (.str [108, 101, 102, 116]) (.tup [(.str [108, 101, 102, 116]), (.str [114, 105, 103, 104, 116])]) = some true := rfl
theorem sn_left : cmpF .NotIn (.str [108, 101, 102, 116]) (.tup [(.str [115, 119, 97, 112]), (.str [99, 111, 112, 121])]) = some true := rfl
theorem sq_right_and : cmpF .Eq (.str [114, 105, 103, 104, 116]) (.str [97, 110, 100]) = some false := rfl
theorem sq_right_or : cmpF .Eq (.str [114, 105, 103, 104, 116]) (.str [111, 114]) = some false := rfl
theorem sq_right_gather : cmpF .Eq (.str [114, 105, 103, 104, 116]) (.str [103, 97, 116, 104, 101, 114]) = some false := rfl
theorem sq_right_strew : cmpF .Eq (.str [114, 105, 103, 104, 116]) (.str [115, 116, 114, 101, 119]) = some false := rfl
theorem sq_right_left : cmpF .Eq (.str [114, 105, 103, 104, 116]) (.str [108, 101, 102, 116]) = some false := rfl
theorem sq_right_right : cmpF .Eq (.str [114, 105, 103, 104, 116]) (.str [114, 105, 103, 104, 116]) = some true := rfl
theorem sq_right_turn : cmpF .Eq (.str [114, 105, 103, 104, 116]) (.str [116, 117, 114, 110]) = some false := rfl
theorem sq_right_swap : cmpF .Eq (.str [114, 105, 103, 104, 116]) (.str [115, 119, 97, 112]) = some false := rfl
theorem sq_right_copy : cmpF .Eq (.str [114, 105, 103, 104, 116]) (.str [99, 111, 112, 121]) = some false := rfl
theorem si_right_M : cmpF .In (.str [114, 105, 103, 104, 116]) (.tup [(.str [97, 110, 100]), (.str [111, 114]), (.str [103, 97, 116, 104, 101, 114]), (.str [115, 116, 114, 101, 119])]) = some false := rfl
theorem si_right_B : cmpF .In (.str [114, 105, 103, 104, 116]) (.tup [(.str [108, 101, 102, 116]), (.str [114, 105, 103, 104, 116]), (.str [116, 117, 114, 110])]) = some true := rfl
theorem si_right_S : cmpF .In (.str [114, 105, 103, 104, 116]) (.tup [(.str [115, 119, 97, 112]), (.str [99, 111, 112, 121])]) = some false := rfl
theorem si_right_L : cmpF .In (.str [114, 105, 103, 104, 116]) (.tup [(.str [108, 101, 102, 116]), (.str [114, 105, 103, 104, 116])]) = some true := rfl
theorem sn_right : cmpF .NotIn (.str [114, 105, 103, 104, 116]) (.tup [(.str [115, 119, 97, 112]), (.str [99, 111, 112, 121])]) = some true := rfl
theorem sq_turn_and : cmpF .Eq (.str [116, 117, 114, 110]) (.str [97, 110, 100]) = some false := rfl
theorem sq_turn_or : cmpF .Eq (.str [116, 117, 114, 110]) (.str [111, 114]) = some false := rfl
theorem sq_turn_gather : cmpF .Eq (.str [116, 117, 114, 110]) (.str [103, 97, 116, 104, 101, 114]) = some false := rfl
theorem sq_turn_strew : cmpF .Eq (.str [116, 117, 114, 110]) (.str [115, 116, 114, 101, 119]) = some false := rfl
theorem sq_turn_left : cmpF .Eq (.str [116, 117, 114, 110]) (.str [108, 101, 102, 116]) = some false := rfl
theorem sq_turn_right : cmpF .Eq (.str [116, 117, 114, 110]) (.str [114, 105, 103, 104, 116]) = some false := rfl
theorem sq_turn_turn : cmpF .Eq (.str [116, 117, 114, 110]) (.str [116, 117, 114, 110]) = some true := rfl
theorem sq_turn_swap : cmpF .Eq (.str [116, 117, 114, 110]) (.str [115, 119, 97, 112]) = some false := rfl
theorem sq_turn_copy : cmpF .Eq (.str [116, 117, 114, 110]) (.str [99, 111, 112, 121]) = some false := rfl
theorem si_turn_M : cmpF .In (.str [116, 117, 114, 110]) (.tup [(.str [97, 110, 100]), (.str [111, 114]), (.str [103, 97, 116, 104, 101, 114]), (.str [115, 116, 114, 101, 119])]) = some false := rfl
theorem si_turn_B : cmpF .In (.str [116, 117, 114, 110]) (.tup [(.str [108, 101, 102, 116]), (.str [114, 105, 103, 104, 116]), (.str [116, 117, 114, 110])]) = some true := rfl
theorem si_turn_S : cmpF .In (.str [116, 117, 114, 110]) (.tup [(.str [115, 119, 97, 112]), (.str [99, 111, 112, 121])]) = some false := rfl
theorem si_turn_L : cmpF .In (.str [116, 117, 114, 110]) (.tup [(.str [108, 101, 102, 116]), (.str [114, 105, 103, 104, 116])]) = some false := rfl
theorem sn_turn : cmpF .NotIn (.str [116, 117, 114, 110]) (.tup [(.str [115, 119, 97, 112]), (.str [99, 111, 112, 121])]) = some true := rfl
theorem sq_swap_and : cmpF .Eq (.str [115, 119, 97, 112]) (.str [97, 110, 100]) = some false := rfl
theorem sq_swap_or : cmpF .Eq (.str [115, 119, 97, 112]) (.str [111, 114]) = some false := rfl
theorem sq_swap_gather : cmpF .Eq (.str [115, 119, 97, 112]) (.str [103, 97, 116, 104, 101, 114]) = some false := rfl
theorem sq_swap_strew : cmpF .Eq (.str [115, 119, 97, 112]) (.str [115, 116, 114, 101, 119]) = some false := rfl
theorem sq_swap_left : cmpF .Eq (.str [115, 119, 97, 112]) (.str [108, 101, 102, 116]) = some false := rfl
theorem sq_swap_right : cmpF .Eq (.str [115, 119, 97, 112]) (.str [114, 105, 103, 104, 116]) = some false := rfl
theorem sq_swap_turn : cmpF .Eq (.str [115, 119, 97, 112]) (.str [116, 117, 114, 110]) = some false := rfl
theorem sq_swap_swap : cmpF .Eq (.str [115, 119, 97, 112]) (.str [115, 119, 97, 112]) = some true := rfl
theorem sq_swap_copy : cmpF .Eq (.str [115, 119, 97, 112]) (.str [99, 111, 112, 121]) = some false := rfl
theorem si_swap_M : cmpF .In (.str [115, 119, 97, 112]) (.tup [(.str [97, 110, 100]), (.str [111, 114]), (.str [103, 97, 116, 104, 101, 114]), (.str [115, 116, 114, 101, 119])]) = some false := rfl
theorem si_swap_B : cmpF .In (.str [115, 119, 97, 112]) (.tup [(.str [108, 101, 102, 116]), (.str [114, 105, 103, 104, 116]), (.str [116, 117, 114, 110])]) = some false := rfl
theorem si_swap_S : cmpF .In (.str [115, 119, 97, 112]) (.tup [(.str [115, 119, 97, 112]), (.str [99, 111, 112, 121])]) = some true := rfl
theorem si_swap_L : cmpF .In (.str [115, 119, 97, 112]) (.tup [(.str [108, 101, 102, 116]), (.str [114, 105, 103, 104, 116])]) = some false := rfl
theorem sn_swap : cmpF .NotIn (.str [115, 119, 97, 112]) (.tup [(.str [115, 119, 97, 112]), (.str [99, 111, 112, 121])]) = some false := rfl
theorem sq_copy_and : cmpF .Eq (.str [99, 111, 112, 121]) (.str [97, 110, 100]) = some false := rfl
theorem sq_copy_or : cmpF .Eq (.str [99, 111, 112, 121]) (.str [111, 114]) = some false := rfl
theorem sq_copy_gather : cmpF .Eq (.str [99, 111, 112, 121]) (.str [103, 97, 116, 104, 101, 114]) = some false := rfl
theorem sq_copy_strew : cmpF .Eq (.str [99, 111, 112, 121]) (.str [115, 116, 114, 101, 119]) = some false := rfl
theorem sq_copy_left : cmpF .Eq (.str [99, 111, 112, 121]) (.str [108, 101, 102, 116]) = some false := rfl
theorem sq_copy_right : cmpF .Eq (.str [99, 111, 112, 121]) (.str [114, 105, 103, 104, 116]) = some false := rfl
theorem sq_copy_turn : cmpF .Eq (.str [99, 111, 112, 121]) (.str [116, 117, 114, 110]) = some false := rfl
theorem sq_copy_swap : cmpF .Eq (.str [99, 111, 112, 121]) (.str [115, 119, 97, 112]) = some false := rfl
theorem sq_copy_copy : cmpF .Eq (.str [99, 111, 112, 121]) (.str [99, 111, 112, 121]) = some true := rfl
theorem si_copy_M : cmpF .In (.str [99, 111, 112, 121]) (.tup [(.str [97, 110, 100]), (.str [111, 114]), (.str [103, 97, 116, 104, 101, 114]), (.str [115, 116, 114, 101, 119])]) = some false := rfl
theorem si_copy_B : cmpF .In (.str [99, 111, 112, 121]) (.tup [(.str [108, 101, 102, 116]), (.str [114, 105, 103, 104, 116]), (.str [116, 117, 114, 110])]) = some false := rfl
theorem si_copy_S : cmpF .In (.str [99, 111, 112, 121]) (.tup [(.str [115, 119, 97, 112]), (.str [99, 111, 112, 121])]) = some true := rfl
theorem si_copy_L : cmpF .In (.str [99, 111, 112, 121]) (.tup [(.str [108, 101, 102, 116]), (.str [114, 105, 103, 104, 116])]) = some false := rfl
theorem sn_copy : cmpF .NotIn (.str [99, 111, 112, 121]) (.tup [(.str [115, 119, 97, 112]), (.str [99, 111, 112, 121])]) = some false := rfl
local macro_rules
  | `(tactic| dsimp! only [$a,*]) => `(tactic| simp only [w_nil, w_cons, w_set, w_unp, w_par, w_aug, w_sts, w_dst, w_st2, os_stD, os_stL, two2_t, w_rdv, w_dnew, w_tmt, w_fnv, w_cal, w_dsp, w_dgt, w_app, w_ext, w_ins, w_ixl, w_exp, w_ret, w_retn, w_ife, w_non, w_bl, w_int, w_str, w_var, w_glb, w_tup, w_lst, w_op, w_chn, w_not, w_ifx, w_bop, w_b1, w_b2, w_call, w_do, w_pop, w_fs0, w_fs, w_os0, w_os, w_ts0, w_ts1, ok_ok, ok_bad, ok_bind, os_some, os_none, os_bind, os_map, os_ifn, bl_bl, fn_nx, fn_rt, rt_nx, rt_rt, o_bin, b_add, b_sub, b_and, b_or, b_xor, b_mod, b_fdiv, b_mul, b_pow, b_shl, b_shr, b_cat, b_catT, b_rep, a_add, a_sub, a_and, a_or, a_xor, a_shr, a_shl, a_fdiv, o_neg, o_inv, o_cmp, c_eq, c_ne, c_lt, c_le, c_gt, c_ge, c_isn, c_notn, c_inl, c_ninl, c_int, c_nint, c_ind, c_nind, kB_int, kB_str, o_subD, o_sub, o_subT, at0, at1, at2, at3, at4, ix0, ix1, ix2, ix3, o_len, o_lenT, o_abs, o_min2, o_max2, o_int, o_intb, o_tup, o_tupt, o_lst, o_lstt, o_rev, o_lrevl, o_lrevt, o_isi, o_isi2, i_int, i_bl, i_lst, i_tup, i_str, i_non, o_slu, o_slsu, o_sll, o_sla, o_slut, o_sllt, o_all, o_any, o_sum, o_srt, o_srtT, o_stp, o_lrng1, o_lrng2, n_seqL, n_seqT, n_enumL, n_enumT, n_rev, n_revT, n_zipL, n_zipT, n_rng1, n_rng2, n_revr, ownVar, ownS, getS, lstB, os_setS, stO_some, stO_none, stB_un, stB_sh, stB_ow, putS, odTs, odT, odAs, odA, refs, nodupB, backs, back1, retE, outS, wipeS, giveS, plainS, tgtF, asgs, mkSeq, T.isNon, okFor, setsS, setsL, List.getElem?_cons_zero, List.getElem?_cons_succ, List.getElem?_nil, List.set_cons_zero, List.set_cons_succ, List.length_cons, List.length_nil, List.length_map, List.cons_append, List.nil_append, List.append_nil, List.replicate, List.getD_cons_zero, List.getD_cons_succ, Option.getD, List.contains_nil, List.contains_cons, Bool.not_true, Bool.not_false, Bool.and_true, Bool.true_and, Bool.and_self, if_true, if_false, true_and, and_true, ite_true, ite_false, reduceIte, Bool.false_eq_true, Bool.true_eq_false, decide_true, decide_false, decide_eq_true_eq, eq_self, Nat.reduceAdd, Nat.reduceLT, Nat.reduceSub, Int.reduceLT, Int.reduceLE, Int.reduceToNat, Int.reduceAbs, Int.reducePow, Int.natAbs_natCast, Nat.reducePow, Nat.reduceLeDiff, Nat.reduceMul, Nat.reduceBEq, Bool.or_true, Bool.or_false, Bool.true_or, Bool.false_or, Int.reduceNeg, $a,*])
  | `(tactic| dsimp! only [$a,*] $l:location) => `(tactic| simp only [w_nil, w_cons, w_set, w_unp, w_par, w_aug, w_sts, w_dst, w_st2, os_stD, os_stL, two2_t, w_rdv, w_dnew, w_tmt, w_fnv, w_cal, w_dsp, w_dgt, w_app, w_ext, w_ins, w_ixl, w_exp, w_ret, w_retn, w_ife, w_non, w_bl, w_int, w_str, w_var, w_glb, w_tup, w_lst, w_op, w_chn, w_not, w_ifx, w_bop, w_b1, w_b2, w_call, w_do, w_pop, w_fs0, w_fs, w_os0, w_os, w_ts0, w_ts1, ok_ok, ok_bad, ok_bind, os_some, os_none, os_bind, os_map, os_ifn, bl_bl, fn_nx, fn_rt, rt_nx, rt_rt, o_bin, b_add, b_sub, b_and, b_or, b_xor, b_mod, b_fdiv, b_mul, b_pow, b_shl, b_shr, b_cat, b_catT, b_rep, a_add, a_sub, a_and, a_or, a_xor, a_shr, a_shl, a_fdiv, o_neg, o_inv, o_cmp, c_eq, c_ne, c_lt, c_le, c_gt, c_ge, c_isn, c_notn, c_inl, c_ninl, c_int, c_nint, c_ind, c_nind, kB_int, kB_str, o_subD, o_sub, o_subT, at0, at1, at2, at3, at4, ix0, ix1, ix2, ix3, o_len, o_lenT, o_abs, o_min2, o_max2, o_int, o_intb, o_tup, o_tupt, o_lst, o_lstt, o_rev, o_lrevl, o_lrevt, o_isi, o_isi2, i_int, i_bl, i_lst, i_tup, i_str, i_non, o_slu, o_slsu, o_sll, o_sla, o_slut, o_sllt, o_all, o_any, o_sum, o_srt, o_srtT, o_stp, o_lrng1, o_lrng2, n_seqL, n_seqT, n_enumL, n_enumT, n_rev, n_revT, n_zipL, n_zipT, n_rng1, n_rng2, n_revr, ownVar, ownS, getS, lstB, os_setS, stO_some, stO_none, stB_un, stB_sh, stB_ow, putS, odTs, odT, odAs, odA, refs, nodupB, backs, back1, retE, outS, wipeS, giveS, plainS, tgtF, asgs, mkSeq, T.isNon, okFor, setsS, setsL, List.getElem?_cons_zero, List.getElem?_cons_succ, List.getElem?_nil, List.set_cons_zero, List.set_cons_succ, List.length_cons, List.length_nil, List.length_map, List.cons_append, List.nil_append, List.append_nil, List.replicate, List.getD_cons_zero, List.getD_cons_succ, Option.getD, List.contains_nil, List.contains_cons, Bool.not_true, Bool.not_false, Bool.and_true, Bool.true_and, Bool.and_self, if_true, if_false, true_and, and_true, ite_true, ite_false, reduceIte, Bool.false_eq_true, Bool.true_eq_false, decide_true, decide_false, decide_eq_true_eq, eq_self, Nat.reduceAdd, Nat.reduceLT, Nat.reduceSub, Int.reduceLT, Int.reduceLE, Int.reduceToNat, Int.reduceAbs, Int.reducePow, Int.natAbs_natCast, Nat.reducePow, Nat.reduceLeDiff, Nat.reduceMul, Nat.reduceBEq, Bool.or_true, Bool.or_false, Bool.true_or, Bool.false_or, Int.reduceNeg, $a,*] $l)
local macro_rules
  | `(tactic| simp! only [$a,*]) => `(tactic| simp only [w_nil, w_cons, w_set, w_unp, w_par, w_aug, w_sts, w_dst, w_st2, os_stD, os_stL, two2_t, w_rdv, w_dnew, w_tmt, w_fnv, w_cal, w_dsp, w_dgt, w_app, w_ext, w_ins, w_ixl, w_exp, w_ret, w_retn, w_ife, w_non, w_bl, w_int, w_str, w_var, w_glb, w_tup, w_lst, w_op, w_chn, w_not, w_ifx, w_bop, w_b1, w_b2, w_call, w_do, w_pop, w_fs0, w_fs, w_os0, w_os, w_ts0, w_ts1, ok_ok, ok_bad, ok_bind, os_some, os_none, os_bind, os_map, os_ifn, bl_bl, fn_nx, fn_rt, rt_nx, rt_rt, o_bin, b_add, b_sub, b_and, b_or, b_xor, b_mod, b_fdiv, b_mul, b_pow, b_shl, b_shr, b_cat, b_catT, b_rep, a_add, a_sub, a_and, a_or, a_xor, a_shr, a_shl, a_fdiv, o_neg, o_inv, o_cmp, c_eq, c_ne, c_lt, c_le, c_gt, c_ge, c_isn, c_notn, c_inl, c_ninl, c_int, c_nint, c_ind, c_nind, kB_int, kB_str, o_subD, o_sub, o_subT, at0, at1, at2, at3, at4, ix0, ix1, ix2, ix3, o_len, o_lenT, o_abs, o_min2, o_max2, o_int, o_intb, o_tup, o_tupt, o_lst, o_lstt, o_rev, o_lrevl, o_lrevt, o_isi, o_isi2, i_int, i_bl, i_lst, i_tup, i_str, i_non, o_slu, o_slsu, o_sll, o_sla, o_slut, o_sllt, o_all, o_any, o_sum, o_srt, o_srtT, o_stp, o_lrng1, o_lrng2, n_seqL, n_seqT, n_enumL, n_enumT, n_rev, n_revT, n_zipL, n_zipT, n_rng1, n_rng2, n_revr, ownVar, ownS, getS, lstB, os_setS, stO_some, stO_none, stB_un, stB_sh, stB_ow, putS, odTs, odT, odAs, odA, refs, nodupB, backs, back1, retE, outS, wipeS, giveS, plainS, tgtF, asgs, mkSeq, T.isNon, okFor, setsS, setsL, List.getElem?_cons_zero, List.getElem?_cons_succ, List.getElem?_nil, List.set_cons_zero, List.set_cons_succ, List.length_cons, List.length_nil, List.length_map, List.cons_append, List.nil_append, List.append_nil, List.replicate, List.getD_cons_zero, List.getD_cons_succ, Option.getD, List.contains_nil, List.contains_cons, Bool.not_true, Bool.not_false, Bool.and_true, Bool.true_and, Bool.and_self, if_true, if_false, true_and, and_true, ite_true, ite_false, reduceIte, Bool.false_eq_true, Bool.true_eq_false, decide_true, decide_false, decide_eq_true_eq, eq_self, Nat.reduceAdd, Nat.reduceLT, Nat.reduceSub, Int.reduceLT, Int.reduceLE, Int.reduceToNat, Int.reduceAbs, Int.reducePow, Int.natAbs_natCast, Nat.reducePow, Nat.reduceLeDiff, Nat.reduceMul, Nat.reduceBEq, Bool.or_true, Bool.or_false, Bool.true_or, Bool.false_or, Int.reduceNeg, sq_and_and, sq_and_or, sq_and_gather, sq_and_strew, sq_and_left, sq_and_right, sq_and_turn, sq_and_swap, sq_and_copy, si_and_M, si_and_B, si_and_S, si_and_L, sn_and, sq_or_and, sq_or_or, sq_or_gather, sq_or_strew, sq_or_left, sq_or_right, sq_or_turn, sq_or_swap, sq_or_copy, si_or_M, si_or_B, si_or_S, si_or_L, sn_or, sq_gather_and, sq_gather_or, sq_gather_gather, sq_gather_strew, sq_gather_left, sq_gather_right, sq_gather_turn, sq_gather_swap, sq_gather_copy, si_gather_M, si_gather_B, si_gather_S, si_gather_L, sn_gather, sq_strew_and, sq_strew_or, sq_strew_gather, sq_strew_strew, sq_strew_left, sq_strew_right, sq_strew_turn, sq_strew_swap, sq_strew_copy, si_strew_M, si_strew_B, si_strew_S, si_strew_L, sn_strew, sq_left_and, sq_left_or, sq_left_gather, sq_left_strew, sq_left_left, sq_left_right, sq_left_turn, sq_left_swap, sq_left_copy, si_left_M, si_left_B, si_left_S, si_left_L, sn_left, sq_right_and, sq_right_or, sq_right_gather, sq_right_strew, sq_right_left, sq_right_right, sq_right_turn, sq_right_swap, sq_right_copy, si_right_M, si_right_B, si_right_S, si_right_L, sn_right, sq_turn_and, sq_turn_or, sq_turn_gather, sq_turn_strew, sq_turn_left, sq_turn_right, sq_turn_turn, sq_turn_swap, sq_turn_copy, si_turn_M, si_turn_B, si_turn_S, si_turn_L, sn_turn, sq_swap_and, sq_swap_or, sq_swap_gather, sq_swap_strew, sq_swap_left, sq_swap_right, sq_swap_turn, sq_swap_swap, sq_swap_copy, si_swap_M, si_swap_B, si_swap_S, si_swap_L, sn_swap, sq_copy_and, sq_copy_or, sq_copy_gather, sq_copy_strew, sq_copy_left, sq_copy_right, sq_copy_turn, sq_copy_swap, sq_copy_copy, si_copy_M, si_copy_B, si_copy_S, si_copy_L, sn_copy, $a,*])
  | `(tactic| simp! only [$a,*] $l:location) => `(tactic| simp only [w_nil, w_cons, w_set, w_unp, w_par, w_aug, w_sts, w_dst, w_st2, os_stD, os_stL, two2_t, w_rdv, w_dnew, w_tmt, w_fnv, w_cal, w_dsp, w_dgt, w_app, w_ext, w_ins, w_ixl, w_exp, w_ret, w_retn, w_ife, w_non, w_bl, w_int, w_str, w_var, w_glb, w_tup, w_lst, w_op, w_chn, w_not, w_ifx, w_bop, w_b1, w_b2, w_call, w_do, w_pop, w_fs0, w_fs, w_os0, w_os, w_ts0, w_ts1, ok_ok, ok_bad, ok_bind, os_some, os_none, os_bind, os_map, os_ifn, bl_bl, fn_nx, fn_rt, rt_nx, rt_rt, o_bin, b_add, b_sub, b_and, b_or, b_xor, b_mod, b_fdiv, b_mul, b_pow, b_shl, b_shr, b_cat, b_catT, b_rep, a_add, a_sub, a_and, a_or, a_xor, a_shr, a_shl, a_fdiv, o_neg, o_inv, o_cmp, c_eq, c_ne, c_lt, c_le, c_gt, c_ge, c_isn, c_notn, c_inl, c_ninl, c_int, c_nint, c_ind, c_nind, kB_int, kB_str, o_subD, o_sub, o_subT, at0, at1, at2, at3, at4, ix0, ix1, ix2, ix3, o_len, o_lenT, o_abs, o_min2, o_max2, o_int, o_intb, o_tup, o_tupt, o_lst, o_lstt, o_rev, o_lrevl, o_lrevt, o_isi, o_isi2, i_int, i_bl, i_lst, i_tup, i_str, i_non, o_slu, o_slsu, o_sll, o_sla, o_slut, o_sllt, o_all, o_any, o_sum, o_srt, o_srtT, o_stp, o_lrng1, o_lrng2, n_seqL, n_seqT, n_enumL, n_enumT, n_rev, n_revT, n_zipL, n_zipT, n_rng1, n_rng2, n_revr, ownVar, ownS, getS, lstB, os_setS, stO_some, stO_none, stB_un, stB_sh, stB_ow, putS, odTs, odT, odAs, odA, refs, nodupB, backs, back1, retE, outS, wipeS, giveS, plainS, tgtF, asgs, mkSeq, T.isNon, okFor, setsS, setsL, List.getElem?_cons_zero, List.getElem?_cons_succ, List.getElem?_nil, List.set_cons_zero, List.set_cons_succ, List.length_cons, List.length_nil, List.length_map, List.cons_append, List.nil_append, List.append_nil, List.replicate, List.getD_cons_zero, List.getD_cons_succ, Option.getD, List.contains_nil, List.contains_cons, Bool.not_true, Bool.not_false, Bool.and_true, Bool.true_and, Bool.and_self, if_true, if_false, true_and, and_true, ite_true, ite_false, reduceIte, Bool.false_eq_true, Bool.true_eq_false, decide_true, decide_false, decide_eq_true_eq, eq_self, Nat.reduceAdd, Nat.reduceLT, Nat.reduceSub, Int.reduceLT, Int.reduceLE, Int.reduceToNat, Int.reduceAbs, Int.reducePow, Int.natAbs_natCast, Nat.reducePow, Nat.reduceLeDiff, Nat.reduceMul, Nat.reduceBEq, Bool.or_true, Bool.or_false, Bool.true_or, Bool.false_or, Int.reduceNeg, sq_and_and, sq_and_or, sq_and_gather, sq_and_strew, sq_and_left, sq_and_right, sq_and_turn, sq_and_swap, sq_and_copy, si_and_M, si_and_B, si_and_S, si_and_L, sn_and, sq_or_and, sq_or_or, sq_or_gather, sq_or_strew, sq_or_left, sq_or_right, sq_or_turn, sq_or_swap, sq_or_copy, si_or_M, si_or_B, si_or_S, si_or_L, sn_or, sq_gather_and, sq_gather_or, sq_gather_gather, sq_gather_strew, sq_gather_left, sq_gather_right, sq_gather_turn, sq_gather_swap, sq_gather_copy, si_gather_M, si_gather_B, si_gather_S, si_gather_L, sn_gather, sq_strew_and, sq_strew_or, sq_strew_gather, sq_strew_strew, sq_strew_left, sq_strew_right, sq_strew_turn, sq_strew_swap, sq_strew_copy, si_strew_M, si_strew_B, si_strew_S, si_strew_L, sn_strew, sq_left_and, sq_left_or, sq_left_gather, sq_left_strew, sq_left_left, sq_left_right, sq_left_turn, sq_left_swap, sq_left_copy, si_left_M, si_left_B, si_left_S, si_left_L, sn_left, sq_right_and, sq_right_or, sq_right_gather, sq_right_strew, sq_right_left, sq_right_right, sq_right_turn, sq_right_swap, sq_right_copy, si_right_M, si_right_B, si_right_S, si_right_L, sn_right, sq_turn_and, sq_turn_or, sq_turn_gather, sq_turn_strew, sq_turn_left, sq_turn_right, sq_turn_turn, sq_turn_swap, sq_turn_copy, si_turn_M, si_turn_B, si_turn_S, si_turn_L, sn_turn, sq_swap_and, sq_swap_or, sq_swap_gather, sq_swap_strew, sq_swap_left, sq_swap_right, sq_swap_turn, sq_swap_swap, sq_swap_copy, si_swap_M, si_swap_B, si_swap_S, si_swap_L, sn_swap, sq_copy_and, sq_copy_or, sq_copy_gather, sq_copy_strew, sq_copy_left, sq_copy_right, sq_copy_turn, sq_copy_swap, sq_copy_copy, si_copy_M, si_copy_B, si_copy_S, si_copy_L, sn_copy, $a,*] $l)
inductive Dd where
  | and (m : Nat) | or (m : Nat) | gat (m : Nat) | str (m : Nat) | lft (n : Nat) | rgt (n : Nat) | trn (n : Nat) | swp (m n : Nat) | cpy (m : Nat) (n : Int)
def Dd.ok (W : Nat) : Dd → Prop
  | .and m => m < 2 ^ W
  | .or m => m < 2 ^ W
  | .gat m => m < 2 ^ W
  | .str m => m < 2 ^ W
  | .lft n => n ≤ W
  | .rgt n => n ≤ W
  | .trn n => n < W
  | .swp m n => 0 < n ∧ n < W ∧ m < 2 ^ W ∧ ∀ p, m.testBit p = true → p + n < W ∧ m.testBit (p + n) = false
  | .cpy m n => n ≠ 0 ∧ -(W : Int) < n ∧ n < W ∧ m < 2 ^ W ∧ ∀ p : Nat, m.testBit p = true → 0 ≤ (p : Int) + n ∧ (p : Int) + n < W
/-- how many places lie below -/
def rank (m p : Nat) : Nat := (placesN m p).length
/-- the entry of a deed's leading -/
def ent (W : Nat) : Dd → Nat → Int
  | .and m, p => if m.testBit p then p else -1
  | .or m, p => if m.testBit p then -2 else p
  | .gat m, p => match (placesN m W)[p]? with
    | some q => q
    | none => -1
  | .str m, p => if m.testBit p then (rank m p : Nat) else -1
  | .lft n, p => if n ≤ p then ((p - n : Nat) : Int) else -1
  | .rgt n, p => if p + n < W then ((p + n : Nat) : Int) else -1
  | .trn n, p => ((p : Int) - n) % W
  | .swp m n, p => if n ≤ p ∧ m.testBit (p - n) = true then ((p - n : Nat) : Int) else if m.testBit p then ((p + n : Nat) : Int) else p
  | .cpy m n, p => if 0 ≤ (p : Int) - n ∧ m.testBit ((p : Int) - n).toNat = true then (p : Int) - n else p
def dlZ (W : Nat) (d : Dd) : List Int := (List.range W).map (ent W d)
/-- a row of a function's values, one put -/
theorem set_map {α : Type} (W p : Nat) (f : Nat → α) (x : α) : ((List.range W).map f).set p x = (List.range W).map fun q => if q = p then x else f q := by
  apply List.ext_getElem?
  intro j
  rw [List.getElem?_set, List.getElem?_map, List.length_map, List.length_range]
  by_cases hj : j < W
  · rw [List.getElem?_map, List.getElem?_range hj]
    by_cases e : p = j
    · subst e
      rw [if_pos rfl, if_pos hj]
      show some x = some (if p = p then x else f p)
      rw [if_pos rfl]
    · rw [if_neg e]
      show some (f j) = some (if j = p then x else f j)
      rw [if_neg (fun h => e h.symm)]
  · rw [List.getElem?_map, List.getElem?_eq_none (by rw [List.length_range]; omega)]
    by_cases e : p = j
    · rw [if_pos e, if_neg (by omega)]
      rfl
    · rw [if_neg e]
      rfl
theorem set_tZ (es : List Int) (n : Nat) (x : Int) : (tZ es).set n (.int x) = tZ (es.set n x) := List.map_set.symm
theorem rng_stay (n : Nat) : rangeL 0 n = tZ (stayZ n) := by
  rw [range0_eq]
  unfold tZ stayZ
  rw [List.map_map]
  rfl
structure LE where
  (pin sta lbm lbn dl gO gN gS gM gB : Nat)
section
variable {P : List FD} {glb : Nat → Option T} {wf d f : Nat} {E : LE}
theorem rep_tZ' (k : Nat) (e : Int) : (List.replicate k [T.int e]).flatten = tZ (List.replicate k e) := by
  induction k with
  | zero => rfl
  | succ k ih => rw [List.replicate_succ, List.flatten_cons, ih, List.replicate_succ]; rfl
end
end MP
namespace MP
open PySem
local macro_rules
  | `(tactic| dsimp! only [$a,*]) => `(tactic| simp only [w_nil, w_cons, w_set, w_unp, w_par, w_aug, w_sts, w_dst, w_st2, os_stD, os_stL, two2_t, w_rdv, w_dnew, w_tmt, w_fnv, w_cal, w_dsp, w_dgt, w_app, w_ext, w_ins, w_ixl, w_exp, w_ret, w_retn, w_ife, w_non, w_bl, w_int, w_str, w_var, w_glb, w_tup, w_lst, w_op, w_chn, w_not, w_ifx, w_bop, w_b1, w_b2, w_call, w_do, w_pop, w_fs0, w_fs, w_os0, w_os, w_ts0, w_ts1, ok_ok, ok_bad, ok_bind, os_some, os_none, os_bind, os_map, os_ifn, bl_bl, fn_nx, fn_rt, rt_nx, rt_rt, o_bin, b_add, b_sub, b_and, b_or, b_xor, b_mod, b_fdiv, b_mul, b_pow, b_shl, b_shr, b_cat, b_catT, b_rep, a_add, a_sub, a_and, a_or, a_xor, a_shr, a_shl, a_fdiv, o_neg, o_inv, o_cmp, c_eq, c_ne, c_lt, c_le, c_gt, c_ge, c_isn, c_notn, c_inl, c_ninl, c_int, c_nint, c_ind, c_nind, kB_int, kB_str, o_subD, o_sub, o_subT, at0, at1, at2, at3, at4, ix0, ix1, ix2, ix3, o_len, o_lenT, o_abs, o_min2, o_max2, o_int, o_intb, o_tup, o_tupt, o_lst, o_lstt, o_rev, o_lrevl, o_lrevt, o_isi, o_isi2, i_int, i_bl, i_lst, i_tup, i_str, i_non, o_slu, o_slsu, o_sll, o_sla, o_slut, o_sllt, o_all, o_any, o_sum, o_srt, o_srtT, o_stp, o_lrng1, o_lrng2, n_seqL, n_seqT, n_enumL, n_enumT, n_rev, n_revT, n_zipL, n_zipT, n_rng1, n_rng2, n_revr, ownVar, ownS, getS, lstB, os_setS, stO_some, stO_none, stB_un, stB_sh, stB_ow, putS, odTs, odT, odAs, odA, refs, nodupB, backs, back1, retE, outS, wipeS, giveS, plainS, tgtF, asgs, mkSeq, T.isNon, okFor, setsS, setsL, List.getElem?_cons_zero, List.getElem?_cons_succ, List.getElem?_nil, List.set_cons_zero, List.set_cons_succ, List.length_cons, List.length_nil, List.length_map, List.cons_append, List.nil_append, List.append_nil, List.replicate, List.getD_cons_zero, List.getD_cons_succ, Option.getD, List.contains_nil, List.contains_cons, Bool.not_true, Bool.not_false, Bool.and_true, Bool.true_and, Bool.and_self, if_true, if_false, true_and, and_true, ite_true, ite_false, reduceIte, Bool.false_eq_true, Bool.true_eq_false, decide_true, decide_false, decide_eq_true_eq, eq_self, Nat.reduceAdd, Nat.reduceLT, Nat.reduceSub, Int.reduceLT, Int.reduceLE, Int.reduceToNat, Int.reduceAbs, Int.reducePow, Int.natAbs_natCast, Nat.reducePow, Nat.reduceLeDiff, Nat.reduceMul, Nat.reduceBEq, Bool.or_true, Bool.or_false, Bool.true_or, Bool.false_or, Int.reduceNeg, $a,*])
  | `(tactic| dsimp! only [$a,*] $l:location) => `(tactic| simp only [w_nil, w_cons, w_set, w_unp, w_par, w_aug, w_sts, w_dst, w_st2, os_stD, os_stL, two2_t, w_rdv, w_dnew, w_tmt, w_fnv, w_cal, w_dsp, w_dgt, w_app, w_ext, w_ins, w_ixl, w_exp, w_ret, w_retn, w_ife, w_non, w_bl, w_int, w_str, w_var, w_glb, w_tup, w_lst, w_op, w_chn, w_not, w_ifx, w_bop, w_b1, w_b2, w_call, w_do, w_pop, w_fs0, w_fs, w_os0, w_os, w_ts0, w_ts1, ok_ok, ok_bad, ok_bind, os_some, os_none, os_bind, os_map, os_ifn, bl_bl, fn_nx, fn_rt, rt_nx, rt_rt, o_bin, b_add, b_sub, b_and, b_or, b_xor, b_mod, b_fdiv, b_mul, b_pow, b_shl, b_shr, b_cat, b_catT, b_rep, a_add, a_sub, a_and, a_or, a_xor, a_shr, a_shl, a_fdiv, o_neg, o_inv, o_cmp, c_eq, c_ne, c_lt, c_le, c_gt, c_ge, c_isn, c_notn, c_inl, c_ninl, c_int, c_nint, c_ind, c_nind, kB_int, kB_str, o_subD, o_sub, o_subT, at0, at1, at2, at3, at4, ix0, ix1, ix2, ix3, o_len, o_lenT, o_abs, o_min2, o_max2, o_int, o_intb, o_tup, o_tupt, o_lst, o_lstt, o_rev, o_lrevl, o_lrevt, o_isi, o_isi2, i_int, i_bl, i_lst, i_tup, i_str, i_non, o_slu, o_slsu, o_sll, o_sla, o_slut, o_sllt, o_all, o_any, o_sum, o_srt, o_srtT, o_stp, o_lrng1, o_lrng2, n_seqL, n_seqT, n_enumL, n_enumT, n_rev, n_revT, n_zipL, n_zipT, n_rng1, n_rng2, n_revr, ownVar, ownS, getS, lstB, os_setS, stO_some, stO_none, stB_un, stB_sh, stB_ow, putS, odTs, odT, odAs, odA, refs, nodupB, backs, back1, retE, outS, wipeS, giveS, plainS, tgtF, asgs, mkSeq, T.isNon, okFor, setsS, setsL, List.getElem?_cons_zero, List.getElem?_cons_succ, List.getElem?_nil, List.set_cons_zero, List.set_cons_succ, List.length_cons, List.length_nil, List.length_map, List.cons_append, List.nil_append, List.append_nil, List.replicate, List.getD_cons_zero, List.getD_cons_succ, Option.getD, List.contains_nil, List.contains_cons, Bool.not_true, Bool.not_false, Bool.and_true, Bool.true_and, Bool.and_self, if_true, if_false, true_and, and_true, ite_true, ite_false, reduceIte, Bool.false_eq_true, Bool.true_eq_false, decide_true, decide_false, decide_eq_true_eq, eq_self, Nat.reduceAdd, Nat.reduceLT, Nat.reduceSub, Int.reduceLT, Int.reduceLE, Int.reduceToNat, Int.reduceAbs, Int.reducePow, Int.natAbs_natCast, Nat.reducePow, Nat.reduceLeDiff, Nat.reduceMul, Nat.reduceBEq, Bool.or_true, Bool.or_false, Bool.true_or, Bool.false_or, Int.reduceNeg, $a,*] $l)
local macro_rules
  | `(tactic| simp! only [$a,*]) => `(tactic| simp only [w_nil, w_cons, w_set, w_unp, w_par, w_aug, w_sts, w_dst, w_st2, os_stD, os_stL, two2_t, w_rdv, w_dnew, w_tmt, w_fnv, w_cal, w_dsp, w_dgt, w_app, w_ext, w_ins, w_ixl, w_exp, w_ret, w_retn, w_ife, w_non, w_bl, w_int, w_str, w_var, w_glb, w_tup, w_lst, w_op, w_chn, w_not, w_ifx, w_bop, w_b1, w_b2, w_call, w_do, w_pop, w_fs0, w_fs, w_os0, w_os, w_ts0, w_ts1, ok_ok, ok_bad, ok_bind, os_some, os_none, os_bind, os_map, os_ifn, bl_bl, fn_nx, fn_rt, rt_nx, rt_rt, o_bin, b_add, b_sub, b_and, b_or, b_xor, b_mod, b_fdiv, b_mul, b_pow, b_shl, b_shr, b_cat, b_catT, b_rep, a_add, a_sub, a_and, a_or, a_xor, a_shr, a_shl, a_fdiv, o_neg, o_inv, o_cmp, c_eq, c_ne, c_lt, c_le, c_gt, c_ge, c_isn, c_notn, c_inl, c_ninl, c_int, c_nint, c_ind, c_nind, kB_int, kB_str, o_subD, o_sub, o_subT, at0, at1, at2, at3, at4, ix0, ix1, ix2, ix3, o_len, o_lenT, o_abs, o_min2, o_max2, o_int, o_intb, o_tup, o_tupt, o_lst, o_lstt, o_rev, o_lrevl, o_lrevt, o_isi, o_isi2, i_int, i_bl, i_lst, i_tup, i_str, i_non, o_slu, o_slsu, o_sll, o_sla, o_slut, o_sllt, o_all, o_any, o_sum, o_srt, o_srtT, o_stp, o_lrng1, o_lrng2, n_seqL, n_seqT, n_enumL, n_enumT, n_rev, n_revT, n_zipL, n_zipT, n_rng1, n_rng2, n_revr, ownVar, ownS, getS, lstB, os_setS, stO_some, stO_none, stB_un, stB_sh, stB_ow, putS, odTs, odT, odAs, odA, refs, nodupB, backs, back1, retE, outS, wipeS, giveS, plainS, tgtF, asgs, mkSeq, T.isNon, okFor, setsS, setsL, List.getElem?_cons_zero, List.getElem?_cons_succ, List.getElem?_nil, List.set_cons_zero, List.set_cons_succ, List.length_cons, List.length_nil, List.length_map, List.cons_append, List.nil_append, List.append_nil, List.replicate, List.getD_cons_zero, List.getD_cons_succ, Option.getD, List.contains_nil, List.contains_cons, Bool.not_true, Bool.not_false, Bool.and_true, Bool.true_and, Bool.and_self, if_true, if_false, true_and, and_true, ite_true, ite_false, reduceIte, Bool.false_eq_true, Bool.true_eq_false, decide_true, decide_false, decide_eq_true_eq, eq_self, Nat.reduceAdd, Nat.reduceLT, Nat.reduceSub, Int.reduceLT, Int.reduceLE, Int.reduceToNat, Int.reduceAbs, Int.reducePow, Int.natAbs_natCast, Nat.reducePow, Nat.reduceLeDiff, Nat.reduceMul, Nat.reduceBEq, Bool.or_true, Bool.or_false, Bool.true_or, Bool.false_or, Int.reduceNeg, sq_and_and, sq_and_or, sq_and_gather, sq_and_strew, sq_and_left, sq_and_right, sq_and_turn, sq_and_swap, sq_and_copy, si_and_M, si_and_B, si_and_S, si_and_L, sn_and, sq_or_and, sq_or_or, sq_or_gather, sq_or_strew, sq_or_left, sq_or_right, sq_or_turn, sq_or_swap, sq_or_copy, si_or_M, si_or_B, si_or_S, si_or_L, sn_or, sq_gather_and, sq_gather_or, sq_gather_gather, sq_gather_strew, sq_gather_left, sq_gather_right, sq_gather_turn, sq_gather_swap, sq_gather_copy, si_gather_M, si_gather_B, si_gather_S, si_gather_L, sn_gather, sq_strew_and, sq_strew_or, sq_strew_gather, sq_strew_strew, sq_strew_left, sq_strew_right, sq_strew_turn, sq_strew_swap, sq_strew_copy, si_strew_M, si_strew_B, si_strew_S, si_strew_L, sn_strew, sq_left_and, sq_left_or, sq_left_gather, sq_left_strew, sq_left_left, sq_left_right, sq_left_turn, sq_left_swap, sq_left_copy, si_left_M, si_left_B, si_left_S, si_left_L, sn_left, sq_right_and, sq_right_or, sq_right_gather, sq_right_strew, sq_right_left, sq_right_right, sq_right_turn, sq_right_swap, sq_right_copy, si_right_M, si_right_B, si_right_S, si_right_L, sn_right, sq_turn_and, sq_turn_or, sq_turn_gather, sq_turn_strew, sq_turn_left, sq_turn_right, sq_turn_turn, sq_turn_swap, sq_turn_copy, si_turn_M, si_turn_B, si_turn_S, si_turn_L, sn_turn, sq_swap_and, sq_swap_or, sq_swap_gather, sq_swap_strew, sq_swap_left, sq_swap_right, sq_swap_turn, sq_swap_swap, sq_swap_copy, si_swap_M, si_swap_B, si_swap_S, si_swap_L, sn_swap, sq_copy_and, sq_copy_or, sq_copy_gather, sq_copy_strew, sq_copy_left, sq_copy_right, sq_copy_turn, sq_copy_swap, sq_copy_copy, si_copy_M, si_copy_B, si_copy_S, si_copy_L, sn_copy, $a,*])
  | `(tactic| simp! only [$a,*] $l:location) => `(tactic| simp only [w_nil, w_cons, w_set, w_unp, w_par, w_aug, w_sts, w_dst, w_st2, os_stD, os_stL, two2_t, w_rdv, w_dnew, w_tmt, w_fnv, w_cal, w_dsp, w_dgt, w_app, w_ext, w_ins, w_ixl, w_exp, w_ret, w_retn, w_ife, w_non, w_bl, w_int, w_str, w_var, w_glb, w_tup, w_lst, w_op, w_chn, w_not, w_ifx, w_bop, w_b1, w_b2, w_call, w_do, w_pop, w_fs0, w_fs, w_os0, w_os, w_ts0, w_ts1, ok_ok, ok_bad, ok_bind, os_some, os_none, os_bind, os_map, os_ifn, bl_bl, fn_nx, fn_rt, rt_nx, rt_rt, o_bin, b_add, b_sub, b_and, b_or, b_xor, b_mod, b_fdiv, b_mul, b_pow, b_shl, b_shr, b_cat, b_catT, b_rep, a_add, a_sub, a_and, a_or, a_xor, a_shr, a_shl, a_fdiv, o_neg, o_inv, o_cmp, c_eq, c_ne, c_lt, c_le, c_gt, c_ge, c_isn, c_notn, c_inl, c_ninl, c_int, c_nint, c_ind, c_nind, kB_int, kB_str, o_subD, o_sub, o_subT, at0, at1, at2, at3, at4, ix0, ix1, ix2, ix3, o_len, o_lenT, o_abs, o_min2, o_max2, o_int, o_intb, o_tup, o_tupt, o_lst, o_lstt, o_rev, o_lrevl, o_lrevt, o_isi, o_isi2, i_int, i_bl, i_lst, i_tup, i_str, i_non, o_slu, o_slsu, o_sll, o_sla, o_slut, o_sllt, o_all, o_any, o_sum, o_srt, o_srtT, o_stp, o_lrng1, o_lrng2, n_seqL, n_seqT, n_enumL, n_enumT, n_rev, n_revT, n_zipL, n_zipT, n_rng1, n_rng2, n_revr, ownVar, ownS, getS, lstB, os_setS, stO_some, stO_none, stB_un, stB_sh, stB_ow, putS, odTs, odT, odAs, odA, refs, nodupB, backs, back1, retE, outS, wipeS, giveS, plainS, tgtF, asgs, mkSeq, T.isNon, okFor, setsS, setsL, List.getElem?_cons_zero, List.getElem?_cons_succ, List.getElem?_nil, List.set_cons_zero, List.set_cons_succ, List.length_cons, List.length_nil, List.length_map, List.cons_append, List.nil_append, List.append_nil, List.replicate, List.getD_cons_zero, List.getD_cons_succ, Option.getD, List.contains_nil, List.contains_cons, Bool.not_true, Bool.not_false, Bool.and_true, Bool.true_and, Bool.and_self, if_true, if_false, true_and, and_true, ite_true, ite_false, reduceIte, Bool.false_eq_true, Bool.true_eq_false, decide_true, decide_false, decide_eq_true_eq, eq_self, Nat.reduceAdd, Nat.reduceLT, Nat.reduceSub, Int.reduceLT, Int.reduceLE, Int.reduceToNat, Int.reduceAbs, Int.reducePow, Int.natAbs_natCast, Nat.reducePow, Nat.reduceLeDiff, Nat.reduceMul, Nat.reduceBEq, Bool.or_true, Bool.or_false, Bool.true_or, Bool.false_or, Int.reduceNeg, sq_and_and, sq_and_or, sq_and_gather, sq_and_strew, sq_and_left, sq_and_right, sq_and_turn, sq_and_swap, sq_and_copy, si_and_M, si_and_B, si_and_S, si_and_L, sn_and, sq_or_and, sq_or_or, sq_or_gather, sq_or_strew, sq_or_left, sq_or_right, sq_or_turn, sq_or_swap, sq_or_copy, si_or_M, si_or_B, si_or_S, si_or_L, sn_or, sq_gather_and, sq_gather_or, sq_gather_gather, sq_gather_strew, sq_gather_left, sq_gather_right, sq_gather_turn, sq_gather_swap, sq_gather_copy, si_gather_M, si_gather_B, si_gather_S, si_gather_L, sn_gather, sq_strew_and, sq_strew_or, sq_strew_gather, sq_strew_strew, sq_strew_left, sq_strew_right, sq_strew_turn, sq_strew_swap, sq_strew_copy, si_strew_M, si_strew_B, si_strew_S, si_strew_L, sn_strew, sq_left_and, sq_left_or, sq_left_gather, sq_left_strew, sq_left_left, sq_left_right, sq_left_turn, sq_left_swap, sq_left_copy, si_left_M, si_left_B, si_left_S, si_left_L, sn_left, sq_right_and, sq_right_or, sq_right_gather, sq_right_strew, sq_right_left, sq_right_right, sq_right_turn, sq_right_swap, sq_right_copy, si_right_M, si_right_B, si_right_S, si_right_L, sn_right, sq_turn_and, sq_turn_or, sq_turn_gather, sq_turn_strew, sq_turn_left, sq_turn_right, sq_turn_turn, sq_turn_swap, sq_turn_copy, si_turn_M, si_turn_B, si_turn_S, si_turn_L, sn_turn, sq_swap_and, sq_swap_or, sq_swap_gather, sq_swap_strew, sq_swap_left, sq_swap_right, sq_swap_turn, sq_swap_swap, sq_swap_copy, si_swap_M, si_swap_B, si_swap_S, si_swap_L, sn_swap, sq_copy_and, sq_copy_or, sq_copy_gather, sq_copy_strew, sq_copy_left, sq_copy_right, sq_copy_turn, sq_copy_swap, sq_copy_copy, si_copy_M, si_copy_B, si_copy_S, si_copy_L, sn_copy, $a,*] $l)
end MP
namespace MP
open PySem
local macro_rules
  | `(tactic| dsimp! only [$a,*]) => `(tactic| simp only [w_nil, w_cons, w_set, w_unp, w_par, w_aug, w_sts, w_dst, w_st2, os_stD, os_stL, two2_t, w_rdv, w_dnew, w_tmt, w_fnv, w_cal, w_dsp, w_dgt, w_app, w_ext, w_ins, w_ixl, w_exp, w_ret, w_retn, w_ife, w_non, w_bl, w_int, w_str, w_var, w_glb, w_tup, w_lst, w_op, w_chn, w_not, w_ifx, w_bop, w_b1, w_b2, w_call, w_do, w_pop, w_fs0, w_fs, w_os0, w_os, w_ts0, w_ts1, ok_ok, ok_bad, ok_bind, os_some, os_none, os_bind, os_map, os_ifn, bl_bl, fn_nx, fn_rt, rt_nx, rt_rt, o_bin, b_add, b_sub, b_and, b_or, b_xor, b_mod, b_fdiv, b_mul, b_pow, b_shl, b_shr, b_cat, b_catT, b_rep, a_add, a_sub, a_and, a_or, a_xor, a_shr, a_shl, a_fdiv, o_neg, o_inv, o_cmp, c_eq, c_ne, c_lt, c_le, c_gt, c_ge, c_isn, c_notn, c_inl, c_ninl, c_int, c_nint, c_ind, c_nind, kB_int, kB_str, o_subD, o_sub, o_subT, at0, at1, at2, at3, at4, ix0, ix1, ix2, ix3, o_len, o_lenT, o_abs, o_min2, o_max2, o_int, o_intb, o_tup, o_tupt, o_lst, o_lstt, o_rev, o_lrevl, o_lrevt, o_isi, o_isi2, i_int, i_bl, i_lst, i_tup, i_str, i_non, o_slu, o_slsu, o_sll, o_sla, o_slut, o_sllt, o_all, o_any, o_sum, o_srt, o_srtT, o_stp, o_lrng1, o_lrng2, n_seqL, n_seqT, n_enumL, n_enumT, n_rev, n_revT, n_zipL, n_zipT, n_rng1, n_rng2, n_revr, ownVar, ownS, getS, lstB, os_setS, stO_some, stO_none, stB_un, stB_sh, stB_ow, putS, odTs, odT, odAs, odA, refs, nodupB, backs, back1, retE, outS, wipeS, giveS, plainS, tgtF, asgs, mkSeq, T.isNon, okFor, setsS, setsL, List.getElem?_cons_zero, List.getElem?_cons_succ, List.getElem?_nil, List.set_cons_zero, List.set_cons_succ, List.length_cons, List.length_nil, List.length_map, List.cons_append, List.nil_append, List.append_nil, List.replicate, List.getD_cons_zero, List.getD_cons_succ, Option.getD, List.contains_nil, List.contains_cons, Bool.not_true, Bool.not_false, Bool.and_true, Bool.true_and, Bool.and_self, if_true, if_false, true_and, and_true, ite_true, ite_false, reduceIte, Bool.false_eq_true, Bool.true_eq_false, decide_true, decide_false, decide_eq_true_eq, eq_self, Nat.reduceAdd, Nat.reduceLT, Nat.reduceSub, Int.reduceLT, Int.reduceLE, Int.reduceToNat, Int.reduceAbs, Int.reducePow, Int.natAbs_natCast, Nat.reducePow, Nat.reduceLeDiff, Nat.reduceMul, Nat.reduceBEq, Bool.or_true, Bool.or_false, Bool.true_or, Bool.false_or, Int.reduceNeg, $a,*])
  | `(tactic| dsimp! only [$a,*] $l:location) => `(tactic| simp only [w_nil, w_cons, w_set, w_unp, w_par, w_aug, w_sts, w_dst, w_st2, os_stD, os_stL, two2_t, w_rdv, w_dnew, w_tmt, w_fnv, w_cal, w_dsp, w_dgt, w_app, w_ext, w_ins, w_ixl, w_exp, w_ret, w_retn, w_ife, w_non, w_bl, w_int, w_str, w_var, w_glb, w_tup, w_lst, w_op, w_chn, w_not, w_ifx, w_bop, w_b1, w_b2, w_call, w_do, w_pop, w_fs0, w_fs, w_os0, w_os, w_ts0, w_ts1, ok_ok, ok_bad, ok_bind, os_some, os_none, os_bind, os_map, os_ifn, bl_bl, fn_nx, fn_rt, rt_nx, rt_rt, o_bin, b_add, b_sub, b_and, b_or, b_xor, b_mod, b_fdiv, b_mul, b_pow, b_shl, b_shr, b_cat, b_catT, b_rep, a_add, a_sub, a_and, a_or, a_xor, a_shr, a_shl, a_fdiv, o_neg, o_inv, o_cmp, c_eq, c_ne, c_lt, c_le, c_gt, c_ge, c_isn, c_notn, c_inl, c_ninl, c_int, c_nint, c_ind, c_nind, kB_int, kB_str, o_subD, o_sub, o_subT, at0, at1, at2, at3, at4, ix0, ix1, ix2, ix3, o_len, o_lenT, o_abs, o_min2, o_max2, o_int, o_intb, o_tup, o_tupt, o_lst, o_lstt, o_rev, o_lrevl, o_lrevt, o_isi, o_isi2, i_int, i_bl, i_lst, i_tup, i_str, i_non, o_slu, o_slsu, o_sll, o_sla, o_slut, o_sllt, o_all, o_any, o_sum, o_srt, o_srtT, o_stp, o_lrng1, o_lrng2, n_seqL, n_seqT, n_enumL, n_enumT, n_rev, n_revT, n_zipL, n_zipT, n_rng1, n_rng2, n_revr, ownVar, ownS, getS, lstB, os_setS, stO_some, stO_none, stB_un, stB_sh, stB_ow, putS, odTs, odT, odAs, odA, refs, nodupB, backs, back1, retE, outS, wipeS, giveS, plainS, tgtF, asgs, mkSeq, T.isNon, okFor, setsS, setsL, List.getElem?_cons_zero, List.getElem?_cons_succ, List.getElem?_nil, List.set_cons_zero, List.set_cons_succ, List.length_cons, List.length_nil, List.length_map, List.cons_append, List.nil_append, List.append_nil, List.replicate, List.getD_cons_zero, List.getD_cons_succ, Option.getD, List.contains_nil, List.contains_cons, Bool.not_true, Bool.not_false, Bool.and_true, Bool.true_and, Bool.and_self, if_true, if_false, true_and, and_true, ite_true, ite_false, reduceIte, Bool.false_eq_true, Bool.true_eq_false, decide_true, decide_false, decide_eq_true_eq, eq_self, Nat.reduceAdd, Nat.reduceLT, Nat.reduceSub, Int.reduceLT, Int.reduceLE, Int.reduceToNat, Int.reduceAbs, Int.reducePow, Int.natAbs_natCast, Nat.reducePow, Nat.reduceLeDiff, Nat.reduceMul, Nat.reduceBEq, Bool.or_true, Bool.or_false, Bool.true_or, Bool.false_or, Int.reduceNeg, $a,*] $l)
local macro_rules
  | `(tactic| simp! only [$a,*]) => `(tactic| simp only [w_nil, w_cons, w_set, w_unp, w_par, w_aug, w_sts, w_dst, w_st2, os_stD, os_stL, two2_t, w_rdv, w_dnew, w_tmt, w_fnv, w_cal, w_dsp, w_dgt, w_app, w_ext, w_ins, w_ixl, w_exp, w_ret, w_retn, w_ife, w_non, w_bl, w_int, w_str, w_var, w_glb, w_tup, w_lst, w_op, w_chn, w_not, w_ifx, w_bop, w_b1, w_b2, w_call, w_do, w_pop, w_fs0, w_fs, w_os0, w_os, w_ts0, w_ts1, ok_ok, ok_bad, ok_bind, os_some, os_none, os_bind, os_map, os_ifn, bl_bl, fn_nx, fn_rt, rt_nx, rt_rt, o_bin, b_add, b_sub, b_and, b_or, b_xor, b_mod, b_fdiv, b_mul, b_pow, b_shl, b_shr, b_cat, b_catT, b_rep, a_add, a_sub, a_and, a_or, a_xor, a_shr, a_shl, a_fdiv, o_neg, o_inv, o_cmp, c_eq, c_ne, c_lt, c_le, c_gt, c_ge, c_isn, c_notn, c_inl, c_ninl, c_int, c_nint, c_ind, c_nind, kB_int, kB_str, o_subD, o_sub, o_subT, at0, at1, at2, at3, at4, ix0, ix1, ix2, ix3, o_len, o_lenT, o_abs, o_min2, o_max2, o_int, o_intb, o_tup, o_tupt, o_lst, o_lstt, o_rev, o_lrevl, o_lrevt, o_isi, o_isi2, i_int, i_bl, i_lst, i_tup, i_str, i_non, o_slu, o_slsu, o_sll, o_sla, o_slut, o_sllt, o_all, o_any, o_sum, o_srt, o_srtT, o_stp, o_lrng1, o_lrng2, n_seqL, n_seqT, n_enumL, n_enumT, n_rev, n_revT, n_zipL, n_zipT, n_rng1, n_rng2, n_revr, ownVar, ownS, getS, lstB, os_setS, stO_some, stO_none, stB_un, stB_sh, stB_ow, putS, odTs, odT, odAs, odA, refs, nodupB, backs, back1, retE, outS, wipeS, giveS, plainS, tgtF, asgs, mkSeq, T.isNon, okFor, setsS, setsL, List.getElem?_cons_zero, List.getElem?_cons_succ, List.getElem?_nil, List.set_cons_zero, List.set_cons_succ, List.length_cons, List.length_nil, List.length_map, List.cons_append, List.nil_append, List.append_nil, List.replicate, List.getD_cons_zero, List.getD_cons_succ, Option.getD, List.contains_nil, List.contains_cons, Bool.not_true, Bool.not_false, Bool.and_true, Bool.true_and, Bool.and_self, if_true, if_false, true_and, and_true, ite_true, ite_false, reduceIte, Bool.false_eq_true, Bool.true_eq_false, decide_true, decide_false, decide_eq_true_eq, eq_self, Nat.reduceAdd, Nat.reduceLT, Nat.reduceSub, Int.reduceLT, Int.reduceLE, Int.reduceToNat, Int.reduceAbs, Int.reducePow, Int.natAbs_natCast, Nat.reducePow, Nat.reduceLeDiff, Nat.reduceMul, Nat.reduceBEq, Bool.or_true, Bool.or_false, Bool.true_or, Bool.false_or, Int.reduceNeg, sq_and_and, sq_and_or, sq_and_gather, sq_and_strew, sq_and_left, sq_and_right, sq_and_turn, sq_and_swap, sq_and_copy, si_and_M, si_and_B, si_and_S, si_and_L, sn_and, sq_or_and, sq_or_or, sq_or_gather, sq_or_strew, sq_or_left, sq_or_right, sq_or_turn, sq_or_swap, sq_or_copy, si_or_M, si_or_B, si_or_S, si_or_L, sn_or, sq_gather_and, sq_gather_or, sq_gather_gather, sq_gather_strew, sq_gather_left, sq_gather_right, sq_gather_turn, sq_gather_swap, sq_gather_copy, si_gather_M, si_gather_B, si_gather_S, si_gather_L, sn_gather, sq_strew_and, sq_strew_or, sq_strew_gather, sq_strew_strew, sq_strew_left, sq_strew_right, sq_strew_turn, sq_strew_swap, sq_strew_copy, si_strew_M, si_strew_B, si_strew_S, si_strew_L, sn_strew, sq_left_and, sq_left_or, sq_left_gather, sq_left_strew, sq_left_left, sq_left_right, sq_left_turn, sq_left_swap, sq_left_copy, si_left_M, si_left_B, si_left_S, si_left_L, sn_left, sq_right_and, sq_right_or, sq_right_gather, sq_right_strew, sq_right_left, sq_right_right, sq_right_turn, sq_right_swap, sq_right_copy, si_right_M, si_right_B, si_right_S, si_right_L, sn_right, sq_turn_and, sq_turn_or, sq_turn_gather, sq_turn_strew, sq_turn_left, sq_turn_right, sq_turn_turn, sq_turn_swap, sq_turn_copy, si_turn_M, si_turn_B, si_turn_S, si_turn_L, sn_turn, sq_swap_and, sq_swap_or, sq_swap_gather, sq_swap_strew, sq_swap_left, sq_swap_right, sq_swap_turn, sq_swap_swap, sq_swap_copy, si_swap_M, si_swap_B, si_swap_S, si_swap_L, sn_swap, sq_copy_and, sq_copy_or, sq_copy_gather, sq_copy_strew, sq_copy_left, sq_copy_right, sq_copy_turn, sq_copy_swap, sq_copy_copy, si_copy_M, si_copy_B, si_copy_S, si_copy_L, sn_copy, $a,*])
  | `(tactic| simp! only [$a,*] $l:location) => `(tactic| simp only [w_nil, w_cons, w_set, w_unp, w_par, w_aug, w_sts, w_dst, w_st2, os_stD, os_stL, two2_t, w_rdv, w_dnew, w_tmt, w_fnv, w_cal, w_dsp, w_dgt, w_app, w_ext, w_ins, w_ixl, w_exp, w_ret, w_retn, w_ife, w_non, w_bl, w_int, w_str, w_var, w_glb, w_tup, w_lst, w_op, w_chn, w_not, w_ifx, w_bop, w_b1, w_b2, w_call, w_do, w_pop, w_fs0, w_fs, w_os0, w_os, w_ts0, w_ts1, ok_ok, ok_bad, ok_bind, os_some, os_none, os_bind, os_map, os_ifn, bl_bl, fn_nx, fn_rt, rt_nx, rt_rt, o_bin, b_add, b_sub, b_and, b_or, b_xor, b_mod, b_fdiv, b_mul, b_pow, b_shl, b_shr, b_cat, b_catT, b_rep, a_add, a_sub, a_and, a_or, a_xor, a_shr, a_shl, a_fdiv, o_neg, o_inv, o_cmp, c_eq, c_ne, c_lt, c_le, c_gt, c_ge, c_isn, c_notn, c_inl, c_ninl, c_int, c_nint, c_ind, c_nind, kB_int, kB_str, o_subD, o_sub, o_subT, at0, at1, at2, at3, at4, ix0, ix1, ix2, ix3, o_len, o_lenT, o_abs, o_min2, o_max2, o_int, o_intb, o_tup, o_tupt, o_lst, o_lstt, o_rev, o_lrevl, o_lrevt, o_isi, o_isi2, i_int, i_bl, i_lst, i_tup, i_str, i_non, o_slu, o_slsu, o_sll, o_sla, o_slut, o_sllt, o_all, o_any, o_sum, o_srt, o_srtT, o_stp, o_lrng1, o_lrng2, n_seqL, n_seqT, n_enumL, n_enumT, n_rev, n_revT, n_zipL, n_zipT, n_rng1, n_rng2, n_revr, ownVar, ownS, getS, lstB, os_setS, stO_some, stO_none, stB_un, stB_sh, stB_ow, putS, odTs, odT, odAs, odA, refs, nodupB, backs, back1, retE, outS, wipeS, giveS, plainS, tgtF, asgs, mkSeq, T.isNon, okFor, setsS, setsL, List.getElem?_cons_zero, List.getElem?_cons_succ, List.getElem?_nil, List.set_cons_zero, List.set_cons_succ, List.length_cons, List.length_nil, List.length_map, List.cons_append, List.nil_append, List.append_nil, List.replicate, List.getD_cons_zero, List.getD_cons_succ, Option.getD, List.contains_nil, List.contains_cons, Bool.not_true, Bool.not_false, Bool.and_true, Bool.true_and, Bool.and_self, if_true, if_false, true_and, and_true, ite_true, ite_false, reduceIte, Bool.false_eq_true, Bool.true_eq_false, decide_true, decide_false, decide_eq_true_eq, eq_self, Nat.reduceAdd, Nat.reduceLT, Nat.reduceSub, Int.reduceLT, Int.reduceLE, Int.reduceToNat, Int.reduceAbs, Int.reducePow, Int.natAbs_natCast, Nat.reducePow, Nat.reduceLeDiff, Nat.reduceMul, Nat.reduceBEq, Bool.or_true, Bool.or_false, Bool.true_or, Bool.false_or, Int.reduceNeg, sq_and_and, sq_and_or, sq_and_gather, sq_and_strew, sq_and_left, sq_and_right, sq_and_turn, sq_and_swap, sq_and_copy, si_and_M, si_and_B, si_and_S, si_and_L, sn_and, sq_or_and, sq_or_or, sq_or_gather, sq_or_strew, sq_or_left, sq_or_right, sq_or_turn, sq_or_swap, sq_or_copy, si_or_M, si_or_B, si_or_S, si_or_L, sn_or, sq_gather_and, sq_gather_or, sq_gather_gather, sq_gather_strew, sq_gather_left, sq_gather_right, sq_gather_turn, sq_gather_swap, sq_gather_copy, si_gather_M, si_gather_B, si_gather_S, si_gather_L, sn_gather, sq_strew_and, sq_strew_or, sq_strew_gather, sq_strew_strew, sq_strew_left, sq_strew_right, sq_strew_turn, sq_strew_swap, sq_strew_copy, si_strew_M, si_strew_B, si_strew_S, si_strew_L, sn_strew, sq_left_and, sq_left_or, sq_left_gather, sq_left_strew, sq_left_left, sq_left_right, sq_left_turn, sq_left_swap, sq_left_copy, si_left_M, si_left_B, si_left_S, si_left_L, sn_left, sq_right_and, sq_right_or, sq_right_gather, sq_right_strew, sq_right_left, sq_right_right, sq_right_turn, sq_right_swap, sq_right_copy, si_right_M, si_right_B, si_right_S, si_right_L, sn_right, sq_turn_and, sq_turn_or, sq_turn_gather, sq_turn_strew, sq_turn_left, sq_turn_right, sq_turn_turn, sq_turn_swap, sq_turn_copy, si_turn_M, si_turn_B, si_turn_S, si_turn_L, sn_turn, sq_swap_and, sq_swap_or, sq_swap_gather, sq_swap_strew, sq_swap_left, sq_swap_right, sq_swap_turn, sq_swap_swap, sq_swap_copy, si_swap_M, si_swap_B, si_swap_S, si_swap_L, sn_swap, sq_copy_and, sq_copy_or, sq_copy_gather, sq_copy_strew, sq_copy_left, sq_copy_right, sq_copy_turn, sq_copy_swap, sq_copy_copy, si_copy_M, si_copy_B, si_copy_S, si_copy_L, sn_copy, $a,*] $l)
def x_kept_by (c_mask_of : Nat) : FD where
  name := "kept_by"
  ps := ["leading"]
  N := ["leading", "entry"]
  body := [
    .ret (.call c_mask_of [(.comp (.var 1) [1] false .seq [(.var 0)] [(.op (.cmp .GtE) [(.var 1), (.int 0)])] [1])])]
theorem or_bit (a b j : Nat) : (a ||| b).testBit j = true ↔ a.testBit j = true ∨ b.testBit j = true := by rw [Nat.testBit_or, Bool.or_eq_true]
theorem trn_ent {W n p : Nat} (hn : n < W) (hp : p < W) : ((p : Int) - n) % W = ((if n ≤ p then p - n else p + (W - n) : Nat) : Int) := by
  split
  · rw [Int.emod_eq_of_lt (by omega) (by omega)]
    omega
  · rw [← Int.add_emod_right, Int.emod_eq_of_lt (by omega) (by omega)]
    omega
end MP
namespace MP
open PySem
local macro_rules
  | `(tactic| dsimp! only [$a,*]) => `(tactic| simp only [w_nil, w_cons, w_set, w_unp, w_par, w_aug, w_sts, w_dst, w_st2, os_stD, os_stL, two2_t, w_rdv, w_dnew, w_tmt, w_fnv, w_cal, w_dsp, w_dgt, w_app, w_ext, w_ins, w_ixl, w_exp, w_ret, w_retn, w_ife, w_non, w_bl, w_int, w_str, w_var, w_glb, w_tup, w_lst, w_op, w_chn, w_not, w_ifx, w_bop, w_b1, w_b2, w_call, w_do, w_pop, w_fs0, w_fs, w_os0, w_os, w_ts0, w_ts1, ok_ok, ok_bad, ok_bind, os_some, os_none, os_bind, os_map, os_ifn, bl_bl, fn_nx, fn_rt, rt_nx, rt_rt, o_bin, b_add, b_sub, b_and, b_or, b_xor, b_mod, b_fdiv, b_mul, b_pow, b_shl, b_shr, b_cat, b_catT, b_rep, a_add, a_sub, a_and, a_or, a_xor, a_shr, a_shl, a_fdiv, o_neg, o_inv, o_cmp, c_eq, c_ne, c_lt, c_le, c_gt, c_ge, c_isn, c_notn, c_inl, c_ninl, c_int, c_nint, c_ind, c_nind, kB_int, kB_str, o_subD, o_sub, o_subT, at0, at1, at2, at3, at4, ix0, ix1, ix2, ix3, o_len, o_lenT, o_abs, o_min2, o_max2, o_int, o_intb, o_tup, o_tupt, o_lst, o_lstt, o_rev, o_lrevl, o_lrevt, o_isi, o_isi2, i_int, i_bl, i_lst, i_tup, i_str, i_non, o_slu, o_slsu, o_sll, o_sla, o_slut, o_sllt, o_all, o_any, o_sum, o_srt, o_srtT, o_stp, o_lrng1, o_lrng2, n_seqL, n_seqT, n_enumL, n_enumT, n_rev, n_revT, n_zipL, n_zipT, n_rng1, n_rng2, n_revr, ownVar, ownS, getS, lstB, os_setS, stO_some, stO_none, stB_un, stB_sh, stB_ow, putS, odTs, odT, odAs, odA, refs, nodupB, backs, back1, retE, outS, wipeS, giveS, plainS, tgtF, asgs, mkSeq, T.isNon, okFor, setsS, setsL, List.getElem?_cons_zero, List.getElem?_cons_succ, List.getElem?_nil, List.set_cons_zero, List.set_cons_succ, List.length_cons, List.length_nil, List.length_map, List.cons_append, List.nil_append, List.append_nil, List.replicate, List.getD_cons_zero, List.getD_cons_succ, Option.getD, List.contains_nil, List.contains_cons, Bool.not_true, Bool.not_false, Bool.and_true, Bool.true_and, Bool.and_self, if_true, if_false, true_and, and_true, ite_true, ite_false, reduceIte, Bool.false_eq_true, Bool.true_eq_false, decide_true, decide_false, decide_eq_true_eq, eq_self, Nat.reduceAdd, Nat.reduceLT, Nat.reduceSub, Int.reduceLT, Int.reduceLE, Int.reduceToNat, Int.reduceAbs, Int.reducePow, Int.natAbs_natCast, Nat.reducePow, Nat.reduceLeDiff, Nat.reduceMul, Nat.reduceBEq, Bool.or_true, Bool.or_false, Bool.true_or, Bool.false_or, Int.reduceNeg, $a,*])
  | `(tactic| dsimp! only [$a,*] $l:location) => `(tactic| simp only [w_nil, w_cons, w_set, w_unp, w_par, w_aug, w_sts, w_dst, w_st2, os_stD, os_stL, two2_t, w_rdv, w_dnew, w_tmt, w_fnv, w_cal, w_dsp, w_dgt, w_app, w_ext, w_ins, w_ixl, w_exp, w_ret, w_retn, w_ife, w_non, w_bl, w_int, w_str, w_var, w_glb, w_tup, w_lst, w_op, w_chn, w_not, w_ifx, w_bop, w_b1, w_b2, w_call, w_do, w_pop, w_fs0, w_fs, w_os0, w_os, w_ts0, w_ts1, ok_ok, ok_bad, ok_bind, os_some, os_none, os_bind, os_map, os_ifn, bl_bl, fn_nx, fn_rt, rt_nx, rt_rt, o_bin, b_add, b_sub, b_and, b_or, b_xor, b_mod, b_fdiv, b_mul, b_pow, b_shl, b_shr, b_cat, b_catT, b_rep, a_add, a_sub, a_and, a_or, a_xor, a_shr, a_shl, a_fdiv, o_neg, o_inv, o_cmp, c_eq, c_ne, c_lt, c_le, c_gt, c_ge, c_isn, c_notn, c_inl, c_ninl, c_int, c_nint, c_ind, c_nind, kB_int, kB_str, o_subD, o_sub, o_subT, at0, at1, at2, at3, at4, ix0, ix1, ix2, ix3, o_len, o_lenT, o_abs, o_min2, o_max2, o_int, o_intb, o_tup, o_tupt, o_lst, o_lstt, o_rev, o_lrevl, o_lrevt, o_isi, o_isi2, i_int, i_bl, i_lst, i_tup, i_str, i_non, o_slu, o_slsu, o_sll, o_sla, o_slut, o_sllt, o_all, o_any, o_sum, o_srt, o_srtT, o_stp, o_lrng1, o_lrng2, n_seqL, n_seqT, n_enumL, n_enumT, n_rev, n_revT, n_zipL, n_zipT, n_rng1, n_rng2, n_revr, ownVar, ownS, getS, lstB, os_setS, stO_some, stO_none, stB_un, stB_sh, stB_ow, putS, odTs, odT, odAs, odA, refs, nodupB, backs, back1, retE, outS, wipeS, giveS, plainS, tgtF, asgs, mkSeq, T.isNon, okFor, setsS, setsL, List.getElem?_cons_zero, List.getElem?_cons_succ, List.getElem?_nil, List.set_cons_zero, List.set_cons_succ, List.length_cons, List.length_nil, List.length_map, List.cons_append, List.nil_append, List.append_nil, List.replicate, List.getD_cons_zero, List.getD_cons_succ, Option.getD, List.contains_nil, List.contains_cons, Bool.not_true, Bool.not_false, Bool.and_true, Bool.true_and, Bool.and_self, if_true, if_false, true_and, and_true, ite_true, ite_false, reduceIte, Bool.false_eq_true, Bool.true_eq_false, decide_true, decide_false, decide_eq_true_eq, eq_self, Nat.reduceAdd, Nat.reduceLT, Nat.reduceSub, Int.reduceLT, Int.reduceLE, Int.reduceToNat, Int.reduceAbs, Int.reducePow, Int.natAbs_natCast, Nat.reducePow, Nat.reduceLeDiff, Nat.reduceMul, Nat.reduceBEq, Bool.or_true, Bool.or_false, Bool.true_or, Bool.false_or, Int.reduceNeg, $a,*] $l)
theorem cut_to {α : Type} (xs : List α) {k : Nat} (h : k ≤ xs.length) : cutL xs none (some (k : Int)) = xs.take k := by
  unfold cutL
  rw [HT.sIx_nat, HT.sIx_none, List.drop_zero, Nat.sub_zero, Nat.min_eq_left h]
theorem cut_from {α : Type} (xs : List α) {k : Nat} (h : k ≤ xs.length) : cutL xs (some (k : Int)) none = xs.drop k := by
  unfold cutL
  rw [HT.sIx_nat, HT.sIx_none, Nat.min_eq_left h, List.take_of_length_le (by rw [List.length_drop]; omega)]
theorem c_eqb (a b : Bool) : cmpF .Eq (.bl a) (.bl b) = some (a == b) := rfl
def keptN (es : List Int) : Nat := orP ((es.filter fun e => decide (0 ≤ e)).map Int.toNat)
theorem kept_bit (es : List Int) (p : Nat) : (keptN es).testBit p = true ↔ (p : Int) ∈ es := by
  unfold keptN
  rw [orP_bit, decide_eq_true_eq, List.mem_map]
  constructor
  · rintro ⟨e, he, rfl⟩
    obtain ⟨h1, h2⟩ := List.mem_filter.mp he
    have h2 := of_decide_eq_true h2
    rwa [Int.toNat_of_nonneg h2]
  · intro h
    exact ⟨p, List.mem_filter.mpr ⟨h, decide_eq_true (by omega)⟩, Int.toNat_natCast p⟩
section
variable {P : List FD} {glb : Nat → Option T} {wf d f cm : Nat}
theorem kept_ok {W : Nat} {es : List Int} (hf : P[f]? = some (x_kept_by cm)) (hm : P[cm]? = some x_mask_of) (he : LeadZ W es) (hW : W ≤ 1000) :
    Ok (callF P glb wf (d + 2) f [.sh (.tup (tZ es))]) fun r outs => r = (false, .int (keptN es : Nat)) ∧ outs = [.un] := by
  refine call_ok hf rfl ?_
  unfold x_kept_by
  dsimp! only [w_comp, Option.bind_some, Option.map_some, itN, seqN, rangeN, zipN, revrN, tZ_len]
  refine comp_filt (fun e : Int => decide (0 ≤ e)) T.int (wk_tupM T.int es) rfl (fun e hm => ?_) ?_
  · dsimp! only []
    by_cases h : 0 ≤ e
    · dsimp! only [h]
    · dsimp! only [h]
  · have e : (es.filter fun e => decide (0 ≤ e)).map T.int = tI ((es.filter fun e => decide (0 ≤ e)).map Int.toNat) := by
      unfold tI
      rw [List.map_map]
      refine List.map_congr_left fun e he => ?_
      have := of_decide_eq_true (List.mem_filter.mp he).2
      show T.int e = T.int ((e.toNat : Nat) : Int)
      rw [Int.toNat_of_nonneg this]
    dsimp! only [e]
    refine Ok.mono (mask_of_ok hm (.inl rfl) ar_sh fun q hq => ?_) ?_
    · obtain ⟨e, h1, rfl⟩ := List.mem_map.mp hq
      have := (he.2 e (List.mem_filter.mp h1).1).2
      omega
    · rintro _ _ ⟨rfl, rfl⟩
      dsimp! only []
      rfl
end
end MP
namespace MP
open PySem
local macro_rules
  | `(tactic| dsimp! only [$a,*]) => `(tactic| simp only [w_nil, w_cons, w_set, w_unp, w_par, w_aug, w_sts, w_dst, w_st2, os_stD, os_stL, two2_t, w_rdv, w_dnew, w_tmt, w_fnv, w_cal, w_dsp, w_dgt, w_app, w_ext, w_ins, w_ixl, w_exp, w_ret, w_retn, w_ife, w_non, w_bl, w_int, w_str, w_var, w_glb, w_tup, w_lst, w_op, w_chn, w_not, w_ifx, w_bop, w_b1, w_b2, w_call, w_do, w_pop, w_fs0, w_fs, w_os0, w_os, w_ts0, w_ts1, ok_ok, ok_bad, ok_bind, os_some, os_none, os_bind, os_map, os_ifn, bl_bl, fn_nx, fn_rt, rt_nx, rt_rt, o_bin, b_add, b_sub, b_and, b_or, b_xor, b_mod, b_fdiv, b_mul, b_pow, b_shl, b_shr, b_cat, b_catT, b_rep, a_add, a_sub, a_and, a_or, a_xor, a_shr, a_shl, a_fdiv, o_neg, o_inv, o_cmp, c_eq, c_ne, c_lt, c_le, c_gt, c_ge, c_isn, c_notn, c_inl, c_ninl, c_int, c_nint, c_ind, c_nind, kB_int, kB_str, o_subD, o_sub, o_subT, at0, at1, at2, at3, at4, ix0, ix1, ix2, ix3, o_len, o_lenT, o_abs, o_min2, o_max2, o_int, o_intb, o_tup, o_tupt, o_lst, o_lstt, o_rev, o_lrevl, o_lrevt, o_isi, o_isi2, i_int, i_bl, i_lst, i_tup, i_str, i_non, o_slu, o_slsu, o_sll, o_sla, o_slut, o_sllt, o_all, o_any, o_sum, o_srt, o_srtT, o_stp, o_lrng1, o_lrng2, n_seqL, n_seqT, n_enumL, n_enumT, n_rev, n_revT, n_zipL, n_zipT, n_rng1, n_rng2, n_revr, ownVar, ownS, getS, lstB, os_setS, stO_some, stO_none, stB_un, stB_sh, stB_ow, putS, odTs, odT, odAs, odA, refs, nodupB, backs, back1, retE, outS, wipeS, giveS, plainS, tgtF, asgs, mkSeq, T.isNon, okFor, setsS, setsL, List.getElem?_cons_zero, List.getElem?_cons_succ, List.getElem?_nil, List.set_cons_zero, List.set_cons_succ, List.length_cons, List.length_nil, List.length_map, List.cons_append, List.nil_append, List.append_nil, List.replicate, List.getD_cons_zero, List.getD_cons_succ, Option.getD, List.contains_nil, List.contains_cons, Bool.not_true, Bool.not_false, Bool.and_true, Bool.true_and, Bool.and_self, if_true, if_false, true_and, and_true, ite_true, ite_false, reduceIte, Bool.false_eq_true, Bool.true_eq_false, decide_true, decide_false, decide_eq_true_eq, eq_self, Nat.reduceAdd, Nat.reduceLT, Nat.reduceSub, Int.reduceLT, Int.reduceLE, Int.reduceToNat, Int.reduceAbs, Int.reducePow, Int.natAbs_natCast, Nat.reducePow, Nat.reduceLeDiff, Nat.reduceMul, Nat.reduceBEq, Bool.or_true, Bool.or_false, Bool.true_or, Bool.false_or, Int.reduceNeg, $a,*])
  | `(tactic| dsimp! only [$a,*] $l:location) => `(tactic| simp only [w_nil, w_cons, w_set, w_unp, w_par, w_aug, w_sts, w_dst, w_st2, os_stD, os_stL, two2_t, w_rdv, w_dnew, w_tmt, w_fnv, w_cal, w_dsp, w_dgt, w_app, w_ext, w_ins, w_ixl, w_exp, w_ret, w_retn, w_ife, w_non, w_bl, w_int, w_str, w_var, w_glb, w_tup, w_lst, w_op, w_chn, w_not, w_ifx, w_bop, w_b1, w_b2, w_call, w_do, w_pop, w_fs0, w_fs, w_os0, w_os, w_ts0, w_ts1, ok_ok, ok_bad, ok_bind, os_some, os_none, os_bind, os_map, os_ifn, bl_bl, fn_nx, fn_rt, rt_nx, rt_rt, o_bin, b_add, b_sub, b_and, b_or, b_xor, b_mod, b_fdiv, b_mul, b_pow, b_shl, b_shr, b_cat, b_catT, b_rep, a_add, a_sub, a_and, a_or, a_xor, a_shr, a_shl, a_fdiv, o_neg, o_inv, o_cmp, c_eq, c_ne, c_lt, c_le, c_gt, c_ge, c_isn, c_notn, c_inl, c_ninl, c_int, c_nint, c_ind, c_nind, kB_int, kB_str, o_subD, o_sub, o_subT, at0, at1, at2, at3, at4, ix0, ix1, ix2, ix3, o_len, o_lenT, o_abs, o_min2, o_max2, o_int, o_intb, o_tup, o_tupt, o_lst, o_lstt, o_rev, o_lrevl, o_lrevt, o_isi, o_isi2, i_int, i_bl, i_lst, i_tup, i_str, i_non, o_slu, o_slsu, o_sll, o_sla, o_slut, o_sllt, o_all, o_any, o_sum, o_srt, o_srtT, o_stp, o_lrng1, o_lrng2, n_seqL, n_seqT, n_enumL, n_enumT, n_rev, n_revT, n_zipL, n_zipT, n_rng1, n_rng2, n_revr, ownVar, ownS, getS, lstB, os_setS, stO_some, stO_none, stB_un, stB_sh, stB_ow, putS, odTs, odT, odAs, odA, refs, nodupB, backs, back1, retE, outS, wipeS, giveS, plainS, tgtF, asgs, mkSeq, T.isNon, okFor, setsS, setsL, List.getElem?_cons_zero, List.getElem?_cons_succ, List.getElem?_nil, List.set_cons_zero, List.set_cons_succ, List.length_cons, List.length_nil, List.length_map, List.cons_append, List.nil_append, List.append_nil, List.replicate, List.getD_cons_zero, List.getD_cons_succ, Option.getD, List.contains_nil, List.contains_cons, Bool.not_true, Bool.not_false, Bool.and_true, Bool.true_and, Bool.and_self, if_true, if_false, true_and, and_true, ite_true, ite_false, reduceIte, Bool.false_eq_true, Bool.true_eq_false, decide_true, decide_false, decide_eq_true_eq, eq_self, Nat.reduceAdd, Nat.reduceLT, Nat.reduceSub, Int.reduceLT, Int.reduceLE, Int.reduceToNat, Int.reduceAbs, Int.reducePow, Int.natAbs_natCast, Nat.reducePow, Nat.reduceLeDiff, Nat.reduceMul, Nat.reduceBEq, Bool.or_true, Bool.or_false, Bool.true_or, Bool.false_or, Int.reduceNeg, $a,*] $l)
local macro_rules
  | `(tactic| simp! only [$a,*]) => `(tactic| simp only [w_nil, w_cons, w_set, w_unp, w_par, w_aug, w_sts, w_dst, w_st2, os_stD, os_stL, two2_t, w_rdv, w_dnew, w_tmt, w_fnv, w_cal, w_dsp, w_dgt, w_app, w_ext, w_ins, w_ixl, w_exp, w_ret, w_retn, w_ife, w_non, w_bl, w_int, w_str, w_var, w_glb, w_tup, w_lst, w_op, w_chn, w_not, w_ifx, w_bop, w_b1, w_b2, w_call, w_do, w_pop, w_fs0, w_fs, w_os0, w_os, w_ts0, w_ts1, ok_ok, ok_bad, ok_bind, os_some, os_none, os_bind, os_map, os_ifn, bl_bl, fn_nx, fn_rt, rt_nx, rt_rt, o_bin, b_add, b_sub, b_and, b_or, b_xor, b_mod, b_fdiv, b_mul, b_pow, b_shl, b_shr, b_cat, b_catT, b_rep, a_add, a_sub, a_and, a_or, a_xor, a_shr, a_shl, a_fdiv, o_neg, o_inv, o_cmp, c_eq, c_ne, c_lt, c_le, c_gt, c_ge, c_isn, c_notn, c_inl, c_ninl, c_int, c_nint, c_ind, c_nind, kB_int, kB_str, o_subD, o_sub, o_subT, at0, at1, at2, at3, at4, ix0, ix1, ix2, ix3, o_len, o_lenT, o_abs, o_min2, o_max2, o_int, o_intb, o_tup, o_tupt, o_lst, o_lstt, o_rev, o_lrevl, o_lrevt, o_isi, o_isi2, i_int, i_bl, i_lst, i_tup, i_str, i_non, o_slu, o_slsu, o_sll, o_sla, o_slut, o_sllt, o_all, o_any, o_sum, o_srt, o_srtT, o_stp, o_lrng1, o_lrng2, n_seqL, n_seqT, n_enumL, n_enumT, n_rev, n_revT, n_zipL, n_zipT, n_rng1, n_rng2, n_revr, ownVar, ownS, getS, lstB, os_setS, stO_some, stO_none, stB_un, stB_sh, stB_ow, putS, odTs, odT, odAs, odA, refs, nodupB, backs, back1, retE, outS, wipeS, giveS, plainS, tgtF, asgs, mkSeq, T.isNon, okFor, setsS, setsL, List.getElem?_cons_zero, List.getElem?_cons_succ, List.getElem?_nil, List.set_cons_zero, List.set_cons_succ, List.length_cons, List.length_nil, List.length_map, List.cons_append, List.nil_append, List.append_nil, List.replicate, List.getD_cons_zero, List.getD_cons_succ, Option.getD, List.contains_nil, List.contains_cons, Bool.not_true, Bool.not_false, Bool.and_true, Bool.true_and, Bool.and_self, if_true, if_false, true_and, and_true, ite_true, ite_false, reduceIte, Bool.false_eq_true, Bool.true_eq_false, decide_true, decide_false, decide_eq_true_eq, eq_self, Nat.reduceAdd, Nat.reduceLT, Nat.reduceSub, Int.reduceLT, Int.reduceLE, Int.reduceToNat, Int.reduceAbs, Int.reducePow, Int.natAbs_natCast, Nat.reducePow, Nat.reduceLeDiff, Nat.reduceMul, Nat.reduceBEq, Bool.or_true, Bool.or_false, Bool.true_or, Bool.false_or, Int.reduceNeg, sq_and_and, sq_and_or, sq_and_gather, sq_and_strew, sq_and_left, sq_and_right, sq_and_turn, sq_and_swap, sq_and_copy, si_and_M, si_and_B, si_and_S, si_and_L, sn_and, sq_or_and, sq_or_or, sq_or_gather, sq_or_strew, sq_or_left, sq_or_right, sq_or_turn, sq_or_swap, sq_or_copy, si_or_M, si_or_B, si_or_S, si_or_L, sn_or, sq_gather_and, sq_gather_or, sq_gather_gather, sq_gather_strew, sq_gather_left, sq_gather_right, sq_gather_turn, sq_gather_swap, sq_gather_copy, si_gather_M, si_gather_B, si_gather_S, si_gather_L, sn_gather, sq_strew_and, sq_strew_or, sq_strew_gather, sq_strew_strew, sq_strew_left, sq_strew_right, sq_strew_turn, sq_strew_swap, sq_strew_copy, si_strew_M, si_strew_B, si_strew_S, si_strew_L, sn_strew, sq_left_and, sq_left_or, sq_left_gather, sq_left_strew, sq_left_left, sq_left_right, sq_left_turn, sq_left_swap, sq_left_copy, si_left_M, si_left_B, si_left_S, si_left_L, sn_left, sq_right_and, sq_right_or, sq_right_gather, sq_right_strew, sq_right_left, sq_right_right, sq_right_turn, sq_right_swap, sq_right_copy, si_right_M, si_right_B, si_right_S, si_right_L, sn_right, sq_turn_and, sq_turn_or, sq_turn_gather, sq_turn_strew, sq_turn_left, sq_turn_right, sq_turn_turn, sq_turn_swap, sq_turn_copy, si_turn_M, si_turn_B, si_turn_S, si_turn_L, sn_turn, sq_swap_and, sq_swap_or, sq_swap_gather, sq_swap_strew, sq_swap_left, sq_swap_right, sq_swap_turn, sq_swap_swap, sq_swap_copy, si_swap_M, si_swap_B, si_swap_S, si_swap_L, sn_swap, sq_copy_and, sq_copy_or, sq_copy_gather, sq_copy_strew, sq_copy_left, sq_copy_right, sq_copy_turn, sq_copy_swap, sq_copy_copy, si_copy_M, si_copy_B, si_copy_S, si_copy_L, sn_copy, $a,*])
  | `(tactic| simp! only [$a,*] $l:location) => `(tactic| simp only [w_nil, w_cons, w_set, w_unp, w_par, w_aug, w_sts, w_dst, w_st2, os_stD, os_stL, two2_t, w_rdv, w_dnew, w_tmt, w_fnv, w_cal, w_dsp, w_dgt, w_app, w_ext, w_ins, w_ixl, w_exp, w_ret, w_retn, w_ife, w_non, w_bl, w_int, w_str, w_var, w_glb, w_tup, w_lst, w_op, w_chn, w_not, w_ifx, w_bop, w_b1, w_b2, w_call, w_do, w_pop, w_fs0, w_fs, w_os0, w_os, w_ts0, w_ts1, ok_ok, ok_bad, ok_bind, os_some, os_none, os_bind, os_map, os_ifn, bl_bl, fn_nx, fn_rt, rt_nx, rt_rt, o_bin, b_add, b_sub, b_and, b_or, b_xor, b_mod, b_fdiv, b_mul, b_pow, b_shl, b_shr, b_cat, b_catT, b_rep, a_add, a_sub, a_and, a_or, a_xor, a_shr, a_shl, a_fdiv, o_neg, o_inv, o_cmp, c_eq, c_ne, c_lt, c_le, c_gt, c_ge, c_isn, c_notn, c_inl, c_ninl, c_int, c_nint, c_ind, c_nind, kB_int, kB_str, o_subD, o_sub, o_subT, at0, at1, at2, at3, at4, ix0, ix1, ix2, ix3, o_len, o_lenT, o_abs, o_min2, o_max2, o_int, o_intb, o_tup, o_tupt, o_lst, o_lstt, o_rev, o_lrevl, o_lrevt, o_isi, o_isi2, i_int, i_bl, i_lst, i_tup, i_str, i_non, o_slu, o_slsu, o_sll, o_sla, o_slut, o_sllt, o_all, o_any, o_sum, o_srt, o_srtT, o_stp, o_lrng1, o_lrng2, n_seqL, n_seqT, n_enumL, n_enumT, n_rev, n_revT, n_zipL, n_zipT, n_rng1, n_rng2, n_revr, ownVar, ownS, getS, lstB, os_setS, stO_some, stO_none, stB_un, stB_sh, stB_ow, putS, odTs, odT, odAs, odA, refs, nodupB, backs, back1, retE, outS, wipeS, giveS, plainS, tgtF, asgs, mkSeq, T.isNon, okFor, setsS, setsL, List.getElem?_cons_zero, List.getElem?_cons_succ, List.getElem?_nil, List.set_cons_zero, List.set_cons_succ, List.length_cons, List.length_nil, List.length_map, List.cons_append, List.nil_append, List.append_nil, List.replicate, List.getD_cons_zero, List.getD_cons_succ, Option.getD, List.contains_nil, List.contains_cons, Bool.not_true, Bool.not_false, Bool.and_true, Bool.true_and, Bool.and_self, if_true, if_false, true_and, and_true, ite_true, ite_false, reduceIte, Bool.false_eq_true, Bool.true_eq_false, decide_true, decide_false, decide_eq_true_eq, eq_self, Nat.reduceAdd, Nat.reduceLT, Nat.reduceSub, Int.reduceLT, Int.reduceLE, Int.reduceToNat, Int.reduceAbs, Int.reducePow, Int.natAbs_natCast, Nat.reducePow, Nat.reduceLeDiff, Nat.reduceMul, Nat.reduceBEq, Bool.or_true, Bool.or_false, Bool.true_or, Bool.false_or, Int.reduceNeg, sq_and_and, sq_and_or, sq_and_gather, sq_and_strew, sq_and_left, sq_and_right, sq_and_turn, sq_and_swap, sq_and_copy, si_and_M, si_and_B, si_and_S, si_and_L, sn_and, sq_or_and, sq_or_or, sq_or_gather, sq_or_strew, sq_or_left, sq_or_right, sq_or_turn, sq_or_swap, sq_or_copy, si_or_M, si_or_B, si_or_S, si_or_L, sn_or, sq_gather_and, sq_gather_or, sq_gather_gather, sq_gather_strew, sq_gather_left, sq_gather_right, sq_gather_turn, sq_gather_swap, sq_gather_copy, si_gather_M, si_gather_B, si_gather_S, si_gather_L, sn_gather, sq_strew_and, sq_strew_or, sq_strew_gather, sq_strew_strew, sq_strew_left, sq_strew_right, sq_strew_turn, sq_strew_swap, sq_strew_copy, si_strew_M, si_strew_B, si_strew_S, si_strew_L, sn_strew, sq_left_and, sq_left_or, sq_left_gather, sq_left_strew, sq_left_left, sq_left_right, sq_left_turn, sq_left_swap, sq_left_copy, si_left_M, si_left_B, si_left_S, si_left_L, sn_left, sq_right_and, sq_right_or, sq_right_gather, sq_right_strew, sq_right_left, sq_right_right, sq_right_turn, sq_right_swap, sq_right_copy, si_right_M, si_right_B, si_right_S, si_right_L, sn_right, sq_turn_and, sq_turn_or, sq_turn_gather, sq_turn_strew, sq_turn_left, sq_turn_right, sq_turn_turn, sq_turn_swap, sq_turn_copy, si_turn_M, si_turn_B, si_turn_S, si_turn_L, sn_turn, sq_swap_and, sq_swap_or, sq_swap_gather, sq_swap_strew, sq_swap_left, sq_swap_right, sq_swap_turn, sq_swap_swap, sq_swap_copy, si_swap_M, si_swap_B, si_swap_S, si_swap_L, sn_swap, sq_copy_and, sq_copy_or, sq_copy_gather, sq_copy_strew, sq_copy_left, sq_copy_right, sq_copy_turn, sq_copy_swap, sq_copy_copy, si_copy_M, si_copy_B, si_copy_S, si_copy_L, sn_copy, $a,*] $l)
section
variable {P : List FD} {glb : Nat → Option T} {wf d f cd cs cD : Nat} {dn : Str} {h : T} {n0 n1 n2 n3 n4 n5 n6 n7 : Str} {E : LE}
theorem c_eqLZ (a b : List Int) : cmpF .Eq (.lst (tZ a)) (.lst (tZ b)) = some (decide (a = b)) := by
  have h : (if ((T.lst (tZ a)).ok && (T.lst (tZ b)).ok) = true then some (!T.beq (.lst (tZ a)) (.lst (tZ b))) else none) = some (!decide (a = b)) := c_neLZ a b
  show (if ((T.lst (tZ a)).ok && (T.lst (tZ b)).ok) = true then some (T.beq (.lst (tZ a)) (.lst (tZ b))) else none) = some (decide (a = b))
  split at h
  · rename_i c
    rw [if_pos c]
    have h2 := Option.some.inj h
    have h3 : T.beq (.lst (tZ a)) (.lst (tZ b)) = decide (a = b) := by
      have := congrArg (fun b => !b) h2
      simpa using this
    rw [h3]
  · cases h
end
end MP
namespace MP
open PySem
theorem snb_and : cmpF .NotIn (.str [97, 110, 100]) (.tup [(.str [108, 101, 102, 116]), (.str [114, 105, 103, 104, 116]), (.str [116, 117, 114, 110])]) = some true := rfl
theorem snb_or : cmpF .NotIn (.str [111, 114]) (.tup [(.str [108, 101, 102, 116]), (.str [114, 105, 103, 104, 116]), (.str [116, 117, 114, 110])]) = some true := rfl
theorem snb_gather : cmpF .NotIn (.str [103, 97, 116, 104, 101, 114]) (.tup [(.str [108, 101, 102, 116]), (.str [114, 105, 103, 104, 116]), (.str [116, 117, 114, 110])]) = some true := rfl
theorem snb_strew : cmpF .NotIn (.str [115, 116, 114, 101, 119]) (.tup [(.str [108, 101, 102, 116]), (.str [114, 105, 103, 104, 116]), (.str [116, 117, 114, 110])]) = some true := rfl
theorem snb_left : cmpF .NotIn (.str [108, 101, 102, 116]) (.tup [(.str [108, 101, 102, 116]), (.str [114, 105, 103, 104, 116]), (.str [116, 117, 114, 110])]) = some false := rfl
theorem snb_right : cmpF .NotIn (.str [114, 105, 103, 104, 116]) (.tup [(.str [108, 101, 102, 116]), (.str [114, 105, 103, 104, 116]), (.str [116, 117, 114, 110])]) = some false := rfl
theorem snb_turn : cmpF .NotIn (.str [116, 117, 114, 110]) (.tup [(.str [108, 101, 102, 116]), (.str [114, 105, 103, 104, 116]), (.str [116, 117, 114, 110])]) = some false := rfl
theorem snb_swap : cmpF .NotIn (.str [115, 119, 97, 112]) (.tup [(.str [108, 101, 102, 116]), (.str [114, 105, 103, 104, 116]), (.str [116, 117, 114, 110])]) = some true := rfl
theorem snb_copy : cmpF .NotIn (.str [99, 111, 112, 121]) (.tup [(.str [108, 101, 102, 116]), (.str [114, 105, 103, 104, 116]), (.str [116, 117, 114, 110])]) = some true := rfl
local macro_rules
  | `(tactic| dsimp! only [$a,*]) => `(tactic| simp only [w_nil, w_cons, w_set, w_unp, w_par, w_aug, w_sts, w_dst, w_st2, os_stD, os_stL, two2_t, w_rdv, w_dnew, w_tmt, w_fnv, w_cal, w_dsp, w_dgt, w_app, w_ext, w_ins, w_ixl, w_exp, w_ret, w_retn, w_ife, w_non, w_bl, w_int, w_str, w_var, w_glb, w_tup, w_lst, w_op, w_chn, w_not, w_ifx, w_bop, w_b1, w_b2, w_call, w_do, w_pop, w_fs0, w_fs, w_os0, w_os, w_ts0, w_ts1, ok_ok, ok_bad, ok_bind, os_some, os_none, os_bind, os_map, os_ifn, bl_bl, fn_nx, fn_rt, rt_nx, rt_rt, o_bin, b_add, b_sub, b_and, b_or, b_xor, b_mod, b_fdiv, b_mul, b_pow, b_shl, b_shr, b_cat, b_catT, b_rep, a_add, a_sub, a_and, a_or, a_xor, a_shr, a_shl, a_fdiv, o_neg, o_inv, o_cmp, c_eq, c_ne, c_lt, c_le, c_gt, c_ge, c_isn, c_notn, c_inl, c_ninl, c_int, c_nint, c_ind, c_nind, kB_int, kB_str, o_subD, o_sub, o_subT, at0, at1, at2, at3, at4, ix0, ix1, ix2, ix3, o_len, o_lenT, o_abs, o_min2, o_max2, o_int, o_intb, o_tup, o_tupt, o_lst, o_lstt, o_rev, o_lrevl, o_lrevt, o_isi, o_isi2, i_int, i_bl, i_lst, i_tup, i_str, i_non, o_slu, o_slsu, o_sll, o_sla, o_slut, o_sllt, o_all, o_any, o_sum, o_srt, o_srtT, o_stp, o_lrng1, o_lrng2, n_seqL, n_seqT, n_enumL, n_enumT, n_rev, n_revT, n_zipL, n_zipT, n_rng1, n_rng2, n_revr, ownVar, ownS, getS, lstB, os_setS, stO_some, stO_none, stB_un, stB_sh, stB_ow, putS, odTs, odT, odAs, odA, refs, nodupB, backs, back1, retE, outS, wipeS, giveS, plainS, tgtF, asgs, mkSeq, T.isNon, okFor, setsS, setsL, List.getElem?_cons_zero, List.getElem?_cons_succ, List.getElem?_nil, List.set_cons_zero, List.set_cons_succ, List.length_cons, List.length_nil, List.length_map, List.cons_append, List.nil_append, List.append_nil, List.replicate, List.getD_cons_zero, List.getD_cons_succ, Option.getD, List.contains_nil, List.contains_cons, Bool.not_true, Bool.not_false, Bool.and_true, Bool.true_and, Bool.and_self, if_true, if_false, true_and, and_true, ite_true, ite_false, reduceIte, Bool.false_eq_true, Bool.true_eq_false, decide_true, decide_false, decide_eq_true_eq, eq_self, Nat.reduceAdd, Nat.reduceLT, Nat.reduceSub, Int.reduceLT, Int.reduceLE, Int.reduceToNat, Int.reduceAbs, Int.reducePow, Int.natAbs_natCast, Nat.reducePow, Nat.reduceLeDiff, Nat.reduceMul, Nat.reduceBEq, Bool.or_true, Bool.or_false, Bool.true_or, Bool.false_or, Int.reduceNeg, $a,*])
  | `(tactic| dsimp! only [$a,*] $l:location) => `(tactic| simp only [w_nil, w_cons, w_set, w_unp, w_par, w_aug, w_sts, w_dst, w_st2, os_stD, os_stL, two2_t, w_rdv, w_dnew, w_tmt, w_fnv, w_cal, w_dsp, w_dgt, w_app, w_ext, w_ins, w_ixl, w_exp, w_ret, w_retn, w_ife, w_non, w_bl, w_int, w_str, w_var, w_glb, w_tup, w_lst, w_op, w_chn, w_not, w_ifx, w_bop, w_b1, w_b2, w_call, w_do, w_pop, w_fs0, w_fs, w_os0, w_os, w_ts0, w_ts1, ok_ok, ok_bad, ok_bind, os_some, os_none, os_bind, os_map, os_ifn, bl_bl, fn_nx, fn_rt, rt_nx, rt_rt, o_bin, b_add, b_sub, b_and, b_or, b_xor, b_mod, b_fdiv, b_mul, b_pow, b_shl, b_shr, b_cat, b_catT, b_rep, a_add, a_sub, a_and, a_or, a_xor, a_shr, a_shl, a_fdiv, o_neg, o_inv, o_cmp, c_eq, c_ne, c_lt, c_le, c_gt, c_ge, c_isn, c_notn, c_inl, c_ninl, c_int, c_nint, c_ind, c_nind, kB_int, kB_str, o_subD, o_sub, o_subT, at0, at1, at2, at3, at4, ix0, ix1, ix2, ix3, o_len, o_lenT, o_abs, o_min2, o_max2, o_int, o_intb, o_tup, o_tupt, o_lst, o_lstt, o_rev, o_lrevl, o_lrevt, o_isi, o_isi2, i_int, i_bl, i_lst, i_tup, i_str, i_non, o_slu, o_slsu, o_sll, o_sla, o_slut, o_sllt, o_all, o_any, o_sum, o_srt, o_srtT, o_stp, o_lrng1, o_lrng2, n_seqL, n_seqT, n_enumL, n_enumT, n_rev, n_revT, n_zipL, n_zipT, n_rng1, n_rng2, n_revr, ownVar, ownS, getS, lstB, os_setS, stO_some, stO_none, stB_un, stB_sh, stB_ow, putS, odTs, odT, odAs, odA, refs, nodupB, backs, back1, retE, outS, wipeS, giveS, plainS, tgtF, asgs, mkSeq, T.isNon, okFor, setsS, setsL, List.getElem?_cons_zero, List.getElem?_cons_succ, List.getElem?_nil, List.set_cons_zero, List.set_cons_succ, List.length_cons, List.length_nil, List.length_map, List.cons_append, List.nil_append, List.append_nil, List.replicate, List.getD_cons_zero, List.getD_cons_succ, Option.getD, List.contains_nil, List.contains_cons, Bool.not_true, Bool.not_false, Bool.and_true, Bool.true_and, Bool.and_self, if_true, if_false, true_and, and_true, ite_true, ite_false, reduceIte, Bool.false_eq_true, Bool.true_eq_false, decide_true, decide_false, decide_eq_true_eq, eq_self, Nat.reduceAdd, Nat.reduceLT, Nat.reduceSub, Int.reduceLT, Int.reduceLE, Int.reduceToNat, Int.reduceAbs, Int.reducePow, Int.natAbs_natCast, Nat.reducePow, Nat.reduceLeDiff, Nat.reduceMul, Nat.reduceBEq, Bool.or_true, Bool.or_false, Bool.true_or, Bool.false_or, Int.reduceNeg, $a,*] $l)
local macro_rules
  | `(tactic| simp! only [$a,*]) => `(tactic| simp only [w_nil, w_cons, w_set, w_unp, w_par, w_aug, w_sts, w_dst, w_st2, os_stD, os_stL, two2_t, w_rdv, w_dnew, w_tmt, w_fnv, w_cal, w_dsp, w_dgt, w_app, w_ext, w_ins, w_ixl, w_exp, w_ret, w_retn, w_ife, w_non, w_bl, w_int, w_str, w_var, w_glb, w_tup, w_lst, w_op, w_chn, w_not, w_ifx, w_bop, w_b1, w_b2, w_call, w_do, w_pop, w_fs0, w_fs, w_os0, w_os, w_ts0, w_ts1, ok_ok, ok_bad, ok_bind, os_some, os_none, os_bind, os_map, os_ifn, bl_bl, fn_nx, fn_rt, rt_nx, rt_rt, o_bin, b_add, b_sub, b_and, b_or, b_xor, b_mod, b_fdiv, b_mul, b_pow, b_shl, b_shr, b_cat, b_catT, b_rep, a_add, a_sub, a_and, a_or, a_xor, a_shr, a_shl, a_fdiv, o_neg, o_inv, o_cmp, c_eq, c_ne, c_lt, c_le, c_gt, c_ge, c_isn, c_notn, c_inl, c_ninl, c_int, c_nint, c_ind, c_nind, kB_int, kB_str, o_subD, o_sub, o_subT, at0, at1, at2, at3, at4, ix0, ix1, ix2, ix3, o_len, o_lenT, o_abs, o_min2, o_max2, o_int, o_intb, o_tup, o_tupt, o_lst, o_lstt, o_rev, o_lrevl, o_lrevt, o_isi, o_isi2, i_int, i_bl, i_lst, i_tup, i_str, i_non, o_slu, o_slsu, o_sll, o_sla, o_slut, o_sllt, o_all, o_any, o_sum, o_srt, o_srtT, o_stp, o_lrng1, o_lrng2, n_seqL, n_seqT, n_enumL, n_enumT, n_rev, n_revT, n_zipL, n_zipT, n_rng1, n_rng2, n_revr, ownVar, ownS, getS, lstB, os_setS, stO_some, stO_none, stB_un, stB_sh, stB_ow, putS, odTs, odT, odAs, odA, refs, nodupB, backs, back1, retE, outS, wipeS, giveS, plainS, tgtF, asgs, mkSeq, T.isNon, okFor, setsS, setsL, List.getElem?_cons_zero, List.getElem?_cons_succ, List.getElem?_nil, List.set_cons_zero, List.set_cons_succ, List.length_cons, List.length_nil, List.length_map, List.cons_append, List.nil_append, List.append_nil, List.replicate, List.getD_cons_zero, List.getD_cons_succ, Option.getD, List.contains_nil, List.contains_cons, Bool.not_true, Bool.not_false, Bool.and_true, Bool.true_and, Bool.and_self, if_true, if_false, true_and, and_true, ite_true, ite_false, reduceIte, Bool.false_eq_true, Bool.true_eq_false, decide_true, decide_false, decide_eq_true_eq, eq_self, Nat.reduceAdd, Nat.reduceLT, Nat.reduceSub, Int.reduceLT, Int.reduceLE, Int.reduceToNat, Int.reduceAbs, Int.reducePow, Int.natAbs_natCast, Nat.reducePow, Nat.reduceLeDiff, Nat.reduceMul, Nat.reduceBEq, Bool.or_true, Bool.or_false, Bool.true_or, Bool.false_or, Int.reduceNeg, sq_and_and, sq_and_or, sq_and_gather, sq_and_strew, sq_and_left, sq_and_right, sq_and_turn, sq_and_swap, sq_and_copy, si_and_M, si_and_B, si_and_S, si_and_L, sn_and, sq_or_and, sq_or_or, sq_or_gather, sq_or_strew, sq_or_left, sq_or_right, sq_or_turn, sq_or_swap, sq_or_copy, si_or_M, si_or_B, si_or_S, si_or_L, sn_or, sq_gather_and, sq_gather_or, sq_gather_gather, sq_gather_strew, sq_gather_left, sq_gather_right, sq_gather_turn, sq_gather_swap, sq_gather_copy, si_gather_M, si_gather_B, si_gather_S, si_gather_L, sn_gather, sq_strew_and, sq_strew_or, sq_strew_gather, sq_strew_strew, sq_strew_left, sq_strew_right, sq_strew_turn, sq_strew_swap, sq_strew_copy, si_strew_M, si_strew_B, si_strew_S, si_strew_L, sn_strew, sq_left_and, sq_left_or, sq_left_gather, sq_left_strew, sq_left_left, sq_left_right, sq_left_turn, sq_left_swap, sq_left_copy, si_left_M, si_left_B, si_left_S, si_left_L, sn_left, sq_right_and, sq_right_or, sq_right_gather, sq_right_strew, sq_right_left, sq_right_right, sq_right_turn, sq_right_swap, sq_right_copy, si_right_M, si_right_B, si_right_S, si_right_L, sn_right, sq_turn_and, sq_turn_or, sq_turn_gather, sq_turn_strew, sq_turn_left, sq_turn_right, sq_turn_turn, sq_turn_swap, sq_turn_copy, si_turn_M, si_turn_B, si_turn_S, si_turn_L, sn_turn, sq_swap_and, sq_swap_or, sq_swap_gather, sq_swap_strew, sq_swap_left, sq_swap_right, sq_swap_turn, sq_swap_swap, sq_swap_copy, si_swap_M, si_swap_B, si_swap_S, si_swap_L, sn_swap, sq_copy_and, sq_copy_or, sq_copy_gather, sq_copy_strew, sq_copy_left, sq_copy_right, sq_copy_turn, sq_copy_swap, sq_copy_copy, si_copy_M, si_copy_B, si_copy_S, si_copy_L, sn_copy, snb_and, snb_or, snb_gather, snb_strew, snb_left, snb_right, snb_turn, snb_swap, snb_copy, $a,*])
  | `(tactic| simp! only [$a,*] $l:location) => `(tactic| simp only [w_nil, w_cons, w_set, w_unp, w_par, w_aug, w_sts, w_dst, w_st2, os_stD, os_stL, two2_t, w_rdv, w_dnew, w_tmt, w_fnv, w_cal, w_dsp, w_dgt, w_app, w_ext, w_ins, w_ixl, w_exp, w_ret, w_retn, w_ife, w_non, w_bl, w_int, w_str, w_var, w_glb, w_tup, w_lst, w_op, w_chn, w_not, w_ifx, w_bop, w_b1, w_b2, w_call, w_do, w_pop, w_fs0, w_fs, w_os0, w_os, w_ts0, w_ts1, ok_ok, ok_bad, ok_bind, os_some, os_none, os_bind, os_map, os_ifn, bl_bl, fn_nx, fn_rt, rt_nx, rt_rt, o_bin, b_add, b_sub, b_and, b_or, b_xor, b_mod, b_fdiv, b_mul, b_pow, b_shl, b_shr, b_cat, b_catT, b_rep, a_add, a_sub, a_and, a_or, a_xor, a_shr, a_shl, a_fdiv, o_neg, o_inv, o_cmp, c_eq, c_ne, c_lt, c_le, c_gt, c_ge, c_isn, c_notn, c_inl, c_ninl, c_int, c_nint, c_ind, c_nind, kB_int, kB_str, o_subD, o_sub, o_subT, at0, at1, at2, at3, at4, ix0, ix1, ix2, ix3, o_len, o_lenT, o_abs, o_min2, o_max2, o_int, o_intb, o_tup, o_tupt, o_lst, o_lstt, o_rev, o_lrevl, o_lrevt, o_isi, o_isi2, i_int, i_bl, i_lst, i_tup, i_str, i_non, o_slu, o_slsu, o_sll, o_sla, o_slut, o_sllt, o_all, o_any, o_sum, o_srt, o_srtT, o_stp, o_lrng1, o_lrng2, n_seqL, n_seqT, n_enumL, n_enumT, n_rev, n_revT, n_zipL, n_zipT, n_rng1, n_rng2, n_revr, ownVar, ownS, getS, lstB, os_setS, stO_some, stO_none, stB_un, stB_sh, stB_ow, putS, odTs, odT, odAs, odA, refs, nodupB, backs, back1, retE, outS, wipeS, giveS, plainS, tgtF, asgs, mkSeq, T.isNon, okFor, setsS, setsL, List.getElem?_cons_zero, List.getElem?_cons_succ, List.getElem?_nil, List.set_cons_zero, List.set_cons_succ, List.length_cons, List.length_nil, List.length_map, List.cons_append, List.nil_append, List.append_nil, List.replicate, List.getD_cons_zero, List.getD_cons_succ, Option.getD, List.contains_nil, List.contains_cons, Bool.not_true, Bool.not_false, Bool.and_true, Bool.true_and, Bool.and_self, if_true, if_false, true_and, and_true, ite_true, ite_false, reduceIte, Bool.false_eq_true, Bool.true_eq_false, decide_true, decide_false, decide_eq_true_eq, eq_self, Nat.reduceAdd, Nat.reduceLT, Nat.reduceSub, Int.reduceLT, Int.reduceLE, Int.reduceToNat, Int.reduceAbs, Int.reducePow, Int.natAbs_natCast, Nat.reducePow, Nat.reduceLeDiff, Nat.reduceMul, Nat.reduceBEq, Bool.or_true, Bool.or_false, Bool.true_or, Bool.false_or, Int.reduceNeg, sq_and_and, sq_and_or, sq_and_gather, sq_and_strew, sq_and_left, sq_and_right, sq_and_turn, sq_and_swap, sq_and_copy, si_and_M, si_and_B, si_and_S, si_and_L, sn_and, sq_or_and, sq_or_or, sq_or_gather, sq_or_strew, sq_or_left, sq_or_right, sq_or_turn, sq_or_swap, sq_or_copy, si_or_M, si_or_B, si_or_S, si_or_L, sn_or, sq_gather_and, sq_gather_or, sq_gather_gather, sq_gather_strew, sq_gather_left, sq_gather_right, sq_gather_turn, sq_gather_swap, sq_gather_copy, si_gather_M, si_gather_B, si_gather_S, si_gather_L, sn_gather, sq_strew_and, sq_strew_or, sq_strew_gather, sq_strew_strew, sq_strew_left, sq_strew_right, sq_strew_turn, sq_strew_swap, sq_strew_copy, si_strew_M, si_strew_B, si_strew_S, si_strew_L, sn_strew, sq_left_and, sq_left_or, sq_left_gather, sq_left_strew, sq_left_left, sq_left_right, sq_left_turn, sq_left_swap, sq_left_copy, si_left_M, si_left_B, si_left_S, si_left_L, sn_left, sq_right_and, sq_right_or, sq_right_gather, sq_right_strew, sq_right_left, sq_right_right, sq_right_turn, sq_right_swap, sq_right_copy, si_right_M, si_right_B, si_right_S, si_right_L, sn_right, sq_turn_and, sq_turn_or, sq_turn_gather, sq_turn_strew, sq_turn_left, sq_turn_right, sq_turn_turn, sq_turn_swap, sq_turn_copy, si_turn_M, si_turn_B, si_turn_S, si_turn_L, sn_turn, sq_swap_and, sq_swap_or, sq_swap_gather, sq_swap_strew, sq_swap_left, sq_swap_right, sq_swap_turn, sq_swap_swap, sq_swap_copy, si_swap_M, si_swap_B, si_swap_S, si_swap_L, sn_swap, sq_copy_and, sq_copy_or, sq_copy_gather, sq_copy_strew, sq_copy_left, sq_copy_right, sq_copy_turn, sq_copy_swap, sq_copy_copy, si_copy_M, si_copy_B, si_copy_S, si_copy_L, sn_copy, snb_and, snb_or, snb_gather, snb_strew, snb_left, snb_right, snb_turn, snb_swap, snb_copy, $a,*] $l)
end MP
namespace MP
open PySem
local macro_rules
  | `(tactic| dsimp! only [$a,*]) => `(tactic| simp only [w_nil, w_cons, w_set, w_unp, w_par, w_aug, w_sts, w_dst, w_st2, os_stD, os_stL, two2_t, w_rdv, w_dnew, w_tmt, w_fnv, w_cal, w_dsp, w_dgt, w_app, w_ext, w_ins, w_ixl, w_exp, w_ret, w_retn, w_ife, w_non, w_bl, w_int, w_str, w_var, w_glb, w_tup, w_lst, w_op, w_chn, w_not, w_ifx, w_bop, w_b1, w_b2, w_call, w_do, w_pop, w_fs0, w_fs, w_os0, w_os, w_ts0, w_ts1, ok_ok, ok_bad, ok_bind, os_some, os_none, os_bind, os_map, os_ifn, bl_bl, fn_nx, fn_rt, rt_nx, rt_rt, o_bin, b_add, b_sub, b_and, b_or, b_xor, b_mod, b_fdiv, b_mul, b_pow, b_shl, b_shr, b_cat, b_catT, b_rep, a_add, a_sub, a_and, a_or, a_xor, a_shr, a_shl, a_fdiv, o_neg, o_inv, o_cmp, c_eq, c_ne, c_lt, c_le, c_gt, c_ge, c_isn, c_notn, c_inl, c_ninl, c_int, c_nint, c_ind, c_nind, kB_int, kB_str, o_subD, o_sub, o_subT, at0, at1, at2, at3, at4, ix0, ix1, ix2, ix3, o_len, o_lenT, o_abs, o_min2, o_max2, o_int, o_intb, o_tup, o_tupt, o_lst, o_lstt, o_rev, o_lrevl, o_lrevt, o_isi, o_isi2, i_int, i_bl, i_lst, i_tup, i_str, i_non, o_slu, o_slsu, o_sll, o_sla, o_slut, o_sllt, o_all, o_any, o_sum, o_srt, o_srtT, o_stp, o_lrng1, o_lrng2, n_seqL, n_seqT, n_enumL, n_enumT, n_rev, n_revT, n_zipL, n_zipT, n_rng1, n_rng2, n_revr, ownVar, ownS, getS, lstB, os_setS, stO_some, stO_none, stB_un, stB_sh, stB_ow, putS, odTs, odT, odAs, odA, refs, nodupB, backs, back1, retE, outS, wipeS, giveS, plainS, tgtF, asgs, mkSeq, T.isNon, okFor, setsS, setsL, List.getElem?_cons_zero, List.getElem?_cons_succ, List.getElem?_nil, List.set_cons_zero, List.set_cons_succ, List.length_cons, List.length_nil, List.length_map, List.cons_append, List.nil_append, List.append_nil, List.replicate, List.getD_cons_zero, List.getD_cons_succ, Option.getD, List.contains_nil, List.contains_cons, Bool.not_true, Bool.not_false, Bool.and_true, Bool.true_and, Bool.and_self, if_true, if_false, true_and, and_true, ite_true, ite_false, reduceIte, Bool.false_eq_true, Bool.true_eq_false, decide_true, decide_false, decide_eq_true_eq, eq_self, Nat.reduceAdd, Nat.reduceLT, Nat.reduceSub, Int.reduceLT, Int.reduceLE, Int.reduceToNat, Int.reduceAbs, Int.reducePow, Int.natAbs_natCast, Nat.reducePow, Nat.reduceLeDiff, Nat.reduceMul, Nat.reduceBEq, Bool.or_true, Bool.or_false, Bool.true_or, Bool.false_or, Int.reduceNeg, $a,*])
  | `(tactic| dsimp! only [$a,*] $l:location) => `(tactic| simp only [w_nil, w_cons, w_set, w_unp, w_par, w_aug, w_sts, w_dst, w_st2, os_stD, os_stL, two2_t, w_rdv, w_dnew, w_tmt, w_fnv, w_cal, w_dsp, w_dgt, w_app, w_ext, w_ins, w_ixl, w_exp, w_ret, w_retn, w_ife, w_non, w_bl, w_int, w_str, w_var, w_glb, w_tup, w_lst, w_op, w_chn, w_not, w_ifx, w_bop, w_b1, w_b2, w_call, w_do, w_pop, w_fs0, w_fs, w_os0, w_os, w_ts0, w_ts1, ok_ok, ok_bad, ok_bind, os_some, os_none, os_bind, os_map, os_ifn, bl_bl, fn_nx, fn_rt, rt_nx, rt_rt, o_bin, b_add, b_sub, b_and, b_or, b_xor, b_mod, b_fdiv, b_mul, b_pow, b_shl, b_shr, b_cat, b_catT, b_rep, a_add, a_sub, a_and, a_or, a_xor, a_shr, a_shl, a_fdiv, o_neg, o_inv, o_cmp, c_eq, c_ne, c_lt, c_le, c_gt, c_ge, c_isn, c_notn, c_inl, c_ninl, c_int, c_nint, c_ind, c_nind, kB_int, kB_str, o_subD, o_sub, o_subT, at0, at1, at2, at3, at4, ix0, ix1, ix2, ix3, o_len, o_lenT, o_abs, o_min2, o_max2, o_int, o_intb, o_tup, o_tupt, o_lst, o_lstt, o_rev, o_lrevl, o_lrevt, o_isi, o_isi2, i_int, i_bl, i_lst, i_tup, i_str, i_non, o_slu, o_slsu, o_sll, o_sla, o_slut, o_sllt, o_all, o_any, o_sum, o_srt, o_srtT, o_stp, o_lrng1, o_lrng2, n_seqL, n_seqT, n_enumL, n_enumT, n_rev, n_revT, n_zipL, n_zipT, n_rng1, n_rng2, n_revr, ownVar, ownS, getS, lstB, os_setS, stO_some, stO_none, stB_un, stB_sh, stB_ow, putS, odTs, odT, odAs, odA, refs, nodupB, backs, back1, retE, outS, wipeS, giveS, plainS, tgtF, asgs, mkSeq, T.isNon, okFor, setsS, setsL, List.getElem?_cons_zero, List.getElem?_cons_succ, List.getElem?_nil, List.set_cons_zero, List.set_cons_succ, List.length_cons, List.length_nil, List.length_map, List.cons_append, List.nil_append, List.append_nil, List.replicate, List.getD_cons_zero, List.getD_cons_succ, Option.getD, List.contains_nil, List.contains_cons, Bool.not_true, Bool.not_false, Bool.and_true, Bool.true_and, Bool.and_self, if_true, if_false, true_and, and_true, ite_true, ite_false, reduceIte, Bool.false_eq_true, Bool.true_eq_false, decide_true, decide_false, decide_eq_true_eq, eq_self, Nat.reduceAdd, Nat.reduceLT, Nat.reduceSub, Int.reduceLT, Int.reduceLE, Int.reduceToNat, Int.reduceAbs, Int.reducePow, Int.natAbs_natCast, Nat.reducePow, Nat.reduceLeDiff, Nat.reduceMul, Nat.reduceBEq, Bool.or_true, Bool.or_false, Bool.true_or, Bool.false_or, Int.reduceNeg, $a,*] $l)
end MP
namespace MP
open PySem
local macro_rules
  | `(tactic| dsimp! only [$a,*]) => `(tactic| simp only [w_nil, w_cons, w_set, w_unp, w_par, w_aug, w_sts, w_dst, w_st2, os_stD, os_stL, two2_t, w_rdv, w_dnew, w_tmt, w_fnv, w_cal, w_dsp, w_dgt, w_app, w_ext, w_ins, w_ixl, w_exp, w_ret, w_retn, w_ife, w_non, w_bl, w_int, w_str, w_var, w_glb, w_tup, w_lst, w_op, w_chn, w_not, w_ifx, w_bop, w_b1, w_b2, w_call, w_do, w_pop, w_fs0, w_fs, w_os0, w_os, w_ts0, w_ts1, ok_ok, ok_bad, ok_bind, os_some, os_none, os_bind, os_map, os_ifn, bl_bl, fn_nx, fn_rt, rt_nx, rt_rt, o_bin, b_add, b_sub, b_and, b_or, b_xor, b_mod, b_fdiv, b_mul, b_pow, b_shl, b_shr, b_cat, b_catT, b_rep, a_add, a_sub, a_and, a_or, a_xor, a_shr, a_shl, a_fdiv, o_neg, o_inv, o_cmp, c_eq, c_ne, c_lt, c_le, c_gt, c_ge, c_isn, c_notn, c_inl, c_ninl, c_int, c_nint, c_ind, c_nind, kB_int, kB_str, o_subD, o_sub, o_subT, at0, at1, at2, at3, at4, ix0, ix1, ix2, ix3, o_len, o_lenT, o_abs, o_min2, o_max2, o_int, o_intb, o_tup, o_tupt, o_lst, o_lstt, o_rev, o_lrevl, o_lrevt, o_isi, o_isi2, i_int, i_bl, i_lst, i_tup, i_str, i_non, o_slu, o_slsu, o_sll, o_sla, o_slut, o_sllt, o_all, o_any, o_sum, o_srt, o_srtT, o_stp, o_lrng1, o_lrng2, n_seqL, n_seqT, n_enumL, n_enumT, n_rev, n_revT, n_zipL, n_zipT, n_rng1, n_rng2, n_revr, ownVar, ownS, getS, lstB, os_setS, stO_some, stO_none, stB_un, stB_sh, stB_ow, putS, odTs, odT, odAs, odA, refs, nodupB, backs, back1, retE, outS, wipeS, giveS, plainS, tgtF, asgs, mkSeq, T.isNon, okFor, setsS, setsL, List.getElem?_cons_zero, List.getElem?_cons_succ, List.getElem?_nil, List.set_cons_zero, List.set_cons_succ, List.length_cons, List.length_nil, List.length_map, List.cons_append, List.nil_append, List.append_nil, List.replicate, List.getD_cons_zero, List.getD_cons_succ, Option.getD, List.contains_nil, List.contains_cons, Bool.not_true, Bool.not_false, Bool.and_true, Bool.true_and, Bool.and_self, if_true, if_false, true_and, and_true, ite_true, ite_false, reduceIte, Bool.false_eq_true, Bool.true_eq_false, decide_true, decide_false, decide_eq_true_eq, eq_self, Nat.reduceAdd, Nat.reduceLT, Nat.reduceSub, Int.reduceLT, Int.reduceLE, Int.reduceToNat, Int.reduceAbs, Int.reducePow, Int.natAbs_natCast, Nat.reducePow, Nat.reduceLeDiff, Nat.reduceMul, Nat.reduceBEq, Bool.or_true, Bool.or_false, Bool.true_or, Bool.false_or, Int.reduceNeg, $a,*])
  | `(tactic| dsimp! only [$a,*] $l:location) => `(tactic| simp only [w_nil, w_cons, w_set, w_unp, w_par, w_aug, w_sts, w_dst, w_st2, os_stD, os_stL, two2_t, w_rdv, w_dnew, w_tmt, w_fnv, w_cal, w_dsp, w_dgt, w_app, w_ext, w_ins, w_ixl, w_exp, w_ret, w_retn, w_ife, w_non, w_bl, w_int, w_str, w_var, w_glb, w_tup, w_lst, w_op, w_chn, w_not, w_ifx, w_bop, w_b1, w_b2, w_call, w_do, w_pop, w_fs0, w_fs, w_os0, w_os, w_ts0, w_ts1, ok_ok, ok_bad, ok_bind, os_some, os_none, os_bind, os_map, os_ifn, bl_bl, fn_nx, fn_rt, rt_nx, rt_rt, o_bin, b_add, b_sub, b_and, b_or, b_xor, b_mod, b_fdiv, b_mul, b_pow, b_shl, b_shr, b_cat, b_catT, b_rep, a_add, a_sub, a_and, a_or, a_xor, a_shr, a_shl, a_fdiv, o_neg, o_inv, o_cmp, c_eq, c_ne, c_lt, c_le, c_gt, c_ge, c_isn, c_notn, c_inl, c_ninl, c_int, c_nint, c_ind, c_nind, kB_int, kB_str, o_subD, o_sub, o_subT, at0, at1, at2, at3, at4, ix0, ix1, ix2, ix3, o_len, o_lenT, o_abs, o_min2, o_max2, o_int, o_intb, o_tup, o_tupt, o_lst, o_lstt, o_rev, o_lrevl, o_lrevt, o_isi, o_isi2, i_int, i_bl, i_lst, i_tup, i_str, i_non, o_slu, o_slsu, o_sll, o_sla, o_slut, o_sllt, o_all, o_any, o_sum, o_srt, o_srtT, o_stp, o_lrng1, o_lrng2, n_seqL, n_seqT, n_enumL, n_enumT, n_rev, n_revT, n_zipL, n_zipT, n_rng1, n_rng2, n_revr, ownVar, ownS, getS, lstB, os_setS, stO_some, stO_none, stB_un, stB_sh, stB_ow, putS, odTs, odT, odAs, odA, refs, nodupB, backs, back1, retE, outS, wipeS, giveS, plainS, tgtF, asgs, mkSeq, T.isNon, okFor, setsS, setsL, List.getElem?_cons_zero, List.getElem?_cons_succ, List.getElem?_nil, List.set_cons_zero, List.set_cons_succ, List.length_cons, List.length_nil, List.length_map, List.cons_append, List.nil_append, List.append_nil, List.replicate, List.getD_cons_zero, List.getD_cons_succ, Option.getD, List.contains_nil, List.contains_cons, Bool.not_true, Bool.not_false, Bool.and_true, Bool.true_and, Bool.and_self, if_true, if_false, true_and, and_true, ite_true, ite_false, reduceIte, Bool.false_eq_true, Bool.true_eq_false, decide_true, decide_false, decide_eq_true_eq, eq_self, Nat.reduceAdd, Nat.reduceLT, Nat.reduceSub, Int.reduceLT, Int.reduceLE, Int.reduceToNat, Int.reduceAbs, Int.reducePow, Int.natAbs_natCast, Nat.reducePow, Nat.reduceLeDiff, Nat.reduceMul, Nat.reduceBEq, Bool.or_true, Bool.or_false, Bool.true_or, Bool.false_or, Int.reduceNeg, $a,*] $l)
local macro_rules
  | `(tactic| simp! only [$a,*]) => `(tactic| simp only [w_nil, w_cons, w_set, w_unp, w_par, w_aug, w_sts, w_dst, w_st2, os_stD, os_stL, two2_t, w_rdv, w_dnew, w_tmt, w_fnv, w_cal, w_dsp, w_dgt, w_app, w_ext, w_ins, w_ixl, w_exp, w_ret, w_retn, w_ife, w_non, w_bl, w_int, w_str, w_var, w_glb, w_tup, w_lst, w_op, w_chn, w_not, w_ifx, w_bop, w_b1, w_b2, w_call, w_do, w_pop, w_fs0, w_fs, w_os0, w_os, w_ts0, w_ts1, ok_ok, ok_bad, ok_bind, os_some, os_none, os_bind, os_map, os_ifn, bl_bl, fn_nx, fn_rt, rt_nx, rt_rt, o_bin, b_add, b_sub, b_and, b_or, b_xor, b_mod, b_fdiv, b_mul, b_pow, b_shl, b_shr, b_cat, b_catT, b_rep, a_add, a_sub, a_and, a_or, a_xor, a_shr, a_shl, a_fdiv, o_neg, o_inv, o_cmp, c_eq, c_ne, c_lt, c_le, c_gt, c_ge, c_isn, c_notn, c_inl, c_ninl, c_int, c_nint, c_ind, c_nind, kB_int, kB_str, o_subD, o_sub, o_subT, at0, at1, at2, at3, at4, ix0, ix1, ix2, ix3, o_len, o_lenT, o_abs, o_min2, o_max2, o_int, o_intb, o_tup, o_tupt, o_lst, o_lstt, o_rev, o_lrevl, o_lrevt, o_isi, o_isi2, i_int, i_bl, i_lst, i_tup, i_str, i_non, o_slu, o_slsu, o_sll, o_sla, o_slut, o_sllt, o_all, o_any, o_sum, o_srt, o_srtT, o_stp, o_lrng1, o_lrng2, n_seqL, n_seqT, n_enumL, n_enumT, n_rev, n_revT, n_zipL, n_zipT, n_rng1, n_rng2, n_revr, ownVar, ownS, getS, lstB, os_setS, stO_some, stO_none, stB_un, stB_sh, stB_ow, putS, odTs, odT, odAs, odA, refs, nodupB, backs, back1, retE, outS, wipeS, giveS, plainS, tgtF, asgs, mkSeq, T.isNon, okFor, setsS, setsL, List.getElem?_cons_zero, List.getElem?_cons_succ, List.getElem?_nil, List.set_cons_zero, List.set_cons_succ, List.length_cons, List.length_nil, List.length_map, List.cons_append, List.nil_append, List.append_nil, List.replicate, List.getD_cons_zero, List.getD_cons_succ, Option.getD, List.contains_nil, List.contains_cons, Bool.not_true, Bool.not_false, Bool.and_true, Bool.true_and, Bool.and_self, if_true, if_false, true_and, and_true, ite_true, ite_false, reduceIte, Bool.false_eq_true, Bool.true_eq_false, decide_true, decide_false, decide_eq_true_eq, eq_self, Nat.reduceAdd, Nat.reduceLT, Nat.reduceSub, Int.reduceLT, Int.reduceLE, Int.reduceToNat, Int.reduceAbs, Int.reducePow, Int.natAbs_natCast, Nat.reducePow, Nat.reduceLeDiff, Nat.reduceMul, Nat.reduceBEq, Bool.or_true, Bool.or_false, Bool.true_or, Bool.false_or, Int.reduceNeg, sq_and_and, sq_and_or, sq_and_gather, sq_and_strew, sq_and_left, sq_and_right, sq_and_turn, sq_and_swap, sq_and_copy, si_and_M, si_and_B, si_and_S, si_and_L, sn_and, sq_or_and, sq_or_or, sq_or_gather, sq_or_strew, sq_or_left, sq_or_right, sq_or_turn, sq_or_swap, sq_or_copy, si_or_M, si_or_B, si_or_S, si_or_L, sn_or, sq_gather_and, sq_gather_or, sq_gather_gather, sq_gather_strew, sq_gather_left, sq_gather_right, sq_gather_turn, sq_gather_swap, sq_gather_copy, si_gather_M, si_gather_B, si_gather_S, si_gather_L, sn_gather, sq_strew_and, sq_strew_or, sq_strew_gather, sq_strew_strew, sq_strew_left, sq_strew_right, sq_strew_turn, sq_strew_swap, sq_strew_copy, si_strew_M, si_strew_B, si_strew_S, si_strew_L, sn_strew, sq_left_and, sq_left_or, sq_left_gather, sq_left_strew, sq_left_left, sq_left_right, sq_left_turn, sq_left_swap, sq_left_copy, si_left_M, si_left_B, si_left_S, si_left_L, sn_left, sq_right_and, sq_right_or, sq_right_gather, sq_right_strew, sq_right_left, sq_right_right, sq_right_turn, sq_right_swap, sq_right_copy, si_right_M, si_right_B, si_right_S, si_right_L, sn_right, sq_turn_and, sq_turn_or, sq_turn_gather, sq_turn_strew, sq_turn_left, sq_turn_right, sq_turn_turn, sq_turn_swap, sq_turn_copy, si_turn_M, si_turn_B, si_turn_S, si_turn_L, sn_turn, sq_swap_and, sq_swap_or, sq_swap_gather, sq_swap_strew, sq_swap_left, sq_swap_right, sq_swap_turn, sq_swap_swap, sq_swap_copy, si_swap_M, si_swap_B, si_swap_S, si_swap_L, sn_swap, sq_copy_and, sq_copy_or, sq_copy_gather, sq_copy_strew, sq_copy_left, sq_copy_right, sq_copy_turn, sq_copy_swap, sq_copy_copy, si_copy_M, si_copy_B, si_copy_S, si_copy_L, sn_copy, snb_and, snb_or, snb_gather, snb_strew, snb_left, snb_right, snb_turn, snb_swap, snb_copy, $a,*])
  | `(tactic| simp! only [$a,*] $l:location) => `(tactic| simp only [w_nil, w_cons, w_set, w_unp, w_par, w_aug, w_sts, w_dst, w_st2, os_stD, os_stL, two2_t, w_rdv, w_dnew, w_tmt, w_fnv, w_cal, w_dsp, w_dgt, w_app, w_ext, w_ins, w_ixl, w_exp, w_ret, w_retn, w_ife, w_non, w_bl, w_int, w_str, w_var, w_glb, w_tup, w_lst, w_op, w_chn, w_not, w_ifx, w_bop, w_b1, w_b2, w_call, w_do, w_pop, w_fs0, w_fs, w_os0, w_os, w_ts0, w_ts1, ok_ok, ok_bad, ok_bind, os_some, os_none, os_bind, os_map, os_ifn, bl_bl, fn_nx, fn_rt, rt_nx, rt_rt, o_bin, b_add, b_sub, b_and, b_or, b_xor, b_mod, b_fdiv, b_mul, b_pow, b_shl, b_shr, b_cat, b_catT, b_rep, a_add, a_sub, a_and, a_or, a_xor, a_shr, a_shl, a_fdiv, o_neg, o_inv, o_cmp, c_eq, c_ne, c_lt, c_le, c_gt, c_ge, c_isn, c_notn, c_inl, c_ninl, c_int, c_nint, c_ind, c_nind, kB_int, kB_str, o_subD, o_sub, o_subT, at0, at1, at2, at3, at4, ix0, ix1, ix2, ix3, o_len, o_lenT, o_abs, o_min2, o_max2, o_int, o_intb, o_tup, o_tupt, o_lst, o_lstt, o_rev, o_lrevl, o_lrevt, o_isi, o_isi2, i_int, i_bl, i_lst, i_tup, i_str, i_non, o_slu, o_slsu, o_sll, o_sla, o_slut, o_sllt, o_all, o_any, o_sum, o_srt, o_srtT, o_stp, o_lrng1, o_lrng2, n_seqL, n_seqT, n_enumL, n_enumT, n_rev, n_revT, n_zipL, n_zipT, n_rng1, n_rng2, n_revr, ownVar, ownS, getS, lstB, os_setS, stO_some, stO_none, stB_un, stB_sh, stB_ow, putS, odTs, odT, odAs, odA, refs, nodupB, backs, back1, retE, outS, wipeS, giveS, plainS, tgtF, asgs, mkSeq, T.isNon, okFor, setsS, setsL, List.getElem?_cons_zero, List.getElem?_cons_succ, List.getElem?_nil, List.set_cons_zero, List.set_cons_succ, List.length_cons, List.length_nil, List.length_map, List.cons_append, List.nil_append, List.append_nil, List.replicate, List.getD_cons_zero, List.getD_cons_succ, Option.getD, List.contains_nil, List.contains_cons, Bool.not_true, Bool.not_false, Bool.and_true, Bool.true_and, Bool.and_self, if_true, if_false, true_and, and_true, ite_true, ite_false, reduceIte, Bool.false_eq_true, Bool.true_eq_false, decide_true, decide_false, decide_eq_true_eq, eq_self, Nat.reduceAdd, Nat.reduceLT, Nat.reduceSub, Int.reduceLT, Int.reduceLE, Int.reduceToNat, Int.reduceAbs, Int.reducePow, Int.natAbs_natCast, Nat.reducePow, Nat.reduceLeDiff, Nat.reduceMul, Nat.reduceBEq, Bool.or_true, Bool.or_false, Bool.true_or, Bool.false_or, Int.reduceNeg, sq_and_and, sq_and_or, sq_and_gather, sq_and_strew, sq_and_left, sq_and_right, sq_and_turn, sq_and_swap, sq_and_copy, si_and_M, si_and_B, si_and_S, si_and_L, sn_and, sq_or_and, sq_or_or, sq_or_gather, sq_or_strew, sq_or_left, sq_or_right, sq_or_turn, sq_or_swap, sq_or_copy, si_or_M, si_or_B, si_or_S, si_or_L, sn_or, sq_gather_and, sq_gather_or, sq_gather_gather, sq_gather_strew, sq_gather_left, sq_gather_right, sq_gather_turn, sq_gather_swap, sq_gather_copy, si_gather_M, si_gather_B, si_gather_S, si_gather_L, sn_gather, sq_strew_and, sq_strew_or, sq_strew_gather, sq_strew_strew, sq_strew_left, sq_strew_right, sq_strew_turn, sq_strew_swap, sq_strew_copy, si_strew_M, si_strew_B, si_strew_S, si_strew_L, sn_strew, sq_left_and, sq_left_or, sq_left_gather, sq_left_strew, sq_left_left, sq_left_right, sq_left_turn, sq_left_swap, sq_left_copy, si_left_M, si_left_B, si_left_S, si_left_L, sn_left, sq_right_and, sq_right_or, sq_right_gather, sq_right_strew, sq_right_left, sq_right_right, sq_right_turn, sq_right_swap, sq_right_copy, si_right_M, si_right_B, si_right_S, si_right_L, sn_right, sq_turn_and, sq_turn_or, sq_turn_gather, sq_turn_strew, sq_turn_left, sq_turn_right, sq_turn_turn, sq_turn_swap, sq_turn_copy, si_turn_M, si_turn_B, si_turn_S, si_turn_L, sn_turn, sq_swap_and, sq_swap_or, sq_swap_gather, sq_swap_strew, sq_swap_left, sq_swap_right, sq_swap_turn, sq_swap_swap, sq_swap_copy, si_swap_M, si_swap_B, si_swap_S, si_swap_L, sn_swap, sq_copy_and, sq_copy_or, sq_copy_gather, sq_copy_strew, sq_copy_left, sq_copy_right, sq_copy_turn, sq_copy_swap, sq_copy_copy, si_copy_M, si_copy_B, si_copy_S, si_copy_L, sn_copy, snb_and, snb_or, snb_gather, snb_strew, snb_left, snb_right, snb_turn, snb_swap, snb_copy, $a,*] $l)
end MP
namespace MP
open PySem
local macro_rules
  | `(tactic| dsimp! only [$a,*]) => `(tactic| simp only [w_nil, w_cons, w_set, w_unp, w_par, w_aug, w_sts, w_dst, w_st2, os_stD, os_stL, two2_t, w_rdv, w_dnew, w_tmt, w_fnv, w_cal, w_dsp, w_dgt, w_app, w_ext, w_ins, w_ixl, w_exp, w_ret, w_retn, w_ife, w_non, w_bl, w_int, w_str, w_var, w_glb, w_tup, w_lst, w_op, w_chn, w_not, w_ifx, w_bop, w_b1, w_b2, w_call, w_do, w_pop, w_fs0, w_fs, w_os0, w_os, w_ts0, w_ts1, ok_ok, ok_bad, ok_bind, os_some, os_none, os_bind, os_map, os_ifn, bl_bl, fn_nx, fn_rt, rt_nx, rt_rt, o_bin, b_add, b_sub, b_and, b_or, b_xor, b_mod, b_fdiv, b_mul, b_pow, b_shl, b_shr, b_cat, b_catT, b_rep, a_add, a_sub, a_and, a_or, a_xor, a_shr, a_shl, a_fdiv, o_neg, o_inv, o_cmp, c_eq, c_ne, c_lt, c_le, c_gt, c_ge, c_isn, c_notn, c_inl, c_ninl, c_int, c_nint, c_ind, c_nind, kB_int, kB_str, o_subD, o_sub, o_subT, at0, at1, at2, at3, at4, ix0, ix1, ix2, ix3, o_len, o_lenT, o_abs, o_min2, o_max2, o_int, o_intb, o_tup, o_tupt, o_lst, o_lstt, o_rev, o_lrevl, o_lrevt, o_isi, o_isi2, i_int, i_bl, i_lst, i_tup, i_str, i_non, o_slu, o_slsu, o_sll, o_sla, o_slut, o_sllt, o_all, o_any, o_sum, o_srt, o_srtT, o_stp, o_lrng1, o_lrng2, n_seqL, n_seqT, n_enumL, n_enumT, n_rev, n_revT, n_zipL, n_zipT, n_rng1, n_rng2, n_revr, ownVar, ownS, getS, lstB, os_setS, stO_some, stO_none, stB_un, stB_sh, stB_ow, putS, odTs, odT, odAs, odA, refs, nodupB, backs, back1, retE, outS, wipeS, giveS, plainS, tgtF, asgs, mkSeq, T.isNon, okFor, setsS, setsL, List.getElem?_cons_zero, List.getElem?_cons_succ, List.getElem?_nil, List.set_cons_zero, List.set_cons_succ, List.length_cons, List.length_nil, List.length_map, List.cons_append, List.nil_append, List.append_nil, List.replicate, List.getD_cons_zero, List.getD_cons_succ, Option.getD, List.contains_nil, List.contains_cons, Bool.not_true, Bool.not_false, Bool.and_true, Bool.true_and, Bool.and_self, if_true, if_false, true_and, and_true, ite_true, ite_false, reduceIte, Bool.false_eq_true, Bool.true_eq_false, decide_true, decide_false, decide_eq_true_eq, eq_self, Nat.reduceAdd, Nat.reduceLT, Nat.reduceSub, Int.reduceLT, Int.reduceLE, Int.reduceToNat, Int.reduceAbs, Int.reducePow, Int.natAbs_natCast, Nat.reducePow, Nat.reduceLeDiff, Nat.reduceMul, Nat.reduceBEq, Bool.or_true, Bool.or_false, Bool.true_or, Bool.false_or, Int.reduceNeg, $a,*])
  | `(tactic| dsimp! only [$a,*] $l:location) => `(tactic| simp only [w_nil, w_cons, w_set, w_unp, w_par, w_aug, w_sts, w_dst, w_st2, os_stD, os_stL, two2_t, w_rdv, w_dnew, w_tmt, w_fnv, w_cal, w_dsp, w_dgt, w_app, w_ext, w_ins, w_ixl, w_exp, w_ret, w_retn, w_ife, w_non, w_bl, w_int, w_str, w_var, w_glb, w_tup, w_lst, w_op, w_chn, w_not, w_ifx, w_bop, w_b1, w_b2, w_call, w_do, w_pop, w_fs0, w_fs, w_os0, w_os, w_ts0, w_ts1, ok_ok, ok_bad, ok_bind, os_some, os_none, os_bind, os_map, os_ifn, bl_bl, fn_nx, fn_rt, rt_nx, rt_rt, o_bin, b_add, b_sub, b_and, b_or, b_xor, b_mod, b_fdiv, b_mul, b_pow, b_shl, b_shr, b_cat, b_catT, b_rep, a_add, a_sub, a_and, a_or, a_xor, a_shr, a_shl, a_fdiv, o_neg, o_inv, o_cmp, c_eq, c_ne, c_lt, c_le, c_gt, c_ge, c_isn, c_notn, c_inl, c_ninl, c_int, c_nint, c_ind, c_nind, kB_int, kB_str, o_subD, o_sub, o_subT, at0, at1, at2, at3, at4, ix0, ix1, ix2, ix3, o_len, o_lenT, o_abs, o_min2, o_max2, o_int, o_intb, o_tup, o_tupt, o_lst, o_lstt, o_rev, o_lrevl, o_lrevt, o_isi, o_isi2, i_int, i_bl, i_lst, i_tup, i_str, i_non, o_slu, o_slsu, o_sll, o_sla, o_slut, o_sllt, o_all, o_any, o_sum, o_srt, o_srtT, o_stp, o_lrng1, o_lrng2, n_seqL, n_seqT, n_enumL, n_enumT, n_rev, n_revT, n_zipL, n_zipT, n_rng1, n_rng2, n_revr, ownVar, ownS, getS, lstB, os_setS, stO_some, stO_none, stB_un, stB_sh, stB_ow, putS, odTs, odT, odAs, odA, refs, nodupB, backs, back1, retE, outS, wipeS, giveS, plainS, tgtF, asgs, mkSeq, T.isNon, okFor, setsS, setsL, List.getElem?_cons_zero, List.getElem?_cons_succ, List.getElem?_nil, List.set_cons_zero, List.set_cons_succ, List.length_cons, List.length_nil, List.length_map, List.cons_append, List.nil_append, List.append_nil, List.replicate, List.getD_cons_zero, List.getD_cons_succ, Option.getD, List.contains_nil, List.contains_cons, Bool.not_true, Bool.not_false, Bool.and_true, Bool.true_and, Bool.and_self, if_true, if_false, true_and, and_true, ite_true, ite_false, reduceIte, Bool.false_eq_true, Bool.true_eq_false, decide_true, decide_false, decide_eq_true_eq, eq_self, Nat.reduceAdd, Nat.reduceLT, Nat.reduceSub, Int.reduceLT, Int.reduceLE, Int.reduceToNat, Int.reduceAbs, Int.reducePow, Int.natAbs_natCast, Nat.reducePow, Nat.reduceLeDiff, Nat.reduceMul, Nat.reduceBEq, Bool.or_true, Bool.or_false, Bool.true_or, Bool.false_or, Int.reduceNeg, $a,*] $l)
section
variable (m W : Nat)
def cnt : Nat := (placesN m W).length
end
end MP
namespace MP
open PySem
local macro_rules
  | `(tactic| dsimp! only [$a,*]) => `(tactic| simp only [w_nil, w_cons, w_set, w_unp, w_par, w_aug, w_sts, w_dst, w_st2, os_stD, os_stL, two2_t, w_rdv, w_dnew, w_tmt, w_fnv, w_cal, w_dsp, w_dgt, w_app, w_ext, w_ins, w_ixl, w_exp, w_ret, w_retn, w_ife, w_non, w_bl, w_int, w_str, w_var, w_glb, w_tup, w_lst, w_op, w_chn, w_not, w_ifx, w_bop, w_b1, w_b2, w_call, w_do, w_pop, w_fs0, w_fs, w_os0, w_os, w_ts0, w_ts1, ok_ok, ok_bad, ok_bind, os_some, os_none, os_bind, os_map, os_ifn, bl_bl, fn_nx, fn_rt, rt_nx, rt_rt, o_bin, b_add, b_sub, b_and, b_or, b_xor, b_mod, b_fdiv, b_mul, b_pow, b_shl, b_shr, b_cat, b_catT, b_rep, a_add, a_sub, a_and, a_or, a_xor, a_shr, a_shl, a_fdiv, o_neg, o_inv, o_cmp, c_eq, c_ne, c_lt, c_le, c_gt, c_ge, c_isn, c_notn, c_inl, c_ninl, c_int, c_nint, c_ind, c_nind, kB_int, kB_str, o_subD, o_sub, o_subT, at0, at1, at2, at3, at4, ix0, ix1, ix2, ix3, o_len, o_lenT, o_abs, o_min2, o_max2, o_int, o_intb, o_tup, o_tupt, o_lst, o_lstt, o_rev, o_lrevl, o_lrevt, o_isi, o_isi2, i_int, i_bl, i_lst, i_tup, i_str, i_non, o_slu, o_slsu, o_sll, o_sla, o_slut, o_sllt, o_all, o_any, o_sum, o_srt, o_srtT, o_stp, o_lrng1, o_lrng2, n_seqL, n_seqT, n_enumL, n_enumT, n_rev, n_revT, n_zipL, n_zipT, n_rng1, n_rng2, n_revr, ownVar, ownS, getS, lstB, os_setS, stO_some, stO_none, stB_un, stB_sh, stB_ow, putS, odTs, odT, odAs, odA, refs, nodupB, backs, back1, retE, outS, wipeS, giveS, plainS, tgtF, asgs, mkSeq, T.isNon, okFor, setsS, setsL, List.getElem?_cons_zero, List.getElem?_cons_succ, List.getElem?_nil, List.set_cons_zero, List.set_cons_succ, List.length_cons, List.length_nil, List.length_map, List.cons_append, List.nil_append, List.append_nil, List.replicate, List.getD_cons_zero, List.getD_cons_succ, Option.getD, List.contains_nil, List.contains_cons, Bool.not_true, Bool.not_false, Bool.and_true, Bool.true_and, Bool.and_self, if_true, if_false, true_and, and_true, ite_true, ite_false, reduceIte, Bool.false_eq_true, Bool.true_eq_false, decide_true, decide_false, decide_eq_true_eq, eq_self, Nat.reduceAdd, Nat.reduceLT, Nat.reduceSub, Int.reduceLT, Int.reduceLE, Int.reduceToNat, Int.reduceAbs, Int.reducePow, Int.natAbs_natCast, Nat.reducePow, Nat.reduceLeDiff, Nat.reduceMul, Nat.reduceBEq, Bool.or_true, Bool.or_false, Bool.true_or, Bool.false_or, Int.reduceNeg, $a,*])
  | `(tactic| dsimp! only [$a,*] $l:location) => `(tactic| simp only [w_nil, w_cons, w_set, w_unp, w_par, w_aug, w_sts, w_dst, w_st2, os_stD, os_stL, two2_t, w_rdv, w_dnew, w_tmt, w_fnv, w_cal, w_dsp, w_dgt, w_app, w_ext, w_ins, w_ixl, w_exp, w_ret, w_retn, w_ife, w_non, w_bl, w_int, w_str, w_var, w_glb, w_tup, w_lst, w_op, w_chn, w_not, w_ifx, w_bop, w_b1, w_b2, w_call, w_do, w_pop, w_fs0, w_fs, w_os0, w_os, w_ts0, w_ts1, ok_ok, ok_bad, ok_bind, os_some, os_none, os_bind, os_map, os_ifn, bl_bl, fn_nx, fn_rt, rt_nx, rt_rt, o_bin, b_add, b_sub, b_and, b_or, b_xor, b_mod, b_fdiv, b_mul, b_pow, b_shl, b_shr, b_cat, b_catT, b_rep, a_add, a_sub, a_and, a_or, a_xor, a_shr, a_shl, a_fdiv, o_neg, o_inv, o_cmp, c_eq, c_ne, c_lt, c_le, c_gt, c_ge, c_isn, c_notn, c_inl, c_ninl, c_int, c_nint, c_ind, c_nind, kB_int, kB_str, o_subD, o_sub, o_subT, at0, at1, at2, at3, at4, ix0, ix1, ix2, ix3, o_len, o_lenT, o_abs, o_min2, o_max2, o_int, o_intb, o_tup, o_tupt, o_lst, o_lstt, o_rev, o_lrevl, o_lrevt, o_isi, o_isi2, i_int, i_bl, i_lst, i_tup, i_str, i_non, o_slu, o_slsu, o_sll, o_sla, o_slut, o_sllt, o_all, o_any, o_sum, o_srt, o_srtT, o_stp, o_lrng1, o_lrng2, n_seqL, n_seqT, n_enumL, n_enumT, n_rev, n_revT, n_zipL, n_zipT, n_rng1, n_rng2, n_revr, ownVar, ownS, getS, lstB, os_setS, stO_some, stO_none, stB_un, stB_sh, stB_ow, putS, odTs, odT, odAs, odA, refs, nodupB, backs, back1, retE, outS, wipeS, giveS, plainS, tgtF, asgs, mkSeq, T.isNon, okFor, setsS, setsL, List.getElem?_cons_zero, List.getElem?_cons_succ, List.getElem?_nil, List.set_cons_zero, List.set_cons_succ, List.length_cons, List.length_nil, List.length_map, List.cons_append, List.nil_append, List.append_nil, List.replicate, List.getD_cons_zero, List.getD_cons_succ, Option.getD, List.contains_nil, List.contains_cons, Bool.not_true, Bool.not_false, Bool.and_true, Bool.true_and, Bool.and_self, if_true, if_false, true_and, and_true, ite_true, ite_false, reduceIte, Bool.false_eq_true, Bool.true_eq_false, decide_true, decide_false, decide_eq_true_eq, eq_self, Nat.reduceAdd, Nat.reduceLT, Nat.reduceSub, Int.reduceLT, Int.reduceLE, Int.reduceToNat, Int.reduceAbs, Int.reducePow, Int.natAbs_natCast, Nat.reducePow, Nat.reduceLeDiff, Nat.reduceMul, Nat.reduceBEq, Bool.or_true, Bool.or_false, Bool.true_or, Bool.false_or, Int.reduceNeg, $a,*] $l)
local macro_rules
  | `(tactic| simp! only [$a,*]) => `(tactic| simp only [w_nil, w_cons, w_set, w_unp, w_par, w_aug, w_sts, w_dst, w_st2, os_stD, os_stL, two2_t, w_rdv, w_dnew, w_tmt, w_fnv, w_cal, w_dsp, w_dgt, w_app, w_ext, w_ins, w_ixl, w_exp, w_ret, w_retn, w_ife, w_non, w_bl, w_int, w_str, w_var, w_glb, w_tup, w_lst, w_op, w_chn, w_not, w_ifx, w_bop, w_b1, w_b2, w_call, w_do, w_pop, w_fs0, w_fs, w_os0, w_os, w_ts0, w_ts1, ok_ok, ok_bad, ok_bind, os_some, os_none, os_bind, os_map, os_ifn, bl_bl, fn_nx, fn_rt, rt_nx, rt_rt, o_bin, b_add, b_sub, b_and, b_or, b_xor, b_mod, b_fdiv, b_mul, b_pow, b_shl, b_shr, b_cat, b_catT, b_rep, a_add, a_sub, a_and, a_or, a_xor, a_shr, a_shl, a_fdiv, o_neg, o_inv, o_cmp, c_eq, c_ne, c_lt, c_le, c_gt, c_ge, c_isn, c_notn, c_inl, c_ninl, c_int, c_nint, c_ind, c_nind, kB_int, kB_str, o_subD, o_sub, o_subT, at0, at1, at2, at3, at4, ix0, ix1, ix2, ix3, o_len, o_lenT, o_abs, o_min2, o_max2, o_int, o_intb, o_tup, o_tupt, o_lst, o_lstt, o_rev, o_lrevl, o_lrevt, o_isi, o_isi2, i_int, i_bl, i_lst, i_tup, i_str, i_non, o_slu, o_slsu, o_sll, o_sla, o_slut, o_sllt, o_all, o_any, o_sum, o_srt, o_srtT, o_stp, o_lrng1, o_lrng2, n_seqL, n_seqT, n_enumL, n_enumT, n_rev, n_revT, n_zipL, n_zipT, n_rng1, n_rng2, n_revr, ownVar, ownS, getS, lstB, os_setS, stO_some, stO_none, stB_un, stB_sh, stB_ow, putS, odTs, odT, odAs, odA, refs, nodupB, backs, back1, retE, outS, wipeS, giveS, plainS, tgtF, asgs, mkSeq, T.isNon, okFor, setsS, setsL, List.getElem?_cons_zero, List.getElem?_cons_succ, List.getElem?_nil, List.set_cons_zero, List.set_cons_succ, List.length_cons, List.length_nil, List.length_map, List.cons_append, List.nil_append, List.append_nil, List.replicate, List.getD_cons_zero, List.getD_cons_succ, Option.getD, List.contains_nil, List.contains_cons, Bool.not_true, Bool.not_false, Bool.and_true, Bool.true_and, Bool.and_self, if_true, if_false, true_and, and_true, ite_true, ite_false, reduceIte, Bool.false_eq_true, Bool.true_eq_false, decide_true, decide_false, decide_eq_true_eq, eq_self, Nat.reduceAdd, Nat.reduceLT, Nat.reduceSub, Int.reduceLT, Int.reduceLE, Int.reduceToNat, Int.reduceAbs, Int.reducePow, Int.natAbs_natCast, Nat.reducePow, Nat.reduceLeDiff, Nat.reduceMul, Nat.reduceBEq, Bool.or_true, Bool.or_false, Bool.true_or, Bool.false_or, Int.reduceNeg, sq_and_and, sq_and_or, sq_and_gather, sq_and_strew, sq_and_left, sq_and_right, sq_and_turn, sq_and_swap, sq_and_copy, si_and_M, si_and_B, si_and_S, si_and_L, sn_and, sq_or_and, sq_or_or, sq_or_gather, sq_or_strew, sq_or_left, sq_or_right, sq_or_turn, sq_or_swap, sq_or_copy, si_or_M, si_or_B, si_or_S, si_or_L, sn_or, sq_gather_and, sq_gather_or, sq_gather_gather, sq_gather_strew, sq_gather_left, sq_gather_right, sq_gather_turn, sq_gather_swap, sq_gather_copy, si_gather_M, si_gather_B, si_gather_S, si_gather_L, sn_gather, sq_strew_and, sq_strew_or, sq_strew_gather, sq_strew_strew, sq_strew_left, sq_strew_right, sq_strew_turn, sq_strew_swap, sq_strew_copy, si_strew_M, si_strew_B, si_strew_S, si_strew_L, sn_strew, sq_left_and, sq_left_or, sq_left_gather, sq_left_strew, sq_left_left, sq_left_right, sq_left_turn, sq_left_swap, sq_left_copy, si_left_M, si_left_B, si_left_S, si_left_L, sn_left, sq_right_and, sq_right_or, sq_right_gather, sq_right_strew, sq_right_left, sq_right_right, sq_right_turn, sq_right_swap, sq_right_copy, si_right_M, si_right_B, si_right_S, si_right_L, sn_right, sq_turn_and, sq_turn_or, sq_turn_gather, sq_turn_strew, sq_turn_left, sq_turn_right, sq_turn_turn, sq_turn_swap, sq_turn_copy, si_turn_M, si_turn_B, si_turn_S, si_turn_L, sn_turn, sq_swap_and, sq_swap_or, sq_swap_gather, sq_swap_strew, sq_swap_left, sq_swap_right, sq_swap_turn, sq_swap_swap, sq_swap_copy, si_swap_M, si_swap_B, si_swap_S, si_swap_L, sn_swap, sq_copy_and, sq_copy_or, sq_copy_gather, sq_copy_strew, sq_copy_left, sq_copy_right, sq_copy_turn, sq_copy_swap, sq_copy_copy, si_copy_M, si_copy_B, si_copy_S, si_copy_L, sn_copy, snb_and, snb_or, snb_gather, snb_strew, snb_left, snb_right, snb_turn, snb_swap, snb_copy, $a,*])
  | `(tactic| simp! only [$a,*] $l:location) => `(tactic| simp only [w_nil, w_cons, w_set, w_unp, w_par, w_aug, w_sts, w_dst, w_st2, os_stD, os_stL, two2_t, w_rdv, w_dnew, w_tmt, w_fnv, w_cal, w_dsp, w_dgt, w_app, w_ext, w_ins, w_ixl, w_exp, w_ret, w_retn, w_ife, w_non, w_bl, w_int, w_str, w_var, w_glb, w_tup, w_lst, w_op, w_chn, w_not, w_ifx, w_bop, w_b1, w_b2, w_call, w_do, w_pop, w_fs0, w_fs, w_os0, w_os, w_ts0, w_ts1, ok_ok, ok_bad, ok_bind, os_some, os_none, os_bind, os_map, os_ifn, bl_bl, fn_nx, fn_rt, rt_nx, rt_rt, o_bin, b_add, b_sub, b_and, b_or, b_xor, b_mod, b_fdiv, b_mul, b_pow, b_shl, b_shr, b_cat, b_catT, b_rep, a_add, a_sub, a_and, a_or, a_xor, a_shr, a_shl, a_fdiv, o_neg, o_inv, o_cmp, c_eq, c_ne, c_lt, c_le, c_gt, c_ge, c_isn, c_notn, c_inl, c_ninl, c_int, c_nint, c_ind, c_nind, kB_int, kB_str, o_subD, o_sub, o_subT, at0, at1, at2, at3, at4, ix0, ix1, ix2, ix3, o_len, o_lenT, o_abs, o_min2, o_max2, o_int, o_intb, o_tup, o_tupt, o_lst, o_lstt, o_rev, o_lrevl, o_lrevt, o_isi, o_isi2, i_int, i_bl, i_lst, i_tup, i_str, i_non, o_slu, o_slsu, o_sll, o_sla, o_slut, o_sllt, o_all, o_any, o_sum, o_srt, o_srtT, o_stp, o_lrng1, o_lrng2, n_seqL, n_seqT, n_enumL, n_enumT, n_rev, n_revT, n_zipL, n_zipT, n_rng1, n_rng2, n_revr, ownVar, ownS, getS, lstB, os_setS, stO_some, stO_none, stB_un, stB_sh, stB_ow, putS, odTs, odT, odAs, odA, refs, nodupB, backs, back1, retE, outS, wipeS, giveS, plainS, tgtF, asgs, mkSeq, T.isNon, okFor, setsS, setsL, List.getElem?_cons_zero, List.getElem?_cons_succ, List.getElem?_nil, List.set_cons_zero, List.set_cons_succ, List.length_cons, List.length_nil, List.length_map, List.cons_append, List.nil_append, List.append_nil, List.replicate, List.getD_cons_zero, List.getD_cons_succ, Option.getD, List.contains_nil, List.contains_cons, Bool.not_true, Bool.not_false, Bool.and_true, Bool.true_and, Bool.and_self, if_true, if_false, true_and, and_true, ite_true, ite_false, reduceIte, Bool.false_eq_true, Bool.true_eq_false, decide_true, decide_false, decide_eq_true_eq, eq_self, Nat.reduceAdd, Nat.reduceLT, Nat.reduceSub, Int.reduceLT, Int.reduceLE, Int.reduceToNat, Int.reduceAbs, Int.reducePow, Int.natAbs_natCast, Nat.reducePow, Nat.reduceLeDiff, Nat.reduceMul, Nat.reduceBEq, Bool.or_true, Bool.or_false, Bool.true_or, Bool.false_or, Int.reduceNeg, sq_and_and, sq_and_or, sq_and_gather, sq_and_strew, sq_and_left, sq_and_right, sq_and_turn, sq_and_swap, sq_and_copy, si_and_M, si_and_B, si_and_S, si_and_L, sn_and, sq_or_and, sq_or_or, sq_or_gather, sq_or_strew, sq_or_left, sq_or_right, sq_or_turn, sq_or_swap, sq_or_copy, si_or_M, si_or_B, si_or_S, si_or_L, sn_or, sq_gather_and, sq_gather_or, sq_gather_gather, sq_gather_strew, sq_gather_left, sq_gather_right, sq_gather_turn, sq_gather_swap, sq_gather_copy, si_gather_M, si_gather_B, si_gather_S, si_gather_L, sn_gather, sq_strew_and, sq_strew_or, sq_strew_gather, sq_strew_strew, sq_strew_left, sq_strew_right, sq_strew_turn, sq_strew_swap, sq_strew_copy, si_strew_M, si_strew_B, si_strew_S, si_strew_L, sn_strew, sq_left_and, sq_left_or, sq_left_gather, sq_left_strew, sq_left_left, sq_left_right, sq_left_turn, sq_left_swap, sq_left_copy, si_left_M, si_left_B, si_left_S, si_left_L, sn_left, sq_right_and, sq_right_or, sq_right_gather, sq_right_strew, sq_right_left, sq_right_right, sq_right_turn, sq_right_swap, sq_right_copy, si_right_M, si_right_B, si_right_S, si_right_L, sn_right, sq_turn_and, sq_turn_or, sq_turn_gather, sq_turn_strew, sq_turn_left, sq_turn_right, sq_turn_turn, sq_turn_swap, sq_turn_copy, si_turn_M, si_turn_B, si_turn_S, si_turn_L, sn_turn, sq_swap_and, sq_swap_or, sq_swap_gather, sq_swap_strew, sq_swap_left, sq_swap_right, sq_swap_turn, sq_swap_swap, sq_swap_copy, si_swap_M, si_swap_B, si_swap_S, si_swap_L, sn_swap, sq_copy_and, sq_copy_or, sq_copy_gather, sq_copy_strew, sq_copy_left, sq_copy_right, sq_copy_turn, sq_copy_swap, sq_copy_copy, si_copy_M, si_copy_B, si_copy_S, si_copy_L, sn_copy, snb_and, snb_or, snb_gather, snb_strew, snb_left, snb_right, snb_turn, snb_swap, snb_copy, $a,*] $l)
end MP
namespace MP
open PySem
local macro_rules
  | `(tactic| dsimp! only [$a,*]) => `(tactic| simp only [w_nil, w_cons, w_set, w_unp, w_par, w_aug, w_sts, w_dst, w_st2, os_stD, os_stL, two2_t, w_rdv, w_dnew, w_tmt, w_fnv, w_cal, w_dsp, w_dgt, w_app, w_ext, w_ins, w_ixl, w_exp, w_ret, w_retn, w_ife, w_non, w_bl, w_int, w_str, w_var, w_glb, w_tup, w_lst, w_op, w_chn, w_not, w_ifx, w_bop, w_b1, w_b2, w_call, w_do, w_pop, w_fs0, w_fs, w_os0, w_os, w_ts0, w_ts1, ok_ok, ok_bad, ok_bind, os_some, os_none, os_bind, os_map, os_ifn, bl_bl, fn_nx, fn_rt, rt_nx, rt_rt, o_bin, b_add, b_sub, b_and, b_or, b_xor, b_mod, b_fdiv, b_mul, b_pow, b_shl, b_shr, b_cat, b_catT, b_rep, a_add, a_sub, a_and, a_or, a_xor, a_shr, a_shl, a_fdiv, o_neg, o_inv, o_cmp, c_eq, c_ne, c_lt, c_le, c_gt, c_ge, c_isn, c_notn, c_inl, c_ninl, c_int, c_nint, c_ind, c_nind, kB_int, kB_str, o_subD, o_sub, o_subT, at0, at1, at2, at3, at4, ix0, ix1, ix2, ix3, o_len, o_lenT, o_abs, o_min2, o_max2, o_int, o_intb, o_tup, o_tupt, o_lst, o_lstt, o_rev, o_lrevl, o_lrevt, o_isi, o_isi2, i_int, i_bl, i_lst, i_tup, i_str, i_non, o_slu, o_slsu, o_sll, o_sla, o_slut, o_sllt, o_all, o_any, o_sum, o_srt, o_srtT, o_stp, o_lrng1, o_lrng2, n_seqL, n_seqT, n_enumL, n_enumT, n_rev, n_revT, n_zipL, n_zipT, n_rng1, n_rng2, n_revr, ownVar, ownS, getS, lstB, os_setS, stO_some, stO_none, stB_un, stB_sh, stB_ow, putS, odTs, odT, odAs, odA, refs, nodupB, backs, back1, retE, outS, wipeS, giveS, plainS, tgtF, asgs, mkSeq, T.isNon, okFor, setsS, setsL, List.getElem?_cons_zero, List.getElem?_cons_succ, List.getElem?_nil, List.set_cons_zero, List.set_cons_succ, List.length_cons, List.length_nil, List.length_map, List.cons_append, List.nil_append, List.append_nil, List.replicate, List.getD_cons_zero, List.getD_cons_succ, Option.getD, List.contains_nil, List.contains_cons, Bool.not_true, Bool.not_false, Bool.and_true, Bool.true_and, Bool.and_self, if_true, if_false, true_and, and_true, ite_true, ite_false, reduceIte, Bool.false_eq_true, Bool.true_eq_false, decide_true, decide_false, decide_eq_true_eq, eq_self, Nat.reduceAdd, Nat.reduceLT, Nat.reduceSub, Int.reduceLT, Int.reduceLE, Int.reduceToNat, Int.reduceAbs, Int.reducePow, Int.natAbs_natCast, Nat.reducePow, Nat.reduceLeDiff, Nat.reduceMul, Nat.reduceBEq, Bool.or_true, Bool.or_false, Bool.true_or, Bool.false_or, Int.reduceNeg, $a,*])
  | `(tactic| dsimp! only [$a,*] $l:location) => `(tactic| simp only [w_nil, w_cons, w_set, w_unp, w_par, w_aug, w_sts, w_dst, w_st2, os_stD, os_stL, two2_t, w_rdv, w_dnew, w_tmt, w_fnv, w_cal, w_dsp, w_dgt, w_app, w_ext, w_ins, w_ixl, w_exp, w_ret, w_retn, w_ife, w_non, w_bl, w_int, w_str, w_var, w_glb, w_tup, w_lst, w_op, w_chn, w_not, w_ifx, w_bop, w_b1, w_b2, w_call, w_do, w_pop, w_fs0, w_fs, w_os0, w_os, w_ts0, w_ts1, ok_ok, ok_bad, ok_bind, os_some, os_none, os_bind, os_map, os_ifn, bl_bl, fn_nx, fn_rt, rt_nx, rt_rt, o_bin, b_add, b_sub, b_and, b_or, b_xor, b_mod, b_fdiv, b_mul, b_pow, b_shl, b_shr, b_cat, b_catT, b_rep, a_add, a_sub, a_and, a_or, a_xor, a_shr, a_shl, a_fdiv, o_neg, o_inv, o_cmp, c_eq, c_ne, c_lt, c_le, c_gt, c_ge, c_isn, c_notn, c_inl, c_ninl, c_int, c_nint, c_ind, c_nind, kB_int, kB_str, o_subD, o_sub, o_subT, at0, at1, at2, at3, at4, ix0, ix1, ix2, ix3, o_len, o_lenT, o_abs, o_min2, o_max2, o_int, o_intb, o_tup, o_tupt, o_lst, o_lstt, o_rev, o_lrevl, o_lrevt, o_isi, o_isi2, i_int, i_bl, i_lst, i_tup, i_str, i_non, o_slu, o_slsu, o_sll, o_sla, o_slut, o_sllt, o_all, o_any, o_sum, o_srt, o_srtT, o_stp, o_lrng1, o_lrng2, n_seqL, n_seqT, n_enumL, n_enumT, n_rev, n_revT, n_zipL, n_zipT, n_rng1, n_rng2, n_revr, ownVar, ownS, getS, lstB, os_setS, stO_some, stO_none, stB_un, stB_sh, stB_ow, putS, odTs, odT, odAs, odA, refs, nodupB, backs, back1, retE, outS, wipeS, giveS, plainS, tgtF, asgs, mkSeq, T.isNon, okFor, setsS, setsL, List.getElem?_cons_zero, List.getElem?_cons_succ, List.getElem?_nil, List.set_cons_zero, List.set_cons_succ, List.length_cons, List.length_nil, List.length_map, List.cons_append, List.nil_append, List.append_nil, List.replicate, List.getD_cons_zero, List.getD_cons_succ, Option.getD, List.contains_nil, List.contains_cons, Bool.not_true, Bool.not_false, Bool.and_true, Bool.true_and, Bool.and_self, if_true, if_false, true_and, and_true, ite_true, ite_false, reduceIte, Bool.false_eq_true, Bool.true_eq_false, decide_true, decide_false, decide_eq_true_eq, eq_self, Nat.reduceAdd, Nat.reduceLT, Nat.reduceSub, Int.reduceLT, Int.reduceLE, Int.reduceToNat, Int.reduceAbs, Int.reducePow, Int.natAbs_natCast, Nat.reducePow, Nat.reduceLeDiff, Nat.reduceMul, Nat.reduceBEq, Bool.or_true, Bool.or_false, Bool.true_or, Bool.false_or, Int.reduceNeg, $a,*] $l)
def x_is_even : FD where
  name := "is_even"
  ps := ["leading"]
  N := ["leading"]
  body := [
    .ret (.op (.cmp .Eq) [(.op .srt [(.var 0)]), (.op (.lrng false) [(.op .len [(.var 0)])])])]
def EvenZ (W : Nat) (es : List Int) : Prop := es.Perm (stayZ W)
theorem o_srtZ {es : List Int} : opF .srt [.tup (tZ es)] = some (true, .lst (tZ (sortI es))) := o_srtT
theorem stay_sorted (W : Nat) : (stayZ W).Pairwise (· ≤ ·) := by
  unfold stayZ
  refine List.pairwise_map.mpr ((List.pairwise_lt_range).imp fun {a b} h => ?_)
  omega
theorem stay_nodup (W : Nat) : (stayZ W).Nodup := by
  unfold stayZ
  refine List.pairwise_map.mpr ((List.pairwise_lt_range).imp fun {a b} h => ?_)
  omega
theorem stay_mem {W : Nat} {e : Int} : e ∈ stayZ W ↔ 0 ≤ e ∧ e < W := by
  unfold stayZ
  rw [List.mem_map]
  constructor
  · rintro ⟨n, hn, rfl⟩
    have := List.mem_range.mp hn
    omega
  · rintro ⟨h1, h2⟩
    exact ⟨e.toNat, List.mem_range.mpr (by omega), by omega⟩
theorem even_iff (es : List Int) : sortI es = stayZ es.length ↔ EvenZ es.length es := by
  constructor
  · intro h
    exact (sortI_perm es).symm.trans (by rw [h])
  · intro h
    exact sorted_uniq ((sortI_perm es).trans h) (sortI_sorted es) (stay_sorted _)
def evenB (es : List Int) : Bool := decide (sortI es = stayZ es.length)
theorem evenB_iff {es : List Int} : evenB es = true ↔ EvenZ es.length es := by
  unfold evenB
  rw [decide_eq_true_eq]
  exact even_iff es
section
variable {W : Nat} {es : List Int}
theorem EvenZ.len (h : EvenZ W es) : es.length = W := by rw [h.length_eq, stayZ_len]
theorem EvenZ.lead (h : EvenZ W es) : LeadZ W es := ⟨h.len, fun e he => by
  have := stay_mem.mp (h.mem_iff.mp he)
  omega⟩
theorem EvenZ.nodup (h : EvenZ W es) : es.Nodup := h.nodup_iff.mpr (stay_nodup W)
theorem EvenZ.mem (h : EvenZ W es) {q : Nat} (hq : q < W) : (q : Int) ∈ es := h.mem_iff.mpr (stay_mem.mpr ⟨by omega, by omega⟩)
/-- where an entry stands, of the first i -/
def bkF (es : List Int) (i : Nat) (q : Nat) : Int := if es.idxOf (q : Int) < i then ((es.idxOf (q : Int) : Nat) : Int) else 0
def backZ (W : Nat) (es : List Int) : List Int := (List.range W).map fun q : Nat => ((es.idxOf (q : Int) : Nat) : Int)
theorem idx_at (h : es.Nodup) {i : Nat} {e : Int} (hi : es[i]? = some e) : es.idxOf e = i := by
  obtain ⟨h1, h2⟩ := List.getElem?_eq_some_iff.mp hi
  subst h2
  exact h.idxOf_getElem i h1
theorem bk_step (h : EvenZ W es) {i q : Nat} (hi : es[i]? = some (q : Int)) : ((List.range W).map (bkF es i)).set q (i : Int) = (List.range W).map (bkF es (i + 1)) := by
  rw [set_map]
  refine List.map_congr_left fun p hp => ?_
  have hix := idx_at h.nodup hi
  unfold bkF
  by_cases e : p = q
  · subst e
    rw [if_pos rfl, hix, if_pos (by omega)]
  · rw [if_neg e]
    have hne : es.idxOf (p : Int) ≠ i := fun z => by
      have hm := h.mem (List.mem_range.mp hp)
      have h2 := List.getElem_idxOf (List.idxOf_lt_length_iff.mpr hm)
      have h3 : es[es.idxOf (p : Int)]? = some (p : Int) := by
        rw [List.getElem?_eq_getElem (List.idxOf_lt_length_iff.mpr hm), h2]
      rw [z, hi] at h3
      have := Option.some.inj h3
      omega
    by_cases c : es.idxOf (p : Int) < i
    · rw [if_pos c, if_pos (by omega)]
    · rw [if_neg c, if_neg (by omega)]
theorem bk_all (h : EvenZ W es) : (List.range W).map (bkF es W) = backZ W es := by
  unfold backZ
  refine List.map_congr_left fun p hp => ?_
  unfold bkF
  have hm := h.mem (List.mem_range.mp hp)
  have := List.idxOf_lt_length_iff.mpr hm
  rw [h.len] at this
  rw [if_pos this]
theorem bk_zero (W : Nat) (es : List Int) : (List.range W).map (bkF es 0) = List.replicate W 0 := by
  rw [List.map_congr_left (g := fun _ => (0 : Int)) fun p _ => by unfold bkF; rw [if_neg (by omega)], map_rep, List.length_range]
theorem back_then (h : EvenZ W es) : thenZ es (backZ W es) = stayZ W := by
  unfold thenZ backZ stayZ
  rw [List.map_map]
  refine List.map_congr_left fun p hp => ?_
  have hm := h.mem (List.mem_range.mp hp)
  show (if 0 ≤ ((es.idxOf (p : Int) : Nat) : Int) then es.getD ((es.idxOf (p : Int) : Nat) : Int).toNat 0 else ((es.idxOf (p : Int) : Nat) : Int)) = _
  rw [if_pos (by omega), Int.toNat_natCast, List.getD_eq_getElem?_getD, List.getElem?_eq_getElem (List.idxOf_lt_length_iff.mpr hm), List.getElem_idxOf]
  rfl
theorem back_lead (h : EvenZ W es) : LeadZ W (backZ W es) := ⟨by unfold backZ; rw [List.length_map, List.length_range], fun e he => by
  obtain ⟨p, hp, rfl⟩ := List.mem_map.mp he
  have := List.idxOf_lt_length_iff.mpr (h.mem (List.mem_range.mp hp))
  rw [h.len] at this
  omega⟩
end
section
variable {P : List FD} {glb : Nat → Option T} {wf d f fe fm : Nat}
theorem is_even_ok {es : List Int} (hf : P[f]? = some x_is_even) (hn : es.length ≤ 4096) : Ok (callF P glb wf (d + 1) f [.sh (.tup (tZ es))]) fun r outs => r = (false, .bl (evenB es)) ∧ outs = [.un] := by
  refine call_ok hf rfl ?_
  unfold x_is_even
  dsimp! only [o_srtZ, tZ_len, Int.toNat_natCast, rng_stay]
  refine ⟨small_ok (by omega), ?_⟩
  dsimp! only [c_eqLZ]
  rfl
end
end MP
namespace MP
open PySem
local macro_rules
  | `(tactic| dsimp! only [$a,*]) => `(tactic| simp only [w_nil, w_cons, w_set, w_unp, w_par, w_aug, w_sts, w_dst, w_st2, os_stD, os_stL, two2_t, w_rdv, w_dnew, w_tmt, w_fnv, w_cal, w_dsp, w_dgt, w_app, w_ext, w_ins, w_ixl, w_exp, w_ret, w_retn, w_ife, w_non, w_bl, w_int, w_str, w_var, w_glb, w_tup, w_lst, w_op, w_chn, w_not, w_ifx, w_bop, w_b1, w_b2, w_call, w_do, w_pop, w_fs0, w_fs, w_os0, w_os, w_ts0, w_ts1, ok_ok, ok_bad, ok_bind, os_some, os_none, os_bind, os_map, os_ifn, bl_bl, fn_nx, fn_rt, rt_nx, rt_rt, o_bin, b_add, b_sub, b_and, b_or, b_xor, b_mod, b_fdiv, b_mul, b_pow, b_shl, b_shr, b_cat, b_catT, b_rep, a_add, a_sub, a_and, a_or, a_xor, a_shr, a_shl, a_fdiv, o_neg, o_inv, o_cmp, c_eq, c_ne, c_lt, c_le, c_gt, c_ge, c_isn, c_notn, c_inl, c_ninl, c_int, c_nint, c_ind, c_nind, kB_int, kB_str, o_subD, o_sub, o_subT, at0, at1, at2, at3, at4, ix0, ix1, ix2, ix3, o_len, o_lenT, o_abs, o_min2, o_max2, o_int, o_intb, o_tup, o_tupt, o_lst, o_lstt, o_rev, o_lrevl, o_lrevt, o_isi, o_isi2, i_int, i_bl, i_lst, i_tup, i_str, i_non, o_slu, o_slsu, o_sll, o_sla, o_slut, o_sllt, o_all, o_any, o_sum, o_srt, o_srtT, o_stp, o_lrng1, o_lrng2, n_seqL, n_seqT, n_enumL, n_enumT, n_rev, n_revT, n_zipL, n_zipT, n_rng1, n_rng2, n_revr, ownVar, ownS, getS, lstB, os_setS, stO_some, stO_none, stB_un, stB_sh, stB_ow, putS, odTs, odT, odAs, odA, refs, nodupB, backs, back1, retE, outS, wipeS, giveS, plainS, tgtF, asgs, mkSeq, T.isNon, okFor, setsS, setsL, List.getElem?_cons_zero, List.getElem?_cons_succ, List.getElem?_nil, List.set_cons_zero, List.set_cons_succ, List.length_cons, List.length_nil, List.length_map, List.cons_append, List.nil_append, List.append_nil, List.replicate, List.getD_cons_zero, List.getD_cons_succ, Option.getD, List.contains_nil, List.contains_cons, Bool.not_true, Bool.not_false, Bool.and_true, Bool.true_and, Bool.and_self, if_true, if_false, true_and, and_true, ite_true, ite_false, reduceIte, Bool.false_eq_true, Bool.true_eq_false, decide_true, decide_false, decide_eq_true_eq, eq_self, Nat.reduceAdd, Nat.reduceLT, Nat.reduceSub, Int.reduceLT, Int.reduceLE, Int.reduceToNat, Int.reduceAbs, Int.reducePow, Int.natAbs_natCast, Nat.reducePow, Nat.reduceLeDiff, Nat.reduceMul, Nat.reduceBEq, Bool.or_true, Bool.or_false, Bool.true_or, Bool.false_or, Int.reduceNeg, $a,*])
  | `(tactic| dsimp! only [$a,*] $l:location) => `(tactic| simp only [w_nil, w_cons, w_set, w_unp, w_par, w_aug, w_sts, w_dst, w_st2, os_stD, os_stL, two2_t, w_rdv, w_dnew, w_tmt, w_fnv, w_cal, w_dsp, w_dgt, w_app, w_ext, w_ins, w_ixl, w_exp, w_ret, w_retn, w_ife, w_non, w_bl, w_int, w_str, w_var, w_glb, w_tup, w_lst, w_op, w_chn, w_not, w_ifx, w_bop, w_b1, w_b2, w_call, w_do, w_pop, w_fs0, w_fs, w_os0, w_os, w_ts0, w_ts1, ok_ok, ok_bad, ok_bind, os_some, os_none, os_bind, os_map, os_ifn, bl_bl, fn_nx, fn_rt, rt_nx, rt_rt, o_bin, b_add, b_sub, b_and, b_or, b_xor, b_mod, b_fdiv, b_mul, b_pow, b_shl, b_shr, b_cat, b_catT, b_rep, a_add, a_sub, a_and, a_or, a_xor, a_shr, a_shl, a_fdiv, o_neg, o_inv, o_cmp, c_eq, c_ne, c_lt, c_le, c_gt, c_ge, c_isn, c_notn, c_inl, c_ninl, c_int, c_nint, c_ind, c_nind, kB_int, kB_str, o_subD, o_sub, o_subT, at0, at1, at2, at3, at4, ix0, ix1, ix2, ix3, o_len, o_lenT, o_abs, o_min2, o_max2, o_int, o_intb, o_tup, o_tupt, o_lst, o_lstt, o_rev, o_lrevl, o_lrevt, o_isi, o_isi2, i_int, i_bl, i_lst, i_tup, i_str, i_non, o_slu, o_slsu, o_sll, o_sla, o_slut, o_sllt, o_all, o_any, o_sum, o_srt, o_srtT, o_stp, o_lrng1, o_lrng2, n_seqL, n_seqT, n_enumL, n_enumT, n_rev, n_revT, n_zipL, n_zipT, n_rng1, n_rng2, n_revr, ownVar, ownS, getS, lstB, os_setS, stO_some, stO_none, stB_un, stB_sh, stB_ow, putS, odTs, odT, odAs, odA, refs, nodupB, backs, back1, retE, outS, wipeS, giveS, plainS, tgtF, asgs, mkSeq, T.isNon, okFor, setsS, setsL, List.getElem?_cons_zero, List.getElem?_cons_succ, List.getElem?_nil, List.set_cons_zero, List.set_cons_succ, List.length_cons, List.length_nil, List.length_map, List.cons_append, List.nil_append, List.append_nil, List.replicate, List.getD_cons_zero, List.getD_cons_succ, Option.getD, List.contains_nil, List.contains_cons, Bool.not_true, Bool.not_false, Bool.and_true, Bool.true_and, Bool.and_self, if_true, if_false, true_and, and_true, ite_true, ite_false, reduceIte, Bool.false_eq_true, Bool.true_eq_false, decide_true, decide_false, decide_eq_true_eq, eq_self, Nat.reduceAdd, Nat.reduceLT, Nat.reduceSub, Int.reduceLT, Int.reduceLE, Int.reduceToNat, Int.reduceAbs, Int.reducePow, Int.natAbs_natCast, Nat.reducePow, Nat.reduceLeDiff, Nat.reduceMul, Nat.reduceBEq, Bool.or_true, Bool.or_false, Bool.true_or, Bool.false_or, Int.reduceNeg, $a,*] $l)
local macro_rules
  | `(tactic| simp! only [$a,*]) => `(tactic| simp only [w_nil, w_cons, w_set, w_unp, w_par, w_aug, w_sts, w_dst, w_st2, os_stD, os_stL, two2_t, w_rdv, w_dnew, w_tmt, w_fnv, w_cal, w_dsp, w_dgt, w_app, w_ext, w_ins, w_ixl, w_exp, w_ret, w_retn, w_ife, w_non, w_bl, w_int, w_str, w_var, w_glb, w_tup, w_lst, w_op, w_chn, w_not, w_ifx, w_bop, w_b1, w_b2, w_call, w_do, w_pop, w_fs0, w_fs, w_os0, w_os, w_ts0, w_ts1, ok_ok, ok_bad, ok_bind, os_some, os_none, os_bind, os_map, os_ifn, bl_bl, fn_nx, fn_rt, rt_nx, rt_rt, o_bin, b_add, b_sub, b_and, b_or, b_xor, b_mod, b_fdiv, b_mul, b_pow, b_shl, b_shr, b_cat, b_catT, b_rep, a_add, a_sub, a_and, a_or, a_xor, a_shr, a_shl, a_fdiv, o_neg, o_inv, o_cmp, c_eq, c_ne, c_lt, c_le, c_gt, c_ge, c_isn, c_notn, c_inl, c_ninl, c_int, c_nint, c_ind, c_nind, kB_int, kB_str, o_subD, o_sub, o_subT, at0, at1, at2, at3, at4, ix0, ix1, ix2, ix3, o_len, o_lenT, o_abs, o_min2, o_max2, o_int, o_intb, o_tup, o_tupt, o_lst, o_lstt, o_rev, o_lrevl, o_lrevt, o_isi, o_isi2, i_int, i_bl, i_lst, i_tup, i_str, i_non, o_slu, o_slsu, o_sll, o_sla, o_slut, o_sllt, o_all, o_any, o_sum, o_srt, o_srtT, o_stp, o_lrng1, o_lrng2, n_seqL, n_seqT, n_enumL, n_enumT, n_rev, n_revT, n_zipL, n_zipT, n_rng1, n_rng2, n_revr, ownVar, ownS, getS, lstB, os_setS, stO_some, stO_none, stB_un, stB_sh, stB_ow, putS, odTs, odT, odAs, odA, refs, nodupB, backs, back1, retE, outS, wipeS, giveS, plainS, tgtF, asgs, mkSeq, T.isNon, okFor, setsS, setsL, List.getElem?_cons_zero, List.getElem?_cons_succ, List.getElem?_nil, List.set_cons_zero, List.set_cons_succ, List.length_cons, List.length_nil, List.length_map, List.cons_append, List.nil_append, List.append_nil, List.replicate, List.getD_cons_zero, List.getD_cons_succ, Option.getD, List.contains_nil, List.contains_cons, Bool.not_true, Bool.not_false, Bool.and_true, Bool.true_and, Bool.and_self, if_true, if_false, true_and, and_true, ite_true, ite_false, reduceIte, Bool.false_eq_true, Bool.true_eq_false, decide_true, decide_false, decide_eq_true_eq, eq_self, Nat.reduceAdd, Nat.reduceLT, Nat.reduceSub, Int.reduceLT, Int.reduceLE, Int.reduceToNat, Int.reduceAbs, Int.reducePow, Int.natAbs_natCast, Nat.reducePow, Nat.reduceLeDiff, Nat.reduceMul, Nat.reduceBEq, Bool.or_true, Bool.or_false, Bool.true_or, Bool.false_or, Int.reduceNeg, sq_and_and, sq_and_or, sq_and_gather, sq_and_strew, sq_and_left, sq_and_right, sq_and_turn, sq_and_swap, sq_and_copy, si_and_M, si_and_B, si_and_S, si_and_L, sn_and, sq_or_and, sq_or_or, sq_or_gather, sq_or_strew, sq_or_left, sq_or_right, sq_or_turn, sq_or_swap, sq_or_copy, si_or_M, si_or_B, si_or_S, si_or_L, sn_or, sq_gather_and, sq_gather_or, sq_gather_gather, sq_gather_strew, sq_gather_left, sq_gather_right, sq_gather_turn, sq_gather_swap, sq_gather_copy, si_gather_M, si_gather_B, si_gather_S, si_gather_L, sn_gather, sq_strew_and, sq_strew_or, sq_strew_gather, sq_strew_strew, sq_strew_left, sq_strew_right, sq_strew_turn, sq_strew_swap, sq_strew_copy, si_strew_M, si_strew_B, si_strew_S, si_strew_L, sn_strew, sq_left_and, sq_left_or, sq_left_gather, sq_left_strew, sq_left_left, sq_left_right, sq_left_turn, sq_left_swap, sq_left_copy, si_left_M, si_left_B, si_left_S, si_left_L, sn_left, sq_right_and, sq_right_or, sq_right_gather, sq_right_strew, sq_right_left, sq_right_right, sq_right_turn, sq_right_swap, sq_right_copy, si_right_M, si_right_B, si_right_S, si_right_L, sn_right, sq_turn_and, sq_turn_or, sq_turn_gather, sq_turn_strew, sq_turn_left, sq_turn_right, sq_turn_turn, sq_turn_swap, sq_turn_copy, si_turn_M, si_turn_B, si_turn_S, si_turn_L, sn_turn, sq_swap_and, sq_swap_or, sq_swap_gather, sq_swap_strew, sq_swap_left, sq_swap_right, sq_swap_turn, sq_swap_swap, sq_swap_copy, si_swap_M, si_swap_B, si_swap_S, si_swap_L, sn_swap, sq_copy_and, sq_copy_or, sq_copy_gather, sq_copy_strew, sq_copy_left, sq_copy_right, sq_copy_turn, sq_copy_swap, sq_copy_copy, si_copy_M, si_copy_B, si_copy_S, si_copy_L, sn_copy, snb_and, snb_or, snb_gather, snb_strew, snb_left, snb_right, snb_turn, snb_swap, snb_copy, $a,*])
  | `(tactic| simp! only [$a,*] $l:location) => `(tactic| simp only [w_nil, w_cons, w_set, w_unp, w_par, w_aug, w_sts, w_dst, w_st2, os_stD, os_stL, two2_t, w_rdv, w_dnew, w_tmt, w_fnv, w_cal, w_dsp, w_dgt, w_app, w_ext, w_ins, w_ixl, w_exp, w_ret, w_retn, w_ife, w_non, w_bl, w_int, w_str, w_var, w_glb, w_tup, w_lst, w_op, w_chn, w_not, w_ifx, w_bop, w_b1, w_b2, w_call, w_do, w_pop, w_fs0, w_fs, w_os0, w_os, w_ts0, w_ts1, ok_ok, ok_bad, ok_bind, os_some, os_none, os_bind, os_map, os_ifn, bl_bl, fn_nx, fn_rt, rt_nx, rt_rt, o_bin, b_add, b_sub, b_and, b_or, b_xor, b_mod, b_fdiv, b_mul, b_pow, b_shl, b_shr, b_cat, b_catT, b_rep, a_add, a_sub, a_and, a_or, a_xor, a_shr, a_shl, a_fdiv, o_neg, o_inv, o_cmp, c_eq, c_ne, c_lt, c_le, c_gt, c_ge, c_isn, c_notn, c_inl, c_ninl, c_int, c_nint, c_ind, c_nind, kB_int, kB_str, o_subD, o_sub, o_subT, at0, at1, at2, at3, at4, ix0, ix1, ix2, ix3, o_len, o_lenT, o_abs, o_min2, o_max2, o_int, o_intb, o_tup, o_tupt, o_lst, o_lstt, o_rev, o_lrevl, o_lrevt, o_isi, o_isi2, i_int, i_bl, i_lst, i_tup, i_str, i_non, o_slu, o_slsu, o_sll, o_sla, o_slut, o_sllt, o_all, o_any, o_sum, o_srt, o_srtT, o_stp, o_lrng1, o_lrng2, n_seqL, n_seqT, n_enumL, n_enumT, n_rev, n_revT, n_zipL, n_zipT, n_rng1, n_rng2, n_revr, ownVar, ownS, getS, lstB, os_setS, stO_some, stO_none, stB_un, stB_sh, stB_ow, putS, odTs, odT, odAs, odA, refs, nodupB, backs, back1, retE, outS, wipeS, giveS, plainS, tgtF, asgs, mkSeq, T.isNon, okFor, setsS, setsL, List.getElem?_cons_zero, List.getElem?_cons_succ, List.getElem?_nil, List.set_cons_zero, List.set_cons_succ, List.length_cons, List.length_nil, List.length_map, List.cons_append, List.nil_append, List.append_nil, List.replicate, List.getD_cons_zero, List.getD_cons_succ, Option.getD, List.contains_nil, List.contains_cons, Bool.not_true, Bool.not_false, Bool.and_true, Bool.true_and, Bool.and_self, if_true, if_false, true_and, and_true, ite_true, ite_false, reduceIte, Bool.false_eq_true, Bool.true_eq_false, decide_true, decide_false, decide_eq_true_eq, eq_self, Nat.reduceAdd, Nat.reduceLT, Nat.reduceSub, Int.reduceLT, Int.reduceLE, Int.reduceToNat, Int.reduceAbs, Int.reducePow, Int.natAbs_natCast, Nat.reducePow, Nat.reduceLeDiff, Nat.reduceMul, Nat.reduceBEq, Bool.or_true, Bool.or_false, Bool.true_or, Bool.false_or, Int.reduceNeg, sq_and_and, sq_and_or, sq_and_gather, sq_and_strew, sq_and_left, sq_and_right, sq_and_turn, sq_and_swap, sq_and_copy, si_and_M, si_and_B, si_and_S, si_and_L, sn_and, sq_or_and, sq_or_or, sq_or_gather, sq_or_strew, sq_or_left, sq_or_right, sq_or_turn, sq_or_swap, sq_or_copy, si_or_M, si_or_B, si_or_S, si_or_L, sn_or, sq_gather_and, sq_gather_or, sq_gather_gather, sq_gather_strew, sq_gather_left, sq_gather_right, sq_gather_turn, sq_gather_swap, sq_gather_copy, si_gather_M, si_gather_B, si_gather_S, si_gather_L, sn_gather, sq_strew_and, sq_strew_or, sq_strew_gather, sq_strew_strew, sq_strew_left, sq_strew_right, sq_strew_turn, sq_strew_swap, sq_strew_copy, si_strew_M, si_strew_B, si_strew_S, si_strew_L, sn_strew, sq_left_and, sq_left_or, sq_left_gather, sq_left_strew, sq_left_left, sq_left_right, sq_left_turn, sq_left_swap, sq_left_copy, si_left_M, si_left_B, si_left_S, si_left_L, sn_left, sq_right_and, sq_right_or, sq_right_gather, sq_right_strew, sq_right_left, sq_right_right, sq_right_turn, sq_right_swap, sq_right_copy, si_right_M, si_right_B, si_right_S, si_right_L, sn_right, sq_turn_and, sq_turn_or, sq_turn_gather, sq_turn_strew, sq_turn_left, sq_turn_right, sq_turn_turn, sq_turn_swap, sq_turn_copy, si_turn_M, si_turn_B, si_turn_S, si_turn_L, sn_turn, sq_swap_and, sq_swap_or, sq_swap_gather, sq_swap_strew, sq_swap_left, sq_swap_right, sq_swap_turn, sq_swap_swap, sq_swap_copy, si_swap_M, si_swap_B, si_swap_S, si_swap_L, sn_swap, sq_copy_and, sq_copy_or, sq_copy_gather, sq_copy_strew, sq_copy_left, sq_copy_right, sq_copy_turn, sq_copy_swap, sq_copy_copy, si_copy_M, si_copy_B, si_copy_S, si_copy_L, sn_copy, snb_and, snb_or, snb_gather, snb_strew, snb_left, snb_right, snb_turn, snb_swap, snb_copy, $a,*] $l)
end MP
namespace MP
open PySem
local macro_rules
  | `(tactic| dsimp! only [$a,*]) => `(tactic| simp only [w_nil, w_cons, w_set, w_unp, w_par, w_aug, w_sts, w_dst, w_st2, os_stD, os_stL, two2_t, w_rdv, w_dnew, w_tmt, w_fnv, w_cal, w_dsp, w_dgt, w_app, w_ext, w_ins, w_ixl, w_exp, w_ret, w_retn, w_ife, w_non, w_bl, w_int, w_str, w_var, w_glb, w_tup, w_lst, w_op, w_chn, w_not, w_ifx, w_bop, w_b1, w_b2, w_call, w_do, w_pop, w_fs0, w_fs, w_os0, w_os, w_ts0, w_ts1, ok_ok, ok_bad, ok_bind, os_some, os_none, os_bind, os_map, os_ifn, bl_bl, fn_nx, fn_rt, rt_nx, rt_rt, o_bin, b_add, b_sub, b_and, b_or, b_xor, b_mod, b_fdiv, b_mul, b_pow, b_shl, b_shr, b_cat, b_catT, b_rep, a_add, a_sub, a_and, a_or, a_xor, a_shr, a_shl, a_fdiv, o_neg, o_inv, o_cmp, c_eq, c_ne, c_lt, c_le, c_gt, c_ge, c_isn, c_notn, c_inl, c_ninl, c_int, c_nint, c_ind, c_nind, kB_int, kB_str, o_subD, o_sub, o_subT, at0, at1, at2, at3, at4, ix0, ix1, ix2, ix3, o_len, o_lenT, o_abs, o_min2, o_max2, o_int, o_intb, o_tup, o_tupt, o_lst, o_lstt, o_rev, o_lrevl, o_lrevt, o_isi, o_isi2, i_int, i_bl, i_lst, i_tup, i_str, i_non, o_slu, o_slsu, o_sll, o_sla, o_slut, o_sllt, o_all, o_any, o_sum, o_srt, o_srtT, o_stp, o_lrng1, o_lrng2, n_seqL, n_seqT, n_enumL, n_enumT, n_rev, n_revT, n_zipL, n_zipT, n_rng1, n_rng2, n_revr, ownVar, ownS, getS, lstB, os_setS, stO_some, stO_none, stB_un, stB_sh, stB_ow, putS, odTs, odT, odAs, odA, refs, nodupB, backs, back1, retE, outS, wipeS, giveS, plainS, tgtF, asgs, mkSeq, T.isNon, okFor, setsS, setsL, List.getElem?_cons_zero, List.getElem?_cons_succ, List.getElem?_nil, List.set_cons_zero, List.set_cons_succ, List.length_cons, List.length_nil, List.length_map, List.cons_append, List.nil_append, List.append_nil, List.replicate, List.getD_cons_zero, List.getD_cons_succ, Option.getD, List.contains_nil, List.contains_cons, Bool.not_true, Bool.not_false, Bool.and_true, Bool.true_and, Bool.and_self, if_true, if_false, true_and, and_true, ite_true, ite_false, reduceIte, Bool.false_eq_true, Bool.true_eq_false, decide_true, decide_false, decide_eq_true_eq, eq_self, Nat.reduceAdd, Nat.reduceLT, Nat.reduceSub, Int.reduceLT, Int.reduceLE, Int.reduceToNat, Int.reduceAbs, Int.reducePow, Int.natAbs_natCast, Nat.reducePow, Nat.reduceLeDiff, Nat.reduceMul, Nat.reduceBEq, Bool.or_true, Bool.or_false, Bool.true_or, Bool.false_or, Int.reduceNeg, $a,*])
  | `(tactic| dsimp! only [$a,*] $l:location) => `(tactic| simp only [w_nil, w_cons, w_set, w_unp, w_par, w_aug, w_sts, w_dst, w_st2, os_stD, os_stL, two2_t, w_rdv, w_dnew, w_tmt, w_fnv, w_cal, w_dsp, w_dgt, w_app, w_ext, w_ins, w_ixl, w_exp, w_ret, w_retn, w_ife, w_non, w_bl, w_int, w_str, w_var, w_glb, w_tup, w_lst, w_op, w_chn, w_not, w_ifx, w_bop, w_b1, w_b2, w_call, w_do, w_pop, w_fs0, w_fs, w_os0, w_os, w_ts0, w_ts1, ok_ok, ok_bad, ok_bind, os_some, os_none, os_bind, os_map, os_ifn, bl_bl, fn_nx, fn_rt, rt_nx, rt_rt, o_bin, b_add, b_sub, b_and, b_or, b_xor, b_mod, b_fdiv, b_mul, b_pow, b_shl, b_shr, b_cat, b_catT, b_rep, a_add, a_sub, a_and, a_or, a_xor, a_shr, a_shl, a_fdiv, o_neg, o_inv, o_cmp, c_eq, c_ne, c_lt, c_le, c_gt, c_ge, c_isn, c_notn, c_inl, c_ninl, c_int, c_nint, c_ind, c_nind, kB_int, kB_str, o_subD, o_sub, o_subT, at0, at1, at2, at3, at4, ix0, ix1, ix2, ix3, o_len, o_lenT, o_abs, o_min2, o_max2, o_int, o_intb, o_tup, o_tupt, o_lst, o_lstt, o_rev, o_lrevl, o_lrevt, o_isi, o_isi2, i_int, i_bl, i_lst, i_tup, i_str, i_non, o_slu, o_slsu, o_sll, o_sla, o_slut, o_sllt, o_all, o_any, o_sum, o_srt, o_srtT, o_stp, o_lrng1, o_lrng2, n_seqL, n_seqT, n_enumL, n_enumT, n_rev, n_revT, n_zipL, n_zipT, n_rng1, n_rng2, n_revr, ownVar, ownS, getS, lstB, os_setS, stO_some, stO_none, stB_un, stB_sh, stB_ow, putS, odTs, odT, odAs, odA, refs, nodupB, backs, back1, retE, outS, wipeS, giveS, plainS, tgtF, asgs, mkSeq, T.isNon, okFor, setsS, setsL, List.getElem?_cons_zero, List.getElem?_cons_succ, List.getElem?_nil, List.set_cons_zero, List.set_cons_succ, List.length_cons, List.length_nil, List.length_map, List.cons_append, List.nil_append, List.append_nil, List.replicate, List.getD_cons_zero, List.getD_cons_succ, Option.getD, List.contains_nil, List.contains_cons, Bool.not_true, Bool.not_false, Bool.and_true, Bool.true_and, Bool.and_self, if_true, if_false, true_and, and_true, ite_true, ite_false, reduceIte, Bool.false_eq_true, Bool.true_eq_false, decide_true, decide_false, decide_eq_true_eq, eq_self, Nat.reduceAdd, Nat.reduceLT, Nat.reduceSub, Int.reduceLT, Int.reduceLE, Int.reduceToNat, Int.reduceAbs, Int.reducePow, Int.natAbs_natCast, Nat.reducePow, Nat.reduceLeDiff, Nat.reduceMul, Nat.reduceBEq, Bool.or_true, Bool.or_false, Bool.true_or, Bool.false_or, Int.reduceNeg, $a,*] $l)
end MP
namespace MP
open PySem
local macro_rules
  | `(tactic| dsimp! only [$a,*]) => `(tactic| simp only [w_nil, w_cons, w_set, w_unp, w_par, w_aug, w_sts, w_dst, w_st2, os_stD, os_stL, two2_t, w_rdv, w_dnew, w_tmt, w_fnv, w_cal, w_dsp, w_dgt, w_app, w_ext, w_ins, w_ixl, w_exp, w_ret, w_retn, w_ife, w_non, w_bl, w_int, w_str, w_var, w_glb, w_tup, w_lst, w_op, w_chn, w_not, w_ifx, w_bop, w_b1, w_b2, w_call, w_do, w_pop, w_fs0, w_fs, w_os0, w_os, w_ts0, w_ts1, ok_ok, ok_bad, ok_bind, os_some, os_none, os_bind, os_map, os_ifn, bl_bl, fn_nx, fn_rt, rt_nx, rt_rt, o_bin, b_add, b_sub, b_and, b_or, b_xor, b_mod, b_fdiv, b_mul, b_pow, b_shl, b_shr, b_cat, b_catT, b_rep, a_add, a_sub, a_and, a_or, a_xor, a_shr, a_shl, a_fdiv, o_neg, o_inv, o_cmp, c_eq, c_ne, c_lt, c_le, c_gt, c_ge, c_isn, c_notn, c_inl, c_ninl, c_int, c_nint, c_ind, c_nind, kB_int, kB_str, o_subD, o_sub, o_subT, at0, at1, at2, at3, at4, ix0, ix1, ix2, ix3, o_len, o_lenT, o_abs, o_min2, o_max2, o_int, o_intb, o_tup, o_tupt, o_lst, o_lstt, o_rev, o_lrevl, o_lrevt, o_isi, o_isi2, i_int, i_bl, i_lst, i_tup, i_str, i_non, o_slu, o_slsu, o_sll, o_sla, o_slut, o_sllt, o_all, o_any, o_sum, o_srt, o_srtT, o_stp, o_lrng1, o_lrng2, n_seqL, n_seqT, n_enumL, n_enumT, n_rev, n_revT, n_zipL, n_zipT, n_rng1, n_rng2, n_revr, ownVar, ownS, getS, lstB, os_setS, stO_some, stO_none, stB_un, stB_sh, stB_ow, putS, odTs, odT, odAs, odA, refs, nodupB, backs, back1, retE, outS, wipeS, giveS, plainS, tgtF, asgs, mkSeq, T.isNon, okFor, setsS, setsL, List.getElem?_cons_zero, List.getElem?_cons_succ, List.getElem?_nil, List.set_cons_zero, List.set_cons_succ, List.length_cons, List.length_nil, List.length_map, List.cons_append, List.nil_append, List.append_nil, List.replicate, List.getD_cons_zero, List.getD_cons_succ, Option.getD, List.contains_nil, List.contains_cons, Bool.not_true, Bool.not_false, Bool.and_true, Bool.true_and, Bool.and_self, if_true, if_false, true_and, and_true, ite_true, ite_false, reduceIte, Bool.false_eq_true, Bool.true_eq_false, decide_true, decide_false, decide_eq_true_eq, eq_self, Nat.reduceAdd, Nat.reduceLT, Nat.reduceSub, Int.reduceLT, Int.reduceLE, Int.reduceToNat, Int.reduceAbs, Int.reducePow, Int.natAbs_natCast, Nat.reducePow, Nat.reduceLeDiff, Nat.reduceMul, Nat.reduceBEq, Bool.or_true, Bool.or_false, Bool.true_or, Bool.false_or, Int.reduceNeg, $a,*])
  | `(tactic| dsimp! only [$a,*] $l:location) => `(tactic| simp only [w_nil, w_cons, w_set, w_unp, w_par, w_aug, w_sts, w_dst, w_st2, os_stD, os_stL, two2_t, w_rdv, w_dnew, w_tmt, w_fnv, w_cal, w_dsp, w_dgt, w_app, w_ext, w_ins, w_ixl, w_exp, w_ret, w_retn, w_ife, w_non, w_bl, w_int, w_str, w_var, w_glb, w_tup, w_lst, w_op, w_chn, w_not, w_ifx, w_bop, w_b1, w_b2, w_call, w_do, w_pop, w_fs0, w_fs, w_os0, w_os, w_ts0, w_ts1, ok_ok, ok_bad, ok_bind, os_some, os_none, os_bind, os_map, os_ifn, bl_bl, fn_nx, fn_rt, rt_nx, rt_rt, o_bin, b_add, b_sub, b_and, b_or, b_xor, b_mod, b_fdiv, b_mul, b_pow, b_shl, b_shr, b_cat, b_catT, b_rep, a_add, a_sub, a_and, a_or, a_xor, a_shr, a_shl, a_fdiv, o_neg, o_inv, o_cmp, c_eq, c_ne, c_lt, c_le, c_gt, c_ge, c_isn, c_notn, c_inl, c_ninl, c_int, c_nint, c_ind, c_nind, kB_int, kB_str, o_subD, o_sub, o_subT, at0, at1, at2, at3, at4, ix0, ix1, ix2, ix3, o_len, o_lenT, o_abs, o_min2, o_max2, o_int, o_intb, o_tup, o_tupt, o_lst, o_lstt, o_rev, o_lrevl, o_lrevt, o_isi, o_isi2, i_int, i_bl, i_lst, i_tup, i_str, i_non, o_slu, o_slsu, o_sll, o_sla, o_slut, o_sllt, o_all, o_any, o_sum, o_srt, o_srtT, o_stp, o_lrng1, o_lrng2, n_seqL, n_seqT, n_enumL, n_enumT, n_rev, n_revT, n_zipL, n_zipT, n_rng1, n_rng2, n_revr, ownVar, ownS, getS, lstB, os_setS, stO_some, stO_none, stB_un, stB_sh, stB_ow, putS, odTs, odT, odAs, odA, refs, nodupB, backs, back1, retE, outS, wipeS, giveS, plainS, tgtF, asgs, mkSeq, T.isNon, okFor, setsS, setsL, List.getElem?_cons_zero, List.getElem?_cons_succ, List.getElem?_nil, List.set_cons_zero, List.set_cons_succ, List.length_cons, List.length_nil, List.length_map, List.cons_append, List.nil_append, List.append_nil, List.replicate, List.getD_cons_zero, List.getD_cons_succ, Option.getD, List.contains_nil, List.contains_cons, Bool.not_true, Bool.not_false, Bool.and_true, Bool.true_and, Bool.and_self, if_true, if_false, true_and, and_true, ite_true, ite_false, reduceIte, Bool.false_eq_true, Bool.true_eq_false, decide_true, decide_false, decide_eq_true_eq, eq_self, Nat.reduceAdd, Nat.reduceLT, Nat.reduceSub, Int.reduceLT, Int.reduceLE, Int.reduceToNat, Int.reduceAbs, Int.reducePow, Int.natAbs_natCast, Nat.reducePow, Nat.reduceLeDiff, Nat.reduceMul, Nat.reduceBEq, Bool.or_true, Bool.or_false, Bool.true_or, Bool.false_or, Int.reduceNeg, $a,*] $l)
end MP
namespace MP
open PySem
local macro_rules
  | `(tactic| dsimp! only [$a,*]) => `(tactic| simp only [w_nil, w_cons, w_set, w_unp, w_par, w_aug, w_sts, w_dst, w_st2, os_stD, os_stL, two2_t, w_rdv, w_dnew, w_tmt, w_fnv, w_cal, w_dsp, w_dgt, w_app, w_ext, w_ins, w_ixl, w_exp, w_ret, w_retn, w_ife, w_non, w_bl, w_int, w_str, w_var, w_glb, w_tup, w_lst, w_op, w_chn, w_not, w_ifx, w_bop, w_b1, w_b2, w_call, w_do, w_pop, w_fs0, w_fs, w_os0, w_os, w_ts0, w_ts1, ok_ok, ok_bad, ok_bind, os_some, os_none, os_bind, os_map, os_ifn, bl_bl, fn_nx, fn_rt, rt_nx, rt_rt, o_bin, b_add, b_sub, b_and, b_or, b_xor, b_mod, b_fdiv, b_mul, b_pow, b_shl, b_shr, b_cat, b_catT, b_rep, a_add, a_sub, a_and, a_or, a_xor, a_shr, a_shl, a_fdiv, o_neg, o_inv, o_cmp, c_eq, c_ne, c_lt, c_le, c_gt, c_ge, c_isn, c_notn, c_inl, c_ninl, c_int, c_nint, c_ind, c_nind, kB_int, kB_str, o_subD, o_sub, o_subT, at0, at1, at2, at3, at4, ix0, ix1, ix2, ix3, o_len, o_lenT, o_abs, o_min2, o_max2, o_int, o_intb, o_tup, o_tupt, o_lst, o_lstt, o_rev, o_lrevl, o_lrevt, o_isi, o_isi2, i_int, i_bl, i_lst, i_tup, i_str, i_non, o_slu, o_slsu, o_sll, o_sla, o_slut, o_sllt, o_all, o_any, o_sum, o_srt, o_srtT, o_stp, o_lrng1, o_lrng2, n_seqL, n_seqT, n_enumL, n_enumT, n_rev, n_revT, n_zipL, n_zipT, n_rng1, n_rng2, n_revr, ownVar, ownS, getS, lstB, os_setS, stO_some, stO_none, stB_un, stB_sh, stB_ow, putS, odTs, odT, odAs, odA, refs, nodupB, backs, back1, retE, outS, wipeS, giveS, plainS, tgtF, asgs, mkSeq, T.isNon, okFor, setsS, setsL, List.getElem?_cons_zero, List.getElem?_cons_succ, List.getElem?_nil, List.set_cons_zero, List.set_cons_succ, List.length_cons, List.length_nil, List.length_map, List.cons_append, List.nil_append, List.append_nil, List.replicate, List.getD_cons_zero, List.getD_cons_succ, Option.getD, List.contains_nil, List.contains_cons, Bool.not_true, Bool.not_false, Bool.and_true, Bool.true_and, Bool.and_self, if_true, if_false, true_and, and_true, ite_true, ite_false, reduceIte, Bool.false_eq_true, Bool.true_eq_false, decide_true, decide_false, decide_eq_true_eq, eq_self, Nat.reduceAdd, Nat.reduceLT, Nat.reduceSub, Int.reduceLT, Int.reduceLE, Int.reduceToNat, Int.reduceAbs, Int.reducePow, Int.natAbs_natCast, Nat.reducePow, Nat.reduceLeDiff, Nat.reduceMul, Nat.reduceBEq, Bool.or_true, Bool.or_false, Bool.true_or, Bool.false_or, Int.reduceNeg, $a,*])
  | `(tactic| dsimp! only [$a,*] $l:location) => `(tactic| simp only [w_nil, w_cons, w_set, w_unp, w_par, w_aug, w_sts, w_dst, w_st2, os_stD, os_stL, two2_t, w_rdv, w_dnew, w_tmt, w_fnv, w_cal, w_dsp, w_dgt, w_app, w_ext, w_ins, w_ixl, w_exp, w_ret, w_retn, w_ife, w_non, w_bl, w_int, w_str, w_var, w_glb, w_tup, w_lst, w_op, w_chn, w_not, w_ifx, w_bop, w_b1, w_b2, w_call, w_do, w_pop, w_fs0, w_fs, w_os0, w_os, w_ts0, w_ts1, ok_ok, ok_bad, ok_bind, os_some, os_none, os_bind, os_map, os_ifn, bl_bl, fn_nx, fn_rt, rt_nx, rt_rt, o_bin, b_add, b_sub, b_and, b_or, b_xor, b_mod, b_fdiv, b_mul, b_pow, b_shl, b_shr, b_cat, b_catT, b_rep, a_add, a_sub, a_and, a_or, a_xor, a_shr, a_shl, a_fdiv, o_neg, o_inv, o_cmp, c_eq, c_ne, c_lt, c_le, c_gt, c_ge, c_isn, c_notn, c_inl, c_ninl, c_int, c_nint, c_ind, c_nind, kB_int, kB_str, o_subD, o_sub, o_subT, at0, at1, at2, at3, at4, ix0, ix1, ix2, ix3, o_len, o_lenT, o_abs, o_min2, o_max2, o_int, o_intb, o_tup, o_tupt, o_lst, o_lstt, o_rev, o_lrevl, o_lrevt, o_isi, o_isi2, i_int, i_bl, i_lst, i_tup, i_str, i_non, o_slu, o_slsu, o_sll, o_sla, o_slut, o_sllt, o_all, o_any, o_sum, o_srt, o_srtT, o_stp, o_lrng1, o_lrng2, n_seqL, n_seqT, n_enumL, n_enumT, n_rev, n_revT, n_zipL, n_zipT, n_rng1, n_rng2, n_revr, ownVar, ownS, getS, lstB, os_setS, stO_some, stO_none, stB_un, stB_sh, stB_ow, putS, odTs, odT, odAs, odA, refs, nodupB, backs, back1, retE, outS, wipeS, giveS, plainS, tgtF, asgs, mkSeq, T.isNon, okFor, setsS, setsL, List.getElem?_cons_zero, List.getElem?_cons_succ, List.getElem?_nil, List.set_cons_zero, List.set_cons_succ, List.length_cons, List.length_nil, List.length_map, List.cons_append, List.nil_append, List.append_nil, List.replicate, List.getD_cons_zero, List.getD_cons_succ, Option.getD, List.contains_nil, List.contains_cons, Bool.not_true, Bool.not_false, Bool.and_true, Bool.true_and, Bool.and_self, if_true, if_false, true_and, and_true, ite_true, ite_false, reduceIte, Bool.false_eq_true, Bool.true_eq_false, decide_true, decide_false, decide_eq_true_eq, eq_self, Nat.reduceAdd, Nat.reduceLT, Nat.reduceSub, Int.reduceLT, Int.reduceLE, Int.reduceToNat, Int.reduceAbs, Int.reducePow, Int.natAbs_natCast, Nat.reducePow, Nat.reduceLeDiff, Nat.reduceMul, Nat.reduceBEq, Bool.or_true, Bool.or_false, Bool.true_or, Bool.false_or, Int.reduceNeg, $a,*] $l)
end MP
namespace MP
open PySem
local macro_rules
  | `(tactic| dsimp! only [$a,*]) => `(tactic| simp only [w_nil, w_cons, w_set, w_unp, w_par, w_aug, w_sts, w_dst, w_st2, os_stD, os_stL, two2_t, w_rdv, w_dnew, w_tmt, w_fnv, w_cal, w_dsp, w_dgt, w_app, w_ext, w_ins, w_ixl, w_exp, w_ret, w_retn, w_ife, w_non, w_bl, w_int, w_str, w_var, w_glb, w_tup, w_lst, w_op, w_chn, w_not, w_ifx, w_bop, w_b1, w_b2, w_call, w_do, w_pop, w_fs0, w_fs, w_os0, w_os, w_ts0, w_ts1, ok_ok, ok_bad, ok_bind, os_some, os_none, os_bind, os_map, os_ifn, bl_bl, fn_nx, fn_rt, rt_nx, rt_rt, o_bin, b_add, b_sub, b_and, b_or, b_xor, b_mod, b_fdiv, b_mul, b_pow, b_shl, b_shr, b_cat, b_catT, b_rep, a_add, a_sub, a_and, a_or, a_xor, a_shr, a_shl, a_fdiv, o_neg, o_inv, o_cmp, c_eq, c_ne, c_lt, c_le, c_gt, c_ge, c_isn, c_notn, c_inl, c_ninl, c_int, c_nint, c_ind, c_nind, kB_int, kB_str, o_subD, o_sub, o_subT, at0, at1, at2, at3, at4, ix0, ix1, ix2, ix3, o_len, o_lenT, o_abs, o_min2, o_max2, o_int, o_intb, o_tup, o_tupt, o_lst, o_lstt, o_rev, o_lrevl, o_lrevt, o_isi, o_isi2, i_int, i_bl, i_lst, i_tup, i_str, i_non, o_slu, o_slsu, o_sll, o_sla, o_slut, o_sllt, o_all, o_any, o_sum, o_srt, o_srtT, o_stp, o_lrng1, o_lrng2, n_seqL, n_seqT, n_enumL, n_enumT, n_rev, n_revT, n_zipL, n_zipT, n_rng1, n_rng2, n_revr, ownVar, ownS, getS, lstB, os_setS, stO_some, stO_none, stB_un, stB_sh, stB_ow, putS, odTs, odT, odAs, odA, refs, nodupB, backs, back1, retE, outS, wipeS, giveS, plainS, tgtF, asgs, mkSeq, T.isNon, okFor, setsS, setsL, List.getElem?_cons_zero, List.getElem?_cons_succ, List.getElem?_nil, List.set_cons_zero, List.set_cons_succ, List.length_cons, List.length_nil, List.length_map, List.cons_append, List.nil_append, List.append_nil, List.replicate, List.getD_cons_zero, List.getD_cons_succ, Option.getD, List.contains_nil, List.contains_cons, Bool.not_true, Bool.not_false, Bool.and_true, Bool.true_and, Bool.and_self, if_true, if_false, true_and, and_true, ite_true, ite_false, reduceIte, Bool.false_eq_true, Bool.true_eq_false, decide_true, decide_false, decide_eq_true_eq, eq_self, Nat.reduceAdd, Nat.reduceLT, Nat.reduceSub, Int.reduceLT, Int.reduceLE, Int.reduceToNat, Int.reduceAbs, Int.reducePow, Int.natAbs_natCast, Nat.reducePow, Nat.reduceLeDiff, Nat.reduceMul, Nat.reduceBEq, Bool.or_true, Bool.or_false, Bool.true_or, Bool.false_or, Int.reduceNeg, $a,*])
  | `(tactic| dsimp! only [$a,*] $l:location) => `(tactic| simp only [w_nil, w_cons, w_set, w_unp, w_par, w_aug, w_sts, w_dst, w_st2, os_stD, os_stL, two2_t, w_rdv, w_dnew, w_tmt, w_fnv, w_cal, w_dsp, w_dgt, w_app, w_ext, w_ins, w_ixl, w_exp, w_ret, w_retn, w_ife, w_non, w_bl, w_int, w_str, w_var, w_glb, w_tup, w_lst, w_op, w_chn, w_not, w_ifx, w_bop, w_b1, w_b2, w_call, w_do, w_pop, w_fs0, w_fs, w_os0, w_os, w_ts0, w_ts1, ok_ok, ok_bad, ok_bind, os_some, os_none, os_bind, os_map, os_ifn, bl_bl, fn_nx, fn_rt, rt_nx, rt_rt, o_bin, b_add, b_sub, b_and, b_or, b_xor, b_mod, b_fdiv, b_mul, b_pow, b_shl, b_shr, b_cat, b_catT, b_rep, a_add, a_sub, a_and, a_or, a_xor, a_shr, a_shl, a_fdiv, o_neg, o_inv, o_cmp, c_eq, c_ne, c_lt, c_le, c_gt, c_ge, c_isn, c_notn, c_inl, c_ninl, c_int, c_nint, c_ind, c_nind, kB_int, kB_str, o_subD, o_sub, o_subT, at0, at1, at2, at3, at4, ix0, ix1, ix2, ix3, o_len, o_lenT, o_abs, o_min2, o_max2, o_int, o_intb, o_tup, o_tupt, o_lst, o_lstt, o_rev, o_lrevl, o_lrevt, o_isi, o_isi2, i_int, i_bl, i_lst, i_tup, i_str, i_non, o_slu, o_slsu, o_sll, o_sla, o_slut, o_sllt, o_all, o_any, o_sum, o_srt, o_srtT, o_stp, o_lrng1, o_lrng2, n_seqL, n_seqT, n_enumL, n_enumT, n_rev, n_revT, n_zipL, n_zipT, n_rng1, n_rng2, n_revr, ownVar, ownS, getS, lstB, os_setS, stO_some, stO_none, stB_un, stB_sh, stB_ow, putS, odTs, odT, odAs, odA, refs, nodupB, backs, back1, retE, outS, wipeS, giveS, plainS, tgtF, asgs, mkSeq, T.isNon, okFor, setsS, setsL, List.getElem?_cons_zero, List.getElem?_cons_succ, List.getElem?_nil, List.set_cons_zero, List.set_cons_succ, List.length_cons, List.length_nil, List.length_map, List.cons_append, List.nil_append, List.append_nil, List.replicate, List.getD_cons_zero, List.getD_cons_succ, Option.getD, List.contains_nil, List.contains_cons, Bool.not_true, Bool.not_false, Bool.and_true, Bool.true_and, Bool.and_self, if_true, if_false, true_and, and_true, ite_true, ite_false, reduceIte, Bool.false_eq_true, Bool.true_eq_false, decide_true, decide_false, decide_eq_true_eq, eq_self, Nat.reduceAdd, Nat.reduceLT, Nat.reduceSub, Int.reduceLT, Int.reduceLE, Int.reduceToNat, Int.reduceAbs, Int.reducePow, Int.natAbs_natCast, Nat.reducePow, Nat.reduceLeDiff, Nat.reduceMul, Nat.reduceBEq, Bool.or_true, Bool.or_false, Bool.true_or, Bool.false_or, Int.reduceNeg, $a,*] $l)
end MP
namespace MP
open PySem
local macro_rules
  | `(tactic| dsimp! only [$a,*]) => `(tactic| simp only [w_nil, w_cons, w_set, w_unp, w_par, w_aug, w_sts, w_dst, w_st2, os_stD, os_stL, two2_t, w_rdv, w_dnew, w_tmt, w_fnv, w_cal, w_dsp, w_dgt, w_app, w_ext, w_ins, w_ixl, w_exp, w_ret, w_retn, w_ife, w_non, w_bl, w_int, w_str, w_var, w_glb, w_tup, w_lst, w_op, w_chn, w_not, w_ifx, w_bop, w_b1, w_b2, w_call, w_do, w_pop, w_fs0, w_fs, w_os0, w_os, w_ts0, w_ts1, ok_ok, ok_bad, ok_bind, os_some, os_none, os_bind, os_map, os_ifn, bl_bl, fn_nx, fn_rt, rt_nx, rt_rt, o_bin, b_add, b_sub, b_and, b_or, b_xor, b_mod, b_fdiv, b_mul, b_pow, b_shl, b_shr, b_cat, b_catT, b_rep, a_add, a_sub, a_and, a_or, a_xor, a_shr, a_shl, a_fdiv, o_neg, o_inv, o_cmp, c_eq, c_ne, c_lt, c_le, c_gt, c_ge, c_isn, c_notn, c_inl, c_ninl, c_int, c_nint, c_ind, c_nind, kB_int, kB_str, o_subD, o_sub, o_subT, at0, at1, at2, at3, at4, ix0, ix1, ix2, ix3, o_len, o_lenT, o_abs, o_min2, o_max2, o_int, o_intb, o_tup, o_tupt, o_lst, o_lstt, o_rev, o_lrevl, o_lrevt, o_isi, o_isi2, i_int, i_bl, i_lst, i_tup, i_str, i_non, o_slu, o_slsu, o_sll, o_sla, o_slut, o_sllt, o_all, o_any, o_sum, o_srt, o_srtT, o_stp, o_lrng1, o_lrng2, n_seqL, n_seqT, n_enumL, n_enumT, n_rev, n_revT, n_zipL, n_zipT, n_rng1, n_rng2, n_revr, ownVar, ownS, getS, lstB, os_setS, stO_some, stO_none, stB_un, stB_sh, stB_ow, putS, odTs, odT, odAs, odA, refs, nodupB, backs, back1, retE, outS, wipeS, giveS, plainS, tgtF, asgs, mkSeq, T.isNon, okFor, setsS, setsL, List.getElem?_cons_zero, List.getElem?_cons_succ, List.getElem?_nil, List.set_cons_zero, List.set_cons_succ, List.length_cons, List.length_nil, List.length_map, List.cons_append, List.nil_append, List.append_nil, List.replicate, List.getD_cons_zero, List.getD_cons_succ, Option.getD, List.contains_nil, List.contains_cons, Bool.not_true, Bool.not_false, Bool.and_true, Bool.true_and, Bool.and_self, if_true, if_false, true_and, and_true, ite_true, ite_false, reduceIte, Bool.false_eq_true, Bool.true_eq_false, decide_true, decide_false, decide_eq_true_eq, eq_self, Nat.reduceAdd, Nat.reduceLT, Nat.reduceSub, Int.reduceLT, Int.reduceLE, Int.reduceToNat, Int.reduceAbs, Int.reducePow, Int.natAbs_natCast, Nat.reducePow, Nat.reduceLeDiff, Nat.reduceMul, Nat.reduceBEq, Bool.or_true, Bool.or_false, Bool.true_or, Bool.false_or, Int.reduceNeg, $a,*])
  | `(tactic| dsimp! only [$a,*] $l:location) => `(tactic| simp only [w_nil, w_cons, w_set, w_unp, w_par, w_aug, w_sts, w_dst, w_st2, os_stD, os_stL, two2_t, w_rdv, w_dnew, w_tmt, w_fnv, w_cal, w_dsp, w_dgt, w_app, w_ext, w_ins, w_ixl, w_exp, w_ret, w_retn, w_ife, w_non, w_bl, w_int, w_str, w_var, w_glb, w_tup, w_lst, w_op, w_chn, w_not, w_ifx, w_bop, w_b1, w_b2, w_call, w_do, w_pop, w_fs0, w_fs, w_os0, w_os, w_ts0, w_ts1, ok_ok, ok_bad, ok_bind, os_some, os_none, os_bind, os_map, os_ifn, bl_bl, fn_nx, fn_rt, rt_nx, rt_rt, o_bin, b_add, b_sub, b_and, b_or, b_xor, b_mod, b_fdiv, b_mul, b_pow, b_shl, b_shr, b_cat, b_catT, b_rep, a_add, a_sub, a_and, a_or, a_xor, a_shr, a_shl, a_fdiv, o_neg, o_inv, o_cmp, c_eq, c_ne, c_lt, c_le, c_gt, c_ge, c_isn, c_notn, c_inl, c_ninl, c_int, c_nint, c_ind, c_nind, kB_int, kB_str, o_subD, o_sub, o_subT, at0, at1, at2, at3, at4, ix0, ix1, ix2, ix3, o_len, o_lenT, o_abs, o_min2, o_max2, o_int, o_intb, o_tup, o_tupt, o_lst, o_lstt, o_rev, o_lrevl, o_lrevt, o_isi, o_isi2, i_int, i_bl, i_lst, i_tup, i_str, i_non, o_slu, o_slsu, o_sll, o_sla, o_slut, o_sllt, o_all, o_any, o_sum, o_srt, o_srtT, o_stp, o_lrng1, o_lrng2, n_seqL, n_seqT, n_enumL, n_enumT, n_rev, n_revT, n_zipL, n_zipT, n_rng1, n_rng2, n_revr, ownVar, ownS, getS, lstB, os_setS, stO_some, stO_none, stB_un, stB_sh, stB_ow, putS, odTs, odT, odAs, odA, refs, nodupB, backs, back1, retE, outS, wipeS, giveS, plainS, tgtF, asgs, mkSeq, T.isNon, okFor, setsS, setsL, List.getElem?_cons_zero, List.getElem?_cons_succ, List.getElem?_nil, List.set_cons_zero, List.set_cons_succ, List.length_cons, List.length_nil, List.length_map, List.cons_append, List.nil_append, List.append_nil, List.replicate, List.getD_cons_zero, List.getD_cons_succ, Option.getD, List.contains_nil, List.contains_cons, Bool.not_true, Bool.not_false, Bool.and_true, Bool.true_and, Bool.and_self, if_true, if_false, true_and, and_true, ite_true, ite_false, reduceIte, Bool.false_eq_true, Bool.true_eq_false, decide_true, decide_false, decide_eq_true_eq, eq_self, Nat.reduceAdd, Nat.reduceLT, Nat.reduceSub, Int.reduceLT, Int.reduceLE, Int.reduceToNat, Int.reduceAbs, Int.reducePow, Int.natAbs_natCast, Nat.reducePow, Nat.reduceLeDiff, Nat.reduceMul, Nat.reduceBEq, Bool.or_true, Bool.or_false, Bool.true_or, Bool.false_or, Int.reduceNeg, $a,*] $l)
end MP
namespace MP
open PySem
/-- where a swap takes a place's bit from -/
def swE (m n p : Nat) : Nat := if n ≤ p ∧ m.testBit (p - n) = true then p - n else if m.testBit p then p + n else p
theorem sw_sw {W a b n p : Nat} (h : ∀ p, (a ||| b).testBit p = true → p + n < W ∧ (a ||| b).testBit (p + n) = false) (hn : 0 < n) : swE a n (swE b n p) = swE (a ^^^ b) n p := by
  have hx : ∀ q, (a ^^^ b).testBit q = (a.testBit q != b.testBit q) := fun q => Nat.testBit_xor ..
  have ha : ∀ q, a.testBit q = true → a.testBit (q + n) = false ∧ b.testBit (q + n) = false := fun q hq => by
    have := (h q ((or_bit _ _ _).mpr (.inl hq))).2
    rw [Nat.testBit_or, Bool.or_eq_false_iff] at this
    exact this
  have hb : ∀ q, b.testBit q = true → a.testBit (q + n) = false ∧ b.testBit (q + n) = false := fun q hq => by
    have := (h q ((or_bit _ _ _).mpr (.inr hq))).2
    rw [Nat.testBit_or, Bool.or_eq_false_iff] at this
    exact this
  have ff : ∀ {c : Bool}, c = false → ¬ c = true := fun h z => by rw [h] at z; cases z
  have sE : ∀ m p, swE m n p = if n ≤ p ∧ m.testBit (p - n) = true then p - n else if m.testBit p = true then p + n else p := fun m p => rfl
  by_cases cA : n ≤ p ∧ b.testBit (p - n) = true
  · obtain ⟨hp, b1⟩ := cA
    obtain ⟨q1, q2⟩ := hb _ b1
    rw [Nat.sub_add_cancel hp] at q1 q2
    have k : ¬ (n ≤ p - n ∧ a.testBit (p - n - n) = true) := fun ⟨z1, z2⟩ => by
      have := (ha _ z2).2
      rw [Nat.sub_add_cancel z1, b1] at this
      cases this
    rw [sE b, if_pos ⟨hp, b1⟩, sE a, if_neg k, sE (a ^^^ b)]
    cases a1 : a.testBit (p - n)
    · rw [if_neg (by decide), if_pos ⟨hp, by rw [hx, a1, b1]; rfl⟩]
    · rw [if_pos rfl, if_neg (fun z => by rw [hx, a1, b1] at z; exact absurd z.2 (by decide)), if_neg (fun z => by rw [hx, q1, q2] at z; exact absurd z (by decide)), Nat.sub_add_cancel hp]
  · by_cases cB : n ≤ p ∧ a.testBit (p - n) = true
    · obtain ⟨hp, a1⟩ := cB
      obtain ⟨q1, q2⟩ := ha _ a1
      rw [Nat.sub_add_cancel hp] at q1 q2
      have b1 : b.testBit (p - n) = false := by
        cases c : b.testBit (p - n) with
        | false => rfl
        | true => exact absurd ⟨hp, c⟩ cA
      rw [sE b, if_neg cA, if_neg (ff q2), sE a, if_pos ⟨hp, a1⟩, sE (a ^^^ b), if_pos ⟨hp, by rw [hx, a1, b1]; rfl⟩]
    · have cC : ¬ (n ≤ p ∧ (a ^^^ b).testBit (p - n) = true) := fun ⟨hp, z⟩ => by
        rw [hx] at z
        cases c1 : a.testBit (p - n)
        · cases c2 : b.testBit (p - n)
          · rw [c1, c2] at z
            cases z
          · exact cA ⟨hp, c2⟩
        · exact cB ⟨hp, c1⟩
      rw [sE b, if_neg cA, sE (a ^^^ b), if_neg cC, hx]
      cases b1 : b.testBit p
      · rw [if_neg (by decide), sE a, if_neg cB]
        cases a.testBit p <;> rfl
      · rw [if_pos rfl, sE a, Nat.add_sub_cancel]
        cases a1 : a.testBit p
        · rw [if_neg (fun z => absurd z.2 (by decide)), if_neg (ff (hb _ b1).1), if_pos (by decide)]
        · rw [if_pos ⟨by omega, rfl⟩, if_neg (by decide)]
end MP
namespace MP
open PySem
local macro_rules
  | `(tactic| dsimp! only [$a,*]) => `(tactic| simp only [w_nil, w_cons, w_set, w_unp, w_par, w_aug, w_sts, w_dst, w_st2, os_stD, os_stL, two2_t, w_rdv, w_dnew, w_tmt, w_fnv, w_cal, w_dsp, w_dgt, w_app, w_ext, w_ins, w_ixl, w_exp, w_ret, w_retn, w_ife, w_non, w_bl, w_int, w_str, w_var, w_glb, w_tup, w_lst, w_op, w_chn, w_not, w_ifx, w_bop, w_b1, w_b2, w_call, w_do, w_pop, w_fs0, w_fs, w_os0, w_os, w_ts0, w_ts1, ok_ok, ok_bad, ok_bind, os_some, os_none, os_bind, os_map, os_ifn, bl_bl, fn_nx, fn_rt, rt_nx, rt_rt, o_bin, b_add, b_sub, b_and, b_or, b_xor, b_mod, b_fdiv, b_mul, b_pow, b_shl, b_shr, b_cat, b_catT, b_rep, a_add, a_sub, a_and, a_or, a_xor, a_shr, a_shl, a_fdiv, o_neg, o_inv, o_cmp, c_eq, c_ne, c_lt, c_le, c_gt, c_ge, c_isn, c_notn, c_inl, c_ninl, c_int, c_nint, c_ind, c_nind, kB_int, kB_str, o_subD, o_sub, o_subT, at0, at1, at2, at3, at4, ix0, ix1, ix2, ix3, o_len, o_lenT, o_abs, o_min2, o_max2, o_int, o_intb, o_tup, o_tupt, o_lst, o_lstt, o_rev, o_lrevl, o_lrevt, o_isi, o_isi2, i_int, i_bl, i_lst, i_tup, i_str, i_non, o_slu, o_slsu, o_sll, o_sla, o_slut, o_sllt, o_all, o_any, o_sum, o_srt, o_srtT, o_stp, o_lrng1, o_lrng2, n_seqL, n_seqT, n_enumL, n_enumT, n_rev, n_revT, n_zipL, n_zipT, n_rng1, n_rng2, n_revr, ownVar, ownS, getS, lstB, os_setS, stO_some, stO_none, stB_un, stB_sh, stB_ow, putS, odTs, odT, odAs, odA, refs, nodupB, backs, back1, retE, outS, wipeS, giveS, plainS, tgtF, asgs, mkSeq, T.isNon, okFor, setsS, setsL, List.getElem?_cons_zero, List.getElem?_cons_succ, List.getElem?_nil, List.set_cons_zero, List.set_cons_succ, List.length_cons, List.length_nil, List.length_map, List.cons_append, List.nil_append, List.append_nil, List.replicate, List.getD_cons_zero, List.getD_cons_succ, Option.getD, List.contains_nil, List.contains_cons, Bool.not_true, Bool.not_false, Bool.and_true, Bool.true_and, Bool.and_self, if_true, if_false, true_and, and_true, ite_true, ite_false, reduceIte, Bool.false_eq_true, Bool.true_eq_false, decide_true, decide_false, decide_eq_true_eq, eq_self, Nat.reduceAdd, Nat.reduceLT, Nat.reduceSub, Int.reduceLT, Int.reduceLE, Int.reduceToNat, Int.reduceAbs, Int.reducePow, Int.natAbs_natCast, Nat.reducePow, Nat.reduceLeDiff, Nat.reduceMul, Nat.reduceBEq, Bool.or_true, Bool.or_false, Bool.true_or, Bool.false_or, Int.reduceNeg, $a,*])
  | `(tactic| dsimp! only [$a,*] $l:location) => `(tactic| simp only [w_nil, w_cons, w_set, w_unp, w_par, w_aug, w_sts, w_dst, w_st2, os_stD, os_stL, two2_t, w_rdv, w_dnew, w_tmt, w_fnv, w_cal, w_dsp, w_dgt, w_app, w_ext, w_ins, w_ixl, w_exp, w_ret, w_retn, w_ife, w_non, w_bl, w_int, w_str, w_var, w_glb, w_tup, w_lst, w_op, w_chn, w_not, w_ifx, w_bop, w_b1, w_b2, w_call, w_do, w_pop, w_fs0, w_fs, w_os0, w_os, w_ts0, w_ts1, ok_ok, ok_bad, ok_bind, os_some, os_none, os_bind, os_map, os_ifn, bl_bl, fn_nx, fn_rt, rt_nx, rt_rt, o_bin, b_add, b_sub, b_and, b_or, b_xor, b_mod, b_fdiv, b_mul, b_pow, b_shl, b_shr, b_cat, b_catT, b_rep, a_add, a_sub, a_and, a_or, a_xor, a_shr, a_shl, a_fdiv, o_neg, o_inv, o_cmp, c_eq, c_ne, c_lt, c_le, c_gt, c_ge, c_isn, c_notn, c_inl, c_ninl, c_int, c_nint, c_ind, c_nind, kB_int, kB_str, o_subD, o_sub, o_subT, at0, at1, at2, at3, at4, ix0, ix1, ix2, ix3, o_len, o_lenT, o_abs, o_min2, o_max2, o_int, o_intb, o_tup, o_tupt, o_lst, o_lstt, o_rev, o_lrevl, o_lrevt, o_isi, o_isi2, i_int, i_bl, i_lst, i_tup, i_str, i_non, o_slu, o_slsu, o_sll, o_sla, o_slut, o_sllt, o_all, o_any, o_sum, o_srt, o_srtT, o_stp, o_lrng1, o_lrng2, n_seqL, n_seqT, n_enumL, n_enumT, n_rev, n_revT, n_zipL, n_zipT, n_rng1, n_rng2, n_revr, ownVar, ownS, getS, lstB, os_setS, stO_some, stO_none, stB_un, stB_sh, stB_ow, putS, odTs, odT, odAs, odA, refs, nodupB, backs, back1, retE, outS, wipeS, giveS, plainS, tgtF, asgs, mkSeq, T.isNon, okFor, setsS, setsL, List.getElem?_cons_zero, List.getElem?_cons_succ, List.getElem?_nil, List.set_cons_zero, List.set_cons_succ, List.length_cons, List.length_nil, List.length_map, List.cons_append, List.nil_append, List.append_nil, List.replicate, List.getD_cons_zero, List.getD_cons_succ, Option.getD, List.contains_nil, List.contains_cons, Bool.not_true, Bool.not_false, Bool.and_true, Bool.true_and, Bool.and_self, if_true, if_false, true_and, and_true, ite_true, ite_false, reduceIte, Bool.false_eq_true, Bool.true_eq_false, decide_true, decide_false, decide_eq_true_eq, eq_self, Nat.reduceAdd, Nat.reduceLT, Nat.reduceSub, Int.reduceLT, Int.reduceLE, Int.reduceToNat, Int.reduceAbs, Int.reducePow, Int.natAbs_natCast, Nat.reducePow, Nat.reduceLeDiff, Nat.reduceMul, Nat.reduceBEq, Bool.or_true, Bool.or_false, Bool.true_or, Bool.false_or, Int.reduceNeg, $a,*] $l)
local macro_rules
  | `(tactic| simp! only [$a,*]) => `(tactic| simp only [w_nil, w_cons, w_set, w_unp, w_par, w_aug, w_sts, w_dst, w_st2, os_stD, os_stL, two2_t, w_rdv, w_dnew, w_tmt, w_fnv, w_cal, w_dsp, w_dgt, w_app, w_ext, w_ins, w_ixl, w_exp, w_ret, w_retn, w_ife, w_non, w_bl, w_int, w_str, w_var, w_glb, w_tup, w_lst, w_op, w_chn, w_not, w_ifx, w_bop, w_b1, w_b2, w_call, w_do, w_pop, w_fs0, w_fs, w_os0, w_os, w_ts0, w_ts1, ok_ok, ok_bad, ok_bind, os_some, os_none, os_bind, os_map, os_ifn, bl_bl, fn_nx, fn_rt, rt_nx, rt_rt, o_bin, b_add, b_sub, b_and, b_or, b_xor, b_mod, b_fdiv, b_mul, b_pow, b_shl, b_shr, b_cat, b_catT, b_rep, a_add, a_sub, a_and, a_or, a_xor, a_shr, a_shl, a_fdiv, o_neg, o_inv, o_cmp, c_eq, c_ne, c_lt, c_le, c_gt, c_ge, c_isn, c_notn, c_inl, c_ninl, c_int, c_nint, c_ind, c_nind, kB_int, kB_str, o_subD, o_sub, o_subT, at0, at1, at2, at3, at4, ix0, ix1, ix2, ix3, o_len, o_lenT, o_abs, o_min2, o_max2, o_int, o_intb, o_tup, o_tupt, o_lst, o_lstt, o_rev, o_lrevl, o_lrevt, o_isi, o_isi2, i_int, i_bl, i_lst, i_tup, i_str, i_non, o_slu, o_slsu, o_sll, o_sla, o_slut, o_sllt, o_all, o_any, o_sum, o_srt, o_srtT, o_stp, o_lrng1, o_lrng2, n_seqL, n_seqT, n_enumL, n_enumT, n_rev, n_revT, n_zipL, n_zipT, n_rng1, n_rng2, n_revr, ownVar, ownS, getS, lstB, os_setS, stO_some, stO_none, stB_un, stB_sh, stB_ow, putS, odTs, odT, odAs, odA, refs, nodupB, backs, back1, retE, outS, wipeS, giveS, plainS, tgtF, asgs, mkSeq, T.isNon, okFor, setsS, setsL, List.getElem?_cons_zero, List.getElem?_cons_succ, List.getElem?_nil, List.set_cons_zero, List.set_cons_succ, List.length_cons, List.length_nil, List.length_map, List.cons_append, List.nil_append, List.append_nil, List.replicate, List.getD_cons_zero, List.getD_cons_succ, Option.getD, List.contains_nil, List.contains_cons, Bool.not_true, Bool.not_false, Bool.and_true, Bool.true_and, Bool.and_self, if_true, if_false, true_and, and_true, ite_true, ite_false, reduceIte, Bool.false_eq_true, Bool.true_eq_false, decide_true, decide_false, decide_eq_true_eq, eq_self, Nat.reduceAdd, Nat.reduceLT, Nat.reduceSub, Int.reduceLT, Int.reduceLE, Int.reduceToNat, Int.reduceAbs, Int.reducePow, Int.natAbs_natCast, Nat.reducePow, Nat.reduceLeDiff, Nat.reduceMul, Nat.reduceBEq, Bool.or_true, Bool.or_false, Bool.true_or, Bool.false_or, Int.reduceNeg, sq_and_and, sq_and_or, sq_and_gather, sq_and_strew, sq_and_left, sq_and_right, sq_and_turn, sq_and_swap, sq_and_copy, si_and_M, si_and_B, si_and_S, si_and_L, sn_and, sq_or_and, sq_or_or, sq_or_gather, sq_or_strew, sq_or_left, sq_or_right, sq_or_turn, sq_or_swap, sq_or_copy, si_or_M, si_or_B, si_or_S, si_or_L, sn_or, sq_gather_and, sq_gather_or, sq_gather_gather, sq_gather_strew, sq_gather_left, sq_gather_right, sq_gather_turn, sq_gather_swap, sq_gather_copy, si_gather_M, si_gather_B, si_gather_S, si_gather_L, sn_gather, sq_strew_and, sq_strew_or, sq_strew_gather, sq_strew_strew, sq_strew_left, sq_strew_right, sq_strew_turn, sq_strew_swap, sq_strew_copy, si_strew_M, si_strew_B, si_strew_S, si_strew_L, sn_strew, sq_left_and, sq_left_or, sq_left_gather, sq_left_strew, sq_left_left, sq_left_right, sq_left_turn, sq_left_swap, sq_left_copy, si_left_M, si_left_B, si_left_S, si_left_L, sn_left, sq_right_and, sq_right_or, sq_right_gather, sq_right_strew, sq_right_left, sq_right_right, sq_right_turn, sq_right_swap, sq_right_copy, si_right_M, si_right_B, si_right_S, si_right_L, sn_right, sq_turn_and, sq_turn_or, sq_turn_gather, sq_turn_strew, sq_turn_left, sq_turn_right, sq_turn_turn, sq_turn_swap, sq_turn_copy, si_turn_M, si_turn_B, si_turn_S, si_turn_L, sn_turn, sq_swap_and, sq_swap_or, sq_swap_gather, sq_swap_strew, sq_swap_left, sq_swap_right, sq_swap_turn, sq_swap_swap, sq_swap_copy, si_swap_M, si_swap_B, si_swap_S, si_swap_L, sn_swap, sq_copy_and, sq_copy_or, sq_copy_gather, sq_copy_strew, sq_copy_left, sq_copy_right, sq_copy_turn, sq_copy_swap, sq_copy_copy, si_copy_M, si_copy_B, si_copy_S, si_copy_L, sn_copy, snb_and, snb_or, snb_gather, snb_strew, snb_left, snb_right, snb_turn, snb_swap, snb_copy, $a,*])
  | `(tactic| simp! only [$a,*] $l:location) => `(tactic| simp only [w_nil, w_cons, w_set, w_unp, w_par, w_aug, w_sts, w_dst, w_st2, os_stD, os_stL, two2_t, w_rdv, w_dnew, w_tmt, w_fnv, w_cal, w_dsp, w_dgt, w_app, w_ext, w_ins, w_ixl, w_exp, w_ret, w_retn, w_ife, w_non, w_bl, w_int, w_str, w_var, w_glb, w_tup, w_lst, w_op, w_chn, w_not, w_ifx, w_bop, w_b1, w_b2, w_call, w_do, w_pop, w_fs0, w_fs, w_os0, w_os, w_ts0, w_ts1, ok_ok, ok_bad, ok_bind, os_some, os_none, os_bind, os_map, os_ifn, bl_bl, fn_nx, fn_rt, rt_nx, rt_rt, o_bin, b_add, b_sub, b_and, b_or, b_xor, b_mod, b_fdiv, b_mul, b_pow, b_shl, b_shr, b_cat, b_catT, b_rep, a_add, a_sub, a_and, a_or, a_xor, a_shr, a_shl, a_fdiv, o_neg, o_inv, o_cmp, c_eq, c_ne, c_lt, c_le, c_gt, c_ge, c_isn, c_notn, c_inl, c_ninl, c_int, c_nint, c_ind, c_nind, kB_int, kB_str, o_subD, o_sub, o_subT, at0, at1, at2, at3, at4, ix0, ix1, ix2, ix3, o_len, o_lenT, o_abs, o_min2, o_max2, o_int, o_intb, o_tup, o_tupt, o_lst, o_lstt, o_rev, o_lrevl, o_lrevt, o_isi, o_isi2, i_int, i_bl, i_lst, i_tup, i_str, i_non, o_slu, o_slsu, o_sll, o_sla, o_slut, o_sllt, o_all, o_any, o_sum, o_srt, o_srtT, o_stp, o_lrng1, o_lrng2, n_seqL, n_seqT, n_enumL, n_enumT, n_rev, n_revT, n_zipL, n_zipT, n_rng1, n_rng2, n_revr, ownVar, ownS, getS, lstB, os_setS, stO_some, stO_none, stB_un, stB_sh, stB_ow, putS, odTs, odT, odAs, odA, refs, nodupB, backs, back1, retE, outS, wipeS, giveS, plainS, tgtF, asgs, mkSeq, T.isNon, okFor, setsS, setsL, List.getElem?_cons_zero, List.getElem?_cons_succ, List.getElem?_nil, List.set_cons_zero, List.set_cons_succ, List.length_cons, List.length_nil, List.length_map, List.cons_append, List.nil_append, List.append_nil, List.replicate, List.getD_cons_zero, List.getD_cons_succ, Option.getD, List.contains_nil, List.contains_cons, Bool.not_true, Bool.not_false, Bool.and_true, Bool.true_and, Bool.and_self, if_true, if_false, true_and, and_true, ite_true, ite_false, reduceIte, Bool.false_eq_true, Bool.true_eq_false, decide_true, decide_false, decide_eq_true_eq, eq_self, Nat.reduceAdd, Nat.reduceLT, Nat.reduceSub, Int.reduceLT, Int.reduceLE, Int.reduceToNat, Int.reduceAbs, Int.reducePow, Int.natAbs_natCast, Nat.reducePow, Nat.reduceLeDiff, Nat.reduceMul, Nat.reduceBEq, Bool.or_true, Bool.or_false, Bool.true_or, Bool.false_or, Int.reduceNeg, sq_and_and, sq_and_or, sq_and_gather, sq_and_strew, sq_and_left, sq_and_right, sq_and_turn, sq_and_swap, sq_and_copy, si_and_M, si_and_B, si_and_S, si_and_L, sn_and, sq_or_and, sq_or_or, sq_or_gather, sq_or_strew, sq_or_left, sq_or_right, sq_or_turn, sq_or_swap, sq_or_copy, si_or_M, si_or_B, si_or_S, si_or_L, sn_or, sq_gather_and, sq_gather_or, sq_gather_gather, sq_gather_strew, sq_gather_left, sq_gather_right, sq_gather_turn, sq_gather_swap, sq_gather_copy, si_gather_M, si_gather_B, si_gather_S, si_gather_L, sn_gather, sq_strew_and, sq_strew_or, sq_strew_gather, sq_strew_strew, sq_strew_left, sq_strew_right, sq_strew_turn, sq_strew_swap, sq_strew_copy, si_strew_M, si_strew_B, si_strew_S, si_strew_L, sn_strew, sq_left_and, sq_left_or, sq_left_gather, sq_left_strew, sq_left_left, sq_left_right, sq_left_turn, sq_left_swap, sq_left_copy, si_left_M, si_left_B, si_left_S, si_left_L, sn_left, sq_right_and, sq_right_or, sq_right_gather, sq_right_strew, sq_right_left, sq_right_right, sq_right_turn, sq_right_swap, sq_right_copy, si_right_M, si_right_B, si_right_S, si_right_L, sn_right, sq_turn_and, sq_turn_or, sq_turn_gather, sq_turn_strew, sq_turn_left, sq_turn_right, sq_turn_turn, sq_turn_swap, sq_turn_copy, si_turn_M, si_turn_B, si_turn_S, si_turn_L, sn_turn, sq_swap_and, sq_swap_or, sq_swap_gather, sq_swap_strew, sq_swap_left, sq_swap_right, sq_swap_turn, sq_swap_swap, sq_swap_copy, si_swap_M, si_swap_B, si_swap_S, si_swap_L, sn_swap, sq_copy_and, sq_copy_or, sq_copy_gather, sq_copy_strew, sq_copy_left, sq_copy_right, sq_copy_turn, sq_copy_swap, sq_copy_copy, si_copy_M, si_copy_B, si_copy_S, si_copy_L, sn_copy, snb_and, snb_or, snb_gather, snb_strew, snb_left, snb_right, snb_turn, snb_swap, snb_copy, $a,*] $l)
def d1 : Dd → Nat
  | .and m => m
  | .or m => m
  | .gat m => m
  | .str m => m
  | .lft n => n
  | .rgt n => n
  | .trn n => n
  | .swp m _ => m
  | .cpy m _ => m
end MP
namespace MP
open PySem
local macro_rules
  | `(tactic| dsimp! only [$a,*]) => `(tactic| simp only [w_nil, w_cons, w_set, w_unp, w_par, w_aug, w_sts, w_dst, w_st2, os_stD, os_stL, two2_t, w_rdv, w_dnew, w_tmt, w_fnv, w_cal, w_dsp, w_dgt, w_app, w_ext, w_ins, w_ixl, w_exp, w_ret, w_retn, w_ife, w_non, w_bl, w_int, w_str, w_var, w_glb, w_tup, w_lst, w_op, w_chn, w_not, w_ifx, w_bop, w_b1, w_b2, w_call, w_do, w_pop, w_fs0, w_fs, w_os0, w_os, w_ts0, w_ts1, ok_ok, ok_bad, ok_bind, os_some, os_none, os_bind, os_map, os_ifn, bl_bl, fn_nx, fn_rt, rt_nx, rt_rt, o_bin, b_add, b_sub, b_and, b_or, b_xor, b_mod, b_fdiv, b_mul, b_pow, b_shl, b_shr, b_cat, b_catT, b_rep, a_add, a_sub, a_and, a_or, a_xor, a_shr, a_shl, a_fdiv, o_neg, o_inv, o_cmp, c_eq, c_ne, c_lt, c_le, c_gt, c_ge, c_isn, c_notn, c_inl, c_ninl, c_int, c_nint, c_ind, c_nind, kB_int, kB_str, o_subD, o_sub, o_subT, at0, at1, at2, at3, at4, ix0, ix1, ix2, ix3, o_len, o_lenT, o_abs, o_min2, o_max2, o_int, o_intb, o_tup, o_tupt, o_lst, o_lstt, o_rev, o_lrevl, o_lrevt, o_isi, o_isi2, i_int, i_bl, i_lst, i_tup, i_str, i_non, o_slu, o_slsu, o_sll, o_sla, o_slut, o_sllt, o_all, o_any, o_sum, o_srt, o_srtT, o_stp, o_lrng1, o_lrng2, n_seqL, n_seqT, n_enumL, n_enumT, n_rev, n_revT, n_zipL, n_zipT, n_rng1, n_rng2, n_revr, ownVar, ownS, getS, lstB, os_setS, stO_some, stO_none, stB_un, stB_sh, stB_ow, putS, odTs, odT, odAs, odA, refs, nodupB, backs, back1, retE, outS, wipeS, giveS, plainS, tgtF, asgs, mkSeq, T.isNon, okFor, setsS, setsL, List.getElem?_cons_zero, List.getElem?_cons_succ, List.getElem?_nil, List.set_cons_zero, List.set_cons_succ, List.length_cons, List.length_nil, List.length_map, List.cons_append, List.nil_append, List.append_nil, List.replicate, List.getD_cons_zero, List.getD_cons_succ, Option.getD, List.contains_nil, List.contains_cons, Bool.not_true, Bool.not_false, Bool.and_true, Bool.true_and, Bool.and_self, if_true, if_false, true_and, and_true, ite_true, ite_false, reduceIte, Bool.false_eq_true, Bool.true_eq_false, decide_true, decide_false, decide_eq_true_eq, eq_self, Nat.reduceAdd, Nat.reduceLT, Nat.reduceSub, Int.reduceLT, Int.reduceLE, Int.reduceToNat, Int.reduceAbs, Int.reducePow, Int.natAbs_natCast, Nat.reducePow, Nat.reduceLeDiff, Nat.reduceMul, Nat.reduceBEq, Bool.or_true, Bool.or_false, Bool.true_or, Bool.false_or, Int.reduceNeg, $a,*])
  | `(tactic| dsimp! only [$a,*] $l:location) => `(tactic| simp only [w_nil, w_cons, w_set, w_unp, w_par, w_aug, w_sts, w_dst, w_st2, os_stD, os_stL, two2_t, w_rdv, w_dnew, w_tmt, w_fnv, w_cal, w_dsp, w_dgt, w_app, w_ext, w_ins, w_ixl, w_exp, w_ret, w_retn, w_ife, w_non, w_bl, w_int, w_str, w_var, w_glb, w_tup, w_lst, w_op, w_chn, w_not, w_ifx, w_bop, w_b1, w_b2, w_call, w_do, w_pop, w_fs0, w_fs, w_os0, w_os, w_ts0, w_ts1, ok_ok, ok_bad, ok_bind, os_some, os_none, os_bind, os_map, os_ifn, bl_bl, fn_nx, fn_rt, rt_nx, rt_rt, o_bin, b_add, b_sub, b_and, b_or, b_xor, b_mod, b_fdiv, b_mul, b_pow, b_shl, b_shr, b_cat, b_catT, b_rep, a_add, a_sub, a_and, a_or, a_xor, a_shr, a_shl, a_fdiv, o_neg, o_inv, o_cmp, c_eq, c_ne, c_lt, c_le, c_gt, c_ge, c_isn, c_notn, c_inl, c_ninl, c_int, c_nint, c_ind, c_nind, kB_int, kB_str, o_subD, o_sub, o_subT, at0, at1, at2, at3, at4, ix0, ix1, ix2, ix3, o_len, o_lenT, o_abs, o_min2, o_max2, o_int, o_intb, o_tup, o_tupt, o_lst, o_lstt, o_rev, o_lrevl, o_lrevt, o_isi, o_isi2, i_int, i_bl, i_lst, i_tup, i_str, i_non, o_slu, o_slsu, o_sll, o_sla, o_slut, o_sllt, o_all, o_any, o_sum, o_srt, o_srtT, o_stp, o_lrng1, o_lrng2, n_seqL, n_seqT, n_enumL, n_enumT, n_rev, n_revT, n_zipL, n_zipT, n_rng1, n_rng2, n_revr, ownVar, ownS, getS, lstB, os_setS, stO_some, stO_none, stB_un, stB_sh, stB_ow, putS, odTs, odT, odAs, odA, refs, nodupB, backs, back1, retE, outS, wipeS, giveS, plainS, tgtF, asgs, mkSeq, T.isNon, okFor, setsS, setsL, List.getElem?_cons_zero, List.getElem?_cons_succ, List.getElem?_nil, List.set_cons_zero, List.set_cons_succ, List.length_cons, List.length_nil, List.length_map, List.cons_append, List.nil_append, List.append_nil, List.replicate, List.getD_cons_zero, List.getD_cons_succ, Option.getD, List.contains_nil, List.contains_cons, Bool.not_true, Bool.not_false, Bool.and_true, Bool.true_and, Bool.and_self, if_true, if_false, true_and, and_true, ite_true, ite_false, reduceIte, Bool.false_eq_true, Bool.true_eq_false, decide_true, decide_false, decide_eq_true_eq, eq_self, Nat.reduceAdd, Nat.reduceLT, Nat.reduceSub, Int.reduceLT, Int.reduceLE, Int.reduceToNat, Int.reduceAbs, Int.reducePow, Int.natAbs_natCast, Nat.reducePow, Nat.reduceLeDiff, Nat.reduceMul, Nat.reduceBEq, Bool.or_true, Bool.or_false, Bool.true_or, Bool.false_or, Int.reduceNeg, $a,*] $l)
local macro_rules
  | `(tactic| simp! only [$a,*]) => `(tactic| simp only [w_nil, w_cons, w_set, w_unp, w_par, w_aug, w_sts, w_dst, w_st2, os_stD, os_stL, two2_t, w_rdv, w_dnew, w_tmt, w_fnv, w_cal, w_dsp, w_dgt, w_app, w_ext, w_ins, w_ixl, w_exp, w_ret, w_retn, w_ife, w_non, w_bl, w_int, w_str, w_var, w_glb, w_tup, w_lst, w_op, w_chn, w_not, w_ifx, w_bop, w_b1, w_b2, w_call, w_do, w_pop, w_fs0, w_fs, w_os0, w_os, w_ts0, w_ts1, ok_ok, ok_bad, ok_bind, os_some, os_none, os_bind, os_map, os_ifn, bl_bl, fn_nx, fn_rt, rt_nx, rt_rt, o_bin, b_add, b_sub, b_and, b_or, b_xor, b_mod, b_fdiv, b_mul, b_pow, b_shl, b_shr, b_cat, b_catT, b_rep, a_add, a_sub, a_and, a_or, a_xor, a_shr, a_shl, a_fdiv, o_neg, o_inv, o_cmp, c_eq, c_ne, c_lt, c_le, c_gt, c_ge, c_isn, c_notn, c_inl, c_ninl, c_int, c_nint, c_ind, c_nind, kB_int, kB_str, o_subD, o_sub, o_subT, at0, at1, at2, at3, at4, ix0, ix1, ix2, ix3, o_len, o_lenT, o_abs, o_min2, o_max2, o_int, o_intb, o_tup, o_tupt, o_lst, o_lstt, o_rev, o_lrevl, o_lrevt, o_isi, o_isi2, i_int, i_bl, i_lst, i_tup, i_str, i_non, o_slu, o_slsu, o_sll, o_sla, o_slut, o_sllt, o_all, o_any, o_sum, o_srt, o_srtT, o_stp, o_lrng1, o_lrng2, n_seqL, n_seqT, n_enumL, n_enumT, n_rev, n_revT, n_zipL, n_zipT, n_rng1, n_rng2, n_revr, ownVar, ownS, getS, lstB, os_setS, stO_some, stO_none, stB_un, stB_sh, stB_ow, putS, odTs, odT, odAs, odA, refs, nodupB, backs, back1, retE, outS, wipeS, giveS, plainS, tgtF, asgs, mkSeq, T.isNon, okFor, setsS, setsL, List.getElem?_cons_zero, List.getElem?_cons_succ, List.getElem?_nil, List.set_cons_zero, List.set_cons_succ, List.length_cons, List.length_nil, List.length_map, List.cons_append, List.nil_append, List.append_nil, List.replicate, List.getD_cons_zero, List.getD_cons_succ, Option.getD, List.contains_nil, List.contains_cons, Bool.not_true, Bool.not_false, Bool.and_true, Bool.true_and, Bool.and_self, if_true, if_false, true_and, and_true, ite_true, ite_false, reduceIte, Bool.false_eq_true, Bool.true_eq_false, decide_true, decide_false, decide_eq_true_eq, eq_self, Nat.reduceAdd, Nat.reduceLT, Nat.reduceSub, Int.reduceLT, Int.reduceLE, Int.reduceToNat, Int.reduceAbs, Int.reducePow, Int.natAbs_natCast, Nat.reducePow, Nat.reduceLeDiff, Nat.reduceMul, Nat.reduceBEq, Bool.or_true, Bool.or_false, Bool.true_or, Bool.false_or, Int.reduceNeg, sq_and_and, sq_and_or, sq_and_gather, sq_and_strew, sq_and_left, sq_and_right, sq_and_turn, sq_and_swap, sq_and_copy, si_and_M, si_and_B, si_and_S, si_and_L, sn_and, sq_or_and, sq_or_or, sq_or_gather, sq_or_strew, sq_or_left, sq_or_right, sq_or_turn, sq_or_swap, sq_or_copy, si_or_M, si_or_B, si_or_S, si_or_L, sn_or, sq_gather_and, sq_gather_or, sq_gather_gather, sq_gather_strew, sq_gather_left, sq_gather_right, sq_gather_turn, sq_gather_swap, sq_gather_copy, si_gather_M, si_gather_B, si_gather_S, si_gather_L, sn_gather, sq_strew_and, sq_strew_or, sq_strew_gather, sq_strew_strew, sq_strew_left, sq_strew_right, sq_strew_turn, sq_strew_swap, sq_strew_copy, si_strew_M, si_strew_B, si_strew_S, si_strew_L, sn_strew, sq_left_and, sq_left_or, sq_left_gather, sq_left_strew, sq_left_left, sq_left_right, sq_left_turn, sq_left_swap, sq_left_copy, si_left_M, si_left_B, si_left_S, si_left_L, sn_left, sq_right_and, sq_right_or, sq_right_gather, sq_right_strew, sq_right_left, sq_right_right, sq_right_turn, sq_right_swap, sq_right_copy, si_right_M, si_right_B, si_right_S, si_right_L, sn_right, sq_turn_and, sq_turn_or, sq_turn_gather, sq_turn_strew, sq_turn_left, sq_turn_right, sq_turn_turn, sq_turn_swap, sq_turn_copy, si_turn_M, si_turn_B, si_turn_S, si_turn_L, sn_turn, sq_swap_and, sq_swap_or, sq_swap_gather, sq_swap_strew, sq_swap_left, sq_swap_right, sq_swap_turn, sq_swap_swap, sq_swap_copy, si_swap_M, si_swap_B, si_swap_S, si_swap_L, sn_swap, sq_copy_and, sq_copy_or, sq_copy_gather, sq_copy_strew, sq_copy_left, sq_copy_right, sq_copy_turn, sq_copy_swap, sq_copy_copy, si_copy_M, si_copy_B, si_copy_S, si_copy_L, sn_copy, snb_and, snb_or, snb_gather, snb_strew, snb_left, snb_right, snb_turn, snb_swap, snb_copy, $a,*])
  | `(tactic| simp! only [$a,*] $l:location) => `(tactic| simp only [w_nil, w_cons, w_set, w_unp, w_par, w_aug, w_sts, w_dst, w_st2, os_stD, os_stL, two2_t, w_rdv, w_dnew, w_tmt, w_fnv, w_cal, w_dsp, w_dgt, w_app, w_ext, w_ins, w_ixl, w_exp, w_ret, w_retn, w_ife, w_non, w_bl, w_int, w_str, w_var, w_glb, w_tup, w_lst, w_op, w_chn, w_not, w_ifx, w_bop, w_b1, w_b2, w_call, w_do, w_pop, w_fs0, w_fs, w_os0, w_os, w_ts0, w_ts1, ok_ok, ok_bad, ok_bind, os_some, os_none, os_bind, os_map, os_ifn, bl_bl, fn_nx, fn_rt, rt_nx, rt_rt, o_bin, b_add, b_sub, b_and, b_or, b_xor, b_mod, b_fdiv, b_mul, b_pow, b_shl, b_shr, b_cat, b_catT, b_rep, a_add, a_sub, a_and, a_or, a_xor, a_shr, a_shl, a_fdiv, o_neg, o_inv, o_cmp, c_eq, c_ne, c_lt, c_le, c_gt, c_ge, c_isn, c_notn, c_inl, c_ninl, c_int, c_nint, c_ind, c_nind, kB_int, kB_str, o_subD, o_sub, o_subT, at0, at1, at2, at3, at4, ix0, ix1, ix2, ix3, o_len, o_lenT, o_abs, o_min2, o_max2, o_int, o_intb, o_tup, o_tupt, o_lst, o_lstt, o_rev, o_lrevl, o_lrevt, o_isi, o_isi2, i_int, i_bl, i_lst, i_tup, i_str, i_non, o_slu, o_slsu, o_sll, o_sla, o_slut, o_sllt, o_all, o_any, o_sum, o_srt, o_srtT, o_stp, o_lrng1, o_lrng2, n_seqL, n_seqT, n_enumL, n_enumT, n_rev, n_revT, n_zipL, n_zipT, n_rng1, n_rng2, n_revr, ownVar, ownS, getS, lstB, os_setS, stO_some, stO_none, stB_un, stB_sh, stB_ow, putS, odTs, odT, odAs, odA, refs, nodupB, backs, back1, retE, outS, wipeS, giveS, plainS, tgtF, asgs, mkSeq, T.isNon, okFor, setsS, setsL, List.getElem?_cons_zero, List.getElem?_cons_succ, List.getElem?_nil, List.set_cons_zero, List.set_cons_succ, List.length_cons, List.length_nil, List.length_map, List.cons_append, List.nil_append, List.append_nil, List.replicate, List.getD_cons_zero, List.getD_cons_succ, Option.getD, List.contains_nil, List.contains_cons, Bool.not_true, Bool.not_false, Bool.and_true, Bool.true_and, Bool.and_self, if_true, if_false, true_and, and_true, ite_true, ite_false, reduceIte, Bool.false_eq_true, Bool.true_eq_false, decide_true, decide_false, decide_eq_true_eq, eq_self, Nat.reduceAdd, Nat.reduceLT, Nat.reduceSub, Int.reduceLT, Int.reduceLE, Int.reduceToNat, Int.reduceAbs, Int.reducePow, Int.natAbs_natCast, Nat.reducePow, Nat.reduceLeDiff, Nat.reduceMul, Nat.reduceBEq, Bool.or_true, Bool.or_false, Bool.true_or, Bool.false_or, Int.reduceNeg, sq_and_and, sq_and_or, sq_and_gather, sq_and_strew, sq_and_left, sq_and_right, sq_and_turn, sq_and_swap, sq_and_copy, si_and_M, si_and_B, si_and_S, si_and_L, sn_and, sq_or_and, sq_or_or, sq_or_gather, sq_or_strew, sq_or_left, sq_or_right, sq_or_turn, sq_or_swap, sq_or_copy, si_or_M, si_or_B, si_or_S, si_or_L, sn_or, sq_gather_and, sq_gather_or, sq_gather_gather, sq_gather_strew, sq_gather_left, sq_gather_right, sq_gather_turn, sq_gather_swap, sq_gather_copy, si_gather_M, si_gather_B, si_gather_S, si_gather_L, sn_gather, sq_strew_and, sq_strew_or, sq_strew_gather, sq_strew_strew, sq_strew_left, sq_strew_right, sq_strew_turn, sq_strew_swap, sq_strew_copy, si_strew_M, si_strew_B, si_strew_S, si_strew_L, sn_strew, sq_left_and, sq_left_or, sq_left_gather, sq_left_strew, sq_left_left, sq_left_right, sq_left_turn, sq_left_swap, sq_left_copy, si_left_M, si_left_B, si_left_S, si_left_L, sn_left, sq_right_and, sq_right_or, sq_right_gather, sq_right_strew, sq_right_left, sq_right_right, sq_right_turn, sq_right_swap, sq_right_copy, si_right_M, si_right_B, si_right_S, si_right_L, sn_right, sq_turn_and, sq_turn_or, sq_turn_gather, sq_turn_strew, sq_turn_left, sq_turn_right, sq_turn_turn, sq_turn_swap, sq_turn_copy, si_turn_M, si_turn_B, si_turn_S, si_turn_L, sn_turn, sq_swap_and, sq_swap_or, sq_swap_gather, sq_swap_strew, sq_swap_left, sq_swap_right, sq_swap_turn, sq_swap_swap, sq_swap_copy, si_swap_M, si_swap_B, si_swap_S, si_swap_L, sn_swap, sq_copy_and, sq_copy_or, sq_copy_gather, sq_copy_strew, sq_copy_left, sq_copy_right, sq_copy_turn, sq_copy_swap, sq_copy_copy, si_copy_M, si_copy_B, si_copy_S, si_copy_L, sn_copy, snb_and, snb_or, snb_gather, snb_strew, snb_left, snb_right, snb_turn, snb_swap, snb_copy, $a,*] $l)
end MP
namespace MP
open PySem
local macro_rules
  | `(tactic| dsimp! only [$a,*]) => `(tactic| simp only [w_nil, w_cons, w_set, w_unp, w_par, w_aug, w_sts, w_dst, w_st2, os_stD, os_stL, two2_t, w_rdv, w_dnew, w_tmt, w_fnv, w_cal, w_dsp, w_dgt, w_app, w_ext, w_ins, w_ixl, w_exp, w_ret, w_retn, w_ife, w_non, w_bl, w_int, w_str, w_var, w_glb, w_tup, w_lst, w_op, w_chn, w_not, w_ifx, w_bop, w_b1, w_b2, w_call, w_do, w_pop, w_fs0, w_fs, w_os0, w_os, w_ts0, w_ts1, ok_ok, ok_bad, ok_bind, os_some, os_none, os_bind, os_map, os_ifn, bl_bl, fn_nx, fn_rt, rt_nx, rt_rt, o_bin, b_add, b_sub, b_and, b_or, b_xor, b_mod, b_fdiv, b_mul, b_pow, b_shl, b_shr, b_cat, b_catT, b_rep, a_add, a_sub, a_and, a_or, a_xor, a_shr, a_shl, a_fdiv, o_neg, o_inv, o_cmp, c_eq, c_ne, c_lt, c_le, c_gt, c_ge, c_isn, c_notn, c_inl, c_ninl, c_int, c_nint, c_ind, c_nind, kB_int, kB_str, o_subD, o_sub, o_subT, at0, at1, at2, at3, at4, ix0, ix1, ix2, ix3, o_len, o_lenT, o_abs, o_min2, o_max2, o_int, o_intb, o_tup, o_tupt, o_lst, o_lstt, o_rev, o_lrevl, o_lrevt, o_isi, o_isi2, i_int, i_bl, i_lst, i_tup, i_str, i_non, o_slu, o_slsu, o_sll, o_sla, o_slut, o_sllt, o_all, o_any, o_sum, o_srt, o_srtT, o_stp, o_lrng1, o_lrng2, n_seqL, n_seqT, n_enumL, n_enumT, n_rev, n_revT, n_zipL, n_zipT, n_rng1, n_rng2, n_revr, ownVar, ownS, getS, lstB, os_setS, stO_some, stO_none, stB_un, stB_sh, stB_ow, putS, odTs, odT, odAs, odA, refs, nodupB, backs, back1, retE, outS, wipeS, giveS, plainS, tgtF, asgs, mkSeq, T.isNon, okFor, setsS, setsL, List.getElem?_cons_zero, List.getElem?_cons_succ, List.getElem?_nil, List.set_cons_zero, List.set_cons_succ, List.length_cons, List.length_nil, List.length_map, List.cons_append, List.nil_append, List.append_nil, List.replicate, List.getD_cons_zero, List.getD_cons_succ, Option.getD, List.contains_nil, List.contains_cons, Bool.not_true, Bool.not_false, Bool.and_true, Bool.true_and, Bool.and_self, if_true, if_false, true_and, and_true, ite_true, ite_false, reduceIte, Bool.false_eq_true, Bool.true_eq_false, decide_true, decide_false, decide_eq_true_eq, eq_self, Nat.reduceAdd, Nat.reduceLT, Nat.reduceSub, Int.reduceLT, Int.reduceLE, Int.reduceToNat, Int.reduceAbs, Int.reducePow, Int.natAbs_natCast, Nat.reducePow, Nat.reduceLeDiff, Nat.reduceMul, Nat.reduceBEq, Bool.or_true, Bool.or_false, Bool.true_or, Bool.false_or, Int.reduceNeg, $a,*])
  | `(tactic| dsimp! only [$a,*] $l:location) => `(tactic| simp only [w_nil, w_cons, w_set, w_unp, w_par, w_aug, w_sts, w_dst, w_st2, os_stD, os_stL, two2_t, w_rdv, w_dnew, w_tmt, w_fnv, w_cal, w_dsp, w_dgt, w_app, w_ext, w_ins, w_ixl, w_exp, w_ret, w_retn, w_ife, w_non, w_bl, w_int, w_str, w_var, w_glb, w_tup, w_lst, w_op, w_chn, w_not, w_ifx, w_bop, w_b1, w_b2, w_call, w_do, w_pop, w_fs0, w_fs, w_os0, w_os, w_ts0, w_ts1, ok_ok, ok_bad, ok_bind, os_some, os_none, os_bind, os_map, os_ifn, bl_bl, fn_nx, fn_rt, rt_nx, rt_rt, o_bin, b_add, b_sub, b_and, b_or, b_xor, b_mod, b_fdiv, b_mul, b_pow, b_shl, b_shr, b_cat, b_catT, b_rep, a_add, a_sub, a_and, a_or, a_xor, a_shr, a_shl, a_fdiv, o_neg, o_inv, o_cmp, c_eq, c_ne, c_lt, c_le, c_gt, c_ge, c_isn, c_notn, c_inl, c_ninl, c_int, c_nint, c_ind, c_nind, kB_int, kB_str, o_subD, o_sub, o_subT, at0, at1, at2, at3, at4, ix0, ix1, ix2, ix3, o_len, o_lenT, o_abs, o_min2, o_max2, o_int, o_intb, o_tup, o_tupt, o_lst, o_lstt, o_rev, o_lrevl, o_lrevt, o_isi, o_isi2, i_int, i_bl, i_lst, i_tup, i_str, i_non, o_slu, o_slsu, o_sll, o_sla, o_slut, o_sllt, o_all, o_any, o_sum, o_srt, o_srtT, o_stp, o_lrng1, o_lrng2, n_seqL, n_seqT, n_enumL, n_enumT, n_rev, n_revT, n_zipL, n_zipT, n_rng1, n_rng2, n_revr, ownVar, ownS, getS, lstB, os_setS, stO_some, stO_none, stB_un, stB_sh, stB_ow, putS, odTs, odT, odAs, odA, refs, nodupB, backs, back1, retE, outS, wipeS, giveS, plainS, tgtF, asgs, mkSeq, T.isNon, okFor, setsS, setsL, List.getElem?_cons_zero, List.getElem?_cons_succ, List.getElem?_nil, List.set_cons_zero, List.set_cons_succ, List.length_cons, List.length_nil, List.length_map, List.cons_append, List.nil_append, List.append_nil, List.replicate, List.getD_cons_zero, List.getD_cons_succ, Option.getD, List.contains_nil, List.contains_cons, Bool.not_true, Bool.not_false, Bool.and_true, Bool.true_and, Bool.and_self, if_true, if_false, true_and, and_true, ite_true, ite_false, reduceIte, Bool.false_eq_true, Bool.true_eq_false, decide_true, decide_false, decide_eq_true_eq, eq_self, Nat.reduceAdd, Nat.reduceLT, Nat.reduceSub, Int.reduceLT, Int.reduceLE, Int.reduceToNat, Int.reduceAbs, Int.reducePow, Int.natAbs_natCast, Nat.reducePow, Nat.reduceLeDiff, Nat.reduceMul, Nat.reduceBEq, Bool.or_true, Bool.or_false, Bool.true_or, Bool.false_or, Int.reduceNeg, $a,*] $l)
local macro_rules
  | `(tactic| simp! only [$a,*]) => `(tactic| simp only [w_nil, w_cons, w_set, w_unp, w_par, w_aug, w_sts, w_dst, w_st2, os_stD, os_stL, two2_t, w_rdv, w_dnew, w_tmt, w_fnv, w_cal, w_dsp, w_dgt, w_app, w_ext, w_ins, w_ixl, w_exp, w_ret, w_retn, w_ife, w_non, w_bl, w_int, w_str, w_var, w_glb, w_tup, w_lst, w_op, w_chn, w_not, w_ifx, w_bop, w_b1, w_b2, w_call, w_do, w_pop, w_fs0, w_fs, w_os0, w_os, w_ts0, w_ts1, ok_ok, ok_bad, ok_bind, os_some, os_none, os_bind, os_map, os_ifn, bl_bl, fn_nx, fn_rt, rt_nx, rt_rt, o_bin, b_add, b_sub, b_and, b_or, b_xor, b_mod, b_fdiv, b_mul, b_pow, b_shl, b_shr, b_cat, b_catT, b_rep, a_add, a_sub, a_and, a_or, a_xor, a_shr, a_shl, a_fdiv, o_neg, o_inv, o_cmp, c_eq, c_ne, c_lt, c_le, c_gt, c_ge, c_isn, c_notn, c_inl, c_ninl, c_int, c_nint, c_ind, c_nind, kB_int, kB_str, o_subD, o_sub, o_subT, at0, at1, at2, at3, at4, ix0, ix1, ix2, ix3, o_len, o_lenT, o_abs, o_min2, o_max2, o_int, o_intb, o_tup, o_tupt, o_lst, o_lstt, o_rev, o_lrevl, o_lrevt, o_isi, o_isi2, i_int, i_bl, i_lst, i_tup, i_str, i_non, o_slu, o_slsu, o_sll, o_sla, o_slut, o_sllt, o_all, o_any, o_sum, o_srt, o_srtT, o_stp, o_lrng1, o_lrng2, n_seqL, n_seqT, n_enumL, n_enumT, n_rev, n_revT, n_zipL, n_zipT, n_rng1, n_rng2, n_revr, ownVar, ownS, getS, lstB, os_setS, stO_some, stO_none, stB_un, stB_sh, stB_ow, putS, odTs, odT, odAs, odA, refs, nodupB, backs, back1, retE, outS, wipeS, giveS, plainS, tgtF, asgs, mkSeq, T.isNon, okFor, setsS, setsL, List.getElem?_cons_zero, List.getElem?_cons_succ, List.getElem?_nil, List.set_cons_zero, List.set_cons_succ, List.length_cons, List.length_nil, List.length_map, List.cons_append, List.nil_append, List.append_nil, List.replicate, List.getD_cons_zero, List.getD_cons_succ, Option.getD, List.contains_nil, List.contains_cons, Bool.not_true, Bool.not_false, Bool.and_true, Bool.true_and, Bool.and_self, if_true, if_false, true_and, and_true, ite_true, ite_false, reduceIte, Bool.false_eq_true, Bool.true_eq_false, decide_true, decide_false, decide_eq_true_eq, eq_self, Nat.reduceAdd, Nat.reduceLT, Nat.reduceSub, Int.reduceLT, Int.reduceLE, Int.reduceToNat, Int.reduceAbs, Int.reducePow, Int.natAbs_natCast, Nat.reducePow, Nat.reduceLeDiff, Nat.reduceMul, Nat.reduceBEq, Bool.or_true, Bool.or_false, Bool.true_or, Bool.false_or, Int.reduceNeg, sq_and_and, sq_and_or, sq_and_gather, sq_and_strew, sq_and_left, sq_and_right, sq_and_turn, sq_and_swap, sq_and_copy, si_and_M, si_and_B, si_and_S, si_and_L, sn_and, sq_or_and, sq_or_or, sq_or_gather, sq_or_strew, sq_or_left, sq_or_right, sq_or_turn, sq_or_swap, sq_or_copy, si_or_M, si_or_B, si_or_S, si_or_L, sn_or, sq_gather_and, sq_gather_or, sq_gather_gather, sq_gather_strew, sq_gather_left, sq_gather_right, sq_gather_turn, sq_gather_swap, sq_gather_copy, si_gather_M, si_gather_B, si_gather_S, si_gather_L, sn_gather, sq_strew_and, sq_strew_or, sq_strew_gather, sq_strew_strew, sq_strew_left, sq_strew_right, sq_strew_turn, sq_strew_swap, sq_strew_copy, si_strew_M, si_strew_B, si_strew_S, si_strew_L, sn_strew, sq_left_and, sq_left_or, sq_left_gather, sq_left_strew, sq_left_left, sq_left_right, sq_left_turn, sq_left_swap, sq_left_copy, si_left_M, si_left_B, si_left_S, si_left_L, sn_left, sq_right_and, sq_right_or, sq_right_gather, sq_right_strew, sq_right_left, sq_right_right, sq_right_turn, sq_right_swap, sq_right_copy, si_right_M, si_right_B, si_right_S, si_right_L, sn_right, sq_turn_and, sq_turn_or, sq_turn_gather, sq_turn_strew, sq_turn_left, sq_turn_right, sq_turn_turn, sq_turn_swap, sq_turn_copy, si_turn_M, si_turn_B, si_turn_S, si_turn_L, sn_turn, sq_swap_and, sq_swap_or, sq_swap_gather, sq_swap_strew, sq_swap_left, sq_swap_right, sq_swap_turn, sq_swap_swap, sq_swap_copy, si_swap_M, si_swap_B, si_swap_S, si_swap_L, sn_swap, sq_copy_and, sq_copy_or, sq_copy_gather, sq_copy_strew, sq_copy_left, sq_copy_right, sq_copy_turn, sq_copy_swap, sq_copy_copy, si_copy_M, si_copy_B, si_copy_S, si_copy_L, sn_copy, snb_and, snb_or, snb_gather, snb_strew, snb_left, snb_right, snb_turn, snb_swap, snb_copy, $a,*])
  | `(tactic| simp! only [$a,*] $l:location) => `(tactic| simp only [w_nil, w_cons, w_set, w_unp, w_par, w_aug, w_sts, w_dst, w_st2, os_stD, os_stL, two2_t, w_rdv, w_dnew, w_tmt, w_fnv, w_cal, w_dsp, w_dgt, w_app, w_ext, w_ins, w_ixl, w_exp, w_ret, w_retn, w_ife, w_non, w_bl, w_int, w_str, w_var, w_glb, w_tup, w_lst, w_op, w_chn, w_not, w_ifx, w_bop, w_b1, w_b2, w_call, w_do, w_pop, w_fs0, w_fs, w_os0, w_os, w_ts0, w_ts1, ok_ok, ok_bad, ok_bind, os_some, os_none, os_bind, os_map, os_ifn, bl_bl, fn_nx, fn_rt, rt_nx, rt_rt, o_bin, b_add, b_sub, b_and, b_or, b_xor, b_mod, b_fdiv, b_mul, b_pow, b_shl, b_shr, b_cat, b_catT, b_rep, a_add, a_sub, a_and, a_or, a_xor, a_shr, a_shl, a_fdiv, o_neg, o_inv, o_cmp, c_eq, c_ne, c_lt, c_le, c_gt, c_ge, c_isn, c_notn, c_inl, c_ninl, c_int, c_nint, c_ind, c_nind, kB_int, kB_str, o_subD, o_sub, o_subT, at0, at1, at2, at3, at4, ix0, ix1, ix2, ix3, o_len, o_lenT, o_abs, o_min2, o_max2, o_int, o_intb, o_tup, o_tupt, o_lst, o_lstt, o_rev, o_lrevl, o_lrevt, o_isi, o_isi2, i_int, i_bl, i_lst, i_tup, i_str, i_non, o_slu, o_slsu, o_sll, o_sla, o_slut, o_sllt, o_all, o_any, o_sum, o_srt, o_srtT, o_stp, o_lrng1, o_lrng2, n_seqL, n_seqT, n_enumL, n_enumT, n_rev, n_revT, n_zipL, n_zipT, n_rng1, n_rng2, n_revr, ownVar, ownS, getS, lstB, os_setS, stO_some, stO_none, stB_un, stB_sh, stB_ow, putS, odTs, odT, odAs, odA, refs, nodupB, backs, back1, retE, outS, wipeS, giveS, plainS, tgtF, asgs, mkSeq, T.isNon, okFor, setsS, setsL, List.getElem?_cons_zero, List.getElem?_cons_succ, List.getElem?_nil, List.set_cons_zero, List.set_cons_succ, List.length_cons, List.length_nil, List.length_map, List.cons_append, List.nil_append, List.append_nil, List.replicate, List.getD_cons_zero, List.getD_cons_succ, Option.getD, List.contains_nil, List.contains_cons, Bool.not_true, Bool.not_false, Bool.and_true, Bool.true_and, Bool.and_self, if_true, if_false, true_and, and_true, ite_true, ite_false, reduceIte, Bool.false_eq_true, Bool.true_eq_false, decide_true, decide_false, decide_eq_true_eq, eq_self, Nat.reduceAdd, Nat.reduceLT, Nat.reduceSub, Int.reduceLT, Int.reduceLE, Int.reduceToNat, Int.reduceAbs, Int.reducePow, Int.natAbs_natCast, Nat.reducePow, Nat.reduceLeDiff, Nat.reduceMul, Nat.reduceBEq, Bool.or_true, Bool.or_false, Bool.true_or, Bool.false_or, Int.reduceNeg, sq_and_and, sq_and_or, sq_and_gather, sq_and_strew, sq_and_left, sq_and_right, sq_and_turn, sq_and_swap, sq_and_copy, si_and_M, si_and_B, si_and_S, si_and_L, sn_and, sq_or_and, sq_or_or, sq_or_gather, sq_or_strew, sq_or_left, sq_or_right, sq_or_turn, sq_or_swap, sq_or_copy, si_or_M, si_or_B, si_or_S, si_or_L, sn_or, sq_gather_and, sq_gather_or, sq_gather_gather, sq_gather_strew, sq_gather_left, sq_gather_right, sq_gather_turn, sq_gather_swap, sq_gather_copy, si_gather_M, si_gather_B, si_gather_S, si_gather_L, sn_gather, sq_strew_and, sq_strew_or, sq_strew_gather, sq_strew_strew, sq_strew_left, sq_strew_right, sq_strew_turn, sq_strew_swap, sq_strew_copy, si_strew_M, si_strew_B, si_strew_S, si_strew_L, sn_strew, sq_left_and, sq_left_or, sq_left_gather, sq_left_strew, sq_left_left, sq_left_right, sq_left_turn, sq_left_swap, sq_left_copy, si_left_M, si_left_B, si_left_S, si_left_L, sn_left, sq_right_and, sq_right_or, sq_right_gather, sq_right_strew, sq_right_left, sq_right_right, sq_right_turn, sq_right_swap, sq_right_copy, si_right_M, si_right_B, si_right_S, si_right_L, sn_right, sq_turn_and, sq_turn_or, sq_turn_gather, sq_turn_strew, sq_turn_left, sq_turn_right, sq_turn_turn, sq_turn_swap, sq_turn_copy, si_turn_M, si_turn_B, si_turn_S, si_turn_L, sn_turn, sq_swap_and, sq_swap_or, sq_swap_gather, sq_swap_strew, sq_swap_left, sq_swap_right, sq_swap_turn, sq_swap_swap, sq_swap_copy, si_swap_M, si_swap_B, si_swap_S, si_swap_L, sn_swap, sq_copy_and, sq_copy_or, sq_copy_gather, sq_copy_strew, sq_copy_left, sq_copy_right, sq_copy_turn, sq_copy_swap, sq_copy_copy, si_copy_M, si_copy_B, si_copy_S, si_copy_L, sn_copy, snb_and, snb_or, snb_gather, snb_strew, snb_left, snb_right, snb_turn, snb_swap, snb_copy, $a,*] $l)
end MP
namespace MP
open PySem
local macro_rules
  | `(tactic| dsimp! only [$a,*]) => `(tactic| simp only [w_nil, w_cons, w_set, w_unp, w_par, w_aug, w_sts, w_dst, w_st2, os_stD, os_stL, two2_t, w_rdv, w_dnew, w_tmt, w_fnv, w_cal, w_dsp, w_dgt, w_app, w_ext, w_ins, w_ixl, w_exp, w_ret, w_retn, w_ife, w_non, w_bl, w_int, w_str, w_var, w_glb, w_tup, w_lst, w_op, w_chn, w_not, w_ifx, w_bop, w_b1, w_b2, w_call, w_do, w_pop, w_fs0, w_fs, w_os0, w_os, w_ts0, w_ts1, ok_ok, ok_bad, ok_bind, os_some, os_none, os_bind, os_map, os_ifn, bl_bl, fn_nx, fn_rt, rt_nx, rt_rt, o_bin, b_add, b_sub, b_and, b_or, b_xor, b_mod, b_fdiv, b_mul, b_pow, b_shl, b_shr, b_cat, b_catT, b_rep, a_add, a_sub, a_and, a_or, a_xor, a_shr, a_shl, a_fdiv, o_neg, o_inv, o_cmp, c_eq, c_ne, c_lt, c_le, c_gt, c_ge, c_isn, c_notn, c_inl, c_ninl, c_int, c_nint, c_ind, c_nind, kB_int, kB_str, o_subD, o_sub, o_subT, at0, at1, at2, at3, at4, ix0, ix1, ix2, ix3, o_len, o_lenT, o_abs, o_min2, o_max2, o_int, o_intb, o_tup, o_tupt, o_lst, o_lstt, o_rev, o_lrevl, o_lrevt, o_isi, o_isi2, i_int, i_bl, i_lst, i_tup, i_str, i_non, o_slu, o_slsu, o_sll, o_sla, o_slut, o_sllt, o_all, o_any, o_sum, o_srt, o_srtT, o_stp, o_lrng1, o_lrng2, n_seqL, n_seqT, n_enumL, n_enumT, n_rev, n_revT, n_zipL, n_zipT, n_rng1, n_rng2, n_revr, ownVar, ownS, getS, lstB, os_setS, stO_some, stO_none, stB_un, stB_sh, stB_ow, putS, odTs, odT, odAs, odA, refs, nodupB, backs, back1, retE, outS, wipeS, giveS, plainS, tgtF, asgs, mkSeq, T.isNon, okFor, setsS, setsL, List.getElem?_cons_zero, List.getElem?_cons_succ, List.getElem?_nil, List.set_cons_zero, List.set_cons_succ, List.length_cons, List.length_nil, List.length_map, List.cons_append, List.nil_append, List.append_nil, List.replicate, List.getD_cons_zero, List.getD_cons_succ, Option.getD, List.contains_nil, List.contains_cons, Bool.not_true, Bool.not_false, Bool.and_true, Bool.true_and, Bool.and_self, if_true, if_false, true_and, and_true, ite_true, ite_false, reduceIte, Bool.false_eq_true, Bool.true_eq_false, decide_true, decide_false, decide_eq_true_eq, eq_self, Nat.reduceAdd, Nat.reduceLT, Nat.reduceSub, Int.reduceLT, Int.reduceLE, Int.reduceToNat, Int.reduceAbs, Int.reducePow, Int.natAbs_natCast, Nat.reducePow, Nat.reduceLeDiff, Nat.reduceMul, Nat.reduceBEq, Bool.or_true, Bool.or_false, Bool.true_or, Bool.false_or, Int.reduceNeg, $a,*])
  | `(tactic| dsimp! only [$a,*] $l:location) => `(tactic| simp only [w_nil, w_cons, w_set, w_unp, w_par, w_aug, w_sts, w_dst, w_st2, os_stD, os_stL, two2_t, w_rdv, w_dnew, w_tmt, w_fnv, w_cal, w_dsp, w_dgt, w_app, w_ext, w_ins, w_ixl, w_exp, w_ret, w_retn, w_ife, w_non, w_bl, w_int, w_str, w_var, w_glb, w_tup, w_lst, w_op, w_chn, w_not, w_ifx, w_bop, w_b1, w_b2, w_call, w_do, w_pop, w_fs0, w_fs, w_os0, w_os, w_ts0, w_ts1, ok_ok, ok_bad, ok_bind, os_some, os_none, os_bind, os_map, os_ifn, bl_bl, fn_nx, fn_rt, rt_nx, rt_rt, o_bin, b_add, b_sub, b_and, b_or, b_xor, b_mod, b_fdiv, b_mul, b_pow, b_shl, b_shr, b_cat, b_catT, b_rep, a_add, a_sub, a_and, a_or, a_xor, a_shr, a_shl, a_fdiv, o_neg, o_inv, o_cmp, c_eq, c_ne, c_lt, c_le, c_gt, c_ge, c_isn, c_notn, c_inl, c_ninl, c_int, c_nint, c_ind, c_nind, kB_int, kB_str, o_subD, o_sub, o_subT, at0, at1, at2, at3, at4, ix0, ix1, ix2, ix3, o_len, o_lenT, o_abs, o_min2, o_max2, o_int, o_intb, o_tup, o_tupt, o_lst, o_lstt, o_rev, o_lrevl, o_lrevt, o_isi, o_isi2, i_int, i_bl, i_lst, i_tup, i_str, i_non, o_slu, o_slsu, o_sll, o_sla, o_slut, o_sllt, o_all, o_any, o_sum, o_srt, o_srtT, o_stp, o_lrng1, o_lrng2, n_seqL, n_seqT, n_enumL, n_enumT, n_rev, n_revT, n_zipL, n_zipT, n_rng1, n_rng2, n_revr, ownVar, ownS, getS, lstB, os_setS, stO_some, stO_none, stB_un, stB_sh, stB_ow, putS, odTs, odT, odAs, odA, refs, nodupB, backs, back1, retE, outS, wipeS, giveS, plainS, tgtF, asgs, mkSeq, T.isNon, okFor, setsS, setsL, List.getElem?_cons_zero, List.getElem?_cons_succ, List.getElem?_nil, List.set_cons_zero, List.set_cons_succ, List.length_cons, List.length_nil, List.length_map, List.cons_append, List.nil_append, List.append_nil, List.replicate, List.getD_cons_zero, List.getD_cons_succ, Option.getD, List.contains_nil, List.contains_cons, Bool.not_true, Bool.not_false, Bool.and_true, Bool.true_and, Bool.and_self, if_true, if_false, true_and, and_true, ite_true, ite_false, reduceIte, Bool.false_eq_true, Bool.true_eq_false, decide_true, decide_false, decide_eq_true_eq, eq_self, Nat.reduceAdd, Nat.reduceLT, Nat.reduceSub, Int.reduceLT, Int.reduceLE, Int.reduceToNat, Int.reduceAbs, Int.reducePow, Int.natAbs_natCast, Nat.reducePow, Nat.reduceLeDiff, Nat.reduceMul, Nat.reduceBEq, Bool.or_true, Bool.or_false, Bool.true_or, Bool.false_or, Int.reduceNeg, $a,*] $l)
end MP
namespace MP
open PySem
def mapR (W : Nat) (f : Nat → Nat) : List Int := (List.range W).map fun p => ((f p : Nat) : Int)
theorem mapR_get {W p : Nat} (f : Nat → Nat) (h : p < W) : (mapR W f)[p]? = some ((f p : Nat) : Int) := by
  unfold mapR
  rw [List.getElem?_map, List.getElem?_range h]
  rfl
theorem mapR_getD {W p : Nat} (f : Nat → Nat) (h : p < W) : (mapR W f).getD p 0 = ((f p : Nat) : Int) := by
  rw [List.getD_eq_getElem?_getD, mapR_get f h]
  rfl
theorem stay_mapR (W : Nat) : stayZ W = mapR W fun p => p := rfl
theorem thenR {W : Nat} {f g : Nat → Nat} (h : ∀ p, p < W → g p < W) : thenZ (mapR W f) (mapR W g) = mapR W fun p => f (g p) := by
  show List.map (fun e => if 0 ≤ e then (mapR W f).getD e.toNat 0 else e) ((List.range W).map fun p => ((g p : Nat) : Int)) = _
  rw [List.map_map]
  refine List.map_congr_left fun p hp => ?_
  have hp := List.mem_range.mp hp
  show (if (0 : Int) ≤ ((g p : Nat) : Int) then (mapR W f).getD ((g p : Nat) : Int).toNat 0 else ((g p : Nat) : Int)) = ((f (g p) : Nat) : Int)
  rw [if_pos (by omega), Int.toNat_natCast, mapR_getD f (h p hp)]
/-- an even leading's function and its inverse -/
structure PM (W : Nat) (s b : Nat → Nat) : Prop where
  sl : ∀ g, g < W → s g < W
  bl : ∀ q, q < W → b q < W
  bs : ∀ g, g < W → b (s g) = g
  sb : ∀ q, q < W → s (b q) = q
def sN (es : List Int) (g : Nat) : Nat := (es.getD g 0).toNat
def bN (es : List Int) (q : Nat) : Nat := es.idxOf (q : Int)
theorem EvenZ.getN {W g : Nat} {es : List Int} (h : EvenZ W es) (hg : g < W) : es[g]? = some ((sN es g : Nat) : Int) ∧ sN es g < W := by
  have hl : g < es.length := by rw [h.len]; exact hg
  have hm := stay_mem.mp (h.mem_iff.mp (List.getElem_mem hl))
  have e : es[g]? = some es[g] := List.getElem?_eq_getElem hl
  have e2 : es.getD g 0 = es[g] := by rw [List.getD_eq_getElem?_getD, e]; rfl
  unfold sN
  rw [e2, e]
  refine ⟨?_, by omega⟩
  rw [Int.toNat_of_nonneg hm.1]
theorem EvenZ.pm {W : Nat} {es : List Int} (h : EvenZ W es) : PM W (sN es) (bN es) where
  sl := fun g hg => (h.getN hg).2
  bl := fun q hq => by
    have := List.idxOf_lt_length_of_mem (h.mem hq)
    rw [h.len] at this
    exact this
  bs := fun g hg => idx_at h.nodup (h.getN hg).1
  sb := fun q hq => by
    have hb := List.idxOf_lt_length_of_mem (h.mem hq)
    have e : es[es.idxOf (q : Int)]? = some (q : Int) := by
      rw [List.getElem?_eq_getElem hb, List.getElem_idxOf hb]
    have e2 := (h.getN (g := bN es q) (by rw [h.len] at hb; exact hb)).1
    unfold bN at e2 ⊢
    rw [e] at e2
    exact (Int.ofNat.inj (Option.some.inj e2)).symm
theorem PM.even {W : Nat} {s b : Nat → Nat} (h : PM W s b) : EvenZ W (mapR W s) := by
  unfold EvenZ
  have nd : (mapR W s).Nodup := by
    unfold mapR
    refine List.pairwise_map.mpr (List.Pairwise.imp_of_mem (fun {x y} hx hy hne e => hne ?_) List.nodup_range)
    have e := Int.ofNat.inj e
    rw [← h.bs x (List.mem_range.mp hx), ← h.bs y (List.mem_range.mp hy), e]
  refine (List.perm_ext_iff_of_nodup nd (stay_nodup W)).mpr fun e => ⟨fun he => ?_, fun he => ?_⟩
  · obtain ⟨p, hp, rfl⟩ := List.mem_map.mp he
    exact stay_mem.mpr ⟨by omega, by have := h.sl p (List.mem_range.mp hp); omega⟩
  · obtain ⟨h0, h1⟩ := stay_mem.mp he
    obtain ⟨q, rfl⟩ := Int.eq_ofNat_of_zero_le h0
    have hq : q < W := by omega
    exact List.mem_map.mpr ⟨b q, List.mem_range.mpr (h.bl q hq), by rw [h.sb q hq]⟩
def pr (n p : Nat) : Nat := if p < n then p + n else p - n
theorem pr_lt {n p : Nat} (h : p < 2 * n) : pr n p < 2 * n := by unfold pr; split <;> omega
theorem pr_pr {n p : Nat} (h : p < 2 * n) : pr n (pr n p) = p := by
  unfold pr
  by_cases c : p < n
  · rw [if_pos c, if_neg (by omega)]; omega
  · rw [if_neg c, if_pos (by omega)]; omega
theorem pr_ne {n p : Nat} (hn : 0 < n) (h : p < 2 * n) : pr n p ≠ p := by unfold pr; split <;> omega
def lk : List (Nat × Bool) → Nat → Option Bool
  | [], _ => none
  | p :: r, q => if p.1 = q then some p.2 else lk r q
theorem lk_snoc (D : List (Nat × Bool)) (a : Nat) (x : Bool) (q : Nat) : lk (D ++ [(a, x)]) q = match lk D q with
    | some v => some v
    | none => if a = q then some x else none := by
  induction D with
  | nil => show (if a = q then some x else none) = _; rfl
  | cons p r ih =>
    show (if p.1 = q then some p.2 else lk (r ++ [(a, x)]) q) = _
    by_cases e : p.1 = q
    · rw [if_pos e]
      show _ = match (if p.1 = q then some p.2 else lk r q) with
        | some v => some v
        | none => if a = q then some x else none
      rw [if_pos e]
    · rw [if_neg e, ih]
      show _ = match (if p.1 = q then some p.2 else lk r q) with
        | some v => some v
        | none => if a = q then some x else none
      rw [if_neg e]
section
variable {n : Nat} {s b : Nat → Nat} {D : List (Nat × Bool)}
/-- the other source of a goal's pair -/
def tau (n : Nat) (s b : Nat → Nat) (q : Nat) : Nat := s (pr n (b q))
theorem tau_tau (h : PM (2 * n) s b) {q : Nat} (hq : q < 2 * n) : tau n s b (tau n s b q) = q := by
  unfold tau
  rw [h.bs _ (pr_lt (h.bl q hq)), pr_pr (h.bl q hq), h.sb q hq]
theorem tau_ne (h : PM (2 * n) s b) (hn : 0 < n) {q : Nat} (hq : q < 2 * n) : tau n s b q ≠ q := fun e => by
  have e2 : b (tau n s b q) = b q := by rw [e]
  unfold tau at e2
  rw [h.bs _ (pr_lt (h.bl q hq))] at e2
  exact pr_ne hn (h.bl q hq) e2
/-- all is matched -/
def FM (n : Nat) (s b : Nat → Nat) (D : List (Nat × Bool)) : Prop := ∀ q v, lk D q = some v → q < 2 * n ∧ lk D (pr n q) = some (!v) ∧ lk D (tau n s b q) = some (!v)
/-- all but two -/
structure PB (n : Nat) (s b : Nat → Nat) (D : List (Nat × Bool)) (f p : Nat) : Prop where
  lt : ∀ q v, lk D q = some v → q < 2 * n ∧ lk D (pr n q) = some (!v)
  mt : ∀ q v, lk D q = some v → q ≠ f → q ≠ p → lk D (tau n s b q) = some (!v) ∧ tau n s b q ≠ f ∧ tau n s b q ≠ p
  hf : lk D f = some true
  hp : lk D p = some false
theorem PB.done (h : PM (2 * n) s b) (hn : 0 < n) {f p : Nat} (B : PB n s b D f p) (e : (lk D (tau n s b p)).isSome = true) : FM n s b D := by
  have hp := (B.lt p false B.hp).1
  obtain ⟨v, hv⟩ := Option.isSome_iff_exists.mp e
  have hx : tau n s b p = f := by
    by_cases c : tau n s b p = f
    · exact c
    · exfalso
      have := (B.mt _ v hv c (tau_ne h hn hp)).2.2
      rw [tau_tau h hp] at this
      exact this rfl
  have hf : tau n s b f = p := by rw [← hx]; exact tau_tau h hp
  intro q v hq
  refine ⟨(B.lt q v hq).1, (B.lt q v hq).2, ?_⟩
  by_cases c : q = f
  · subst c
    rw [B.hf] at hq
    cases hq
    rw [hf]
    exact B.hp
  · by_cases c2 : q = p
    · subst c2
      rw [B.hp] at hq
      cases hq
      rw [hx]
      exact B.hf
    · exact (B.mt q v hq c c2).1
theorem lk_two {a b : Nat} {x y : Bool} (ha : lk D a = none) (hb : lk D b = none) (hab : a ≠ b) (q : Nat) : lk (D ++ [(a, x)] ++ [(b, y)]) q = if q = a then some x else if q = b then some y else lk D q := by
  rw [lk_snoc, lk_snoc]
  by_cases c : q = a
  · subst c
    rw [ha, if_pos rfl, if_pos rfl]
  · rw [if_neg c, if_neg (fun e => c e.symm)]
    by_cases c2 : q = b
    · subst c2
      rw [hb, if_pos rfl]
    · rw [if_neg c2, if_neg (fun e => c2 e.symm)]
      cases lk D q <;> rfl
theorem FM.start (h : PM (2 * n) s b) (hn : 0 < n) {f : Nat} (F : FM n s b D) (hf : f < 2 * n) (e : lk D f = none) : lk D (pr n f) = none ∧ PB n s b (D ++ [(f, true)] ++ [(pr n f, false)]) f (pr n f) := by
  have e2 : lk D (pr n f) = none := by
    cases c : lk D (pr n f) with
    | none => rfl
    | some v =>
      have := (F _ v c).2.1
      rw [pr_pr hf, e] at this
      cases this
  have ne := pr_ne hn hf
  refine ⟨e2, ?_⟩
  have L := lk_two (x := true) (y := false) e e2 (Ne.symm ne)
  refine ⟨fun q v hq => ?_, fun q v hq c1 c2 => ?_, ?_, ?_⟩
  · rw [L] at hq
    by_cases c1 : q = f
    · subst c1
      rw [if_pos rfl] at hq
      cases hq
      exact ⟨hf, by rw [L, if_neg ne, if_pos rfl]; rfl⟩
    · rw [if_neg c1] at hq
      by_cases c2 : q = pr n f
      · subst c2
        rw [if_pos rfl] at hq
        cases hq
        exact ⟨pr_lt hf, by rw [pr_pr hf, L, if_pos rfl]; rfl⟩
      · rw [if_neg c2] at hq
        obtain ⟨h1, h2, _⟩ := F q v hq
        refine ⟨h1, ?_⟩
        rw [L, if_neg (fun z => by rw [z, e] at h2; cases h2), if_neg (fun z => by rw [z, e2] at h2; cases h2)]
        exact h2
  · rw [L, if_neg c1, if_neg c2] at hq
    obtain ⟨_, _, h3⟩ := F q v hq
    have n1 : tau n s b q ≠ f := fun z => by rw [z, e] at h3; cases h3
    have n2 : tau n s b q ≠ pr n f := fun z => by rw [z, e2] at h3; cases h3
    exact ⟨by rw [L, if_neg n1, if_neg n2]; exact h3, n1, n2⟩
  · rw [L, if_pos rfl]
  · rw [L, if_neg ne, if_pos rfl]
end
end MP
namespace MP
open PySem
local macro_rules
  | `(tactic| dsimp! only [$a,*]) => `(tactic| simp only [w_nil, w_cons, w_set, w_unp, w_par, w_aug, w_sts, w_dst, w_st2, os_stD, os_stL, two2_t, w_rdv, w_dnew, w_tmt, w_fnv, w_cal, w_dsp, w_dgt, w_app, w_ext, w_ins, w_ixl, w_exp, w_ret, w_retn, w_ife, w_non, w_bl, w_int, w_str, w_var, w_glb, w_tup, w_lst, w_op, w_chn, w_not, w_ifx, w_bop, w_b1, w_b2, w_call, w_do, w_pop, w_fs0, w_fs, w_os0, w_os, w_ts0, w_ts1, ok_ok, ok_bad, ok_bind, os_some, os_none, os_bind, os_map, os_ifn, bl_bl, fn_nx, fn_rt, rt_nx, rt_rt, o_bin, b_add, b_sub, b_and, b_or, b_xor, b_mod, b_fdiv, b_mul, b_pow, b_shl, b_shr, b_cat, b_catT, b_rep, a_add, a_sub, a_and, a_or, a_xor, a_shr, a_shl, a_fdiv, o_neg, o_inv, o_cmp, c_eq, c_ne, c_lt, c_le, c_gt, c_ge, c_isn, c_notn, c_inl, c_ninl, c_int, c_nint, c_ind, c_nind, kB_int, kB_str, o_subD, o_sub, o_subT, at0, at1, at2, at3, at4, ix0, ix1, ix2, ix3, o_len, o_lenT, o_abs, o_min2, o_max2, o_int, o_intb, o_tup, o_tupt, o_lst, o_lstt, o_rev, o_lrevl, o_lrevt, o_isi, o_isi2, i_int, i_bl, i_lst, i_tup, i_str, i_non, o_slu, o_slsu, o_sll, o_sla, o_slut, o_sllt, o_all, o_any, o_sum, o_srt, o_srtT, o_stp, o_lrng1, o_lrng2, n_seqL, n_seqT, n_enumL, n_enumT, n_rev, n_revT, n_zipL, n_zipT, n_rng1, n_rng2, n_revr, ownVar, ownS, getS, lstB, os_setS, stO_some, stO_none, stB_un, stB_sh, stB_ow, putS, odTs, odT, odAs, odA, refs, nodupB, backs, back1, retE, outS, wipeS, giveS, plainS, tgtF, asgs, mkSeq, T.isNon, okFor, setsS, setsL, List.getElem?_cons_zero, List.getElem?_cons_succ, List.getElem?_nil, List.set_cons_zero, List.set_cons_succ, List.length_cons, List.length_nil, List.length_map, List.cons_append, List.nil_append, List.append_nil, List.replicate, List.getD_cons_zero, List.getD_cons_succ, Option.getD, List.contains_nil, List.contains_cons, Bool.not_true, Bool.not_false, Bool.and_true, Bool.true_and, Bool.and_self, if_true, if_false, true_and, and_true, ite_true, ite_false, reduceIte, Bool.false_eq_true, Bool.true_eq_false, decide_true, decide_false, decide_eq_true_eq, eq_self, Nat.reduceAdd, Nat.reduceLT, Nat.reduceSub, Int.reduceLT, Int.reduceLE, Int.reduceToNat, Int.reduceAbs, Int.reducePow, Int.natAbs_natCast, Nat.reducePow, Nat.reduceLeDiff, Nat.reduceMul, Nat.reduceBEq, Bool.or_true, Bool.or_false, Bool.true_or, Bool.false_or, Int.reduceNeg, $a,*])
  | `(tactic| dsimp! only [$a,*] $l:location) => `(tactic| simp only [w_nil, w_cons, w_set, w_unp, w_par, w_aug, w_sts, w_dst, w_st2, os_stD, os_stL, two2_t, w_rdv, w_dnew, w_tmt, w_fnv, w_cal, w_dsp, w_dgt, w_app, w_ext, w_ins, w_ixl, w_exp, w_ret, w_retn, w_ife, w_non, w_bl, w_int, w_str, w_var, w_glb, w_tup, w_lst, w_op, w_chn, w_not, w_ifx, w_bop, w_b1, w_b2, w_call, w_do, w_pop, w_fs0, w_fs, w_os0, w_os, w_ts0, w_ts1, ok_ok, ok_bad, ok_bind, os_some, os_none, os_bind, os_map, os_ifn, bl_bl, fn_nx, fn_rt, rt_nx, rt_rt, o_bin, b_add, b_sub, b_and, b_or, b_xor, b_mod, b_fdiv, b_mul, b_pow, b_shl, b_shr, b_cat, b_catT, b_rep, a_add, a_sub, a_and, a_or, a_xor, a_shr, a_shl, a_fdiv, o_neg, o_inv, o_cmp, c_eq, c_ne, c_lt, c_le, c_gt, c_ge, c_isn, c_notn, c_inl, c_ninl, c_int, c_nint, c_ind, c_nind, kB_int, kB_str, o_subD, o_sub, o_subT, at0, at1, at2, at3, at4, ix0, ix1, ix2, ix3, o_len, o_lenT, o_abs, o_min2, o_max2, o_int, o_intb, o_tup, o_tupt, o_lst, o_lstt, o_rev, o_lrevl, o_lrevt, o_isi, o_isi2, i_int, i_bl, i_lst, i_tup, i_str, i_non, o_slu, o_slsu, o_sll, o_sla, o_slut, o_sllt, o_all, o_any, o_sum, o_srt, o_srtT, o_stp, o_lrng1, o_lrng2, n_seqL, n_seqT, n_enumL, n_enumT, n_rev, n_revT, n_zipL, n_zipT, n_rng1, n_rng2, n_revr, ownVar, ownS, getS, lstB, os_setS, stO_some, stO_none, stB_un, stB_sh, stB_ow, putS, odTs, odT, odAs, odA, refs, nodupB, backs, back1, retE, outS, wipeS, giveS, plainS, tgtF, asgs, mkSeq, T.isNon, okFor, setsS, setsL, List.getElem?_cons_zero, List.getElem?_cons_succ, List.getElem?_nil, List.set_cons_zero, List.set_cons_succ, List.length_cons, List.length_nil, List.length_map, List.cons_append, List.nil_append, List.append_nil, List.replicate, List.getD_cons_zero, List.getD_cons_succ, Option.getD, List.contains_nil, List.contains_cons, Bool.not_true, Bool.not_false, Bool.and_true, Bool.true_and, Bool.and_self, if_true, if_false, true_and, and_true, ite_true, ite_false, reduceIte, Bool.false_eq_true, Bool.true_eq_false, decide_true, decide_false, decide_eq_true_eq, eq_self, Nat.reduceAdd, Nat.reduceLT, Nat.reduceSub, Int.reduceLT, Int.reduceLE, Int.reduceToNat, Int.reduceAbs, Int.reducePow, Int.natAbs_natCast, Nat.reducePow, Nat.reduceLeDiff, Nat.reduceMul, Nat.reduceBEq, Bool.or_true, Bool.or_false, Bool.true_or, Bool.false_or, Int.reduceNeg, $a,*] $l)
end MP
namespace MP
open PySem
local macro_rules
  | `(tactic| dsimp! only [$a,*]) => `(tactic| simp only [w_nil, w_cons, w_set, w_unp, w_par, w_aug, w_sts, w_dst, w_st2, os_stD, os_stL, two2_t, w_rdv, w_dnew, w_tmt, w_fnv, w_cal, w_dsp, w_dgt, w_app, w_ext, w_ins, w_ixl, w_exp, w_ret, w_retn, w_ife, w_non, w_bl, w_int, w_str, w_var, w_glb, w_tup, w_lst, w_op, w_chn, w_not, w_ifx, w_bop, w_b1, w_b2, w_call, w_do, w_pop, w_fs0, w_fs, w_os0, w_os, w_ts0, w_ts1, ok_ok, ok_bad, ok_bind, os_some, os_none, os_bind, os_map, os_ifn, bl_bl, fn_nx, fn_rt, rt_nx, rt_rt, o_bin, b_add, b_sub, b_and, b_or, b_xor, b_mod, b_fdiv, b_mul, b_pow, b_shl, b_shr, b_cat, b_catT, b_rep, a_add, a_sub, a_and, a_or, a_xor, a_shr, a_shl, a_fdiv, o_neg, o_inv, o_cmp, c_eq, c_ne, c_lt, c_le, c_gt, c_ge, c_isn, c_notn, c_inl, c_ninl, c_int, c_nint, c_ind, c_nind, kB_int, kB_str, o_subD, o_sub, o_subT, at0, at1, at2, at3, at4, ix0, ix1, ix2, ix3, o_len, o_lenT, o_abs, o_min2, o_max2, o_int, o_intb, o_tup, o_tupt, o_lst, o_lstt, o_rev, o_lrevl, o_lrevt, o_isi, o_isi2, i_int, i_bl, i_lst, i_tup, i_str, i_non, o_slu, o_slsu, o_sll, o_sla, o_slut, o_sllt, o_all, o_any, o_sum, o_srt, o_srtT, o_stp, o_lrng1, o_lrng2, n_seqL, n_seqT, n_enumL, n_enumT, n_rev, n_revT, n_zipL, n_zipT, n_rng1, n_rng2, n_revr, ownVar, ownS, getS, lstB, os_setS, stO_some, stO_none, stB_un, stB_sh, stB_ow, putS, odTs, odT, odAs, odA, refs, nodupB, backs, back1, retE, outS, wipeS, giveS, plainS, tgtF, asgs, mkSeq, T.isNon, okFor, setsS, setsL, List.getElem?_cons_zero, List.getElem?_cons_succ, List.getElem?_nil, List.set_cons_zero, List.set_cons_succ, List.length_cons, List.length_nil, List.length_map, List.cons_append, List.nil_append, List.append_nil, List.replicate, List.getD_cons_zero, List.getD_cons_succ, Option.getD, List.contains_nil, List.contains_cons, Bool.not_true, Bool.not_false, Bool.and_true, Bool.true_and, Bool.and_self, if_true, if_false, true_and, and_true, ite_true, ite_false, reduceIte, Bool.false_eq_true, Bool.true_eq_false, decide_true, decide_false, decide_eq_true_eq, eq_self, Nat.reduceAdd, Nat.reduceLT, Nat.reduceSub, Int.reduceLT, Int.reduceLE, Int.reduceToNat, Int.reduceAbs, Int.reducePow, Int.natAbs_natCast, Nat.reducePow, Nat.reduceLeDiff, Nat.reduceMul, Nat.reduceBEq, Bool.or_true, Bool.or_false, Bool.true_or, Bool.false_or, Int.reduceNeg, $a,*])
  | `(tactic| dsimp! only [$a,*] $l:location) => `(tactic| simp only [w_nil, w_cons, w_set, w_unp, w_par, w_aug, w_sts, w_dst, w_st2, os_stD, os_stL, two2_t, w_rdv, w_dnew, w_tmt, w_fnv, w_cal, w_dsp, w_dgt, w_app, w_ext, w_ins, w_ixl, w_exp, w_ret, w_retn, w_ife, w_non, w_bl, w_int, w_str, w_var, w_glb, w_tup, w_lst, w_op, w_chn, w_not, w_ifx, w_bop, w_b1, w_b2, w_call, w_do, w_pop, w_fs0, w_fs, w_os0, w_os, w_ts0, w_ts1, ok_ok, ok_bad, ok_bind, os_some, os_none, os_bind, os_map, os_ifn, bl_bl, fn_nx, fn_rt, rt_nx, rt_rt, o_bin, b_add, b_sub, b_and, b_or, b_xor, b_mod, b_fdiv, b_mul, b_pow, b_shl, b_shr, b_cat, b_catT, b_rep, a_add, a_sub, a_and, a_or, a_xor, a_shr, a_shl, a_fdiv, o_neg, o_inv, o_cmp, c_eq, c_ne, c_lt, c_le, c_gt, c_ge, c_isn, c_notn, c_inl, c_ninl, c_int, c_nint, c_ind, c_nind, kB_int, kB_str, o_subD, o_sub, o_subT, at0, at1, at2, at3, at4, ix0, ix1, ix2, ix3, o_len, o_lenT, o_abs, o_min2, o_max2, o_int, o_intb, o_tup, o_tupt, o_lst, o_lstt, o_rev, o_lrevl, o_lrevt, o_isi, o_isi2, i_int, i_bl, i_lst, i_tup, i_str, i_non, o_slu, o_slsu, o_sll, o_sla, o_slut, o_sllt, o_all, o_any, o_sum, o_srt, o_srtT, o_stp, o_lrng1, o_lrng2, n_seqL, n_seqT, n_enumL, n_enumT, n_rev, n_revT, n_zipL, n_zipT, n_rng1, n_rng2, n_revr, ownVar, ownS, getS, lstB, os_setS, stO_some, stO_none, stB_un, stB_sh, stB_ow, putS, odTs, odT, odAs, odA, refs, nodupB, backs, back1, retE, outS, wipeS, giveS, plainS, tgtF, asgs, mkSeq, T.isNon, okFor, setsS, setsL, List.getElem?_cons_zero, List.getElem?_cons_succ, List.getElem?_nil, List.set_cons_zero, List.set_cons_succ, List.length_cons, List.length_nil, List.length_map, List.cons_append, List.nil_append, List.append_nil, List.replicate, List.getD_cons_zero, List.getD_cons_succ, Option.getD, List.contains_nil, List.contains_cons, Bool.not_true, Bool.not_false, Bool.and_true, Bool.true_and, Bool.and_self, if_true, if_false, true_and, and_true, ite_true, ite_false, reduceIte, Bool.false_eq_true, Bool.true_eq_false, decide_true, decide_false, decide_eq_true_eq, eq_self, Nat.reduceAdd, Nat.reduceLT, Nat.reduceSub, Int.reduceLT, Int.reduceLE, Int.reduceToNat, Int.reduceAbs, Int.reducePow, Int.natAbs_natCast, Nat.reducePow, Nat.reduceLeDiff, Nat.reduceMul, Nat.reduceBEq, Bool.or_true, Bool.or_false, Bool.true_or, Bool.false_or, Int.reduceNeg, $a,*] $l)
theorem swE_lt {W m n p : Nat} (h : (Dd.swp m n).ok W) (hp : p < W) : swE m n p < W := by
  obtain ⟨h1, h2, h3, h4⟩ := h
  unfold swE
  split
  · omega
  · split
    · rename_i hb
      exact (h4 p hb).1
    · exact hp
theorem dl_swp {W m n : Nat} : dlZ W (.swp m n) = mapR W (swE m n) := by
  unfold dlZ mapR
  refine List.map_congr_left fun p hp => ?_
  show (if n ≤ p ∧ m.testBit (p - n) = true then ((p - n : Nat) : Int) else if m.testBit p then ((p + n : Nat) : Int) else (p : Int)) = ((swE m n p : Nat) : Int)
  unfold swE
  split
  · rfl
  · split <;> rfl
end MP
namespace MP
open PySem
local macro_rules
  | `(tactic| dsimp! only [$a,*]) => `(tactic| simp only [w_nil, w_cons, w_set, w_unp, w_par, w_aug, w_sts, w_dst, w_st2, os_stD, os_stL, two2_t, w_rdv, w_dnew, w_tmt, w_fnv, w_cal, w_dsp, w_dgt, w_app, w_ext, w_ins, w_ixl, w_exp, w_ret, w_retn, w_ife, w_non, w_bl, w_int, w_str, w_var, w_glb, w_tup, w_lst, w_op, w_chn, w_not, w_ifx, w_bop, w_b1, w_b2, w_call, w_do, w_pop, w_fs0, w_fs, w_os0, w_os, w_ts0, w_ts1, ok_ok, ok_bad, ok_bind, os_some, os_none, os_bind, os_map, os_ifn, bl_bl, fn_nx, fn_rt, rt_nx, rt_rt, o_bin, b_add, b_sub, b_and, b_or, b_xor, b_mod, b_fdiv, b_mul, b_pow, b_shl, b_shr, b_cat, b_catT, b_rep, a_add, a_sub, a_and, a_or, a_xor, a_shr, a_shl, a_fdiv, o_neg, o_inv, o_cmp, c_eq, c_ne, c_lt, c_le, c_gt, c_ge, c_isn, c_notn, c_inl, c_ninl, c_int, c_nint, c_ind, c_nind, kB_int, kB_str, o_subD, o_sub, o_subT, at0, at1, at2, at3, at4, ix0, ix1, ix2, ix3, o_len, o_lenT, o_abs, o_min2, o_max2, o_int, o_intb, o_tup, o_tupt, o_lst, o_lstt, o_rev, o_lrevl, o_lrevt, o_isi, o_isi2, i_int, i_bl, i_lst, i_tup, i_str, i_non, o_slu, o_slsu, o_sll, o_sla, o_slut, o_sllt, o_all, o_any, o_sum, o_srt, o_srtT, o_stp, o_lrng1, o_lrng2, n_seqL, n_seqT, n_enumL, n_enumT, n_rev, n_revT, n_zipL, n_zipT, n_rng1, n_rng2, n_revr, ownVar, ownS, getS, lstB, os_setS, stO_some, stO_none, stB_un, stB_sh, stB_ow, putS, odTs, odT, odAs, odA, refs, nodupB, backs, back1, retE, outS, wipeS, giveS, plainS, tgtF, asgs, mkSeq, T.isNon, okFor, setsS, setsL, List.getElem?_cons_zero, List.getElem?_cons_succ, List.getElem?_nil, List.set_cons_zero, List.set_cons_succ, List.length_cons, List.length_nil, List.length_map, List.cons_append, List.nil_append, List.append_nil, List.replicate, List.getD_cons_zero, List.getD_cons_succ, Option.getD, List.contains_nil, List.contains_cons, Bool.not_true, Bool.not_false, Bool.and_true, Bool.true_and, Bool.and_self, if_true, if_false, true_and, and_true, ite_true, ite_false, reduceIte, Bool.false_eq_true, Bool.true_eq_false, decide_true, decide_false, decide_eq_true_eq, eq_self, Nat.reduceAdd, Nat.reduceLT, Nat.reduceSub, Int.reduceLT, Int.reduceLE, Int.reduceToNat, Int.reduceAbs, Int.reducePow, Int.natAbs_natCast, Nat.reducePow, Nat.reduceLeDiff, Nat.reduceMul, Nat.reduceBEq, Bool.or_true, Bool.or_false, Bool.true_or, Bool.false_or, Int.reduceNeg, $a,*])
  | `(tactic| dsimp! only [$a,*] $l:location) => `(tactic| simp only [w_nil, w_cons, w_set, w_unp, w_par, w_aug, w_sts, w_dst, w_st2, os_stD, os_stL, two2_t, w_rdv, w_dnew, w_tmt, w_fnv, w_cal, w_dsp, w_dgt, w_app, w_ext, w_ins, w_ixl, w_exp, w_ret, w_retn, w_ife, w_non, w_bl, w_int, w_str, w_var, w_glb, w_tup, w_lst, w_op, w_chn, w_not, w_ifx, w_bop, w_b1, w_b2, w_call, w_do, w_pop, w_fs0, w_fs, w_os0, w_os, w_ts0, w_ts1, ok_ok, ok_bad, ok_bind, os_some, os_none, os_bind, os_map, os_ifn, bl_bl, fn_nx, fn_rt, rt_nx, rt_rt, o_bin, b_add, b_sub, b_and, b_or, b_xor, b_mod, b_fdiv, b_mul, b_pow, b_shl, b_shr, b_cat, b_catT, b_rep, a_add, a_sub, a_and, a_or, a_xor, a_shr, a_shl, a_fdiv, o_neg, o_inv, o_cmp, c_eq, c_ne, c_lt, c_le, c_gt, c_ge, c_isn, c_notn, c_inl, c_ninl, c_int, c_nint, c_ind, c_nind, kB_int, kB_str, o_subD, o_sub, o_subT, at0, at1, at2, at3, at4, ix0, ix1, ix2, ix3, o_len, o_lenT, o_abs, o_min2, o_max2, o_int, o_intb, o_tup, o_tupt, o_lst, o_lstt, o_rev, o_lrevl, o_lrevt, o_isi, o_isi2, i_int, i_bl, i_lst, i_tup, i_str, i_non, o_slu, o_slsu, o_sll, o_sla, o_slut, o_sllt, o_all, o_any, o_sum, o_srt, o_srtT, o_stp, o_lrng1, o_lrng2, n_seqL, n_seqT, n_enumL, n_enumT, n_rev, n_revT, n_zipL, n_zipT, n_rng1, n_rng2, n_revr, ownVar, ownS, getS, lstB, os_setS, stO_some, stO_none, stB_un, stB_sh, stB_ow, putS, odTs, odT, odAs, odA, refs, nodupB, backs, back1, retE, outS, wipeS, giveS, plainS, tgtF, asgs, mkSeq, T.isNon, okFor, setsS, setsL, List.getElem?_cons_zero, List.getElem?_cons_succ, List.getElem?_nil, List.set_cons_zero, List.set_cons_succ, List.length_cons, List.length_nil, List.length_map, List.cons_append, List.nil_append, List.append_nil, List.replicate, List.getD_cons_zero, List.getD_cons_succ, Option.getD, List.contains_nil, List.contains_cons, Bool.not_true, Bool.not_false, Bool.and_true, Bool.true_and, Bool.and_self, if_true, if_false, true_and, and_true, ite_true, ite_false, reduceIte, Bool.false_eq_true, Bool.true_eq_false, decide_true, decide_false, decide_eq_true_eq, eq_self, Nat.reduceAdd, Nat.reduceLT, Nat.reduceSub, Int.reduceLT, Int.reduceLE, Int.reduceToNat, Int.reduceAbs, Int.reducePow, Int.natAbs_natCast, Nat.reducePow, Nat.reduceLeDiff, Nat.reduceMul, Nat.reduceBEq, Bool.or_true, Bool.or_false, Bool.true_or, Bool.false_or, Int.reduceNeg, $a,*] $l)
local macro_rules
  | `(tactic| simp! only [$a,*]) => `(tactic| simp only [w_nil, w_cons, w_set, w_unp, w_par, w_aug, w_sts, w_dst, w_st2, os_stD, os_stL, two2_t, w_rdv, w_dnew, w_tmt, w_fnv, w_cal, w_dsp, w_dgt, w_app, w_ext, w_ins, w_ixl, w_exp, w_ret, w_retn, w_ife, w_non, w_bl, w_int, w_str, w_var, w_glb, w_tup, w_lst, w_op, w_chn, w_not, w_ifx, w_bop, w_b1, w_b2, w_call, w_do, w_pop, w_fs0, w_fs, w_os0, w_os, w_ts0, w_ts1, ok_ok, ok_bad, ok_bind, os_some, os_none, os_bind, os_map, os_ifn, bl_bl, fn_nx, fn_rt, rt_nx, rt_rt, o_bin, b_add, b_sub, b_and, b_or, b_xor, b_mod, b_fdiv, b_mul, b_pow, b_shl, b_shr, b_cat, b_catT, b_rep, a_add, a_sub, a_and, a_or, a_xor, a_shr, a_shl, a_fdiv, o_neg, o_inv, o_cmp, c_eq, c_ne, c_lt, c_le, c_gt, c_ge, c_isn, c_notn, c_inl, c_ninl, c_int, c_nint, c_ind, c_nind, kB_int, kB_str, o_subD, o_sub, o_subT, at0, at1, at2, at3, at4, ix0, ix1, ix2, ix3, o_len, o_lenT, o_abs, o_min2, o_max2, o_int, o_intb, o_tup, o_tupt, o_lst, o_lstt, o_rev, o_lrevl, o_lrevt, o_isi, o_isi2, i_int, i_bl, i_lst, i_tup, i_str, i_non, o_slu, o_slsu, o_sll, o_sla, o_slut, o_sllt, o_all, o_any, o_sum, o_srt, o_srtT, o_stp, o_lrng1, o_lrng2, n_seqL, n_seqT, n_enumL, n_enumT, n_rev, n_revT, n_zipL, n_zipT, n_rng1, n_rng2, n_revr, ownVar, ownS, getS, lstB, os_setS, stO_some, stO_none, stB_un, stB_sh, stB_ow, putS, odTs, odT, odAs, odA, refs, nodupB, backs, back1, retE, outS, wipeS, giveS, plainS, tgtF, asgs, mkSeq, T.isNon, okFor, setsS, setsL, List.getElem?_cons_zero, List.getElem?_cons_succ, List.getElem?_nil, List.set_cons_zero, List.set_cons_succ, List.length_cons, List.length_nil, List.length_map, List.cons_append, List.nil_append, List.append_nil, List.replicate, List.getD_cons_zero, List.getD_cons_succ, Option.getD, List.contains_nil, List.contains_cons, Bool.not_true, Bool.not_false, Bool.and_true, Bool.true_and, Bool.and_self, if_true, if_false, true_and, and_true, ite_true, ite_false, reduceIte, Bool.false_eq_true, Bool.true_eq_false, decide_true, decide_false, decide_eq_true_eq, eq_self, Nat.reduceAdd, Nat.reduceLT, Nat.reduceSub, Int.reduceLT, Int.reduceLE, Int.reduceToNat, Int.reduceAbs, Int.reducePow, Int.natAbs_natCast, Nat.reducePow, Nat.reduceLeDiff, Nat.reduceMul, Nat.reduceBEq, Bool.or_true, Bool.or_false, Bool.true_or, Bool.false_or, Int.reduceNeg, sq_and_and, sq_and_or, sq_and_gather, sq_and_strew, sq_and_left, sq_and_right, sq_and_turn, sq_and_swap, sq_and_copy, si_and_M, si_and_B, si_and_S, si_and_L, sn_and, sq_or_and, sq_or_or, sq_or_gather, sq_or_strew, sq_or_left, sq_or_right, sq_or_turn, sq_or_swap, sq_or_copy, si_or_M, si_or_B, si_or_S, si_or_L, sn_or, sq_gather_and, sq_gather_or, sq_gather_gather, sq_gather_strew, sq_gather_left, sq_gather_right, sq_gather_turn, sq_gather_swap, sq_gather_copy, si_gather_M, si_gather_B, si_gather_S, si_gather_L, sn_gather, sq_strew_and, sq_strew_or, sq_strew_gather, sq_strew_strew, sq_strew_left, sq_strew_right, sq_strew_turn, sq_strew_swap, sq_strew_copy, si_strew_M, si_strew_B, si_strew_S, si_strew_L, sn_strew, sq_left_and, sq_left_or, sq_left_gather, sq_left_strew, sq_left_left, sq_left_right, sq_left_turn, sq_left_swap, sq_left_copy, si_left_M, si_left_B, si_left_S, si_left_L, sn_left, sq_right_and, sq_right_or, sq_right_gather, sq_right_strew, sq_right_left, sq_right_right, sq_right_turn, sq_right_swap, sq_right_copy, si_right_M, si_right_B, si_right_S, si_right_L, sn_right, sq_turn_and, sq_turn_or, sq_turn_gather, sq_turn_strew, sq_turn_left, sq_turn_right, sq_turn_turn, sq_turn_swap, sq_turn_copy, si_turn_M, si_turn_B, si_turn_S, si_turn_L, sn_turn, sq_swap_and, sq_swap_or, sq_swap_gather, sq_swap_strew, sq_swap_left, sq_swap_right, sq_swap_turn, sq_swap_swap, sq_swap_copy, si_swap_M, si_swap_B, si_swap_S, si_swap_L, sn_swap, sq_copy_and, sq_copy_or, sq_copy_gather, sq_copy_strew, sq_copy_left, sq_copy_right, sq_copy_turn, sq_copy_swap, sq_copy_copy, si_copy_M, si_copy_B, si_copy_S, si_copy_L, sn_copy, snb_and, snb_or, snb_gather, snb_strew, snb_left, snb_right, snb_turn, snb_swap, snb_copy, $a,*])
  | `(tactic| simp! only [$a,*] $l:location) => `(tactic| simp only [w_nil, w_cons, w_set, w_unp, w_par, w_aug, w_sts, w_dst, w_st2, os_stD, os_stL, two2_t, w_rdv, w_dnew, w_tmt, w_fnv, w_cal, w_dsp, w_dgt, w_app, w_ext, w_ins, w_ixl, w_exp, w_ret, w_retn, w_ife, w_non, w_bl, w_int, w_str, w_var, w_glb, w_tup, w_lst, w_op, w_chn, w_not, w_ifx, w_bop, w_b1, w_b2, w_call, w_do, w_pop, w_fs0, w_fs, w_os0, w_os, w_ts0, w_ts1, ok_ok, ok_bad, ok_bind, os_some, os_none, os_bind, os_map, os_ifn, bl_bl, fn_nx, fn_rt, rt_nx, rt_rt, o_bin, b_add, b_sub, b_and, b_or, b_xor, b_mod, b_fdiv, b_mul, b_pow, b_shl, b_shr, b_cat, b_catT, b_rep, a_add, a_sub, a_and, a_or, a_xor, a_shr, a_shl, a_fdiv, o_neg, o_inv, o_cmp, c_eq, c_ne, c_lt, c_le, c_gt, c_ge, c_isn, c_notn, c_inl, c_ninl, c_int, c_nint, c_ind, c_nind, kB_int, kB_str, o_subD, o_sub, o_subT, at0, at1, at2, at3, at4, ix0, ix1, ix2, ix3, o_len, o_lenT, o_abs, o_min2, o_max2, o_int, o_intb, o_tup, o_tupt, o_lst, o_lstt, o_rev, o_lrevl, o_lrevt, o_isi, o_isi2, i_int, i_bl, i_lst, i_tup, i_str, i_non, o_slu, o_slsu, o_sll, o_sla, o_slut, o_sllt, o_all, o_any, o_sum, o_srt, o_srtT, o_stp, o_lrng1, o_lrng2, n_seqL, n_seqT, n_enumL, n_enumT, n_rev, n_revT, n_zipL, n_zipT, n_rng1, n_rng2, n_revr, ownVar, ownS, getS, lstB, os_setS, stO_some, stO_none, stB_un, stB_sh, stB_ow, putS, odTs, odT, odAs, odA, refs, nodupB, backs, back1, retE, outS, wipeS, giveS, plainS, tgtF, asgs, mkSeq, T.isNon, okFor, setsS, setsL, List.getElem?_cons_zero, List.getElem?_cons_succ, List.getElem?_nil, List.set_cons_zero, List.set_cons_succ, List.length_cons, List.length_nil, List.length_map, List.cons_append, List.nil_append, List.append_nil, List.replicate, List.getD_cons_zero, List.getD_cons_succ, Option.getD, List.contains_nil, List.contains_cons, Bool.not_true, Bool.not_false, Bool.and_true, Bool.true_and, Bool.and_self, if_true, if_false, true_and, and_true, ite_true, ite_false, reduceIte, Bool.false_eq_true, Bool.true_eq_false, decide_true, decide_false, decide_eq_true_eq, eq_self, Nat.reduceAdd, Nat.reduceLT, Nat.reduceSub, Int.reduceLT, Int.reduceLE, Int.reduceToNat, Int.reduceAbs, Int.reducePow, Int.natAbs_natCast, Nat.reducePow, Nat.reduceLeDiff, Nat.reduceMul, Nat.reduceBEq, Bool.or_true, Bool.or_false, Bool.true_or, Bool.false_or, Int.reduceNeg, sq_and_and, sq_and_or, sq_and_gather, sq_and_strew, sq_and_left, sq_and_right, sq_and_turn, sq_and_swap, sq_and_copy, si_and_M, si_and_B, si_and_S, si_and_L, sn_and, sq_or_and, sq_or_or, sq_or_gather, sq_or_strew, sq_or_left, sq_or_right, sq_or_turn, sq_or_swap, sq_or_copy, si_or_M, si_or_B, si_or_S, si_or_L, sn_or, sq_gather_and, sq_gather_or, sq_gather_gather, sq_gather_strew, sq_gather_left, sq_gather_right, sq_gather_turn, sq_gather_swap, sq_gather_copy, si_gather_M, si_gather_B, si_gather_S, si_gather_L, sn_gather, sq_strew_and, sq_strew_or, sq_strew_gather, sq_strew_strew, sq_strew_left, sq_strew_right, sq_strew_turn, sq_strew_swap, sq_strew_copy, si_strew_M, si_strew_B, si_strew_S, si_strew_L, sn_strew, sq_left_and, sq_left_or, sq_left_gather, sq_left_strew, sq_left_left, sq_left_right, sq_left_turn, sq_left_swap, sq_left_copy, si_left_M, si_left_B, si_left_S, si_left_L, sn_left, sq_right_and, sq_right_or, sq_right_gather, sq_right_strew, sq_right_left, sq_right_right, sq_right_turn, sq_right_swap, sq_right_copy, si_right_M, si_right_B, si_right_S, si_right_L, sn_right, sq_turn_and, sq_turn_or, sq_turn_gather, sq_turn_strew, sq_turn_left, sq_turn_right, sq_turn_turn, sq_turn_swap, sq_turn_copy, si_turn_M, si_turn_B, si_turn_S, si_turn_L, sn_turn, sq_swap_and, sq_swap_or, sq_swap_gather, sq_swap_strew, sq_swap_left, sq_swap_right, sq_swap_turn, sq_swap_swap, sq_swap_copy, si_swap_M, si_swap_B, si_swap_S, si_swap_L, sn_swap, sq_copy_and, sq_copy_or, sq_copy_gather, sq_copy_strew, sq_copy_left, sq_copy_right, sq_copy_turn, sq_copy_swap, sq_copy_copy, si_copy_M, si_copy_B, si_copy_S, si_copy_L, sn_copy, snb_and, snb_or, snb_gather, snb_strew, snb_left, snb_right, snb_turn, snb_swap, snb_copy, $a,*] $l)
end MP
namespace MP
open PySem
local macro_rules
  | `(tactic| dsimp! only [$a,*]) => `(tactic| simp only [w_nil, w_cons, w_set, w_unp, w_par, w_aug, w_sts, w_dst, w_st2, os_stD, os_stL, two2_t, w_rdv, w_dnew, w_tmt, w_fnv, w_cal, w_dsp, w_dgt, w_app, w_ext, w_ins, w_ixl, w_exp, w_ret, w_retn, w_ife, w_non, w_bl, w_int, w_str, w_var, w_glb, w_tup, w_lst, w_op, w_chn, w_not, w_ifx, w_bop, w_b1, w_b2, w_call, w_do, w_pop, w_fs0, w_fs, w_os0, w_os, w_ts0, w_ts1, ok_ok, ok_bad, ok_bind, os_some, os_none, os_bind, os_map, os_ifn, bl_bl, fn_nx, fn_rt, rt_nx, rt_rt, o_bin, b_add, b_sub, b_and, b_or, b_xor, b_mod, b_fdiv, b_mul, b_pow, b_shl, b_shr, b_cat, b_catT, b_rep, a_add, a_sub, a_and, a_or, a_xor, a_shr, a_shl, a_fdiv, o_neg, o_inv, o_cmp, c_eq, c_ne, c_lt, c_le, c_gt, c_ge, c_isn, c_notn, c_inl, c_ninl, c_int, c_nint, c_ind, c_nind, kB_int, kB_str, o_subD, o_sub, o_subT, at0, at1, at2, at3, at4, ix0, ix1, ix2, ix3, o_len, o_lenT, o_abs, o_min2, o_max2, o_int, o_intb, o_tup, o_tupt, o_lst, o_lstt, o_rev, o_lrevl, o_lrevt, o_isi, o_isi2, i_int, i_bl, i_lst, i_tup, i_str, i_non, o_slu, o_slsu, o_sll, o_sla, o_slut, o_sllt, o_all, o_any, o_sum, o_srt, o_srtT, o_stp, o_lrng1, o_lrng2, n_seqL, n_seqT, n_enumL, n_enumT, n_rev, n_revT, n_zipL, n_zipT, n_rng1, n_rng2, n_revr, ownVar, ownS, getS, lstB, os_setS, stO_some, stO_none, stB_un, stB_sh, stB_ow, putS, odTs, odT, odAs, odA, refs, nodupB, backs, back1, retE, outS, wipeS, giveS, plainS, tgtF, asgs, mkSeq, T.isNon, okFor, setsS, setsL, List.getElem?_cons_zero, List.getElem?_cons_succ, List.getElem?_nil, List.set_cons_zero, List.set_cons_succ, List.length_cons, List.length_nil, List.length_map, List.cons_append, List.nil_append, List.append_nil, List.replicate, List.getD_cons_zero, List.getD_cons_succ, Option.getD, List.contains_nil, List.contains_cons, Bool.not_true, Bool.not_false, Bool.and_true, Bool.true_and, Bool.and_self, if_true, if_false, true_and, and_true, ite_true, ite_false, reduceIte, Bool.false_eq_true, Bool.true_eq_false, decide_true, decide_false, decide_eq_true_eq, eq_self, Nat.reduceAdd, Nat.reduceLT, Nat.reduceSub, Int.reduceLT, Int.reduceLE, Int.reduceToNat, Int.reduceAbs, Int.reducePow, Int.natAbs_natCast, Nat.reducePow, Nat.reduceLeDiff, Nat.reduceMul, Nat.reduceBEq, Bool.or_true, Bool.or_false, Bool.true_or, Bool.false_or, Int.reduceNeg, $a,*])
  | `(tactic| dsimp! only [$a,*] $l:location) => `(tactic| simp only [w_nil, w_cons, w_set, w_unp, w_par, w_aug, w_sts, w_dst, w_st2, os_stD, os_stL, two2_t, w_rdv, w_dnew, w_tmt, w_fnv, w_cal, w_dsp, w_dgt, w_app, w_ext, w_ins, w_ixl, w_exp, w_ret, w_retn, w_ife, w_non, w_bl, w_int, w_str, w_var, w_glb, w_tup, w_lst, w_op, w_chn, w_not, w_ifx, w_bop, w_b1, w_b2, w_call, w_do, w_pop, w_fs0, w_fs, w_os0, w_os, w_ts0, w_ts1, ok_ok, ok_bad, ok_bind, os_some, os_none, os_bind, os_map, os_ifn, bl_bl, fn_nx, fn_rt, rt_nx, rt_rt, o_bin, b_add, b_sub, b_and, b_or, b_xor, b_mod, b_fdiv, b_mul, b_pow, b_shl, b_shr, b_cat, b_catT, b_rep, a_add, a_sub, a_and, a_or, a_xor, a_shr, a_shl, a_fdiv, o_neg, o_inv, o_cmp, c_eq, c_ne, c_lt, c_le, c_gt, c_ge, c_isn, c_notn, c_inl, c_ninl, c_int, c_nint, c_ind, c_nind, kB_int, kB_str, o_subD, o_sub, o_subT, at0, at1, at2, at3, at4, ix0, ix1, ix2, ix3, o_len, o_lenT, o_abs, o_min2, o_max2, o_int, o_intb, o_tup, o_tupt, o_lst, o_lstt, o_rev, o_lrevl, o_lrevt, o_isi, o_isi2, i_int, i_bl, i_lst, i_tup, i_str, i_non, o_slu, o_slsu, o_sll, o_sla, o_slut, o_sllt, o_all, o_any, o_sum, o_srt, o_srtT, o_stp, o_lrng1, o_lrng2, n_seqL, n_seqT, n_enumL, n_enumT, n_rev, n_revT, n_zipL, n_zipT, n_rng1, n_rng2, n_revr, ownVar, ownS, getS, lstB, os_setS, stO_some, stO_none, stB_un, stB_sh, stB_ow, putS, odTs, odT, odAs, odA, refs, nodupB, backs, back1, retE, outS, wipeS, giveS, plainS, tgtF, asgs, mkSeq, T.isNon, okFor, setsS, setsL, List.getElem?_cons_zero, List.getElem?_cons_succ, List.getElem?_nil, List.set_cons_zero, List.set_cons_succ, List.length_cons, List.length_nil, List.length_map, List.cons_append, List.nil_append, List.append_nil, List.replicate, List.getD_cons_zero, List.getD_cons_succ, Option.getD, List.contains_nil, List.contains_cons, Bool.not_true, Bool.not_false, Bool.and_true, Bool.true_and, Bool.and_self, if_true, if_false, true_and, and_true, ite_true, ite_false, reduceIte, Bool.false_eq_true, Bool.true_eq_false, decide_true, decide_false, decide_eq_true_eq, eq_self, Nat.reduceAdd, Nat.reduceLT, Nat.reduceSub, Int.reduceLT, Int.reduceLE, Int.reduceToNat, Int.reduceAbs, Int.reducePow, Int.natAbs_natCast, Nat.reducePow, Nat.reduceLeDiff, Nat.reduceMul, Nat.reduceBEq, Bool.or_true, Bool.or_false, Bool.true_or, Bool.false_or, Int.reduceNeg, $a,*] $l)
end MP
namespace MP
open PySem
local macro_rules
  | `(tactic| dsimp! only [$a,*]) => `(tactic| simp only [w_nil, w_cons, w_set, w_unp, w_par, w_aug, w_sts, w_dst, w_st2, os_stD, os_stL, two2_t, w_rdv, w_dnew, w_tmt, w_fnv, w_cal, w_dsp, w_dgt, w_app, w_ext, w_ins, w_ixl, w_exp, w_ret, w_retn, w_ife, w_non, w_bl, w_int, w_str, w_var, w_glb, w_tup, w_lst, w_op, w_chn, w_not, w_ifx, w_bop, w_b1, w_b2, w_call, w_do, w_pop, w_fs0, w_fs, w_os0, w_os, w_ts0, w_ts1, ok_ok, ok_bad, ok_bind, os_some, os_none, os_bind, os_map, os_ifn, bl_bl, fn_nx, fn_rt, rt_nx, rt_rt, o_bin, b_add, b_sub, b_and, b_or, b_xor, b_mod, b_fdiv, b_mul, b_pow, b_shl, b_shr, b_cat, b_catT, b_rep, a_add, a_sub, a_and, a_or, a_xor, a_shr, a_shl, a_fdiv, o_neg, o_inv, o_cmp, c_eq, c_ne, c_lt, c_le, c_gt, c_ge, c_isn, c_notn, c_inl, c_ninl, c_int, c_nint, c_ind, c_nind, kB_int, kB_str, o_subD, o_sub, o_subT, at0, at1, at2, at3, at4, ix0, ix1, ix2, ix3, o_len, o_lenT, o_abs, o_min2, o_max2, o_int, o_intb, o_tup, o_tupt, o_lst, o_lstt, o_rev, o_lrevl, o_lrevt, o_isi, o_isi2, i_int, i_bl, i_lst, i_tup, i_str, i_non, o_slu, o_slsu, o_sll, o_sla, o_slut, o_sllt, o_all, o_any, o_sum, o_srt, o_srtT, o_stp, o_lrng1, o_lrng2, n_seqL, n_seqT, n_enumL, n_enumT, n_rev, n_revT, n_zipL, n_zipT, n_rng1, n_rng2, n_revr, ownVar, ownS, getS, lstB, os_setS, stO_some, stO_none, stB_un, stB_sh, stB_ow, putS, odTs, odT, odAs, odA, refs, nodupB, backs, back1, retE, outS, wipeS, giveS, plainS, tgtF, asgs, mkSeq, T.isNon, okFor, setsS, setsL, List.getElem?_cons_zero, List.getElem?_cons_succ, List.getElem?_nil, List.set_cons_zero, List.set_cons_succ, List.length_cons, List.length_nil, List.length_map, List.cons_append, List.nil_append, List.append_nil, List.replicate, List.getD_cons_zero, List.getD_cons_succ, Option.getD, List.contains_nil, List.contains_cons, Bool.not_true, Bool.not_false, Bool.and_true, Bool.true_and, Bool.and_self, if_true, if_false, true_and, and_true, ite_true, ite_false, reduceIte, Bool.false_eq_true, Bool.true_eq_false, decide_true, decide_false, decide_eq_true_eq, eq_self, Nat.reduceAdd, Nat.reduceLT, Nat.reduceSub, Int.reduceLT, Int.reduceLE, Int.reduceToNat, Int.reduceAbs, Int.reducePow, Int.natAbs_natCast, Nat.reducePow, Nat.reduceLeDiff, Nat.reduceMul, Nat.reduceBEq, Bool.or_true, Bool.or_false, Bool.true_or, Bool.false_or, Int.reduceNeg, $a,*])
  | `(tactic| dsimp! only [$a,*] $l:location) => `(tactic| simp only [w_nil, w_cons, w_set, w_unp, w_par, w_aug, w_sts, w_dst, w_st2, os_stD, os_stL, two2_t, w_rdv, w_dnew, w_tmt, w_fnv, w_cal, w_dsp, w_dgt, w_app, w_ext, w_ins, w_ixl, w_exp, w_ret, w_retn, w_ife, w_non, w_bl, w_int, w_str, w_var, w_glb, w_tup, w_lst, w_op, w_chn, w_not, w_ifx, w_bop, w_b1, w_b2, w_call, w_do, w_pop, w_fs0, w_fs, w_os0, w_os, w_ts0, w_ts1, ok_ok, ok_bad, ok_bind, os_some, os_none, os_bind, os_map, os_ifn, bl_bl, fn_nx, fn_rt, rt_nx, rt_rt, o_bin, b_add, b_sub, b_and, b_or, b_xor, b_mod, b_fdiv, b_mul, b_pow, b_shl, b_shr, b_cat, b_catT, b_rep, a_add, a_sub, a_and, a_or, a_xor, a_shr, a_shl, a_fdiv, o_neg, o_inv, o_cmp, c_eq, c_ne, c_lt, c_le, c_gt, c_ge, c_isn, c_notn, c_inl, c_ninl, c_int, c_nint, c_ind, c_nind, kB_int, kB_str, o_subD, o_sub, o_subT, at0, at1, at2, at3, at4, ix0, ix1, ix2, ix3, o_len, o_lenT, o_abs, o_min2, o_max2, o_int, o_intb, o_tup, o_tupt, o_lst, o_lstt, o_rev, o_lrevl, o_lrevt, o_isi, o_isi2, i_int, i_bl, i_lst, i_tup, i_str, i_non, o_slu, o_slsu, o_sll, o_sla, o_slut, o_sllt, o_all, o_any, o_sum, o_srt, o_srtT, o_stp, o_lrng1, o_lrng2, n_seqL, n_seqT, n_enumL, n_enumT, n_rev, n_revT, n_zipL, n_zipT, n_rng1, n_rng2, n_revr, ownVar, ownS, getS, lstB, os_setS, stO_some, stO_none, stB_un, stB_sh, stB_ow, putS, odTs, odT, odAs, odA, refs, nodupB, backs, back1, retE, outS, wipeS, giveS, plainS, tgtF, asgs, mkSeq, T.isNon, okFor, setsS, setsL, List.getElem?_cons_zero, List.getElem?_cons_succ, List.getElem?_nil, List.set_cons_zero, List.set_cons_succ, List.length_cons, List.length_nil, List.length_map, List.cons_append, List.nil_append, List.append_nil, List.replicate, List.getD_cons_zero, List.getD_cons_succ, Option.getD, List.contains_nil, List.contains_cons, Bool.not_true, Bool.not_false, Bool.and_true, Bool.true_and, Bool.and_self, if_true, if_false, true_and, and_true, ite_true, ite_false, reduceIte, Bool.false_eq_true, Bool.true_eq_false, decide_true, decide_false, decide_eq_true_eq, eq_self, Nat.reduceAdd, Nat.reduceLT, Nat.reduceSub, Int.reduceLT, Int.reduceLE, Int.reduceToNat, Int.reduceAbs, Int.reducePow, Int.natAbs_natCast, Nat.reducePow, Nat.reduceLeDiff, Nat.reduceMul, Nat.reduceBEq, Bool.or_true, Bool.or_false, Bool.true_or, Bool.false_or, Int.reduceNeg, $a,*] $l)
def shF (W c p : Nat) : Nat := if p + c < W then p + c else p + c - W
def shG (W c q : Nat) : Nat := if c ≤ q then q - c else q + W - c
theorem shF_lt {W c p : Nat} (hc : c < W) (hp : p < W) : shF W c p < W := by unfold shF; split <;> omega
theorem shG_lt {W c p : Nat} (hc : c < W) (hp : p < W) : shG W c p < W := by unfold shG; split <;> omega
theorem shGF {W c p : Nat} (hc : c < W) (hp : p < W) : shG W c (shF W c p) = p := by unfold shF; split <;> (unfold shG; split <;> omega)
theorem shFG {W c p : Nat} (hc : c < W) (hp : p < W) : shF W c (shG W c p) = p := by unfold shG; split <;> (unfold shF; split <;> omega)
end MP
namespace MP
open PySem
local macro_rules
  | `(tactic| dsimp! only [$a,*]) => `(tactic| simp only [w_nil, w_cons, w_set, w_unp, w_par, w_aug, w_sts, w_dst, w_st2, os_stD, os_stL, two2_t, w_rdv, w_dnew, w_tmt, w_fnv, w_cal, w_dsp, w_dgt, w_app, w_ext, w_ins, w_ixl, w_exp, w_ret, w_retn, w_ife, w_non, w_bl, w_int, w_str, w_var, w_glb, w_tup, w_lst, w_op, w_chn, w_not, w_ifx, w_bop, w_b1, w_b2, w_call, w_do, w_pop, w_fs0, w_fs, w_os0, w_os, w_ts0, w_ts1, ok_ok, ok_bad, ok_bind, os_some, os_none, os_bind, os_map, os_ifn, bl_bl, fn_nx, fn_rt, rt_nx, rt_rt, o_bin, b_add, b_sub, b_and, b_or, b_xor, b_mod, b_fdiv, b_mul, b_pow, b_shl, b_shr, b_cat, b_catT, b_rep, a_add, a_sub, a_and, a_or, a_xor, a_shr, a_shl, a_fdiv, o_neg, o_inv, o_cmp, c_eq, c_ne, c_lt, c_le, c_gt, c_ge, c_isn, c_notn, c_inl, c_ninl, c_int, c_nint, c_ind, c_nind, kB_int, kB_str, o_subD, o_sub, o_subT, at0, at1, at2, at3, at4, ix0, ix1, ix2, ix3, o_len, o_lenT, o_abs, o_min2, o_max2, o_int, o_intb, o_tup, o_tupt, o_lst, o_lstt, o_rev, o_lrevl, o_lrevt, o_isi, o_isi2, i_int, i_bl, i_lst, i_tup, i_str, i_non, o_slu, o_slsu, o_sll, o_sla, o_slut, o_sllt, o_all, o_any, o_sum, o_srt, o_srtT, o_stp, o_lrng1, o_lrng2, n_seqL, n_seqT, n_enumL, n_enumT, n_rev, n_revT, n_zipL, n_zipT, n_rng1, n_rng2, n_revr, ownVar, ownS, getS, lstB, os_setS, stO_some, stO_none, stB_un, stB_sh, stB_ow, putS, odTs, odT, odAs, odA, refs, nodupB, backs, back1, retE, outS, wipeS, giveS, plainS, tgtF, asgs, mkSeq, T.isNon, okFor, setsS, setsL, List.getElem?_cons_zero, List.getElem?_cons_succ, List.getElem?_nil, List.set_cons_zero, List.set_cons_succ, List.length_cons, List.length_nil, List.length_map, List.cons_append, List.nil_append, List.append_nil, List.replicate, List.getD_cons_zero, List.getD_cons_succ, Option.getD, List.contains_nil, List.contains_cons, Bool.not_true, Bool.not_false, Bool.and_true, Bool.true_and, Bool.and_self, if_true, if_false, true_and, and_true, ite_true, ite_false, reduceIte, Bool.false_eq_true, Bool.true_eq_false, decide_true, decide_false, decide_eq_true_eq, eq_self, Nat.reduceAdd, Nat.reduceLT, Nat.reduceSub, Int.reduceLT, Int.reduceLE, Int.reduceToNat, Int.reduceAbs, Int.reducePow, Int.natAbs_natCast, Nat.reducePow, Nat.reduceLeDiff, Nat.reduceMul, Nat.reduceBEq, Bool.or_true, Bool.or_false, Bool.true_or, Bool.false_or, Int.reduceNeg, $a,*])
  | `(tactic| dsimp! only [$a,*] $l:location) => `(tactic| simp only [w_nil, w_cons, w_set, w_unp, w_par, w_aug, w_sts, w_dst, w_st2, os_stD, os_stL, two2_t, w_rdv, w_dnew, w_tmt, w_fnv, w_cal, w_dsp, w_dgt, w_app, w_ext, w_ins, w_ixl, w_exp, w_ret, w_retn, w_ife, w_non, w_bl, w_int, w_str, w_var, w_glb, w_tup, w_lst, w_op, w_chn, w_not, w_ifx, w_bop, w_b1, w_b2, w_call, w_do, w_pop, w_fs0, w_fs, w_os0, w_os, w_ts0, w_ts1, ok_ok, ok_bad, ok_bind, os_some, os_none, os_bind, os_map, os_ifn, bl_bl, fn_nx, fn_rt, rt_nx, rt_rt, o_bin, b_add, b_sub, b_and, b_or, b_xor, b_mod, b_fdiv, b_mul, b_pow, b_shl, b_shr, b_cat, b_catT, b_rep, a_add, a_sub, a_and, a_or, a_xor, a_shr, a_shl, a_fdiv, o_neg, o_inv, o_cmp, c_eq, c_ne, c_lt, c_le, c_gt, c_ge, c_isn, c_notn, c_inl, c_ninl, c_int, c_nint, c_ind, c_nind, kB_int, kB_str, o_subD, o_sub, o_subT, at0, at1, at2, at3, at4, ix0, ix1, ix2, ix3, o_len, o_lenT, o_abs, o_min2, o_max2, o_int, o_intb, o_tup, o_tupt, o_lst, o_lstt, o_rev, o_lrevl, o_lrevt, o_isi, o_isi2, i_int, i_bl, i_lst, i_tup, i_str, i_non, o_slu, o_slsu, o_sll, o_sla, o_slut, o_sllt, o_all, o_any, o_sum, o_srt, o_srtT, o_stp, o_lrng1, o_lrng2, n_seqL, n_seqT, n_enumL, n_enumT, n_rev, n_revT, n_zipL, n_zipT, n_rng1, n_rng2, n_revr, ownVar, ownS, getS, lstB, os_setS, stO_some, stO_none, stB_un, stB_sh, stB_ow, putS, odTs, odT, odAs, odA, refs, nodupB, backs, back1, retE, outS, wipeS, giveS, plainS, tgtF, asgs, mkSeq, T.isNon, okFor, setsS, setsL, List.getElem?_cons_zero, List.getElem?_cons_succ, List.getElem?_nil, List.set_cons_zero, List.set_cons_succ, List.length_cons, List.length_nil, List.length_map, List.cons_append, List.nil_append, List.append_nil, List.replicate, List.getD_cons_zero, List.getD_cons_succ, Option.getD, List.contains_nil, List.contains_cons, Bool.not_true, Bool.not_false, Bool.and_true, Bool.true_and, Bool.and_self, if_true, if_false, true_and, and_true, ite_true, ite_false, reduceIte, Bool.false_eq_true, Bool.true_eq_false, decide_true, decide_false, decide_eq_true_eq, eq_self, Nat.reduceAdd, Nat.reduceLT, Nat.reduceSub, Int.reduceLT, Int.reduceLE, Int.reduceToNat, Int.reduceAbs, Int.reducePow, Int.natAbs_natCast, Nat.reducePow, Nat.reduceLeDiff, Nat.reduceMul, Nat.reduceBEq, Bool.or_true, Bool.or_false, Bool.true_or, Bool.false_or, Int.reduceNeg, $a,*] $l)
end MP
namespace MP
open PySem
local macro_rules
  | `(tactic| dsimp! only [$a,*]) => `(tactic| simp only [w_nil, w_cons, w_set, w_unp, w_par, w_aug, w_sts, w_dst, w_st2, os_stD, os_stL, two2_t, w_rdv, w_dnew, w_tmt, w_fnv, w_cal, w_dsp, w_dgt, w_app, w_ext, w_ins, w_ixl, w_exp, w_ret, w_retn, w_ife, w_non, w_bl, w_int, w_str, w_var, w_glb, w_tup, w_lst, w_op, w_chn, w_not, w_ifx, w_bop, w_b1, w_b2, w_call, w_do, w_pop, w_fs0, w_fs, w_os0, w_os, w_ts0, w_ts1, ok_ok, ok_bad, ok_bind, os_some, os_none, os_bind, os_map, os_ifn, bl_bl, fn_nx, fn_rt, rt_nx, rt_rt, o_bin, b_add, b_sub, b_and, b_or, b_xor, b_mod, b_fdiv, b_mul, b_pow, b_shl, b_shr, b_cat, b_catT, b_rep, a_add, a_sub, a_and, a_or, a_xor, a_shr, a_shl, a_fdiv, o_neg, o_inv, o_cmp, c_eq, c_ne, c_lt, c_le, c_gt, c_ge, c_isn, c_notn, c_inl, c_ninl, c_int, c_nint, c_ind, c_nind, kB_int, kB_str, o_subD, o_sub, o_subT, at0, at1, at2, at3, at4, ix0, ix1, ix2, ix3, o_len, o_lenT, o_abs, o_min2, o_max2, o_int, o_intb, o_tup, o_tupt, o_lst, o_lstt, o_rev, o_lrevl, o_lrevt, o_isi, o_isi2, i_int, i_bl, i_lst, i_tup, i_str, i_non, o_slu, o_slsu, o_sll, o_sla, o_slut, o_sllt, o_all, o_any, o_sum, o_srt, o_srtT, o_stp, o_lrng1, o_lrng2, n_seqL, n_seqT, n_enumL, n_enumT, n_rev, n_revT, n_zipL, n_zipT, n_rng1, n_rng2, n_revr, ownVar, ownS, getS, lstB, os_setS, stO_some, stO_none, stB_un, stB_sh, stB_ow, putS, odTs, odT, odAs, odA, refs, nodupB, backs, back1, retE, outS, wipeS, giveS, plainS, tgtF, asgs, mkSeq, T.isNon, okFor, setsS, setsL, List.getElem?_cons_zero, List.getElem?_cons_succ, List.getElem?_nil, List.set_cons_zero, List.set_cons_succ, List.length_cons, List.length_nil, List.length_map, List.cons_append, List.nil_append, List.append_nil, List.replicate, List.getD_cons_zero, List.getD_cons_succ, Option.getD, List.contains_nil, List.contains_cons, Bool.not_true, Bool.not_false, Bool.and_true, Bool.true_and, Bool.and_self, if_true, if_false, true_and, and_true, ite_true, ite_false, reduceIte, Bool.false_eq_true, Bool.true_eq_false, decide_true, decide_false, decide_eq_true_eq, eq_self, Nat.reduceAdd, Nat.reduceLT, Nat.reduceSub, Int.reduceLT, Int.reduceLE, Int.reduceToNat, Int.reduceAbs, Int.reducePow, Int.natAbs_natCast, Nat.reducePow, Nat.reduceLeDiff, Nat.reduceMul, Nat.reduceBEq, Bool.or_true, Bool.or_false, Bool.true_or, Bool.false_or, Int.reduceNeg, $a,*])
  | `(tactic| dsimp! only [$a,*] $l:location) => `(tactic| simp only [w_nil, w_cons, w_set, w_unp, w_par, w_aug, w_sts, w_dst, w_st2, os_stD, os_stL, two2_t, w_rdv, w_dnew, w_tmt, w_fnv, w_cal, w_dsp, w_dgt, w_app, w_ext, w_ins, w_ixl, w_exp, w_ret, w_retn, w_ife, w_non, w_bl, w_int, w_str, w_var, w_glb, w_tup, w_lst, w_op, w_chn, w_not, w_ifx, w_bop, w_b1, w_b2, w_call, w_do, w_pop, w_fs0, w_fs, w_os0, w_os, w_ts0, w_ts1, ok_ok, ok_bad, ok_bind, os_some, os_none, os_bind, os_map, os_ifn, bl_bl, fn_nx, fn_rt, rt_nx, rt_rt, o_bin, b_add, b_sub, b_and, b_or, b_xor, b_mod, b_fdiv, b_mul, b_pow, b_shl, b_shr, b_cat, b_catT, b_rep, a_add, a_sub, a_and, a_or, a_xor, a_shr, a_shl, a_fdiv, o_neg, o_inv, o_cmp, c_eq, c_ne, c_lt, c_le, c_gt, c_ge, c_isn, c_notn, c_inl, c_ninl, c_int, c_nint, c_ind, c_nind, kB_int, kB_str, o_subD, o_sub, o_subT, at0, at1, at2, at3, at4, ix0, ix1, ix2, ix3, o_len, o_lenT, o_abs, o_min2, o_max2, o_int, o_intb, o_tup, o_tupt, o_lst, o_lstt, o_rev, o_lrevl, o_lrevt, o_isi, o_isi2, i_int, i_bl, i_lst, i_tup, i_str, i_non, o_slu, o_slsu, o_sll, o_sla, o_slut, o_sllt, o_all, o_any, o_sum, o_srt, o_srtT, o_stp, o_lrng1, o_lrng2, n_seqL, n_seqT, n_enumL, n_enumT, n_rev, n_revT, n_zipL, n_zipT, n_rng1, n_rng2, n_revr, ownVar, ownS, getS, lstB, os_setS, stO_some, stO_none, stB_un, stB_sh, stB_ow, putS, odTs, odT, odAs, odA, refs, nodupB, backs, back1, retE, outS, wipeS, giveS, plainS, tgtF, asgs, mkSeq, T.isNon, okFor, setsS, setsL, List.getElem?_cons_zero, List.getElem?_cons_succ, List.getElem?_nil, List.set_cons_zero, List.set_cons_succ, List.length_cons, List.length_nil, List.length_map, List.cons_append, List.nil_append, List.append_nil, List.replicate, List.getD_cons_zero, List.getD_cons_succ, Option.getD, List.contains_nil, List.contains_cons, Bool.not_true, Bool.not_false, Bool.and_true, Bool.true_and, Bool.and_self, if_true, if_false, true_and, and_true, ite_true, ite_false, reduceIte, Bool.false_eq_true, Bool.true_eq_false, decide_true, decide_false, decide_eq_true_eq, eq_self, Nat.reduceAdd, Nat.reduceLT, Nat.reduceSub, Int.reduceLT, Int.reduceLE, Int.reduceToNat, Int.reduceAbs, Int.reducePow, Int.natAbs_natCast, Nat.reducePow, Nat.reduceLeDiff, Nat.reduceMul, Nat.reduceBEq, Bool.or_true, Bool.or_false, Bool.true_or, Bool.false_or, Int.reduceNeg, $a,*] $l)
end MP
namespace MP
open PySem
local macro_rules
  | `(tactic| dsimp! only [$a,*]) => `(tactic| simp only [w_nil, w_cons, w_set, w_unp, w_par, w_aug, w_sts, w_dst, w_st2, os_stD, os_stL, two2_t, w_rdv, w_dnew, w_tmt, w_fnv, w_cal, w_dsp, w_dgt, w_app, w_ext, w_ins, w_ixl, w_exp, w_ret, w_retn, w_ife, w_non, w_bl, w_int, w_str, w_var, w_glb, w_tup, w_lst, w_op, w_chn, w_not, w_ifx, w_bop, w_b1, w_b2, w_call, w_do, w_pop, w_fs0, w_fs, w_os0, w_os, w_ts0, w_ts1, ok_ok, ok_bad, ok_bind, os_some, os_none, os_bind, os_map, os_ifn, bl_bl, fn_nx, fn_rt, rt_nx, rt_rt, o_bin, b_add, b_sub, b_and, b_or, b_xor, b_mod, b_fdiv, b_mul, b_pow, b_shl, b_shr, b_cat, b_catT, b_rep, a_add, a_sub, a_and, a_or, a_xor, a_shr, a_shl, a_fdiv, o_neg, o_inv, o_cmp, c_eq, c_ne, c_lt, c_le, c_gt, c_ge, c_isn, c_notn, c_inl, c_ninl, c_int, c_nint, c_ind, c_nind, kB_int, kB_str, o_subD, o_sub, o_subT, at0, at1, at2, at3, at4, ix0, ix1, ix2, ix3, o_len, o_lenT, o_abs, o_min2, o_max2, o_int, o_intb, o_tup, o_tupt, o_lst, o_lstt, o_rev, o_lrevl, o_lrevt, o_isi, o_isi2, i_int, i_bl, i_lst, i_tup, i_str, i_non, o_slu, o_slsu, o_sll, o_sla, o_slut, o_sllt, o_all, o_any, o_sum, o_srt, o_srtT, o_stp, o_lrng1, o_lrng2, n_seqL, n_seqT, n_enumL, n_enumT, n_rev, n_revT, n_zipL, n_zipT, n_rng1, n_rng2, n_revr, ownVar, ownS, getS, lstB, os_setS, stO_some, stO_none, stB_un, stB_sh, stB_ow, putS, odTs, odT, odAs, odA, refs, nodupB, backs, back1, retE, outS, wipeS, giveS, plainS, tgtF, asgs, mkSeq, T.isNon, okFor, setsS, setsL, List.getElem?_cons_zero, List.getElem?_cons_succ, List.getElem?_nil, List.set_cons_zero, List.set_cons_succ, List.length_cons, List.length_nil, List.length_map, List.cons_append, List.nil_append, List.append_nil, List.replicate, List.getD_cons_zero, List.getD_cons_succ, Option.getD, List.contains_nil, List.contains_cons, Bool.not_true, Bool.not_false, Bool.and_true, Bool.true_and, Bool.and_self, if_true, if_false, true_and, and_true, ite_true, ite_false, reduceIte, Bool.false_eq_true, Bool.true_eq_false, decide_true, decide_false, decide_eq_true_eq, eq_self, Nat.reduceAdd, Nat.reduceLT, Nat.reduceSub, Int.reduceLT, Int.reduceLE, Int.reduceToNat, Int.reduceAbs, Int.reducePow, Int.natAbs_natCast, Nat.reducePow, Nat.reduceLeDiff, Nat.reduceMul, Nat.reduceBEq, Bool.or_true, Bool.or_false, Bool.true_or, Bool.false_or, Int.reduceNeg, $a,*])
  | `(tactic| dsimp! only [$a,*] $l:location) => `(tactic| simp only [w_nil, w_cons, w_set, w_unp, w_par, w_aug, w_sts, w_dst, w_st2, os_stD, os_stL, two2_t, w_rdv, w_dnew, w_tmt, w_fnv, w_cal, w_dsp, w_dgt, w_app, w_ext, w_ins, w_ixl, w_exp, w_ret, w_retn, w_ife, w_non, w_bl, w_int, w_str, w_var, w_glb, w_tup, w_lst, w_op, w_chn, w_not, w_ifx, w_bop, w_b1, w_b2, w_call, w_do, w_pop, w_fs0, w_fs, w_os0, w_os, w_ts0, w_ts1, ok_ok, ok_bad, ok_bind, os_some, os_none, os_bind, os_map, os_ifn, bl_bl, fn_nx, fn_rt, rt_nx, rt_rt, o_bin, b_add, b_sub, b_and, b_or, b_xor, b_mod, b_fdiv, b_mul, b_pow, b_shl, b_shr, b_cat, b_catT, b_rep, a_add, a_sub, a_and, a_or, a_xor, a_shr, a_shl, a_fdiv, o_neg, o_inv, o_cmp, c_eq, c_ne, c_lt, c_le, c_gt, c_ge, c_isn, c_notn, c_inl, c_ninl, c_int, c_nint, c_ind, c_nind, kB_int, kB_str, o_subD, o_sub, o_subT, at0, at1, at2, at3, at4, ix0, ix1, ix2, ix3, o_len, o_lenT, o_abs, o_min2, o_max2, o_int, o_intb, o_tup, o_tupt, o_lst, o_lstt, o_rev, o_lrevl, o_lrevt, o_isi, o_isi2, i_int, i_bl, i_lst, i_tup, i_str, i_non, o_slu, o_slsu, o_sll, o_sla, o_slut, o_sllt, o_all, o_any, o_sum, o_srt, o_srtT, o_stp, o_lrng1, o_lrng2, n_seqL, n_seqT, n_enumL, n_enumT, n_rev, n_revT, n_zipL, n_zipT, n_rng1, n_rng2, n_revr, ownVar, ownS, getS, lstB, os_setS, stO_some, stO_none, stB_un, stB_sh, stB_ow, putS, odTs, odT, odAs, odA, refs, nodupB, backs, back1, retE, outS, wipeS, giveS, plainS, tgtF, asgs, mkSeq, T.isNon, okFor, setsS, setsL, List.getElem?_cons_zero, List.getElem?_cons_succ, List.getElem?_nil, List.set_cons_zero, List.set_cons_succ, List.length_cons, List.length_nil, List.length_map, List.cons_append, List.nil_append, List.append_nil, List.replicate, List.getD_cons_zero, List.getD_cons_succ, Option.getD, List.contains_nil, List.contains_cons, Bool.not_true, Bool.not_false, Bool.and_true, Bool.true_and, Bool.and_self, if_true, if_false, true_and, and_true, ite_true, ite_false, reduceIte, Bool.false_eq_true, Bool.true_eq_false, decide_true, decide_false, decide_eq_true_eq, eq_self, Nat.reduceAdd, Nat.reduceLT, Nat.reduceSub, Int.reduceLT, Int.reduceLE, Int.reduceToNat, Int.reduceAbs, Int.reducePow, Int.natAbs_natCast, Nat.reducePow, Nat.reduceLeDiff, Nat.reduceMul, Nat.reduceBEq, Bool.or_true, Bool.or_false, Bool.true_or, Bool.false_or, Int.reduceNeg, $a,*] $l)
local macro_rules
  | `(tactic| simp! only [$a,*]) => `(tactic| simp only [w_nil, w_cons, w_set, w_unp, w_par, w_aug, w_sts, w_dst, w_st2, os_stD, os_stL, two2_t, w_rdv, w_dnew, w_tmt, w_fnv, w_cal, w_dsp, w_dgt, w_app, w_ext, w_ins, w_ixl, w_exp, w_ret, w_retn, w_ife, w_non, w_bl, w_int, w_str, w_var, w_glb, w_tup, w_lst, w_op, w_chn, w_not, w_ifx, w_bop, w_b1, w_b2, w_call, w_do, w_pop, w_fs0, w_fs, w_os0, w_os, w_ts0, w_ts1, ok_ok, ok_bad, ok_bind, os_some, os_none, os_bind, os_map, os_ifn, bl_bl, fn_nx, fn_rt, rt_nx, rt_rt, o_bin, b_add, b_sub, b_and, b_or, b_xor, b_mod, b_fdiv, b_mul, b_pow, b_shl, b_shr, b_cat, b_catT, b_rep, a_add, a_sub, a_and, a_or, a_xor, a_shr, a_shl, a_fdiv, o_neg, o_inv, o_cmp, c_eq, c_ne, c_lt, c_le, c_gt, c_ge, c_isn, c_notn, c_inl, c_ninl, c_int, c_nint, c_ind, c_nind, kB_int, kB_str, o_subD, o_sub, o_subT, at0, at1, at2, at3, at4, ix0, ix1, ix2, ix3, o_len, o_lenT, o_abs, o_min2, o_max2, o_int, o_intb, o_tup, o_tupt, o_lst, o_lstt, o_rev, o_lrevl, o_lrevt, o_isi, o_isi2, i_int, i_bl, i_lst, i_tup, i_str, i_non, o_slu, o_slsu, o_sll, o_sla, o_slut, o_sllt, o_all, o_any, o_sum, o_srt, o_srtT, o_stp, o_lrng1, o_lrng2, n_seqL, n_seqT, n_enumL, n_enumT, n_rev, n_revT, n_zipL, n_zipT, n_rng1, n_rng2, n_revr, ownVar, ownS, getS, lstB, os_setS, stO_some, stO_none, stB_un, stB_sh, stB_ow, putS, odTs, odT, odAs, odA, refs, nodupB, backs, back1, retE, outS, wipeS, giveS, plainS, tgtF, asgs, mkSeq, T.isNon, okFor, setsS, setsL, List.getElem?_cons_zero, List.getElem?_cons_succ, List.getElem?_nil, List.set_cons_zero, List.set_cons_succ, List.length_cons, List.length_nil, List.length_map, List.cons_append, List.nil_append, List.append_nil, List.replicate, List.getD_cons_zero, List.getD_cons_succ, Option.getD, List.contains_nil, List.contains_cons, Bool.not_true, Bool.not_false, Bool.and_true, Bool.true_and, Bool.and_self, if_true, if_false, true_and, and_true, ite_true, ite_false, reduceIte, Bool.false_eq_true, Bool.true_eq_false, decide_true, decide_false, decide_eq_true_eq, eq_self, Nat.reduceAdd, Nat.reduceLT, Nat.reduceSub, Int.reduceLT, Int.reduceLE, Int.reduceToNat, Int.reduceAbs, Int.reducePow, Int.natAbs_natCast, Nat.reducePow, Nat.reduceLeDiff, Nat.reduceMul, Nat.reduceBEq, Bool.or_true, Bool.or_false, Bool.true_or, Bool.false_or, Int.reduceNeg, sq_and_and, sq_and_or, sq_and_gather, sq_and_strew, sq_and_left, sq_and_right, sq_and_turn, sq_and_swap, sq_and_copy, si_and_M, si_and_B, si_and_S, si_and_L, sn_and, sq_or_and, sq_or_or, sq_or_gather, sq_or_strew, sq_or_left, sq_or_right, sq_or_turn, sq_or_swap, sq_or_copy, si_or_M, si_or_B, si_or_S, si_or_L, sn_or, sq_gather_and, sq_gather_or, sq_gather_gather, sq_gather_strew, sq_gather_left, sq_gather_right, sq_gather_turn, sq_gather_swap, sq_gather_copy, si_gather_M, si_gather_B, si_gather_S, si_gather_L, sn_gather, sq_strew_and, sq_strew_or, sq_strew_gather, sq_strew_strew, sq_strew_left, sq_strew_right, sq_strew_turn, sq_strew_swap, sq_strew_copy, si_strew_M, si_strew_B, si_strew_S, si_strew_L, sn_strew, sq_left_and, sq_left_or, sq_left_gather, sq_left_strew, sq_left_left, sq_left_right, sq_left_turn, sq_left_swap, sq_left_copy, si_left_M, si_left_B, si_left_S, si_left_L, sn_left, sq_right_and, sq_right_or, sq_right_gather, sq_right_strew, sq_right_left, sq_right_right, sq_right_turn, sq_right_swap, sq_right_copy, si_right_M, si_right_B, si_right_S, si_right_L, sn_right, sq_turn_and, sq_turn_or, sq_turn_gather, sq_turn_strew, sq_turn_left, sq_turn_right, sq_turn_turn, sq_turn_swap, sq_turn_copy, si_turn_M, si_turn_B, si_turn_S, si_turn_L, sn_turn, sq_swap_and, sq_swap_or, sq_swap_gather, sq_swap_strew, sq_swap_left, sq_swap_right, sq_swap_turn, sq_swap_swap, sq_swap_copy, si_swap_M, si_swap_B, si_swap_S, si_swap_L, sn_swap, sq_copy_and, sq_copy_or, sq_copy_gather, sq_copy_strew, sq_copy_left, sq_copy_right, sq_copy_turn, sq_copy_swap, sq_copy_copy, si_copy_M, si_copy_B, si_copy_S, si_copy_L, sn_copy, snb_and, snb_or, snb_gather, snb_strew, snb_left, snb_right, snb_turn, snb_swap, snb_copy, $a,*])
  | `(tactic| simp! only [$a,*] $l:location) => `(tactic| simp only [w_nil, w_cons, w_set, w_unp, w_par, w_aug, w_sts, w_dst, w_st2, os_stD, os_stL, two2_t, w_rdv, w_dnew, w_tmt, w_fnv, w_cal, w_dsp, w_dgt, w_app, w_ext, w_ins, w_ixl, w_exp, w_ret, w_retn, w_ife, w_non, w_bl, w_int, w_str, w_var, w_glb, w_tup, w_lst, w_op, w_chn, w_not, w_ifx, w_bop, w_b1, w_b2, w_call, w_do, w_pop, w_fs0, w_fs, w_os0, w_os, w_ts0, w_ts1, ok_ok, ok_bad, ok_bind, os_some, os_none, os_bind, os_map, os_ifn, bl_bl, fn_nx, fn_rt, rt_nx, rt_rt, o_bin, b_add, b_sub, b_and, b_or, b_xor, b_mod, b_fdiv, b_mul, b_pow, b_shl, b_shr, b_cat, b_catT, b_rep, a_add, a_sub, a_and, a_or, a_xor, a_shr, a_shl, a_fdiv, o_neg, o_inv, o_cmp, c_eq, c_ne, c_lt, c_le, c_gt, c_ge, c_isn, c_notn, c_inl, c_ninl, c_int, c_nint, c_ind, c_nind, kB_int, kB_str, o_subD, o_sub, o_subT, at0, at1, at2, at3, at4, ix0, ix1, ix2, ix3, o_len, o_lenT, o_abs, o_min2, o_max2, o_int, o_intb, o_tup, o_tupt, o_lst, o_lstt, o_rev, o_lrevl, o_lrevt, o_isi, o_isi2, i_int, i_bl, i_lst, i_tup, i_str, i_non, o_slu, o_slsu, o_sll, o_sla, o_slut, o_sllt, o_all, o_any, o_sum, o_srt, o_srtT, o_stp, o_lrng1, o_lrng2, n_seqL, n_seqT, n_enumL, n_enumT, n_rev, n_revT, n_zipL, n_zipT, n_rng1, n_rng2, n_revr, ownVar, ownS, getS, lstB, os_setS, stO_some, stO_none, stB_un, stB_sh, stB_ow, putS, odTs, odT, odAs, odA, refs, nodupB, backs, back1, retE, outS, wipeS, giveS, plainS, tgtF, asgs, mkSeq, T.isNon, okFor, setsS, setsL, List.getElem?_cons_zero, List.getElem?_cons_succ, List.getElem?_nil, List.set_cons_zero, List.set_cons_succ, List.length_cons, List.length_nil, List.length_map, List.cons_append, List.nil_append, List.append_nil, List.replicate, List.getD_cons_zero, List.getD_cons_succ, Option.getD, List.contains_nil, List.contains_cons, Bool.not_true, Bool.not_false, Bool.and_true, Bool.true_and, Bool.and_self, if_true, if_false, true_and, and_true, ite_true, ite_false, reduceIte, Bool.false_eq_true, Bool.true_eq_false, decide_true, decide_false, decide_eq_true_eq, eq_self, Nat.reduceAdd, Nat.reduceLT, Nat.reduceSub, Int.reduceLT, Int.reduceLE, Int.reduceToNat, Int.reduceAbs, Int.reducePow, Int.natAbs_natCast, Nat.reducePow, Nat.reduceLeDiff, Nat.reduceMul, Nat.reduceBEq, Bool.or_true, Bool.or_false, Bool.true_or, Bool.false_or, Int.reduceNeg, sq_and_and, sq_and_or, sq_and_gather, sq_and_strew, sq_and_left, sq_and_right, sq_and_turn, sq_and_swap, sq_and_copy, si_and_M, si_and_B, si_and_S, si_and_L, sn_and, sq_or_and, sq_or_or, sq_or_gather, sq_or_strew, sq_or_left, sq_or_right, sq_or_turn, sq_or_swap, sq_or_copy, si_or_M, si_or_B, si_or_S, si_or_L, sn_or, sq_gather_and, sq_gather_or, sq_gather_gather, sq_gather_strew, sq_gather_left, sq_gather_right, sq_gather_turn, sq_gather_swap, sq_gather_copy, si_gather_M, si_gather_B, si_gather_S, si_gather_L, sn_gather, sq_strew_and, sq_strew_or, sq_strew_gather, sq_strew_strew, sq_strew_left, sq_strew_right, sq_strew_turn, sq_strew_swap, sq_strew_copy, si_strew_M, si_strew_B, si_strew_S, si_strew_L, sn_strew, sq_left_and, sq_left_or, sq_left_gather, sq_left_strew, sq_left_left, sq_left_right, sq_left_turn, sq_left_swap, sq_left_copy, si_left_M, si_left_B, si_left_S, si_left_L, sn_left, sq_right_and, sq_right_or, sq_right_gather, sq_right_strew, sq_right_left, sq_right_right, sq_right_turn, sq_right_swap, sq_right_copy, si_right_M, si_right_B, si_right_S, si_right_L, sn_right, sq_turn_and, sq_turn_or, sq_turn_gather, sq_turn_strew, sq_turn_left, sq_turn_right, sq_turn_turn, sq_turn_swap, sq_turn_copy, si_turn_M, si_turn_B, si_turn_S, si_turn_L, sn_turn, sq_swap_and, sq_swap_or, sq_swap_gather, sq_swap_strew, sq_swap_left, sq_swap_right, sq_swap_turn, sq_swap_swap, sq_swap_copy, si_swap_M, si_swap_B, si_swap_S, si_swap_L, sn_swap, sq_copy_and, sq_copy_or, sq_copy_gather, sq_copy_strew, sq_copy_left, sq_copy_right, sq_copy_turn, sq_copy_swap, sq_copy_copy, si_copy_M, si_copy_B, si_copy_S, si_copy_L, sn_copy, snb_and, snb_or, snb_gather, snb_strew, snb_left, snb_right, snb_turn, snb_swap, snb_copy, $a,*] $l)
def unD (W : Nat) : Dd → Dd
  | .trn n => .trn ((W - n) % W)
  | .and m => .and m
  | .or m => .or m
  | .gat m => .gat m
  | .str m => .str m
  | .lft n => .lft n
  | .rgt n => .rgt n
  | .swp m n => .swp m n
  | .cpy m n => .cpy m n
/-- deeds that copy and drop nothing -/
def EvD (W : Nat) (dd : Dd) : Prop := (∃ n, dd = .trn n) ∨ (∃ m n, dd = .swp m n) ∨ (unD W dd = dd ∧ dlZ W dd = stayZ W)
theorem dl_trn {W n : Nat} (hn : n < W) : dlZ W (.trn n) = mapR W (shG W n) := by
  unfold dlZ mapR
  refine List.map_congr_left fun p hp => ?_
  show ((p : Int) - n) % W = ((shG W n p : Nat) : Int)
  rw [trn_ent hn (List.mem_range.mp hp)]
  unfold shG
  split <;> omega
theorem mapR_cg {W : Nat} {f g : Nat → Nat} (h : ∀ p, p < W → f p = g p) : mapR W f = mapR W g := by
  unfold mapR
  exact List.map_congr_left fun p hp => by rw [h p (List.mem_range.mp hp)]
theorem swE_swE {W m n : Nat} (h : (Dd.swp m n).ok W) (p : Nat) : swE m n (swE m n p) = p := by
  rw [sw_sw (W := W) (fun p hp => by rw [Nat.or_self] at hp ⊢; exact h.2.2.2 p hp) h.1, Nat.xor_self]
  unfold swE
  rw [if_neg (fun z => by have := z.2; rw [Nat.zero_testBit] at this; cases this), if_neg (fun z => by rw [Nat.zero_testBit] at z; cases z)]
theorem EvD.even {W : Nat} {dd : Dd} (h : EvD W dd) (hok : dd.ok W) : EvenZ W (dlZ W dd) := by
  rcases h with ⟨n, rfl⟩ | ⟨m, n, rfl⟩ | ⟨_, h⟩
  · rw [dl_trn hok]
    exact (show PM W (shG W n) (shF W n) from ⟨fun g h => shG_lt hok h, fun g h => shF_lt hok h, fun g h => shFG hok h, fun g h => shGF hok h⟩).even
  · rw [dl_swp]
    exact (show PM W (swE m n) (swE m n) from ⟨fun g h => swE_lt hok h, fun g h => swE_lt hok h, fun g h => swE_swE hok g, fun g h => swE_swE hok g⟩).even
  · rw [h]
    exact List.Perm.refl _
theorem EvD.un {W : Nat} {dd : Dd} (h : EvD W dd) (hW : 0 < W) (hok : dd.ok W) : thenZ (dlZ W dd) (dlZ W (unD W dd)) = stayZ W := by
  rcases h with ⟨n, rfl⟩ | ⟨m, n, rfl⟩ | ⟨h1, h⟩
  · have hk : (W - n) % W < W := Nat.mod_lt _ hW
    show thenZ (dlZ W (.trn n)) (dlZ W (.trn ((W - n) % W))) = _
    have hn : n < W := hok
    rw [dl_trn hn, dl_trn hk, thenR fun p hp => shG_lt hk hp, stay_mapR]
    refine mapR_cg fun p hp => ?_
    by_cases z : n = 0
    · subst z
      rw [Nat.sub_zero, Nat.mod_self]
      unfold shG
      rw [if_pos (Nat.zero_le _), if_pos (Nat.zero_le _)]
      omega
    · rw [Nat.mod_eq_of_lt (by omega)]
      unfold shG
      split <;> split <;> omega
  · show thenZ (dlZ W (.swp m n)) (dlZ W (.swp m n)) = _
    rw [dl_swp, thenR fun p hp => swE_lt hok hp, stay_mapR]
    exact mapR_cg fun p hp => swE_swE hok p
  · rw [h1, h, then_stay (stay_lead W)]
theorem intsT_tZ (es : List Int) : intsT (tZ es) = some es := by
  have := intsT_map es fun e => e
  rwa [List.map_id'] at this
theorem tmt_ct {es : List Int} {k : Int} : tmtF true (tZ es) (.int k) = some (.int ((es.count k : Nat) : Int)) := by
  show (intsT (tZ es)).bind _ = _
  rw [intsT_tZ]
  rfl
theorem flat_tZ (es : List Int) : (tZ es).all T.flat = true := List.all_eq_true.mpr fun t ht => by
  obtain ⟨n, _, rfl⟩ := List.mem_map.mp ht
  rfl
theorem mem_tZ (e : Int) (es : List Int) : T.mem (.int e) (tZ es) = decide (e ∈ es) := by
  induction es with
  | nil => rfl
  | cons a es ih =>
    show (T.beq (.int a) (.int e) || T.mem (.int e) (tZ es)) = _
    rw [ih]
    by_cases c : a = e
    · subst c
      simp [T.beq]
    · have c' : ¬ e = a := fun z => c z.symm
      simp [T.beq, c, c']
end MP
namespace MP
open PySem
local macro_rules
  | `(tactic| dsimp! only [$a,*]) => `(tactic| simp only [w_nil, w_cons, w_set, w_unp, w_par, w_aug, w_sts, w_dst, w_st2, os_stD, os_stL, two2_t, w_rdv, w_dnew, w_tmt, w_fnv, w_cal, w_dsp, w_dgt, w_app, w_ext, w_ins, w_ixl, w_exp, w_ret, w_retn, w_ife, w_non, w_bl, w_int, w_str, w_var, w_glb, w_tup, w_lst, w_op, w_chn, w_not, w_ifx, w_bop, w_b1, w_b2, w_call, w_do, w_pop, w_fs0, w_fs, w_os0, w_os, w_ts0, w_ts1, ok_ok, ok_bad, ok_bind, os_some, os_none, os_bind, os_map, os_ifn, bl_bl, fn_nx, fn_rt, rt_nx, rt_rt, o_bin, b_add, b_sub, b_and, b_or, b_xor, b_mod, b_fdiv, b_mul, b_pow, b_shl, b_shr, b_cat, b_catT, b_rep, a_add, a_sub, a_and, a_or, a_xor, a_shr, a_shl, a_fdiv, o_neg, o_inv, o_cmp, c_eq, c_ne, c_lt, c_le, c_gt, c_ge, c_isn, c_notn, c_inl, c_ninl, c_int, c_nint, c_ind, c_nind, kB_int, kB_str, o_subD, o_sub, o_subT, at0, at1, at2, at3, at4, ix0, ix1, ix2, ix3, o_len, o_lenT, o_abs, o_min2, o_max2, o_int, o_intb, o_tup, o_tupt, o_lst, o_lstt, o_rev, o_lrevl, o_lrevt, o_isi, o_isi2, i_int, i_bl, i_lst, i_tup, i_str, i_non, o_slu, o_slsu, o_sll, o_sla, o_slut, o_sllt, o_all, o_any, o_sum, o_srt, o_srtT, o_stp, o_lrng1, o_lrng2, n_seqL, n_seqT, n_enumL, n_enumT, n_rev, n_revT, n_zipL, n_zipT, n_rng1, n_rng2, n_revr, ownVar, ownS, getS, lstB, os_setS, stO_some, stO_none, stB_un, stB_sh, stB_ow, putS, odTs, odT, odAs, odA, refs, nodupB, backs, back1, retE, outS, wipeS, giveS, plainS, tgtF, asgs, mkSeq, T.isNon, okFor, setsS, setsL, List.getElem?_cons_zero, List.getElem?_cons_succ, List.getElem?_nil, List.set_cons_zero, List.set_cons_succ, List.length_cons, List.length_nil, List.length_map, List.cons_append, List.nil_append, List.append_nil, List.replicate, List.getD_cons_zero, List.getD_cons_succ, Option.getD, List.contains_nil, List.contains_cons, Bool.not_true, Bool.not_false, Bool.and_true, Bool.true_and, Bool.and_self, if_true, if_false, true_and, and_true, ite_true, ite_false, reduceIte, Bool.false_eq_true, Bool.true_eq_false, decide_true, decide_false, decide_eq_true_eq, eq_self, Nat.reduceAdd, Nat.reduceLT, Nat.reduceSub, Int.reduceLT, Int.reduceLE, Int.reduceToNat, Int.reduceAbs, Int.reducePow, Int.natAbs_natCast, Nat.reducePow, Nat.reduceLeDiff, Nat.reduceMul, Nat.reduceBEq, Bool.or_true, Bool.or_false, Bool.true_or, Bool.false_or, Int.reduceNeg, $a,*])
  | `(tactic| dsimp! only [$a,*] $l:location) => `(tactic| simp only [w_nil, w_cons, w_set, w_unp, w_par, w_aug, w_sts, w_dst, w_st2, os_stD, os_stL, two2_t, w_rdv, w_dnew, w_tmt, w_fnv, w_cal, w_dsp, w_dgt, w_app, w_ext, w_ins, w_ixl, w_exp, w_ret, w_retn, w_ife, w_non, w_bl, w_int, w_str, w_var, w_glb, w_tup, w_lst, w_op, w_chn, w_not, w_ifx, w_bop, w_b1, w_b2, w_call, w_do, w_pop, w_fs0, w_fs, w_os0, w_os, w_ts0, w_ts1, ok_ok, ok_bad, ok_bind, os_some, os_none, os_bind, os_map, os_ifn, bl_bl, fn_nx, fn_rt, rt_nx, rt_rt, o_bin, b_add, b_sub, b_and, b_or, b_xor, b_mod, b_fdiv, b_mul, b_pow, b_shl, b_shr, b_cat, b_catT, b_rep, a_add, a_sub, a_and, a_or, a_xor, a_shr, a_shl, a_fdiv, o_neg, o_inv, o_cmp, c_eq, c_ne, c_lt, c_le, c_gt, c_ge, c_isn, c_notn, c_inl, c_ninl, c_int, c_nint, c_ind, c_nind, kB_int, kB_str, o_subD, o_sub, o_subT, at0, at1, at2, at3, at4, ix0, ix1, ix2, ix3, o_len, o_lenT, o_abs, o_min2, o_max2, o_int, o_intb, o_tup, o_tupt, o_lst, o_lstt, o_rev, o_lrevl, o_lrevt, o_isi, o_isi2, i_int, i_bl, i_lst, i_tup, i_str, i_non, o_slu, o_slsu, o_sll, o_sla, o_slut, o_sllt, o_all, o_any, o_sum, o_srt, o_srtT, o_stp, o_lrng1, o_lrng2, n_seqL, n_seqT, n_enumL, n_enumT, n_rev, n_revT, n_zipL, n_zipT, n_rng1, n_rng2, n_revr, ownVar, ownS, getS, lstB, os_setS, stO_some, stO_none, stB_un, stB_sh, stB_ow, putS, odTs, odT, odAs, odA, refs, nodupB, backs, back1, retE, outS, wipeS, giveS, plainS, tgtF, asgs, mkSeq, T.isNon, okFor, setsS, setsL, List.getElem?_cons_zero, List.getElem?_cons_succ, List.getElem?_nil, List.set_cons_zero, List.set_cons_succ, List.length_cons, List.length_nil, List.length_map, List.cons_append, List.nil_append, List.append_nil, List.replicate, List.getD_cons_zero, List.getD_cons_succ, Option.getD, List.contains_nil, List.contains_cons, Bool.not_true, Bool.not_false, Bool.and_true, Bool.true_and, Bool.and_self, if_true, if_false, true_and, and_true, ite_true, ite_false, reduceIte, Bool.false_eq_true, Bool.true_eq_false, decide_true, decide_false, decide_eq_true_eq, eq_self, Nat.reduceAdd, Nat.reduceLT, Nat.reduceSub, Int.reduceLT, Int.reduceLE, Int.reduceToNat, Int.reduceAbs, Int.reducePow, Int.natAbs_natCast, Nat.reducePow, Nat.reduceLeDiff, Nat.reduceMul, Nat.reduceBEq, Bool.or_true, Bool.or_false, Bool.true_or, Bool.false_or, Int.reduceNeg, $a,*] $l)
end MP
namespace MP
open PySem
section
variable {C : Cn} {g : En} {P : List FD} {glb : Nat → Option T} {wf d f : Nat}
/-- a call that refuses -/
theorem call_ex {fd : FD} {as : List Sl} {x : Xn} {g : En} (hf : P[f]? = some fd) (hl : as.length = fd.ps.length)
    (h : evSs (CA P glb wf d) fd.body (as ++ List.replicate (fd.N.length - as.length) .un) = .ex x g) : callF P glb wf (d + 1) f as = .ex x (outS as g) := by
  unfold callF
  rw [hf]
  show (if as.length = fd.ps.length then _ else _) = _
  rw [if_pos hl]
  have h' : evSs ⟨callF P glb wf d, glb, wf⟩ fd.body (as ++ List.replicate (fd.N.length - as.length) .un) = .ex x g := h
  rw [h']
/-- a test that holds, and a refusal behind it -/
theorem ife_ex {c : E} {a b : List S} {ss : List S} {x : Xn} {g1 g2 : En} (hc : blOf (ev C c g) = .ok true g1) (ha : evSs C a g1 = .ex x g2) : evSs C (.ife c a b :: ss) g = .ex x g2 := by
  rw [evSs, evS, hc]
  show ((if (true : Bool) = true then evSs C a g1 else evSs C b g1).bind _) = _
  rw [if_pos rfl, ha]
  rfl
theorem rse_ex {k c : Nat} {sup : List Nat} {ss : List S} (hg : C.glb k = some (.cls c sup [])) : evSs C (.rse k :: ss) g = .ex ⟨c, sup, none⟩ g := by
  rw [evSs, evS, hg]
  rfl
/-- a refusal caught -/
theorem tri_ex {b : List S} {k i j c : Nat} {sup fl : List Nat} {x : Xn} {g1 : En} {Q : Fl → En → Prop} (hg : C.glb k = some (.cls c sup fl)) (hb : evSs C b g = .ex x g1) (hx : (x.cls == c || x.sup.contains c) = true) (hij : i ≠ j)
    (h : Os (setS (g1.set i .un) j (.sh (.exn x.cls x.sup x.fld.toList))) fun g2 => Q .nx g2) : Ok (evS C (.tri b k i j) g) Q := by
  rw [evS, hg]
  show Ok (match evSs C b g with
      | .ok f g1 => .ok f g1
      | .ex x g1 => if (x.cls == c || x.sup.contains c) = true then (if i = j then .bad else doneS (setS (g1.set i .un) j (.sh (.exn x.cls x.sup x.fld.toList)))) else .ex x g1
      | .bad => .bad) Q
  rw [hb]
  show Ok (if (x.cls == c || x.sup.contains c) = true then (if i = j then .bad else doneS (setS (g1.set i .un) j (.sh (.exn x.cls x.sup x.fld.toList)))) else .ex x g1) Q
  rw [if_pos hx, if_neg hij]
  rw [ok_done]
  revert h
  cases setS (g1.set i .un) j (.sh (.exn x.cls x.sup x.fld.toList)) with
  | none => exact fun h => h
  | some g2 => exact fun h => h
end
end MP
namespace Law
open PySem PySem.Spec L2 MP
local macro_rules
  | `(tactic| dsimp! only [$a,*]) => `(tactic| simp only [w_nil, w_cons, w_set, w_unp, w_par, w_aug, w_sts, w_dst, w_st2, os_stD, os_stL, two2_t, w_rdv, w_dnew, w_tmt, w_fnv, w_cal, w_dsp, w_dgt, w_app, w_ext, w_ins, w_ixl, w_exp, w_ret, w_retn, w_ife, w_non, w_bl, w_int, w_str, w_var, w_glb, w_tup, w_lst, w_op, w_chn, w_not, w_ifx, w_bop, w_b1, w_b2, w_call, w_do, w_pop, w_fs0, w_fs, w_os0, w_os, w_ts0, w_ts1, ok_ok, ok_bad, ok_bind, os_some, os_none, os_bind, os_map, os_ifn, bl_bl, fn_nx, fn_rt, rt_nx, rt_rt, o_bin, b_add, b_sub, b_and, b_or, b_xor, b_mod, b_fdiv, b_mul, b_pow, b_shl, b_shr, b_cat, b_catT, b_rep, a_add, a_sub, a_and, a_or, a_xor, a_shr, a_shl, a_fdiv, o_neg, o_inv, o_cmp, c_eq, c_ne, c_lt, c_le, c_gt, c_ge, c_isn, c_notn, c_inl, c_ninl, c_int, c_nint, c_ind, c_nind, kB_int, kB_str, o_subD, o_sub, o_subT, at0, at1, at2, at3, at4, ix0, ix1, ix2, ix3, o_len, o_lenT, o_abs, o_min2, o_max2, o_int, o_intb, o_tup, o_tupt, o_lst, o_lstt, o_rev, o_lrevl, o_lrevt, o_isi, o_isi2, i_int, i_bl, i_lst, i_tup, i_str, i_non, o_slu, o_slsu, o_sll, o_sla, o_slut, o_sllt, o_all, o_any, o_sum, o_srt, o_srtT, o_stp, o_lrng1, o_lrng2, n_seqL, n_seqT, n_enumL, n_enumT, n_rev, n_revT, n_zipL, n_zipT, n_rng1, n_rng2, n_revr, ownVar, ownS, getS, lstB, os_setS, stO_some, stO_none, stB_un, stB_sh, stB_ow, putS, odTs, odT, odAs, odA, refs, nodupB, backs, back1, retE, outS, wipeS, giveS, plainS, tgtF, asgs, mkSeq, T.isNon, okFor, setsS, setsL, List.getElem?_cons_zero, List.getElem?_cons_succ, List.getElem?_nil, List.set_cons_zero, List.set_cons_succ, List.length_cons, List.length_nil, List.length_map, List.cons_append, List.nil_append, List.append_nil, List.replicate, List.getD_cons_zero, List.getD_cons_succ, Option.getD, List.contains_nil, List.contains_cons, Bool.not_true, Bool.not_false, Bool.and_true, Bool.true_and, Bool.and_self, if_true, if_false, true_and, and_true, ite_true, ite_false, reduceIte, Bool.false_eq_true, Bool.true_eq_false, decide_true, decide_false, decide_eq_true_eq, eq_self, Nat.reduceAdd, Nat.reduceLT, Nat.reduceSub, Int.reduceLT, Int.reduceLE, Int.reduceToNat, Int.reduceAbs, Int.reducePow, Int.natAbs_natCast, Nat.reducePow, Nat.reduceLeDiff, Nat.reduceMul, Nat.reduceBEq, Bool.or_true, Bool.or_false, Bool.true_or, Bool.false_or, Int.reduceNeg, $a,*])
  | `(tactic| dsimp! only [$a,*] $l:location) => `(tactic| simp only [w_nil, w_cons, w_set, w_unp, w_par, w_aug, w_sts, w_dst, w_st2, os_stD, os_stL, two2_t, w_rdv, w_dnew, w_tmt, w_fnv, w_cal, w_dsp, w_dgt, w_app, w_ext, w_ins, w_ixl, w_exp, w_ret, w_retn, w_ife, w_non, w_bl, w_int, w_str, w_var, w_glb, w_tup, w_lst, w_op, w_chn, w_not, w_ifx, w_bop, w_b1, w_b2, w_call, w_do, w_pop, w_fs0, w_fs, w_os0, w_os, w_ts0, w_ts1, ok_ok, ok_bad, ok_bind, os_some, os_none, os_bind, os_map, os_ifn, bl_bl, fn_nx, fn_rt, rt_nx, rt_rt, o_bin, b_add, b_sub, b_and, b_or, b_xor, b_mod, b_fdiv, b_mul, b_pow, b_shl, b_shr, b_cat, b_catT, b_rep, a_add, a_sub, a_and, a_or, a_xor, a_shr, a_shl, a_fdiv, o_neg, o_inv, o_cmp, c_eq, c_ne, c_lt, c_le, c_gt, c_ge, c_isn, c_notn, c_inl, c_ninl, c_int, c_nint, c_ind, c_nind, kB_int, kB_str, o_subD, o_sub, o_subT, at0, at1, at2, at3, at4, ix0, ix1, ix2, ix3, o_len, o_lenT, o_abs, o_min2, o_max2, o_int, o_intb, o_tup, o_tupt, o_lst, o_lstt, o_rev, o_lrevl, o_lrevt, o_isi, o_isi2, i_int, i_bl, i_lst, i_tup, i_str, i_non, o_slu, o_slsu, o_sll, o_sla, o_slut, o_sllt, o_all, o_any, o_sum, o_srt, o_srtT, o_stp, o_lrng1, o_lrng2, n_seqL, n_seqT, n_enumL, n_enumT, n_rev, n_revT, n_zipL, n_zipT, n_rng1, n_rng2, n_revr, ownVar, ownS, getS, lstB, os_setS, stO_some, stO_none, stB_un, stB_sh, stB_ow, putS, odTs, odT, odAs, odA, refs, nodupB, backs, back1, retE, outS, wipeS, giveS, plainS, tgtF, asgs, mkSeq, T.isNon, okFor, setsS, setsL, List.getElem?_cons_zero, List.getElem?_cons_succ, List.getElem?_nil, List.set_cons_zero, List.set_cons_succ, List.length_cons, List.length_nil, List.length_map, List.cons_append, List.nil_append, List.append_nil, List.replicate, List.getD_cons_zero, List.getD_cons_succ, Option.getD, List.contains_nil, List.contains_cons, Bool.not_true, Bool.not_false, Bool.and_true, Bool.true_and, Bool.and_self, if_true, if_false, true_and, and_true, ite_true, ite_false, reduceIte, Bool.false_eq_true, Bool.true_eq_false, decide_true, decide_false, decide_eq_true_eq, eq_self, Nat.reduceAdd, Nat.reduceLT, Nat.reduceSub, Int.reduceLT, Int.reduceLE, Int.reduceToNat, Int.reduceAbs, Int.reducePow, Int.natAbs_natCast, Nat.reducePow, Nat.reduceLeDiff, Nat.reduceMul, Nat.reduceBEq, Bool.or_true, Bool.or_false, Bool.true_or, Bool.false_or, Int.reduceNeg, $a,*] $l)
theorem surj_perm : ∀ {xs ys : List Int}, xs.Nodup → (∀ x ∈ xs, x ∈ ys) → ys.length ≤ xs.length → ys.Perm xs
  | [], ys, _, _, h => by
    rw [List.length_nil, Nat.le_zero, List.length_eq_zero_iff] at h
    rw [h]
  | x :: xs, ys, hn, hs, hl => by
    rw [List.nodup_cons] at hn
    have hx : x ∈ ys := hs x List.mem_cons_self
    refine (List.perm_cons_erase hx).trans ((surj_perm hn.2 (fun z hz => ?_) ?_).cons x)
    · exact (List.mem_erase_of_ne (fun e => hn.1 (by rw [← e]; exact hz))).mpr (hs z (List.mem_cons_of_mem _ hz))
    · rw [List.length_erase_of_mem hx]
      rw [List.length_cons] at hl
      omega
theorem cnt1 {a : Int} : ∀ {l : List Int}, l.Nodup → a ∈ l → l.count a = 1
  | [], _, h => by cases h
  | b :: l, hn, h => by
    rw [List.nodup_cons] at hn
    rw [List.count_cons]
    by_cases e : b = a
    · subst e
      rw [List.count_eq_zero.mpr hn.1]
      simp
    · rcases List.mem_cons.mp h with q | q
      · exact absurd q.symm e
      · rw [cnt1 hn.2 q]
        simp [e]
def oftZ (W : Nat) (es : List Int) : List Int := (List.range W).map fun p : Nat => ((es.count (p : Int) : Nat) : Int)
theorem oft_even {W : Nat} {es : List Int} (hl : es.length = W) : oftZ W es = List.replicate W 1 ↔ EvenZ W es := by
  constructor
  · intro h
    refine surj_perm (stay_nodup W) (fun e he => ?_) (by rw [hl, stayZ_len]; exact Nat.le_refl _)
    obtain ⟨h0, h1⟩ := stay_mem.mp he
    obtain ⟨q, rfl⟩ := Int.eq_ofNat_of_zero_le h0
    have hq : q < W := by omega
    have hg : (oftZ W es)[q]? = some 1 := by rw [h, List.getElem?_replicate, if_pos hq]
    unfold oftZ at hg
    rw [List.getElem?_map, List.getElem?_range hq] at hg
    have hc : ((es.count (q : Int) : Nat) : Int) = 1 := Option.some.inj hg
    exact List.count_pos_iff.mp (by omega)
  · intro h
    unfold oftZ
    rw [List.eq_replicate_iff]
    refine ⟨by rw [List.length_map, List.length_range], fun e he => ?_⟩
    obtain ⟨q, hq, rfl⟩ := List.mem_map.mp he
    have hq := List.mem_range.mp hq
    rw [List.Perm.count_eq h, cnt1 (stay_nodup W) (stay_mem.mpr ⟨by omega, by omega⟩)]
    rfl
theorem oft_evenB {W : Nat} {es : List Int} (hl : es.length = W) : decide (oftZ W es = List.replicate W 1) = evenB es := by
  rw [Bool.eq_iff_iff, decide_eq_true_eq, evenB_iff, hl]
  exact oft_even hl
def kpB (W : Nat) (es : List Int) : List Nat := (List.range W).map fun p : Nat => if (p : Int) ∈ es then 1 else 0
section
variable {d : Nat} {h : T}
theorem back_ex {es : List Int} (hn : es.length ≤ 4096) (he : evenB es = false) : callF P (glbOf cs) 100000 (d + 2) 5 [.sh (.tup (tZ es))] = .ex ⟨0, [1], none⟩ [.un] := by
  refine call_ex (fd := f_turned_back) rfl rfl (g := [.sh (.tup (tZ es)), .un, .un, .un]) ?_
  have t : Ok (blOf (ev (CA P (glbOf cs) 100000 (d + 1)) (.not (.call 4 [(.var 0)])) [.sh (.tup (tZ es)), .un, .un, .un])) fun b g => b = true ∧ g = [.sh (.tup (tZ es)), .un, .un, .un] := by
    dsimp! only [ok_blOf]
    refine Ok.mono (is_even_ok (d := d) rfl hn) ?_
    rintro _ _ ⟨rfl, rfl⟩
    rw [he]
    dsimp! only []
  obtain ⟨b, g, e, rfl, rfl⟩ := t.get
  exact ife_ex e (rse_ex rfl)
theorem refused_ok {es : List Int} (hn : es.length ≤ 4096) (he : evenB es = false) : Ok (callF P (glbOf cs) 100000 (d + 3) 14 [.sh (.tup (tZ es))]) fun r outs => r = (false, .bl true) ∧ outs = [.un] := by
  refine call_ok (fd := f_law_refused) rfl rfl ?_
  unfold f_law_refused
  dsimp! only []
  have hb : evSs (CA P (glbOf cs) 100000 (d + 2)) [.exp (.call 5 [(.var 0)])] [.sh (.tup (tZ es)), .sh .non, .un] = .ex ⟨0, [1], none⟩ [.sh (.tup (tZ es)), .sh .non, .un] := by
    have hc : (CA P (glbOf cs) 100000 (d + 2)).call 5 [.sh (.tup (tZ es))] = .ex ⟨0, [1], none⟩ [.un] := back_ex hn he
    have ho : evOs (CA P (glbOf cs) 100000 (d + 2)) [.var 0] [.sh (.tup (tZ es)), .sh .non, .un] = .ok [.t (.tup (tZ es))] [.sh (.tup (tZ es)), .sh .non, .un] := by
      have t : Ok (evOs (CA P (glbOf cs) 100000 (d + 2)) [.var 0] [.sh (.tup (tZ es)), .sh .non, .un]) fun os g => os = [.t (.tup (tZ es))] ∧ g = [.sh (.tup (tZ es)), .sh .non, .un] := by
        dsimp! only []
      obtain ⟨b, g, e, rfl, rfl⟩ := t.get
      exact e
    have hd : doCall (CA P (glbOf cs) 100000 (d + 2)) 5 [.t (.tup (tZ es))] [.sh (.tup (tZ es)), .sh .non, .un] = .ex ⟨0, [1], none⟩ [.sh (.tup (tZ es)), .sh .non, .un] := by
      unfold doCall
      show (if nodupB [] = true then (match (CA P (glbOf cs) 100000 (d + 2)).call 5 [.sh (.tup (tZ es))] with
        | .ok r outs => _
        | .ex x outs => _
        | .bad => _) else _) = _
      rw [if_pos (show nodupB [] = true from rfl), hc]
      rfl
    rw [evSs, evS, ev, ho]
    show ((doCall (CA P (glbOf cs) 100000 (d + 2)) 5 [.t (.tup (tZ es))] [.sh (.tup (tZ es)), .sh .non, .un]).bind _).bind _ = _
    rw [hd]
    rfl
  refine tri_ex (c := 1) (sup := []) (fl := []) rfl hb rfl (by decide) ?_
  have g0 : glbOf cs 0 = some (.cls 0 [1] []) := rfl
  have g2 : glbOf cs 2 = some (.cls 2 [1] [114, 111, 119]) := rfl
  have g3 : glbOf cs 3 = some (.cls 3 [1] [112, 108, 97, 99, 101]) := rfl
  have g4 : glbOf cs 4 = some (.cls 4 [1] []) := rfl
  have o1 : opF .isn [.exn 0 [1] (none : Option T).toList, .cls 0 [1] []] = some (false, .bl true) := rfl
  have o2 : opF .isv [.exn 0 [1] (none : Option T).toList] = some (false, .bl true) := rfl
  have o3 : opF .isn [.exn 0 [1] (none : Option T).toList, .tup [.cls 2 [1] [114, 111, 119], .cls 3 [1] [112, 108, 97, 99, 101], .cls 4 [1] []]] = some (false, .bl false) := rfl
  dsimp! only [g0, g2, g3, g4, o1, o2, o3]
  exact size_le (by decide)
theorem back_k {W : Nat} {es : List Int} (h : EvenZ W es) (hW : W ≤ 4096) : Ok (callF P (glbOf cs) 100000 (d + 2) 5 [.sh (.tup (tZ es))]) fun r outs => r = (false, .tup (tZ (backZ W es))) ∧ outs = [.un] := by
  have hl := h.len
  have hd : evenB es = true := evenB_iff.mpr (by rw [hl]; exact h)
  refine call_ok (fd := f_turned_back) rfl rfl ?_
  unfold f_turned_back
  dsimp! only []
  refine Ok.mono (is_even_ok (d := d) rfl (by omega)) ?_
  rintro _ _ ⟨rfl, rfl⟩
  rw [hd]
  dsimp! only [tZ_len, hl, Int.toNat_natCast, w_for, Option.bind_some, Option.map_some, itN, seqN, rangeN, zipN, revrN, rep_tZ']
  refine ⟨size_le (by decide), ⟨by omega, size_le (by omega)⟩, ?_⟩
  rw [← bk_zero W es]
  refine for_ok (fun i g => ∃ s2 s3, g = [.sh (.tup (tZ es)), .ow (.lst (tZ ((List.range W).map (bkF es i)))), s2, s3] ∧ stB s2 = true ∧ stB s3 = true) (by have := wk_enumT (tZ es); rw [tZ_len, hl] at this; exact this) ⟨.un, .un, rfl, rfl, rfl⟩ (fun i g hI => ?_) (fun i x g hx hI => ?_) (fun g hI => ?_)
  · obtain ⟨s2, s3, rfl, _⟩ := hI
    rfl
  · obtain ⟨s2, s3, rfl, t2, t3⟩ := hI
    rw [enumT_get, tZ_get] at hx
    obtain ⟨y, hy, rfl⟩ := Option.map_eq_some_iff.mp hx
    obtain ⟨e, he, rfl⟩ := Option.map_eq_some_iff.mp hy
    have hm := h.lead.2 e (List.mem_of_getElem? he)
    have hs := stay_mem.mp (h.mem_iff.mp (List.mem_of_getElem? he))
    obtain ⟨q, rfl⟩ := Int.eq_ofNat_of_zero_le hs.1
    have hq : q < W := by omega
    dsimp! only [t2, t3, tZ_len, List.length_map, List.length_range, Int.ofNat_eq_natCast, ix_nat, hq, set_tZ, Nat.zero_add]
    exact ⟨.sh (.int (i : Nat)), .sh (.int q), by rw [bk_step h he], rfl, rfl⟩
  · obtain ⟨s2, s3, rfl, _⟩ := hI
    rw [enumT_length, tZ_len, hl, bk_all h]
    dsimp! only []
theorem back_even {W : Nat} {es : List Int} (h : EvenZ W es) : EvenZ W (backZ W es) := by
  have e : backZ W es = mapR W (bN es) := rfl
  rw [e]
  exact (show PM W (bN es) (sN es) from ⟨h.pm.bl, h.pm.sl, h.pm.sb, h.pm.bs⟩).even
theorem back_back {W : Nat} {es : List Int} (h : EvenZ W es) : backZ W (backZ W es) = es := by
  have hb := back_even h
  have l1 := h.lead
  have l2 := back_lead h
  have l3 := back_lead hb
  have e : thenZ es (stayZ W) = es := stay_then l1
  rw [← back_then hb, ← then_assoc l1 l2 l3, back_then h, then_stay l3] at e
  exact e
theorem back_then2 {W : Nat} {es : List Int} (h : EvenZ W es) : thenZ (backZ W es) es = stayZ W := by
  have := back_then (back_even h)
  rwa [back_back h] at this
theorem kept_eq {W : Nat} {es : List Int} (he : LeadZ W es) : keptN es = ofB (kpB W es) := bit_ext fun p => by
  have hb : ∀ b ∈ kpB W es, b ≤ 1 := fun b hb => by
    obtain ⟨q, _, rfl⟩ := List.mem_map.mp hb
    split <;> omega
  rw [kept_bit, ofB_bit _ _ hb, decide_eq_true_eq]
  unfold kpB
  rw [List.getElem?_map]
  by_cases hp : p < W
  · rw [List.getElem?_range hp]
    show _ ↔ some (if (p : Int) ∈ es then 1 else 0) = some 1
    by_cases hm : (p : Int) ∈ es
    · simp [hm]
    · simp [hm]
  · rw [List.getElem?_eq_none (by rw [List.length_range]; omega)]
    constructor
    · intro hm
      have := (he.2 _ hm).2
      omega
    · intro z
      cases z
theorem says_ok {a : Bool} : Ok (callF P (glbOf cs) 100000 (d + 1) 13 [.sh (.bl a), .sh (.bl a)]) fun r outs => r = (false, .bl true) ∧ outs = [.un, .un] := by
  refine call_ok (fd := f_law_says) rfl rfl ?_
  unfold f_law_says
  dsimp! only [c_eqb]
  simp
theorem fb_ok {bs : List Nat} {s o : Sl} (ha : Ar (.lst (tI bs)) s o) : Ok (callF P (glbOf cs) 100000 (d + 1) 11 [s]) fun r outs => r = (false, .int (ofB bs)) ∧ outs = [o] := by
  have key : ∀ s' : Sl, (s' = .sh (.lst (tI bs)) ∨ s' = .io (.lst (tI bs))) → getS [s'] 0 = some (.lst (tI bs)) := fun s' h => by rcases h with rfl | rfl <;> rfl
  have main : ∀ (C : Cn) (os : List Od) (s' : Sl), (∀ a b, odTs [s', a, b] os = some [.lst (tI bs)]) → okFor [2] [.set 1 (.op (.bin .Add) [(.op (.bin .Mult) [(.int 2), (.var 1)]), (.var 2)])] os = true →
      Ok (forL (fun g => evSs C [.set 1 (.op (.bin .Add) [(.op (.bin .Mult) [(.int 2), (.var 1)]), (.var 2)])] g) [2] false .rev ((tI bs).length, false) os (tI bs).length 0 [s', .sh (.int 0), .un]) fun f g => f = .nx ∧ ∃ s2, g = [s', .sh (.int (ofB bs)), s2] ∧ Fr s2 := fun C os s' h1 h2 => by
    refine for_fold (fun (a : Int) g => ∃ s2, g = [s', .sh (.int a), s2] ∧ Fr s2) (fun a t => 2 * a + t.toI) 0 (wk_rev (tI bs)) ⟨.un, rfl, fr_un⟩ (fun a g h => ?_) (fun i a x g hx ea h => ?_) (fun g h => ?_)
    · obtain ⟨s2, rfl, _⟩ := h
      exact h1 _ _
    · obtain ⟨s2, rfl, hs2⟩ := h
      rw [tI_rev, tI_get] at hx
      obtain ⟨b, _, rfl⟩ := Option.map_eq_some_iff.mp hx
      show Os (setS _ 2 _) _
      rw [setS_at (s := s2) rfl hs2, os_some]
      dsimp! only []
      exact ⟨okL (by decide), _, rfl, fr_sh⟩
    · rw [ofB_fold] at h
      exact ⟨rfl, h⟩
  refine call_ok (fd := f_law_from_bits) rfl rfl ?_
  unfold f_law_from_bits
  rcases ha with ⟨rfl, rfl⟩ | ⟨rfl, rfl⟩
  · dsimp! only [w_for, Option.bind_some, Option.map_some, itN, seqN, rangeN, zipN, revrN]
    refine Ok.mono (main _ _ _ (fun a b => rfl) rfl) ?_
    rintro _ _ ⟨rfl, s2, rfl, hs2⟩
    dsimp! only []
  · dsimp! only [w_for, Option.bind_some, Option.map_some, itN, seqN, rangeN, zipN, revrN]
    refine Ok.mono (main _ _ _ (fun a b => rfl) rfl) ?_
    rintro _ _ ⟨rfl, s2, rfl, hs2⟩
    dsimp! only []
theorem right_ok {W : Nat} {es : List Int} (hW1 : 1 ≤ W) (hW : W ≤ 64) (he : LeadZ W es) : Ok (callF P (glbOf cs) 100000 (d + 4) 15 [.sh (.tup (tZ es))]) fun r outs => r = (false, .bl true) ∧ outs = [.un] := by
  have hl : es.length = W := he.1
  refine call_ok (fd := f_law_right) rfl rfl ?_
  unfold f_law_right
  dsimp! only [tZ_len, hl, w_comp, Option.bind_some, Option.map_some, itN, seqN, rangeN, zipN, revrN]
  refine ⟨small_ok (by omega), ?_⟩
  refine comp_each (fun p : Nat => T.int ((if (p : Int) ∈ es then 1 else 0 : Nat) : Int)) (wk_rng W) rfl (fun p hp => ?_) ?_
  · dsimp! only [flat_tZ, mem_tZ, T.flat]
    by_cases hm : (p : Int) ∈ es
    · dsimp! only [hm]
      rfl
    · dsimp! only [hm]
      rfl
  · have eb : ((List.range W).map fun p : Nat => T.int ((if (p : Int) ∈ es then 1 else 0 : Nat) : Int)) = tI (kpB W es) := by
      unfold tI kpB
      rw [List.map_map]
      rfl
    rw [eb]
    dsimp! only []
    refine Ok.mono (fb_ok (bs := kpB W es) (d := d + 2) ar_sh) ?_
    rintro _ _ ⟨rfl, rfl⟩
    dsimp! only [w_comp, Option.bind_some, Option.map_some, itN, seqN, rangeN, zipN, revrN]
    refine ⟨small_ok (by omega), ?_⟩
    refine comp_each (fun p : Nat => T.int ((es.count (p : Int) : Nat) : Int)) (wk_rng W) rfl (fun p hp => ?_) ?_
    · dsimp! only [tmt_ct]
    · have eo : ((List.range W).map fun p : Nat => T.int ((es.count (p : Int) : Nat) : Int)) = tZ (oftZ W es) := by
        unfold tZ oftZ
        rw [List.map_map]
        rfl
      rw [eo]
      dsimp! only [Int.toNat_natCast, rep_tZ', c_eqLZ, oft_evenB hl]
      refine ⟨size_le (by decide), ⟨by omega, size_le (by omega)⟩, ?_⟩
      refine Ok.mono (kept_ok (P := P) (glb := glbOf cs) (wf := 100000) (f := 3) (cm := 0) (W := W) (d := d + 1) rfl rfl he (by omega)) ?_
      rintro _ _ ⟨rfl, rfl⟩
      rw [kept_eq he]
      dsimp! only []
      refine Ok.mono (is_ok (d := d + 2) rfl) ?_
      rintro _ _ ⟨rfl, rfl⟩
      rw [decide_eq_true rfl]
      dsimp! only []
      refine Ok.mono (is_even_ok (d := d + 2) rfl (by omega)) ?_
      rintro _ _ ⟨rfl, rfl⟩
      dsimp! only []
      refine Ok.mono (says_ok (d := d + 2)) ?_
      rintro _ _ ⟨rfl, rfl⟩
      dsimp! only []
      rcases Bool.eq_false_or_eq_true (evenB es) with hv | hv
      rotate_left
      · dsimp! only [hv]
        refine Ok.mono (refused_ok (d := d) (by omega) hv) ?_
        rintro _ _ ⟨rfl, rfl⟩
        dsimp! only []
      · have hE : EvenZ W es := by rw [← hl]; exact evenB_iff.mp hv
        dsimp! only [hv]
        refine Ok.mono (back_k (W := W) (d := d + 1) hE (by omega)) ?_
        rintro _ _ ⟨rfl, rfl⟩
        dsimp! only []
        refine Ok.mono (back_k (W := W) (d := d + 1) (back_even hE) (by omega)) ?_
        rintro _ _ ⟨rfl, rfl⟩
        dsimp! only [back_back hE, c_neZ]
        refine Ok.mono (then_ok (P := P) (glb := glbOf cs) (wf := 100000) (f := 2) (d := d + 2) rfl he (back_lead hE)) ?_
        rintro _ _ ⟨rfl, rfl⟩
        dsimp! only []
        refine Ok.mono (staying_ok (w := W) (d := d + 2) rfl (by omega)) ?_
        rintro _ _ ⟨rfl, rfl⟩
        have estay : ((List.range W).map fun n : Nat => (n : Int)) = stayZ W := rfl
        dsimp! only [estay, back_then hE, c_eqZ]
        refine Ok.mono (then_ok (P := P) (glb := glbOf cs) (wf := 100000) (f := 2) (d := d + 2) rfl (back_lead hE) he) ?_
        rintro _ _ ⟨rfl, rfl⟩
        dsimp! only []
        refine Ok.mono (staying_ok (w := W) (d := d + 2) rfl (by omega)) ?_
        rintro _ _ ⟨rfl, rfl⟩
        dsimp! only [estay, back_then2 hE, c_eqZ]
theorem bent_lead {W k : Nat} {es : List Int} {e : Int} (he : LeadZ W es) (hk : k < W) (h : -2 ≤ e ∧ e < W) : LeadZ W (es.take k ++ [e] ++ es.drop (k + 1)) := by
  have hl := he.1
  refine ⟨by rw [List.length_append, List.length_append, List.length_take, List.length_drop, List.length_singleton]; omega, fun x hx => ?_⟩
  rcases List.mem_append.mp hx with hx | hx
  · rcases List.mem_append.mp hx with hx | hx
    · exact he.2 x (List.mem_of_mem_take hx)
    · rw [List.mem_singleton.mp hx]
      exact h
  · exact he.2 x (List.mem_of_mem_drop hx)
theorem law_ok {ns : List Int} {D : Nat} (hD : D = 55) : Ok (callF P (glbOf cs) 100000 (D + 5) 16 [.sh (.scr ns)]) fun r outs => r = (false, .bl true) := by
  refine call_ok (fd := f_law) rfl rfl ?_
  unfold f_law
  dsimp! only []
  refine Ok.mono (hand_ok (P := P) (d := D + 3) rfl) ?_
  rintro _ _ ⟨h0, rfl, rfl, hh0⟩
  dsimp! only [w_for, Option.bind_some, Option.map_some, itN, seqN, rangeN, zipN, revrN]
  refine ⟨small_ok (by decide), ?_⟩
  refine for_ok (fun i g => ∃ h s2 s3 s4 s5 s6, g = [.sh (.scr ns), .ow h, s2, s3, s4, s5, s6] ∧ HandT h ∧ stB s2 = true ∧ stB s3 = true ∧ stB s4 = true ∧ stB s5 = true ∧ stB s6 = true) (wk_range1 20) ⟨h0, .un, .un, .un, .un, .un, rfl, hh0, rfl, rfl, rfl, rfl, rfl⟩ (fun i g hI => ?_) (fun i y g hy hI => ?_) (fun g hI => ?_)
  · obtain ⟨h, s2, s3, s4, s5, s6, rfl, _⟩ := hI
    rfl
  · obtain ⟨h, s2, s3, s4, s5, s6, rfl, hh, t2, t3, t4, t5, t6⟩ := hI
    dsimp! only [t2, t3]
    refine Ok.mono (width_ok (d := D + 2) rfl rfl hh) ?_
    rintro _ _ ⟨W, h1, rfl, rfl, hh1, hW1, hW⟩
    dsimp! only [t3, t4]
    refine Ok.mono (leading_ok (d := D + 1) rfl rfl rfl hh1 hW1 hW (by decide)) ?_
    rintro _ _ ⟨es0, h2, rfl, rfl, hh2, he0⟩
    have fin : ∀ {es : List Int} {h3 : T} {Q : Fl → En → Prop}, LeadZ W es → HandT h3 → (∀ g, (∃ h s2 s3 s4 s5 s6, g = [.sh (.scr ns), .ow h, s2, s3, s4, s5, s6] ∧ HandT h ∧ stB s2 = true ∧ stB s3 = true ∧ stB s4 = true ∧ stB s5 = true ∧ stB s6 = true) → Q .nx g) →
        Ok (evSs (CA P (glbOf cs) 100000 (D + 4)) [.ife (.not (.call 15 [(.var 4)])) [.ret (.bl false)] [], .set 5 (.call 7 [(.var 1), (.var 3)]), .set 6 (.op .sub [(.lst [(.op .neg [(.int 1)]), (.op .neg [(.int 2)]), (.call 7 [(.var 1), (.var 3)])]), (.call 7 [(.var 1), (.int 3)])]), .ife (.not (.call 15 [(.op (.bin .Add) [(.op (.bin .Add) [(.op (.slc false true) [(.var 4), (.var 5)]), (.tup [(.var 6)])]), (.op (.slc true false) [(.var 4), (.op (.bin .Add) [(.var 5), (.int 1)])])])])) [.ret (.bl false)] []] [.sh (.scr ns), .ow h3, .sh y, .sh (.int W), .sh (.tup (tZ es)), s5, s6]) Q := fun {es h3 Q} he hh3 hQ => by
      dsimp! only []
      refine Ok.mono (right_ok (d := D) hW1 hW he) ?_
      rintro _ _ ⟨rfl, rfl⟩
      dsimp! only [t5]
      refine Ok.mono (draw_ok rfl hh3 (by omega) (by omega)) ?_
      rintro _ _ ⟨u, h4, rfl, rfl, hh4, hu0, hu⟩
      obtain ⟨k, rfl⟩ := Int.eq_ofNat_of_zero_le hu0
      have hk : k < W := by omega
      dsimp! only [t5]
      refine Ok.mono (draw_ok rfl hh4 (by omega) (by omega)) ?_
      rintro _ _ ⟨e, h5, rfl, rfl, hh5, he0, he1⟩
      dsimp! only []
      refine ⟨size_le (by decide), ?_⟩
      refine Ok.mono (draw_ok rfl hh5 (by decide) (by decide)) ?_
      rintro _ _ ⟨v, h6, rfl, rfl, hh6, hv0, hv⟩
      obtain ⟨j, rfl⟩ := Int.eq_ofNat_of_zero_le hv0
      dsimp! only []
      refine os_at (by show j < 3; omega) fun t ht => ?_
      obtain ⟨x, rfl, hx⟩ : ∃ x : Int, t = .int x ∧ -2 ≤ x ∧ x < W := by
        simp only [List.mem_cons, List.not_mem_nil, or_false] at ht
        rcases ht with rfl | rfl | rfl
        · exact ⟨-1, rfl, by omega⟩
        · exact ⟨-2, rfl, by omega⟩
        · exact ⟨e, rfl, by omega⟩
      have e1 : (k : Int) + 1 = ((k + 1 : Nat) : Int) := by omega
      have hl : (tZ es).length = W := by rw [tZ_len]; exact he.1
      dsimp! only [t6, e1]
      rw [cut_to _ (by omega), cut_from _ (by omega)]
      have et : (tZ es).take k ++ [T.int x] ++ (tZ es).drop (k + 1) = tZ (es.take k ++ [x] ++ es.drop (k + 1)) := by
        unfold tZ
        rw [List.map_append, List.map_append, List.map_take, List.map_drop]
        rfl
      refine ⟨size_le (by decide), size_le (by rw [List.length_take]; omega), size_le (by rw [List.length_append, List.length_take, List.length_drop, List.length_singleton]; omega), ?_⟩
      rw [et]
      refine Ok.mono (right_ok (d := D) hW1 hW (bent_lead he hk hx)) ?_
      rintro _ _ ⟨rfl, rfl⟩
      dsimp! only []
      exact hQ _ ⟨h6, _, _, _, _, _, rfl, hh6, rfl, rfl, rfl, rfl, rfl⟩
    dsimp! only [] at fin
    dsimp! only [t4]
    refine Ok.mono (draw_ok rfl hh2 (by decide) (by decide)) ?_
    rintro _ _ ⟨v, h3, rfl, rfl, hh3, hv0, hv⟩
    dsimp! only []
    by_cases cv : v = 0
    · rw [if_pos cv]
      refine Ok.mono (even_ok (d := D + 2) rfl rfl hh3 hW (by decide)) ?_
      rintro _ _ ⟨fs, h4, rfl, rfl, hh4, hp⟩
      have hE : EvenZ W (fs.map fun n : Nat => (n : Int)) := hp.map _
      have eT : tI fs = tZ (fs.map fun n : Nat => (n : Int)) := by unfold tI tZ; rw [List.map_map]; rfl
      rw [eT]
      dsimp! only []
      exact fin hE.lead hh4 fun g hg => hg
    · rw [if_neg cv]
      dsimp! only []
      exact fin he0 hh3 fun g hg => hg
  · obtain ⟨h, s2, s3, s4, s5, s6, rfl, _⟩ := hI
    dsimp! only []
end
theorem holds : ∀ ns : List Int, ns.length ≤ 63 → ∃ g, callF P (glbOf cs) 100000 60 16 [.sh (.scr ns)] = .ok (false, .bl true) g := fun ns _ => by
  obtain ⟨a, g, e, rfl⟩ := Ok.get (law_ok (ns := ns) (D := 55) rfl)
  exact ⟨g, e⟩
end Law
open PySem PySem.W PySem.Calls PyProof.Rows
theorem PySem.Challenge.cw_bitlead_k05_even_ones_led_back_holds : PySem.Challenge.rw_bitlead_k05_even_ones_led_back.Holds := by
  w_on; o_law
  refine HandSHeadRun.head_any (r := OpenLaw.row PySem.Challenge.rw_bitlead_k05_even_ones_led_back) (q := view (OpenLaw.row PySem.Challenge.rw_bitlead_k05_even_ones_led_back).prog [25]) (H := Law.hk) (ob := Law.ob) (M := 3000) (loose := Law.loose) (d := HandSHeadRun.topDef (OpenLaw.row PySem.Challenge.rw_bitlead_k05_even_ones_led_back).prog 25) (kwd := []) Law.ob_eq
    (by kernel_rfl) (fun s => by kernel_rfl) Law.run (by kernel_rfl) (by kernel_rfl) (by kernel_rfl) (by rfl) (by first | assumption | decide +kernel) (by decide +kernel) ⟨rfl, rfl, rfl, rfl, rfl, by decide +kernel⟩ ?hw ?hc
  case hw => w_witness2
  case hc =>
    refine L2.walk_ofE (l := PySem.Challenge.rw_bitlead_k05_even_ones_led_back) (n := 63) (k := 60) (x := "_law_script") (CX := L2.CX0) rfl (by decide) (by kernel_rfl) ⟨rfl, by decide, by decide⟩ ?F (fun _ _ _ _ z => z)
    intro w mg fa h Y G hmg0
    obtain ⟨K, KX, c⟩ := Y
    have hmg : mg ("law" : PySem.Str) = some (.ref fa) := by
      have e : (HandSHeadRun.topDef (OpenLaw.row PySem.Challenge.rw_bitlead_k05_even_ones_led_back).prog 25).name = ("law" : PySem.Str) := by kernel_rfl
      rw [← e]
      exact hmg0
    obtain ⟨fd, hb, hF⟩ := MP.law_facts (P := Law.P) (cs := Law.cs) (D := Law.D) (wf := 100000) (d := 60) (i := 16) (fd := Law.f_law) (x := "_law_script") (prog := (PySem.Challenge.rw_bitlead_k05_even_ones_led_back).prog) (w := w) KX G hmg c Law.chk Law.cok rfl rfl rfl Law.holds
    exact ⟨K, fd, MP.spLaw K, KX, hb, fun H a ns hl _ hS => ⟨a, ns, rfl, hS, hl, fun _ => rfl⟩, hF⟩
