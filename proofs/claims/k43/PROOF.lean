import PyProof.Rows.All
import Wide.All
import OpenK.AllK
import Wide.FinOn
import HandS.ForMost
import HandS.SetFor
import HandS.Deep
import HandS.TupAny
import HandS.TupMul
import HandS.Wide
import KE.SortData
import HandS.Defaults
import HandS.IsInst
import HandS.Conv
import KE.KStateDown
import HandS.Ends
import HandS.More
import HandS.Words
import HandS.WordsExc
import HandS.Head0
import HandS.Head1
import HandS.Head2
import HandS.HeadEnd
import HandS.HeadHook1
import HandS.HeadHook2
import KE.KDictPairs
import HandS.WordsDict
import HandS.TupSets
import KE.KeyNested
import PySem.Challenge.RW_everytalk_k43_whole_rows_seen_by_each_ro
set_option linter.all false
set_option Elab.async false
set_option maxRecDepth 100000
set_option maxHeartbeats 4000000
/-! ET: sorted(set(xs)) of a list of ints. -/
namespace ET
open PySem PySem.Spec PyProof.Rows L2
/-- an empty set as it is laid -/
abbrev eSet (w : World) : Obj := { cls := .type "set", dict := none, data := .set #[] 0 (.fresh 0 0 (!w.params.followText "set-order")) }
section
variable {P : Program} {w : World} {A : Around} {E : Value → Shared → Prop} {s : Shared}
set_option maxHeartbeats 8000000 in
/-- set(l), l a list of ints: after the tuple's and the tuples' rule of HandS -/
theorem set_of_list {l : Addr} {items : Array Value} (ns : List Int) {Q : Value → Shared → Prop} (hh : A.handled = none) (hl : s.heap.IsList l items) (hit : IntsAre items.toList ns) (hb : ns.length + 1 < scanBound)
    (h : ∀ (h' : Heap) (tk c : Nat), SetR w h' s.heap.objs.size (fun j => decide (j ∈ ns)) c → c ≤ ns.length → (∀ b o, s.heap.get? b = some o → h'.get? b = some o) → Q (.ref s.heap.objs.size) { s with heap := h', toks := tk }) :
    wpAny (model P w) A (call (.type "set") [.ref l]) Q E s := by
  have hisz : items.size = ns.length := by
    have q := IntsAre.length hit
    rw [Array.length_toList] at q
    exact q
  obtain ⟨c, tl, hmro⟩ := F.called_set.mro
  have hmade := F.called_set.made
  have hsub := F.called_set.sub
  refine wpAny_call (codeAny_of_tree ?_)
  show wpAny _ _ (callAny (.type "set") _) _ _ _
  refine wpAny_pure ⟨Code.quiet_builtin _ (by decide +kernel), codeAny_builtin F.entry_type_call ?_⟩
  rw [Around.under_plain (weight_type_call_type "set" [.ref l] []) rfl]
  have h1 := F.called_set.notType
  have h2 := F.called_set.canCreate
  have hct := F.typeCall_set_1 (.ref l)
  repeat (any_goals (first | assumption | wp_step))
  refine codeAny_mono (code_set_led1 (.ref l) (E := E) (Q₁ := fun obj s₁ => obj = .ref s.heap.objs.size ∧ s₁ = { s with heap := s.heap.push (eSet w) }) ⟨rfl, rfl⟩) fun r s₁ hr => ?_
  cases r with
  | error e => exact hr
  | ok fl =>
    cases fl with
    | ret obj =>
      obtain ⟨rfl, rfl⟩ := hr
      have hS : (s.heap.push (eSet w)).get? s.heap.objs.size = some (eSet w) := Heap.get?_push_size _ rfl
      have hT : Shared.TypeIs { s with heap := s.heap.push (eSet w) } (.ref s.heap.objs.size) "set" := ⟨_, hS, rfl⟩
      have hli := F.called_set.init.lookup
      have hbi := F.called_set.init.bind (.ref s.heap.objs.size)
      repeat (any_goals (first | assumption | wp_step))
      refine codeAny_mono (codeAny_call_builtin (R := wants (fun r s₂ => r = .none ∧ ∃ h' tk c, s₂ = { s with heap := h', toks := tk } ∧ SetR w h' s.heap.objs.size (fun j => decide (j ∈ ns)) c ∧ c ≤ ns.length ∧
          (∀ b o, s.heap.get? b = some o → h'.get? b = some o)) E) F.called_set.init.plain F.entry_set_init (check_set_init_1 hT ?_)) fun r₂ s₂ hr₂ => ?_
      · obtain ⟨⟨ocls, odict, odata, oslots⟩, hol, hcl, nl, hdl⟩ := hl
        simp only at hcl hdl
        subst hcl; subst hdl
        have hol' : (s.heap.push (eSet w)).get? l = some { cls := .type "list", dict := odict, data := .seq items nl, slots := oslots } := Heap.get?_push_of_some _ hol
        have hsls := F.sub_list_set
        have hslf := F.sub_list_frozenset
        have hne : (Value.type "list" == Value.type "dict") = false := by decide
        have hl1 : (s.heap.push (eSet w)).IsList l items := ⟨_, hol', rfl, nl, rfl⟩
        unfold Builtin.«set.__init__» noKeywords Builtin.Frozenset.updateFrom
        generalize hPI : pyIter = PI
        wp_walk
        subst hPI
        refine wpAny_pyIter_list hl1 ?_
        refine wpAny_bind (wpAny_runValue ?_)
        have hlS : l < s.heap.objs.size := Heap.lt_size hol
        have hh3 : A.in1.in1.in1.handled = none := by simp [hh]
        have hneI : l ≠ (s.heap.push (eSet w)).objs.size := by
          rw [Heap.size_push]; exact Nat.ne_of_lt (Nat.lt_succ_of_lt hlS)
        have hSf : s.heap.objs.size ∉ [(s.heap.push (eSet w)).objs.size, l] := by
          rw [Heap.size_push]; simp only [List.mem_cons, List.mem_singleton, List.not_mem_nil, or_false, not_or]
          exact ⟨Nat.ne_of_lt (Nat.lt_succ_self _), Nat.ne_of_gt hlS⟩
        have hval : ∀ (i : Nat) (v : Value), items[i]? = some v → ∃ k t, ns[i]? = some k ∧ v = .int k t := fun i v hv => by
          have hi : i < ns.length := by rw [← hisz]; exact (Array.getElem?_eq_some_iff.mp hv).1
          obtain ⟨t, e⟩ := PyProof.Rows.IntsAre.int_at hit i v (by rw [Array.getElem?_toList]; exact hv)
          refine ⟨ns[i], t, List.getElem?_eq_getElem hi, ?_⟩
          rw [e, List.getD_eq_getElem?_getD, List.getElem?_eq_getElem hi] <;> rfl
        refine set_update_ints ((Walks.list hh3 _ l hneI items).toS) s.heap.objs.size hSf ns hisz hb hval (items.size - 0) 0 _ (by omega) (Nat.zero_le _)
          ⟨⟨_, Heap.get?_push_size _ rfl, rfl, rfl⟩, (hl1.push _)⟩ ⟨0, Nat.le_refl 0, setR_new_at (Heap.get?_push_of_some _ hS)⟩ ?_
        intro s' c' hm hc' hS'
        obtain ⟨h', g2, d', tk', os'⟩ := s'
        have eg : g2 = s.gens := hm.gens
        have ed : d' = s.drawn := hm.drawn
        have eo : os' = s.os := hm.os
        subst eg; subst ed; subst eo
        show wpAny _ _ _ _ _ _
        refine wpAny_pure ?_
        show wpAny _ _ (ret Value.none) _ _ _
        rw [hisz] at hc'
        refine wpAny_pure ⟨rfl, h', tk', c', rfl, hS', hc', fun b o e => ?_⟩
        have hb0 : b < s.heap.objs.size := Heap.lt_size e
        have hb2 : b ≠ (s.heap.push (eSet w)).objs.size := by
          rw [Heap.size_push]; exact Nat.ne_of_lt (Nat.lt_succ_of_lt hb0)
        exact hm.heap b o (by simp only [List.mem_cons, List.mem_singleton, List.not_mem_nil, or_false, not_or]; exact ⟨Nat.ne_of_lt hb0, hb2⟩) (Heap.get?_push_of_some _ (Heap.get?_push_of_some _ e))
      · cases r₂ with
        | error e => exact hr₂
        | ok fl₂ =>
          cases fl₂ with
          | ret r =>
            obtain ⟨rfl, h', tk, c', rfl, hS', hc', hk'⟩ := hr₂
            repeat (any_goals (first | assumption | wp_step))
            exact h _ _ _ hS' hc' hk'
          | _ => exact hr₂.elim
    | _ => exact hr.elim
end
end ET
set_option Elab.async false
set_option maxRecDepth 100000
set_option maxHeartbeats 4000000
/-! ET: new tuples, taken as tuples or (by who wants) as known objects without a dict. -/
namespace ET
open PySem PySem.Spec PyProof.Rows L2 HT

/-- a new tuple: what is wanted of it, at one's choice -/
def mkT (H : Hp) (vs : List V) (Q : VK) : Prop := ∀ (p : Addr) (o : Obj), H p = none → o.dict = none → Q (.ref p) (upd H p (.tup vs)) ∨ Q (.ref p) (upd H p (.frz o (.tup vs)))
section
variable {X : Cx} {pins : List (Addr × Obj)} {σ : L2.St} {H : Hp} {s : Shared} {Q : VK} {vs : List V} {us : List Value}
theorem laid_tup (J : Inv X pins σ H s) (r : Vals vs us) (z : vs.length ≤ sizeLine) (m : mkT H vs Q) :
    EP X pins σ Q (.ref s.heap.objs.size) { s with heap := s.heap.push { cls := .type "tuple", data := .seq us.toArray } } := by
  have f : H s.heap.objs.size = none := J.hok.fresh (Nat.le_refl _)
  have g : (s.heap.push { cls := .type "tuple", data := .seq us.toArray }).get? s.heap.objs.size = some { cls := .type "tuple", data := .seq us.toArray } := Heap.get?_push_size _ rfl
  rcases m s.heap.objs.size { cls := .type "tuple", data := .seq us.toArray } f rfl with q | q
  · exact ⟨.ref s.heap.objs.size, _, J.laid (t' := s.toks) (o := .tup vs) (fun _ _ w => Heap.get?_push_of_some _ w) (Nat.le_refl _) ⟨z, us, r, _, g, rfl, _, rfl⟩, rfl, q⟩
  · exact ⟨.ref s.heap.objs.size, _, J.laid (t' := s.toks) (o := .frz _ (.tup vs)) (fun _ _ w => Heap.get?_push_of_some _ w) (Nat.le_refl _) ⟨g, z, us, r, _, g, rfl, _, rfl⟩, rfl, q⟩
end
/-! ### a written tuple -/
def tTupM (t : TA) : TE := fun σ H Q => t σ H fun vs H1 => vs.length ≤ sizeLine ∧ mkT H1 vs Q
theorem pe_tupM {X : Cx} {es : List Expr} {t : TA} {x1 pos} (h : PA X es t) : PE X (.Tuple es x1 pos) (tTupM t) := by
  refine ⟨fun pins s σ H Q J w => ?_⟩
  have a := h.run pos pins s σ H _ J w
  refine wpAny_Tuple_spliced (thn a fun us s1 ⟨vs, H1, J1, r, z, m⟩ => ⟨?_, laid_tup J1 r z m⟩)
  rw [← r.length]
  exact z
/-! ### t + u -/
def rCatM (K : PySem.W.Frag) : R2 := fun x y H Q => ∃ a b vs ws, x = .ref a ∧ y = .ref b ∧ SqT K H a vs ∧ SqT K H b ws ∧ vs.length + ws.length ≤ sizeLine ∧
  (vs = [] → Q (.ref b) H) ∧ (vs ≠ [] → ws = [] → Q (.ref a) H) ∧ (vs ≠ [] → ws ≠ [] → mkT H (vs ++ ws) Q)
theorem op_catM {X : Cx} : OpR X (binaryOp .Add) (rCatM X.K) := by
  intro pins s σ H x y v u Q J rx ry h
  obtain ⟨a, b, vs, ws, rfl, rfl, ha, hb, z, q0, q1, q2⟩ := h
  cases rx
  cases ry
  obtain ⟨us, r1, p1, z1⟩ := J.tuple ha
  obtain ⟨us2, r2, p2, z2⟩ := J.tuple hb
  by_cases e : vs = []
  · subst e
    cases r1
    exact cat_tup0 p1 p2 ⟨.ref b, H, J, rfl, q0 rfl⟩
  · have l1 := r1.length
    have l2 := r2.length
    refine HT.cat_tup p1 p2 (fun n => e (r1.nil_iff.mp n)) (fun n => ⟨.ref a, H, J, rfl, q1 e (r2.nil_iff.mp n)⟩) (fun n => ?_) (by omega)
    exact laid_tup J (r1.append r2) (by rw [List.length_append]; exact z) (q2 e fun n' => n (r2.nil_iff.mpr n'))
/-! ### t[lo:hi] -/
def rSlM (K : PySem.W.Frag) : V → Option Int → Option Int → Hp → VK → Prop := fun x lo hi H Q => ∃ a vs, x = .ref a ∧ SqT K H a vs ∧
  (HT.sIx vs.length 0 lo = 0 ∧ HT.sIx vs.length vs.length hi = vs.length → Q (.ref a) H) ∧ (¬ (HT.sIx vs.length 0 lo = 0 ∧ HT.sIx vs.length vs.length hi = vs.length) → mkT H (cutV vs lo hi) Q)
theorem sl_tupM {X : Cx} : SlR X (rSlM X.K) := by
  intro pins s σ H x v vl vu lo hi sl Q J rx hs pl pu h
  obtain ⟨a, vs, rfl, hv, q1, q2⟩ := h
  cases rx
  obtain ⟨us, r, p, z⟩ := J.tuple hv
  have l : us.toArray.size = vs.length := by rw [List.size_toArray]; exact r.length.symm
  refine ⟨"tuple", _, PyProof.Rows.slot_tuple_getitem.lookup, p.typeIs, ?_⟩
  by_cases w : HT.sIx vs.length 0 lo = 0 ∧ HT.sIx vs.length vs.length hi = vs.length
  · exact getItem_tuple_whole p hs pl pu (by rw [l]; exact w) ⟨.ref a, H, J, rfl, q1 w⟩
  · refine HT.getItem_tuple_cut p hs pl pu (by rw [l]; exact w) ?_ (by rw [l]; exact z)
    rw [l]
    exact laid_tup J ((r.drop _).take _) (Nat.le_trans (cutV_length vs lo hi) z) (q2 w)
/-! ### tuple(x) -/
theorem call_tupM {X : Cx} : CallR X (.type "tuple") (fun xs H Q => ∃ p ys, xs = [.ref p] ∧ ((SqL X.K H p ys ∧ mkT H ys Q) ∨ (SqT X.K H p ys ∧ Q (.ref p) H))) := by
  intro pins s σ H xs us Q J r h
  obtain ⟨p, ys, rfl, h⟩ := h
  obtain ⟨u, rfl, rx⟩ := vals1 r
  cases rx
  rcases h with ⟨hq, q⟩ | ⟨hq, q⟩
  · obtain ⟨its, r', pl, z⟩ := J.list hq
    have l := r'.length
    refine call_tuple_list pl.isList (fun h' kp => ?_) (by simp only [List.size_toArray]; omega)
    exact laid_tup (J.kept (t' := s.toks) kp) r' z q
  · obtain ⟨its, r', pl, z⟩ := J.tuple hq
    exact call_tuple_same pl ⟨.ref p, H, J, rfl, q⟩
end ET
set_option Elab.async false
set_option maxRecDepth 100000
/-! ET: own layer. Data by value; a def's body as an Option-valued function of its names; sound over HandS. -/
namespace ET
open PySem L2

/-! ### data -/
/-- the written texts that stand in data -/
inductive Tag where
  | «end» | say | loop | again | beside | send | hear | unheard | left | stuck | ends | ways | sends | hears | form | letters | self | around | order | state | twice | apart | free | bare | shared | lost | doubled
  deriving DecidableEq
def Tag.t : Tag → String
  | .«end» => "end" | .say => "say" | .loop => "loop" | .again => "again" | .beside => "beside" | .send => "send" | .hear => "hear"
  | .unheard => "unheard" | .left => "left" | .stuck => "stuck" | .ends => "ends" | .ways => "ways" | .sends => "sends" | .hears => "hears"
  | .form => "form" | .letters => "letters" | .self => "self" | .around => "around" | .order => "order" | .state => "state" | .twice => "twice"
  | .apart => "apart" | .free => "free" | .bare => "bare" | .shared => "shared" | .lost => "lost" | .doubled => "doubled"
def Tag.s (t : Tag) : Str := Str.ofString t.t

inductive D where
  | non
  | bl (b : Bool)
  | int (i : Int)
  | str (t : Tag)
  | tup (xs : List D)
  | lst (xs : List D)
  /-- a list that is read alone (the script) -/
  | scr (xs : List D)

/-- what is changed in place, held by one name alone -/
inductive Own where
  | lst (ds : List D)
  | dk (kvs : List (Int × D))
  | dt (kvs : List (List Int × D))
  | ins (c : Str) (fs : List (Str × D))
inductive Sl where
  | val (d : D)
  | own (o : Own) (io : Bool)
abbrev Env := List (Option Sl)

/-! ### how data lie in the abstract heap -/
/-- what may stand in the written part -/
def cst : List D → Bool
  | .str _ :: _ => true
  | _ => false
/-- branches: their tuple is known not to have a dict (dict(..) of it asks for that) -/
def brs : List D → Bool
  | .tup [_, .tup _] :: _ => true
  | _ => false
def TpAt (K : PySem.W.Frag) (F : Hp) (a : Addr) (vs : List V) (ds : List D) : Prop := (brs ds = false ∧ F a = some (.tup vs)) ∨ (brs ds = true ∧ ∃ o : Obj, o.dict = none ∧ F a = some (.frz o (.tup vs))) ∨ (cst ds = true ∧ SqT K F a vs)
section
variable (K : PySem.W.Frag)
mutual
def Rp (F : Hp) (v : V) : D → Prop
  | .non => v = .non
  | .bl b => v = .bl b
  | .int i => v = .int i
  | .str t => v = .str t.s
  | .tup ds => ∃ a vs, v = .ref a ∧ TpAt K F a vs ds ∧ RpAll F vs ds
  | .lst ds => ∃ a vs, v = .ref a ∧ F a = some (.lst vs) ∧ RpAll F vs ds
  | .scr ds => ∃ a vs, v = .ref a ∧ SqL K F a vs ∧ RpAll F vs ds
def RpAll (F : Hp) (vs : List V) : List D → Prop
  | [] => vs = []
  | d :: ds => ∃ v ws, vs = v :: ws ∧ Rp F v d ∧ RpAll F ws ds
end
end
section
variable {K : PySem.W.Frag} {F F' H H' : Hp}
theorem SqT.mono (h : Same F F') {a : Addr} {vs : List V} (s : SqT K F a vs) : SqT K F' a vs := by
  rcases s with (s | ⟨o, s⟩) | s
  · exact .inl (.inl (h _ _ s))
  · exact .inl (.inr ⟨o, h _ _ s⟩)
  · exact .inr s
theorem SqL.mono (h : Same F F') {a : Addr} {vs : List V} (s : SqL K F a vs) : SqL K F' a vs := by
  rcases s with (s | ⟨o, s⟩) | s
  · exact .inl (.inl (h _ _ s))
  · exact .inl (.inr ⟨o, h _ _ s⟩)
  · exact .inr s
theorem TpAt.mono (h : Same F F') {a : Addr} {vs : List V} {ds : List D} (s : TpAt K F a vs ds) : TpAt K F' a vs ds := by
  rcases s with ⟨c, s⟩ | ⟨c, o, n, s⟩ | ⟨c, s⟩
  · exact .inl ⟨c, h _ _ s⟩
  · exact .inr (.inl ⟨c, o, n, h _ _ s⟩)
  · exact .inr (.inr ⟨c, SqT.mono h s⟩)
theorem TpAt.sq {a : Addr} {vs : List V} {ds : List D} (s : TpAt K F a vs ds) : SqT K F a vs := by
  rcases s with ⟨_, s⟩ | ⟨_, o, _, s⟩ | ⟨_, s⟩
  · exact SqT.of s
  · exact .inl (.inr ⟨o, s⟩)
  · exact s
mutual
theorem Rp.mono (h : Same F F') : ∀ (d : D) (v : V), Rp K F v d → Rp K F' v d
  | .non, _, r => r
  | .bl _, _, r => r
  | .int _, _, r => r
  | .str _, _, r => r
  | .tup ds, v, r => by
    unfold Rp at r ⊢
    obtain ⟨a, vs, e, s, q⟩ := r
    exact ⟨a, vs, e, TpAt.mono h s, RpAll.mono h ds vs q⟩
  | .lst ds, v, r => by
    unfold Rp at r ⊢
    obtain ⟨a, vs, e, s, q⟩ := r
    exact ⟨a, vs, e, h _ _ s, RpAll.mono h ds vs q⟩
  | .scr ds, v, r => by
    unfold Rp at r ⊢
    obtain ⟨a, vs, e, s, q⟩ := r
    exact ⟨a, vs, e, SqL.mono h s, RpAll.mono h ds vs q⟩
theorem RpAll.mono (h : Same F F') : ∀ (ds : List D) (vs : List V), RpAll K F vs ds → RpAll K F' vs ds
  | [], _, r => r
  | d :: ds, vs, r => by
    unfold RpAll at r ⊢
    obtain ⟨v, ws, e, r1, r2⟩ := r
    exact ⟨v, ws, e, Rp.mono h d v r1, RpAll.mono h ds ws r2⟩
end
theorem RpAll.length : ∀ {ds : List D} {vs : List V}, RpAll K F vs ds → vs.length = ds.length
  | [], vs, r => by unfold RpAll at r; rw [r]; rfl
  | d :: ds, vs, r => by
    unfold RpAll at r
    obtain ⟨v, ws, e, _, r2⟩ := r
    rw [e, List.length_cons, List.length_cons, RpAll.length r2]
theorem RpAll.nil : RpAll K F [] [] := by unfold RpAll; rfl
theorem RpAll.cons {v : V} {vs : List V} {d : D} {ds : List D} (h : Rp K F v d) (t : RpAll K F vs ds) : RpAll K F (v :: vs) (d :: ds) := by
  unfold RpAll; exact ⟨v, vs, rfl, h, t⟩
theorem RpAll.get : ∀ {ds : List D} {vs : List V} {i : Nat} {d : D}, RpAll K F vs ds → ds[i]? = some d → ∃ v, vs[i]? = some v ∧ Rp K F v d
  | [], _, _, _, _, e => by simp at e
  | d :: ds, vs, 0, x, r, e => by
    unfold RpAll at r
    obtain ⟨v, ws, rfl, r1, _⟩ := r
    simp at e; subst e
    exact ⟨v, rfl, r1⟩
  | d :: ds, vs, i + 1, x, r, e => by
    unfold RpAll at r
    obtain ⟨v, ws, rfl, _, r2⟩ := r
    simpa using RpAll.get (i := i) r2 (by simpa using e)
theorem RpAll.get' : ∀ {ds : List D} {vs : List V} {i : Nat} {v : V}, RpAll K F vs ds → vs[i]? = some v → ∃ d, ds[i]? = some d ∧ Rp K F v d
  | [], vs, _, _, r, e => by unfold RpAll at r; subst r; simp at e
  | d :: ds, vs, 0, x, r, e => by
    unfold RpAll at r
    obtain ⟨v, ws, rfl, r1, _⟩ := r
    simp at e; subst e
    exact ⟨d, rfl, r1⟩
  | d :: ds, vs, i + 1, x, r, e => by
    unfold RpAll at r
    obtain ⟨v, ws, rfl, _, r2⟩ := r
    simpa using RpAll.get' (i := i) r2 (by simpa using e)
theorem RpAll.append : ∀ {ds es : List D} {vs ws : List V}, RpAll K F vs ds → RpAll K F ws es → RpAll K F (vs ++ ws) (ds ++ es)
  | [], _, vs, _, r, q => by unfold RpAll at r; subst r; exact q
  | d :: ds, es, vs, ws, r, q => by
    unfold RpAll at r
    obtain ⟨v, us, rfl, r1, r2⟩ := r
    exact RpAll.cons r1 (RpAll.append r2 q)
theorem RpAll.take : ∀ {ds : List D} {vs : List V} (n : Nat), RpAll K F vs ds → RpAll K F (vs.take n) (ds.take n)
  | ds, vs, 0, _ => by simpa using RpAll.nil
  | [], vs, n + 1, r => by unfold RpAll at r; subst r; simpa using RpAll.nil
  | d :: ds, vs, n + 1, r => by
    unfold RpAll at r
    obtain ⟨v, us, rfl, r1, r2⟩ := r
    exact RpAll.cons r1 (RpAll.take n r2)
theorem RpAll.drop : ∀ {ds : List D} {vs : List V} (n : Nat), RpAll K F vs ds → RpAll K F (vs.drop n) (ds.drop n)
  | ds, vs, 0, r => r
  | [], vs, n + 1, r => by unfold RpAll at r; subst r; simpa using RpAll.nil
  | d :: ds, vs, n + 1, r => by
    unfold RpAll at r
    obtain ⟨v, us, rfl, r1, r2⟩ := r
    exact RpAll.drop n r2
theorem RpAll.set : ∀ {ds : List D} {vs : List V} (i : Nat) {v : V} {d : D}, RpAll K F vs ds → Rp K F v d → RpAll K F (vs.set i v) (ds.set i d)
  | [], vs, i, _, _, r, _ => by unfold RpAll at r; subst r; simpa using RpAll.nil
  | d :: ds, vs, 0, _, _, r, q => by
    unfold RpAll at r
    obtain ⟨v, us, rfl, r1, r2⟩ := r
    exact RpAll.cons q r2
  | d :: ds, vs, i + 1, _, _, r, q => by
    unfold RpAll at r
    obtain ⟨v, us, rfl, r1, r2⟩ := r
    exact RpAll.cons r1 (RpAll.set i r2 q)
theorem RpAll.eraseIdx : ∀ {ds : List D} {vs : List V} (i : Nat), RpAll K F vs ds → RpAll K F (vs.eraseIdx i) (ds.eraseIdx i)
  | [], vs, i, r => by unfold RpAll at r; subst r; simpa using RpAll.nil
  | d :: ds, vs, 0, r => by
    unfold RpAll at r
    obtain ⟨v, us, rfl, r1, r2⟩ := r
    simpa using r2
  | d :: ds, vs, i + 1, r => by
    unfold RpAll at r
    obtain ⟨v, us, rfl, r1, r2⟩ := r
    exact RpAll.cons r1 (RpAll.eraseIdx i r2)
theorem RpAll.of_get : ∀ {ds : List D} {vs : List V}, vs.length = ds.length → (∀ (i : Nat) (v : V) (d : D), vs[i]? = some v → ds[i]? = some d → Rp K F v d) → RpAll K F vs ds
  | [], vs, h, _ => by rw [List.length_nil] at h; rw [List.eq_nil_of_length_eq_zero h]; exact RpAll.nil
  | d :: ds, [], h, _ => by simp at h
  | d :: ds, v :: vs, h, f => RpAll.cons (f 0 v d rfl rfl) (RpAll.of_get (by simpa using h) fun i w e h1 h2 => f (i + 1) w e (by simpa using h1) (by simpa using h2))
theorem RpAll.ints : ∀ {ns : List Int} {vs : List V}, RpAll K F vs (ns.map D.int) → vs = ns.map V.int
  | [], vs, r => by unfold RpAll at r; exact r
  | n :: ns, vs, r => by
    rw [List.map_cons] at r
    unfold RpAll at r
    obtain ⟨v, ws, rfl, r1, r2⟩ := r
    unfold Rp at r1
    rw [r1, RpAll.ints r2]
    rfl
theorem RpAll.of_ints : ∀ (ns : List Int), RpAll K F (ns.map V.int) (ns.map D.int)
  | [] => RpAll.nil
  | n :: ns => RpAll.cons (by unfold Rp; rfl) (RpAll.of_ints ns)
theorem RpAll.bls : ∀ {ns : List Bool} {vs : List V}, RpAll K F vs (ns.map D.bl) → vs = ns.map V.bl
  | [], vs, r => by unfold RpAll at r; exact r
  | n :: ns, vs, r => by
    rw [List.map_cons] at r
    unfold RpAll at r
    obtain ⟨v, ws, rfl, r1, r2⟩ := r
    unfold Rp at r1
    rw [r1, RpAll.bls r2]
    rfl
end

/-! ### data as the library's data -/
mutual
def D.py : D → PyData
  | .non => .none
  | .bl b => .bool b
  | .int i => .int i
  | .str t => .str t.s
  | .tup xs => .tuple (D.pys xs)
  | .lst xs => .list (D.pys xs)
  | .scr xs => .list (D.pys xs)
def D.pys : List D → List PyData
  | [] => []
  | d :: ds => d.py :: D.pys ds
end
theorem D.pys_eq : ∀ ds : List D, D.pys ds = ds.map D.py
  | [] => rfl
  | d :: ds => by rw [D.pys, D.pys_eq ds]; rfl
theorem Tag.ok : ∀ t : Tag, PyData.strOk t.s = true := by intro t; cases t <;> decide +kernel
mutual
theorem D.lay : ∀ d : D, d.py.canLay0 = true
  | .non => rfl
  | .bl _ => rfl
  | .int _ => rfl
  | .str t => by simp only [D.py, PyData.canLay0]; exact t.ok
  | .tup xs => by simp only [D.py, PyData.canLay0]; exact D.lays xs
  | .lst xs => by simp only [D.py, PyData.canLay0]; exact D.lays xs
  | .scr xs => by simp only [D.py, PyData.canLay0]; exact D.lays xs
theorem D.lays : ∀ ds : List D, PyData.canLayAll0 (D.pys ds) = true
  | [] => rfl
  | d :: ds => by simp only [D.pys, PyData.canLayAll0, D.lay d, D.lays ds, Bool.and_self]
end
mutual
theorem Rp.dp {K : PySem.W.Frag} {F : Hp} : ∀ (d : D) (v : V), Rp K F v d → Dp K F v d.py
  | .non, _, r => by unfold Rp at r; subst r; exact .non
  | .bl b, _, r => by unfold Rp at r; subst r; exact .bl b
  | .int i, _, r => by unfold Rp at r; subst r; exact .int i
  | .str t, _, r => by unfold Rp at r; subst r; exact .str _
  | .tup ds, _, r => by
    unfold Rp at r
    obtain ⟨a, vs, rfl, s, q⟩ := r
    exact .tup s.sq (RpAll.dp ds vs q)
  | .lst ds, _, r => by
    unfold Rp at r
    obtain ⟨a, vs, rfl, s, q⟩ := r
    exact .lst (SqL.of s) (RpAll.dp ds vs q)
  | .scr ds, _, r => by
    unfold Rp at r
    obtain ⟨a, vs, rfl, s, q⟩ := r
    exact .lst s (RpAll.dp ds vs q)
theorem RpAll.dp {K : PySem.W.Frag} {F : Hp} : ∀ (ds : List D) (vs : List V), RpAll K F vs ds → DpAll K F vs (D.pys ds)
  | [], vs, r => by unfold RpAll at r; subst r; exact .nil
  | d :: ds, vs, r => by
    unfold RpAll at r
    obtain ⟨v, ws, rfl, r1, r2⟩ := r
    exact .cons (Rp.dp d v r1) (RpAll.dp ds ws r2)
end
end ET
set_option Elab.async false
set_option maxRecDepth 100000
/-! ET: the state by names (Sim), what a step may change (Step), expressions. -/
namespace ET
open PySem L2

/-- the program's context: the written part, the classes by name -/
structure Md where
  K : PySem.W.Frag
  cls : Str → Addr

def KVg {κ κ' : Type} (f : κ → κ') (K : PySem.W.Frag) (F : Hp) : List (κ' × V) → List (κ × D) → Prop
  | [], [] => True
  | (k, v) :: ws, (i, d) :: ds => k = f i ∧ Rp K F v d ∧ KVg f K F ws ds
  | _, _ => False
abbrev KVi (K : PySem.W.Frag) (F : Hp) : List (Key × V) → List (Int × D) → Prop := KVg Sum.inl K F
abbrev KVt (K : PySem.W.Frag) (F : Hp) : List (List Key × V) → List (List Int × D) → Prop := KVg (List.map Sum.inl) K F
def KVf (K : PySem.W.Frag) (F : Hp) : List (Str × V) → List (Str × D) → Prop
  | [], [] => True
  | (k, v) :: ws, (i, d) :: ds => k = i ∧ Rp K F v d ∧ KVf K F ws ds
  | _, _ => False
section
variable {K : PySem.W.Frag} {F F' : Hp}
theorem KVg.mono {κ κ' : Type} {f : κ → κ'} (h : Same F F') : ∀ {ws : List (κ' × V)} {ds : List (κ × D)}, KVg f K F ws ds → KVg f K F' ws ds
  | [], [], _ => trivial
  | (k, v) :: ws, (i, d) :: ds, r => ⟨r.1, Rp.mono h _ _ r.2.1, KVg.mono h r.2.2⟩
  | [], _ :: _, r => r.elim
  | _ :: _, [], r => r.elim
theorem KVf.mono (h : Same F F') : ∀ {ws : List (Str × V)} {ds : List (Str × D)}, KVf K F ws ds → KVf K F' ws ds
  | [], [], _ => trivial
  | (k, v) :: ws, (i, d) :: ds, r => ⟨r.1, Rp.mono h _ _ r.2.1, KVf.mono h r.2.2⟩
  | [], _ :: _, r => r.elim
  | _ :: _, [], r => r.elim
end

/-- what is owned stands at a -/
def OwnAt (M : Md) (F H : Hp) (a : Addr) : Own → Prop
  | .lst ds => ∃ vs, H a = some (.lst vs) ∧ RpAll M.K F vs ds
  | .dk kvs => ∃ ws, H a = some (.dK ws) ∧ KVi M.K F ws kvs
  | .dt kvs => ∃ ws, H a = some (.dT ws) ∧ KVt M.K F ws kvs
  | .ins c fs => ∃ dx ws, H a = some (.ins (M.cls c) dx ws) ∧ KVf M.K F ws fs
theorem OwnAt.mono {M : Md} {F F' H H' : Hp} {a : Addr} {o : Own} (h : Same F F') (e : ∀ u, H a = some u → H' a = some u) (x : OwnAt M F H a o) : OwnAt M F' H' a o := by
  cases o with
  | lst ds => obtain ⟨vs, q, r⟩ := x; exact ⟨vs, e _ q, RpAll.mono h _ _ r⟩
  | dk kvs => obtain ⟨vs, q, r⟩ := x; exact ⟨vs, e _ q, KVg.mono h r⟩
  | dt kvs => obtain ⟨vs, q, r⟩ := x; exact ⟨vs, e _ q, KVg.mono h r⟩
  | ins c fs => obtain ⟨dx, vs, q, r⟩ := x; exact ⟨dx, vs, e _ q, KVf.mono h r⟩
theorem OwnAt.some {M : Md} {F H : Hp} {a : Addr} {o : Own} (x : OwnAt M F H a o) : ∃ u, H a = some u := by
  cases o with
  | lst ds => obtain ⟨vs, q, r⟩ := x; exact ⟨_, q⟩
  | dk kvs => obtain ⟨vs, q, r⟩ := x; exact ⟨_, q⟩
  | dt kvs => obtain ⟨vs, q, r⟩ := x; exact ⟨_, q⟩
  | ins c fs => obtain ⟨dx, vs, q, r⟩ := x; exact ⟨_, q⟩

theorem notTup {M : Md} {F H : Hp} {a : Addr} {o : Own} {xs : List V} (x : OwnAt M F H a o) (h : H a = some (.tup xs)) : False := by
  cases o with
  | lst ds => obtain ⟨vs, q, r⟩ := x; rw [h] at q; cases q
  | dk kvs => obtain ⟨vs, q, r⟩ := x; rw [h] at q; cases q
  | dt kvs => obtain ⟨vs, q, r⟩ := x; rw [h] at q; cases q
  | ins c fs => obtain ⟨dx, vs, q, r⟩ := x; rw [h] at q; cases q
/-- slot i owns o -/
def Has (ρ : Env) (i : Nat) (o : Own) (io : Bool) : Prop := ρ[i]? = some (some (.own o io))
/-- b is an owned cell -/
def OwnC (ρ : Env) (σ : St) (b : Addr) : Prop := ∃ i o io, Has ρ i o io ∧ σ[i]? = some (some (.ref b))
/-- .. not handed in -/
def OwnN (ρ : Env) (σ : St) (b : Addr) : Prop := ∃ i o, Has ρ i o false ∧ σ[i]? = some (some (.ref b))
theorem OwnN.c {ρ : Env} {σ : St} {b : Addr} (h : OwnN ρ σ b) : OwnC ρ σ b := let ⟨i, o, h1, h2⟩ := h; ⟨i, o, false, h1, h2⟩

structure Sim (M : Md) (ρ : Env) (F : Hp) (σ : St) (H : Hp) : Prop where
  len : ρ.length = σ.length
  sub : Same F H
  val : ∀ (i : Nat) (d : D), ρ[i]? = some (some (Sl.val d)) → ∃ v : V, σ[i]? = some (some v) ∧ Rp M.K F v d
  own : ∀ (i : Nat) (o : Own) (io : Bool), Has ρ i o io → ∃ a : Addr, σ[i]? = some (some (.ref a)) ∧ OwnAt M F H a o ∧ F a = none
  sep : ∀ (i j : Nat) (o o' : Own) (io io' : Bool) (a : Addr), Has ρ i o io → Has ρ j o' io' → σ[i]? = some (some (.ref a)) → σ[j]? = some (some (.ref a)) → i = j

structure Step (ρ : Env) (σ : St) (F H : Hp) (ρ' : Env) (σ' : St) (F' H' : Hp) : Prop where
  fr : Same F F'
  new : ∀ b o, F' b = some o → F b = some o ∨ H b = none ∨ OwnN ρ σ b ∨ ∃ xs, o = .tup xs
  keep : ∀ b o, H b = some o → ¬ OwnC ρ σ b → H' b = some o
  there : ∀ b o, H b = some o → ∃ o', H' b = some o'
  ownC : ∀ b, OwnC ρ' σ' b → OwnC ρ σ b ∨ H b = none
  ownN : ∀ b, OwnN ρ' σ' b → OwnN ρ σ b ∨ H b = none
  io : ∀ i o, Has ρ i o true → σ'[i]? = σ[i]? ∧ ∃ o', Has ρ' i o' true
  io' : ∀ i o, Has ρ' i o true → ∃ o', Has ρ i o' true
section
variable {M : Md} {ρ ρ1 ρ2 : Env} {σ σ1 σ2 : St} {F F1 F2 H H1 H2 : Hp}
theorem Step.refl : Step ρ σ F H ρ σ F H :=
  ⟨Same.refl _, fun _ _ h => .inl h, fun _ _ h _ => h, fun _ _ h => ⟨_, h⟩, fun _ h => .inl h, fun _ h => .inl h, fun _ o h => ⟨rfl, o, h⟩, fun _ o h => ⟨o, h⟩⟩
theorem Step.trans (a : Step ρ σ F H ρ1 σ1 F1 H1) (b : Step ρ1 σ1 F1 H1 ρ2 σ2 F2 H2) : Step ρ σ F H ρ2 σ2 F2 H2 := by
  have back : ∀ c, H1 c = none → H c = none := fun c h => by
    cases e : H c with
    | none => rfl
    | some o =>
      obtain ⟨o', q⟩ := a.there c o e
      rw [h] at q; cases q
  refine ⟨a.fr.trans b.fr, fun c o h => ?_, fun c o h n => ?_, fun c o h => ?_, fun c h => ?_, fun c h => ?_, fun i o h => ?_, fun i o h => ?_⟩
  · rcases b.new c o h with h | h | h | h
    · exact a.new c o h
    · exact .inr (.inl (back c h))
    · rcases a.ownN c h with h | h
      · exact .inr (.inr (.inl h))
      · exact .inr (.inl h)
    · exact .inr (.inr (.inr h))
  · refine b.keep c o (a.keep c o h n) fun q => ?_
    rcases a.ownC c q with q | q
    · exact n q
    · rw [h] at q; cases q
  · obtain ⟨o', q⟩ := a.there c o h
    exact b.there c o' q
  · rcases b.ownC c h with h | h
    · exact a.ownC c h
    · exact .inr (back c h)
  · rcases b.ownN c h with h | h
    · exact a.ownN c h
    · exact .inr (back c h)
  · obtain ⟨e1, o1, h1⟩ := a.io i o h
    obtain ⟨e2, o2, h2⟩ := b.io i o1 h1
    exact ⟨e2.trans e1, o2, h2⟩
  · obtain ⟨o1, h1⟩ := b.io' i o h
    exact a.io' i o1 h1
/-- new objects alone -/
structure New (F H F' H' : Hp) : Prop where
  fr : Same F F'
  hp : Same H H'
  new : ∀ b o, F' b = some o → F b = some o ∨ H b = none
  sub : Same F' H'
theorem New.refl (h : Same F H) : New F H F H := ⟨Same.refl _, Same.refl _, fun _ _ h => .inl h, h⟩
theorem New.trans (a : New F H F1 H1) (b : New F1 H1 F2 H2) : New F H F2 H2 := by
  refine ⟨a.fr.trans b.fr, a.hp.trans b.hp, fun c o h => ?_, b.sub⟩
  rcases b.new c o h with h | h
  · exact a.new c o h
  · refine .inr ?_
    cases e : H c with
    | none => rfl
    | some o => rw [a.hp c o e] at h; cases h
theorem Sim.ownF (S : Sim M ρ F σ H) {b : Addr} (h : OwnC ρ σ b) : F b = none ∧ ∃ u, H b = some u := by
  obtain ⟨i, o, io, h1, h2⟩ := h
  obtain ⟨a, e, q, f⟩ := S.own i o io h1
  rw [h2] at e
  cases e
  exact ⟨f, q.some⟩
theorem Sim.new (S : Sim M ρ F σ H) (n : New F H F1 H1) : Sim M ρ F1 σ H1 ∧ Step ρ σ F H ρ σ F1 H1 := by
  refine ⟨⟨S.len, n.sub, fun i d h => ?_, fun i o io h => ?_, S.sep⟩, n.fr, fun b o h => (n.new b o h).imp id .inl, fun b o h _ => n.hp b o h, fun b o h => ⟨o, n.hp b o h⟩, fun _ h => .inl h, fun _ h => .inl h, fun _ o h => ⟨rfl, o, h⟩, fun _ o h => ⟨o, h⟩⟩
  · obtain ⟨v, e, r⟩ := S.val i d h
    exact ⟨v, e, Rp.mono n.fr _ _ r⟩
  · obtain ⟨a, e, q, f⟩ := S.own i o io h
    refine ⟨a, e, q.mono n.fr fun u z => n.hp a u z, ?_⟩
    cases z : F1 a with
    | none => rfl
    | some u =>
      rcases n.new a u z with y | y
      · rw [f] at y; cases y
      · obtain ⟨w, hw⟩ := q.some
        rw [y] at hw; cases hw
/-- a new frozen tuple or list -/
theorem New.tup (h : Same F H) {p : Addr} (hp : H p = none) (o : HO) : New F H (upd F p o) (upd H p o) := by
  have fp : F p = none := h.free hp
  refine ⟨fun b u q => ?_, fun b u q => ?_, fun b u q => ?_, fun b u q => ?_⟩
  · rw [upd_ne (ne_of_none q fp)]; exact q
  · rw [upd_ne (ne_of_none q hp)]; exact q
  · by_cases e : b = p
    · exact .inr (e ▸ hp)
    · rw [upd_ne e] at q; exact .inl q
  · by_cases e : b = p
    · subst e; rw [upd_same] at q ⊢; exact q
    · rw [upd_ne e] at q ⊢; exact h _ _ q
/-- a new object that is not frozen -/
theorem New.obj (h : Same F H) {p : Addr} (hp : H p = none) (o : HO) : New F H F (upd H p o) := by
  refine ⟨Same.refl _, fun b u q => ?_, fun b u q => .inl q, fun b u q => ?_⟩
  · rw [upd_ne (ne_of_none q hp)]; exact q
  · rw [upd_ne (ne_of_none (h _ _ q) hp)]; exact h _ _ q
end

theorem RpAll.mkT {K : PySem.W.Frag} {F H : Hp} {vs : List V} {ds : List D} {Q : VK} (r : RpAll K F vs ds) (s : Same F H) (q : ∀ u H' F', New F H F' H' → Rp K F' u (.tup ds) → Q u H') : mkT H vs Q := fun p o hp hd => by
  cases hn : brs ds with
  | true =>
    have n := New.tup s hp (.frz o (.tup vs))
    refine .inr (q _ _ _ n ?_)
    unfold Rp
    exact ⟨p, vs, rfl, .inr (.inl ⟨hn, o, hd, upd_same⟩), RpAll.mono n.fr _ _ r⟩
  | false =>
    have n := New.tup s hp (.tup vs)
    refine .inl (q _ _ _ n ?_)
    unfold Rp
    exact ⟨p, vs, rfl, .inl ⟨hn, upd_same⟩, RpAll.mono n.fr _ _ r⟩

/-! ### readings that are implied -/
section
variable {X : Cx}
theorem _root_.L2.PE.imp {e : Expr} {t t' : TE} (h : PE X e t) (i : ∀ σ H Q, t' σ H Q → t σ H Q) : PE X e t' := ⟨fun pins s σ H Q I w => h.run pins s σ H Q I (i σ H Q w)⟩
theorem _root_.L2.PT.imp {e : Expr} {t t' : TT} (h : PT X e t) (i : ∀ σ H Q, t' σ H Q → t σ H Q) : PT X e t' := ⟨fun pins s σ H Q I w => h.run pins s σ H Q I (i σ H Q w)⟩
theorem _root_.L2.PW.imp {e : Expr} {t t' : TT} (h : PW X e t) (i : ∀ σ H Q, t' σ H Q → t σ H Q) : PW X e t' := ⟨fun wh pins s σ H Q I w => h.run wh pins s σ H Q I (i σ H Q w)⟩
theorem _root_.L2.PS.imp {e : Stmt} {t t' : TS} (h : PS X e t) (i : ∀ D σ H, t' D σ H → t D σ H) : PS X e t' := ⟨fun pins s σ H D I w => h.run pins s σ H D I (i D σ H w)⟩
theorem _root_.L2.PSs.imp {e : List Stmt} {t t' : TS} (h : PSs X e t) (i : ∀ D σ H, t' D σ H → t D σ H) : PSs X e t' := ⟨fun pins s σ H D I w => h.run pins s σ H D I (i D σ H w)⟩
theorem _root_.L2.PA.imp {e : List Expr} {t t' : TA} (h : PA X e t) (i : ∀ σ H Q, t' σ H Q → t σ H Q) : PA X e t' := ⟨fun p pins s σ H Q I w => h.run p pins s σ H Q I (i σ H Q w)⟩
end

/-! ### the meanings -/
/-- an expression: a datum, and the names behind it -/
abbrev DE := Env → Option (D × Env)
abbrev DT := Env → Option (Bool × Env)
abbrev DA := Env → Option (List D × Env)
/-- what comes: a datum, or something new that is owned by who takes it -/
abbrev SE := Env → Option (Sl × Env)

def SlAt (M : Md) (ρ : Env) (σ : St) (H₀ F H : Hp) (v : V) : Sl → Prop
  | .val d => Rp M.K F v d
  | .own o _ => ∃ a, v = .ref a ∧ OwnAt M F H a o ∧ F a = none ∧ H₀ a = none ∧ ¬ OwnC ρ σ a

def tD (M : Md) (a : DE) : TE := fun σ H Q => ∃ ρ F d ρ', Sim M ρ F σ H ∧ a ρ = some (d, ρ') ∧
  ∀ v H' F', Sim M ρ' F' σ H' → Step ρ σ F H ρ' σ F' H' → Rp M.K F' v d → Q v H'
def tDT (M : Md) (a : DT) : TT := fun σ H Q => ∃ ρ F d ρ', Sim M ρ F σ H ∧ a ρ = some (d, ρ') ∧
  ∀ H' F', Sim M ρ' F' σ H' → Step ρ σ F H ρ' σ F' H' → Q d H'
def tDA (M : Md) (a : DA) : TA := fun σ H Q => ∃ ρ F ds ρ', Sim M ρ F σ H ∧ a ρ = some (ds, ρ') ∧
  ∀ vs H' F', Sim M ρ' F' σ H' → Step ρ σ F H ρ' σ F' H' → RpAll M.K F' vs ds → Q vs H'
def tSE (M : Md) (a : SE) : TE := fun σ H Q => ∃ ρ F d ρ', Sim M ρ F σ H ∧ a ρ = some (d, ρ') ∧
  ∀ v H' F', Sim M ρ' F' σ H' → Step ρ σ F H ρ' σ F' H' → SlAt M ρ' σ H F' H' v d → Q v H'

/-- e means a -/
abbrev Ex (M : Md) (X : Cx) (e : Expr) (a : DE) : Prop := PE X e (tD M a)
abbrev Te (M : Md) (X : Cx) (e : Expr) (a : DT) : Prop := PT X e (tDT M a)
abbrev Ar (M : Md) (X : Cx) (es : List Expr) (a : DA) : Prop := PA X es (tDA M a)
abbrev Sx (M : Md) (X : Cx) (e : Expr) (a : SE) : Prop := PE X e (tSE M a)

/-! ### names, constants -/
def dV (i : Nat) : DE := fun ρ => match ρ[i]? with
  | some (some (.val d)) => some (d, ρ)
  | some (some (.own (.lst ds) false)) => some (.lst ds, ρ.set i (some (.val (.lst ds))))
  | _ => none
def dC (d : D) : DE := fun ρ => some (d, ρ)
section
variable {M : Md} {X : Cx}
theorem Has.lt {ρ : Env} {i : Nat} {o : Own} {io : Bool} (h : Has ρ i o io) : i < ρ.length := (List.getElem?_eq_some_iff.mp h).1
theorem Sim.freeze {ρ : Env} {F : Hp} {σ : St} {H : Hp} {i : Nat} {ds : List D} (S : Sim M ρ F σ H) (h : Has ρ i (.lst ds) false) :
    ∃ a vs, σ[i]? = some (some (.ref a)) ∧ Sim M (ρ.set i (some (.val (.lst ds)))) (upd F a (.lst vs)) σ H ∧ Step ρ σ F H (ρ.set i (some (.val (.lst ds)))) σ (upd F a (.lst vs)) H ∧ Rp M.K (upd F a (.lst vs)) (.ref a) (.lst ds) := by
  obtain ⟨a, e, ⟨vs, hv, rv⟩, fa⟩ := S.own i _ _ h
  have hi := h.lt
  have hfr : Same F (upd F a (.lst vs)) := fun b u z => by rw [upd_ne (ne_of_none z fa)]; exact z
  have hsub : Same (upd F a (.lst vs)) H := fun b u z => by
    by_cases eb : b = a
    · subst eb; rw [upd_same] at z; cases z; exact hv
    · rw [upd_ne eb] at z; exact S.sub _ _ z
  have rp : Rp M.K (upd F a (.lst vs)) (.ref a) (.lst ds) := by
    unfold Rp
    exact ⟨a, vs, rfl, upd_same, RpAll.mono hfr _ _ rv⟩
  have back : ∀ {j o io}, Has (ρ.set i (some (.val (.lst ds)))) j o io → j ≠ i ∧ Has ρ j o io := fun {j o io} z => by
    unfold Has at z
    by_cases ej : i = j
    · subst ej
      rw [List.getElem?_set_self hi] at z
      cases z
    · rw [List.getElem?_set_ne ej] at z
      exact ⟨fun q => ej q.symm, z⟩
  refine ⟨a, vs, e, ⟨by rw [List.length_set]; exact S.len, hsub, fun j d z => ?_, fun j o io z => ?_, fun j k o o' io io' b z1 z2 e1 e2 => S.sep j k o o' io io' b (back z1).2 (back z2).2 e1 e2⟩, ?_, rp⟩
  · by_cases ej : i = j
    · subst ej
      rw [List.getElem?_set_self hi] at z
      cases z
      exact ⟨_, e, rp⟩
    · rw [List.getElem?_set_ne ej] at z
      obtain ⟨v, e, r⟩ := S.val j d z
      exact ⟨v, e, Rp.mono hfr _ _ r⟩
  · obtain ⟨nj, z⟩ := back z
    obtain ⟨b, e2, q, f⟩ := S.own j o io z
    refine ⟨b, e2, q.mono hfr fun u y => y, ?_⟩
    have ne : b ≠ a := fun eb => nj (S.sep j i o _ io _ b z h e2 (by rw [eb]; exact e))
    rw [upd_ne ne]
    exact f
  · refine ⟨hfr, fun b u z => ?_, fun b u z _ => z, fun b u z => ⟨u, z⟩, fun b ⟨j, o, io, z1, z2⟩ => .inl ⟨j, o, io, (back z1).2, z2⟩, fun b ⟨j, o, z1, z2⟩ => .inl ⟨j, o, (back z1).2, z2⟩, fun j o z => ⟨rfl, o, ?_⟩, fun j o z => ⟨o, (back z).2⟩⟩
    · by_cases eb : b = a
      · subst eb; exact .inr (.inr (.inl ⟨i, _, h, e⟩))
      · rw [upd_ne eb] at z; exact .inl z
    · have ne : i ≠ j := fun q => by
        subst q
        unfold Has at h z
        rw [h] at z
        cases z
      unfold Has
      rw [List.getElem?_set_ne ne]
      exact z
theorem x_var {i : Nat} {e : Expr} (h : PE X e (tVar i)) : Ex M X e (dV i) := h.imp fun σ H Q ⟨ρ, F, d, ρ', S, e, q⟩ => by
  unfold dV at e
  split at e
  · rename_i d' h'
    cases e
    obtain ⟨v, h1, r⟩ := S.val i d h'
    exact ⟨v, h1, q v H F S .refl r⟩
  · rename_i ds h'
    cases e
    obtain ⟨a, vs, e1, S1, T1, r⟩ := S.freeze h'
    exact ⟨_, e1, q _ H _ S1 T1 r⟩
  · cases e
theorem x_con {d : D} {v : V} {e : Expr} (h : PE X e (tC v)) (r : ∀ F, Rp M.K F v d) : Ex M X e (dC d) := h.imp fun σ H Q ⟨ρ, F, d', ρ', S, e, q⟩ => by
  cases e
  exact q v H F S .refl (r F)
theorem x_int {i j pos} : Ex M X (.Constant (.int i) j pos) (dC (.int i)) := x_con pe_int fun _ => by unfold Rp; rfl
theorem x_bl {b j pos} : Ex M X (.Constant (.bool b) j pos) (dC (.bl b)) := x_con pe_bl fun _ => by unfold Rp; rfl
theorem x_non {j pos} : Ex M X (.Constant .none j pos) (dC .non) := x_con pe_non fun _ => by unfold Rp; rfl
theorem x_str {t : Tag} {j pos} : Ex M X (.Constant (.str t.s) j pos) (dC (.str t)) := x_con pe_str fun _ => by unfold Rp; rfl
end

/-! ### argument lists, tuples -/
def dNil : DA := fun ρ => some ([], ρ)
def dCons (a : DE) (r : DA) : DA := fun ρ => (a ρ).bind fun x => (r x.2).bind fun y => some (x.1 :: y.1, y.2)
def dTup (a : DA) : DE := fun ρ => (a ρ).bind fun x => if x.1.length ≤ sizeLine then some (.tup x.1, x.2) else none
def sLst (a : DA) : SE := fun ρ => (a ρ).bind fun x => if x.1.length ≤ sizeLine then some (.own (.lst x.1) false, x.2) else none
section
variable {M : Md} {X : Cx}
theorem a_nil : Ar M X [] dNil := pa_nil.imp fun σ H Q ⟨ρ, F, d, ρ', S, e, q⟩ => by
  cases e
  exact q [] H F S .refl RpAll.nil
theorem a_cons {e : Expr} {es : List Expr} {a : DE} {r : DA} (h : Ex M X e a) (t : Ar M X es r) (hs : starEach (e :: es) X.env = (false, eval e X.env) :: starEach es X.env := by rfl) : Ar M X (e :: es) (dCons a r) :=
  (pa_cons h t hs).imp fun σ H Q ⟨ρ, F, ds, ρ', S, e, q⟩ => by
    unfold dCons at e
    obtain ⟨⟨d, ρ1⟩, e1, e⟩ := Option.bind_eq_some_iff.mp e
    obtain ⟨⟨es', ρ2⟩, e2, e⟩ := Option.bind_eq_some_iff.mp e
    cases e
    refine ⟨ρ, F, d, ρ1, S, e1, fun v H1 F1 S1 T1 r1 => ⟨ρ1, F1, es', ρ2, S1, e2, fun vs H2 F2 S2 T2 r2 => ?_⟩⟩
    exact q (v :: vs) H2 F2 S2 (T1.trans T2) (RpAll.cons (Rp.mono T2.fr _ _ r1) r2)
theorem x_tup {es : List Expr} {a : DA} {x1 pos} (h : Ar M X es a) : Ex M X (.Tuple es x1 pos) (dTup a) := (pe_tupM h).imp fun σ H Q ⟨ρ, F, d, ρ', S, e, q⟩ => by
  unfold dTup at e
  obtain ⟨⟨ds, ρ1⟩, e1, e⟩ := Option.bind_eq_some_iff.mp e
  split at e
  · rename_i hz
    cases e
    refine ⟨ρ, F, ds, ρ1, S, e1, fun vs H1 F1 S1 T1 r1 => ⟨by rw [r1.length]; exact hz, r1.mkT S1.sub fun u H2 F2 n r2 => ?_⟩⟩
    obtain ⟨S2, T2⟩ := S1.new n
    exact q u H2 F2 S2 (T1.trans T2) r2
  · cases e
theorem s_lst {es : List Expr} {a : DA} {pos} (h : Ar M X es a) : Sx M X (.List es pos) (sLst a) := (pe_lst h).imp fun σ H Q ⟨ρ, F, d, ρ', S, e, q⟩ => by
  unfold sLst at e
  obtain ⟨⟨ds, ρ1⟩, e1, e⟩ := Option.bind_eq_some_iff.mp e
  split at e
  · rename_i hz
    cases e
    refine ⟨ρ, F, ds, ρ1, S, e1, fun vs H1 F1 S1 T1 r1 => ⟨by rw [r1.length]; exact hz, fun p hp => ?_⟩⟩
    have n := New.obj S1.sub hp (.lst vs)
    obtain ⟨S2, T2⟩ := S1.new n
    have hp0 : H p = none := by
      cases e : H p with
      | none => rfl
      | some o => obtain ⟨o', q'⟩ := T1.there p o e; rw [hp] at q'; cases q'
    refine q _ _ _ S2 (T1.trans T2) ⟨p, rfl, ⟨vs, upd_same, r1⟩, S1.sub.free hp, hp0, fun z => ?_⟩
    obtain ⟨_, u, hu⟩ := S1.ownF z
    rw [hp] at hu; cases hu
  · cases e

/-- what is new and owned, frozen: a datum -/
def dFrz (a : SE) : DE := fun ρ => (a ρ).bind fun x => match x.1 with
  | .val d => some (d, x.2)
  | .own (.lst ds) _ => some (.lst ds, x.2)
  | _ => none
theorem x_frz {e : Expr} {a : SE} (h : Sx M X e a) : Ex M X e (dFrz a) := h.imp fun σ H Q ⟨ρ, F, d, ρ', S, e, q⟩ => by
  unfold dFrz at e
  obtain ⟨⟨sl, ρ1⟩, e1, e⟩ := Option.bind_eq_some_iff.mp e
  refine ⟨ρ, F, sl, ρ1, S, e1, fun v H1 F1 S1 T1 r1 => ?_⟩
  cases sl with
  | val d' => cases e; exact q v H1 F1 S1 T1 r1
  | own o io =>
    cases o with
    | lst ds =>
      cases e
      obtain ⟨a, rfl, ⟨vs, hv, rv⟩, fa, ha, na⟩ := r1
      have hfr : Same F1 (upd F1 a (.lst vs)) := fun b u z => by rw [upd_ne (ne_of_none z fa)]; exact z
      have hsub : Same (upd F1 a (.lst vs)) H1 := fun b u z => by
        by_cases eb : b = a
        · subst eb; rw [upd_same] at z; cases z; exact hv
        · rw [upd_ne eb] at z; exact S1.sub _ _ z
      have S2 : Sim M ρ1 (upd F1 a (.lst vs)) σ H1 := by
        refine ⟨S1.len, hsub, fun i d' h => ?_, fun i o io' h => ?_, S1.sep⟩
        · obtain ⟨v, e, r⟩ := S1.val i d' h
          exact ⟨v, e, Rp.mono hfr _ _ r⟩
        · obtain ⟨a', e, q, f⟩ := S1.own i o io' h
          refine ⟨a', e, q.mono hfr fun u z => z, ?_⟩
          have ne : a' ≠ a := fun eb => na ⟨i, o, io', h, by rw [← eb]; exact e⟩
          rw [upd_ne ne]
          exact f
      refine q (.ref a) H1 _ S2 ?_ ?_
      · refine ⟨T1.fr.trans hfr, fun b u z => ?_, T1.keep, T1.there, T1.ownC, T1.ownN, T1.io, T1.io'⟩
        by_cases eb : b = a
        · subst eb; exact .inr (.inl ha)
        · rw [upd_ne eb] at z; exact T1.new b u z
      · unfold Rp
        exact ⟨a, vs, rfl, upd_same, RpAll.mono hfr _ _ rv⟩
    | dk _ => cases e
    | dt _ => cases e
    | ins _ _ => cases e
/-- a datum as what comes -/
def sVal (a : DE) : SE := fun ρ => (a ρ).map fun x => (.val x.1, x.2)
theorem s_val {e : Expr} {a : DE} (h : Ex M X e a) : Sx M X e (sVal a) := h.imp fun σ H Q ⟨ρ, F, d, ρ', S, e, q⟩ => by
  unfold sVal at e
  obtain ⟨⟨d', ρ1⟩, e1, e⟩ := Option.map_eq_some_iff.mp e
  cases e
  exact ⟨ρ, F, d', ρ1, S, e1, fun v H1 F1 S1 T1 r1 => q v H1 F1 S1 T1 r1⟩
end
end ET
set_option Elab.async false
set_option maxRecDepth 100000
/-! ET: operators, comparisons, subscripts, built-in functions. -/
namespace ET
open PySem L2

/-! ### operands: a value, or what a name owns, looked at where it is used -/
inductive DO where
  | e (a : DE)
  | o (i : Nat)
def DO.ev : DO → Env → Option (Option D × Env)
  | .e a, ρ => (a ρ).bind fun x => some (some x.1, x.2)
  | .o i, ρ => match ρ[i]? with
    | some (some (.own (.lst _) _)) => some (none, ρ)
    | some (some (.val _)) => some (none, ρ)
    | _ => none
def DO.fin : DO → Option D → Env → Option D
  | .e _, r, _ => r
  | .o i, _, ρ => match ρ[i]? with
    | some (some (.own (.lst ds) _)) => some (.lst ds)
    | some (some (.val d)) => some d
    | _ => none
def Opd (M : Md) (X : Cx) (e : Expr) : DO → Prop
  | .e a => Ex M X e a
  | .o i => PE X e (tVar i)
/-- what is held of an operand till it is used -/
def Hld (M : Md) (σ : St) (F : Hp) (v : V) (r : Option D) : DO → Prop
  | .e _ => ∃ d, r = some d ∧ Rp M.K F v d
  | .o i => σ[i]? = some (some v)
/-- v is d here (a list may be an owned one) -/
def Bor (K : PySem.W.Frag) (F H : Hp) (v : V) (d : D) : Prop :=
  Rp K F v d ∨ ∃ a vs ds, v = .ref a ∧ d = .lst ds ∧ H a = some (.lst vs) ∧ RpAll K F vs ds
def tOpd (M : Md) (o : DO) : TE := fun σ H Q => ∃ ρ F r ρ1, Sim M ρ F σ H ∧ o.ev ρ = some (r, ρ1) ∧
  ∀ v H' F', Sim M ρ1 F' σ H' → Step ρ σ F H ρ1 σ F' H' → Hld M σ F' v r o → Q v H'
section
variable {M : Md} {X : Cx} {ρ ρ' : Env} {σ : St} {F F' H H' : Hp}
theorem Opd.run {e : Expr} {o : DO} (h : Opd M X e o) : PE X e (tOpd M o) := by
  cases o with
  | e a =>
    have h : Ex M X e a := h
    refine h.imp fun σ H Q ⟨ρ, F, r, ρ1, S, e, q⟩ => ?_
    unfold DO.ev at e
    obtain ⟨⟨d, ρ2⟩, e1, e⟩ := Option.bind_eq_some_iff.mp e
    cases e
    exact ⟨ρ, F, d, ρ2, S, e1, fun v H1 F1 S1 T1 r1 => q v H1 F1 S1 T1 ⟨d, rfl, r1⟩⟩
  | o i =>
    have h : PE X e (tVar i) := h
    refine h.imp fun σ H Q ⟨ρ, F, r, ρ1, S, e, q⟩ => ?_
    unfold DO.ev at e
    dsimp only at e
    split at e
    · rename_i ds io hh
      cases e
      obtain ⟨a, h1, _⟩ := S.own i _ _ hh
      exact ⟨_, h1, q _ H F S .refl h1⟩
    · rename_i d hh
      cases e
      obtain ⟨a, h1, _⟩ := S.val i _ hh
      exact ⟨_, h1, q _ H F S .refl h1⟩
    · cases e
theorem Hld.mono {o : DO} {v : V} {r : Option D} (h : Hld M σ F v r o) (f : Same F F') : Hld M σ F' v r o := by
  cases o with
  | e a => obtain ⟨d, e, q⟩ := h; exact ⟨d, e, Rp.mono f _ _ q⟩
  | o i => exact h
theorem Hld.bor {o : DO} {v : V} {r : Option D} {d : D} (h : Hld M σ F v r o) (S : Sim M ρ F σ H) (e : o.fin r ρ = some d) : Bor M.K F H v d := by
  cases o with
  | e a =>
    obtain ⟨d', e', q⟩ := h
    rw [e'] at e
    have e : some d' = some d := e
    cases e
    exact .inl q
  | o i =>
    have h : σ[i]? = some (some v) := h
    unfold DO.fin at e
    dsimp only at e
    split at e
    · rename_i ds io hh
      cases e
      obtain ⟨a, h1, ⟨vs, h2, h3⟩, _⟩ := S.own i _ _ hh
      rw [h] at h1
      cases h1
      exact .inr ⟨a, vs, ds, rfl, rfl, h2, h3⟩
    · rename_i d hh
      cases e
      obtain ⟨a, h1, h2⟩ := S.val i _ hh
      rw [h] at h1
      cases h1
      exact .inl h2
    · cases e
theorem Bor.lst {v : V} {ds : List D} (h : Bor M.K F H v (.lst ds)) (s : Same F H) : ∃ a vs, v = .ref a ∧ H a = some (.lst vs) ∧ RpAll M.K F vs ds := by
  rcases h with h | ⟨a, vs, es, e1, e2, h, r⟩
  · unfold Rp at h
    obtain ⟨a, vs, e, h, r⟩ := h
    exact ⟨a, vs, e, s _ _ h, r⟩
  · cases e2
    exact ⟨a, vs, e1, h, r⟩
theorem Bor.tup {K : PySem.W.Frag} {v : V} {ds : List D} (h : Bor K F H v (.tup ds)) (s : Same F H) : ∃ a vs, v = .ref a ∧ SqT K H a vs ∧ RpAll K F vs ds := by
  rcases h with h | ⟨a, vs, es, e1, e2, h, r⟩
  · unfold Rp at h
    obtain ⟨a, vs, e, h, r⟩ := h
    exact ⟨a, vs, e, (TpAt.mono s h).sq, r⟩
  · cases e2
theorem Bor.scr {K : PySem.W.Frag} {v : V} {ds : List D} (h : Bor K F H v (.scr ds)) (s : Same F H) : ∃ a vs, v = .ref a ∧ SqL K H a vs ∧ RpAll K F vs ds := by
  rcases h with h | ⟨a, vs, es, e1, e2, h, r⟩
  · unfold Rp at h
    obtain ⟨a, vs, e, h, r⟩ := h
    exact ⟨a, vs, e, SqL.mono s h, r⟩
  · cases e2
theorem Bor.rp {K : PySem.W.Frag} {v : V} {d : D} (h : Bor K F H v d) (n : ∀ ds, d ≠ .lst ds) : Rp K F v d := by
  rcases h with h | ⟨a, vs, es, e1, e2, h, r⟩
  · exact h
  · exact absurd e2 (n es)
/-- .. as it stands in the whole heap -/
theorem Bor.all {K : PySem.W.Frag} {v : V} {d : D} (h : Bor K F H v d) (s : Same F H) : Rp K H v d := by
  rcases h with h | ⟨a, vs, es, e1, e2, h, r⟩
  · exact Rp.mono s _ _ h
  · subst e2
    unfold Rp
    exact ⟨a, vs, e1, h, RpAll.mono s _ _ r⟩
theorem Bor.of {K : PySem.W.Frag} {v : V} {d : D} (h : Rp K F v d) : Bor K F H v d := .inl h
end

/-! ### two operands -/
def d2 (f : D → D → Option D) (x y : DO) : DE := fun ρ => (x.ev ρ).bind fun a => (y.ev a.2).bind fun b => (x.fin a.1 b.2).bind fun u => (y.fin b.1 b.2).bind fun w => (f u w).bind fun c => some (c, b.2)
def s2 (f : D → D → Option (List D)) (x y : DO) : SE := fun ρ => (x.ev ρ).bind fun a => (y.ev a.2).bind fun b => (x.fin a.1 b.2).bind fun u => (y.fin b.1 b.2).bind fun w => (f u w).bind fun c => some (.own (.lst c) false, b.2)
def d1 (f : D → Option D) (x : DO) : DE := fun ρ => (x.ev ρ).bind fun a => (x.fin a.1 a.2).bind fun u => (f u).bind fun c => some (c, a.2)
def s1 (f : D → Option (List D)) (x : DO) : SE := fun ρ => (x.ev ρ).bind fun a => (x.fin a.1 a.2).bind fun u => (f u).bind fun c => some (.own (.lst c) false, a.2)

/-- the rule r does f -/
def Imp2 (K : PySem.W.Frag) (r : R2) (f : D → D → Option D) : Prop :=
  ∀ (F H : Hp) (v w : V) (d e c : D) (Q : VK), Same F H → Bor K F H v d → Bor K F H w e → f d e = some c → (∀ u H' F', New F H F' H' → Rp K F' u c → Q u H') → r v w H Q
def Imp2L (K : PySem.W.Frag) (r : R2) (f : D → D → Option (List D)) : Prop :=
  ∀ (F H : Hp) (v w : V) (d e : D) (c : List D) (Q : VK), Same F H → Bor K F H v d → Bor K F H w e → f d e = some c → (∀ p vs, H p = none → RpAll K F vs c → Q (.ref p) (upd H p (.lst vs))) → r v w H Q
def Imp1 (K : PySem.W.Frag) (r : List V → Hp → VK → Prop) (f : D → Option D) : Prop :=
  ∀ (F H : Hp) (v : V) (d c : D) (Q : VK), Same F H → Bor K F H v d → f d = some c → (∀ u H' F', New F H F' H' → Rp K F' u c → Q u H') → r [v] H Q
def Imp1L (K : PySem.W.Frag) (r : List V → Hp → VK → Prop) (f : D → Option (List D)) : Prop :=
  ∀ (F H : Hp) (v : V) (d : D) (c : List D) (Q : VK), Same F H → Bor K F H v d → f d = some c → (∀ p vs, H p = none → RpAll K F vs c → Q (.ref p) (upd H p (.lst vs))) → r [v] H Q
section
variable {M : Md} {X : Cx} {a b : Expr} {x y : DO} {r : R2}
theorem fresh_of {ρ ρ1 : Env} {σ : St} {F F1 H H1 : Hp} {p : Addr} (S1 : Sim M ρ1 F1 σ H1) (T1 : Step ρ σ F H ρ1 σ F1 H1) (hp : H1 p = none) : F1 p = none ∧ H p = none ∧ ¬ OwnC ρ1 σ p := by
  refine ⟨S1.sub.free hp, ?_, fun z => ?_⟩
  · cases e : H p with
    | none => rfl
    | some o => obtain ⟨o', q'⟩ := T1.there p o e; rw [hp] at q'; cases q'
  · obtain ⟨_, u, hu⟩ := S1.ownF z
    rw [hp] at hu; cases hu
theorem r_d2 {f : D → D → Option D} (i : Imp2 M.K r f) : ∀ σ H Q, tD M (d2 f x y) σ H Q → tOp r (tOpd M x) (tOpd M y) σ H Q := fun σ H Q ⟨ρ, F, d, ρ', S, e, q⟩ => by
  unfold d2 at e
  obtain ⟨⟨r1, ρ1⟩, e1, e⟩ := Option.bind_eq_some_iff.mp e
  obtain ⟨⟨r2, ρ2⟩, e2, e⟩ := Option.bind_eq_some_iff.mp e
  obtain ⟨u, e3, e⟩ := Option.bind_eq_some_iff.mp e
  obtain ⟨w, e4, e⟩ := Option.bind_eq_some_iff.mp e
  obtain ⟨c, e5, e⟩ := Option.bind_eq_some_iff.mp e
  cases e
  refine ⟨ρ, F, r1, ρ1, S, e1, fun v H1 F1 S1 T1 h1 => ⟨ρ1, F1, r2, ρ2, S1, e2, fun w' H2 F2 S2 T2 h2 => ?_⟩⟩
  refine i F2 H2 v w' u w d Q S2.sub ((h1.mono T2.fr).bor S2 e3) (h2.bor S2 e4) e5 fun z H3 F3 n rz => ?_
  obtain ⟨S3, T3⟩ := S2.new n
  exact q z H3 F3 S3 ((T1.trans T2).trans T3) rz
theorem r_s2 {f : D → D → Option (List D)} (i : Imp2L M.K r f) : ∀ σ H Q, tSE M (s2 f x y) σ H Q → tOp r (tOpd M x) (tOpd M y) σ H Q := fun σ H Q ⟨ρ, F, d, ρ', S, e, q⟩ => by
  unfold s2 at e
  obtain ⟨⟨r1, ρ1⟩, e1, e⟩ := Option.bind_eq_some_iff.mp e
  obtain ⟨⟨r2, ρ2⟩, e2, e⟩ := Option.bind_eq_some_iff.mp e
  obtain ⟨u, e3, e⟩ := Option.bind_eq_some_iff.mp e
  obtain ⟨w, e4, e⟩ := Option.bind_eq_some_iff.mp e
  obtain ⟨c, e5, e⟩ := Option.bind_eq_some_iff.mp e
  cases e
  refine ⟨ρ, F, r1, ρ1, S, e1, fun v H1 F1 S1 T1 h1 => ⟨ρ1, F1, r2, ρ2, S1, e2, fun w' H2 F2 S2 T2 h2 => ?_⟩⟩
  refine i F2 H2 v w' u w c Q S2.sub ((h1.mono T2.fr).bor S2 e3) (h2.bor S2 e4) e5 fun p vs hp rz => ?_
  have n := New.obj S2.sub hp (.lst vs)
  obtain ⟨S3, T3⟩ := S2.new n
  obtain ⟨f1, f2, f3⟩ := fresh_of S2 (T1.trans T2) hp
  exact q (.ref p) _ F2 S3 ((T1.trans T2).trans T3) ⟨p, rfl, ⟨vs, upd_same, rz⟩, f1, f2, f3⟩
theorem r_d1 {f : D → Option D} {r : List V → Hp → VK → Prop} (i : Imp1 M.K r f) : ∀ σ H Q, tD M (d1 f x) σ H Q → tCB r (tCons (tOpd M x) tNil) σ H Q := fun σ H Q ⟨ρ, F, d, ρ', S, e, q⟩ => by
  unfold d1 at e
  obtain ⟨⟨r1, ρ1⟩, e1, e⟩ := Option.bind_eq_some_iff.mp e
  obtain ⟨u, e3, e⟩ := Option.bind_eq_some_iff.mp e
  obtain ⟨c, e5, e⟩ := Option.bind_eq_some_iff.mp e
  cases e
  refine ⟨ρ, F, r1, ρ1, S, e1, fun v H1 F1 S1 T1 h1 => ?_⟩
  refine i F1 H1 v u d Q S1.sub (h1.bor S1 e3) e5 fun z H3 F3 n rz => ?_
  obtain ⟨S3, T3⟩ := S1.new n
  exact q z H3 F3 S3 (T1.trans T3) rz
theorem r_s1 {f : D → Option (List D)} {r : List V → Hp → VK → Prop} (i : Imp1L M.K r f) : ∀ σ H Q, tSE M (s1 f x) σ H Q → tCB r (tCons (tOpd M x) tNil) σ H Q := fun σ H Q ⟨ρ, F, d, ρ', S, e, q⟩ => by
  unfold s1 at e
  obtain ⟨⟨r1, ρ1⟩, e1, e⟩ := Option.bind_eq_some_iff.mp e
  obtain ⟨u, e3, e⟩ := Option.bind_eq_some_iff.mp e
  obtain ⟨c, e5, e⟩ := Option.bind_eq_some_iff.mp e
  cases e
  refine ⟨ρ, F, r1, ρ1, S, e1, fun v H1 F1 S1 T1 h1 => ?_⟩
  refine i F1 H1 v u c Q S1.sub (h1.bor S1 e3) e5 fun p vs hp rz => ?_
  have n := New.obj S1.sub hp (.lst vs)
  obtain ⟨S3, T3⟩ := S1.new n
  obtain ⟨f1, f2, f3⟩ := fresh_of S1 T1 hp
  exact q (.ref p) _ F1 S3 (T1.trans T3) ⟨p, rfl, ⟨vs, upd_same, rz⟩, f1, f2, f3⟩

/-! ### the rules -/
theorem x_bin {op : Operator} {f : D → D → Option D} {pos} (i : Imp2 M.K r f) (ho : OpR X (binaryOp op) r) (ha : Opd M X a x) (hb : Opd M X b y) : Ex M X (.BinOp a op b pos) (d2 f x y) := (pe_op ho ha.run hb.run).imp (r_d2 i)
theorem s_bin {op : Operator} {f : D → D → Option (List D)} {pos} (i : Imp2L M.K r f) (ho : OpR X (binaryOp op) r) (ha : Opd M X a x) (hb : Opd M X b y) : Sx M X (.BinOp a op b pos) (s2 f x y) := (pe_op ho ha.run hb.run).imp (r_s2 i)
theorem x_cmp {op : CmpOp} {f : D → D → Option D} {pos} (i : Imp2 M.K r f) (ho : OpR X (compareOp op) r) (ha : Opd M X a x) (hb : Opd M X b y) (hm : behindInMarks op b = false) : Ex M X (.Compare a [op] [b] pos) (d2 f x y) := (pe_cmpR ho ha.run hb.run hm).imp (r_d2 i)
theorem x_ix {f : D → D → Option D} {pos} (i : Imp2 M.K r f) (ho : IxR X r) (ha : Opd M X a x) (hb : Opd M X b y) (hs : PlainIx b) : Ex M X (.Subscript a b pos) (d2 f x y) := (pe_ix ho ha.run hb.run hs).imp (r_d2 i)
/-- a datum that is a truth value, as a test -/
def tOf (a : DE) : DT := fun ρ => (a ρ).bind fun x => match x.1 with
  | .bl b => some (b, x.2)
  | _ => none
theorem tOf_tD {a : DE} {σ : St} {H : Hp} {Q : Bool → Hp → Prop} (h : tDT M (tOf a) σ H Q) : tD M a σ H fun v H' => ∃ k, v = .bl k ∧ Q k H' := by
  obtain ⟨ρ, F, k, ρ', S, e, q⟩ := h
  unfold tOf at e
  obtain ⟨⟨d, ρ1⟩, e1, e⟩ := Option.bind_eq_some_iff.mp e
  cases d with
  | bl b =>
    cases e
    refine ⟨ρ, F, .bl k, ρ1, S, e1, fun v H1 F1 S1 T1 r1 => ?_⟩
    unfold Rp at r1
    exact ⟨k, r1, q H1 F1 S1 T1⟩
  | _ => cases e
theorem t_val {e : Expr} {a : DE} (h : Ex M X e a) (he : ∀ whole, isTrue e X.env whole = (do let v ← whole; standAt e.pos; holding [v] (truthy v)) := by intro _; rfl) : Te M X e (tOf a) := (pt_val h he).imp fun σ H Q h => tOf_tD h
theorem t_cmp {op : CmpOp} {f : D → D → Option D} {pos} (i : Imp2 M.K r f) (ho : OpR X (compareOp op) r) (ha : Opd M X a x) (hb : Opd M X b y) (hm : behindInMarks op b = false) : Te M X (.Compare a [op] [b] pos) (tOf (d2 f x y)) :=
  (pt_cmpR ho ha.run hb.run hm).imp fun σ H Q h => r_d2 i _ _ _ (tOf_tD h)
/-- a built-in function or class called with one operand -/
theorem x_callB {id : String} {f : D → Option D} {n : Str} {p pos : Pos} {r : List V → Hp → VK → Prop} (i : Imp1 M.K r f) (ho : CallR X (.builtin id) r) (hg : Gl X n) (hm : X.mg n = none) (hv : bootBuiltins n = some (.builtin id)) (ha : Opd M X a x)
    (hn : n ≠ "__name__" := by decide) (hdb : (n == ("__debug__" : Str)) = false := by decide) (he : starEach [a] X.env = (false, eval a X.env) :: starEach [] X.env := by rfl) : Ex M X (.Call (.Name n p) [a] [] pos) (d1 f x) :=
  (pe_callB ho hg hm hv (pa_cons ha.run pa_nil he) hn hdb he).imp (r_d1 i)
theorem x_callTy {id : String} {f : D → Option D} {n : Str} {p pos : Pos} {r : List V → Hp → VK → Prop} (i : Imp1 M.K r f) (ho : CallR X (.type id) r) (hg : Gl X n) (hm : X.mg n = none) (hv : bootBuiltins n = some (.type id)) (ha : Opd M X a x)
    (hn : n ≠ "__name__" := by decide) (hdb : (n == ("__debug__" : Str)) = false := by decide) (he : starEach [a] X.env = (false, eval a X.env) :: starEach [] X.env := by rfl) : Ex M X (.Call (.Name n p) [a] [] pos) (d1 f x) :=
  (pe_callTy ho hg hm hv (pa_cons ha.run pa_nil he) hn hdb he).imp (r_d1 i)
theorem s_callB {id : String} {f : D → Option (List D)} {n : Str} {p pos : Pos} {r : List V → Hp → VK → Prop} (i : Imp1L M.K r f) (ho : CallR X (.builtin id) r) (hg : Gl X n) (hm : X.mg n = none) (hv : bootBuiltins n = some (.builtin id)) (ha : Opd M X a x)
    (hn : n ≠ "__name__" := by decide) (hdb : (n == ("__debug__" : Str)) = false := by decide) (he : starEach [a] X.env = (false, eval a X.env) :: starEach [] X.env := by rfl) : Sx M X (.Call (.Name n p) [a] [] pos) (s1 f x) :=
  (pe_callB ho hg hm hv (pa_cons ha.run pa_nil he) hn hdb he).imp (r_s1 i)
theorem s_callTy {id : String} {f : D → Option (List D)} {n : Str} {p pos : Pos} {r : List V → Hp → VK → Prop} (i : Imp1L M.K r f) (ho : CallR X (.type id) r) (hg : Gl X n) (hm : X.mg n = none) (hv : bootBuiltins n = some (.type id)) (ha : Opd M X a x)
    (hn : n ≠ "__name__" := by decide) (hdb : (n == ("__debug__" : Str)) = false := by decide) (he : starEach [a] X.env = (false, eval a X.env) :: starEach [] X.env := by rfl) : Sx M X (.Call (.Name n p) [a] [] pos) (s1 f x) :=
  (pe_callTy ho hg hm hv (pa_cons ha.run pa_nil he) hn hdb he).imp (r_s1 i)
end

/-! ### what the operators do -/
def fInt2 (g : Int → Int → Int) : D → D → Option D
  | .int i, .int j => some (.int (g i j))
  | _, _ => none
def fCmp (g : Int → Int → Bool) : D → D → Option D
  | .int i, .int j => some (.bl (g i j))
  | _, _ => none
theorem rp_int {K : PySem.W.Frag} {F H : Hp} {v : V} {i : Int} (h : Bor K F H v (.int i)) : v = .int i := by
  have := h.rp (fun ds q => by cases q)
  unfold Rp at this
  exact this
theorem imp_int {K : PySem.W.Frag} (g : Int → Int → Int) : Imp2 K (rI0 fun i j => .int (g i j)) (fInt2 g) := fun F H v w d e c Q s hv hw h q => by
  cases d <;> cases e <;> first | cases h | skip
  refine ⟨_, _, rp_int hv, rp_int hw, q _ H F (.refl s) ?_⟩
  unfold Rp; rfl
theorem imp_cmp {K : PySem.W.Frag} (g : Int → Int → Bool) : Imp2 K (rI0 fun i j => .bl (g i j)) (fCmp g) := fun F H v w d e c Q s hv hw h q => by
  cases d <;> cases e <;> first | cases h | skip
  refine ⟨_, _, rp_int hv, rp_int hw, q _ H F (.refl s) ?_⟩
  unfold Rp; rfl
def fAdd := fInt2 fun i j => i + j
def fSub := fInt2 fun i j => i - j
def fLt := fCmp fun i j => decide (i < j)
def fLe := fCmp fun i j => decide (i ≤ j)
def fGt := fCmp fun i j => decide (j < i)
def fGe := fCmp fun i j => decide (j ≤ i)
/-- % and // by a positive divisor -/
def fMod : D → D → Option D
  | .int i, .int j => if 0 < j then some (.int (i % j)) else none
  | _, _ => none
def fDiv : D → D → Option D
  | .int i, .int j => if 0 < j ∧ j < 1073741824 then some (.int (i / j)) else none
  | _, _ => none
def fMul : D → D → Option D
  | .int i, .int j => if (-(2 ^ 64) < i ∧ i < 2 ^ 64) ∨ (-(2 ^ 64) < j ∧ j < 2 ^ 64) then some (.int (i * j)) else none
  | _, _ => none
theorem imp_mod {K : PySem.W.Frag} : Imp2 K (rI (fun _ j => 0 < j) fun i j => .int (i % j)) fMod := fun F H v w d e c Q s hv hw h q => by
  cases d <;> cases e <;> first | cases h | skip
  dsimp only [fMod] at h
  split at h
  · rename_i hc
    cases h
    refine ⟨_, _, rp_int hv, rp_int hw, hc, q _ H F (.refl s) ?_⟩
    unfold Rp; rfl
  · cases h
theorem imp_div {K : PySem.W.Frag} : Imp2 K (rI CDiv fun i j => .int (i / j)) fDiv := fun F H v w d e c Q s hv hw h q => by
  cases d <;> cases e <;> first | cases h | skip
  dsimp only [fDiv] at h
  split at h
  · rename_i hc
    cases h
    refine ⟨_, _, rp_int hv, rp_int hw, hc, q _ H F (.refl s) ?_⟩
    unfold Rp; rfl
  · cases h
theorem imp_mul {K : PySem.W.Frag} : Imp2 K (rI CMul fun i j => .int (i * j)) fMul := fun F H v w d e c Q s hv hw h q => by
  cases d <;> cases e <;> first | cases h | skip
  dsimp only [fMul] at h
  split at h
  · rename_i hc
    cases h
    refine ⟨_, _, rp_int hv, rp_int hw, hc, q _ H F (.refl s) ?_⟩
    unfold Rp; rfl
  · cases h
/-- t + u -/
def fCatT : D → D → Option D
  | .tup xs, .tup ys => if xs.length + ys.length ≤ sizeLine then some (.tup (xs ++ ys)) else none
  | _, _ => none
theorem imp_catT {K : PySem.W.Frag} : Imp2 K (rCatM K) fCatT := fun F H v w d e c Q s hv hw h q => by
  cases d with
  | tup xs =>
    cases e with
    | tup ys =>
      dsimp only [fCatT] at h
      split at h
      · rename_i hz
        cases h
        obtain ⟨a, vs, rfl, ha, ra⟩ := hv.tup s
        obtain ⟨b, ws, rfl, hb, rb⟩ := hw.tup s
        have va := hv.rp (fun ds q => by cases q)
        have vb := hw.rp (fun ds q => by cases q)
        refine ⟨a, b, vs, ws, rfl, rfl, ha, hb, by rw [ra.length, rb.length]; exact hz, fun e0 => ?_, fun _ e0 => ?_, fun _ _ => ?_⟩
        · have ex : xs = [] := by have := ra.length; rw [e0] at this; exact List.eq_nil_of_length_eq_zero this.symm
          subst ex
          exact q _ H F (.refl s) vb
        · have ey : ys = [] := by have := rb.length; rw [e0] at this; exact List.eq_nil_of_length_eq_zero this.symm
          subst ey
          rw [List.append_nil] at q
          exact q _ H F (.refl s) va
        · exact (RpAll.append ra rb).mkT s q
      · cases h
    | _ => cases h
  | _ => cases h
/-- xs + ys -/
def fCatL : D → D → Option (List D)
  | .lst xs, .lst ys => if xs.length + ys.length ≤ sizeLine then some (xs ++ ys) else none
  | _, _ => none
theorem imp_catL {M : Md} : Imp2L M.K rCat fCatL := fun F H v w d e c Q s hv hw h q => by
  cases d with
  | lst xs =>
    cases e with
    | lst ys =>
      dsimp only [fCatL] at h
      split at h
      · rename_i hz
        cases h
        obtain ⟨a, vs, rfl, ha, ra⟩ := Bor.lst (M := M) hv s
        obtain ⟨b, ws, rfl, hb, rb⟩ := Bor.lst (M := M) hw s
        exact ⟨a, b, vs, ws, rfl, rfl, ha, hb, by rw [ra.length, rb.length]; exact hz, fun p hp => q p _ hp (ra.append rb)⟩
      · cases h
    | _ => cases h
  | _ => cases h
/-- xs * k -/
def fRepL : D → D → Option (List D)
  | .lst xs, .int k => if 0 ≤ k ∧ k ≤ 1000000 ∧ xs.length * k.toNat ≤ sizeLine then some (List.replicate k.toNat xs).flatten else none
  | _, _ => none
theorem RpAll.rep {K : PySem.W.Frag} {F : Hp} {vs : List V} {ds : List D} (h : RpAll K F vs ds) : ∀ n : Nat, RpAll K F (List.replicate n vs).flatten (List.replicate n ds).flatten
  | 0 => RpAll.nil
  | n + 1 => by
    rw [List.replicate_succ, List.replicate_succ, List.flatten_cons, List.flatten_cons]
    exact h.append (RpAll.rep h n)
theorem imp_repL {M : Md} : Imp2L M.K rRep fRepL := fun F H v w d e c Q s hv hw h q => by
  cases d with
  | lst xs =>
    cases e with
    | int k =>
      dsimp only [fRepL] at h
      split at h
      · rename_i hz
        cases h
        obtain ⟨a, vs, rfl, ha, ra⟩ := Bor.lst (M := M) hv s
        have ek := rp_int hw
        subst ek
        exact ⟨a, k, vs, rfl, rfl, ha, by omega, by omega, by rw [ra.length]; exact hz.2.2, fun p hp => q p _ hp (ra.rep _)⟩
      · cases h
    | _ => cases h
  | _ => cases h
/-- t * k -/
def fRepT : D → D → Option D
  | .tup xs, .int k => if xs ≠ [] ∧ 2 ≤ k ∧ k ≤ 1000 ∧ xs.length ≤ 1000 ∧ brs (List.replicate k.toNat xs).flatten = false then some (.tup (List.replicate k.toNat xs).flatten) else none
  | _, _ => none
theorem imp_repT {K : PySem.W.Frag} : Imp2 K (rRepT K) fRepT := fun F H v w d e c Q s hv hw h q => by
  cases d with
  | tup xs =>
    cases e with
    | int k =>
      dsimp only [fRepT] at h
      split at h
      · rename_i hz
        cases h
        obtain ⟨a, vs, rfl, ha, ra⟩ := hv.tup s
        have ek := rp_int hw
        subst ek
        refine ⟨a, k, vs, rfl, rfl, ha, fun e0 => hz.1 ?_, hz.2.1, hz.2.2.1, by rw [ra.length]; exact hz.2.2.2.1, fun p hp => ?_⟩
        · have := ra.length; rw [e0] at this; exact List.eq_nil_of_length_eq_zero this.symm
        · have n := New.tup s hp (.tup (List.replicate k.toNat vs).flatten)
          refine q _ _ _ n ?_
          unfold Rp
          exact ⟨p, _, rfl, Or.inl ⟨hz.2.2.2.2, upd_same⟩, RpAll.rep (RpAll.mono n.fr _ _ ra) _⟩
      · cases h
    | _ => cases h
  | _ => cases h

/-! ### ==, in, is -/
def peq (a b : D) : Bool := PyData.eqv a.py b.py
abbrev dep (a : D) : Nat := a.py.depth
/-- how deep data may be that are compared -/
def deepest : Nat := 190
def fEq : D → D → Option D := fun a b => if min (dep a) (dep b) ≤ deepest then some (.bl (peq a b)) else none
def fNe : D → D → Option D := fun a b => if min (dep a) (dep b) ≤ deepest then some (.bl (!peq a b)) else none
def rEqA (K : PySem.W.Frag) : R2 := fun x y H Q => ∃ d e : D, Rp K H x d ∧ Rp K H y e ∧ min (dep d) (dep e) ≤ deepest ∧ Q (.bl (peq d e)) H
def rNeA (K : PySem.W.Frag) : R2 := fun x y H Q => ∃ d e : D, Rp K H x d ∧ Rp K H y e ∧ min (dep d) (dep e) ≤ deepest ∧ Q (.bl (!peq d e)) H
def itemsOf : D → Option (List D)
  | .lst xs => some xs
  | .scr xs => some xs
  | .tup xs => some xs
  | _ => none
def fIn (neg : Bool) : D → D → Option D := fun a c => (itemsOf c).bind fun xs => if min (PyData.depthAll (D.pys xs)) (dep a) ≤ deepest then some (.bl ((xs.any fun z => peq z a) != neg)) else none
def rInA (K : PySem.W.Frag) (neg : Bool) : R2 := fun x y H Q => ∃ (d c : D) (xs : List D), Rp K H x d ∧ Rp K H y c ∧ itemsOf c = some xs ∧ min (PyData.depthAll (D.pys xs)) (dep d) ≤ deepest ∧ Q (.bl ((xs.any fun z => peq z d) != neg)) H
section
variable {X : Cx}
theorem op_eqA {k : Nat} (hr : Room k X.A) : OpR X (compareOp .Eq) (rEqA X.K) := by
  intro pins s σ H x y v u Q I rx ry h
  obtain ⟨d, e, hd, he, hz, q⟩ := h
  obtain ⟨as, r1⟩ := Dp.reads I d.py x v (Rp.dp _ _ hd) rx
  obtain ⟨bs, r2⟩ := Dp.reads I e.py y u (Rp.dp _ _ he) ry
  have hu := hr.un
  exact SeqAt.compareEq_reads r1 r2 d.lay e.lay (by unfold deepest at hz; show X.A.units + min (dep d) (dep e) < cLine; omega) ⟨.bl _, H, I, rfl, q⟩
theorem op_neA {k : Nat} (hr : Room k X.A) : OpR X (compareOp .NotEq) (rNeA X.K) := by
  intro pins s σ H x y v u Q I rx ry h
  obtain ⟨d, e, hd, he, hz, q⟩ := h
  obtain ⟨as, r1⟩ := Dp.reads I d.py x v (Rp.dp _ _ hd) rx
  obtain ⟨bs, r2⟩ := Dp.reads I e.py y u (Rp.dp _ _ he) ry
  have hu := hr.un
  exact SeqAt.compareNe_reads r1 r2 d.lay e.lay (by unfold deepest at hz; show X.A.units + min (dep d) (dep e) < cLine; omega) ⟨.bl _, H, I, rfl, q⟩
theorem any_pys (xs : List D) (a : D) : (D.pys xs).any (fun y => PyData.eqv y a.py) = xs.any fun z => peq z a := by
  rw [D.pys_eq, List.any_map]
  rfl
theorem op_inA {k : Nat} (hr : Room k X.A) : OpR X (compareOp .In) (rInA X.K false) := by
  intro pins s σ H x y v u Q I rx ry h
  obtain ⟨d, c, xs, hd, hc, hi, hz, q⟩ := h
  obtain ⟨as, r1⟩ := Dp.reads I d.py x v (Rp.dp _ _ hd) rx
  obtain ⟨bs, r2⟩ := Dp.reads I c.py y u (Rp.dp _ _ hc) ry
  have hu := hr.un
  rw [Bool.bne_false] at q
  cases c <;> first | cases hi | skip
  · exact SeqAt.in_tuple_reads (xs := D.pys xs) r2 r1 (D.lays xs) d.lay (by unfold deepest at hz; show X.A.units + 1 + min (PyData.depthAll (D.pys xs)) (dep d) < cLine; omega) ⟨.bl _, H, I, by rw [any_pys]; rfl, q⟩
  · exact SeqAt.in_list_reads (xs := D.pys xs) r2 r1 (D.lays xs) d.lay (by unfold deepest at hz; show X.A.units + 1 + min (PyData.depthAll (D.pys xs)) (dep d) < cLine; omega) ⟨.bl _, H, I, by rw [any_pys]; rfl, q⟩
  · exact SeqAt.in_list_reads (xs := D.pys xs) r2 r1 (D.lays xs) d.lay (by unfold deepest at hz; show X.A.units + 1 + min (PyData.depthAll (D.pys xs)) (dep d) < cLine; omega) ⟨.bl _, H, I, by rw [any_pys]; rfl, q⟩
theorem op_niA {k : Nat} (hr : Room k X.A) : OpR X (compareOp .NotIn) (rInA X.K true) := by
  intro pins s σ H x y v u Q I rx ry h
  obtain ⟨d, c, xs, hd, hc, hi, hz, q⟩ := h
  obtain ⟨as, r1⟩ := Dp.reads I d.py x v (Rp.dp _ _ hd) rx
  obtain ⟨bs, r2⟩ := Dp.reads I c.py y u (Rp.dp _ _ hc) ry
  have hu := hr.un
  rw [Bool.bne_true] at q
  cases c <;> first | cases hi | skip
  · exact SeqAt.notIn_tuple_reads (xs := D.pys xs) r2 r1 (D.lays xs) d.lay (by unfold deepest at hz; show X.A.units + 1 + min (PyData.depthAll (D.pys xs)) (dep d) < cLine; omega) ⟨.bl _, H, I, by rw [any_pys]; rfl, q⟩
  · exact SeqAt.notIn_list_reads (xs := D.pys xs) r2 r1 (D.lays xs) d.lay (by unfold deepest at hz; show X.A.units + 1 + min (PyData.depthAll (D.pys xs)) (dep d) < cLine; omega) ⟨.bl _, H, I, by rw [any_pys]; rfl, q⟩
  · exact SeqAt.notIn_list_reads (xs := D.pys xs) r2 r1 (D.lays xs) d.lay (by unfold deepest at hz; show X.A.units + 1 + min (PyData.depthAll (D.pys xs)) (dep d) < cLine; omega) ⟨.bl _, H, I, by rw [any_pys]; rfl, q⟩
end
theorem imp_eq {K : PySem.W.Frag} : Imp2 K (rEqA K) fEq := fun F H v w d e c Q s hv hw h q => by
  unfold fEq at h
  split at h
  · rename_i hz
    cases h
    exact ⟨d, e, hv.all s, hw.all s, hz, q _ H F (.refl s) (by unfold Rp; rfl)⟩
  · cases h
theorem imp_ne {K : PySem.W.Frag} : Imp2 K (rNeA K) fNe := fun F H v w d e c Q s hv hw h q => by
  unfold fNe at h
  split at h
  · rename_i hz
    cases h
    exact ⟨d, e, hv.all s, hw.all s, hz, q _ H F (.refl s) (by unfold Rp; rfl)⟩
  · cases h
theorem imp_in {K : PySem.W.Frag} (neg : Bool) : Imp2 K (rInA K neg) (fIn neg) := fun F H v w d e c Q s hv hw h q => by
  unfold fIn at h
  obtain ⟨xs, e1, h⟩ := Option.bind_eq_some_iff.mp h
  split at h
  · rename_i hz
    cases h
    exact ⟨d, e, xs, hv.all s, hw.all s, e1, hz, q _ H F (.refl s) (by unfold Rp; rfl)⟩
  · cases h
def isNon : D → Bool
  | .non => true
  | _ => false
def fIsN : D → D → Option D
  | a, .non => some (.bl (isNon a))
  | _, _ => none
def fNotN : D → D → Option D
  | a, .non => some (.bl (!isNon a))
  | _, _ => none
theorem isNon_V {K : PySem.W.Frag} {F : Hp} {v : V} {d : D} (h : Rp K F v d) : decide (v = .non) = isNon d := by
  cases d <;> unfold Rp at h
  · subst h; rfl
  · subst h; rfl
  · subst h; rfl
  · subst h; rfl
  · obtain ⟨a, vs, rfl, _⟩ := h; rfl
  · obtain ⟨a, vs, rfl, _⟩ := h; rfl
  · obtain ⟨a, vs, rfl, _⟩ := h; rfl
theorem imp_isN {K : PySem.W.Frag} : Imp2 K (fun x y H Q => y = .non ∧ Q (.bl (decide (x = .non))) H) fIsN := fun F H v w d e c Q s hv hw h q => by
  cases e <;> first | cases h | skip
  have hw := hw.rp (fun ds q => by cases q)
  unfold Rp at hw
  refine ⟨hw, q _ H F (.refl s) ?_⟩
  unfold Rp
  rw [isNon_V (hv.all s)]
theorem imp_notN {K : PySem.W.Frag} : Imp2 K (fun x y H Q => y = .non ∧ Q (.bl (!decide (x = .non))) H) fNotN := fun F H v w d e c Q s hv hw h q => by
  cases e <;> first | cases h | skip
  have hw := hw.rp (fun ds q => by cases q)
  unfold Rp at hw
  refine ⟨hw, q _ H F (.refl s) ?_⟩
  unfold Rp
  rw [isNon_V (hv.all s)]

/-! ### subscripts, slices -/
def fIx : D → D → Option D
  | .lst xs, .int i => atI xs i
  | .tup xs, .int i => atI xs i
  | _, _ => none
theorem RpAll.atI {K : PySem.W.Frag} {F : Hp} {vs : List V} {ds : List D} {i : Int} {d : D} (r : RpAll K F vs ds) (h : L2.atI ds i = some d) : ∃ v, L2.atI vs i = some v ∧ Rp K F v d := by
  unfold L2.atI at h ⊢
  rw [r.length]
  obtain ⟨j, e1, e2⟩ := Option.bind_eq_some_iff.mp h
  obtain ⟨v, e3, q⟩ := r.get e2
  exact ⟨v, by rw [e1]; exact e3, q⟩
theorem imp_ix {M : Md} : Imp2 M.K (rIx M.K) fIx := fun F H v w d e c Q s hv hw h q => by
  cases d <;> first | (cases e <;> cases h; done) | skip
  · cases e <;> first | cases h | skip
    obtain ⟨a, vs, rfl, ha, ra⟩ := hv.tup s
    have ek := rp_int hw
    subst ek
    obtain ⟨u, e1, ru⟩ := ra.atI h
    exact .inr (.inl ⟨a, vs, _, u, rfl, rfl, ha, e1, q u H F (.refl s) ru⟩)
  · cases e <;> first | cases h | skip
    obtain ⟨a, vs, rfl, ha, ra⟩ := Bor.lst (M := M) hv s
    have ek := rp_int hw
    subst ek
    obtain ⟨u, e1, ru⟩ := ra.atI h
    exact .inl ⟨a, vs, _, u, rfl, rfl, SqL.of ha, e1, q u H F (.refl s) ru⟩

def cutD (xs : List D) (lo hi : Option Int) : List D := (xs.drop (HT.sIx xs.length 0 lo)).take (HT.sIx xs.length xs.length hi - HT.sIx xs.length 0 lo)
def fSlT (lo hi : Option Int) : D → Option D
  | .tup xs => some (.tup (cutD xs lo hi))
  | _ => none
def fSlL (lo hi : Option Int) : D → Option (List D)
  | .lst xs => some (cutD xs lo hi)
  | _ => none
/-- a slice's bound -/
def bEv : Option DE → Env → Option (Option Int × Env)
  | none, ρ => some (none, ρ)
  | some a, ρ => (a ρ).bind fun x => match x.1 with
    | .int i => some (some i, x.2)
    | _ => none
def tBd (M : Md) (b : Option DE) : TO := fun σ H Q => ∃ ρ F r ρ', Sim M ρ F σ H ∧ bEv b ρ = some (r, ρ') ∧ ∀ H' F', Sim M ρ' F' σ H' → Step ρ σ F H ρ' σ F' H' → Q r H'
abbrev Bd (M : Md) (X : Cx) (e : Option Expr) (b : Option DE) : Prop := PO X e (tBd M b)
def dSl (x : DO) (lo hi : Option DE) : DE := fun ρ => (x.ev ρ).bind fun a => (bEv lo a.2).bind fun l => (bEv hi l.2).bind fun h => (x.fin a.1 h.2).bind fun u => (fSlT l.1 h.1 u).bind fun c => some (c, h.2)
def sSl (x : DO) (lo hi : Option DE) : SE := fun ρ => (x.ev ρ).bind fun a => (bEv lo a.2).bind fun l => (bEv hi l.2).bind fun h => (x.fin a.1 h.2).bind fun u => (fSlL l.1 h.1 u).bind fun c => some (.own (.lst c) false, h.2)
section
variable {M : Md} {X : Cx} {a : Expr} {x : DO}
theorem _root_.L2.PO.imp {e : Option Expr} {t t' : TO} (h : PO X e t) (i : ∀ σ H Q, t' σ H Q → t σ H Q) : PO X e t' := ⟨fun pins s σ H Q I w => h.run pins s σ H Q I (i σ H Q w)⟩
theorem b_none : Bd M X none none := po_none.imp fun σ H Q ⟨ρ, F, r, ρ', S, e, q⟩ => by
  cases e
  exact q H F S .refl
theorem b_some {e : Expr} {b : DE} (h : Ex M X e b) : Bd M X (some e) (some b) := (po_some h).imp fun σ H Q ⟨ρ, F, r, ρ', S, e, q⟩ => by
  unfold bEv at e
  obtain ⟨⟨d, ρ1⟩, e1, e⟩ := Option.bind_eq_some_iff.mp e
  cases d with
  | int i =>
    cases e
    refine ⟨ρ, F, _, ρ1, S, e1, fun v H1 F1 S1 T1 r1 => ?_⟩
    unfold Rp at r1
    exact ⟨i, r1, q H1 F1 S1 T1⟩
  | _ => cases e
theorem RpAll.cut {K : PySem.W.Frag} {F : Hp} {vs : List V} {ds : List D} (r : RpAll K F vs ds) (lo hi : Option Int) : RpAll K F (cutV vs lo hi) (cutD ds lo hi) := by
  unfold cutV cutD
  rw [r.length]
  exact (r.drop _).take _
theorem cut_whole {ds : List D} {lo hi : Option Int} (h : HT.sIx ds.length 0 lo = 0 ∧ HT.sIx ds.length ds.length hi = ds.length) : cutD ds lo hi = ds := by
  unfold cutD
  rw [h.1, h.2]
  simp
theorem x_slT {l h : Option Expr} {lo hi : Option DE} {pos p2} (ha : Opd M X a x) (hl : Bd M X l lo) (hh : Bd M X h hi) (hK : X.K = M.K) : Ex M X (.Subscript a (.Slice l h none p2) pos) (dSl x lo hi) :=
  (pe_slice sl_tupM ha.run hl hh).imp fun σ H Q ⟨ρ, F, d, ρ', S, e, q⟩ => by
    unfold dSl at e
    obtain ⟨⟨r1, ρ1⟩, e1, e⟩ := Option.bind_eq_some_iff.mp e
    obtain ⟨⟨r2, ρ2⟩, e2, e⟩ := Option.bind_eq_some_iff.mp e
    obtain ⟨⟨r3, ρ3⟩, e3, e⟩ := Option.bind_eq_some_iff.mp e
    obtain ⟨u, e4, e⟩ := Option.bind_eq_some_iff.mp e
    obtain ⟨c, e5, e⟩ := Option.bind_eq_some_iff.mp e
    cases e
    refine ⟨ρ, F, r1, ρ1, S, e1, fun v H1 F1 S1 T1 h1 => ⟨ρ1, F1, r2, ρ2, S1, e2, fun H2 F2 S2 T2 => ⟨ρ2, F2, r3, ρ3, S2, e3, fun H3 F3 S3 T3 => ?_⟩⟩⟩
    have hb := ((h1.mono T2.fr).mono T3.fr).bor S3 e4
    have TT := (T1.trans T2).trans T3
    cases u <;> first | cases e5 | skip
    rename_i xs
    have hv := hb.rp (fun ds q => by cases q)
    obtain ⟨b, vs, rfl, hs, rs⟩ := hb.tup S3.sub
    rw [hK]
    refine ⟨b, vs, rfl, hs, fun hw => ?_, fun _ => ?_⟩
    · rw [rs.length] at hw
      rw [cut_whole hw] at q
      exact q _ H3 F3 S3 TT hv
    · refine (rs.cut r2 r3).mkT S3.sub fun u H4 F4 n r4 => ?_
      obtain ⟨S4, T4⟩ := S3.new n
      exact q u H4 F4 S4 (TT.trans T4) r4
theorem s_slL {l h : Option Expr} {lo hi : Option DE} {pos p2} (ha : Opd M X a x) (hl : Bd M X l lo) (hh : Bd M X h hi) : Sx M X (.Subscript a (.Slice l h none p2) pos) (sSl x lo hi) :=
  (pe_slice sl_list ha.run hl hh).imp fun σ H Q ⟨ρ, F, d, ρ', S, e, q⟩ => by
    unfold sSl at e
    obtain ⟨⟨r1, ρ1⟩, e1, e⟩ := Option.bind_eq_some_iff.mp e
    obtain ⟨⟨r2, ρ2⟩, e2, e⟩ := Option.bind_eq_some_iff.mp e
    obtain ⟨⟨r3, ρ3⟩, e3, e⟩ := Option.bind_eq_some_iff.mp e
    obtain ⟨u, e4, e⟩ := Option.bind_eq_some_iff.mp e
    obtain ⟨c, e5, e⟩ := Option.bind_eq_some_iff.mp e
    cases e
    refine ⟨ρ, F, r1, ρ1, S, e1, fun v H1 F1 S1 T1 h1 => ⟨ρ1, F1, r2, ρ2, S1, e2, fun H2 F2 S2 T2 => ⟨ρ2, F2, r3, ρ3, S2, e3, fun H3 F3 S3 T3 => ?_⟩⟩⟩
    have hb := ((h1.mono T2.fr).mono T3.fr).bor S3 e4
    have TT := (T1.trans T2).trans T3
    cases u <;> first | cases e5 | skip
    obtain ⟨b, vs, rfl, hs, rs⟩ := hb.lst S3.sub
    refine ⟨b, vs, rfl, SqL.of hs, fun p hp => ?_⟩
    have n := New.obj S3.sub hp (.lst (cutV vs r2 r3))
    obtain ⟨S4, T4⟩ := S3.new n
    obtain ⟨f1, f2, f3⟩ := fresh_of S3 TT hp
    exact q (.ref p) _ F3 S4 (TT.trans T4) ⟨p, rfl, ⟨_, upd_same, rs.cut r2 r3⟩, f1, f2, f3⟩
end
end ET
set_option Elab.async false
set_option maxRecDepth 100000
/-! ET: built-in functions, sorted, tests, and / or / not, conditional expressions. -/
namespace ET
open PySem L2

/-! ### len, list, tuple, sum, any, all, min, max, int -/
def fLen : D → Option D := fun d => (itemsOf d).map fun xs => .int xs.length
def fListOf : D → Option (List D) := itemsOf
def fTupOf : D → Option D := fun d => (itemsOf d).map .tup
def intsOf : List D → Option (List Int)
  | [] => some []
  | .int i :: r => (intsOf r).map (i :: ·)
  | _ :: _ => none
def blsOf : List D → Option (List Bool)
  | [] => some []
  | .bl i :: r => (blsOf r).map (i :: ·)
  | _ :: _ => none
def lstOf : D → Option (List D)
  | .lst xs => some xs
  | _ => none
def fSum : D → Option D := fun d => (lstOf d).bind fun xs => (intsOf xs).map fun ns => .int ns.sum
def fAny : D → Option D := fun d => (lstOf d).bind fun xs => (blsOf xs).map fun ns => .bl (ns.any id)
def fAll : D → Option D := fun d => (lstOf d).bind fun xs => (blsOf xs).map fun ns => .bl (ns.all id)
def fMin : D → Option D := fun d => (lstOf d).bind fun xs => (intsOf xs).bind fun ns => ns.min?.map .int
def fMax : D → Option D := fun d => (lstOf d).bind fun xs => (intsOf xs).bind fun ns => ns.max?.map .int
def fIntOf : D → Option D
  | .int i => some (.int i)
  | .bl b => some (.int (if b then 1 else 0))
  | _ => none
theorem intsOf_map : ∀ ns : List Int, intsOf (ns.map .int) = some ns
  | [] => rfl
  | n :: ns => by rw [List.map_cons, intsOf, intsOf_map ns]; rfl
theorem intsOf_eq : ∀ {xs : List D} {ns : List Int}, intsOf xs = some ns → xs = ns.map .int
  | [], ns, h => by cases h; rfl
  | .int i :: r, ns, h => by
    unfold intsOf at h
    obtain ⟨ms, e, q⟩ := Option.map_eq_some_iff.mp h
    subst q
    rw [intsOf_eq e]
    rfl
  | .non :: _, _, h => by cases h
  | .bl _ :: _, _, h => by cases h
  | .str _ :: _, _, h => by cases h
  | .tup _ :: _, _, h => by cases h
  | .lst _ :: _, _, h => by cases h
theorem blsOf_map : ∀ ns : List Bool, blsOf (ns.map .bl) = some ns
  | [] => rfl
  | n :: ns => by rw [List.map_cons, blsOf, blsOf_map ns]; rfl
theorem blsOf_eq : ∀ {xs : List D} {ns : List Bool}, blsOf xs = some ns → xs = ns.map .bl
  | [], ns, h => by cases h; rfl
  | .bl i :: r, ns, h => by
    unfold blsOf at h
    obtain ⟨ms, e, q⟩ := Option.map_eq_some_iff.mp h
    subst q
    rw [blsOf_eq e]
    rfl
  | .non :: _, _, h => by cases h
  | .int _ :: _, _, h => by cases h
  | .str _ :: _, _, h => by cases h
  | .tup _ :: _, _, h => by cases h
  | .lst _ :: _, _, h => by cases h
section
variable {M : Md} {X : Cx}
theorem Bor.items {K : PySem.W.Frag} {F H : Hp} {v : V} {d : D} {xs : List D} (h : Bor K F H v d) (e : itemsOf d = some xs) (s : Same F H) : ∃ a vs, v = .ref a ∧ (SqL K H a vs ∨ SqT K H a vs) ∧ RpAll K F vs xs := by
  cases d <;> cases e
  · obtain ⟨a, vs, q, t, r⟩ := h.tup s; exact ⟨a, vs, q, .inr t, r⟩
  · obtain ⟨a, vs, q, t, r⟩ := Bor.lst (M := ⟨K, fun _ => 0⟩) h s; exact ⟨a, vs, q, .inl (SqL.of t), r⟩
  · obtain ⟨a, vs, q, t, r⟩ := h.scr s; exact ⟨a, vs, q, .inl t, r⟩
theorem lstOf_eq {d : D} {xs : List D} (e : lstOf d = some xs) : d = .lst xs := by cases d <;> cases e; rfl
theorem Bor.ints {K : PySem.W.Frag} {F H : Hp} {v : V} {ns : List Int} (h : Bor K F H v (.lst (ns.map .int))) (s : Same F H) : ∃ a, v = .ref a ∧ SqL K H a (ns.map V.int) := by
  obtain ⟨a, vs, q, t, r⟩ := Bor.lst (M := ⟨K, fun _ => 0⟩) h s
  rw [r.ints] at t
  exact ⟨a, q, SqL.of t⟩
theorem Bor.bls {K : PySem.W.Frag} {F H : Hp} {v : V} {ns : List Bool} (h : Bor K F H v (.lst (ns.map .bl))) (s : Same F H) : ∃ a, v = .ref a ∧ SqL K H a (ns.map V.bl) := by
  obtain ⟨a, vs, q, t, r⟩ := Bor.lst (M := ⟨K, fun _ => 0⟩) h s
  rw [r.bls] at t
  exact ⟨a, q, SqL.of t⟩
theorem imp_len {K : PySem.W.Frag} : Imp1 K (fun xs H Q => ∃ p ys, xs = [.ref p] ∧ (SqL K H p ys ∨ SqT K H p ys) ∧ Q (.int ys.length) H) fLen := fun F H v d c Q s hv h q => by
  obtain ⟨xs, e1, e2⟩ := Option.map_eq_some_iff.mp h
  subst e2
  obtain ⟨a, vs, rfl, t, r⟩ := hv.items e1 s
  exact ⟨a, vs, rfl, t, q _ H F (.refl s) (by unfold Rp; rw [r.length])⟩
theorem imp_listOf {K : PySem.W.Frag} : Imp1L K (fun xs H Q => ∃ p ys, xs = [.ref p] ∧ (SqL K H p ys ∨ SqT K H p ys) ∧ ∀ l, H l = none → Q (.ref l) (upd H l (.lst ys))) fListOf := fun F H v d c Q s hv h q => by
  obtain ⟨a, vs, rfl, t, r⟩ := hv.items h s
  exact ⟨a, vs, rfl, t, fun l hl => q l vs hl r⟩
theorem imp_tupOf {M : Md} : Imp1 M.K (fun xs H Q => ∃ p ys, xs = [.ref p] ∧ ((SqL M.K H p ys ∧ mkT H ys Q) ∨ (SqT M.K H p ys ∧ Q (.ref p) H))) fTupOf := fun F H v d c Q s hv h q => by
  obtain ⟨xs, e1, e2⟩ := Option.map_eq_some_iff.mp h
  subst e2
  cases d <;> cases e1
  · obtain ⟨a, vs, rfl, t, r⟩ := hv.tup s
    exact ⟨a, vs, rfl, .inr ⟨t, q _ H F (.refl s) (hv.rp (fun ds q => by cases q))⟩⟩
  · obtain ⟨a, vs, rfl, t, r⟩ := Bor.lst (M := M) hv s
    exact ⟨a, vs, rfl, .inl ⟨SqL.of t, r.mkT s q⟩⟩
  · obtain ⟨a, vs, rfl, t, r⟩ := hv.scr s
    exact ⟨a, vs, rfl, .inl ⟨t, r.mkT s q⟩⟩
theorem imp_sum {K : PySem.W.Frag} : Imp1 K (rSum K) fSum := fun F H v d c Q s hv h q => by
  obtain ⟨xs, e1, h⟩ := Option.bind_eq_some_iff.mp h
  obtain ⟨ns, e2, e3⟩ := Option.map_eq_some_iff.mp h
  have e1 := lstOf_eq e1
  have e2 := intsOf_eq e2
  subst e1 e2 e3
  obtain ⟨a, rfl, t⟩ := hv.ints s
  exact ⟨a, ns, rfl, t, q _ H F (.refl s) (by unfold Rp; rfl)⟩
theorem imp_any {K : PySem.W.Frag} : Imp1 K (rAny K) fAny := fun F H v d c Q s hv h q => by
  obtain ⟨xs, e1, h⟩ := Option.bind_eq_some_iff.mp h
  obtain ⟨ns, e2, e3⟩ := Option.map_eq_some_iff.mp h
  have e1 := lstOf_eq e1
  have e2 := blsOf_eq e2
  subst e1 e2 e3
  obtain ⟨a, rfl, t⟩ := hv.bls s
  exact ⟨a, ns, rfl, t, q _ H F (.refl s) (by unfold Rp; rfl)⟩
theorem imp_all {K : PySem.W.Frag} : Imp1 K (rAll K) fAll := fun F H v d c Q s hv h q => by
  obtain ⟨xs, e1, h⟩ := Option.bind_eq_some_iff.mp h
  obtain ⟨ns, e2, e3⟩ := Option.map_eq_some_iff.mp h
  have e1 := lstOf_eq e1
  have e2 := blsOf_eq e2
  subst e1 e2 e3
  obtain ⟨a, rfl, t⟩ := hv.bls s
  exact ⟨a, ns, rfl, t, q _ H F (.refl s) (by unfold Rp; rfl)⟩
theorem min?_uniq {ns : List Int} {m k : Int} (h : ns.min? = some k) (h1 : m ∈ ns) (h2 : ∀ y ∈ ns, m ≤ y) : m = k := by
  have a := List.min?_eq_some_iff.mp h
  have b := h2 k a.1
  have c := a.2 m h1
  omega
theorem max?_uniq {ns : List Int} {m k : Int} (h : ns.max? = some k) (h1 : m ∈ ns) (h2 : ∀ y ∈ ns, y ≤ m) : m = k := by
  have a := List.max?_eq_some_iff.mp h
  have b := h2 k a.1
  have c := a.2 m h1
  omega
theorem imp_min {K : PySem.W.Frag} : Imp1 K (rMin K) fMin := fun F H v d c Q s hv h q => by
  obtain ⟨xs, e1, h⟩ := Option.bind_eq_some_iff.mp h
  obtain ⟨ns, e2, h⟩ := Option.bind_eq_some_iff.mp h
  obtain ⟨k, e3, e4⟩ := Option.map_eq_some_iff.mp h
  have e1 := lstOf_eq e1
  have e2 := intsOf_eq e2
  subst e1 e2 e4
  obtain ⟨a, rfl, t⟩ := hv.ints s
  refine ⟨a, ns, rfl, t, ?_, fun m h1 h2 => ?_⟩
  · cases ns with
    | nil => cases e3
    | cons _ _ => exact Nat.succ_pos _
  · rw [min?_uniq e3 h1 h2]
    exact q _ H F (.refl s) (by unfold Rp; rfl)
theorem imp_max {K : PySem.W.Frag} : Imp1 K (rMax K) fMax := fun F H v d c Q s hv h q => by
  obtain ⟨xs, e1, h⟩ := Option.bind_eq_some_iff.mp h
  obtain ⟨ns, e2, h⟩ := Option.bind_eq_some_iff.mp h
  obtain ⟨k, e3, e4⟩ := Option.map_eq_some_iff.mp h
  have e1 := lstOf_eq e1
  have e2 := intsOf_eq e2
  subst e1 e2 e4
  obtain ⟨a, rfl, t⟩ := hv.ints s
  refine ⟨a, ns, rfl, t, ?_, fun m h1 h2 => ?_⟩
  · cases ns with
    | nil => cases e3
    | cons _ _ => exact Nat.succ_pos _
  · rw [max?_uniq e3 h1 h2]
    exact q _ H F (.refl s) (by unfold Rp; rfl)
theorem imp_intOf {K : PySem.W.Frag} : Imp1 K (fun xs H Q => (∃ i, xs = [.int i] ∧ Q (.int i) H) ∨ ∃ k, xs = [.bl k] ∧ Q (.int (if k then 1 else 0)) H) fIntOf := fun F H v d c Q s hv h q => by
  cases d <;> cases h
  · have := hv.rp (fun ds q => by cases q)
    unfold Rp at this
    subst this
    exact .inr ⟨_, rfl, q _ H F (.refl s) (by unfold Rp; rfl)⟩
  · have := rp_int hv
    subst this
    exact .inl ⟨_, rfl, q _ H F (.refl s) (by unfold Rp; rfl)⟩
end

/-! ### sorted -/
/-- Python's order of data -/
noncomputable def leD (a b : D) : Bool := PySem.W.dataLe false D.py a b
def alikeD (a b : D) : Bool := PySem.W.alike a.py b.py
def kindS : D → Nat
  | .tup (_ :: _) => 1
  | .tup [] => 0
  | .non => 0
  | _ => 2
def sortable (xs : List D) : Bool := xs.all (fun a => xs.all fun b => alikeD a b) && (xs.all (fun a => kindS a == 1) || xs.all fun a => kindS a == 2) && xs.all (fun a => decide (dep a ≤ deepest)) && decide (xs.length ≤ sizeLine)
noncomputable def sortD (xs : List D) : List D := xs.mergeSort leD
noncomputable def fSorted : D → Option (List D) := fun d => (lstOf d).bind fun xs => if sortable xs = true then some (sortD xs) else none
def rSortD (K : PySem.W.Frag) : List V → Hp → VK → Prop := fun vs H Q => ∃ (a : Addr) (ws : List V) (ds : List D), vs = [V.ref a] ∧ SqL K H a ws ∧ RpAll K H ws ds ∧ sortable ds = true ∧
  ∀ p, H p = none → Q (.ref p) (upd H p (.lst ((ws.zip ds).mergeSort (fun x y => leD x.2 y.2) |>.map Prod.fst)))
theorem sortable_alike {xs : List D} (h : sortable xs = true) : ∀ a ∈ xs, ∀ b ∈ xs, alikeD a b = true := by
  unfold sortable at h
  simp only [Bool.and_eq_true] at h
  intro a ha b hb
  exact List.all_eq_true.mp (List.all_eq_true.mp h.1.1.1 a ha) b hb
theorem sortable_dep {xs : List D} (h : sortable xs = true) : ∀ a ∈ xs, dep a ≤ deepest := by
  unfold sortable at h
  simp only [Bool.and_eq_true] at h
  intro a ha
  exact of_decide_eq_true (List.all_eq_true.mp h.1.2 a ha)
theorem sortable_len {xs : List D} (h : sortable xs = true) : xs.length ≤ sizeLine := by
  unfold sortable at h
  simp only [Bool.and_eq_true] at h
  exact of_decide_eq_true h.2
theorem sortable_kind {xs : List D} (h : sortable xs = true) : PySem.W.Sortable (xs.map D.py) := by
  unfold sortable at h
  simp only [Bool.and_eq_true, Bool.or_eq_true] at h
  rcases h.1.1.2 with h | h
  · refine .inl fun d hd => ?_
    obtain ⟨x, hx, rfl⟩ := List.mem_map.mp hd
    have q := List.all_eq_true.mp h x hx
    cases x with
    | tup ys =>
      cases ys with
      | nil => cases q
      | cons y ys => exact ⟨y.py, D.pys ys, rfl⟩
    | _ => cases q
  · refine .inr fun d hd => ?_
    obtain ⟨x, hx, rfl⟩ := List.mem_map.mp hd
    have q := List.all_eq_true.mp h x hx
    cases x with
    | tup ys => cases ys <;> cases q
    | non => cases q
    | _ => exact ⟨(fun e => by cases e), (fun _ e => by cases e)⟩
theorem zip_snd {α β : Type} : ∀ {l : List α} {m : List β}, l.length = m.length → (l.zip m).map Prod.snd = m
  | [], [], _ => rfl
  | a :: l, b :: m, h => by rw [List.zip_cons_cons, List.map_cons, zip_snd (by simpa using h)]
  | [], _ :: _, h => by simp at h
  | _ :: _, [], h => by simp at h
theorem zip_fst {α β : Type} : ∀ {l : List α} {m : List β}, l.length = m.length → (l.zip m).map Prod.fst = l
  | [], [], _ => rfl
  | a :: l, b :: m, h => by rw [List.zip_cons_cons, List.map_cons, zip_fst (by simpa using h)]
  | [], _ :: _, h => by simp at h
  | _ :: _, [], h => by simp at h
theorem RpAll.zip {K : PySem.W.Frag} {F : Hp} : ∀ {ds : List D} {vs : List V}, RpAll K F vs ds → ∀ p ∈ vs.zip ds, Rp K F p.1 p.2
  | [], vs, r, p, h => by unfold RpAll at r; subst r; cases h
  | d :: ds, vs, r, p, h => by
    unfold RpAll at r
    obtain ⟨v, ws, rfl, r1, r2⟩ := r
    rw [List.zip_cons_cons] at h
    rcases List.mem_cons.mp h with rfl | h
    · exact r1
    · exact RpAll.zip r2 p h
theorem RpAll.of_pairs {K : PySem.W.Frag} {F : Hp} : ∀ {ps : List (V × D)}, (∀ p ∈ ps, Rp K F p.1 p.2) → RpAll K F (ps.map Prod.fst) (ps.map Prod.snd)
  | [], _ => RpAll.nil
  | p :: ps, h => RpAll.cons (h p List.mem_cons_self) (RpAll.of_pairs fun q hq => h q (List.mem_cons_of_mem _ hq))
theorem each_of_vals {X : Cx} {pins : List (Addr × Obj)} {σ : St} {H : Hp} {s : Shared} (I : Inv X pins σ H s) : ∀ {ws : List V} {us : List Value} {ds : List D}, Vals ws us → RpAll X.K H ws ds →
    PySem.W.EachIs (fun v (b : V × D) => RelV b.1 v) us (ws.zip ds) ∧ PySem.W.EachIs (fun v (b : V × D) => ∃ as, Reads s.heap v b.2.py as) us (ws.zip ds)
  | _, _, [], .nil, _ => ⟨.nil, .nil⟩
  | _, _, d :: ds, .nil, h => by unfold RpAll at h; obtain ⟨_, _, e, _⟩ := h; cases e
  | _, _, [], .cons _ _, h => by unfold RpAll at h; cases h
  | _, _, d :: ds, .cons r t, h => by
    unfold RpAll at h
    obtain ⟨v, ws', e, h1, h2⟩ := h
    cases e
    obtain ⟨e1, e2⟩ := each_of_vals I t h2
    exact ⟨.cons r e1, .cons (Dp.reads I d.py _ _ (Rp.dp _ _ h1) r) e2⟩
theorem vals_of_each : ∀ {us : List Value} {bs : List (V × D)}, PySem.W.EachIs (fun v (b : V × D) => RelV b.1 v) us bs → Vals (bs.map Prod.fst) us
  | _, _, .nil => .nil
  | _, _, .cons r t => .cons r (vals_of_each t)
theorem cr_sortD {X : Cx} {k : Nat} (hr : Room k X.A) : CallR X (.builtin "sorted") (rSortD X.K) := by
  intro pins s σ H vs us Q I r h
  obtain ⟨a, ws, ds, rfl, hs, hd, hk, q⟩ := h
  obtain ⟨its, rv, hl, hz⟩ := I.list hs
  rw [Vals.ref1 r]
  obtain ⟨e1, e2⟩ := each_of_vals I rv hd
  have hlen := hd.length
  have hmap : (ws.zip ds).map (fun b => b.2.py) = ds.map D.py := by
    have := congrArg (List.map D.py) (zip_snd hlen)
    rw [List.map_map] at this
    exact this
  have hu := hr.un
  refine PySem.W.sorted_data (enc := fun b : V × D => b.2.py) (bs := ws.zip ds) hl.isList e1 e2 ?_ ?_ ?_ ?_ fun out h1 h2 => ?_
  · rw [hmap]
    intro x hx y hy
    obtain ⟨x', hx', rfl⟩ := List.mem_map.mp hx
    obtain ⟨y', hy', rfl⟩ := List.mem_map.mp hy
    exact sortable_alike hk x' hx' y' hy'
  · rw [hmap]; exact sortable_kind hk
  · rw [List.length_zip, hlen, Nat.min_self]; exact sortable_len hk
  · intro b hb
    have := sortable_dep hk b.2 (List.of_mem_zip hb).2
    unfold deepest at this
    show X.A.units + 2 + dep b.2 < cLine
    omega
  · obtain ⟨ep, he'⟩ := PyProof.Rows.sortedAll_at s.heap its out.toArray
    have hv := vals_of_each h2
    refine ⟨.ref _, upd H (s.heap.objs.size + 1) (.lst _), I.laid (t' := s.toks) (fun _ _ => PyProof.Rows.sortedAll_old) (Nat.le_succ _) ⟨?_, out, ep, hv, he'⟩, rfl, q _ (I.hok.fresh (Nat.le_succ _))⟩
    rw [List.length_map, List.length_mergeSort, List.length_zip, hlen, Nat.min_self]
    exact sortable_len hk
theorem sort_map {α : Type} {f : α → D} (l : List α) : (l.mergeSort (fun x y => leD (f x) (f y))).map f = (l.map f).mergeSort leD := by
  exact List.map_mergeSort fun a _ b _ => rfl
theorem imp_sorted {K : PySem.W.Frag} : Imp1L K (rSortD K) fSorted := fun F H v d c Q s hv h q => by
  obtain ⟨xs, e1, h'⟩ := Option.bind_eq_some_iff.mp h
  have e1 := lstOf_eq e1
  subst e1
  clear h
  split at h'
  · rename_i hk
    cases h'
    obtain ⟨a, vs, rfl, t, r⟩ := Bor.lst (M := ⟨K, fun _ => 0⟩) hv s
    refine ⟨a, vs, xs, rfl, SqL.of t, RpAll.mono s _ _ r, hk, fun p hp => q p _ hp ?_⟩
    have e : sortD xs = ((vs.zip xs).mergeSort (fun x y => leD x.2 y.2)).map Prod.snd := by
      rw [sort_map (f := Prod.snd), zip_snd r.length]
      rfl
    rw [e]
    exact RpAll.of_pairs fun p hp => r.zip p ((List.mergeSort_perm _ _).mem_iff.mp hp)
  · cases h'

/-! ### tests -/
def tAndD (a b : DT) : DT := fun ρ => (a ρ).bind fun x => if x.1 = true then b x.2 else some (false, x.2)
def tOrD (a b : DT) : DT := fun ρ => (a ρ).bind fun x => if x.1 = true then some (true, x.2) else b x.2
def tNotD (a : DT) : DT := fun ρ => (a ρ).bind fun x => some (!x.1, x.2)
def dIf (c : DT) (a b : DE) : DE := fun ρ => (c ρ).bind fun x => if x.1 = true then a x.2 else b x.2
def sIf (c : DT) (a b : SE) : SE := fun ρ => (c ρ).bind fun x => if x.1 = true then a x.2 else b x.2
abbrev Tw (M : Md) (X : Cx) (e : Expr) (a : DT) : Prop := PW X e (tDT M a)
section
variable {M : Md} {X : Cx} {a b c : Expr} {rest : List Expr} {pos : Pos} {x y : DT}
theorem w_and1 (ha : Te M X a x) : Tw M X (.BoolOp .And [a] pos) x := pw_and1 ha
theorem w_or1 (ha : Te M X a x) : Tw M X (.BoolOp .Or [a] pos) x := pw_or1 ha
theorem w_and (ha : Te M X a x) (hb : Tw M X (.BoolOp .And (b :: rest) pos) y) : Tw M X (.BoolOp .And (a :: b :: rest) pos) (tAndD x y) := (pw_and ha hb).imp fun σ H Q ⟨ρ, F, d, ρ', S, e, q⟩ => by
  unfold tAndD at e
  obtain ⟨⟨k, ρ1⟩, e1, e⟩ := Option.bind_eq_some_iff.mp e
  refine ⟨ρ, F, k, ρ1, S, e1, fun H1 F1 S1 T1 => ?_⟩
  cases k with
  | true =>
    rw [if_pos rfl] at e ⊢
    exact ⟨ρ1, F1, d, ρ', S1, e, fun H2 F2 S2 T2 => q H2 F2 S2 (T1.trans T2)⟩
  | false =>
    rw [if_neg Bool.false_ne_true] at e ⊢
    cases e
    exact q H1 F1 S1 T1
theorem w_or (ha : Te M X a x) (hb : Tw M X (.BoolOp .Or (b :: rest) pos) y) : Tw M X (.BoolOp .Or (a :: b :: rest) pos) (tOrD x y) := (pw_or ha hb).imp fun σ H Q ⟨ρ, F, d, ρ', S, e, q⟩ => by
  unfold tOrD at e
  obtain ⟨⟨k, ρ1⟩, e1, e⟩ := Option.bind_eq_some_iff.mp e
  refine ⟨ρ, F, k, ρ1, S, e1, fun H1 F1 S1 T1 => ?_⟩
  cases k with
  | false =>
    rw [if_neg Bool.false_ne_true] at e ⊢
    exact ⟨ρ1, F1, d, ρ', S1, e, fun H2 F2 S2 T2 => q H2 F2 S2 (T1.trans T2)⟩
  | true =>
    rw [if_pos rfl] at e ⊢
    cases e
    exact q H1 F1 S1 T1
theorem t_w (h : Tw M X a x) : Te M X a x := h.pt
theorem t_not (ha : Te M X a x) : Te M X (.UnaryOp .Not a pos) (tNotD x) := (pt_not ha).imp fun σ H Q ⟨ρ, F, d, ρ', S, e, q⟩ => by
  unfold tNotD at e
  obtain ⟨⟨k, ρ1⟩, e1, e⟩ := Option.bind_eq_some_iff.mp e
  cases e
  exact ⟨ρ, F, k, _, S, e1, fun H1 F1 S1 T1 => q H1 F1 S1 T1⟩
/-- and, or, not as values -/
def dOf (a : DT) : DE := fun ρ => (a ρ).bind fun x => some (.bl x.1, x.2)
def dAndV (a b : DE) : DE := fun ρ => (tOf a ρ).bind fun x => if x.1 = true then b x.2 else some (.bl false, x.2)
def dOrV (a b : DE) : DE := fun ρ => (tOf a ρ).bind fun x => if x.1 = true then some (.bl true, x.2) else b x.2
def dNotV (a : DE) : DE := fun ρ => (tOf a ρ).bind fun x => some (.bl (!x.1), x.2)
theorem x_one {op} {u : DE} (h : Ex M X a u) : Ex M X (.BoolOp op [a] pos) u := pe_one h
theorem x_and {u w : DE} (ha : Ex M X a u) (hb : Ex M X (.BoolOp .And (b :: rest) pos) w) : Ex M X (.BoolOp .And (a :: b :: rest) pos) (dAndV u w) := (pe_and ha hb).imp fun σ H Q ⟨ρ, F, d, ρ', S, e, q⟩ => by
  unfold dAndV at e
  obtain ⟨⟨k, ρ1⟩, e1, e⟩ := Option.bind_eq_some_iff.mp e
  refine tOf_tD ⟨ρ, F, k, ρ1, S, e1, fun H1 F1 S1 T1 => ?_⟩
  cases k with
  | true =>
    rw [if_pos rfl] at e ⊢
    exact ⟨ρ1, F1, d, ρ', S1, e, fun v H2 F2 S2 T2 r2 => q v H2 F2 S2 (T1.trans T2) r2⟩
  | false =>
    rw [if_neg Bool.false_ne_true] at e ⊢
    cases e
    exact q _ H1 F1 S1 T1 (by unfold Rp; rfl)
theorem x_or {u w : DE} (ha : Ex M X a u) (hb : Ex M X (.BoolOp .Or (b :: rest) pos) w) : Ex M X (.BoolOp .Or (a :: b :: rest) pos) (dOrV u w) := (pe_or ha hb).imp fun σ H Q ⟨ρ, F, d, ρ', S, e, q⟩ => by
  unfold dOrV at e
  obtain ⟨⟨k, ρ1⟩, e1, e⟩ := Option.bind_eq_some_iff.mp e
  refine tOf_tD ⟨ρ, F, k, ρ1, S, e1, fun H1 F1 S1 T1 => ?_⟩
  cases k with
  | false =>
    rw [if_neg Bool.false_ne_true] at e ⊢
    exact ⟨ρ1, F1, d, ρ', S1, e, fun v H2 F2 S2 T2 r2 => q v H2 F2 S2 (T1.trans T2) r2⟩
  | true =>
    rw [if_pos rfl] at e ⊢
    cases e
    exact q _ H1 F1 S1 T1 (by unfold Rp; rfl)
theorem x_not {u : DE} (ha : Ex M X a u) : Ex M X (.UnaryOp .Not a pos) (dNotV u) := (pe_not ha).imp fun σ H Q ⟨ρ, F, d, ρ', S, e, q⟩ => by
  unfold dNotV at e
  obtain ⟨⟨k, ρ1⟩, e1, e⟩ := Option.bind_eq_some_iff.mp e
  cases e
  exact tOf_tD ⟨ρ, F, k, _, S, e1, fun H1 F1 S1 T1 => q _ H1 F1 S1 T1 (by unfold Rp; rfl)⟩
theorem x_if {k : DT} {u w : DE} (hc : Te M X c k) (ha : Ex M X a u) (hb : Ex M X b w) : Ex M X (.IfExp c a b pos) (dIf k u w) := (pe_ifExp hc ha hb).imp fun σ H Q ⟨ρ, F, d, ρ', S, e, q⟩ => by
  unfold dIf at e
  obtain ⟨⟨k, ρ1⟩, e1, e⟩ := Option.bind_eq_some_iff.mp e
  refine ⟨ρ, F, k, ρ1, S, e1, fun H1 F1 S1 T1 => ?_⟩
  cases k with
  | true =>
    rw [if_pos rfl] at e ⊢
    exact ⟨ρ1, F1, d, ρ', S1, e, fun v H2 F2 S2 T2 r2 => q v H2 F2 S2 (T1.trans T2) r2⟩
  | false =>
    rw [if_neg Bool.false_ne_true] at e ⊢
    exact ⟨ρ1, F1, d, ρ', S1, e, fun v H2 F2 S2 T2 r2 => q v H2 F2 S2 (T1.trans T2) r2⟩
end
end ET
set_option Elab.async false
set_option maxRecDepth 100000
/-! ET: statements, targets, loops. -/
namespace ET
open PySem L2

inductive Res where
  | nx (ρ : Env)
  | rt (s : Sl) (ρ : Env)
  | bk (ρ : Env)
  | ct (ρ : Env)
abbrev DS := Env → Option Res

/-- new since (ρ, σ, H), or given up by a name of then -/
def Nw (ρ : Env) (σ : St) (H : Hp) (a : Addr) : Prop := H a = none ∨ OwnN ρ σ a
theorem Step.nw {ρ ρ1 : Env} {σ σ1 : St} {F F1 H H1 : Hp} (T : Step ρ σ F H ρ1 σ1 F1 H1) {a : Addr} (h : Nw ρ1 σ1 H1 a) : Nw ρ σ H a := by
  rcases h with h | h
  · refine .inl ?_
    cases e : H a with
    | none => rfl
    | some o => obtain ⟨o', q'⟩ := T.there a o e; rw [h] at q'; cases q'
  · exact (T.ownN a h).elim .inr .inl
def RetAt (M : Md) (ρ : Env) (σ : St) (H F' H' : Hp) (v : V) : Sl → Prop
  | .val d => Rp M.K F' v d
  | .own o _ => ∃ a, v = .ref a ∧ OwnAt M F' H' a o ∧ F' a = none ∧ Nw ρ σ H a
theorem RetAt.back {M : Md} {ρ ρ1 : Env} {σ σ1 : St} {F F1 H H1 F' H' : Hp} {v : V} {s : Sl} (T : Step ρ σ F H ρ1 σ1 F1 H1) (h : RetAt M ρ1 σ1 H1 F' H' v s) : RetAt M ρ σ H F' H' v s := by
  cases s with
  | val d => exact h
  | own o io => obtain ⟨a, e, q, f, n⟩ := h; exact ⟨a, e, q, f, T.nw n⟩
/-- what is wanted behind r -/
def Aft (M : Md) (D : Ends) (ρ : Env) (σ : St) (F H : Hp) : Res → Prop
  | .nx ρ' => ∀ σ' H' F', Sim M ρ' F' σ' H' → Step ρ σ F H ρ' σ' F' H' → D.nx σ' H'
  | .rt s ρ' => ∀ v σ' H' F', Sim M ρ' F' σ' H' → Step ρ σ F H ρ' σ' F' H' → RetAt M ρ σ H F' H' v s → D.rt v H'
  | .bk ρ' => ∀ σ' H' F', Sim M ρ' F' σ' H' → Step ρ σ F H ρ' σ' F' H' → D.bk σ' H'
  | .ct ρ' => ∀ σ' H' F', Sim M ρ' F' σ' H' → Step ρ σ F H ρ' σ' F' H' → D.ct σ' H'
def tS (M : Md) (b : DS) : TS := fun D σ H => ∃ ρ F r, Sim M ρ F σ H ∧ b ρ = some r ∧ Aft M D ρ σ F H r
abbrev Sm (M : Md) (X : Cx) (st : Stmt) (b : DS) : Prop := PS X st (tS M b)
abbrev Ss (M : Md) (X : Cx) (st : List Stmt) (b : DS) : Prop := PSs X st (tS M b)
/-- behind a first step -/
theorem Aft.after {M : Md} {D D' : Ends} {ρ ρ1 : Env} {σ σ1 : St} {F F1 H H1 : Hp} {r : Res} (T : Step ρ σ F H ρ1 σ1 F1 H1) (h : Aft M D ρ σ F H r)
    (n : ∀ σ H, D.nx σ H → D'.nx σ H) (t : ∀ v H, D.rt v H → D'.rt v H) (b : ∀ σ H, D.bk σ H → D'.bk σ H) (c : ∀ σ H, D.ct σ H → D'.ct σ H) : Aft M D' ρ1 σ1 F1 H1 r := by
  cases r with
  | nx ρ' => exact fun σ' H' F' S' T' => n _ _ (h σ' H' F' S' (T.trans T'))
  | rt s ρ' => exact fun v σ' H' F' S' T' q => t _ _ (h v σ' H' F' S' (T.trans T') (q.back T))
  | bk ρ' => exact fun σ' H' F' S' T' => b _ _ (h σ' H' F' S' (T.trans T'))
  | ct ρ' => exact fun σ' H' F' S' T' => c _ _ (h σ' H' F' S' (T.trans T'))
theorem Aft.then {M : Md} {D : Ends} {ρ ρ1 : Env} {σ σ1 : St} {F F1 H H1 : Hp} {r : Res} (T : Step ρ σ F H ρ1 σ1 F1 H1) (h : Aft M D ρ σ F H r) : Aft M D ρ1 σ1 F1 H1 r := h.after T (fun _ _ => id) (fun _ _ => id) (fun _ _ => id) (fun _ _ => id)

/-! ### blocks -/
def kNil : DS := fun ρ => some (.nx ρ)
def kSeq (a b : DS) : DS := fun ρ => (a ρ).bind fun r => match r with
  | .nx ρ' => b ρ'
  | r => some r
section
variable {M : Md} {X : Cx} {st : Stmt} {rest : List Stmt} {a b : DS} {pos : Pos}
theorem k_nil : Ss M X [] kNil := pss_nil.imp fun D σ H ⟨ρ, F, r, S, e, q⟩ => by
  cases e
  exact q σ H F S .refl
theorem k_cons (h : Sm M X st a) (t : Ss M X rest b) : Ss M X (st :: rest) (kSeq a b) := (pss_cons h t).imp fun D σ H ⟨ρ, F, r, S, e, q⟩ => by
  unfold kSeq at e
  obtain ⟨r1, e1, e⟩ := Option.bind_eq_some_iff.mp e
  refine ⟨ρ, F, r1, S, e1, ?_⟩
  cases r1 with
  | nx ρ1 => exact fun σ1 H1 F1 S1 T1 => ⟨ρ1, F1, r, S1, e, q.then T1⟩
  | rt s ρ1 => cases e; exact q
  | bk ρ1 => cases e; exact q
  | ct ρ1 => cases e; exact q
theorem k_one (h : Sm M X st a) : Ss M X [st] a := pss_one h
theorem k_pass : Sm M X (.Pass pos) kNil := ps_pass.imp fun D σ H ⟨ρ, F, r, S, e, q⟩ => by
  cases e
  exact q σ H F S .refl
theorem k_doc {x j pos pos'} : Sm M X (.Expr (.Constant (.str x) j pos) pos') kNil := ps_doc.imp fun D σ H ⟨ρ, F, r, S, e, q⟩ => by
  cases e
  exact q σ H F S .refl
def kBrk : DS := fun ρ => some (.bk ρ)
def kCnt : DS := fun ρ => some (.ct ρ)
theorem k_brk : Sm M X (.Break pos) kBrk := ps_break.imp fun D σ H ⟨ρ, F, r, S, e, q⟩ => by
  cases e
  exact q σ H F S .refl
theorem k_cnt : Sm M X (.Continue pos) kCnt := ps_continue.imp fun D σ H ⟨ρ, F, r, S, e, q⟩ => by
  cases e
  exact q σ H F S .refl
/-- never reached -/
def kNo : DS := fun _ => none
theorem k_no : Sm M X st kNo := ps_never.imp fun D σ H ⟨ρ, F, r, S, e, q⟩ => by cases e
def kIf (c : DT) (a b : DS) : DS := fun ρ => (c ρ).bind fun x => if x.1 = true then a x.2 else b x.2
theorem k_if {c : Expr} {p q : List Stmt} {t : DT} (hc : Te M X c t) (ha : Ss M X p a) (hb : Ss M X q b) : Sm M X (.If c p q pos) (kIf t a b) := (ps_if hc ha hb).imp fun D σ H ⟨ρ, F, r, S, e, q⟩ => by
  unfold kIf at e
  obtain ⟨⟨k, ρ1⟩, e1, e⟩ := Option.bind_eq_some_iff.mp e
  refine ⟨ρ, F, k, ρ1, S, e1, fun H1 F1 S1 T1 => ?_⟩
  cases k with
  | true =>
    rw [if_pos rfl] at e ⊢
    exact ⟨ρ1, F1, r, S1, e, q.then T1⟩
  | false =>
    rw [if_neg Bool.false_ne_true] at e ⊢
    exact ⟨ρ1, F1, r, S1, e, q.then T1⟩
def kRet (s : SE) : DS := fun ρ => (s ρ).bind fun x => some (.rt x.1 x.2)
theorem k_ret {e : Expr} {s : SE} (h : Sx M X e s) : Sm M X (.Return (some e) pos) (kRet s) := (ps_ret h).imp fun D σ H ⟨ρ, F, r, S, e, q⟩ => by
  unfold kRet at e
  obtain ⟨⟨sl, ρ1⟩, e1, e⟩ := Option.bind_eq_some_iff.mp e
  cases e
  refine ⟨ρ, F, sl, ρ1, S, e1, fun v H1 F1 S1 T1 r1 => q v σ H1 F1 S1 T1 ?_⟩
  cases sl with
  | val d => exact r1
  | own o io => obtain ⟨a, e, q, f, n, _⟩ := r1; exact ⟨a, e, q, f, .inl n⟩
def kRetN : DS := fun ρ => some (.rt (.val .non) ρ)
theorem k_retN : Sm M X (.Return none pos) kRetN := ps_retN.imp fun D σ H ⟨ρ, F, r, S, e, q⟩ => by
  cases e
  refine q .non σ H F S .refl ?_
  show Rp M.K F .non .non
  unfold Rp; rfl
def kDrop (a : DE) : DS := fun ρ => (a ρ).bind fun x => some (.nx x.2)
theorem k_expr {e : Expr} {u : DE} (h : Ex M X e u) (hs : swapsWith e none pos.line X.env = pure false := by rfl) : Sm M X (.Expr e pos) (kDrop u) := (ps_expr h hs).imp fun D σ H ⟨ρ, F, r, S, e, q⟩ => by
  unfold kDrop at e
  obtain ⟨⟨d, ρ1⟩, e1, e⟩ := Option.bind_eq_some_iff.mp e
  cases e
  exact ⟨ρ, F, d, ρ1, S, e1, fun v H1 F1 S1 T1 _ => q σ H1 F1 S1 T1⟩
end

/-! ### a name is set -/
def Sl.fix : Sl → Sl
  | .own o _ => .own o false
  | s => s
def setSl (i : Nat) (s : Sl) (ρ : Env) : Option Env := match ρ[i]? with
  | none => none
  | some (some (.own _ true)) => none
  | some _ => some (ρ.set i (some s.fix))
section
variable {M : Md} {ρ0 ρ1 ρ2 : Env} {σ : St} {F0 F1 H0 H1 : Hp} {i : Nat} {s : Sl} {v : V}
theorem setSl_eq (h : setSl i s ρ1 = some ρ2) : i < ρ1.length ∧ ρ2 = ρ1.set i (some s.fix) ∧ ∀ o, ¬ Has ρ1 i o true := by
  unfold setSl at h
  split at h
  · cases h
  · cases h
  · rename_i x hn hx
    cases h
    refine ⟨(List.getElem?_eq_some_iff.mp hx).1, rfl, fun o z => ?_⟩
    unfold Has at z
    rw [hx] at z
    cases z
    exact hn o rfl
theorem Sim.set {σ0 : St} (S : Sim M ρ1 F1 σ H1) (T : Step ρ0 σ0 F0 H0 ρ1 σ F1 H1) (h : setSl i s ρ1 = some ρ2) (r : SlAt M ρ1 σ H0 F1 H1 v s) :
    Sim M ρ2 F1 (σ.set i (some v)) H1 ∧ Step ρ0 σ0 F0 H0 ρ2 (σ.set i (some v)) F1 H1 := by
  obtain ⟨hi, rfl, nio⟩ := setSl_eq h
  have hiσ : i < σ.length := by rw [← S.len]; exact hi
  have ne_get : ∀ {j : Nat}, j ≠ i → (ρ1.set i (some s.fix))[j]? = ρ1[j]? ∧ (σ.set i (some v))[j]? = σ[j]? := fun {j} hj =>
    ⟨List.getElem?_set_ne fun q => hj q.symm, List.getElem?_set_ne fun q => hj q.symm⟩
  have at_i : (ρ1.set i (some s.fix))[i]? = some (some s.fix) ∧ (σ.set i (some v))[i]? = some (some v) := ⟨List.getElem?_set_self hi, List.getElem?_set_self hiσ⟩
  -- an owner behind the store
  have own' : ∀ {j o io}, Has (ρ1.set i (some s.fix)) j o io → (j ≠ i ∧ Has ρ1 j o io) ∨ (j = i ∧ io = false ∧ ∃ io', s = .own o io') := fun {j o io} z => by
    by_cases ej : j = i
    · subst ej
      unfold Has at z
      rw [at_i.1] at z
      cases s with
      | val d => cases z
      | own o' io' => cases z; exact .inr ⟨rfl, rfl, io', rfl⟩
    · unfold Has at z
      rw [(ne_get ej).1] at z
      exact .inl ⟨ej, z⟩
  have nown : ∀ {o io a}, s = .own o io → v = .ref a → ¬ OwnC ρ1 σ a ∧ H0 a = none ∧ F1 a = none ∧ OwnAt M F1 H1 a o := fun {o io a} es ev => by
    subst es
    obtain ⟨a', e, q, f, h0, nc⟩ := r
    rw [ev] at e
    cases e
    exact ⟨nc, h0, f, q⟩
  refine ⟨⟨by rw [List.length_set, List.length_set]; exact S.len, S.sub, fun j d z => ?_, fun j o io z => ?_, fun j k o o' io io' b z1 z2 e1 e2 => ?_⟩, ?_⟩
  · by_cases ej : j = i
    · subst ej
      rw [at_i.1] at z
      cases s with
      | val d' => cases z; exact ⟨v, at_i.2, r⟩
      | own o' io' => cases z
    · rw [(ne_get ej).1] at z
      obtain ⟨w, e, q⟩ := S.val j d z
      exact ⟨w, by rw [(ne_get ej).2]; exact e, q⟩
  · rcases own' z with ⟨ej, z⟩ | ⟨rfl, rfl, io', es⟩
    · obtain ⟨a, e, q⟩ := S.own j o io z
      exact ⟨a, by rw [(ne_get ej).2]; exact e, q⟩
    · subst es
      obtain ⟨a, e, q, f, _⟩ := r
      exact ⟨a, by rw [at_i.2, e], q, f⟩
  · rcases own' z1 with ⟨ej, y1⟩ | ⟨rfl, _, io1, es⟩
    · rw [(ne_get ej).2] at e1
      rcases own' z2 with ⟨ek, y2⟩ | ⟨rfl, _, io2, es⟩
      · rw [(ne_get ek).2] at e2
        exact S.sep j k o o' io io' b y1 y2 e1 e2
      · rw [at_i.2] at e2
        have ev : v = .ref b := by cases e2; rfl
        exact absurd ⟨j, o, io, y1, e1⟩ (nown es ev).1
    · rw [at_i.2] at e1
      have ev : v = .ref b := by cases e1; rfl
      rcases own' z2 with ⟨ek, z2⟩ | ⟨rfl, _, io2, es2⟩
      · rw [(ne_get ek).2] at e2
        exact absurd ⟨k, o', io', z2, e2⟩ (nown es ev).1
      · rfl
  · have oc : ∀ b, OwnC (ρ1.set i (some s.fix)) (σ.set i (some v)) b → OwnC ρ1 σ b ∨ H0 b = none := fun b ⟨j, o, io, z, e⟩ => by
      rcases own' z with ⟨ej, z⟩ | ⟨rfl, _, io', es⟩
      · rw [(ne_get ej).2] at e
        exact .inl ⟨j, o, io, z, e⟩
      · rw [at_i.2] at e
        have ev : v = .ref b := by cases e; rfl
        exact .inr (nown es ev).2.1
    have on : ∀ b, OwnN (ρ1.set i (some s.fix)) (σ.set i (some v)) b → OwnN ρ1 σ b ∨ H0 b = none := fun b ⟨j, o, z, e⟩ => by
      rcases own' z with ⟨ej, z⟩ | ⟨rfl, _, io', es⟩
      · rw [(ne_get ej).2] at e
        exact .inl ⟨j, o, z, e⟩
      · rw [at_i.2] at e
        have ev : v = .ref b := by cases e; rfl
        exact .inr (nown es ev).2.1
    refine ⟨T.fr, T.new, T.keep, T.there, fun b z => ?_, fun b z => ?_, fun j o z => ?_, fun j o z => ?_⟩
    · rcases oc b z with z | z
      · exact T.ownC b z
      · exact .inr z
    · rcases on b z with z | z
      · exact T.ownN b z
      · exact .inr z
    · obtain ⟨e, o', z'⟩ := T.io j o z
      have ej : j ≠ i := fun q => nio o' (q ▸ z')
      exact ⟨(ne_get ej).2.trans e, o', by unfold Has; rw [(ne_get ej).1]; exact z'⟩
    · rcases own' z with ⟨ej, z⟩ | ⟨_, q, _⟩
      · exact T.io' j o z
      · cases q
theorem SlAt.val_of {ρ : Env} {σ : St} {H F H' : Hp} {v : V} {d : D} (h : Rp M.K F v d) : SlAt M ρ σ H F H' v (.val d) := h
end
def kSet (i : Nat) (s : SE) : DS := fun ρ => (s ρ).bind fun x => (setSl i x.1 x.2).bind fun ρ' => some (.nx ρ')
section
variable {M : Md} {X : Cx} {st : Stmt} {pos : Pos}
theorem k_setT {i : Nat} {s : SE} {t : TE} (i' : ∀ σ H Q, tSE M s σ H Q → t σ H Q) (h : PS X st (tAsg t (gName i))) : Sm M X st (kSet i s) := h.imp fun D σ H ⟨ρ, F, r, S, e, q⟩ => by
  unfold kSet at e
  obtain ⟨⟨sl, ρ1⟩, e1, e⟩ := Option.bind_eq_some_iff.mp e
  obtain ⟨ρ2, e2, e⟩ := Option.bind_eq_some_iff.mp e
  cases e
  refine i' σ H _ ⟨ρ, F, sl, ρ1, S, e1, fun v H1 F1 S1 T1 r1 => ?_⟩
  obtain ⟨S2, T2⟩ := S1.set T1 e2 r1
  exact q _ H1 F1 S2 T2
theorem k_set {i : Nat} {s : SE} (h : PS X st (tAsg (tSE M s) (gName i))) : Sm M X st (kSet i s) := k_setT (fun _ _ _ => id) h

/-! ### targets -/
abbrev GE := D → Env → Option Env
abbrev GEs := List D → Env → Option Env
def tTg (M : Md) (g : GE) : TG := fun v σ H Q => ∃ ρ F d ρ', Sim M ρ F σ H ∧ Rp M.K F v d ∧ g d ρ = some ρ' ∧ ∀ σ' H' F', Sim M ρ' F' σ' H' → Step ρ σ F H ρ' σ' F' H' → Q σ' H'
def tTgs (M : Md) (g : GEs) : TGs := fun vs σ H Q => ∃ ρ F ds ρ', Sim M ρ F σ H ∧ RpAll M.K F vs ds ∧ g ds ρ = some ρ' ∧ ∀ σ' H' F', Sim M ρ' F' σ' H' → Step ρ σ F H ρ' σ' F' H' → Q σ' H'
abbrev Tg (M : Md) (X : Cx) (e : Expr) (g : GE) : Prop := PG X e (tTg M g)
abbrev Tgs (M : Md) (X : Cx) (e : List Expr) (g : GEs) : Prop := PGs X e (tTgs M g)
theorem _root_.L2.PG.imp {e : Expr} {t t' : TG} (h : PG X e t) (i : ∀ v σ H Q, t' v σ H Q → t v σ H Q) : PG X e t' := ⟨fun pins s σ H v u Q I r w => h.run pins s σ H v u Q I r (i v σ H Q w)⟩
theorem _root_.L2.PGs.imp {e : List Expr} {t t' : TGs} (h : PGs X e t) (i : ∀ v σ H Q, t' v σ H Q → t v σ H Q) : PGs X e t' := ⟨fun pins s σ H v u Q I r w => h.run pins s σ H v u Q I r (i v σ H Q w)⟩
def gN (i : Nat) : GE := fun d ρ => setSl i (.val d) ρ
theorem g_name {i : Nat} {e : Expr} (h : PG X e (gName i)) : Tg M X e (gN i) := h.imp fun v σ H Q ⟨ρ, F, d, ρ', S, r, e, q⟩ => by
  obtain ⟨S2, T2⟩ := S.set .refl e (SlAt.val_of r)
  exact q _ H F S2 T2
def gsNil : GEs := fun ds ρ => match ds with
  | [] => some ρ
  | _ => none
def gsCons (g : GE) (gs : GEs) : GEs := fun ds ρ => match ds with
  | d :: r => (g d ρ).bind fun ρ' => gs r ρ'
  | _ => none
theorem gs_nil : Tgs M X [] gsNil := pgs_nil.imp fun vs σ H Q ⟨ρ, F, ds, ρ', S, r, e, q⟩ => by
  cases ds with
  | nil =>
    cases e
    unfold RpAll at r
    exact ⟨r, q σ H F S .refl⟩
  | cons _ _ => cases e
theorem gs_cons {e : Expr} {es : List Expr} {g : GE} {gs : GEs} (h1 : Tg M X e g) (h2 : Tgs M X es gs) (hs : (assignEach (e :: es) X.env).map (·.2) = assign e X.env :: (assignEach es X.env).map (·.2) := by rfl) : Tgs M X (e :: es) (gsCons g gs) :=
  (pgs_cons h1 h2 hs).imp fun vs σ H Q ⟨ρ, F, ds, ρ', S, r, e, q⟩ => by
    cases ds with
    | nil => cases e
    | cons d ds =>
      unfold gsCons at e
      obtain ⟨ρ1, e1, e⟩ := Option.bind_eq_some_iff.mp e
      unfold RpAll at r
      obtain ⟨v, ws, rfl, r1, r2⟩ := r
      exact ⟨v, ws, rfl, ρ, F, d, ρ1, S, r1, e1, fun σ1 H1 F1 S1 T1 => ⟨ρ1, F1, ds, ρ', S1, RpAll.mono T1.fr _ _ r2, e, fun σ2 H2 F2 S2 T2 => q σ2 H2 F2 S2 (T1.trans T2)⟩⟩
def gTp (gs : GEs) : GE := fun d ρ => match d with
  | .tup ds => gs ds ρ
  | _ => none
/-- how many targets a row of targets takes -/
theorem g_tup {es : List Expr} {k : Nat} {gs : GEs} (hK : X.K = M.K) (hc : X.calm = true) (h : Tgs M X es gs) (hl : ∀ ds ρ ρ', gs ds ρ = some ρ' → ds.length = es.length)
    (hn : (assignEach es X.env).length = es.length := by rfl) (hst : (assignEach es X.env).findIdx? (·.1) = none := by rfl) : Tg M X (.Tuple es k pos) (gTp gs) :=
  (pg_tup hc h hn hst).imp fun v σ H Q ⟨ρ, F, d, ρ', S, r, e, q⟩ => by
    cases d with
    | tup ds =>
      unfold Rp at r
      obtain ⟨a, vs, rfl, hs, rs⟩ := r
      rw [hK]
      exact ⟨a, vs, rfl, (TpAt.mono S.sub hs).sq, rs.length.trans (hl ds ρ ρ' e), ρ, F, ds, ρ', S, rs, e, q⟩
    | _ => cases e
theorem gsNil_len : ∀ ds ρ ρ', gsNil ds ρ = some ρ' → ds.length = 0 := fun ds ρ ρ' h => by
  cases ds with
  | nil => rfl
  | cons _ _ => cases h
theorem gsCons_len {g : GE} {gs : GEs} {n : Nat} (h : ∀ ds ρ ρ', gs ds ρ = some ρ' → ds.length = n) : ∀ ds ρ ρ', gsCons g gs ds ρ = some ρ' → ds.length = n + 1 := fun ds ρ ρ' e => by
  cases ds with
  | nil => cases e
  | cons d ds =>
    unfold gsCons at e
    obtain ⟨ρ1, e1, e⟩ := Option.bind_eq_some_iff.mp e
    rw [List.length_cons, h ds ρ1 ρ' e]
/-- target = value -/
def kAsg (a : DE) (g : GE) : DS := fun ρ => (a ρ).bind fun x => (g x.1 x.2).bind fun ρ' => some (.nx ρ')
theorem k_asg {a : DE} {g : GE} (h : PS X st (tAsg (tD M a) (tTg M g))) : Sm M X st (kAsg a g) := h.imp fun D σ H ⟨ρ, F, r, S, e, q⟩ => by
  unfold kAsg at e
  obtain ⟨⟨d, ρ1⟩, e1, e⟩ := Option.bind_eq_some_iff.mp e
  obtain ⟨ρ2, e2, e⟩ := Option.bind_eq_some_iff.mp e
  cases e
  exact ⟨ρ, F, d, ρ1, S, e1, fun v H1 F1 S1 T1 r1 => ⟨ρ1, F1, d, ρ2, S1, r1, e2, fun σ2 H2 F2 S2 T2 => q σ2 H2 F2 S2 (T1.trans T2)⟩⟩
end

/-! ### an owned list is changed -/
def setOwn (i : Nat) (o : Own) (ρ : Env) : Env := match ρ[i]? with
  | some (some (.own _ io)) => ρ.set i (some (.own o io))
  | _ => ρ
section
variable {M : Md} {ρ ρ1 : Env} {σ : St} {F H : Hp} {i : Nat}
/-- the cell of slot i is written -/
theorem Sim.write {o o' : Own} {io : Bool} {a : Addr} {u : HO} (S : Sim M ρ F σ H) (h : Has ρ i o io) (e : σ[i]? = some (some (.ref a))) (n : OwnAt M F (upd H a u) a o') :
    Sim M (ρ.set i (some (.own o' io))) F σ (upd H a u) ∧ Step ρ σ F H (ρ.set i (some (.own o' io))) σ F (upd H a u) := by
  have hi := h.lt
  obtain ⟨a', e', q', fa⟩ := S.own i o io h
  rw [e] at e'
  cases e'
  obtain ⟨w, hw⟩ := q'.some
  have own' : ∀ {j p io2}, Has (ρ.set i (some (.own o' io))) j p io2 → (j ≠ i ∧ Has ρ j p io2) ∨ (j = i ∧ p = o' ∧ io2 = io) := fun {j p io2} z => by
    by_cases ej : j = i
    · subst ej
      unfold Has at z
      rw [List.getElem?_set_self hi] at z
      cases z
      exact .inr ⟨rfl, rfl, rfl⟩
    · unfold Has at z
      rw [List.getElem?_set_ne fun q => ej q.symm] at z
      exact .inl ⟨ej, z⟩
  have oth : ∀ {j p io2 b}, j ≠ i → Has ρ j p io2 → σ[j]? = some (some (.ref b)) → b ≠ a := fun {j p io2 b} ej z eb q => ej (S.sep j i p o io2 io b z h eb (by rw [q]; exact e))
  refine ⟨⟨by rw [List.length_set]; exact S.len, fun b x z => ?_, fun j d z => ?_, fun j p io2 z => ?_, fun j k p p' io1 io2 b z1 z2 e1 e2 => ?_⟩, Same.refl _, fun b x z => .inl z, fun b x z nc => ?_, fun b x z => ?_, fun b ⟨j, p, io2, z, eb⟩ => ?_, fun b ⟨j, p, z, eb⟩ => ?_, fun j p z => ?_, fun j p z => ?_⟩
  · rw [upd_ne (ne_of_none z fa)]; exact S.sub _ _ z
  · by_cases ej : j = i
    · subst ej; rw [List.getElem?_set_self hi] at z; cases z
    · rw [List.getElem?_set_ne fun q => ej q.symm] at z; exact S.val j d z
  · rcases own' z with ⟨ej, z⟩ | ⟨rfl, rfl, rfl⟩
    · obtain ⟨b, eb, qb, fb⟩ := S.own j p io2 z
      refine ⟨b, eb, qb.mono (Same.refl _) fun x hx => ?_, fb⟩
      rw [upd_ne (oth ej z eb)]; exact hx
    · exact ⟨a, e, n, fa⟩
  · rcases own' z1 with ⟨ej, y1⟩ | ⟨rfl, _, _⟩
    · rcases own' z2 with ⟨ek, y2⟩ | ⟨rfl, _, _⟩
      · exact S.sep j k p p' io1 io2 b y1 y2 e1 e2
      · exact S.sep j k p o io1 io b y1 h e1 e2
    · rcases own' z2 with ⟨ek, y2⟩ | ⟨rfl, _, _⟩
      · exact S.sep j k o p' io io2 b h y2 e1 e2
      · rfl
  · have ne : b ≠ a := fun q => nc ⟨i, o, io, h, by rw [q]; exact e⟩
    rw [upd_ne ne]; exact z
  · by_cases q : b = a
    · rw [q]; exact ⟨u, upd_same⟩
    · exact ⟨x, by rw [upd_ne q]; exact z⟩
  · rcases own' z with ⟨ej, z⟩ | ⟨rfl, _, _⟩
    · exact .inl ⟨j, p, io2, z, eb⟩
    · exact .inl ⟨j, o, io, h, eb⟩
  · rcases own' z with ⟨ej, z⟩ | ⟨rfl, rfl, q⟩
    · exact .inl ⟨j, p, z, eb⟩
    · exact .inl ⟨j, o, by rw [← q] at h; exact h, eb⟩
  · by_cases ej : j = i
    · subst ej
      have q : io = true := by unfold Has at h z; rw [h] at z; cases z; rfl
      subst q
      exact ⟨rfl, o', by unfold Has; rw [List.getElem?_set_self hi]⟩
    · exact ⟨rfl, p, by unfold Has; rw [List.getElem?_set_ne fun q => ej q.symm]; exact z⟩
  · rcases own' z with ⟨ej, z⟩ | ⟨rfl, _, q⟩
    · exact ⟨p, z⟩
    · exact ⟨o, by rw [← q] at h; exact h⟩
end
/-- the list that slot i owns -/
def ownL (i : Nat) (ρ : Env) : Option (List D × Bool) := match ρ[i]? with
  | some (some (.own (.lst ds) io)) => some (ds, io)
  | _ => none
theorem ownL_has {i : Nat} {ρ : Env} {ds : List D} {io : Bool} (h : ownL i ρ = some (ds, io)) : Has ρ i (.lst ds) io := by
  unfold ownL at h
  split at h
  · rename_i hh
    cases h
    exact hh
  · cases h
def kApp (i : Nat) (a : DE) : DS := fun ρ => (a ρ).bind fun x => (ownL i x.2).bind fun l => if l.1.length < sizeLine then some (.nx (x.2.set i (some (.own (.lst (l.1 ++ [x.1])) l.2)))) else none
def kExt (i : Nat) (o : DO) : DS := fun ρ => (o.ev ρ).bind fun x => (o.fin x.1 x.2).bind fun u => (lstOf u).bind fun ys => (ownL i x.2).bind fun l =>
  if l.1.length + ys.length ≤ sizeLine then some (.nx (x.2.set i (some (.own (.lst (l.1 ++ ys)) l.2)))) else none
section
variable {M : Md} {X : Cx} {pos p2 : Pos} {e x : Expr} {i : Nat}
theorem tyV_lst {K : PySem.W.Frag} {H : Hp} {a : Addr} {vs : List V} (h : H a = some (.lst vs)) : tyV K "list" (.ref a) H := Or.inl ⟨rfl, _, Or.inl (Or.inl h)⟩
theorem Sim.is {ρ : Env} {F : Hp} {σ : St} {H : Hp} {ds : List D} {io : Bool} (S : Sim M ρ F σ H) (h : Has ρ i (.lst ds) io) : ∃ a vs, σ[i]? = some (some (.ref a)) ∧ H a = some (.lst vs) ∧ RpAll M.K F vs ds := by
  obtain ⟨a, e, ⟨vs, hv, r⟩, _⟩ := S.own i _ _ h
  exact ⟨a, vs, e, hv, r⟩
/-- the value of a name whose slot is owned all along -/
theorem own_back {ρ ρ1 : Env} {F F1 : Hp} {σ : St} {H H1 : Hp} {ds : List D} {io : Bool} (S : Sim M ρ F σ H) (S1 : Sim M ρ1 F1 σ H1) (h : Has ρ1 i (.lst ds) io) : ∃ a vs, σ[i]? = some (some (.ref a)) ∧ H1 a = some (.lst vs) ∧ RpAll M.K F1 vs ds := S1.is h
/-- what x.append(e) asks of x ahead: that it is a list -/
def lstAt (i : Nat) (ρ : Env) : Bool := (ownL i ρ).isSome
def kAppC (i : Nat) (a : DE) : DS := fun ρ => if lstAt i ρ = true then kApp i a ρ else none
def kExtC (i : Nat) (o : DO) : DS := fun ρ => if lstAt i ρ = true then kExt i o ρ else none
theorem lstAt_has {ρ : Env} (h : lstAt i ρ = true) : ∃ ds io, Has ρ i (.lst ds) io := by
  unfold lstAt at h
  obtain ⟨⟨ds, io⟩, e⟩ := Option.isSome_iff_exists.mp h
  exact ⟨ds, io, ownL_has e⟩
theorem k_app {a : DE} {q1 q2 : Pos} (h : PE X x (tVar i)) (he : Ex M X e a) (hs : swapsWith (.Call (.Attribute x "append" q1) [e] [] q2) none pos.line X.env = pure false := by rfl)
    (st : starEach [e] X.env = (false, eval e X.env) :: starEach [] X.env := by rfl)
    (hpe : PE X (.Call (.Attribute x "append" q1) [e] [] q2) (tBM X.K "list" rAppend (tVar i) (tCons (tD M a) tNil))) : Sm M X (.Expr (.Call (.Attribute x "append" q1) [e] [] q2) pos) (kAppC i a) :=
  (ps_expr hpe hs).imp fun D σ H ⟨ρ, F, r, S, e, q⟩ => by
    unfold kAppC at e
    split at e
    · rename_i hl
      obtain ⟨ds0, io0, h0⟩ := lstAt_has hl
      obtain ⟨b, vs0, eb, hb, _⟩ := S.is h0
      unfold kApp at e
      obtain ⟨⟨d, ρ1⟩, e1, e⟩ := Option.bind_eq_some_iff.mp e
      obtain ⟨⟨ds, io⟩, e2, e⟩ := Option.bind_eq_some_iff.mp e
      split at e
      · rename_i hz
        cases e
        refine ⟨_, eb, tyV_lst hb, ρ, F, d, ρ1, S, e1, fun v H1 F1 S1 T1 r1 => ?_⟩
        have hh := ownL_has e2
        obtain ⟨c, vs, ec, hc, rc⟩ := S1.is hh
        rw [eb] at ec
        cases ec
        refine ⟨b, vs, v, rfl, rfl, hc, by rw [rc.length]; exact hz, ?_⟩
        obtain ⟨S2, T2⟩ := S1.write (o' := .lst (ds ++ [d])) (u := .lst (vs ++ [v])) hh eb ⟨vs ++ [v], upd_same, rc.append (RpAll.cons r1 RpAll.nil)⟩
        exact q σ _ F1 S2 (T1.trans T2)
      · cases e
    · cases e
theorem k_ext {o : DO} {q1 q2 : Pos} (hs : swapsWith (.Call (.Attribute x "extend" q1) [e] [] q2) none pos.line X.env = pure false := by rfl)
    (hpe : PE X (.Call (.Attribute x "extend" q1) [e] [] q2) (tBM X.K "list" rExtend (tVar i) (tCons (tOpd M o) tNil))) : Sm M X (.Expr (.Call (.Attribute x "extend" q1) [e] [] q2) pos) (kExtC i o) :=
  (ps_expr hpe hs).imp fun D σ H ⟨ρ, F, r, S, e, q⟩ => by
    unfold kExtC at e
    split at e
    · rename_i hl
      obtain ⟨ds0, io0, h0⟩ := lstAt_has hl
      obtain ⟨b, vs0, eb, hb, _⟩ := S.is h0
      unfold kExt at e
      obtain ⟨⟨d, ρ1⟩, e1, e⟩ := Option.bind_eq_some_iff.mp e
      obtain ⟨u, e3, e⟩ := Option.bind_eq_some_iff.mp e
      obtain ⟨ys, e4, e⟩ := Option.bind_eq_some_iff.mp e
      obtain ⟨⟨ds, io⟩, e2, e⟩ := Option.bind_eq_some_iff.mp e
      split at e
      · rename_i hz
        cases e
        have e4 := lstOf_eq e4
        subst e4
        refine ⟨_, eb, tyV_lst hb, ρ, F, d, ρ1, S, e1, fun v H1 F1 S1 T1 r1 => ?_⟩
        have hh := ownL_has e2
        obtain ⟨c, vs, ec, hc, rc⟩ := S1.is hh
        rw [eb] at ec
        cases ec
        obtain ⟨c2, ws, rfl, hw, rw'⟩ := (r1.bor S1 e3).lst S1.sub
        refine ⟨b, c2, vs, ws, rfl, rfl, hc, hw, by rw [rc.length, rw'.length]; exact hz, ?_⟩
        obtain ⟨S2, T2⟩ := S1.write (o' := .lst (ds ++ ys)) (u := .lst (vs ++ ws)) hh eb ⟨vs ++ ws, upd_same, rc.append rw'⟩
        exact q σ _ F1 S2 (T1.trans T2)
      · cases e
    · cases e
end
end ET
set_option Elab.async false
set_option maxRecDepth 100000
/-! ET: what is walked, for, while, list comprehensions. -/
namespace ET
open PySem L2

/-! ### what is walked -/
abbrev SI := Env → Option (List D × Env)
def Wk (K : PySem.W.Frag) (J : It) (F : Hp) (xs : List D) : Prop := ∀ (i : Nat) (H : Hp), Same F H →
  (∀ d, xs[i]? = some d → J.go i H ∧ ∀ x H', J.yld i H x H' → H' = H ∧ Rp K F x d) ∧ (xs.length ≤ i → J.stop i H)
def tIt (M : Md) (s : SI) : TI := fun σ H R => ∃ ρ F xs ρ', Sim M ρ F σ H ∧ s ρ = some (xs, ρ') ∧
  ∀ J H' F', Sim M ρ' F' σ H' → Step ρ σ F H ρ' σ F' H' → Wk M.K J F' xs → R J H'
abbrev Wl (M : Md) (X : Cx) (tg e : Expr) (s : SI) : Prop := PI X tg e (tIt M s)
theorem _root_.L2.PI.imp {X : Cx} {tg e : Expr} {t t' : TI} (h : PI X tg e t) (i : ∀ σ H R, t' σ H R → t σ H R) : PI X tg e t' := ⟨fun pins s σ H R I w => h.run pins s σ H R I (i σ H R w)⟩
def iSeq (K : PySem.W.Frag) (tl : TE) : TI := fun σ H R => tl σ H fun x H1 => ∃ a, x = .ref a ∧ (((∃ xs, SqL K H1 a xs) ∧ R (Itl K a) H1) ∨ ((∃ xs, SqT K H1 a xs) ∧ R (Itt K a) H1))
section
variable {X : Cx} {M : Md} {tg : Expr}
theorem pi_seq {l : Expr} {tl : TE} (hl : PE X l tl) : PI X tg l (iSeq X.K tl) := by
  refine ⟨fun pins s σ H R I h => ?_⟩
  refine thn (hl.run pins s σ H _ I h) fun v s1 ⟨x, H1, I1, r1, q1⟩ => ?_
  obtain ⟨a, e, q1⟩ := q1
  subst e
  cases r1
  rcases q1 with ⟨⟨xs, hq⟩, q⟩ | ⟨⟨xs, hq⟩, q⟩
  · obtain ⟨its, rv, p, hz⟩ := I1.list hq
    refine wpAny_pyIter_list p.isList ?_
    refine ⟨s1.heap.objs.size, [s1.heap.objs.size], _, _, H1, rfl, I1.kept (t' := s1.toks) fun b o e => Heap.get?_push_of_some _ e, turn_list a _, ⟨_, Heap.get?_push_size _ rfl, rfl, rfl⟩, fun b hb => ?_, q⟩
    have e : b = s1.heap.objs.size := by simpa using hb
    subst e
    exact I1.fpOk (Nat.le_refl _) (I1.hok.fresh (Nat.le_refl _))
  · obtain ⟨its, rv, p, hz⟩ := I1.tuple hq
    refine wpAny_pyIter_tuple (show s1.heap.IsTuple a its.toArray from p) ?_
    refine ⟨s1.heap.objs.size, [s1.heap.objs.size], _, _, H1, rfl, I1.kept (t' := s1.toks) fun b o e => Heap.get?_push_of_some _ e, turn_tuple a _, ⟨_, Heap.get?_push_size _ rfl, rfl, rfl⟩, fun b hb => ?_, q⟩
    have e : b = s1.heap.objs.size := by simpa using hb
    subst e
    exact I1.fpOk (Nat.le_refl _) (I1.hok.fresh (Nat.le_refl _))
def iVal (a : DE) : SI := fun ρ => (a ρ).bind fun x => (itemsOf x.1).bind fun xs => some (xs, x.2)
theorem wk_lst {K : PySem.W.Frag} {F : Hp} {a : Addr} {vs : List V} {xs : List D} (h : F a = some (.lst vs)) (r : RpAll K F vs xs) (inj : ∀ (H : Hp) ys, SqL K H a ys → H a = some (.lst vs) → ys = vs) : Wk K (Itl K a) F xs := fun i H s => by
  have q : SqL K H a vs := SqL.of (s _ _ h)
  refine ⟨fun d e => ?_, fun hi => ⟨vs, q, by rw [r.length]; exact hi⟩⟩
  obtain ⟨v, e', rv⟩ := r.get e
  refine ⟨⟨vs, v, q, e'⟩, fun x H' ⟨e1, y⟩ => ⟨e1, ?_⟩⟩
  have := y vs q
  rw [e'] at this
  cases this
  exact rv
theorem wk_tup {K : PySem.W.Frag} {F : Hp} {a : Addr} {vs : List V} {xs : List D} (h : SqT K F a vs) (r : RpAll K F vs xs) : Wk K (Itt K a) F xs := fun i H s => by
  have q : SqT K H a vs := SqT.mono s h
  refine ⟨fun d e => ?_, fun hi => ⟨vs, q, by rw [r.length]; exact hi⟩⟩
  obtain ⟨v, e', rv⟩ := r.get e
  refine ⟨⟨vs, v, q, e'⟩, fun x H' ⟨e1, y⟩ => ⟨e1, ?_⟩⟩
  have := y vs q
  rw [e'] at this
  cases this
  exact rv
theorem i_val {e : Expr} {a : DE} (h : Ex M X e a) (hK : X.K = M.K) : Wl M X tg e (iVal a) := (pi_seq h).imp fun σ H R ⟨ρ, F, xs, ρ', S, e, q⟩ => by
  unfold iVal at e
  obtain ⟨⟨d, ρ1⟩, e1, e⟩ := Option.bind_eq_some_iff.mp e
  obtain ⟨ys, e2, e⟩ := Option.bind_eq_some_iff.mp e
  cases e
  refine ⟨ρ, F, d, ρ1, S, e1, fun v H1 F1 S1 T1 r1 => ?_⟩
  rw [hK]
  cases d <;> cases e2
  · unfold Rp at r1
    obtain ⟨a, vs, e, h, r⟩ := r1
    exact ⟨a, e, .inr ⟨⟨vs, (TpAt.mono S1.sub h).sq⟩, q _ H1 F1 S1 T1 (wk_tup h.sq r)⟩⟩
  · unfold Rp at r1
    obtain ⟨a, vs, e, h, r⟩ := r1
    refine ⟨a, e, .inl ⟨⟨vs, SqL.of (S1.sub _ _ h)⟩, q _ H1 F1 S1 T1 fun i H s => ?_⟩⟩
    have q : SqL M.K H a vs := SqL.of (s _ _ h)
    refine ⟨fun d e => ?_, fun hi => ⟨vs, q, by rw [r.length]; exact hi⟩⟩
    obtain ⟨v, e', rv⟩ := r.get e
    refine ⟨⟨vs, v, q, e'⟩, fun x H' ⟨e1, y⟩ => ⟨e1, ?_⟩⟩
    have := y vs q
    rw [e'] at this
    cases this
    exact rv
  · unfold Rp at r1
    obtain ⟨a, vs, e, h, r⟩ := r1
    refine ⟨a, e, .inl ⟨⟨vs, SqL.mono S1.sub h⟩, q _ H1 F1 S1 T1 fun i H s => ?_⟩⟩
    have q : SqL M.K H a vs := SqL.mono s h
    refine ⟨fun d e => ?_, fun hi => ⟨vs, q, by rw [r.length]; exact hi⟩⟩
    obtain ⟨v, e', rv⟩ := r.get e
    refine ⟨⟨vs, v, q, e'⟩, fun x H' ⟨e1, y⟩ => ⟨e1, ?_⟩⟩
    have := y vs q
    rw [e'] at this
    cases this
    exact rv
def rangeD (lo : Int) (n : Nat) : List D := (List.range n).map fun (i : Nat) => .int (lo + i)
theorem wk_range {K : PySem.W.Frag} {F : Hp} (lo : Int) (n : Nat) : Wk K (Itr lo n) F (rangeD lo n) := fun i H s => by
  refine ⟨fun d e => ?_, fun hi => by unfold rangeD at hi; rw [List.length_map, List.length_range] at hi; exact hi⟩
  unfold rangeD at e
  rw [List.getElem?_map] at e
  obtain ⟨j, e1, e2⟩ := Option.map_eq_some_iff.mp e
  have hi : i < n := by
    have := (List.getElem?_eq_some_iff.mp e1).1
    rw [List.length_range] at this
    exact this
  rw [List.getElem?_range hi] at e1
  cases e1
  subst e2
  refine ⟨hi, fun x H' ⟨e1, e2⟩ => ⟨e1, ?_⟩⟩
  unfold Rp
  exact e2
def iR1 (a : DE) : SI := fun ρ => (a ρ).bind fun x => match x.1 with
  | .int j => if -(2 ^ 62) ≤ j ∧ j < 2 ^ 62 then some (rangeD 0 j.toNat, x.2) else none
  | _ => none
theorem i_r1 {a : Expr} {u : DE} {p pos : Pos} (hg : Gl X "range") (hm : X.mg "range" = none) (ha : Ex M X a u) (st : starEach [a] X.env = (false, eval a X.env) :: starEach [] X.env := by rfl) (hs : starEach [a] X.env = [(false, eval a X.env)] := by rfl) : Wl M X tg (.Call (.Name "range" p) [a] [] pos) (iR1 u) :=
  (pi_range1 hg hm (pa_cons ha pa_nil st) hs).imp fun σ H R ⟨ρ, F, xs, ρ', S, e, q⟩ => by
    unfold iR1 at e
    obtain ⟨⟨d, ρ1⟩, e1, e⟩ := Option.bind_eq_some_iff.mp e
    cases d with
    | int j =>
      dsimp only at e
      split at e
      · rename_i hj
        cases e
        refine ⟨ρ, F, _, _, S, e1, fun v H1 F1 S1 T1 r1 => ?_⟩
        unfold Rp at r1
        subst r1
        exact ⟨j, rfl, hj.1, hj.2, q _ H1 F1 S1 T1 (wk_range 0 _)⟩
      · cases e
    | _ => cases e
def iR2 (a b : DE) : SI := fun ρ => (a ρ).bind fun x => (b x.2).bind fun y => match x.1, y.1 with
  | .int i, .int j => if -(2 ^ 62) ≤ i ∧ i < 2 ^ 62 ∧ -(2 ^ 62) ≤ j ∧ j < 2 ^ 62 then some (rangeD i (j - i).toNat, y.2) else none
  | _, _ => none
theorem i_r2 {a b : Expr} {u w : DE} {p pos : Pos} (hg : Gl X "range") (hm : X.mg "range" = none) (ha : Ex M X a u) (hb : Ex M X b w) (st : starEach [a, b] X.env = (false, eval a X.env) :: starEach [b] X.env := by rfl) (st2 : starEach [b] X.env = (false, eval b X.env) :: starEach [] X.env := by rfl)
    (hs : starEach [a, b] X.env = [(false, eval a X.env), (false, eval b X.env)] := by rfl) (hs2 : starEach [b] X.env = [(false, eval b X.env)] := by rfl) : Wl M X tg (.Call (.Name "range" p) [a, b] [] pos) (iR2 u w) :=
  (pi_range2 hg hm (pa_cons ha (pa_cons hb pa_nil st2) st) hs hs2).imp fun σ H R ⟨ρ, F, xs, ρ', S, e, q⟩ => by
    unfold iR2 at e
    obtain ⟨⟨d, ρ1⟩, e1, e⟩ := Option.bind_eq_some_iff.mp e
    obtain ⟨⟨d2, ρ2⟩, e2, e⟩ := Option.bind_eq_some_iff.mp e
    cases d with
    | int i =>
      cases d2 with
      | int j =>
        dsimp only at e
        split at e
        · rename_i hj
          cases e
          refine ⟨ρ, F, _, ρ1, S, e1, fun v H1 F1 S1 T1 r1 => ⟨ρ1, F1, _, _, S1, e2, fun v2 H2 F2 S2 T2 r2 => ?_⟩⟩
          unfold Rp at r1 r2
          subst r1 r2
          exact ⟨i, j, rfl, hj, q _ H2 F2 S2 (T1.trans T2) (wk_range i _)⟩
        · cases e
      | _ => cases e
    | _ => cases e
end

/-! ### for -/
def forL (g : GE) (b : DS) : List D → DS
  | [], ρ => some (.nx ρ)
  | d :: ds, ρ => (g d ρ).bind fun ρ1 => (b ρ1).bind fun r => match r with
    | .nx ρ' => forL g b ds ρ'
    | .ct ρ' => forL g b ds ρ'
    | .bk ρ' => some (.nx ρ')
    | .rt s ρ' => some (.rt s ρ')
def kFor (s : SI) (g : GE) (b : DS) : DS := fun ρ => (s ρ).bind fun x => forL g b x.1 x.2
section
variable {X : Cx} {M : Md} {tg iter : Expr} {body : List Stmt} {pos : Pos}
theorem k_for {s : SI} {g : GE} {b : DS} (hp : PassesOwn (model X.prog X.w) X.A X.env X.xe) (hc : X.calm = true) (hi : Wl M X tg iter s) (hg : Tg M X tg g) (hb : Ss M X body b)
    (hs : ∀ x, foldedSetIterable iter X.env x = pure x := by intro _; rfl) : Sm M X (.For tg iter body [] pos) (kFor s g b) :=
  (ps_for hp hc hi hg hb hs).imp fun D σ H ⟨ρ, F, r, S, e, q⟩ => by
    unfold kFor at e
    obtain ⟨⟨xs, ρ1⟩, e1, e⟩ := Option.bind_eq_some_iff.mp e
    refine ⟨ρ, F, xs, ρ1, S, e1, fun J H1 F1 S1 T1 wk => ?_⟩
    refine ⟨fun i m σ' H' => m = xs.length - i ∧ i ≤ xs.length ∧ ∃ ρ' F', Sim M ρ' F' σ' H' ∧ Same F1 F' ∧ forL g b (xs.drop i) ρ' = some r ∧ Aft M D ρ' σ' F' H' r,
      ⟨xs.length, by simp, Nat.zero_le _, ρ1, F1, S1, Same.refl _, by simpa using e, q.then T1⟩, ?_⟩
    rintro i m σ' H' ⟨rfl, hi, ρ', F', S', fr, el, q'⟩
    by_cases hlt : i < xs.length
    · obtain ⟨w1, _⟩ := wk i H' (fr.trans S'.sub)
      obtain ⟨go, yl⟩ := w1 xs[i] (List.getElem?_eq_getElem hlt)
      rw [List.drop_eq_getElem_cons hlt] at el
      unfold forL at el
      obtain ⟨ρ2, e2, el⟩ := Option.bind_eq_some_iff.mp el
      obtain ⟨r3, e3, el⟩ := Option.bind_eq_some_iff.mp el
      refine .inr ⟨go, fun σ5 H5 => ∃ ρ5 F5, Sim M ρ5 F5 σ5 H5 ∧ Same F1 F5 ∧ forL g b (xs.drop (i + 1)) ρ5 = some r ∧ Aft M D ρ5 σ5 F5 H5 r, fun σ5 H5 h5 => ⟨xs.length - (i + 1), by omega, rfl, hlt, h5⟩, fun x H2 y => ?_⟩
      obtain ⟨rfl, rx⟩ := yl x H2 y
      refine ⟨ρ', F', xs[i], ρ2, S', Rp.mono fr _ _ rx, e2, fun σ3 H3 F3 S3 T3 => ⟨ρ2, F3, r3, S3, e3, ?_⟩⟩
      cases r3 with
      | nx ρ4 => exact fun σ4 H4 F4 S4 T4 => ⟨ρ4, F4, S4, fr.trans (T3.fr.trans T4.fr), el, (q'.then T3).then T4⟩
      | ct ρ4 => exact fun σ4 H4 F4 S4 T4 => ⟨ρ4, F4, S4, fr.trans (T3.fr.trans T4.fr), el, (q'.then T3).then T4⟩
      | bk ρ4 =>
        cases el
        exact fun σ4 H4 F4 S4 T4 => q' σ4 H4 F4 S4 (T3.trans T4)
      | rt s ρ4 =>
        cases el
        exact fun v σ4 H4 F4 S4 T4 rr => q' v σ4 H4 F4 S4 (T3.trans T4) (rr.back T3)
    · have ei : i = xs.length := by omega
      subst ei
      rw [List.drop_length] at el
      cases el
      exact .inl ⟨(wk _ H' (fr.trans S'.sub)).2 (Nat.le_refl _), q' σ' H' F' S' .refl⟩
end

/-! ### while -/
def kWhile (c : DT) (b : DS) (ρ : Env) : Option Res :=
  match c ρ with
  | none => none
  | some x => if x.1 = true then match b x.2 with
      | none => none
      | some r => match r with
        | .nx ρ' => kWhile c b ρ'
        | .ct ρ' => kWhile c b ρ'
        | .bk ρ' => some (.nx ρ')
        | .rt s ρ' => some (.rt s ρ')
    else some (.nx x.2)
partial_fixpoint
theorem kWhile_eq (c : DT) (b : DS) (ρ : Env) : kWhile c b ρ = (c ρ).bind fun x => if x.1 = true then (b x.2).bind fun r => match r with
    | .nx ρ' => kWhile c b ρ'
    | .ct ρ' => kWhile c b ρ'
    | .bk ρ' => some (.nx ρ')
    | .rt s ρ' => some (.rt s ρ')
  else some (.nx x.2) := by
  rw [kWhile]
  cases c ρ with
  | none => rfl
  | some x =>
    dsimp only [Option.bind]
    split
    · cases b x.2 with
      | none => rfl
      | some r => rfl
    · rfl
def kWhileN (c : DT) (b : DS) : Nat → Env → Option Res
  | 0, _ => none
  | n + 1, ρ => (c ρ).bind fun x => if x.1 = true then (b x.2).bind fun r => match r with
    | .nx ρ' => kWhileN c b n ρ'
    | .ct ρ' => kWhileN c b n ρ'
    | .bk ρ' => some (.nx ρ')
    | .rt s ρ' => some (.rt s ρ')
  else some (.nx x.2)
theorem kWhile_N {c : DT} {b : DS} : ∀ (ρ : Env) (r : Res), kWhile c b ρ = some r → ∃ n, kWhileN c b n ρ = some r := by
  refine kWhile.partial_correctness c b (fun ρ r => ∃ n, kWhileN c b n ρ = some r) fun f ih ρ r h => ?_
  have h : ((c ρ).bind fun x => if x.1 = true then (b x.2).bind fun r => match r with
    | .nx ρ' => f ρ'
    | .ct ρ' => f ρ'
    | .bk ρ' => some (.nx ρ')
    | .rt s ρ' => some (.rt s ρ')
  else some (.nx x.2)) = some r := by
    rw [← h]
    cases c ρ with
    | none => rfl
    | some x =>
      dsimp only [Option.bind]
      split
      · cases b x.2 with
        | none => rfl
        | some r => rfl
      · rfl
  obtain ⟨⟨k, ρ1⟩, e1, h⟩ := Option.bind_eq_some_iff.mp h
  cases k with
  | false =>
    rw [if_neg Bool.false_ne_true] at h
    exact ⟨1, by unfold kWhileN; rw [e1, Option.bind_some, if_neg Bool.false_ne_true]; exact h⟩
  | true =>
    rw [if_pos rfl] at h
    obtain ⟨r1, e2, h⟩ := Option.bind_eq_some_iff.mp h
    cases r1 with
    | nx ρ2 =>
      obtain ⟨n, hn⟩ := ih ρ2 r h
      exact ⟨n + 1, by unfold kWhileN; rw [e1, Option.bind_some, if_pos rfl, e2, Option.bind_some]; exact hn⟩
    | ct ρ2 =>
      obtain ⟨n, hn⟩ := ih ρ2 r h
      exact ⟨n + 1, by unfold kWhileN; rw [e1, Option.bind_some, if_pos rfl, e2, Option.bind_some]; exact hn⟩
    | bk ρ2 => exact ⟨1, by unfold kWhileN; rw [e1, Option.bind_some, if_pos rfl, e2, Option.bind_some]; exact h⟩
    | rt s ρ2 => exact ⟨1, by unfold kWhileN; rw [e1, Option.bind_some, if_pos rfl, e2, Option.bind_some]; exact h⟩
section
variable {X : Cx} {M : Md} {body : List Stmt} {pos : Pos}
theorem k_while {t : Expr} {c : DT} {b : DS} (hp : PassesOwn (model X.prog X.w) X.A X.env X.xe) (hc : Te M X t c) (hb : Ss M X body b) : Sm M X (.While t body [] pos) (kWhile c b) :=
  (ps_while hp hc hb).imp fun D σ H ⟨ρ, F, r, S, e, q⟩ => by
    obtain ⟨n, e⟩ := kWhile_N ρ r e
    refine ⟨fun m σ' H' => ∃ ρ' F', Sim M ρ' F' σ' H' ∧ kWhileN c b m ρ' = some r ∧ Aft M D ρ' σ' F' H' r, ⟨n, ρ, F, S, e, q⟩, ?_⟩
    rintro m σ' H' ⟨ρ', F', S', el, q'⟩
    cases m with
    | zero => cases el
    | succ m =>
      unfold kWhileN at el
      obtain ⟨⟨k, ρ1⟩, e1, el⟩ := Option.bind_eq_some_iff.mp el
      refine ⟨ρ', F', k, ρ1, S', e1, fun H1 F1 S1 T1 => ?_⟩
      cases k with
      | false =>
        rw [if_neg Bool.false_ne_true] at el ⊢
        cases el
        exact q' σ' H1 F1 S1 T1
      | true =>
        rw [if_pos rfl] at el ⊢
        obtain ⟨r3, e3, el⟩ := Option.bind_eq_some_iff.mp el
        refine ⟨fun σ5 H5 => ∃ ρ5 F5, Sim M ρ5 F5 σ5 H5 ∧ kWhileN c b m ρ5 = some r ∧ Aft M D ρ5 σ5 F5 H5 r, fun σ5 H5 h5 => ⟨m, Nat.lt_succ_self _, h5⟩, ρ1, F1, r3, S1, e3, ?_⟩
        cases r3 with
        | nx ρ4 => exact fun σ4 H4 F4 S4 T4 => ⟨ρ4, F4, S4, el, (q'.then T1).then T4⟩
        | ct ρ4 => exact fun σ4 H4 F4 S4 T4 => ⟨ρ4, F4, S4, el, (q'.then T1).then T4⟩
        | bk ρ4 =>
          cases el
          exact fun σ4 H4 F4 S4 T4 => q' σ4 H4 F4 S4 (T1.trans T4)
        | rt s ρ4 =>
          cases el
          exact fun v σ4 H4 F4 S4 T4 rr => q' v σ4 H4 F4 S4 (T1.trans T4) (rr.back T1)
end

/-! ### targets within a comprehension -/
def tTc (M : Md) (vs : List Nat) (g : GE) : TG := fun v σ H Q => ∃ ρ F d ρ', Sim M ρ F σ H ∧ Rp M.K F v d ∧ g d ρ = some ρ' ∧ ∀ σ', wipe σ' vs = wipe σ vs → Sim M ρ' F σ' H → Step ρ σ F H ρ' σ' F H → Q σ' H
def tTcs (M : Md) (vs : List Nat) (g : GEs) : TGs := fun ws σ H Q => ∃ ρ F ds ρ', Sim M ρ F σ H ∧ RpAll M.K F ws ds ∧ g ds ρ = some ρ' ∧ ∀ σ', wipe σ' vs = wipe σ vs → Sim M ρ' F σ' H → Step ρ σ F H ρ' σ' F H → Q σ' H
abbrev Tc (M : Md) (X : Cx) (vs : List Nat) (e : Expr) (g : GE) : Prop := PG X e (tTc M vs g)
abbrev Tcs (M : Md) (X : Cx) (vs : List Nat) (e : List Expr) (g : GEs) : Prop := PGs X e (tTcs M vs g)
theorem wipe_get (σ : St) (j : Nat) : ∀ vs : List Nat, (wipe σ vs)[j]? = if j ∈ vs ∧ j < σ.length then some none else σ[j]?
  | [] => by simp [wipe]
  | v :: vs => by
    unfold wipe
    by_cases e : v = j
    · subst e
      by_cases h : v < σ.length
      · rw [List.getElem?_set_self (by rw [wipe_length]; exact h), if_pos ⟨List.mem_cons_self, h⟩]
      · rw [if_neg fun q => h q.2, List.getElem?_eq_none (by rw [List.length_set, wipe_length]; omega), List.getElem?_eq_none (by omega)]
    · rw [List.getElem?_set_ne e, wipe_get σ j vs]
      have : (j ∈ v :: vs ∧ j < σ.length) ↔ (j ∈ vs ∧ j < σ.length) := by
        constructor
        · rintro ⟨h, h2⟩
          rcases List.mem_cons.mp h with q | q
          · exact absurd q.symm e
          · exact ⟨q, h2⟩
        · rintro ⟨h, h2⟩
          exact ⟨List.mem_cons_of_mem _ h, h2⟩
      by_cases hq : j ∈ vs ∧ j < σ.length
      · rw [if_pos hq, if_pos (this.mpr hq)]
      · rw [if_neg hq, if_neg fun z => hq (this.mp z)]
theorem wipe_set {σ : St} {i : Nat} {x : Option V} {vs : List Nat} (h : i ∈ vs) : wipe (σ.set i x) vs = wipe σ vs := by
  apply List.ext_getElem?
  intro j
  rw [wipe_get, wipe_get, List.length_set]
  by_cases hq : j ∈ vs ∧ j < σ.length
  · rw [if_pos hq, if_pos hq]
  · rw [if_neg hq, if_neg hq]
    by_cases e : i = j
    · subst e
      rw [List.getElem?_eq_none (by rw [List.length_set]; exact Nat.le_of_not_lt fun z => hq ⟨h, z⟩), List.getElem?_eq_none (Nat.le_of_not_lt fun z => hq ⟨h, z⟩)]
    · rw [List.getElem?_set_ne e]
section
variable {M : Md} {X : Cx} {vs : List Nat} {pos : Pos}
theorem c_name {i : Nat} {e : Expr} (hi : i ∈ vs) (h : PG X e (gName i)) : Tc M X vs e (gN i) := h.imp fun v σ H Q ⟨ρ, F, d, ρ', S, r, e, q⟩ => by
  obtain ⟨S2, T2⟩ := S.set .refl e (SlAt.val_of r)
  exact q _ (wipe_set hi) S2 T2
theorem cs_nil : Tcs M X vs [] gsNil := pgs_nil.imp fun ws σ H Q ⟨ρ, F, ds, ρ', S, r, e, q⟩ => by
  cases ds with
  | nil =>
    cases e
    unfold RpAll at r
    exact ⟨r, q σ rfl S .refl⟩
  | cons _ _ => cases e
theorem cs_cons {e : Expr} {es : List Expr} {g : GE} {gs : GEs} (h1 : Tc M X vs e g) (h2 : Tcs M X vs es gs) (hs : (assignEach (e :: es) X.env).map (·.2) = assign e X.env :: (assignEach es X.env).map (·.2) := by rfl) : Tcs M X vs (e :: es) (gsCons g gs) :=
  (pgs_cons h1 h2 hs).imp fun us σ H Q ⟨ρ, F, ds, ρ', S, r, e, q⟩ => by
    cases ds with
    | nil => cases e
    | cons d ds =>
      unfold gsCons at e
      obtain ⟨ρ1, e1, e⟩ := Option.bind_eq_some_iff.mp e
      unfold RpAll at r
      obtain ⟨v, ws, rfl, r1, r2⟩ := r
      exact ⟨v, ws, rfl, ρ, F, d, ρ1, S, r1, e1, fun σ1 w1 S1 T1 => ⟨ρ1, F, ds, ρ', S1, r2, e, fun σ2 w2 S2 T2 => q σ2 (w2.trans w1) S2 (T1.trans T2)⟩⟩
theorem c_tup {es : List Expr} {k : Nat} {gs : GEs} (hK : X.K = M.K) (hc : X.calm = true) (h : Tcs M X vs es gs) (hl : ∀ ds ρ ρ', gs ds ρ = some ρ' → ds.length = es.length)
    (hn : (assignEach es X.env).length = es.length := by rfl) (hst : (assignEach es X.env).findIdx? (·.1) = none := by rfl) : Tc M X vs (.Tuple es k pos) (gTp gs) :=
  (pg_tup hc h hn hst).imp fun v σ H Q ⟨ρ, F, d, ρ', S, r, e, q⟩ => by
    cases d with
    | tup ds =>
      unfold Rp at r
      obtain ⟨a, ws, rfl, hs, rs⟩ := r
      rw [hK]
      exact ⟨a, ws, rfl, (TpAt.mono S.sub hs).sq, rs.length.trans (hl ds ρ ρ' e), ρ, F, ds, ρ', S, rs, e, q⟩
    | _ => cases e
end

/-! ### list comprehensions -/
def wipeE (ρ : Env) (vs : List Nat) : Env := match vs with
  | [] => ρ
  | v :: vs => (wipeE ρ vs).set v none
theorem wipeE_length (ρ : Env) : ∀ vs : List Nat, (wipeE ρ vs).length = ρ.length
  | [] => rfl
  | v :: vs => by unfold wipeE; rw [List.length_set, wipeE_length ρ vs]
theorem wipeE_get (σ : Env) (j : Nat) : ∀ vs : List Nat, (wipeE σ vs)[j]? = if j ∈ vs ∧ j < σ.length then some none else σ[j]?
  | [] => by simp [wipeE]
  | v :: vs => by
    unfold wipeE
    by_cases e : v = j
    · subst e
      by_cases h : v < σ.length
      · rw [List.getElem?_set_self (by rw [wipeE_length]; exact h), if_pos ⟨List.mem_cons_self, h⟩]
      · rw [if_neg fun q => h q.2, List.getElem?_eq_none (by rw [List.length_set, wipeE_length]; omega), List.getElem?_eq_none (by omega)]
    · rw [List.getElem?_set_ne e, wipeE_get σ j vs]
      have : (j ∈ v :: vs ∧ j < σ.length) ↔ (j ∈ vs ∧ j < σ.length) := by
        constructor
        · rintro ⟨h, h2⟩
          rcases List.mem_cons.mp h with q | q
          · exact absurd q.symm e
          · exact ⟨q, h2⟩
        · rintro ⟨h, h2⟩
          exact ⟨List.mem_cons_of_mem _ h, h2⟩
      by_cases hq : j ∈ vs ∧ j < σ.length
      · rw [if_pos hq, if_pos (this.mpr hq)]
      · rw [if_neg hq, if_neg fun z => hq (this.mp z)]
/-- ρ' with the slots vs as in ρ -/
def backE (ρ : Env) (vs : List Nat) (ρ' : Env) : Env := match vs with
  | [] => ρ'
  | v :: vs => (backE ρ vs ρ').set v (ρ.getD v none)
theorem backE_length (ρ ρ' : Env) : ∀ vs : List Nat, (backE ρ vs ρ').length = ρ'.length
  | [] => rfl
  | v :: vs => by unfold backE; rw [List.length_set, backE_length ρ ρ' vs]
theorem backE_get (ρ ρ' : Env) (hl : ρ.length = ρ'.length) (j : Nat) : ∀ vs : List Nat, (backE ρ vs ρ')[j]? = if j ∈ vs then ρ[j]? else ρ'[j]?
  | [] => by simp [backE]
  | v :: vs => by
    unfold backE
    by_cases e : v = j
    · subst e
      rw [if_pos List.mem_cons_self]
      by_cases h : v < ρ'.length
      · rw [List.getElem?_set_self (by rw [backE_length]; exact h)]
        have h2 : v < ρ.length := by omega
        rw [List.getD_eq_getElem?_getD, List.getElem?_eq_getElem h2]
        rfl
      · rw [List.getElem?_eq_none (by rw [List.length_set, backE_length]; omega), List.getElem?_eq_none (by omega)]
    · rw [List.getElem?_set_ne e, backE_get ρ ρ' hl j vs]
      by_cases hq : j ∈ vs
      · rw [if_pos hq, if_pos (List.mem_cons_of_mem _ hq)]
      · rw [if_neg hq, if_neg fun z => (List.mem_cons.mp z).elim (fun y => e y.symm) hq]
def noOwn (ρ : Env) (vs : List Nat) : Bool := vs.all fun j => match ρ[j]? with
  | some (some (.own _ _)) => false
  | _ => true
theorem noOwn_has {ρ : Env} {vs : List Nat} (h : noOwn ρ vs = true) {j : Nat} (hj : j ∈ vs) (o : Own) (io : Bool) : ¬ Has ρ j o io := fun z => by
  have := List.all_eq_true.mp h j hj
  unfold Has at z
  rw [z] at this
  cases this
def wipeG (ρ : Env) (vs : List Nat) : Option Env := if noOwn ρ vs = true then some (wipeE ρ vs) else none
/-- the items that a comprehension makes, in turn -/
def compL (vs : List Nat) (g : GE) (c : DT) (e : DE) : List D → Env → Option (List D × Env)
  | [], ρ => some ([], ρ)
  | d :: ds, ρ => (g d ρ).bind fun ρ1 => (c ρ1).bind fun x => if x.1 = true then (e x.2).bind fun y => (wipeG y.2 vs).bind fun ρ2 => (compL vs g c e ds ρ2).bind fun z => some (y.1 :: z.1, z.2)
    else (wipeG x.2 vs).bind fun ρ2 => compL vs g c e ds ρ2
def sComp (vs : List Nat) (s : SI) (g : GE) (c : DT) (e : DE) : SE := fun ρ => (s ρ).bind fun x => (wipeG x.2 vs).bind fun ρ2 => (compL vs g c e x.1 ρ2).bind fun z =>
  if z.1.length ≤ sizeLine then some (.own (.lst z.1) false, backE x.2 vs z.2) else none
def tYesD : DT := fun ρ => some (true, ρ)
section
variable {M : Md} {ρ ρ' ρ1 : Env} {σ : St} {F F' H H' : Hp} {vs : List Nat}
theorem wipe_has {j : Nat} {o : Own} {io : Bool} (h : Has (wipeE ρ vs) j o io) : Has ρ j o io ∧ j ∉ vs := by
  unfold Has at h ⊢
  rw [wipeE_get] at h
  split at h
  · cases h
  · rename_i hn
    refine ⟨h, fun z => hn ⟨z, ?_⟩⟩
    exact (List.getElem?_eq_some_iff.mp h).1
theorem wipe_out' {j : Nat} (h : j ∉ vs) : (wipe σ vs)[j]? = σ[j]? := by rw [wipe_get, if_neg fun z => h z.1]
theorem wipeE_out {j : Nat} (h : j ∉ vs) : (wipeE ρ vs)[j]? = ρ[j]? := by rw [wipeE_get, if_neg fun z => h z.1]
theorem has_wipe {j : Nat} {o : Own} {io : Bool} (n : noOwn ρ vs = true) (h : Has ρ j o io) : Has (wipeE ρ vs) j o io ∧ j ∉ vs := by
  have hj : j ∉ vs := fun z => noOwn_has n z o io h
  exact ⟨by unfold Has; rw [wipeE_out hj]; exact h, hj⟩
theorem ownC_wipe {b : Addr} (n : noOwn ρ vs = true) : OwnC (wipeE ρ vs) (wipe σ vs) b ↔ OwnC ρ σ b := by
  constructor
  · rintro ⟨j, o, io, h, e⟩
    obtain ⟨h, hj⟩ := wipe_has h
    exact ⟨j, o, io, h, by rw [← wipe_out' hj]; exact e⟩
  · rintro ⟨j, o, io, h, e⟩
    obtain ⟨h, hj⟩ := has_wipe n h
    exact ⟨j, o, io, h, by rw [wipe_out' hj]; exact e⟩
theorem ownN_wipe {b : Addr} (n : noOwn ρ vs = true) : OwnN (wipeE ρ vs) (wipe σ vs) b ↔ OwnN ρ σ b := by
  constructor
  · rintro ⟨j, o, h, e⟩
    obtain ⟨h, hj⟩ := wipe_has h
    exact ⟨j, o, h, by rw [← wipe_out' hj]; exact e⟩
  · rintro ⟨j, o, h, e⟩
    obtain ⟨h, hj⟩ := has_wipe n h
    exact ⟨j, o, h, by rw [wipe_out' hj]; exact e⟩
theorem Sim.wipe (S : Sim M ρ F σ H) : Sim M (wipeE ρ vs) F (L2.wipe σ vs) H := by
  refine ⟨by rw [wipeE_length, wipe_length]; exact S.len, S.sub, fun j d h => ?_, fun j o io h => ?_, fun j k o o' io io' a h1 h2 e1 e2 => ?_⟩
  · rw [wipeE_get] at h
    split at h
    · cases h
    · rename_i hn
      have hj : j ∉ vs := fun z => hn ⟨z, (List.getElem?_eq_some_iff.mp h).1⟩
      obtain ⟨v, e, r⟩ := S.val j d h
      exact ⟨v, by rw [wipe_out' hj]; exact e, r⟩
  · obtain ⟨h, hj⟩ := wipe_has h
    obtain ⟨a, e, q⟩ := S.own j o io h
    exact ⟨a, by rw [wipe_out' hj]; exact e, q⟩
  · obtain ⟨h1, hj⟩ := wipe_has h1
    obtain ⟨h2, hk⟩ := wipe_has h2
    rw [wipe_out' hj] at e1
    rw [wipe_out' hk] at e2
    exact S.sep j k o o' io io' a h1 h2 e1 e2
theorem wipe_wipe (σ : St) : L2.wipe (L2.wipe σ vs) vs = L2.wipe σ vs := by
  apply List.ext_getElem?
  intro j
  rw [wipe_get, wipe_get, wipe_length]
  by_cases h : j ∈ vs ∧ j < σ.length
  · rw [if_pos h, if_pos h]
  · rw [if_neg h, if_neg h]
/-- forgetting slots that own nothing is a step -/
theorem Step.wipe (n : noOwn ρ vs = true) : Step ρ σ F H (wipeE ρ vs) (L2.wipe σ vs) F H := by
  refine ⟨Same.refl _, fun _ _ h => .inl h, fun _ _ h _ => h, fun _ o h => ⟨o, h⟩, fun b h => .inl ((ownC_wipe n).mp h), fun b h => .inl ((ownN_wipe n).mp h), fun i o h => ?_, fun i o h => ⟨o, (wipe_has h).1⟩⟩
  obtain ⟨h, hj⟩ := has_wipe n h
  exact ⟨wipe_out' hj, o, h⟩
theorem Step.unwipe (n : noOwn ρ vs = true) : Step (wipeE ρ vs) (L2.wipe σ vs) F H ρ σ F H := by
  refine ⟨Same.refl _, fun _ _ h => .inl h, fun _ _ h _ => h, fun _ o h => ⟨o, h⟩, fun b h => .inl ((ownC_wipe n).mpr h), fun b h => .inl ((ownN_wipe n).mpr h), fun i o h => ?_, fun i o h => ⟨o, (has_wipe n h).1⟩⟩
  obtain ⟨h, hj⟩ := wipe_has h
  exact ⟨(wipe_out' hj).symm, o, h⟩
/-- back from a block -/
theorem Sim.back (S : Sim M ρ F σ H) (n : noOwn ρ vs = true) (hl : ρ.length = ρ1.length) (S1 : Sim M ρ1 F' (L2.wipe σ vs) H') (w : wipeE ρ1 vs = ρ1) (fr : Same F F') : Sim M (backE ρ vs ρ1) F' σ H' ∧ noOwn (backE ρ vs ρ1) vs = true ∧ wipeE (backE ρ vs ρ1) vs = ρ1 := by
  have g : ∀ j, (backE ρ vs ρ1)[j]? = if j ∈ vs then ρ[j]? else ρ1[j]? := fun j => backE_get ρ ρ1 hl j vs
  have hb : ∀ {j o io}, Has (backE ρ vs ρ1) j o io → j ∉ vs ∧ Has ρ1 j o io := fun {j o io} h => by
    unfold Has at h
    rw [g] at h
    split at h
    · rename_i hj
      exact absurd h (noOwn_has n hj o io)
    · rename_i hj
      exact ⟨hj, h⟩
  refine ⟨⟨by rw [backE_length, ← hl]; exact S.len, S1.sub, fun j d h => ?_, fun j o io h => ?_, fun j k o o' io io' a h1 h2 e1 e2 => ?_⟩, ?_, ?_⟩
  · rw [g] at h
    split at h
    · obtain ⟨v, e, r⟩ := S.val j d h
      exact ⟨v, e, Rp.mono fr _ _ r⟩
    · rename_i hj
      obtain ⟨v, e, r⟩ := S1.val j d h
      rw [wipe_out' hj] at e
      exact ⟨v, e, r⟩
  · obtain ⟨hj, h⟩ := hb h
    obtain ⟨a, e, q⟩ := S1.own j o io h
    rw [wipe_out' hj] at e
    exact ⟨a, e, q⟩
  · obtain ⟨hj, h1⟩ := hb h1
    obtain ⟨hk, h2⟩ := hb h2
    exact S1.sep j k o o' io io' a h1 h2 (by rw [wipe_out' hj]; exact e1) (by rw [wipe_out' hk]; exact e2)
  · refine List.all_eq_true.mpr fun j hj => ?_
    rw [g, if_pos hj]
    exact List.all_eq_true.mp n j hj
  · apply List.ext_getElem?
    intro j
    have w' : ρ1[j]? = if j ∈ vs ∧ j < ρ1.length then some none else ρ1[j]? := by
      rw [← wipeE_get, w]
    rw [wipeE_get, backE_length]
    by_cases h : j ∈ vs ∧ j < ρ1.length
    · rw [if_pos h]
      rw [if_pos h] at w'
      exact w'.symm
    · rw [if_neg h, g]
      split
      · rename_i hj
        have : ¬ j < ρ1.length := fun z => h ⟨hj, z⟩
        rw [List.getElem?_eq_none (by omega), List.getElem?_eq_none (by omega)]
      · rfl
end
end ET
set_option Elab.async false
set_option maxRecDepth 100000
/-! ET: list comprehensions over HandS's rule. -/
namespace ET
open PySem L2
section
variable {M : Md} {ρ ρ0 : Env} {σ σ0 : St} {F F0 H H0 : Hp} {Dd : Addr} {o : HO}
theorem Sim.other (S : Sim M ρ F σ H) (f : F Dd = none) (n : ¬ OwnC ρ σ Dd) : Sim M ρ F σ (upd H Dd o) := by
  refine ⟨S.len, fun b u z => ?_, S.val, fun i p io h => ?_, S.sep⟩
  · rw [upd_ne (ne_of_none z f)]; exact S.sub _ _ z
  · obtain ⟨a, e, q, fa⟩ := S.own i p io h
    refine ⟨a, e, q.mono (Same.refl _) fun u z => ?_, fa⟩
    have ne : a ≠ Dd := fun y => n ⟨i, p, io, h, by rw [← y]; exact e⟩
    rw [upd_ne ne]; exact z
theorem Step.other (T : Step ρ0 σ0 F0 H0 ρ σ F H) (h : H0 Dd = none) : Step ρ0 σ0 F0 H0 ρ σ F (upd H Dd o) := by
  refine ⟨T.fr, T.new, fun b u z n => ?_, fun b u z => ?_, T.ownC, T.ownN, T.io, T.io'⟩
  · rw [upd_ne (ne_of_none z h)]; exact T.keep b u z n
  · rw [upd_ne (ne_of_none z h)]; exact T.there b u z
/-- a cell that is nobody's stays -/
theorem Step.cell {ρ1 : Env} {σ1 : St} {F1 H1 : Hp} (T : Step ρ σ F H ρ1 σ1 F1 H1) (s1 : Same F1 H1) (nt : ∀ xs, o ≠ .tup xs) (h : H Dd = some o) (f : F Dd = none) (n : ¬ OwnC ρ σ Dd) : H1 Dd = some o ∧ F1 Dd = none ∧ ¬ OwnC ρ1 σ1 Dd := by
  refine ⟨T.keep _ _ h n, ?_, fun z => ?_⟩
  · cases e : F1 Dd with
    | none => rfl
    | some u =>
      rcases T.new _ _ e with z | z | z | ⟨xs, z⟩
      · rw [f] at z; cases z
      · rw [h] at z; cases z
      · exact absurd z.c n
      · subst z
        have y := s1 _ _ e
        rw [T.keep _ _ h n] at y
        cases y
        exact absurd rfl (nt xs)
  · rcases T.ownC _ z with z | z
    · exact n z
    · rw [h] at z; cases z
end

/-- a comprehension's state between two turns: the names ρ, the list at D so far -/
structure Tn (M : Md) (ρb : Env) (σb : St) (Fb Hb : Hp) (σw : St) (Dd : Addr) (ρ : Env) (F H : Hp) (acc : List V) (accD : List D) : Prop where
  sim : Sim M ρ F σw H
  stp : Step ρb σb Fb Hb ρ σw F H
  cell : H Dd = some (.lst acc)
  fd : F Dd = none
  nc : ¬ OwnC ρ σw Dd
  rp : RpAll M.K F acc accD
section
variable {M : Md} {ρb ρ ρ1 : Env} {σb σw σ1 : St} {Fb Hb F H F1 H1 : Hp} {Dd : Addr} {acc : List V} {accD : List D}
theorem Tn.move (t : Tn M ρb σb Fb Hb σw Dd ρ F H acc accD) (S : Sim M ρ1 F1 σ1 H1) (T : Step ρ σw F H ρ1 σ1 F1 H1) : Tn M ρb σb Fb Hb σ1 Dd ρ1 F1 H1 acc accD := by
  obtain ⟨c, f, n⟩ := T.cell S.sub (fun xs e => by cases e) t.cell t.fd t.nc
  exact ⟨S, t.stp.trans T, c, f, n, RpAll.mono T.fr _ _ t.rp⟩
theorem Tn.wipe {vs : List Nat} {ρ2 : Env} (t : Tn M ρb σb Fb Hb σw Dd ρ F H acc accD) (h : wipeG ρ vs = some ρ2) : Tn M ρb σb Fb Hb (L2.wipe σw vs) Dd ρ2 F H acc accD ∧ wipeE ρ2 vs = ρ2 := by
  unfold wipeG at h
  split at h
  · rename_i n
    cases h
    refine ⟨t.move t.sim.wipe (Step.wipe n), ?_⟩
    apply List.ext_getElem?
    intro j
    rw [wipeE_get, wipeE_get, wipeE_length]
    by_cases h : j ∈ vs ∧ j < ρ.length
    · rw [if_pos h, if_pos h]
    · rw [if_neg h, if_neg h]
  · cases h
theorem Tn.push {v : V} {d : D} (hb : Hb Dd = none) (t : Tn M ρb σb Fb Hb σw Dd ρ F H acc accD) (r : Rp M.K F v d) : Tn M ρb σb Fb Hb σw Dd ρ F (upd H Dd (.lst (acc ++ [v]))) (acc ++ [v]) (accD ++ [d]) :=
  ⟨t.sim.other t.fd t.nc, t.stp.other hb, upd_same, t.fd, t.nc, t.rp.append (RpAll.cons r RpAll.nil)⟩
end

/-- the turns of a comprehension -/
theorem comp_turns {M : Md} {ρb : Env} {σb : St} {Fb Hb : Hp} {Dd : Addr} {vs : List Nat} {σ : St} {g : GE} {c : DT} {e : DE} {J : It} {xs : List D} {F1 : Hp} {zs : List D} {ρz : Env} {Stop : Hp → Prop} {ρ0 : Env} {H0 F0 : Hp} {acc0 : List V} {accD0 : List D}
    (hb : Hb Dd = none) (wk : Wk M.K J F1 xs) (fr : Same F1 F0) (hc : compL vs g c e xs ρ0 = some (zs, ρz)) (w0 : wipeE ρ0 vs = ρ0) (t0 : Tn M ρb σb Fb Hb (L2.wipe σ vs) Dd ρ0 F0 H0 acc0 accD0) (hz : accD0.length + zs.length ≤ sizeLine)
    (fin : ∀ F' H' acc, Tn M ρb σb Fb Hb (L2.wipe σ vs) Dd ρz F' H' acc (accD0 ++ zs) → wipeE ρz vs = ρz → Same F0 F' → Stop H') :
    ∃ W : Nat → Nat → Hp → Prop, (∃ m, W 0 m H0) ∧ ∀ i m H, W i m H →
      (J.stop i H ∧ Stop H) ∨ (J.go i H ∧ ∃ Nx : Hp → Prop, (∀ H', Nx H' → ∃ m', m' < m ∧ W (i + 1) m' H') ∧ ∀ x H', J.yld i H x H' → tTc M vs g x (L2.wipe σ vs) H' fun σ2 H2 => L2.wipe σ2 vs = L2.wipe σ vs ∧ tDT M c σ2 H2 fun b H3 =>
        if b = true then tD M e σ2 H3 fun y H4 => ∃ acc, H4 Dd = some (.lst acc) ∧ acc.length < sizeLine ∧ Nx (upd H4 Dd (.lst (acc ++ [y]))) else Nx H3) := by
  refine ⟨fun i m H => m = xs.length - i ∧ i ≤ xs.length ∧ ∃ ρc Fc acc accD rest, Tn M ρb σb Fb Hb (L2.wipe σ vs) Dd ρc Fc H acc accD ∧ Same F0 Fc ∧ wipeE ρc vs = ρc ∧ compL vs g c e (xs.drop i) ρc = some (rest, ρz) ∧ accD0 ++ zs = accD ++ rest,
    ⟨xs.length, by simp, Nat.zero_le _, ρ0, F0, acc0, accD0, zs, t0, Same.refl _, w0, by simpa using hc, rfl⟩, ?_⟩
  rintro i m H ⟨rfl, hi, ρc, Fc, acc, accD, rest, t, frc, wc, el, ez⟩
  by_cases hlt : i < xs.length
  · obtain ⟨w1, _⟩ := wk i H (fr.trans (frc.trans t.sim.sub))
    obtain ⟨go, yl⟩ := w1 xs[i] (List.getElem?_eq_getElem hlt)
    rw [List.drop_eq_getElem_cons hlt] at el
    unfold compL at el
    obtain ⟨ρ2, e2, el⟩ := Option.bind_eq_some_iff.mp el
    obtain ⟨⟨k, ρ3⟩, e3, el⟩ := Option.bind_eq_some_iff.mp el
    refine .inr ⟨go, fun H5 => ∃ ρc Fc acc accD rest, Tn M ρb σb Fb Hb (L2.wipe σ vs) Dd ρc Fc H5 acc accD ∧ Same F0 Fc ∧ wipeE ρc vs = ρc ∧ compL vs g c e (xs.drop (i + 1)) ρc = some (rest, ρz) ∧ accD0 ++ zs = accD ++ rest,
      fun H5 h5 => ⟨xs.length - (i + 1), by omega, rfl, hlt, h5⟩, fun x H' y => ?_⟩
    obtain ⟨rfl, rx⟩ := yl x H' y
    refine ⟨ρc, Fc, xs[i], ρ2, t.sim, Rp.mono (fr.trans frc) _ _ rx, e2, fun σ2 ws S2 T2 => ⟨ws.trans (wipe_wipe σ), ρ2, Fc, k, ρ3, S2, e3, fun H3 F3 S3 T3 => ?_⟩⟩
    have t3 := (t.move S2 T2).move S3 T3
    have ew : L2.wipe σ2 vs = L2.wipe σ vs := ws.trans (wipe_wipe σ)
    try dsimp only
    cases k with
    | true =>
      rw [if_pos rfl] at el ⊢
      obtain ⟨⟨y, ρ4⟩, e4, el⟩ := Option.bind_eq_some_iff.mp el
      obtain ⟨ρ5, e5, el⟩ := Option.bind_eq_some_iff.mp el
      obtain ⟨⟨rest', ρ6⟩, e6, el⟩ := Option.bind_eq_some_iff.mp el
      cases el
      refine ⟨ρ3, F3, y, ρ4, S3, e4, fun v H4 F4 S4 T4 r4 => ?_⟩
      have t4 := t3.move S4 T4
      refine ⟨acc, t4.cell, ?_, ?_⟩
      · have := t4.rp.length
        have q := congrArg List.length ez
        rw [List.length_append, List.length_append, List.length_cons] at q
        omega
      · obtain ⟨t5, w5⟩ := t4.wipe e5
        rw [ew] at t5
        refine ⟨ρ5, F4, _, accD ++ [y], rest', t5.push hb r4, frc.trans (T2.fr.trans (T3.fr.trans T4.fr)), w5, e6, ?_⟩
        rw [ez, List.append_assoc]
        rfl
    | false =>
      rw [if_neg Bool.false_ne_true] at el ⊢
      obtain ⟨ρ5, e5, el⟩ := Option.bind_eq_some_iff.mp el
      obtain ⟨t5, w5⟩ := t3.wipe e5
      rw [ew] at t5
      exact ⟨ρ5, F3, acc, accD, rest, t5, frc.trans (T2.fr.trans T3.fr), w5, el, ez⟩
  · have ei : i = xs.length := by omega
    subst ei
    rw [List.drop_length] at el
    cases el
    rw [List.append_nil] at ez
    rw [← ez] at t
    exact .inl ⟨(wk _ H (fr.trans (frc.trans t.sim.sub))).2 (Nat.le_refl _), fin Fc H acc t wc frc⟩

section
variable {M : Md} {X : Cx}
/-- the start of a comprehension: its list is laid -/
theorem Tn.start {ρ1 ρ2 : Env} {σ : St} {F1 H1 : Hp} {Dd : Addr} {vs : List Nat} (S1 : Sim M ρ1 F1 σ H1) (hD : H1 Dd = none) (h : wipeG ρ1 vs = some ρ2) :
    Tn M ρ1 σ F1 H1 (L2.wipe σ vs) Dd ρ2 F1 (upd H1 Dd (.lst [])) [] [] ∧ wipeE ρ2 vs = ρ2 ∧ noOwn ρ1 vs = true ∧ wipeE ρ1 vs = ρ2 := by
  have f : F1 Dd = none := S1.sub.free hD
  have n : ¬ OwnC ρ1 σ Dd := fun z => by
    obtain ⟨_, u, hu⟩ := S1.ownF z
    rw [hD] at hu; cases hu
  have t : Tn M ρ1 σ F1 H1 σ Dd ρ1 F1 (upd H1 Dd (.lst [])) [] [] := ⟨S1.other f n, Step.refl.other hD, upd_same, f, n, RpAll.nil⟩
  obtain ⟨t2, w2⟩ := t.wipe h
  unfold wipeG at h
  split at h
  · rename_i hn
    cases h
    exact ⟨t2, w2, hn, rfl⟩
  · cases h
/-- the end: the names of before, the list new -/
theorem Tn.end_ {ρ ρ1 ρz : Env} {σ : St} {F H F1 H1 F' H' : Hp} {Dd : Addr} {vs : List Nat} {acc : List V} {accD : List D} {Q : VK} (S1 : Sim M ρ1 F1 σ H1) (T1 : Step ρ σ F H ρ1 σ F1 H1) (hD : H1 Dd = none) (n : noOwn ρ1 vs = true)
    (t : Tn M ρ1 σ F1 H1 (L2.wipe σ vs) Dd ρz F' H' acc accD) (w : wipeE ρz vs = ρz)
    (q : ∀ v H' F', Sim M (backE ρ1 vs ρz) F' σ H' → Step ρ σ F H (backE ρ1 vs ρz) σ F' H' → SlAt M (backE ρ1 vs ρz) σ H F' H' v (.own (.lst accD) false) → Q v H') : Q (.ref Dd) H' := by
  have hl : ρ1.length = ρz.length := by rw [S1.len, t.sim.len, wipe_length]
  obtain ⟨Sb, nb, wb⟩ := S1.back n hl t.sim w t.stp.fr
  have Tb : Step ρz (L2.wipe σ vs) F' H' (backE ρ1 vs ρz) σ F' H' := by
    have := Step.unwipe (F := F') (H := H') (σ := σ) nb
    rw [wb] at this
    exact this
  refine q (.ref Dd) H' F' Sb ((T1.trans t.stp).trans Tb) ⟨Dd, rfl, ⟨acc, t.cell, t.rp⟩, t.fd, ?_, fun z => ?_⟩
  · cases e : H Dd with
    | none => rfl
    | some o => obtain ⟨o', q'⟩ := T1.there Dd o e; rw [hD] at q'; cases q'
  · have z2 := (ownC_wipe (σ := σ) nb).mpr z
    rw [wb] at z2
    exact t.nc z2
theorem s_compI {vs : List Nat} {s : SI} {g : GE} {c : DT} {e : DE} : ∀ σ H Q, tSE M (sComp vs s g c e) σ H Q → tLc (tIt M s) (tTc M vs g) (tDT M c) (tD M e) vs σ H Q := fun σ H Q ⟨ρ, F, d, ρ', S, el, q⟩ => by
  unfold sComp at el
  obtain ⟨⟨xs, ρ1⟩, e1, el⟩ := Option.bind_eq_some_iff.mp el
  obtain ⟨ρ2, e2, el⟩ := Option.bind_eq_some_iff.mp el
  obtain ⟨⟨zs, ρz⟩, e3, el⟩ := Option.bind_eq_some_iff.mp el
  split at el
  · rename_i hz
    cases el
    refine ⟨ρ, F, xs, ρ1, S, e1, fun J H1 F1 S1 T1 wk => fun Dd hD => ?_⟩
    obtain ⟨t0, w0, n0, _⟩ := Tn.start S1 hD e2
    exact comp_turns hD wk (Same.refl _) e3 w0 t0 (by simpa using hz) fun F' H' acc t w _ => Tn.end_ S1 T1 hD n0 t w q
  · cases el
theorem ts_nil : PTs X [] (tDT M tYesD) := ⟨fun pins s σ H Q I h => pts_nil.run pins s σ H Q I (by
  obtain ⟨ρ, F, d, ρ', S, e, q⟩ := h
  cases e
  exact q H F S .refl)⟩
theorem ts_one {t : Expr} {c : DT} (h : Te M X t c) : PTs X [t] (tDT M c) := pts_one h

/-! ### two fors -/
def compL2 (vs vs1 : List Nat) (g : GE) (c : DT) (s1 : SI) (g1 : GE) (c1 : DT) (e : DE) : List D → Env → Option (List D × Env)
  | [], ρ => some ([], ρ)
  | d :: ds, ρ => (g d ρ).bind fun ρ1 => (c ρ1).bind fun x => if x.1 = true then (s1 x.2).bind fun y => (wipeG y.2 vs1).bind fun ρ2 => (compL vs1 g1 c1 e y.1 ρ2).bind fun z => (wipeG z.2 vs).bind fun ρ3 =>
      (compL2 vs vs1 g c s1 g1 c1 e ds ρ3).bind fun u => some (z.1 ++ u.1, u.2)
    else (wipeG x.2 vs).bind fun ρ2 => compL2 vs vs1 g c s1 g1 c1 e ds ρ2
def sComp2 (vs vs1 : List Nat) (s : SI) (g : GE) (c : DT) (s1 : SI) (g1 : GE) (c1 : DT) (e : DE) : SE := fun ρ => (s ρ).bind fun x => (wipeG x.2 vs).bind fun ρ2 => (compL2 vs vs1 g c s1 g1 c1 e x.1 ρ2).bind fun z =>
  if z.1.length ≤ sizeLine then some (.own (.lst z.1) false, backE x.2 vs z.2) else none
theorem wipe_sub {σ : St} {vs vs1 : List Nat} (hv : ∀ i ∈ vs1, i ∈ vs) : L2.wipe (L2.wipe σ vs1) vs = L2.wipe σ vs := by
  apply List.ext_getElem?
  intro j
  rw [wipe_get, wipe_get, wipe_length, wipe_get]
  by_cases h : j ∈ vs ∧ j < σ.length
  · rw [if_pos h, if_pos h]
  · rw [if_neg h, if_neg h, if_neg fun z => h ⟨hv j z.1, z.2⟩]
theorem s_comp2I {vs vs1 : List Nat} {s : SI} {g : GE} {c : DT} {s1 : SI} {g1 : GE} {c1 : DT} {e : DE} (hv : ∀ i ∈ vs1, i ∈ vs) : ∀ σ H Q, tSE M (sComp2 vs vs1 s g c s1 g1 c1 e) σ H Q →
    tLc2 (tIt M s) (tTc M vs g) (tDT M c) (tIt M s1) (tTc M vs1 g1) (tDT M c1) (tD M e) vs vs1 σ H Q := fun σ H Q ⟨ρ, F, d, ρ', S, el, q⟩ => by
  unfold sComp2 at el
  obtain ⟨⟨xs, ρ1⟩, e1, el⟩ := Option.bind_eq_some_iff.mp el
  obtain ⟨ρ2, e2, el⟩ := Option.bind_eq_some_iff.mp el
  obtain ⟨⟨zs, ρz⟩, e3, el⟩ := Option.bind_eq_some_iff.mp el
  split at el
  · rename_i hz
    cases el
    refine ⟨ρ, F, xs, ρ1, S, e1, fun J H1 F1 S1 T1 wk => fun Dd hD => ?_⟩
    obtain ⟨t0, w0, n0, _⟩ := Tn.start S1 hD e2
    refine ⟨fun i m H => m = xs.length - i ∧ i ≤ xs.length ∧ ∃ ρc Fc acc accD rest, Tn M ρ1 σ F1 H1 (L2.wipe σ vs) Dd ρc Fc H acc accD ∧ Same F1 Fc ∧ wipeE ρc vs = ρc ∧ compL2 vs vs1 g c s1 g1 c1 e (xs.drop i) ρc = some (rest, ρz) ∧ zs = accD ++ rest,
      ⟨xs.length, by simp, Nat.zero_le _, ρ2, F1, [], [], zs, t0, Same.refl _, w0, by simpa using e3, rfl⟩, ?_⟩
    rintro i m H ⟨rfl, hi, ρc, Fc, acc, accD, rest, t, frc, wc, el, ez⟩
    by_cases hlt : i < xs.length
    · obtain ⟨w1, _⟩ := wk i H (frc.trans t.sim.sub)
      obtain ⟨go, yl⟩ := w1 xs[i] (List.getElem?_eq_getElem hlt)
      rw [List.drop_eq_getElem_cons hlt] at el
      unfold compL2 at el
      obtain ⟨ρ2, e2, el⟩ := Option.bind_eq_some_iff.mp el
      obtain ⟨⟨k, ρ3⟩, e3, el⟩ := Option.bind_eq_some_iff.mp el
      refine .inr ⟨go, fun H5 => ∃ ρc Fc acc accD rest, Tn M ρ1 σ F1 H1 (L2.wipe σ vs) Dd ρc Fc H5 acc accD ∧ Same F1 Fc ∧ wipeE ρc vs = ρc ∧ compL2 vs vs1 g c s1 g1 c1 e (xs.drop (i + 1)) ρc = some (rest, ρz) ∧ zs = accD ++ rest,
        fun H5 h5 => ⟨xs.length - (i + 1), by omega, rfl, hlt, h5⟩, fun x H' y => ?_⟩
      obtain ⟨rfl, rx⟩ := yl x H' y
      refine ⟨ρc, Fc, xs[i], ρ2, t.sim, Rp.mono frc _ _ rx, e2, fun σ2 ws S2 T2 => ⟨ws.trans (wipe_wipe σ), ρ2, Fc, k, ρ3, S2, e3, fun H3 F3 S3 T3 => ?_⟩⟩
      have t3 := (t.move S2 T2).move S3 T3
      have ew : L2.wipe σ2 vs = L2.wipe σ vs := ws.trans (wipe_wipe σ)
      try dsimp only
      cases k with
      | true =>
        rw [if_pos rfl] at el ⊢
        obtain ⟨⟨ys, ρ4⟩, e4, el⟩ := Option.bind_eq_some_iff.mp el
        obtain ⟨ρ5, e5, el⟩ := Option.bind_eq_some_iff.mp el
        obtain ⟨⟨us, ρ6⟩, e6, el⟩ := Option.bind_eq_some_iff.mp el
        obtain ⟨ρ7, e7, el⟩ := Option.bind_eq_some_iff.mp el
        obtain ⟨⟨rest', ρ8⟩, e8, el⟩ := Option.bind_eq_some_iff.mp el
        cases el
        refine ⟨ρ3, F3, ys, ρ4, S3, e4, fun J1 H4 F4 S4 T4 wk1 => ?_⟩
        have t4 := t3.move S4 T4
        obtain ⟨t5, w5⟩ := t4.wipe e5
        have hz2 : accD.length + us.length ≤ sizeLine := by
          have := congrArg List.length ez
          rw [List.length_append, List.length_append] at this
          dsimp only at this hz
          omega
        refine comp_turns hD wk1 (Same.refl _) e6 w5 t5 hz2 fun F' H' acc' t' w' fr' => ?_
        obtain ⟨t7, w7⟩ := t'.wipe e7
        rw [wipe_sub hv, ew] at t7
        exact ⟨ρ7, F', acc', accD ++ us, rest', t7, frc.trans (T2.fr.trans (T3.fr.trans (T4.fr.trans fr'))), w7, e8, by rw [ez, List.append_assoc]⟩
      | false =>
        rw [if_neg Bool.false_ne_true] at el ⊢
        obtain ⟨ρ5, e5, el⟩ := Option.bind_eq_some_iff.mp el
        obtain ⟨t5, w5⟩ := t3.wipe e5
        rw [ew] at t5
        exact ⟨ρ5, F3, acc, accD, rest, t5, frc.trans (T2.fr.trans T3.fr), w5, el, ez⟩
    · have ei : i = xs.length := by omega
      subst ei
      rw [List.drop_length] at el
      cases el
      rw [List.append_nil] at ez
      subst ez
      exact .inl ⟨(wk _ H (frc.trans t.sim.sub)).2 (Nat.le_refl _), Tn.end_ S1 T1 hD n0 t wc q⟩
  · cases el
end
end ET
set_option Elab.async false
set_option maxRecDepth 100000
namespace ET
open PySem L2
/-- ascending, each once -/
def canon (ns : List Int) : List Int := (ns.eraseDups).mergeSort fun a b => decide (a ≤ b)
theorem mem_canon {ns : List Int} {k : Int} : k ∈ canon ns ↔ k ∈ ns := by
  unfold canon
  rw [List.mem_mergeSort, List.mem_eraseDups]
theorem nodup_eraseDups : ∀ (n : Nat) (l : List Int), l.length ≤ n → l.eraseDups.Nodup
  | _, [], _ => by simp
  | 0, _ :: _, h => by simp at h
  | n + 1, a :: l, h => by
    rw [List.eraseDups_cons]
    refine List.nodup_cons.mpr ⟨fun z => ?_, nodup_eraseDups n _ ?_⟩
    · rw [List.mem_eraseDups, List.mem_filter] at z
      simp at z
    · have := List.length_filter_le (fun b => !b == a) l
      simp only [List.length_cons] at h
      omega
theorem canon_lt (ns : List Int) : (canon ns).Pairwise (· < ·) := by
  refine lt_of_le_nodup _ ?_ ?_
  · have := List.pairwise_mergeSort (le := fun (a b : Int) => decide (a ≤ b)) (fun a b c h1 h2 => by simp at *; omega) (fun a b => by simp; omega) ns.eraseDups
    exact this.imp fun h => by simpa using h
  · unfold canon
    exact (List.mergeSort_perm _ _).nodup_iff.mpr (nodup_eraseDups _ ns (Nat.le_refl _))
theorem lt_nodup {l : List Int} (h : l.Pairwise (· < ·)) : l.Nodup := h.imp fun h e => by omega
theorem asc_uniq : ∀ {l m : List Int}, l.Pairwise (· < ·) → m.Pairwise (· < ·) → (∀ k, k ∈ l ↔ k ∈ m) → l = m
  | [], [], _, _, _ => rfl
  | [], b :: m, _, _, h => absurd ((h b).mpr List.mem_cons_self) (by simp)
  | a :: l, [], _, _, h => absurd ((h a).mp List.mem_cons_self) (by simp)
  | a :: l, b :: m, h1, h2, h => by
    obtain ⟨p1, p2⟩ := List.pairwise_cons.mp h1
    obtain ⟨q1, q2⟩ := List.pairwise_cons.mp h2
    have e : a = b := by
      rcases List.mem_cons.mp ((h a).mp List.mem_cons_self) with e | e
      · exact e
      · rcases List.mem_cons.mp ((h b).mpr List.mem_cons_self) with e2 | e2
        · exact e2.symm
        · have := p1 b e2; have := q1 a e; omega
    subst e
    rw [asc_uniq p2 q2 fun k => ⟨fun z => ?_, fun z => ?_⟩]
    · rcases List.mem_cons.mp ((h k).mp (List.mem_cons_of_mem _ z)) with e | e
      · have := p1 k z; omega
      · exact e
    · rcases List.mem_cons.mp ((h k).mpr (List.mem_cons_of_mem _ z)) with e | e
      · have := q1 k z; omega
      · exact e
def fSortSet : D → Option (List D) := fun d => (lstOf d).bind fun xs => (intsOf xs).bind fun ns => if ns.length ≤ 1000 ∧ (canon ns).length < 64 then some ((canon ns).map .int) else none
/-- sorted(set(xs)) -/
def rSortSet (K : PySem.W.Frag) : List V → Hp → VK → Prop := fun xs H Q => ∃ (a : Addr) (ns : List Int), xs = [V.ref a] ∧ SqL K H a (ns.map V.int) ∧ ns.length ≤ 1000 ∧ (canon ns).length < 64 ∧
  ∀ p, H p = none → Q (.ref p) (upd H p (.lst ((canon ns).map V.int)))
section
variable {X : Cx} {M : Md}
theorem pe_sortSet {a : Expr} {ta : TE} {p p2 q pos : Pos} (hc : X.calm = true) (hg : Gl X "sorted") (hm : X.mg "sorted" = none) (hg2 : Gl X "set") (hm2 : X.mg "set" = none) (ha : PE X a ta)
    (na : starEach [a] X.env = (false, eval a X.env) :: starEach [] X.env := by rfl) : PE X (.Call (.Name "sorted" p) [.Call (.Name "set" p2) [a] [] q] [] pos) (tCB (rSortSet X.K) (tCons ta tNil)) := by
  refine ⟨fun pins s σ H Q I h => ?_⟩
  refine PyProof.Rows.Call_ (ld_blt I hg hm PyProof.Rows.boot_sorted ?_)
  refine PyProof.Rows.callWith_builtin1 (PyProof.Rows.args_cons ?_ rfl) rfl rfl
  refine PyProof.Rows.Call_ (ld_blt I hg2 hm2 PyProof.Rows.boot_set ?_)
  refine PyProof.Rows.callWith_type1 (PyProof.Rows.args_cons (thn (ha.run pins s σ H _ I h) fun v s1 ⟨x, H1, I1, r1, q1⟩ => PyProof.Rows.args_nil ?_) na) na rfl
  obtain ⟨l, ns, e, hq, hn, h64, q1⟩ := q1
  cases e
  cases r1
  obtain ⟨its, r, pl, hz⟩ := I1.list hq
  have hd := I1.ok.hd hc
  refine set_of_list ns hd pl.isList (by simpa using L2.ints_of_vals r) (by unfold scanBound; omega) fun h' tk c R1 hcn k => ?_
  refine PyProof.Rows.args_nil ?_
  have I2 : Inv X pins σ H1 { s1 with heap := h', toks := tk } := I1.kept fun b o e => k b o e
  have c64 : c < 64 := by
    obtain ⟨_, es, _, _, _, _, _, _, nd, hm, _, _, hcn', _⟩ := id R1
    have e1 : (es.toList.map keyOf).Perm (canon ns) := (List.perm_ext_iff_of_nodup nd (lt_nodup (canon_lt ns))).mpr fun j => by
      rw [mem_canon]
      have := hm j
      simp only [decide_eq_true_eq] at this
      exact this.symm
    have := e1.length_eq
    rw [List.length_map, Array.length_toList] at this
    omega
  refine sorted_set R1 hd c64 fun s' p out c2 ns' kk g o hp hg hout asc mem len => ?_
  have en : ns' = canon ns := asc_uniq asc (canon_lt ns) fun j => by
    rw [mem j, mem_canon, decide_eq_true_eq]
  subst en
  have hlen : ((canon ns).map V.int).length ≤ sizeLine := by rw [List.length_map, sizeLine_eq]; omega
  have hn : H1 p = none := I2.hok.fresh hp
  have J : Inv X pins σ (upd H1 p (.lst ((canon ns).map V.int))) { ({ s1 with heap := h', toks := tk } : Shared) with heap := s'.heap, gens := s'.gens, drawn := s'.drawn, toks := s'.toks } :=
    I2.call (ch := []) (Un.laid kk hp hn) (I2.hok.laid kk hp ⟨hlen, out.toList, c2, vals_ints hout, hg⟩) (by rw [g]; exact I2.bare) (fun _ z => nomatch z)
  have e : s' = { ({ s1 with heap := h', toks := tk } : Shared) with heap := s'.heap, gens := s'.gens, drawn := s'.drawn, toks := s'.toks } := by
    cases s'
    cases s1
    cases o
    rfl
  rw [e]
  exact ⟨.ref p, _, J, rfl, q1 p hn⟩
theorem imp_sortSet {K : PySem.W.Frag} : Imp1L K (rSortSet K) fSortSet := fun F H v d c Q s hv h q => by
  unfold fSortSet at h
  obtain ⟨xs, e1, h⟩ := Option.bind_eq_some_iff.mp h
  obtain ⟨ns, e2, h⟩ := Option.bind_eq_some_iff.mp h
  split at h
  · rename_i hz
    cases h
    have := lstOf_eq e1
    subst this
    have := intsOf_eq e2
    subst this
    obtain ⟨a, rfl, t⟩ := hv.ints s
    exact ⟨a, ns, rfl, t, hz.1, hz.2, fun p hp => q p _ hp (RpAll.of_ints _)⟩
  · cases h
theorem s_sortSet {a : Expr} {x : DO} {p p2 q pos : Pos} (hK : X.K = M.K) (hc : X.calm = true) (hg : Gl X "sorted") (hm : X.mg "sorted" = none) (hg2 : Gl X "set") (hm2 : X.mg "set" = none) (ha : Opd M X a x)
    (na : starEach [a] X.env = (false, eval a X.env) :: starEach [] X.env := by rfl) : Sx M X (.Call (.Name "sorted" p) [.Call (.Name "set" p2) [a] [] q] [] pos) (s1 fSortSet x) :=
  (pe_sortSet hc hg hm hg2 hm2 ha.run na).imp fun σ H Q h => by
    have := r_s1 (r := rSortSet M.K) imp_sortSet σ H Q h
    rw [hK]
    exact this
end
end ET
set_option Elab.async false
set_option maxRecDepth 100000
/-! ET: defs: what they do (FS), what they promise (spF), their bodies, their calls. -/
namespace ET
open PySem L2

inductive Arg where
  | val (d : D)
  | io (o : Own)
/-- what a def does: of arguments the result, and the arguments that are changed in place -/
abbrev FS := List Arg → Option (Sl × List Arg)
def AtA (M : Md) (F H : Hp) (v : V) : Arg → Prop
  | .val d => Rp M.K F v d
  | .io o => ∃ a, v = .ref a ∧ OwnAt M F H a o ∧ F a = none
/-- the arguments as they lie -/
inductive Ats (M : Md) (F H : Hp) : List V → List Arg → Prop
  | nil : Ats M F H [] []
  | cons {v : V} {vs : List V} {x : Arg} {xs : List Arg} : AtA M F H v x → Ats M F H vs xs → Ats M F H (v :: vs) (x :: xs)
/-- b is handed in -/
def InA (vs : List V) (xs : List Arg) (b : Addr) : Prop := ∃ (i : Nat) (o : Own), xs[i]? = some (.io o) ∧ vs[i]? = some (.ref b)
def SepA (vs : List V) (xs : List Arg) : Prop := ∀ (i j : Nat) (o o' : Own) (b : Addr), xs[i]? = some (.io o) → xs[j]? = some (.io o') → vs[i]? = some (.ref b) → vs[j]? = some (.ref b) → i = j
theorem Ats.length {M : Md} {F H : Hp} {vs : List V} {xs : List Arg} (h : Ats M F H vs xs) : vs.length = xs.length := by
  induction h with
  | nil => rfl
  | cons _ _ ih => rw [List.length_cons, List.length_cons, ih]
theorem Ats.get {M : Md} {F H : Hp} : ∀ {vs : List V} {xs : List Arg} {i : Nat} {x : Arg}, Ats M F H vs xs → xs[i]? = some x → ∃ v, vs[i]? = some v ∧ AtA M F H v x
  | _, _, _, _, .nil, e => by simp at e
  | _, _, 0, _, .cons h t, e => by simp at e; subst e; exact ⟨_, rfl, h⟩
  | _, _, i + 1, x, .cons h t, e => by simpa using Ats.get (i := i) t (by simpa using e)
/-- what stands behind a def -/
structure PostF (M : Md) (F H : Hp) (vs : List V) (xs : List Arg) (r : Sl) (ys : List Arg) (v : V) (F' H' : Hp) : Prop where
  fr : Same F F'
  sub : Same F' H'
  new : ∀ b o, F' b = some o → F b = some o ∨ H b = none ∨ ∃ xs, o = .tup xs
  keep : ∀ b o, H b = some o → ¬ InA vs xs b → H' b = some o
  there : ∀ b o, H b = some o → ∃ o', H' b = some o'
  res : match r with
    | .val d => Rp M.K F' v d
    | .own o _ => ∃ a, v = .ref a ∧ OwnAt M F' H' a o ∧ F' a = none ∧ H a = none
  len : ys.length = xs.length
  outs : ∀ (i : Nat) (o : Own) (b : Addr), xs[i]? = some (.io o) → vs[i]? = some (.ref b) → ∃ o', ys[i]? = some (.io o') ∧ OwnAt M F' H' b o'
def spF (M : Md) (f : FS) : Sp := fun vs H Q _ => ∃ F xs r ys, Same F H ∧ Ats M F H vs xs ∧ SepA vs xs ∧ f xs = some (r, ys) ∧ ∀ v H' F', PostF M F H vs xs r ys v F' H' → Q v H'

/-! ### a body -/
def slOf : Arg → Option Sl
  | .val d => some (.val d)
  | .io o => some (.own o true)
def envOf (n : Nat) (xs : List Arg) : Env := xs.map slOf ++ List.replicate (n - xs.length) none
/-- the arguments behind the body -/
def outsOf : List Arg → Env → List Arg
  | .val d :: r, ρ => .val d :: outsOf r ρ.tail
  | .io o :: r, (some (.own o' _)) :: ρ => .io o' :: outsOf r ρ
  | .io o :: r, ρ => .io o :: outsOf r ρ.tail
  | [], _ => []
/-- what a body of n names does, p of them the parameters -/
def runF (p n : Nat) (b : DS) : FS := fun xs => if xs.length = p then (b (envOf n xs)).bind fun r => match r with
  | .rt s ρ => some (s.fix, outsOf xs ρ)
  | .nx ρ => some (.val .non, outsOf xs ρ)
  | _ => none
  else none
theorem outsOf_len : ∀ (xs : List Arg) (ρ : Env), (outsOf xs ρ).length = xs.length
  | [], _ => by unfold outsOf; rfl
  | .val d :: r, ρ => by unfold outsOf; rw [List.length_cons, List.length_cons, outsOf_len r]
  | .io o :: r, [] => by unfold outsOf; rw [List.length_cons, List.length_cons, outsOf_len r]
  | .io o :: r, none :: ρ => by unfold outsOf; rw [List.length_cons, List.length_cons, outsOf_len r]
  | .io o :: r, some (.val _) :: ρ => by unfold outsOf; rw [List.length_cons, List.length_cons, outsOf_len r]
  | .io o :: r, some (.own _ _) :: ρ => by unfold outsOf; rw [List.length_cons, List.length_cons, outsOf_len r]
theorem outsOf_get : ∀ (xs : List Arg) (ρ : Env) (i : Nat) (o o' : Own) (io : Bool), xs[i]? = some (.io o) → ρ[i]? = some (some (.own o' io)) → (outsOf xs ρ)[i]? = some (.io o')
  | [], _, _, _, _, _, h, _ => by simp at h
  | _ :: _, [], _, _, _, _, _, h => by simp at h
  | .val d :: r, x :: ρ, 0, _, _, _, h, _ => by simp at h
  | .io p :: r, x :: ρ, 0, o, o', io, h, h2 => by simp at h2; subst h2; unfold outsOf; rfl
  | .val d :: r, x :: ρ, i + 1, o, o', io, h, h2 => by
    unfold outsOf
    simpa using outsOf_get r ρ i o o' io (by simpa using h) (by simpa using h2)
  | .io p :: r, x :: ρ, i + 1, o, o', io, h, h2 => by
    have ih := outsOf_get r ρ i o o' io (by simpa using h) (by simpa using h2)
    cases x with
    | none => unfold outsOf; simpa using ih
    | some s =>
      cases s with
      | val _ => unfold outsOf; simpa using ih
      | own _ _ => unfold outsOf; simpa using ih
section
variable {M : Md} {F H : Hp} {vs : List V} {xs : List Arg} {N : List Str}
theorem envOf_get {n i : Nat} {s : Sl} (h : (envOf n xs)[i]? = some (some s)) : ∃ x, xs[i]? = some x ∧ slOf x = some s := by
  unfold envOf at h
  by_cases hi : i < xs.length
  · rw [List.getElem?_append_left (by simpa using hi), List.getElem?_map] at h
    obtain ⟨x, e1, e2⟩ := Option.map_eq_some_iff.mp h
    exact ⟨x, e1, e2⟩
  · rw [List.getElem?_append_right (by simpa using hi), List.getElem?_replicate] at h
    split at h <;> cases h
theorem start_get {i : Nat} {v : V} (h : vs[i]? = some v) : (L2.start N vs)[i]? = some (some v) := by
  unfold L2.start
  have hi := (List.getElem?_eq_some_iff.mp h).1
  rw [List.getElem?_append_left (by simpa using hi), List.getElem?_map, h]
  rfl
theorem start_get' {i : Nat} {v : V} (h : (L2.start N vs)[i]? = some (some v)) : vs[i]? = some v := by
  unfold L2.start at h
  by_cases hi : i < vs.length
  · rw [List.getElem?_append_left (by simpa using hi), List.getElem?_map] at h
    obtain ⟨x, e1, e2⟩ := Option.map_eq_some_iff.mp h
    rw [e1]; cases e2; rfl
  · rw [List.getElem?_append_right (by simpa using hi), List.getElem?_replicate] at h
    split at h <;> cases h
theorem envOf_own {n i : Nat} {o : Own} {io : Bool} (h : Has (envOf n xs) i o io) : xs[i]? = some (.io o) ∧ io = true := by
  obtain ⟨x, e, s⟩ := envOf_get h
  cases x with
  | val d => cases s
  | io o' => cases s; exact ⟨e, rfl⟩
theorem sim_start (s : Same F H) (a : Ats M F H vs xs) (sp : SepA vs xs) : Sim M (envOf N.length xs) F (L2.start N vs) H := by
  refine ⟨?_, s, fun i d h => ?_, fun i o io h => ?_, fun i j o o' io io' b h1 h2 e1 e2 => ?_⟩
  · unfold envOf L2.start
    rw [List.length_append, List.length_append, List.length_map, List.length_map, List.length_replicate, List.length_replicate, a.length]
  · obtain ⟨x, e, q⟩ := envOf_get h
    cases x with
    | val d' =>
      cases q
      obtain ⟨v, e', r⟩ := a.get e
      exact ⟨v, start_get e', r⟩
    | io o => cases q
  · obtain ⟨e, _⟩ := envOf_own h
    obtain ⟨v, e', b, rfl, q, f⟩ := a.get e
    exact ⟨b, start_get e', q, f⟩
  · exact sp i j o o' b (envOf_own h1).1 (envOf_own h2).1 (start_get' e1) (start_get' e2)
theorem ownC_start {n : Nat} {b : Addr} (h : OwnC (envOf n xs) (L2.start N vs) b) : InA vs xs b := by
  obtain ⟨i, o, io, h1, h2⟩ := h
  exact ⟨i, o, (envOf_own h1).1, start_get' h2⟩
theorem ownN_start {n : Nat} {b : Addr} : ¬ OwnN (envOf n xs) (L2.start N vs) b := fun ⟨i, o, h1, _⟩ => by
  have := (envOf_own h1).2
  cases this
theorem post_of {r : Sl} {ρ' : Env} {σ' : St} {F' H' : Hp} {v : V} (hN : xs.length ≤ N.length) (S : Sim M ρ' F' σ' H') (T : Step (envOf N.length xs) (L2.start N vs) F H ρ' σ' F' H') (q : RetAt M (envOf N.length xs) (L2.start N vs) H F' H' v r) :
    PostF M F H vs xs r.fix (outsOf xs ρ') v F' H' := by
  refine ⟨T.fr, S.sub, fun b o z => ?_, fun b o z n => T.keep b o z fun y => n (ownC_start y), T.there, ?_, outsOf_len _ _, fun i o b h1 h2 => ?_⟩
  · rcases T.new b o z with z | z | z | z
    · exact .inl z
    · exact .inr (.inl z)
    · exact absurd z ownN_start
    · exact .inr (.inr z)
  · cases r with
    | val d => exact q
    | own o io =>
      obtain ⟨a, e, q, f, n⟩ := q
      refine ⟨a, e, q, f, ?_⟩
      rcases n with n | n
      · exact n
      · exact absurd n ownN_start
  · have hi : Has (envOf N.length xs) i o true := by
      unfold Has envOf
      have hl := (List.getElem?_eq_some_iff.mp h1).1
      rw [List.getElem?_append_left (by simpa using hl), List.getElem?_map, h1]
      rfl
    obtain ⟨e, o', h'⟩ := T.io i o hi
    obtain ⟨a, e2, q2, _⟩ := S.own i o' true h'
    rw [e, start_get h2] at e2
    cases e2
    exact ⟨o', outsOf_get xs ρ' i o o' true h1 h', q2⟩
end
section
variable {P : Program} {w : World} {K : PySem.W.Frag} {mg : Str → Option Value} {base : Heap}
/-- the context of a def's body -/
abbrev bodyX (P : Program) (w : World) (K : PySem.W.Frag) (mg : Str → Option Value) (base : Heap) (N : List Str) (qual : Str) (sc : Scope) (f : Addr) (cdv : Value) (A : Around) (outer : List PySem.Env) (s : Shared) (H : Hp) (E : XK) : Cx :=
  (cxOf CX0 P w K mg base N qual sc f cdv A outer s H E).nox
/-- THE RULE for a def: its body means b; its promise is what b does -/
theorem fn_ok {x qual : Str} {params : Arguments} {body : List Stmt} {sc : Scope} {f : Addr} {fd : FuncData} {N ps : List Str} {k : Nat} {cls : Str → Addr} {b : DS} (F : FunD K x qual params body sc [] [] f fd) (S : FnScope N ps sc) (hp : ps.length ≤ N.length)
    (hb : ∀ (cdv : Value) (A : Around) (outer : List PySem.Env) (s : Shared) (H : Hp) (E : XK), Room k (A.deeper (PyProof.Rows.envOfC qual sc s.heap.objs.size f cdv)) → Ss ⟨K, cls⟩ (bodyX P w K mg base N qual sc f cdv A outer s H E) body b) :
    FnOk P w K mg base CX0 (k + 1) f fd ps (spF ⟨K, cls⟩ (runF ps.length N.length b)) := by
  have hn : ∀ xs r, runF ps.length N.length b xs = some r → xs.length = ps.length := fun xs r h => by
    unfold runF at h
    split at h
    · assumption
    · cases h
  refine F.ok S (fun vs H Q E h => ?_) (fun cdv A outer s H vs Q E hr h => ?_)
  · obtain ⟨F, xs, r, ys, _, a, _, e, _⟩ := h
    rw [a.length]; exact hn xs _ e
  · refine ⟨tS ⟨K, cls⟩ b, PSs.nox (hb cdv A outer s H E hr), ?_⟩
    obtain ⟨F, xs, r, ys, s, a, sp, e, q⟩ := h
    have hl : xs.length ≤ N.length := by rw [hn xs _ e]; exact hp
    have hx := hn xs _ e
    unfold runF at e
    rw [if_pos hx] at e
    obtain ⟨r1, e1, e⟩ := Option.bind_eq_some_iff.mp e
    refine ⟨envOf N.length xs, F, r1, sim_start s a sp, e1, ?_⟩
    cases r1 with
    | rt sl ρ' =>
      cases e
      exact fun v σ' H' F' S' T' rr => q v H' F' (post_of hl S' T' rr)
    | nx ρ' =>
      cases e
      refine fun σ' H' F' S' T' => q .non H' F' (post_of (r := .val .non) hl S' T' ?_)
      show Rp K F' .non .non
      unfold Rp; rfl
    | bk ρ' => cases e
    | ct ρ' => cases e
/-- a def as it is known to its callers -/
structure Known (P : Program) (w : World) (K : PySem.W.Frag) (mg : Str → Option Value) (base : Heap) (cls : Str → Addr) (k : Nat) (x : Str) (f : FS) : Prop where
  ex : ∃ (g : Addr) (fd : FuncData) (ps : List Str), mg x = some (.ref g) ∧ PySem.W.keepIn K (.ref g) = true ∧ Binds K fd ps [] ∧ FnOk P w K mg base CX0 k g fd ps (spF ⟨K, cls⟩ f)
theorem Known.mono {j k : Nat} {cls : Str → Addr} {x : Str} {f : FS} (h : Known P w K mg base cls j x f) (hj : j ≤ k) : Known P w K mg base cls k x f := by
  obtain ⟨g, fd, ps, a, b, c, d⟩ := h.ex
  exact ⟨g, fd, ps, a, b, c, d.mono hj⟩
end

/-! ### arguments of a call: values, and names that are handed in -/
inductive AE where
  | val (a : DE)
  | io (i : Nat)
/-- the values as they come; what is handed in is looked at behind all -/
def evA : List AE → Env → Option (List (Option D) × Env)
  | [], ρ => some ([], ρ)
  | .val a :: r, ρ => (a ρ).bind fun x => (evA r x.2).bind fun y => some (some x.1 :: y.1, y.2)
  | .io i :: r, ρ => match ρ[i]? with
    | some (some (.own _ _)) => (evA r ρ).bind fun y => some (none :: y.1, y.2)
    | _ => none
def finA : List AE → List (Option D) → Env → Option (List Arg)
  | [], [], _ => some []
  | .val _ :: r, some d :: ds, ρ => (finA r ds ρ).map (.val d :: ·)
  | .io i :: r, none :: ds, ρ => match ρ[i]? with
    | some (some (.own o _)) => (finA r ds ρ).map (.io o :: ·)
    | _ => none
  | _, _, _ => none
/-- the names handed in get what the call left -/
def putA : List AE → List Arg → Env → Env
  | .io i :: r, .io o :: ys, ρ => putA r ys (setOwn i o ρ)
  | .val _ :: r, _ :: ys, ρ => putA r ys ρ
  | _, _, ρ => ρ
/-- no name is handed in twice -/
def ios : List AE → List Nat
  | [] => []
  | .val _ :: r => ios r
  | .io i :: r => i :: ios r
def callS (f : FS) (as : List AE) : SE := fun ρ => (evA as ρ).bind fun x => (finA as x.1 x.2).bind fun xs => if (ios as).Nodup then (f xs).bind fun r => some (r.1, putA as r.2 x.2) else none
def callD (f : FS) (as : List AE) : DE := fun ρ => (callS f as ρ).bind fun x => match x.1 with
  | .val d => some (d, x.2)
  | _ => none
def ArA (M : Md) (X : Cx) : List Expr → List AE → Prop
  | [], [] => True
  | e :: es, .val a :: r => Ex M X e a ∧ starEach (e :: es) X.env = (false, eval e X.env) :: starEach es X.env ∧ ArA M X es r
  | e :: es, .io i :: r => PE X e (tVar i) ∧ starEach (e :: es) X.env = (false, eval e X.env) :: starEach es X.env ∧ ArA M X es r
  | _, _ => False
/-- what is held of the arguments till the call -/
def HldA (M : Md) (σ : St) (F : Hp) : List V → List AE → List (Option D) → Prop
  | [], [], [] => True
  | v :: vs, .val _ :: r, some d :: ds => Rp M.K F v d ∧ HldA M σ F vs r ds
  | v :: vs, .io i :: r, none :: ds => σ[i]? = some (some v) ∧ HldA M σ F vs r ds
  | _, _, _ => False
theorem HldA.mono {M : Md} {σ : St} {F F' : Hp} (f : Same F F') : ∀ {vs : List V} {as : List AE} {ds : List (Option D)}, HldA M σ F vs as ds → HldA M σ F' vs as ds
  | [], [], [], _ => trivial
  | v :: vs, .val _ :: r, some d :: ds, h => ⟨Rp.mono f _ _ h.1, HldA.mono f h.2⟩
  | v :: vs, .io i :: r, none :: ds, h => ⟨h.1, HldA.mono f h.2⟩
  | [], [], _ :: _, h => h.elim
  | [], _ :: _, _, h => h.elim
  | _ :: _, [], _, h => h.elim
  | _ :: _, .val _ :: _, [], h => h.elim
  | _ :: _, .val _ :: _, none :: _, h => h.elim
  | _ :: _, .io _ :: _, [], h => h.elim
  | _ :: _, .io _ :: _, some _ :: _, h => h.elim
def tAA (M : Md) (as : List AE) : TA := fun σ H Q => ∃ ρ F ds ρ', Sim M ρ F σ H ∧ evA as ρ = some (ds, ρ') ∧
  ∀ vs H' F', Sim M ρ' F' σ H' → Step ρ σ F H ρ' σ F' H' → HldA M σ F' vs as ds → Q vs H'
section
variable {M : Md} {X : Cx}
theorem ArA.run : ∀ {es : List Expr} {as : List AE}, ArA M X es as → PA X es (tAA M as)
  | [], [], _ => pa_nil.imp fun σ H Q ⟨ρ, F, ds, ρ', S, e, q⟩ => by
    cases e
    exact q [] H F S .refl trivial
  | e :: es, .val a :: r, ⟨h, st, t⟩ => (pa_cons h (ArA.run t) st).imp fun σ H Q ⟨ρ, F, ds, ρ', S, e, q⟩ => by
    unfold evA at e
    obtain ⟨⟨d, ρ1⟩, e1, e⟩ := Option.bind_eq_some_iff.mp e
    obtain ⟨⟨es', ρ2⟩, e2, e⟩ := Option.bind_eq_some_iff.mp e
    cases e
    exact ⟨ρ, F, d, ρ1, S, e1, fun v H1 F1 S1 T1 r1 => ⟨ρ1, F1, es', _, S1, e2, fun vs H2 F2 S2 T2 r2 => q (v :: vs) H2 F2 S2 (T1.trans T2) ⟨Rp.mono T2.fr _ _ r1, r2⟩⟩⟩
  | e :: es, .io i :: r, ⟨h, st, t⟩ => (pa_cons h (ArA.run t) st).imp fun σ H Q ⟨ρ, F, ds, ρ', S, e, q⟩ => by
    unfold evA at e
    split at e
    · rename_i o io ho
      obtain ⟨⟨es', ρ2⟩, e2, e⟩ := Option.bind_eq_some_iff.mp e
      cases e
      obtain ⟨a, ea, _⟩ := S.own i o io ho
      exact ⟨_, ea, ρ, F, es', _, S, e2, fun vs H2 F2 S2 T2 r2 => q (_ :: vs) H2 F2 S2 T2 ⟨ea, r2⟩⟩
    · cases e
  | [], _ :: _, h => h.elim
  | _ :: _, [], h => h.elim
/-- the arguments at the call -/
theorem HldA.ats {ρ : Env} {σ : St} {F H : Hp} (S : Sim M ρ F σ H) : ∀ {vs : List V} {as : List AE} {ds : List (Option D)} {xs : List Arg}, HldA M σ F vs as ds → finA as ds ρ = some xs → Ats M F H vs xs
  | [], [], [], xs, _, e => by cases e; exact .nil
  | v :: vs, .val _ :: r, some d :: ds, xs, h, e => by
    unfold finA at e
    obtain ⟨ys, e1, e2⟩ := Option.map_eq_some_iff.mp e
    subst e2
    exact .cons h.1 (HldA.ats S h.2 e1)
  | v :: vs, .io i :: r, none :: ds, xs, h, e => by
    unfold finA at e
    split at e
    · rename_i o io ho
      obtain ⟨ys, e1, e2⟩ := Option.map_eq_some_iff.mp e
      subst e2
      obtain ⟨a, ea, q, f⟩ := S.own i o io ho
      rw [h.1] at ea
      cases ea
      exact .cons ⟨a, rfl, q, f⟩ (HldA.ats S h.2 e1)
    · cases e
  | [], [], _ :: _, _, h, _ => h.elim
  | [], _ :: _, _, _, h, _ => h.elim
  | _ :: _, [], _, _, h, _ => h.elim
  | _ :: _, .val _ :: _, [], _, h, _ => h.elim
  | _ :: _, .val _ :: _, none :: _, _, h, _ => h.elim
  | _ :: _, .io _ :: _, [], _, h, _ => h.elim
  | _ :: _, .io _ :: _, some _ :: _, _, h, _ => h.elim
/-- the j-th argument that is handed in comes from a slot -/
theorem finA_io {ρ : Env} {σ : St} {F : Hp} : ∀ {vs : List V} {as : List AE} {ds : List (Option D)} {xs : List Arg}, HldA M σ F vs as ds → finA as ds ρ = some xs → ∀ (j : Nat) (o : Own), xs[j]? = some (.io o) →
    ∃ i io, as[j]? = some (.io i) ∧ Has ρ i o io ∧ ∃ v, vs[j]? = some v ∧ σ[i]? = some (some v)
  | [], [], [], xs, _, e, j, o, ho => by cases e; simp at ho
  | v :: vs, .val _ :: r, some d :: ds, xs, h, e, j, o, ho => by
    unfold finA at e
    obtain ⟨ys, e1, e2⟩ := Option.map_eq_some_iff.mp e
    subst e2
    cases j with
    | zero => simp at ho
    | succ j => simpa using finA_io h.2 e1 j o (by simpa using ho)
  | v :: vs, .io i :: r, none :: ds, xs, h, e, j, o, ho => by
    unfold finA at e
    split at e
    · rename_i p io hp
      obtain ⟨ys, e1, e2⟩ := Option.map_eq_some_iff.mp e
      subst e2
      cases j with
      | zero => simp at ho; subst ho; exact ⟨i, io, rfl, hp, v, rfl, h.1⟩
      | succ j => simpa using finA_io h.2 e1 j o (by simpa using ho)
    · cases e
  | [], [], _ :: _, _, h, _, _, _, _ => h.elim
  | [], _ :: _, _, _, h, _, _, _, _ => h.elim
  | _ :: _, [], _, _, h, _, _, _, _ => h.elim
  | _ :: _, .val _ :: _, [], _, h, _, _, _, _ => h.elim
  | _ :: _, .val _ :: _, none :: _, _, h, _, _, _, _ => h.elim
  | _ :: _, .io _ :: _, [], _, h, _, _, _, _ => h.elim
  | _ :: _, .io _ :: _, some _ :: _, _, h, _, _, _, _ => h.elim
theorem mem_ios {as : List AE} {i : Nat} : i ∈ ios as ↔ ∃ j : Nat, as[j]? = some (AE.io i) := by
  induction as with
  | nil => simp [ios]
  | cons a r ih =>
    cases a with
    | val u =>
      unfold ios
      rw [ih]
      constructor
      · rintro ⟨j, h⟩; exact ⟨j + 1, by simpa using h⟩
      · rintro ⟨j, h⟩
        cases j with
        | zero => simp at h
        | succ j => exact ⟨j, by simpa using h⟩
    | io k =>
      unfold ios
      rw [List.mem_cons, ih]
      constructor
      · rintro (h | ⟨j, h⟩)
        · subst h; exact ⟨0, rfl⟩
        · exact ⟨j + 1, by simpa using h⟩
      · rintro ⟨j, h⟩
        cases j with
        | zero => simp at h; exact .inl h.symm
        | succ j => exact .inr ⟨j, by simpa using h⟩
theorem ios_inj : ∀ {as : List AE} {i j k : Nat}, (ios as).Nodup → as[j]? = some (AE.io i) → as[k]? = some (AE.io i) → j = k
  | [], _, _, _, _, h, _ => by simp at h
  | .val u :: r, i, 0, _, _, h, _ => by simp at h
  | .val u :: r, i, _ + 1, 0, _, _, h => by simp at h
  | .val u :: r, i, j + 1, k + 1, n, h1, h2 => congrArg (· + 1) (ios_inj (as := r) (j := j) (k := k) n (by simpa using h1) (by simpa using h2))
  | .io p :: r, i, 0, 0, _, _, _ => rfl
  | .io p :: r, i, 0, k + 1, n, h1, h2 => by
    simp at h1; subst h1
    exact absurd (mem_ios.mpr ⟨k, by simpa using h2⟩) (List.nodup_cons.mp n).1
  | .io p :: r, i, j + 1, 0, n, h1, h2 => by
    simp at h2; subst h2
    exact absurd (mem_ios.mpr ⟨j, by simpa using h1⟩) (List.nodup_cons.mp n).1
  | .io p :: r, i, j + 1, k + 1, n, h1, h2 => congrArg (· + 1) (ios_inj (as := r) (j := j) (k := k) (List.nodup_cons.mp n).2 (by simpa using h1) (by simpa using h2))

theorem setOwn_get {ρ : Env} {i j : Nat} {o : Own} : (setOwn i o ρ)[j]? = if j = i then (match ρ[i]? with | some (some (.own _ io)) => some (some (.own o io)) | x => x) else ρ[j]? := by
  unfold setOwn
  split
  · rename_i p io h
    by_cases e : j = i
    · subst e; rw [if_pos rfl, List.getElem?_set_self (List.getElem?_eq_some_iff.mp h).1]; try rw [h]
    · rw [if_neg e, List.getElem?_set_ne fun q => e q.symm]
  · rename_i h
    by_cases e : j = i
    · subst e; rw [if_pos rfl]
      try (split
           · rename_i p io h2
             exact absurd h2 (h p io)
           · rfl)
    · rw [if_neg e]
theorem setOwn_len {ρ : Env} {i : Nat} {o : Own} : (setOwn i o ρ).length = ρ.length := by
  unfold setOwn
  split
  · rw [List.length_set]
  · rfl
/-- the names behind a call -/
theorem putA_get : ∀ {as : List AE} {ys : List Arg} {ρ : Env}, as.length = ys.length → (ios as).Nodup → (∀ (j i : Nat), as[j]? = some (.io i) → (∃ o, ys[j]? = some (.io o)) ∧ ∃ o io, Has ρ i o io) →
    (putA as ys ρ).length = ρ.length ∧ (∀ k, k ∉ ios as → (putA as ys ρ)[k]? = ρ[k]?) ∧ (∀ (j i : Nat) (o o0 : Own) (io : Bool), as[j]? = some (.io i) → ys[j]? = some (.io o) → Has ρ i o0 io → Has (putA as ys ρ) i o io)
  | [], [], ρ, _, _, _ => ⟨rfl, fun _ _ => rfl, fun j i o o0 io h => by simp at h⟩
  | [], _ :: _, _, h, _, _ => by simp at h
  | _ :: _, [], _, h, _, _ => by simp at h
  | .val u :: r, y :: ys, ρ, hl, n, h => by
    obtain ⟨a, b, c⟩ := putA_get (as := r) (ys := ys) (ρ := ρ) (by simpa using hl) n fun j i e => by
      have := h (j + 1) i (by simpa using e)
      simpa using this
    unfold putA
    refine ⟨a, b, fun j i o o0 io e1 e2 e3 => ?_⟩
    cases j with
    | zero => simp at e1
    | succ j => exact c j i o o0 io (by simpa using e1) (by simpa using e2) e3
  | .io p :: r, .val d :: ys, ρ, hl, n, h => by
    obtain ⟨⟨o, e⟩, _⟩ := h 0 p rfl
    simp at e
  | .io p :: r, .io q :: ys, ρ, hl, n, h => by
    obtain ⟨np, nr⟩ := List.nodup_cons.mp n
    obtain ⟨_, o0, io0, h0⟩ := h 0 p rfl
    have ne : ∀ {i j : Nat}, r[j]? = some (AE.io i) → i ≠ p := fun {i j} e z => np (mem_ios.mpr ⟨j, by rw [← z]; exact e⟩)
    obtain ⟨a, b, c⟩ := putA_get (as := r) (ys := ys) (ρ := setOwn p q ρ) (by simpa using hl) nr fun j i e => by
      obtain ⟨u, v⟩ := h (j + 1) i (by simpa using e)
      refine ⟨by simpa using u, ?_⟩
      obtain ⟨o, io, v⟩ := v
      refine ⟨o, io, ?_⟩
      unfold Has
      rw [setOwn_get, if_neg (ne e)]
      exact v
    unfold putA
    refine ⟨a.trans setOwn_len, fun k hk => ?_, fun j i o o1 io e1 e2 e3 => ?_⟩
    · have hk' : k ≠ p ∧ k ∉ ios r := by
        unfold ios at hk
        rw [List.mem_cons, not_or] at hk
        exact hk
      rw [b k hk'.2, setOwn_get, if_neg hk'.1]
    · cases j with
      | zero =>
        simp at e1 e2
        subst e1 e2
        unfold Has at e3 ⊢
        rw [b p np, setOwn_get, if_pos rfl, e3]
      | succ j =>
        refine c j i o o1 io (by simpa using e1) (by simpa using e2) ?_
        unfold Has
        rw [setOwn_get, if_neg (ne (by simpa using e1))]
        exact e3
/-- behind a call -/
theorem Sim.called {ρ : Env} {σ : St} {F H F' H' : Hp} {vs : List V} {as : List AE} {ds : List (Option D)} {xs ys : List Arg} {r : Sl} {v : V} (S : Sim M ρ F σ H) (h : HldA M σ F vs as ds) (e : finA as ds ρ = some xs) (n : (ios as).Nodup) (hl : as.length = xs.length)
    (p : PostF M F H vs xs r ys v F' H') : Sim M (putA as ys ρ) F' σ H' ∧ Step ρ σ F H (putA as ys ρ) σ F' H' ∧ SlAt M (putA as ys ρ) σ H F' H' v r := by
  have fio := finA_io h e
  have at_io : ∀ (j i : Nat), as[j]? = some (.io i) → ∃ o io b, xs[j]? = some (.io o) ∧ Has ρ i o io ∧ vs[j]? = some (.ref b) ∧ σ[i]? = some (some (.ref b)) := by
    intro j i ej
    have hj : j < xs.length := by rw [← hl]; exact (List.getElem?_eq_some_iff.mp ej).1
    have key : ∀ {vs : List V} {as : List AE} {ds : List (Option D)} {xs : List Arg}, HldA M σ F vs as ds → finA as ds ρ = some xs → as[j]? = some (.io i) → ∃ o, xs[j]? = some (.io o) := by
      clear fio ej hj h e hl p n
      induction j with
      | zero =>
        intro vs as ds xs h e ej
        match vs, as, ds, h, e, ej with
        | v :: vs, .io i' :: r, none :: ds, h, e, ej =>
          unfold finA at e
          split at e
          · obtain ⟨ys, e1, e2⟩ := Option.map_eq_some_iff.mp e
            subst e2
            exact ⟨_, rfl⟩
          · cases e
        | v :: vs, .val _ :: r, some d :: ds, h, e, ej => simp at ej
        | [], [], [], _, _, ej => simp at ej
      | succ j ih =>
        intro vs as ds xs h e ej
        match vs, as, ds, h, e, ej with
        | v :: vs, .io i' :: r, none :: ds, h, e, ej =>
          unfold finA at e
          split at e
          · obtain ⟨ys, e1, e2⟩ := Option.map_eq_some_iff.mp e
            subst e2
            simpa using ih h.2 e1 (by simpa using ej)
          · cases e
        | v :: vs, .val _ :: r, some d :: ds, h, e, ej =>
          unfold finA at e
          obtain ⟨ys, e1, e2⟩ := Option.map_eq_some_iff.mp e
          subst e2
          simpa using ih h.2 e1 (by simpa using ej)
        | [], [], [], _, _, ej => simp at ej
    obtain ⟨o, ho⟩ := key h e ej
    obtain ⟨i', io, ei, hi, v', ev, es⟩ := fio j o ho
    rw [ej] at ei
    cases ei
    obtain ⟨b, eb, _⟩ := S.own i o io hi
    rw [es] at eb
    cases eb
    exact ⟨o, io, b, ho, hi, ev, es⟩
  have inA : ∀ b, InA vs xs b → ∃ i o io, i ∈ ios as ∧ Has ρ i o io ∧ σ[i]? = some (some (.ref b)) := fun b ⟨j, o, h1, h2⟩ => by
    obtain ⟨i, io, ei, hi, v', ev, es⟩ := fio j o h1
    rw [h2] at ev
    cases ev
    exact ⟨i, o, io, mem_ios.mpr ⟨j, ei⟩, hi, es⟩
  obtain ⟨g1, g2, g3⟩ := putA_get (as := as) (ys := ys) (ρ := ρ) (hl.trans p.len.symm) n fun j i ej => by
    obtain ⟨o, io, b, ho, hi, ev, es⟩ := at_io j i ej
    obtain ⟨o', ho', _⟩ := p.outs j o b ho ev
    exact ⟨⟨o', ho'⟩, o, io, hi⟩
  have Fa : ∀ {b}, OwnC ρ σ b → F' b = none := fun {b} z => by
    cases e : F' b with
    | none => rfl
    | some u =>
      obtain ⟨f, w, hw⟩ := S.ownF z
      rcases p.new b u e with y | y | ⟨xs', y⟩
      · rw [f] at y; cases y
      · rw [hw] at y; cases y
      · subst y
        have y := p.sub _ _ e
        by_cases q : InA vs xs b
        · obtain ⟨j, o, h1, h2⟩ := q
          obtain ⟨o', ho', q'⟩ := p.outs j o b h1 h2
          exact (notTup q' y).elim
        · rw [p.keep b w hw q] at y
          cases y
          obtain ⟨i, o, io, h1, h2⟩ := z
          obtain ⟨c, ec, qc, _⟩ := S.own i o io h1
          rw [h2] at ec
          cases ec
          exact (notTup qc hw).elim
  -- who owns behind the call
  have own' : ∀ {k o io}, Has (putA as ys ρ) k o io → ∃ o0, Has ρ k o0 io ∧ (k ∉ ios as → o0 = o) := fun {k o io} z => by
    by_cases hk : k ∈ ios as
    · obtain ⟨j, ej⟩ := mem_ios.mp hk
      obtain ⟨o0, io0, b, ho, hi, ev, es⟩ := at_io j k ej
      obtain ⟨o', ho', _⟩ := p.outs j o0 b ho ev
      have q := g3 j k o' o0 io0 ej ho' hi
      unfold Has at q z
      rw [q] at z
      cases z
      exact ⟨o0, hi, fun w => absurd hk w⟩
    · unfold Has at z
      rw [g2 k hk] at z
      exact ⟨o, z, fun _ => rfl⟩
  have own2 : ∀ {k o io}, Has ρ k o io → ∃ o', Has (putA as ys ρ) k o' io := fun {k o io} z => by
    by_cases hk : k ∈ ios as
    · obtain ⟨j, ej⟩ := mem_ios.mp hk
      obtain ⟨o0, io0, b, ho, hi, ev, es⟩ := at_io j k ej
      obtain ⟨o', ho', _⟩ := p.outs j o0 b ho ev
      unfold Has at z hi
      rw [z] at hi
      cases hi
      exact ⟨o', g3 j k o' _ _ ej ho' z⟩
    · exact ⟨o, by unfold Has; rw [g2 k hk]; exact z⟩
  refine ⟨⟨g1.trans S.len, p.sub, fun k d z => ?_, fun k o io z => ?_, fun k l o o' io io' b z1 z2 e1 e2 => ?_⟩, ⟨p.fr, fun b o z => (p.new b o z).imp id (Or.imp id .inr), fun b o z nc => p.keep b o z fun y => ?_, p.there, fun b ⟨k, o, io, z, eb⟩ => ?_, fun b ⟨k, o, z, eb⟩ => ?_, fun k o z => ?_, fun k o z => ?_⟩, ?_⟩
  · by_cases hk : k ∈ ios as
    · obtain ⟨j, ej⟩ := mem_ios.mp hk
      obtain ⟨o0, io0, b, ho, hi, ev, es⟩ := at_io j k ej
      obtain ⟨o', ho', _⟩ := p.outs j o0 b ho ev
      have q := g3 j k o' o0 io0 ej ho' hi
      unfold Has at q
      rw [q] at z
      cases z
    · rw [g2 k hk] at z
      obtain ⟨w, e, r⟩ := S.val k d z
      exact ⟨w, e, Rp.mono p.fr _ _ r⟩
  · by_cases hk : k ∈ ios as
    · obtain ⟨j, ej⟩ := mem_ios.mp hk
      obtain ⟨o0, io0, b, ho, hi, ev, es⟩ := at_io j k ej
      obtain ⟨o', ho', q'⟩ := p.outs j o0 b ho ev
      have q := g3 j k o' o0 io0 ej ho' hi
      unfold Has at q z
      rw [q] at z
      cases z
      exact ⟨b, es, q', Fa ⟨k, o0, _, hi, es⟩⟩
    · unfold Has at z
      rw [g2 k hk] at z
      obtain ⟨b, eb, qb, fb⟩ := S.own k o io z
      refine ⟨b, eb, qb.mono p.fr fun u hu => p.keep b u hu fun y => ?_, Fa ⟨k, o, io, z, eb⟩⟩
      obtain ⟨i, o2, io2, mi, hi, ei⟩ := inA b y
      exact hk (by rw [S.sep k i o o2 io io2 b z hi eb ei]; exact mi)
  · obtain ⟨p1, h1, _⟩ := own' z1
    obtain ⟨p2, h2, _⟩ := own' z2
    exact S.sep k l p1 p2 io io' b h1 h2 e1 e2
  · obtain ⟨i, o2, io2, mi, hi, ei⟩ := inA b y
    exact nc ⟨i, o2, io2, hi, ei⟩
  · obtain ⟨o0, z, _⟩ := own' z
    exact .inl ⟨k, o0, io, z, eb⟩
  · obtain ⟨o0, z, _⟩ := own' z
    exact .inl ⟨k, o0, z, eb⟩
  · exact ⟨rfl, own2 z⟩
  · obtain ⟨o0, z, _⟩ := own' z
    exact ⟨o0, z⟩
  · cases r with
    | val d => exact p.res
    | own o io =>
      obtain ⟨a, ea, q, f, ha⟩ := p.res
      refine ⟨a, ea, q, f, ha, fun ⟨k, o', io', z, eb⟩ => ?_⟩
      obtain ⟨o0, z, _⟩ := own' z
      obtain ⟨_, u, hu⟩ := S.ownF ⟨k, o0, io', z, eb⟩
      rw [ha] at hu; cases hu
theorem HldA.len {σ : St} {F : Hp} {ρ : Env} : ∀ {vs : List V} {as : List AE} {ds : List (Option D)} {xs : List Arg}, HldA M σ F vs as ds → finA as ds ρ = some xs → as.length = xs.length
  | [], [], [], xs, _, e => by cases e; rfl
  | v :: vs, .val _ :: r, some d :: ds, xs, h, e => by
    unfold finA at e
    obtain ⟨ys, e1, e2⟩ := Option.map_eq_some_iff.mp e
    subst e2
    rw [List.length_cons, List.length_cons, HldA.len h.2 e1]
  | v :: vs, .io i :: r, none :: ds, xs, h, e => by
    unfold finA at e
    split at e
    · obtain ⟨ys, e1, e2⟩ := Option.map_eq_some_iff.mp e
      subst e2
      rw [List.length_cons, List.length_cons, HldA.len h.2 e1]
    · cases e
  | [], [], _ :: _, _, h, _ => h.elim
  | [], _ :: _, _, _, h, _ => h.elim
  | _ :: _, [], _, _, h, _ => h.elim
  | _ :: _, .val _ :: _, [], _, h, _ => h.elim
  | _ :: _, .val _ :: _, none :: _, _, h, _ => h.elim
  | _ :: _, .io _ :: _, [], _, h, _ => h.elim
  | _ :: _, .io _ :: _, some _ :: _, _, h, _ => h.elim
theorem HldA.sep {σ : St} {F H : Hp} {ρ : Env} {vs : List V} {as : List AE} {ds : List (Option D)} {xs : List Arg} (S : Sim M ρ F σ H) (h : HldA M σ F vs as ds) (e : finA as ds ρ = some xs) (n : (ios as).Nodup) : SepA vs xs := fun j k o o' b h1 h2 e1 e2 => by
  obtain ⟨i, io, ei, hi, v, ev, es⟩ := finA_io h e j o h1
  obtain ⟨i', io', ei', hi', v', ev', es'⟩ := finA_io h e k o' h2
  rw [e1] at ev
  rw [e2] at ev'
  cases ev
  cases ev'
  have := S.sep i i' o o' io io' b hi hi' es es'
  subst this
  exact ios_inj n ei ei'
/-- a call by a promise -/
theorem s_callI {f : FS} {as : List AE} : ∀ σ H Q, tSE M (callS f as) σ H Q → tCall (spF M f) [] E0 (tAA M as) σ H Q := fun σ H Q ⟨ρ, F, d, ρ', S, e, q⟩ => by
  unfold callS at e
  obtain ⟨⟨ds, ρ1⟩, e1, e⟩ := Option.bind_eq_some_iff.mp e
  obtain ⟨xs, e2, e⟩ := Option.bind_eq_some_iff.mp e
  split at e
  · rename_i hn
    obtain ⟨⟨r, ys⟩, e3, e⟩ := Option.bind_eq_some_iff.mp e
    cases e
    refine ⟨ρ, F, ds, ρ1, S, e1, fun vs H1 F1 S1 T1 h1 => ?_⟩
    show spF M f (vs ++ []) H1 Q E0
    rw [List.append_nil]
    refine ⟨F1, xs, _, ys, S1.sub, h1.ats S1 e2, h1.sep S1 e2 hn, e3, fun v H2 F2 p => ?_⟩
    obtain ⟨S2, T2, r2⟩ := S1.called h1 e2 hn (h1.len e2) p
    refine q v H2 F2 S2 (T1.trans T2) ?_
    dsimp only
    cases r with
    | val d => exact r2
    | own o io =>
      obtain ⟨a, ea, q', f', ha, nc⟩ := r2
      refine ⟨a, ea, q', f', ?_, nc⟩
      cases e : H a with
      | none => rfl
      | some u => obtain ⟨o', q'⟩ := T1.there a u e; rw [ha] at q'; cases q'
  · cases e
theorem s_call {f : FS} {as : List AE} {k : Nat} {g : Addr} {fd : FuncData} {ps : List Str} {x : Str} {p pos : Pos} {e : Expr} {es : List Expr} (G : FnOk X.prog X.w X.K X.mg X.base CX0 k g fd ps (spF M f)) (hr : Room k X.A) (hg : Gl X x) (hm : X.mg x = some (.ref g)) (hk : PySem.W.keepIn X.K (.ref g) = true)
    (hb : Binds X.K fd ps []) (ha : ArA M X (e :: es) as) (hdb : (x == ("__debug__" : Str)) = false := by decide) (hpl : (backTo pos (starEach es X.env)).any (·.1) = false := by rfl) : Sx M X (.Call (.Name x p) (e :: es) [] pos) (callS f as) := by
  have st : starEach (e :: es) X.env = (false, eval e X.env) :: starEach es X.env := by
    match as, ha with
    | .val _ :: _, ⟨_, h, _⟩ => exact h
    | .io _ :: _, ⟨_, h, _⟩ => exact h
  exact (pe_call G hr hg hm hk hb .nil pass0 ha.run hdb st hpl).imp s_callI
theorem s_call0 {f : FS} {k : Nat} {g : Addr} {fd : FuncData} {ps : List Str} {x : Str} {p pos : Pos} (G : FnOk X.prog X.w X.K X.mg X.base CX0 k g fd ps (spF M f)) (hr : Room k X.A) (hg : Gl X x) (hm : X.mg x = some (.ref g)) (hk : PySem.W.keepIn X.K (.ref g) = true)
    (hb : Binds X.K fd ps []) (hdb : (x == ("__debug__" : Str)) = false := by decide) : Sx M X (.Call (.Name x p) [] [] pos) (callS f []) :=
  (pe_call0 G hr hg hm hk hb .nil pass0 hdb).imp fun σ H Q h => by
    have := s_callI σ H Q h
    unfold tCall tAA at this
    obtain ⟨ρ, F, ds, ρ', S, e, q⟩ := this
    unfold tCall tNil
    cases e
    exact q [] H F S .refl trivial
/-- a call of what is known -/
theorem s_callK {f : FS} {as : List AE} {k j : Nat} {x : Str} {p pos : Pos} {e : Expr} {es : List Expr} (G : Known X.prog X.w X.K X.mg X.base M.cls j x f) (hKM : M.K = X.K) (hr : Room k X.A) (hj : j ≤ k) (hg : Gl X x)
    (ha : ArA M X (e :: es) as) (hdb : (x == ("__debug__" : Str)) = false := by decide) (hpl : (backTo pos (starEach es X.env)).any (·.1) = false := by rfl) : Sx M X (.Call (.Name x p) (e :: es) [] pos) (callS f as) := by
  obtain ⟨g, fd, ps, a, b, c, d⟩ := G.ex
  have e : M = ⟨X.K, M.cls⟩ := by cases M; cases hKM; rfl
  rw [← e] at d
  exact s_call d (hr.mono hj) hg a b c ha hdb hpl
theorem s_callK0 {f : FS} {k j : Nat} {x : Str} {p pos : Pos} (G : Known X.prog X.w X.K X.mg X.base M.cls j x f) (hKM : M.K = X.K) (hr : Room k X.A) (hj : j ≤ k) (hg : Gl X x)
    (hdb : (x == ("__debug__" : Str)) = false := by decide) : Sx M X (.Call (.Name x p) [] [] pos) (callS f []) := by
  obtain ⟨g, fd, ps, a, b, c, d⟩ := G.ex
  have e : M = ⟨X.K, M.cls⟩ := by cases M; cases hKM; rfl
  rw [← e] at d
  exact s_call0 d (hr.mono hj) hg a b c hdb
/-- a call whose result is a datum -/
theorem x_ofS {e : Expr} {a : SE} (h : Sx M X e a) : Ex M X e (fun ρ => (a ρ).bind fun x => match x.1 with | .val d => some (d, x.2) | _ => none) := h.imp fun σ H Q ⟨ρ, F, d, ρ', S, e, q⟩ => by
  obtain ⟨⟨sl, ρ1⟩, e1, e⟩ := Option.bind_eq_some_iff.mp e
  cases sl with
  | val d' =>
    cases e
    exact ⟨ρ, F, _, ρ1, S, e1, fun v H1 F1 S1 T1 r1 => q v H1 F1 S1 T1 r1⟩
  | own o io => cases e
theorem x_call {e : Expr} {f : FS} {as : List AE} (h : Sx M X e (callS f as)) : Ex M X e (callD f as) := x_ofS h
end
end ET
set_option Elab.async false
set_option maxRecDepth 100000
/-! ET: lists changed in place, op=, pop, index, isinstance, two names at once. -/
namespace ET
open PySem PySem.Spec PyProof.Rows L2

/-! ### tuples: t += u -/
theorem noI_tuple_add : typeLookup (.type "tuple") (dunderI "add") = pure none := by rw [typeLookup_type, builtinLookup_eq_fast]; kernel_rfl
section
variable {X : Cx}
theorem ip_catA : PIp X .Add (rCatM X.K) := by
  intro pins s σ H x y v u Q I rx ry h
  obtain ⟨a, b, xs, ys, rfl, rfl, ha, hb, hz, q0, q1, q2⟩ := h
  cases rx
  cases ry
  obtain ⟨its, r1, p1, _⟩ := I.tuple ha
  obtain ⟨its2, r2, p2, _⟩ := I.tuple hb
  obtain ⟨⟨cls, dd, data, sl⟩, ho, hc, n, hd⟩ := id p1
  obtain ⟨⟨cls2, dd2, data2, sl2⟩, ho2, hc2, n2, hd2⟩ := id p2
  simp only at hc hd hc2 hd2
  subst hc hd hc2 hd2
  have T1 : s.TypeIs (.ref a) "tuple" := ⟨_, ho, rfl⟩
  have T2 : s.TypeIs (.ref b) "tuple" := ⟨_, ho2, rfl⟩
  refine wpAny_inplaceOp_concat T1 T2 noI_tuple_add noFill_tuple_add seq_tuple_add ?_
  by_cases hx : its = []
  · subst hx
    have ex : xs = [] := by cases r1; rfl
    exact call_meets PySem.F.slot_tuple_add T1 PySem.F.entry_tuple_add (PySem.F.args_tuple_add_2 _ _) (tuple_addW0 a b ([] : List Value).toArray its2.toArray n n2 dd dd2 sl sl2 (by simp)) ⟨ho, ho2, .ref b, H, I, rfl, q0 ex⟩
  · have ex : xs ≠ [] := fun e => hx (r1.nil_iff.mpr e)
    by_cases hy : its2 = []
    · have ey : ys = [] := r2.nil_iff.mp hy
      exact call_meets PySem.F.slot_tuple_add T1 PySem.F.entry_tuple_add (PySem.F.args_tuple_add_2 _ _) (tuple_addW1 a b its.toArray its2.toArray n n2 dd dd2 sl sl2 (by simpa using hx) (by simp [hy])) ⟨ho, ho2, .ref a, H, I, rfl, q1 ex ey⟩
    · have ey : ys ≠ [] := fun e => hy (r2.nil_iff.mpr e)
      have e : its.toArray ++ its2.toArray = (its ++ its2).toArray := by simp
      refine call_meets PySem.F.slot_tuple_add T1 PySem.F.entry_tuple_add (PySem.F.args_tuple_add_2 _ _) (tuple_addW2 a b its.toArray its2.toArray n n2 dd dd2 sl sl2 (by simpa using hx) (by simpa using hy) (by rw [List.size_toArray, List.size_toArray, ← r1.length, ← r2.length]; exact hz)) ⟨ho, ho2, ?_⟩
      rw [e]
      exact laid_tup I (r1.append r2) (by rw [List.length_append]; exact hz) (q2 ex ey)
theorem get_list : PGet X (rIxL X.K) := by
  intro pins s σ H x y v u Q I rx ry h
  obtain ⟨p, xs, i, z, rfl, rfl, hq, he, q⟩ := h
  cases rx
  obtain ⟨t, rfl⟩ := ry
  obtain ⟨its, r, pl, hz⟩ := I.list hq
  obtain ⟨j, h1, h2, h3, h4, h5⟩ := atI_get he
  obtain ⟨w, ew, rw'⟩ := r.get h2
  have hl := r.length
  have hn := line63
  have fin : EP X pins σ Q w s := ⟨z, H, I, rw', q⟩
  by_cases h0 : 0 ≤ i
  · have hj : i.toNat = j := by
      rw [seqIndex_of h0 h5] at h1
      exact Option.some.inj h1
    exact wpAny_getItem_list pl.isList h0 (by omega) (by rw [hj]; simpa using ew) fin
  · have hj : (i + (its.toArray.size : Int)).toNat = j := by
      rw [seqIndex_neg (by omega) h4] at h1
      rw [List.size_toArray, ← hl]
      exact Option.some.inj h1
    exact wpAny_getItem_list_neg pl.isList (by omega) (by rw [List.size_toArray] <;> omega) (by omega) (by rw [hj]; simpa using ew) fin
end

/-! ### name op= e -/
def kAug (i : Nat) (f : D → D → Option D) (o : DO) : DS := fun ρ => match ρ[i]? with
  | some (some (.val x)) => (o.ev ρ).bind fun r => (o.fin r.1 r.2).bind fun u => (f x u).bind fun z => (setSl i (.val z) r.2).bind fun ρ' => some (.nx ρ')
  | _ => none
section
variable {M : Md} {X : Cx} {pos : Pos} {e : Expr} {i : Nat}
theorem k_aug {st : Stmt} {f : D → D → Option D} {r : R2} {o : DO} (im : Imp2 M.K r f) (h : PS X st (tAug i (tOpd M o) r)) : Sm M X st (kAug i f o) := h.imp fun D σ H ⟨ρ, F, rs, S, e, q⟩ => by
  unfold kAug at e
  split at e
  · rename_i x hx
    obtain ⟨⟨r1, ρ1⟩, e1, e⟩ := Option.bind_eq_some_iff.mp e
    obtain ⟨u, e2, e⟩ := Option.bind_eq_some_iff.mp e
    obtain ⟨z, e3, e⟩ := Option.bind_eq_some_iff.mp e
    obtain ⟨ρ2, e4, e⟩ := Option.bind_eq_some_iff.mp e
    cases e
    obtain ⟨v, ev, rv⟩ := S.val i x hx
    refine ⟨v, ev, ρ, F, r1, ρ1, S, e1, fun w H1 F1 S1 T1 h1 => ?_⟩
    refine im F1 H1 v w x u z _ S1.sub (.inl (Rp.mono T1.fr _ _ rv)) (h1.bor S1 e2) e3 fun y H2 F2 n rz => ?_
    obtain ⟨S2, T2⟩ := S1.new n
    obtain ⟨S3, T3⟩ := S2.set .refl e4 (SlAt.val_of rz)
    exact q _ H2 F2 S3 (T1.trans (T2.trans T3))
  · cases e

/-! ### x[i] = e, x[i] op= e -/
def kPut (i : Nat) (a ix : DE) : DS := fun ρ => (a ρ).bind fun x => if lstAt i x.2 = true then (ix x.2).bind fun y => match y.1 with
    | .int k => (ownL i y.2).bind fun l => (ixN l.1.length k).bind fun j => some (.nx (y.2.set i (some (.own (.lst (l.1.set j x.1)) l.2))))
    | _ => none
  else none
theorem k_put {st : Stmt} {a ix : DE} (h : PS X st (tAsg (tD M a) (gSub (tVar i) (tD M ix) rSetL))) : Sm M X st (kPut i a ix) := h.imp fun D σ H ⟨ρ, F, rs, S, e, q⟩ => by
  unfold kPut at e
  obtain ⟨⟨x, ρ1⟩, e1, e⟩ := Option.bind_eq_some_iff.mp e
  split at e
  · rename_i hl
    obtain ⟨ds0, io0, h0⟩ := lstAt_has hl
    obtain ⟨⟨y, ρ2⟩, e2, e⟩ := Option.bind_eq_some_iff.mp e
    cases y with
    | int k =>
      dsimp only at e
      obtain ⟨⟨ds, io⟩, e3, e⟩ := Option.bind_eq_some_iff.mp e
      obtain ⟨j, e4, e⟩ := Option.bind_eq_some_iff.mp e
      cases e
      refine ⟨ρ, F, x, ρ1, S, e1, fun v H1 F1 S1 T1 r1 => ?_⟩
      obtain ⟨b, vs0, eb, hb, _⟩ := S1.is h0
      refine ⟨_, eb, ρ1, F1, _, ρ2, S1, e2, fun w H2 F2 S2 T2 r2 => ?_⟩
      unfold Rp at r2
      subst r2
      have hh := ownL_has e3
      obtain ⟨c, vs, ec, hc, rc⟩ := S2.is hh
      rw [eb] at ec
      cases ec
      refine ⟨b, vs, k, j, rfl, rfl, hc, by rw [rc.length]; exact e4, ?_⟩
      obtain ⟨S3, T3⟩ := S2.write (o' := .lst (ds.set j x)) (u := .lst (vs.set j v)) hh eb ⟨vs.set j v, upd_same, rc.set j (Rp.mono T2.fr _ _ r1)⟩
      exact q σ _ F2 S3 ((T1.trans T2).trans T3)
    | _ => cases e
  · cases e
def kAugS (i : Nat) (ix : DE) (f : D → D → Option D) (o : DO) : DS := fun ρ => if lstAt i ρ = true then (ix ρ).bind fun y => match y.1 with
    | .int k => (ownL i y.2).bind fun l => (atI l.1 k).bind fun x => (o.ev y.2).bind fun r => (o.fin r.1 r.2).bind fun u => (f x u).bind fun z =>
      (ownL i r.2).bind fun l2 => (ixN l2.1.length k).bind fun j => some (.nx (r.2.set i (some (.own (.lst (l2.1.set j z)) l2.2))))
    | _ => none
  else none
theorem k_augS {st : Stmt} {ix : DE} {f : D → D → Option D} {r : R2} {o : DO} (im : Imp2 M.K r f) (h : PS X st (tAugS (tVar i) (tD M ix) (tOpd M o) (rIxL X.K) r rSetL)) : Sm M X st (kAugS i ix f o) := h.imp fun D σ H ⟨ρ, F, rs, S, e, q⟩ => by
  unfold kAugS at e
  split at e
  · rename_i hl
    obtain ⟨ds0, io0, h0⟩ := lstAt_has hl
    obtain ⟨b, vs0, eb, hb, _⟩ := S.is h0
    obtain ⟨⟨y, ρ1⟩, e1, e⟩ := Option.bind_eq_some_iff.mp e
    cases y with
    | int k =>
      dsimp only at e
      obtain ⟨⟨ds, io⟩, e2, e⟩ := Option.bind_eq_some_iff.mp e
      obtain ⟨x, e3, e⟩ := Option.bind_eq_some_iff.mp e
      obtain ⟨⟨r1, ρ2⟩, e4, e⟩ := Option.bind_eq_some_iff.mp e
      obtain ⟨u, e5, e⟩ := Option.bind_eq_some_iff.mp e
      obtain ⟨z, e6, e⟩ := Option.bind_eq_some_iff.mp e
      obtain ⟨⟨ds2, io2⟩, e7, e⟩ := Option.bind_eq_some_iff.mp e
      obtain ⟨j, e8, e⟩ := Option.bind_eq_some_iff.mp e
      cases e
      refine ⟨_, eb, ρ, F, _, ρ1, S, e1, fun w H1 F1 S1 T1 r2 => ?_⟩
      unfold Rp at r2
      subst r2
      obtain ⟨c, vs, ec, hc, rc⟩ := S1.is (ownL_has e2)
      rw [eb] at ec
      cases ec
      obtain ⟨xv, ex, rx⟩ := rc.atI e3
      refine ⟨b, vs, k, xv, rfl, rfl, SqL.of hc, ex, ρ1, F1, r1, ρ2, S1, e4, fun w H2 F2 S2 T2 h2 => ?_⟩
      refine im F2 H2 xv w x u z _ S2.sub (.inl (Rp.mono T2.fr _ _ rx)) (h2.bor S2 e5) e6 fun zv H3 F3 n rz => ?_
      obtain ⟨S3, T3⟩ := S2.new n
      have hh := ownL_has e7
      obtain ⟨c2, ws, ec2, hc2, rc2⟩ := S3.is hh
      rw [eb] at ec2
      cases ec2
      refine ⟨b, ws, k, j, rfl, rfl, hc2, by rw [rc2.length]; exact e8, ?_⟩
      obtain ⟨S4, T4⟩ := S3.write (o' := .lst (ds2.set j z)) (u := .lst (ws.set j zv)) hh eb ⟨ws.set j zv, upd_same, rc2.set j rz⟩
      exact q σ _ F3 S4 (((T1.trans T2).trans T3).trans T4)
    | _ => cases e
  · cases e

/-! ### x.pop(e) -/
def dPop (i : Nat) (a : DE) : DE := fun ρ => if lstAt i ρ = true then (a ρ).bind fun x => match x.1 with
    | .int k => (ownL i x.2).bind fun l => if -(2 ^ 63) ≤ k ∧ k < 2 ^ 63 then (seqIndex? k l.1.length).bind fun j => (l.1[j]?).bind fun y => some (y, x.2.set i (some (.own (.lst (l.1.eraseIdx j)) l.2))) else none
    | _ => none
  else none
theorem x_pop {x : Expr} {a : DE} {q1 q2 : Pos} (h : PE X (.Call (.Attribute x "pop" q1) [e] [] q2) (tBM X.K "list" rPopAt (tVar i) (tCons (tD M a) tNil))) : Ex M X (.Call (.Attribute x "pop" q1) [e] [] q2) (dPop i a) := h.imp fun σ H Q ⟨ρ, F, d, ρ', S, e, q⟩ => by
  unfold dPop at e
  split at e
  · rename_i hl
    obtain ⟨ds0, io0, h0⟩ := lstAt_has hl
    obtain ⟨b, vs0, eb, hb, _⟩ := S.is h0
    obtain ⟨⟨y, ρ1⟩, e1, e⟩ := Option.bind_eq_some_iff.mp e
    cases y with
    | int k =>
      dsimp only at e
      obtain ⟨⟨ds, io⟩, e2, e⟩ := Option.bind_eq_some_iff.mp e
      split at e
      · rename_i hk
        obtain ⟨j, e3, e⟩ := Option.bind_eq_some_iff.mp e
        obtain ⟨z, e4, e⟩ := Option.bind_eq_some_iff.mp e
        cases e
        refine ⟨_, eb, tyV_lst hb, ρ, F, _, ρ1, S, e1, fun v H1 F1 S1 T1 r1 => ?_⟩
        unfold Rp at r1
        subst r1
        have hh := ownL_has e2
        obtain ⟨c, vs, ec, hc, rc⟩ := S1.is hh
        rw [eb] at ec
        cases ec
        obtain ⟨w, e5, rw5⟩ := rc.get e4
        refine ⟨b, vs, k, j, w, rfl, rfl, hc, hk.1, hk.2, by rw [rc.length]; exact e3, e5, ?_⟩
        obtain ⟨S2, T2⟩ := S1.write (o' := .lst (ds.eraseIdx j)) (u := .lst (vs.eraseIdx j)) hh eb ⟨vs.eraseIdx j, upd_same, rc.eraseIdx j⟩
        exact q w _ F1 S2 (T1.trans T2) rw5
      · cases e
    | _ => cases e
  · cases e
end
end ET
set_option Elab.async false
set_option maxRecDepth 100000
/-! ET: index, isinstance, two names at once. -/
namespace ET
open PySem PySem.Spec PyProof.Rows L2

/-! ### x.index(e) -/
def fIndex : D → D → Option D := fun l a => (lstOf l).bind fun xs => if min (PyData.depthAll (D.pys xs)) (dep a) ≤ deepest then (xs.findIdx? fun z => peq z a).map (fun (j : Nat) => D.int (j : Int)) else none
def rIndexA (K : PySem.W.Frag) : V → List V → Hp → VK → Prop := fun x xs H Q => ∃ (a : Addr) (vs : List V) (y : V) (d : D) (ds : List D) (j : Nat), x = V.ref a ∧ xs = [y] ∧ SqL K H a vs ∧ RpAll K H vs ds ∧ Rp K H y d ∧
  min (PyData.depthAll (D.pys ds)) (dep d) ≤ deepest ∧ (ds.findIdx? fun z => peq z d) = some j ∧ Q (.int (j : Nat)) H
section
variable {X : Cx} {M : Md}
theorem mt_indexA {k : Nat} (hr : Room k X.A) : MtR X "list.index" (rIndexA X.K) := by
  intro pins s σ H x xs v us Q I rx rxs h
  obtain ⟨a, vs, y, d, ds, j, rfl, rfl, hl, ha, hy, hz, hj, q⟩ := h
  cases rx
  obtain ⟨uy, rfl, ry⟩ := rxs.one
  obtain ⟨bs, r1⟩ := Dp.reads I d.py y uy (Rp.dp _ _ hy) ry
  have hu := hr.un
  have hxs : PyData.canLayAll0 (D.pys ds) = true := D.lays ds
  have hroom : X.A.units + 1 + min (PyData.depthAll (D.pys ds)) d.py.depth < cLine := by unfold deepest at hz; show X.A.units + 1 + min (PyData.depthAll (D.pys ds)) (dep d) < cLine; omega
  obtain ⟨its, rv, ⟨⟨cls, dd, data, sls⟩, n, ho, hc, hdn, hdt⟩, hlen⟩ := I.list hl
  simp only at hc hdt
  subst hc hdt
  obtain ⟨as, h4⟩ := Dp.readsAll I (D.pys ds) _ its (RpAll.dp _ _ ha) rv
  have hn : its.length = (D.pys ds).length := SeqAt.ReadsAll.length (D.pys ds) its as h4
  have hmap : its.map (SeqAt.readOf s.heap) = D.pys ds := SeqAt.readsAll_map (D.pys ds) its as hxs h4
  have hvl := rv.length
  have hsl := sizeLine_eq
  rw [D.pys_eq, List.length_map] at hn
  obtain ⟨hjd, e1, e2⟩ := List.findIdx?_eq_some_iff_getElem.mp hj
  have hjl : j < its.length := by omega
  have hj' : j < its.toArray.size := by simpa using hjl
  have at_ : ∀ (m : Nat) (hm : m < its.toArray.size) (hd : m < ds.length), SeqAt.readOf s.heap its.toArray[m] = (ds[m]).py := by
    intro m hm hd
    have hml : m < its.length := by simpa using hm
    have e : (its.map (SeqAt.readOf s.heap))[m]? = (D.pys ds)[m]? := by rw [hmap]
    rw [D.pys_eq, List.getElem?_map, List.getElem?_map, List.getElem?_eq_getElem hml, List.getElem?_eq_getElem hd] at e
    simpa using e
  refine call_meets PySem.F.slot_list_index ⟨_, ho, rfl⟩ PySem.F.entry_list_index (PySem.F.args_list_index_2 _ _)
    (SeqAt.list_indexAt a its.toArray n dd sls uy (fun u => PyData.eqv (SeqAt.readOf s.heap u) d.py) j hj' (by omega) ?_ ?_) ⟨ho, SeqAt.items_eqAt (vs := its.toArray) (show ReadsAll s.heap its.toArray.toList (D.pys ds) as from h4) r1 hxs d.lay hroom, ?_⟩
  · show PyData.eqv (SeqAt.readOf s.heap its.toArray[j]) d.py = true
    rw [at_ j hj' hjd]
    exact e1
  · intro m hm hmj
    have hmd : m < ds.length := by omega
    show PyData.eqv (SeqAt.readOf s.heap its.toArray[m]) d.py = false
    rw [at_ m hm hmd]
    have := e2 m hmj
    simpa [peq] using this
  · exact ⟨.int (j : Nat), H, I.tok _, ⟨_, rfl⟩, q⟩
/-- x.index(e), x a name -/
def dIndex (x : DO) (a : DE) : DE := fun ρ => (x.ev ρ).bind fun r => (x.fin r.1 r.2).bind fun u0 => if (lstOf u0).isSome = true then (a r.2).bind fun y => (x.fin r.1 y.2).bind fun u => (fIndex u y.1).bind fun z => some (z, y.2) else none
theorem x_index {o e : Expr} {x : DO} {a : DE} {q1 q2 : Pos} (hK : X.K = M.K) (h : PE X (.Call (.Attribute o "index" q1) [e] [] q2) (tBM X.K "list" (rIndexA X.K) (tOpd M x) (tCons (tD M a) tNil))) : Ex M X (.Call (.Attribute o "index" q1) [e] [] q2) (dIndex x a) := h.imp fun σ H Q ⟨ρ, F, d, ρ', S, e, q⟩ => by
  unfold dIndex at e
  obtain ⟨⟨r, ρ1⟩, e1, e⟩ := Option.bind_eq_some_iff.mp e
  obtain ⟨u0, e2, e⟩ := Option.bind_eq_some_iff.mp e
  split at e
  · rename_i hl
    obtain ⟨⟨y, ρ2⟩, e3, e⟩ := Option.bind_eq_some_iff.mp e
    obtain ⟨u, e4, e⟩ := Option.bind_eq_some_iff.mp e
    obtain ⟨z, e5, e⟩ := Option.bind_eq_some_iff.mp e
    cases e
    refine ⟨ρ, F, r, ρ1, S, e1, fun v H1 F1 S1 T1 h1 => ?_⟩
    obtain ⟨ys, ey⟩ := Option.isSome_iff_exists.mp hl
    have := lstOf_eq ey
    subst this
    obtain ⟨b, vs, rfl, hb, rb⟩ := (h1.bor S1 e2).lst S1.sub
    refine ⟨tyV_lst hb, ρ1, F1, y, ρ2, S1, e3, fun w H2 F2 S2 T2 r2 => ?_⟩
    unfold fIndex at e5
    obtain ⟨xs, e6, e9⟩ := Option.bind_eq_some_iff.mp e5
    have := lstOf_eq e6
    subst this
    split at e9
    · rename_i hz
      obtain ⟨j, e7, e8⟩ := Option.map_eq_some_iff.mp e9
      subst e8
      obtain ⟨b2, vs2, eb2, hb2, rb2⟩ := ((h1.mono T2.fr).bor S2 e4).lst S2.sub
      cases eb2
      show rIndexA X.K (V.ref b) [w] H2 Q
      refine ⟨b, vs2, w, y, xs, j, rfl, rfl, SqL.of hb2, by rw [hK]; exact RpAll.mono S2.sub _ _ rb2, by rw [hK]; exact Rp.mono S2.sub _ _ r2, hz, e7, ?_⟩
      exact q _ H2 F2 S2 (T1.trans T2) (by unfold Rp; rfl)
    · cases e9
  · cases e

/-! ### isinstance(x, T) -/
def tyOf : D → String
  | .non => "NoneType"
  | .bl _ => "bool"
  | .int _ => "int"
  | .str _ => "str"
  | .tup _ => "tuple"
  | .lst _ => "list"
  | .scr _ => "list"
def fIsi (T : String) : D → Option D := fun d => (kitB (tyOf d) T).map .bl
theorem rp_ty {K : PySem.W.Frag} {H : Hp} {v : V} {d : D} (h : Rp K H v d) : TyX K H v (.type (tyOf d)) := by
  cases d with
  | non => unfold Rp at h; subst h; exact .base .non
  | bl b => unfold Rp at h; subst h; exact .base (.bl b)
  | int b => unfold Rp at h; subst h; exact .base (.int b)
  | str b => unfold Rp at h; subst h; exact .base (.str _)
  | lst ds => unfold Rp at h; obtain ⟨a, vs, rfl, h, _⟩ := h; exact .base (.lst h)
  | scr ds =>
    unfold Rp at h
    obtain ⟨a, vs, rfl, h, _⟩ := h
    rcases h with (h | ⟨o, h⟩) | ⟨o, its, n, h, c, _⟩
    · exact .base (.lst h)
    · exact .base (.frz h)
    · exact .kList h c
  | tup ds =>
    unfold Rp at h
    obtain ⟨a, vs, rfl, h, _⟩ := h
    rcases h.sq with (h | ⟨o, h⟩) | ⟨o, its, n, h, c, _⟩
    · exact .base (.tup h)
    · exact .fTuple h
    · exact .kTuple h c
def dIsi (T : String) (x : DO) : DE := d1 (fIsi T) x
theorem x_isi {o : Expr} {T : String} {n : Str} {x : DO} {p p2 pos : Pos} (hK : X.K = M.K) (hg : Gl X "isinstance") (hm : X.mg "isinstance" = none) (hg2 : Gl X n) (hm2 : X.mg n = none) (hv : bootBuiltins n = some (.type T)) (ha : Opd M X o x)
    (hnn : n ≠ "__name__" := by decide) (hdd : (n == ("__debug__" : Str)) = false := by decide) (st : starEach [o, .Name n p2] X.env = (false, eval o X.env) :: starEach [.Name n p2] X.env := by rfl) (st2 : starEach [.Name n p2] X.env = (false, eval (.Name n p2) X.env) :: starEach [] X.env := by rfl)
    (hpl : (backTo pos (starEach [.Name n p2] X.env)).any (·.1) = false := by rfl) : Ex M X (.Call (.Name "isinstance" p) [o, .Name n p2] [] pos) (dIsi T x) :=
  (pe_callB call_isi hg hm (by rfl) (pa_cons ha.run (pa_cons (pe_bltn hg2 hm2 hv (show RelV (.ty T) (.type T) from rfl) hnn hdd) pa_nil st2) st) (by decide) (by decide) st hpl).imp fun σ H Q ⟨ρ, F, d, ρ', S, e, q⟩ => by
    unfold dIsi d1 at e
    obtain ⟨⟨r, ρ1⟩, e1, e⟩ := Option.bind_eq_some_iff.mp e
    obtain ⟨u, e2, e⟩ := Option.bind_eq_some_iff.mp e
    obtain ⟨c, e3, e⟩ := Option.bind_eq_some_iff.mp e
    cases e
    obtain ⟨b, e4, e5⟩ := Option.map_eq_some_iff.mp e3
    subst e5
    refine ⟨ρ, F, r, ρ1, S, e1, fun v H1 F1 S1 T1 h1 => ?_⟩
    refine ⟨v, .ty T, .type (tyOf u), .type T, b, rfl, .ty T, by rw [hK]; exact rp_ty ((h1.bor S1 e2).all S1.sub), kit_ty e4, ?_⟩
    exact q _ H1 F1 S1 T1 (by unfold Rp; rfl)

/-! ### x, y = e, f -/
def evPar (a b : SE) : Env → Option (Sl × Sl × Env) := fun ρ => (a ρ).bind fun x => (b x.2).bind fun y => some (x.1, y.1, y.2)
def kPar (i j : Nat) (a b : SE) : DS := fun ρ => (evPar a b ρ).bind fun r => (setSl i r.1 r.2.2).bind fun ρ1 => (setSl j r.2.1 ρ1).bind fun ρ2 => some (.nx ρ2)
theorem SlAt.keep {ρ ρ1 : Env} {σ : L2.St} {H0 F H F1 H1 : Hp} {v : V} {s : Sl} (S : Sim M ρ F σ H) (S1 : Sim M ρ1 F1 σ H1) (T : Step ρ σ F H ρ1 σ F1 H1) (h : SlAt M ρ σ H0 F H v s) : SlAt M ρ1 σ H0 F1 H1 v s := by
  cases s with
  | val d => exact Rp.mono T.fr _ _ h
  | own o io =>
    obtain ⟨a, rfl, q, f, n, c⟩ := h
    have hs := q.some
    refine ⟨a, rfl, q.mono T.fr fun u hu => T.keep a u hu c, ?_, n, fun z => ?_⟩
    · cases e : F1 a with
      | none => rfl
      | some u =>
        obtain ⟨w, hw⟩ := hs
        rcases T.new a u e with y | y | y | ⟨xs, y⟩
        · rw [f] at y; cases y
        · rw [hw] at y; cases y
        · exact absurd y.c c
        · subst y
          have y := S1.sub _ _ e
          rw [T.keep a w hw c] at y
          cases y
          exact (notTup q hw).elim
    · obtain ⟨w, hw⟩ := hs
      rcases T.ownC a z with y | y
      · exact c y
      · rw [hw] at y; cases y
theorem k_par {st : Stmt} {i j : Nat} {a b : SE} (hij : i ≠ j) (h : PS X st (tPar i j (tCons (tSE M a) (tCons (tSE M b) tNil)))) : Sm M X st (kPar i j a b) := h.imp fun D σ H ⟨ρ, F, rs, S, e, q⟩ => by
  unfold kPar at e
  obtain ⟨⟨u1, u2, ρ2⟩, e1, e⟩ := Option.bind_eq_some_iff.mp e
  obtain ⟨ρ3, e2, e⟩ := Option.bind_eq_some_iff.mp e
  obtain ⟨ρ4, e3, e⟩ := Option.bind_eq_some_iff.mp e
  cases e
  unfold evPar at e1
  obtain ⟨⟨u1', ρ1⟩, e4, e1⟩ := Option.bind_eq_some_iff.mp e1
  obtain ⟨⟨u2', ρ2'⟩, e5, e1⟩ := Option.bind_eq_some_iff.mp e1
  simp only [Option.some.injEq, Prod.mk.injEq] at e1
  obtain ⟨e8, e9, e10⟩ := e1
  subst e8 e9 e10
  refine ⟨ρ, F, _, ρ1, S, e4, fun v H1 F1 S1 T1 r1 => ⟨ρ1, F1, _, _, S1, e5, fun w H2 F2 S2 T2 r2 => ⟨v, w, rfl, ?_⟩⟩⟩
  have r1' := r1.keep S1 S2 T2
  obtain ⟨S3, T3⟩ := S2.set (T1.trans T2) e2 r1'
  obtain ⟨hi, e6, nio⟩ := setSl_eq e2
  have r2' : SlAt M ρ3 (σ.set i (some v)) H F2 H2 w u2' := by
    cases u2' with
    | val d => exact r2
    | own o io =>
      obtain ⟨a2, rfl, q2, f2, n2, c2⟩ := r2
      refine ⟨a2, rfl, q2, f2, ?_, fun ⟨k, o', io', z1, z2⟩ => ?_⟩
      · cases e : H a2 with
        | none => rfl
        | some u => obtain ⟨o', q'⟩ := T1.there a2 u e; rw [n2] at q'; cases q'
      · subst e6
        by_cases ek : k = i
        · subst ek
          unfold Has at z1
          rw [List.getElem?_set_self hi] at z1
          rw [List.getElem?_set_self (by rw [← S2.len]; exact hi)] at z2
          cases z2
          cases u1' with
          | val d => cases z1
          | own o1 io1 =>
            obtain ⟨a1, e7, q1, _⟩ := r1
            cases e7
            obtain ⟨u, hu⟩ := q1.some
            rw [n2] at hu; cases hu
        · unfold Has at z1
          rw [List.getElem?_set_ne fun y => ek y.symm] at z1
          rw [List.getElem?_set_ne fun y => ek y.symm] at z2
          exact c2 ⟨k, o', io', z1, z2⟩
  obtain ⟨S4, T4⟩ := S3.set T3 e3 r2'
  exact q _ H2 F2 S4 T4
end
end ET
set_option Elab.async false
set_option maxRecDepth 100000
/-! ET: dicts. -/
namespace ET
open PySem PySem.Spec PyProof.Rows L2

section
variable {κ : Type} [DecidableEq κ]
def valD (kvs : List (κ × D)) (k : κ) : Option D := (kvs.find? fun kv => decide (kv.1 = k)).map (·.2)
def putD (kvs : List (κ × D)) (k : κ) (v : D) : List (κ × D) := if (kvs.any fun kv => decide (kv.1 = k)) = true then kvs.map (fun kv => if kv.1 = k then (kv.1, v) else kv) else kvs ++ [(k, v)]
end
/-- what is found, as it lies -/
def FndAt (K : PySem.W.Frag) (F : Hp) (u : Option V) : Option D → Prop
  | none => u = none
  | some d => ∃ v, u = some v ∧ Rp K F v d
section
variable {κ κ' : Type} [DecidableEq κ] [DecidableEq κ'] {f : κ → κ'} {K : PySem.W.Frag} {F : Hp}
theorem KVg.length : ∀ {ws : List (κ' × V)} {ds : List (κ × D)}, KVg f K F ws ds → ws.length = ds.length
  | [], [], _ => rfl
  | (k, v) :: ws, (i, d) :: ds, r => by rw [List.length_cons, List.length_cons, KVg.length r.2.2]
  | [], _ :: _, r => r.elim
  | _ :: _, [], r => r.elim
theorem KVg.val (hf : ∀ a b, f a = f b → a = b) (k : κ) : ∀ {ws : List (κ' × V)} {ds : List (κ × D)}, KVg f K F ws ds → FndAt K F (valV ws (f k)) (valD ds k)
  | [], [], _ => rfl
  | (k', v) :: ws, (i, d) :: ds, r => by
    obtain ⟨rfl, r1, r2⟩ := r
    have ih := KVg.val hf k r2
    by_cases e : i = k
    · subst e
      have : valD ((i, d) :: ds) i = some d := by simp [valD, List.find?_cons]
      rw [this]
      exact ⟨v, by rw [valV_pos rfl], r1⟩
    · have e1 : valD ((i, d) :: ds) k = valD ds k := by simp [valD, List.find?_cons, e]
      rw [e1, valV_neg (p := (f i, v)) fun z => e (hf _ _ z)]
      exact ih
  | [], _ :: _, r => r.elim
  | _ :: _, [], r => r.elim
theorem KVg.any (hf : ∀ a b, f a = f b → a = b) (k : κ) : ∀ {ws : List (κ' × V)} {ds : List (κ × D)}, KVg f K F ws ds → (ws.any fun kv => decide (kv.1 = f k)) = ds.any fun kv => decide (kv.1 = k)
  | [], [], _ => rfl
  | (k', v) :: ws, (i, d) :: ds, r => by
    obtain ⟨rfl, r1, r2⟩ := r
    rw [List.any_cons, List.any_cons, KVg.any hf k r2]
    congr 1
    by_cases e : i = k
    · subst e; simp
    · rw [decide_eq_false e, decide_eq_false fun z => e (hf _ _ z)]
  | [], _ :: _, r => r.elim
  | _ :: _, [], r => r.elim
theorem KVg.put (hf : ∀ a b, f a = f b → a = b) (k : κ) {v : V} {d : D} (h : Rp K F v d) {ws : List (κ' × V)} {ds : List (κ × D)} (r : KVg f K F ws ds) : KVg f K F (putK ws (f k) v) (putD ds k d) := by
  unfold putK putD
  rw [r.any hf k]
  split
  · have go : ∀ {ws : List (κ' × V)} {ds : List (κ × D)}, KVg f K F ws ds → KVg f K F (ws.map fun kv => if kv.1 = f k then (kv.1, v) else kv) (ds.map fun kv => if kv.1 = k then (kv.1, d) else kv) := by
      intro ws ds
      induction ws generalizing ds with
      | nil =>
        intro r
        cases ds with
        | nil => exact trivial
        | cons _ _ => exact r.elim
      | cons w ws ih =>
        intro r
        cases ds with
        | nil => exact r.elim
        | cons d' ds =>
          obtain ⟨k', v'⟩ := w
          obtain ⟨i, d'⟩ := d'
          obtain ⟨e, r1, r2⟩ := r
          subst e
          rw [List.map_cons, List.map_cons]
          by_cases e : i = k
          · subst e
            rw [if_pos rfl, if_pos rfl]
            exact ⟨rfl, h, ih r2⟩
          · rw [if_neg fun z => e (hf _ _ z), if_neg e]
            exact ⟨rfl, r1, ih r2⟩
    exact go r
  · have go : ∀ {ws : List (κ' × V)} {ds : List (κ × D)}, KVg f K F ws ds → KVg f K F (ws ++ [(f k, v)]) (ds ++ [(k, d)]) := by
      intro ws ds
      induction ws generalizing ds with
      | nil =>
        intro r
        cases ds with
        | nil => exact ⟨rfl, h, trivial⟩
        | cons _ _ => exact r.elim
      | cons w ws ih =>
        intro r
        cases ds with
        | nil => exact r.elim
        | cons d' ds => exact ⟨r.1, r.2.1, ih r.2.2⟩
    exact go r
end
theorem inl_inj (a b : Int) (h : (Sum.inl a : Key) = Sum.inl b) : a = b := by cases h; rfl
theorem inls_inj : ∀ (a b : List Int), (a.map Sum.inl : List Key) = b.map Sum.inl → a = b
  | [], [], _ => rfl
  | [], _ :: _, h => by simp at h
  | _ :: _, [], h => by simp at h
  | x :: a, y :: b, h => by
    simp only [List.map_cons, List.cons.injEq] at h
    rw [inl_inj _ _ h.1, inls_inj a b h.2]
/-- an owned dict -/
def isDk : Own → Bool
  | .dk _ => true
  | .dt _ => true
  | _ => false
/-- what is held at a key -/
def dGet (o : Own) (k : D) : Option (Option D) := match o, k with
  | .dk kvs, .int i => some (valD kvs i)
  | .dt kvs, .tup xs => if cst xs = true then none else (intsOf xs).map fun ns => valD kvs ns
  | _, _ => none
def dPut (o : Own) (k v : D) : Option Own := match o, k with
  | .dk kvs, .int i => if kvs.length < sizeLine then some (.dk (putD kvs i v)) else none
  | .dt kvs, .tup xs => if cst xs = true then none else (intsOf xs).bind fun ns => if kvs.length < sizeLine then some (.dt (putD kvs ns v)) else none
  | _, _ => none
section
variable {M : Md} {X : Cx} {F H : Hp} {a : Addr} {o : Own} {y : V} {k : D}
theorem brs_ints : ∀ ns : List Int, brs (ns.map .int) = false
  | [] => rfl
  | _ :: _ => rfl
theorem key_tup {xs : List D} {ns : List Int} (hc : cst xs = false) (e : intsOf xs = some ns) (s : Same F H) (h : Rp M.K F y (.tup xs)) : ∃ b, y = .ref b ∧ H b = some (.tup ((ns.map Sum.inl).map kV)) := by
  unfold Rp at h
  obtain ⟨b, vs, rfl, h, r⟩ := h
  have := intsOf_eq e
  subst this
  have := r.ints
  subst this
  rcases h with ⟨_, h⟩ | ⟨c, _⟩ | ⟨c, _⟩
  · refine ⟨b, rfl, ?_⟩
    rw [s _ _ h, List.map_map]
    rfl
  · rw [brs_ints] at c; cases c
  · rw [hc] at c; cases c
theorem dGet_at {r : Option D} (h : OwnAt M F H a o) (s : Same F H) (hk : Rp M.K F y k) (e : dGet o k = some r) : ∃ u, DGet H a y u ∧ FndAt M.K F u r := by
  cases o with
  | dk kvs =>
    cases k <;> first | cases e | skip
    obtain ⟨ws, hw, rw'⟩ := h
    unfold Rp at hk
    subst hk
    exact ⟨_, DGet.k (k := .inl _) hw, KVg.val inl_inj _ rw'⟩
  | dt kvs =>
    cases k <;> first | cases e | skip
    rename_i xs
    obtain ⟨ws, hw, rw'⟩ := h
    unfold dGet at e
    dsimp only at e
    split at e
    · cases e
    · rename_i hc
      obtain ⟨ns, e1, e2⟩ := Option.map_eq_some_iff.mp e
      subst e2
      obtain ⟨b, rfl, hb⟩ := key_tup (by simpa using hc) e1 s hk
      exact ⟨_, DGet.t hw hb, KVg.val inls_inj _ rw'⟩
  | _ => cases k <;> cases e
theorem dPut_at {v : V} {d : D} {o' : Own} (h : OwnAt M F H a o) (s : Same F H) (hk : Rp M.K F y k) (hv : Rp M.K F v d) (e : dPut o k d = some o') : ∃ u, DPut H a y v (upd H a u) ∧ OwnAt M F (upd H a u) a o' := by
  cases o with
  | dk kvs =>
    cases k <;> first | cases e | skip
    obtain ⟨ws, hw, rw'⟩ := h
    unfold Rp at hk
    subst hk
    unfold dPut at e
    dsimp only at e
    split at e
    · rename_i hz
      cases e
      exact ⟨_, DPut.k (k := .inl _) hw (by rw [rw'.length]; exact hz), _, upd_same, KVg.put inl_inj _ hv rw'⟩
    · cases e
  | dt kvs =>
    cases k <;> first | cases e | skip
    rename_i xs
    obtain ⟨ws, hw, rw'⟩ := h
    unfold dPut at e
    dsimp only at e
    split at e
    · cases e
    · rename_i hc
      obtain ⟨ns, e1, e2⟩ := Option.bind_eq_some_iff.mp e
      split at e2
      · rename_i hz
        cases e2
        obtain ⟨b, rfl, hb⟩ := key_tup (by simpa using hc) e1 s hk
        exact ⟨_, DPut.t hw hb (by rw [rw'.length]; exact hz), _, upd_same, KVg.put inls_inj _ hv rw'⟩
      · cases e2
  | _ => cases k <;> cases e
end
def ownO (i : Nat) (ρ : ET.Env) : Option (Own × Bool) := match ρ[i]? with
  | some (some (.own o io)) => some (o, io)
  | _ => none
theorem ownO_has {i : Nat} {ρ : ET.Env} {o : Own} {io : Bool} (h : ownO i ρ = some (o, io)) : Has ρ i o io := by
  unfold ownO at h
  split at h
  · rename_i hh
    cases h
    exact hh
  · cases h
def sNewK : SE := fun ρ => some (.own (.dk []) false, ρ)
def sNewT : SE := fun ρ => some (.own (.dt []) false, ρ)
/-- d[k], k in d, d[k] = v -/
def dDGet (i : Nat) (a : DE) : DE := fun ρ => if (ownO i ρ).isSome = true then (a ρ).bind fun x => (ownO i x.2).bind fun o => (dGet o.1 x.1).bind fun r => r.bind fun d => some (d, x.2) else none
def dDIn (neg : Bool) (i : Nat) (a : DE) : DE := fun ρ => (a ρ).bind fun x => (ownO i x.2).bind fun o => (dGet o.1 x.1).bind fun r => some (.bl (r.isSome != neg), x.2)
def kDPut (i : Nat) (a k : DE) : DS := fun ρ => (a ρ).bind fun x => if (ownO i x.2).isSome = true then (k x.2).bind fun y => (ownO i y.2).bind fun o => (dPut o.1 y.1 x.1).bind fun o' => some (.nx (y.2.set i (some (.own o' o.2)))) else none
section
variable {M : Md} {X : Cx} {i : Nat} {e : Expr}
theorem s_new {w : HO} {o : Own} (h : PE X e (fun _ H Q => ∀ p, H p = none → Q (.ref p) (upd H p w))) (ho : ∀ F H a, OwnAt M F (upd H a w) a o) : Sx M X e (fun ρ => some (.own o false, ρ)) := h.imp fun σ H Q ⟨ρ, F, d, ρ', S, e, q⟩ => by
  cases e
  intro p hp
  have n := New.obj S.sub hp w
  obtain ⟨S1, T1⟩ := S.new n
  refine q _ _ _ S1 T1 ⟨p, rfl, ho _ _ _, S.sub.free hp, hp, fun z => ?_⟩
  obtain ⟨_, u, hu⟩ := S.ownF z
  rw [hp] at hu; cases hu
theorem s_newK (h : PE X e tDNewK) : Sx M X e sNewK := s_new h fun F H a => ⟨[], upd_same, trivial⟩
theorem s_newT (h : PE X e tDNewT) : Sx M X e sNewT := s_new h fun F H a => ⟨[], upd_same, trivial⟩
theorem x_dget {a : DE} (h : PE X e (tDGet (tVar i) (tD M a))) : Ex M X e (dDGet i a) := h.imp fun σ H Q ⟨ρ, F, d, ρ', S, e, q⟩ => by
  unfold dDGet at e
  split at e
  · rename_i hl
    obtain ⟨⟨o0, io0⟩, h0⟩ := Option.isSome_iff_exists.mp hl
    obtain ⟨⟨x, ρ1⟩, e1, e⟩ := Option.bind_eq_some_iff.mp e
    obtain ⟨⟨o, io⟩, e2, e⟩ := Option.bind_eq_some_iff.mp e
    obtain ⟨r, e3, e⟩ := Option.bind_eq_some_iff.mp e
    obtain ⟨d', e4, e⟩ := Option.bind_eq_some_iff.mp e
    cases e
    subst e4
    obtain ⟨b, eb, _⟩ := S.own i _ _ (ownO_has h0)
    refine ⟨_, eb, ρ, F, x, ρ1, S, e1, fun y H1 F1 S1 T1 r1 => ?_⟩
    obtain ⟨c, ec, qc, fc⟩ := S1.own i _ _ (ownO_has e2)
    rw [eb] at ec
    cases ec
    obtain ⟨u, g, v, e5, rv⟩ := dGet_at qc S1.sub r1 e3
    subst e5
    exact ⟨b, v, rfl, g, q v H1 F1 S1 T1 rv⟩
  · cases e
theorem x_din {a : DE} (h : PE X e (tDIn (tD M a) (tVar i))) : Ex M X e (dDIn false i a) := h.imp fun σ H Q ⟨ρ, F, d, ρ', S, e, q⟩ => by
  unfold dDIn at e
  obtain ⟨⟨x, ρ1⟩, e1, e⟩ := Option.bind_eq_some_iff.mp e
  obtain ⟨⟨o, io⟩, e2, e⟩ := Option.bind_eq_some_iff.mp e
  obtain ⟨r, e3, e⟩ := Option.bind_eq_some_iff.mp e
  cases e
  refine ⟨ρ, F, x, ρ1, S, e1, fun y H1 F1 S1 T1 r1 => ?_⟩
  obtain ⟨c, ec, qc, fc⟩ := S1.own i _ _ (ownO_has e2)
  obtain ⟨u, g, hu⟩ := dGet_at qc S1.sub r1 e3
  refine ⟨_, ec, c, u, rfl, g, q _ H1 F1 S1 T1 ?_⟩
  unfold Rp
  cases r with
  | none => rw [show u = none from hu]; rfl
  | some d => obtain ⟨v, hu, _⟩ := hu; rw [hu]; rfl
theorem x_dnotin {a : DE} (h : PE X e (tDNotIn (tD M a) (tVar i))) : Ex M X e (dDIn true i a) := h.imp fun σ H Q ⟨ρ, F, d, ρ', S, e, q⟩ => by
  unfold dDIn at e
  obtain ⟨⟨x, ρ1⟩, e1, e⟩ := Option.bind_eq_some_iff.mp e
  obtain ⟨⟨o, io⟩, e2, e⟩ := Option.bind_eq_some_iff.mp e
  obtain ⟨r, e3, e⟩ := Option.bind_eq_some_iff.mp e
  cases e
  refine ⟨ρ, F, x, ρ1, S, e1, fun y H1 F1 S1 T1 r1 => ?_⟩
  obtain ⟨c, ec, qc, fc⟩ := S1.own i _ _ (ownO_has e2)
  obtain ⟨u, g, hu⟩ := dGet_at qc S1.sub r1 e3
  refine ⟨_, ec, c, u, rfl, g, q _ H1 F1 S1 T1 ?_⟩
  unfold Rp
  cases r with
  | none => rw [show u = none from hu]; rfl
  | some d => obtain ⟨v, hu, _⟩ := hu; rw [hu]; rfl
theorem k_dput {st : Stmt} {a k : DE} (h : PS X st (sDPut (tVar i) (tD M k) (tD M a))) : Sm M X st (kDPut i a k) := h.imp fun D σ H ⟨ρ, F, rs, S, e, q⟩ => by
  unfold kDPut at e
  obtain ⟨⟨x, ρ1⟩, e1, e⟩ := Option.bind_eq_some_iff.mp e
  split at e
  · rename_i hl
    obtain ⟨⟨o0, io0⟩, h0⟩ := Option.isSome_iff_exists.mp hl
    obtain ⟨⟨y, ρ2⟩, e2, e⟩ := Option.bind_eq_some_iff.mp e
    obtain ⟨⟨o, io⟩, e3, e⟩ := Option.bind_eq_some_iff.mp e
    obtain ⟨o', e4, e⟩ := Option.bind_eq_some_iff.mp e
    cases e
    refine ⟨ρ, F, x, ρ1, S, e1, fun v H1 F1 S1 T1 r1 => ?_⟩
    obtain ⟨b, eb, _⟩ := S1.own i _ _ (ownO_has h0)
    refine ⟨_, eb, ρ1, F1, y, ρ2, S1, e2, fun w H2 F2 S2 T2 r2 => ?_⟩
    have hh := ownO_has e3
    obtain ⟨c, ec, qc, fc⟩ := S2.own i _ _ hh
    rw [eb] at ec
    cases ec
    obtain ⟨u, g, n⟩ := dPut_at qc S2.sub r2 (Rp.mono T2.fr _ _ r1) e4
    refine ⟨b, _, rfl, g, ?_⟩
    obtain ⟨S3, T3⟩ := S2.write hh eb n
    exact q σ _ F2 S3 ((T1.trans T2).trans T3)
  · cases e
/-- list(d), d with ints for keys -/
def sKeysK (i : Nat) : SE := fun ρ => (ownO i ρ).bind fun o => match o.1 with
  | .dk kvs => some (.own (.lst (kvs.map fun kv => .int kv.1)) false, ρ)
  | _ => none
theorem KVi.keys {K : PySem.W.Frag} {F : Hp} : ∀ {ws : List (Key × V)} {kvs : List (Int × D)}, KVi K F ws kvs → RpAll K F (ws.map fun kv => kV kv.1) (kvs.map fun kv => D.int kv.1)
  | [], [], _ => RpAll.nil
  | (k, v) :: ws, (j, d) :: ds, r => by
    obtain ⟨rfl, _, r2⟩ := r
    exact RpAll.cons (by unfold Rp; rfl) (KVi.keys r2)
  | [], _ :: _, r => r.elim
  | _ :: _, [], r => r.elim
theorem s_keysK {o : Expr} {n : Str} {p pos : Pos} (hc : X.calm = true) (hg : Gl X n) (hm : X.mg n = none) (hv : bootBuiltins n = some (.type "list")) (ho : PE X o (tVar i))
    (st : starEach [o] X.env = (false, eval o X.env) :: starEach [] X.env := by rfl) (hn : n ≠ "__name__" := by decide) (hdb : (n == ("__debug__" : Str)) = false := by decide) : Sx M X (.Call (.Name n p) [o] [] pos) (sKeysK i) :=
  (pe_callTy (call_listD hc) hg hm hv (pa_cons ho pa_nil st) hn hdb st).imp fun σ H Q ⟨ρ, F, d, ρ', S, e, q⟩ => by
    unfold sKeysK at e
    obtain ⟨⟨o, io⟩, e1, e⟩ := Option.bind_eq_some_iff.mp e
    cases o with
    | dk kvs =>
      cases e
      obtain ⟨b, eb, ⟨ws, hw, rw'⟩, _⟩ := S.own i _ _ (ownO_has e1)
      refine ⟨_, eb, b, ws, rfl, .inl hw, fun p hp => ?_⟩
      have n := New.obj S.sub hp (.lst (ws.map fun kv => kV kv.1))
      obtain ⟨S1, T1⟩ := S.new n
      refine q _ _ _ S1 T1 ⟨p, rfl, ⟨_, upd_same, KVi.keys rw'⟩, S.sub.free hp, hp, fun z => ?_⟩
      obtain ⟨_, u, hu⟩ := S.ownF z
      rw [hp] at hu; cases hu
    | _ => cases e
/-- list(d), d with tuples for keys -/
def sKeysT (i : Nat) : SE := fun ρ => (ownO i ρ).bind fun o => match o.1 with
  | .dt kvs => some (.own (.lst (kvs.map fun kv => .tup (kv.1.map .int))) false, ρ)
  | _ => none
/-- tuples that stand are taken for frozen -/
def frz1 (H : Hp) (b : Addr) (F : Hp) : Hp := match H b with
  | some (.tup xs) => upd F b (.tup xs)
  | _ => F
theorem frz1_is (H : Hp) (b : Addr) (F : Hp) : frz1 H b F = F ∨ ∃ xs, H b = some (.tup xs) ∧ frz1 H b F = upd F b (.tup xs) := by
  unfold frz1
  split
  · rename_i xs h; exact .inr ⟨xs, h, rfl⟩
  · exact .inl rfl
def frzAll (F H : Hp) : List Addr → Hp
  | [] => F
  | b :: bs => frz1 H b (frzAll F H bs)
theorem frzAll_same {F H : Hp} (s : Same F H) : ∀ bs, Same F (frzAll F H bs) ∧ Same (frzAll F H bs) H ∧ ∀ b o, frzAll F H bs b = some o → F b = some o ∨ ∃ xs, o = .tup xs
  | [] => ⟨Same.refl _, s, fun b o h => .inl h⟩
  | b :: bs => by
    obtain ⟨h1, h2, h3⟩ := frzAll_same s bs
    show Same F (frz1 H b (frzAll F H bs)) ∧ Same (frz1 H b (frzAll F H bs)) H ∧ ∀ c o, frz1 H b (frzAll F H bs) c = some o → F c = some o ∨ ∃ xs, o = .tup xs
    generalize frzAll F H bs = G at *
    rcases frz1_is H b G with e | ⟨xs, hb, e⟩
    · rw [e]; exact ⟨h1, h2, h3⟩
    · rw [e]
      refine ⟨fun c o z => ?_, fun c o z => ?_, fun c o z => ?_⟩
      · by_cases e : c = b
        · subst e
          have := s _ _ z
          rw [hb] at this
          rw [upd_same, this]
        · rw [upd_ne e]; exact h1 _ _ z
      · by_cases e : c = b
        · subst e; rw [upd_same] at z; rw [hb]; exact z
        · rw [upd_ne e] at z; exact h2 _ _ z
      · by_cases e : c = b
        · subst e; rw [upd_same] at z; cases z; exact .inr ⟨xs, rfl⟩
        · rw [upd_ne e] at z; exact h3 _ _ z
theorem frzAll_at {F H : Hp} {b : Addr} {xs : List V} (h : H b = some (.tup xs)) : ∀ {bs : List Addr}, b ∈ bs → frzAll F H bs b = some (.tup xs)
  | [], m => by simp at m
  | c :: bs, m => by
    show frz1 H c (frzAll F H bs) b = some (.tup xs)
    by_cases e : b = c
    · subst e; unfold frz1; rw [h]; exact upd_same
    · have m2 := frzAll_at (F := F) h ((List.mem_cons.mp m).resolve_left e)
      generalize frzAll F H bs = G at *
      rcases frz1_is H c G with q | ⟨ys, _, q⟩
      · rw [q]; exact m2
      · rw [q, upd_ne e]; exact m2
theorem Sim.frzT {ρ : ET.Env} {F : Hp} {σ : L2.St} {H : Hp} (S : Sim M ρ F σ H) (bs : List Addr) : Sim M ρ (frzAll F H bs) σ H ∧ Step ρ σ F H ρ σ (frzAll F H bs) H := by
  obtain ⟨h1, h2, h3⟩ := frzAll_same S.sub bs
  refine ⟨⟨S.len, h2, fun i d h => ?_, fun i o io h => ?_, S.sep⟩, h1, fun b o h => ?_, fun b o h _ => h, fun b o h => ⟨o, h⟩, fun _ h => .inl h, fun _ h => .inl h, fun _ o h => ⟨rfl, o, h⟩, fun _ o h => ⟨o, h⟩⟩
  · obtain ⟨v, e, r⟩ := S.val i d h
    exact ⟨v, e, Rp.mono h1 _ _ r⟩
  · obtain ⟨a, e, q, f⟩ := S.own i o io h
    refine ⟨a, e, q.mono h1 fun u z => z, ?_⟩
    cases z : frzAll F H bs a with
    | none => rfl
    | some u =>
      rcases h3 a u z with y | ⟨xs, y⟩
      · rw [f] at y; cases y
      · subst y; exact (notTup q (h2 _ _ z)).elim
  · rcases h3 b o h with y | y
    · exact .inl y
    · exact .inr (.inr (.inr y))
theorem keysT_rp {K : PySem.W.Frag} {F H : Hp} : ∀ {ws : List (List Key × V)} {kvs : List (List Int × D)} {bs : List Addr}, KVt K F ws kvs → IsKeys H ws bs → ∀ all, (∀ b ∈ bs, b ∈ all) → RpAll K (frzAll F H all) (bs.map V.ref) (kvs.map fun kv => .tup (kv.1.map .int))
  | [], [], _, _, .nil, all, _ => RpAll.nil
  | (k, v) :: ws, (j, d) :: ds, b :: bs, r, .cons hb t, all, h => by
    obtain ⟨rfl, _, r2⟩ := r
    refine RpAll.cons ?_ (keysT_rp r2 t all fun c hc => h c (List.mem_cons_of_mem _ hc))
    unfold Rp
    refine ⟨b, (j.map Sum.inl).map kV, rfl, .inl ⟨brs_ints j, frzAll_at hb (h b List.mem_cons_self)⟩, ?_⟩
    rw [List.map_map]
    exact RpAll.of_ints j
  | [], _ :: _, _, r, _, _, _ => r.elim
  | _ :: _, [], _, r, _, _, _ => r.elim
theorem s_keysT {o : Expr} {n : Str} {p pos : Pos} (hc : X.calm = true) (hg : Gl X n) (hm : X.mg n = none) (hv : bootBuiltins n = some (.type "list")) (ho : PE X o (tVar i))
    (st : starEach [o] X.env = (false, eval o X.env) :: starEach [] X.env := by rfl) (hn : n ≠ "__name__" := by decide) (hdb : (n == ("__debug__" : Str)) = false := by decide) : Sx M X (.Call (.Name n p) [o] [] pos) (sKeysT i) :=
  (pe_callTy (call_list_dT hc) hg hm hv (pa_cons ho pa_nil st) hn hdb st).imp fun σ H Q ⟨ρ, F, d, ρ', S, e, q⟩ => by
    unfold sKeysT at e
    obtain ⟨⟨o, io⟩, e1, e⟩ := Option.bind_eq_some_iff.mp e
    cases o with
    | dt kvs =>
      cases e
      obtain ⟨b, eb, ⟨ws, hw, rw'⟩, _⟩ := S.own i _ _ (ownO_has e1)
      refine ⟨_, eb, b, ws, rfl, .inl hw, fun p bs hp ik => ?_⟩
      obtain ⟨S0, T0⟩ := S.frzT bs
      have n := New.obj S0.sub hp (.lst (bs.map V.ref))
      obtain ⟨S1, T1⟩ := S0.new n
      refine q _ _ _ S1 (T0.trans T1) ⟨p, rfl, ⟨_, upd_same, keysT_rp rw' ik bs fun _ h => h⟩, S0.sub.free hp, hp, fun z => ?_⟩
      obtain ⟨_, u, hu⟩ := S.ownF z
      rw [hp] at hu; cases hu
    | _ => cases e
end
end ET
set_option Elab.async false
set_option maxRecDepth 100000
/-! ET: what the printed derivations use. -/
namespace ET
open PySem PySem.Spec PyProof.Rows L2
section
variable {M : Md} {X : Cx}
theorem opo {e : Expr} {i : Nat} (h : PE X e (tVar i)) : Opd M X e (.o i) := h
theorem ope {e : Expr} {a : DE} (h : Ex M X e a) : Opd M X e (.e a) := h
end
def isFn : ScopeKind → Bool
  | .function => true
  | _ => false
def blkB (N : List Str) (sc scope : Scope) (own : List (Str × Nat)) : Bool :=
  isFn scope.kind && scope.names.all (fun y => decide (scope.names.lookup y.1 = some y.2)) && own.all (fun p => decide (N[p.2]? = some p.1)) &&
  scope.names.all (fun y => decide (y.2 = .free → sc.names.lookup y.1 = some .cell ∨ sc.names.lookup y.1 = some .free)) && scope.names.all (fun y => decide (y.2 = .local ∨ y.2 = .cell → y.1 ∈ own.map (·.1) ∨ y.1 ∉ N))
theorem blk_of {N : List Str} {sc scope : Scope} {own : List (Str × Nat)} (h : blkB N sc scope own = true) : BlkOk N sc scope own := by
  unfold blkB at h
  rw [Bool.and_eq_true, Bool.and_eq_true, Bool.and_eq_true, Bool.and_eq_true] at h
  obtain ⟨⟨⟨⟨h1, h2⟩, h3⟩, h4⟩, h5⟩ := h
  refine ⟨?_, fun y hy => ?_, fun y hy => ?_, fun y hy => ?_, fun y hy => ?_⟩
  · revert h1; cases scope.kind <;> intro h1 <;> first | rfl | cases h1
  · simpa using List.all_eq_true.mp h2 y hy
  · simpa using List.all_eq_true.mp h3 y hy
  · exact of_decide_eq_true (List.all_eq_true.mp h4 y hy)
  · exact of_decide_eq_true (List.all_eq_true.mp h5 y hy)
def scB (N P : List Str) (sc : Scope) : Bool := isFn sc.kind && !sc.isCoroutine && !sc.isGenerator && decide N.Nodup && decide (N.take P.length = P) && P.all (fun x => decide (sc.names.lookup x = some .local ∨ sc.names.lookup x = some .cell)) && sc.names.all fun y => decide (y.2 ≠ .free)
theorem sc_of {N P : List Str} {sc : Scope} (h : scB N P sc = true) : FnScope N P sc := by
  unfold scB at h
  rw [Bool.and_eq_true, Bool.and_eq_true, Bool.and_eq_true, Bool.and_eq_true, Bool.and_eq_true, Bool.and_eq_true] at h
  obtain ⟨⟨⟨⟨⟨⟨h1, h2⟩, h3⟩, h4⟩, h5⟩, h6⟩, h7⟩ := h
  refine ⟨?_, by simpa using h2, by simpa using h3, by simpa using h4, by simpa using h5, fun y hy => ?_, fun y hy => ?_⟩
  · revert h1; cases sc.kind <;> intro h1 <;> first | rfl | cases h1
  · simpa using List.all_eq_true.mp h6 y hy
  · simpa using List.all_eq_true.mp h7 y hy
end ET
set_option Elab.async false
set_option maxRecDepth 100000
/-! ET: +, *, slices by what stands there. -/
namespace ET
open PySem L2
def Imp2S (K : PySem.W.Frag) (r : R2) (f : D → D → Option Sl) : Prop :=
  ∀ (F H : Hp) (v w : V) (d e : D) (c : Sl) (Q : VK), Same F H → Bor K F H v d → Bor K F H w e → f d e = some c →
    (∀ z, c = .val z → ∀ u H' F', New F H F' H' → Rp K F' u z → Q u H') → (∀ ds io, c = .own (.lst ds) io → ∀ p vs, H p = none → RpAll K F vs ds → Q (.ref p) (upd H p (.lst vs))) → r v w H Q
def orF {α : Type} (f g : D → D → Option α) : D → D → Option α := fun d e => match f d e with
  | some c => some c
  | none => g d e
def vF (f : D → D → Option D) : D → D → Option Sl := fun d e => (f d e).map .val
def lF (f : D → D → Option (List D)) : D → D → Option Sl := fun d e => (f d e).map fun c => .own (.lst c) false
section
variable {K : PySem.W.Frag} {r r' : R2}
theorem imp_v {f : D → D → Option D} (i : Imp2 K r f) : Imp2S K r (vF f) := fun F H v w d e c Q s hv hw h q _ => by
  obtain ⟨z, e1, e2⟩ := Option.map_eq_some_iff.mp h
  exact i F H v w d e z Q s hv hw e1 (q z e2.symm)
theorem imp_l {f : D → D → Option (List D)} (i : Imp2L K r f) : Imp2S K r (lF f) := fun F H v w d e c Q s hv hw h _ q => by
  obtain ⟨z, e1, e2⟩ := Option.map_eq_some_iff.mp h
  exact i F H v w d e z Q s hv hw e1 (q z false e2.symm)
theorem imp_or {f g : D → D → Option Sl} (i : Imp2S K r f) (j : Imp2S K r' g) : Imp2S K (fun x y H Q => r x y H Q ∨ r' x y H Q) (orF f g) := fun F H v w d e c Q s hv hw h q q' => by
  unfold orF at h
  split at h
  · rename_i c' h'
    cases h
    exact .inl (i F H v w d e c Q s hv hw h' q q')
  · exact .inr (j F H v w d e c Q s hv hw h q q')
end
def s2S (f : D → D → Option Sl) (x y : DO) : SE := fun ρ => (x.ev ρ).bind fun a => (y.ev a.2).bind fun b => (x.fin a.1 b.2).bind fun u => (y.fin b.1 b.2).bind fun w => match f u w with
  | some (.val z) => some (.val z, b.2)
  | some (.own (.lst ds) _) => some (.own (.lst ds) false, b.2)
  | _ => none
section
variable {M : Md} {X : Cx} {a b : Expr} {x y : DO} {r : R2}
theorem r_s2S {f : D → D → Option Sl} (i : Imp2S M.K r f) : ∀ σ H Q, tSE M (s2S f x y) σ H Q → tOp r (tOpd M x) (tOpd M y) σ H Q := fun σ H Q ⟨ρ, F, d, ρ', S, e, q⟩ => by
  unfold s2S at e
  obtain ⟨⟨r1, ρ1⟩, e1, e⟩ := Option.bind_eq_some_iff.mp e
  obtain ⟨⟨r2, ρ2⟩, e2, e⟩ := Option.bind_eq_some_iff.mp e
  obtain ⟨u, e3, e⟩ := Option.bind_eq_some_iff.mp e
  obtain ⟨w, e4, e⟩ := Option.bind_eq_some_iff.mp e
  refine ⟨ρ, F, r1, ρ1, S, e1, fun v H1 F1 S1 T1 h1 => ⟨ρ1, F1, r2, ρ2, S1, e2, fun w' H2 F2 S2 T2 h2 => ?_⟩⟩
  split at e
  · rename_i z hz
    cases e
    refine i F2 H2 v w' u w _ Q S2.sub ((h1.mono T2.fr).bor S2 e3) (h2.bor S2 e4) hz (fun z' ez u' H3 F3 n rz => ?_) (fun ds io ez => by cases ez)
    cases ez
    obtain ⟨S3, T3⟩ := S2.new n
    exact q u' H3 F3 S3 ((T1.trans T2).trans T3) rz
  · rename_i ds io hz
    cases e
    refine i F2 H2 v w' u w _ Q S2.sub ((h1.mono T2.fr).bor S2 e3) (h2.bor S2 e4) hz (fun z' ez => by cases ez) (fun ds' io' ez p vs hp rz => ?_)
    cases ez
    have n := New.obj S2.sub hp (.lst vs)
    obtain ⟨S3, T3⟩ := S2.new n
    obtain ⟨f1, f2, f3⟩ := fresh_of S2 (T1.trans T2) hp
    exact q (.ref p) _ F2 S3 ((T1.trans T2).trans T3) ⟨p, rfl, ⟨vs, upd_same, rz⟩, f1, f2, f3⟩
  · cases e
theorem s_binS {op : Operator} {f : D → D → Option Sl} {pos} (i : Imp2S M.K r f) (ho : OpR X (binaryOp op) r) (ha : Opd M X a x) (hb : Opd M X b y) : Sx M X (.BinOp a op b pos) (s2S f x y) := (pe_op ho ha.run hb.run).imp (r_s2S i)
/-- a + b -/
def fAddS : D → D → Option Sl := orF (vF fAdd) (orF (vF fCatT) (lF fCatL))
theorem s_add {pos} (hK : X.K = M.K) (ha : Opd M X a x) (hb : Opd M X b y) : Sx M X (.BinOp a .Add b pos) (s2S fAddS x y) :=
  have hc : OpR X (binaryOp .Add) (rCatM M.K) := by rw [← hK]; exact op_catM
  s_binS (imp_or (imp_v (imp_int _)) (imp_or (imp_v imp_catT) (imp_l imp_catL))) (op_add.or (hc.or op_cat)) ha hb
/-- a * b -/
def fMulW : D → D → Option D
  | .int i, .int j => if i.natAbs.log2 + j.natAbs.log2 < 1000000 then some (.int (i * j)) else none
  | _, _ => none
theorem imp_mulW {K : PySem.W.Frag} : Imp2 K (rI CMulW fun i j => .int (i * j)) fMulW := fun F H v w d e c Q s hv hw h q => by
  cases d <;> cases e <;> first | cases h | skip
  dsimp only [fMulW] at h
  split at h
  · rename_i hc
    cases h
    refine ⟨_, _, rp_int hv, rp_int hw, hc, q _ H F (.refl s) ?_⟩
    unfold Rp; rfl
  · cases h
def fMulS : D → D → Option Sl := orF (vF fMul) (orF (vF fMulW) (orF (vF fRepT) (lF fRepL)))
theorem s_mul {pos} (hK : X.K = M.K) (ha : Opd M X a x) (hb : Opd M X b y) : Sx M X (.BinOp a .Mult b pos) (s2S fMulS x y) :=
  have hc : OpR X (binaryOp .Mult) (rRepT M.K) := by rw [← hK]; exact op_repT
  s_binS (imp_or (imp_v imp_mul) (imp_or (imp_v imp_mulW) (imp_or (imp_v imp_repT) (imp_l imp_repL)))) (op_mul.or (op_mulW.or (hc.or op_rep))) ha hb
theorem s_sub {pos} (ha : Opd M X a x) (hb : Opd M X b y) : Sx M X (.BinOp a .Sub b pos) (s2S (vF fSub) x y) := s_binS (imp_v (imp_int _)) op_sub ha hb
theorem s_mod {pos} (ha : Opd M X a x) (hb : Opd M X b y) : Sx M X (.BinOp a .Mod b pos) (s2S (vF fMod) x y) := s_binS (imp_v imp_mod) op_mod ha hb
theorem s_div {pos} (ha : Opd M X a x) (hb : Opd M X b y) : Sx M X (.BinOp a .FloorDiv b pos) (s2S (vF fDiv) x y) := s_binS (imp_v imp_div) op_fdiv ha hb
/-- x[lo:hi] -/
def fSlS (lo hi : Option Int) : D → Option Sl
  | .tup xs => some (.val (.tup (cutD xs lo hi)))
  | .lst xs => some (.own (.lst (cutD xs lo hi)) false)
  | .scr xs => some (.own (.lst (cutD xs lo hi)) false)
  | _ => none
def sSlS (x : DO) (lo hi : Option DE) : SE := fun ρ => (x.ev ρ).bind fun a => (bEv lo a.2).bind fun l => (bEv hi l.2).bind fun h => (x.fin a.1 h.2).bind fun u => (fSlS l.1 h.1 u).bind fun c => some (c, h.2)
theorem s_slS {l h : Option Expr} {lo hi : Option DE} {pos p2} (hK : X.K = M.K) (ha : Opd M X a x) (hl : Bd M X l lo) (hh : Bd M X h hi) : Sx M X (.Subscript a (.Slice l h none p2) pos) (sSlS x lo hi) :=
  (pe_slice (sl_tupM.or sl_list) ha.run hl hh).imp fun σ H Q ⟨ρ, F, d, ρ', S, e, q⟩ => by
    unfold sSlS at e
    obtain ⟨⟨r1, ρ1⟩, e1, e⟩ := Option.bind_eq_some_iff.mp e
    obtain ⟨⟨r2, ρ2⟩, e2, e⟩ := Option.bind_eq_some_iff.mp e
    obtain ⟨⟨r3, ρ3⟩, e3, e⟩ := Option.bind_eq_some_iff.mp e
    obtain ⟨u, e4, e⟩ := Option.bind_eq_some_iff.mp e
    obtain ⟨c, e5, e⟩ := Option.bind_eq_some_iff.mp e
    cases e
    refine ⟨ρ, F, r1, ρ1, S, e1, fun v H1 F1 S1 T1 h1 => ⟨ρ1, F1, r2, ρ2, S1, e2, fun H2 F2 S2 T2 => ⟨ρ2, F2, r3, ρ3, S2, e3, fun H3 F3 S3 T3 => ?_⟩⟩⟩
    have hb := ((h1.mono T2.fr).mono T3.fr).bor S3 e4
    have TT := (T1.trans T2).trans T3
    cases u <;> first | cases e5 | skip
    · rename_i xs
      refine .inl ?_
      have hv := hb.rp (fun ds q => by cases q)
      obtain ⟨b, vs, rfl, hs, rs⟩ := hb.tup S3.sub
      rw [hK]
      refine ⟨b, vs, rfl, hs, fun hw => ?_, fun _ => ?_⟩
      · rw [rs.length] at hw
        dsimp only at q
        rw [cut_whole hw] at q
        exact q _ H3 F3 S3 TT hv
      · refine (rs.cut r2 r3).mkT S3.sub fun u H4 F4 n r4 => ?_
        obtain ⟨S4, T4⟩ := S3.new n
        exact q u H4 F4 S4 (TT.trans T4) r4
    · refine .inr ?_
      obtain ⟨b, vs, rfl, hs, rs⟩ := hb.lst S3.sub
      refine ⟨b, vs, rfl, SqL.of hs, fun p hp => ?_⟩
      have n := New.obj S3.sub hp (.lst (cutV vs r2 r3))
      obtain ⟨S4, T4⟩ := S3.new n
      obtain ⟨f1, f2, f3⟩ := fresh_of S3 TT hp
      exact q (.ref p) _ F3 S4 (TT.trans T4) ⟨p, rfl, ⟨_, upd_same, rs.cut r2 r3⟩, f1, f2, f3⟩
    · refine .inr ?_
      obtain ⟨b, vs, rfl, hs, rs⟩ := hb.scr S3.sub
      refine ⟨b, vs, rfl, by rw [hK]; exact hs, fun p hp => ?_⟩
      have n := New.obj S3.sub hp (.lst (cutV vs r2 r3))
      obtain ⟨S4, T4⟩ := S3.new n
      obtain ⟨f1, f2, f3⟩ := fresh_of S3 TT hp
      exact q (.ref p) _ F3 S4 (TT.trans T4) ⟨p, rfl, ⟨_, upd_same, rs.cut r2 r3⟩, f1, f2, f3⟩
end
end ET
set_option Elab.async false
set_option maxRecDepth 100000
/-! ET: defs by their printed bodies. -/
namespace ET
open PySem L2
theorem ss_no {M : Md} {X : Cx} {body : List Stmt} : Ss M X body kNo := ⟨fun pins s σ H D I w => by obtain ⟨_, _, _, _, e, _⟩ := w; cases e⟩
section
variable {P : Program} {w : World} {K : PySem.W.Frag} {mg : Str → Option Value} {base : Heap}
theorem fn_known {x qual : Str} {params : Arguments} {body : List Stmt} {sc : Scope} {f : Addr} {fd : FuncData} {N ps : List Str} {k : Nat} {cls : Str → Addr} {b : DS} (F : FunD K x qual params body sc [] [] f fd) (hm : mg x = some (.ref f)) (S : FnScope N ps sc) (hp : ps.length ≤ N.length)
    (hB : ∀ (kV doc pm : Value) (an : Option Addr) (cdv ct : Value) (us : List Value), us.length = ps.length → bindArgs (PySem.W.fnOf x qual params body sc .none kV doc pm an cdv ct) ⟨us, []⟩ = pure (ps.zip us))
    (hb : ∀ (cdv : Value) (A : Around) (outer : List PySem.Env) (s : Shared) (H : Hp) (E : XK), Room k (A.deeper (PyProof.Rows.envOfC qual sc s.heap.objs.size f cdv)) → Ss ⟨K, cls⟩ (bodyX P w K mg base N qual sc f cdv A outer s H E) body b) :
    Known P w K mg base cls (k + 1) x (runF ps.length N.length b) :=
  ⟨f, fd, ps, hm, F.kp, F.bindsN hB, fn_ok F S hp hb⟩
end
section
variable {M : Md} {X : Cx} {pos : Pos} {a b : Expr} {i : Nat}
theorem t_ofPC {op : CmpOp} {t : TE} {u : DE} (h : PC X op a b t) (im : ∀ σ H Q, tD M u σ H Q → t σ H Q) (h1 : behindInMarks op b = false) : Te M X (.Compare a [op] [b] pos) (tOf u) :=
  (pt_cmp h h1).imp fun σ H Q q => im _ _ _ (tOf_tD q)
/-- x += y -/
def fAugA : D → D → Option D := fun d e => match fAdd d e with
  | some c => some c
  | none => fCatT d e
theorem imp_or1 {K : PySem.W.Frag} {r r' : R2} {f g : D → D → Option D} (i : Imp2 K r f) (j : Imp2 K r' g) : Imp2 K (fun x y H Q => r x y H Q ∨ r' x y H Q) (fun d e => match f d e with | some c => some c | none => g d e) := fun F H v w d e c Q s hv hw h q => by
  dsimp only at h
  split at h
  · rename_i c' h'
    cases h
    exact .inl (i F H v w d e _ Q s hv hw h' q)
  · exact .inr (j F H v w d e c Q s hv hw h q)
theorem PIp.or {op : Operator} {r r' : TIp} (h : PIp X op r) (h' : PIp X op r') : PIp X op (fun x y H Q => r x y H Q ∨ r' x y H Q) := by
  intro pins s σ H x y v u Q I rx ry q
  rcases q with q | q
  · exact h pins s σ H x y v u Q I rx ry q
  · exact h' pins s σ H x y v u Q I rx ry q
theorem imp_augA {K : PySem.W.Frag} : Imp2 K (fun x y H Q => ipI (fun i j => i + j) x y H Q ∨ rCatM K x y H Q) fAugA := by
  have h : Imp2 K (ipI fun i j => i + j) fAdd := fun F H v w d e c Q s hv hw h q => by
    cases d <;> cases e <;> first | cases h | skip
    refine ⟨_, _, rp_int hv, rp_int hw, q _ H F (.refl s) ?_⟩
    unfold Rp; rfl
  exact imp_or1 h imp_catT
theorem imp_augS {K : PySem.W.Frag} : Imp2 K (ipI fun i j => i - j) fSub := fun F H v w d e c Q s hv hw h q => by
    cases d <;> cases e <;> first | cases h | skip
    refine ⟨_, _, rp_int hv, rp_int hw, q _ H F (.refl s) ?_⟩
    unfold Rp; rfl
theorem ip_augA : PIp X .Add (fun x y H Q => ipI (fun i j => i + j) x y H Q ∨ rCatM X.K x y H Q) := PIp.or ip_add ip_catA
/-- a global that is an int -/
theorem x_gint {x : Str} {n : Int} {p : Pos} {t : Tok} (hg : Gl X x) (hm : X.mg x = some (.int n t)) (hd : (x == ("__debug__" : Str)) = false := by decide) : Ex M X (.Name x p) (dC (.int n)) :=
  x_con (v := .int n) (pe_glob hg hm (show RelV (.int n) (.int n t) from ⟨t, rfl⟩) hd) fun F => by unfold Rp; rfl
end
end ET
namespace ET
open PySem L2
/-- the built-in names are not hidden -/
structure Frees (mg : Str → Option Value) : Prop where
  len : mg "len" = none
  range : mg "range" = none
  tuple : mg "tuple" = none
  list : mg "list" = none
  sorted : mg "sorted" = none
  set : mg "set" = none
  isinstance : mg "isinstance" = none
  int : mg "int" = none
  str : mg "str" = none
  bool : mg "bool" = none
  sum : mg "sum" = none
  any : mg "any" = none
  all : mg "all" = none
  min : mg "min" = none
  max : mg "max" = none
  dict : mg "dict" = none
section
variable {M : Md} {X : Cx} {e : Expr} {es : List Expr} {r : List AE} {i : Nat}
theorem aa_nil : ArA M X [] [] := trivial
theorem aa_val {a : DE} (h : Ex M X e a) (t : ArA M X es r) (st : starEach (e :: es) X.env = (false, eval e X.env) :: starEach es X.env := by rfl) : ArA M X (e :: es) (.val a :: r) := ⟨h, st, t⟩
theorem aa_io (h : PE X e (tVar i)) (t : ArA M X es r) (st : starEach (e :: es) X.env = (false, eval e X.env) :: starEach es X.env := by rfl) : ArA M X (e :: es) (.io i :: r) := ⟨h, st, t⟩
theorem im_din {a : DE} : ∀ σ H Q, tD M (dDIn false i a) σ H Q → tDIn (tD M a) (tVar i) σ H Q := fun σ H Q ⟨ρ, F, d, ρ', S, e, q⟩ => by
  unfold dDIn at e
  obtain ⟨⟨x, ρ1⟩, e1, e⟩ := Option.bind_eq_some_iff.mp e
  obtain ⟨⟨o, io⟩, e2, e⟩ := Option.bind_eq_some_iff.mp e
  obtain ⟨r, e3, e⟩ := Option.bind_eq_some_iff.mp e
  cases e
  refine ⟨ρ, F, x, ρ1, S, e1, fun y H1 F1 S1 T1 r1 => ?_⟩
  obtain ⟨c, ec, qc, fc⟩ := S1.own i _ _ (ownO_has e2)
  obtain ⟨u, g, hu⟩ := dGet_at qc S1.sub r1 e3
  refine ⟨_, ec, c, u, rfl, g, q _ H1 F1 S1 T1 ?_⟩
  unfold Rp
  cases r with
  | none => rw [show u = none from hu]; rfl
  | some d => obtain ⟨v, hu, _⟩ := hu; rw [hu]; rfl
theorem im_dnotin {a : DE} : ∀ σ H Q, tD M (dDIn true i a) σ H Q → tDNotIn (tD M a) (tVar i) σ H Q := fun σ H Q ⟨ρ, F, d, ρ', S, e, q⟩ => by
  unfold dDIn at e
  obtain ⟨⟨x, ρ1⟩, e1, e⟩ := Option.bind_eq_some_iff.mp e
  obtain ⟨⟨o, io⟩, e2, e⟩ := Option.bind_eq_some_iff.mp e
  obtain ⟨r, e3, e⟩ := Option.bind_eq_some_iff.mp e
  cases e
  refine ⟨ρ, F, x, ρ1, S, e1, fun y H1 F1 S1 T1 r1 => ?_⟩
  obtain ⟨c, ec, qc, fc⟩ := S1.own i _ _ (ownO_has e2)
  obtain ⟨u, g, hu⟩ := dGet_at qc S1.sub r1 e3
  refine ⟨_, ec, c, u, rfl, g, q _ H1 F1 S1 T1 ?_⟩
  unfold Rp
  cases r with
  | none => rw [show u = none from hu]; rfl
  | some d => obtain ⟨v, hu, _⟩ := hu; rw [hu]; rfl
end
theorem _root_.L2.Room.units1 {k : Nat} {A : Around} (r : Room k A) : A.units + 1 < cLine := by have := r.un; omega
def dNegI (i : Int) : DE := dC (.int (-i))
theorem x_neg {M : Md} {X : Cx} {i : Int} {k : Nat} {p pos : Pos} : Ex M X (.UnaryOp .USub (.Constant (.int i) k p) pos) (dNegI i) := (pe_un un_neg pe_int).imp fun σ H Q ⟨ρ, F, d, ρ', S, e, q⟩ => by
  cases e
  exact ⟨i, rfl, q _ H F S .refl (by unfold Rp; rfl)⟩
end ET
set_option Elab.async false
set_option maxRecDepth 100000
/-! ET: what a law promises. -/
namespace ET
open PySem L2
/-- in plain words: the law's def answers True at each script -/
def LawTrue (f : FS) : Prop := ∀ ns : List Int, ns.length ≤ 63 → ∃ ys, f [.val (.scr (ns.map .int))] = some (.val (.bl true), ys)
def spLaw (K : PySem.W.Frag) : Sp := fun vs H Q _ => ∃ (a : Addr) (ns : List Int), vs = [.ref a] ∧ ns.length ≤ 63 ∧ SqL K H a (ns.map V.int) ∧ ∀ H', Q (.bl true) H'
theorem lawImp {K : PySem.W.Frag} {cls : Str → Addr} {f : FS} (h : LawTrue f) : ∀ vs H Q E, spLaw K vs H Q E → spF ⟨K, cls⟩ f vs H Q E := by
  rintro vs H Q E ⟨a, ns, rfl, hl, hS, q⟩
  obtain ⟨ys, e⟩ := h ns hl
  refine ⟨H, [.val (.scr (ns.map .int))], .val (.bl true), ys, Same.refl _, .cons ?_ .nil, ?_, e, fun v H' F' p => ?_⟩
  · show Rp K H (.ref a) (.scr (ns.map .int))
    unfold Rp
    exact ⟨a, _, rfl, hS, RpAll.of_ints ns⟩
  · intro i j o o' b h1 h2 e1 e2
    cases i with
    | zero => simp at h1
    | succ i => simp at h1
  · have r := p.res
    unfold Rp at r
    subst r
    exact q H'
end ET
set_option Elab.async false
set_option maxRecDepth 100000
namespace ET
open PySem L2
/-! ET: evaluation of meanings by simp. -/
def retF (xs : List Arg) : Res → Option (Sl × List Arg)
  | .rt s ρ => some (s.fix, outsOf xs ρ)
  | .nx ρ => some (.val .non, outsOf xs ρ)
  | _ => none
theorem runF_eq {p n : Nat} {b : DS} {xs : List Arg} (h : xs.length = p) : runF p n b xs = (b (envOf n xs)).bind (retF xs) := by
  unfold runF
  rw [if_pos h]
  rfl
@[simp] theorem kSeq_d (a b : DS) (ρ : Env) : kSeq a b ρ = (a ρ).bind fun r => match r with | .nx ρ' => b ρ' | r => some r := by
  rfl
@[simp] theorem kNil_d (ρ : Env) : kNil ρ = some (.nx ρ) := rfl
@[simp] theorem kSet_d (i : Nat) (s : SE) (ρ : Env) : kSet i s ρ = (s ρ).bind fun x => (setSl i x.1 x.2).bind fun ρ' => some (.nx ρ') := rfl
@[simp] theorem kRet_d (s : SE) (ρ : Env) : kRet s ρ = (s ρ).bind fun x => some (.rt x.1 x.2) := rfl
@[simp] theorem kIf_d (c : DT) (a b : DS) (ρ : Env) : kIf c a b ρ = (c ρ).bind fun x => if x.1 = true then a x.2 else b x.2 := rfl
@[simp] theorem sVal_d (a : DE) (ρ : Env) : sVal a ρ = (a ρ).map fun x => (.val x.1, x.2) := rfl
@[simp] theorem dC_d (d : D) (ρ : Env) : dC d ρ = some (d, ρ) := rfl
@[simp] theorem dNegI_d (i : Int) (ρ : Env) : dNegI i ρ = some (.int (-i), ρ) := rfl
def dvS (i : Nat) (ρ : Env) : Option (Option Sl) → Option (D × Env)
  | some (some (.val d)) => some (d, ρ)
  | some (some (.own (.lst ds) false)) => some (.lst ds, ρ.set i (some (.val (.lst ds))))
  | _ => none
@[simp] theorem dvS_v (i : Nat) (ρ : Env) (d : D) : dvS i ρ (some (some (.val d))) = some (d, ρ) := rfl
@[simp] theorem dvS_o (i : Nat) (ρ : Env) (ds : List D) : dvS i ρ (some (some (.own (.lst ds) false))) = some (.lst ds, ρ.set i (some (.val (.lst ds)))) := rfl
@[simp] theorem dV_d (i : Nat) (ρ : Env) : dV i ρ = dvS i ρ ρ[i]? := rfl
def evS (ρ : Env) : Option (Option Sl) → Option (Option D × Env)
  | some (some (.own (.lst _) _)) => some (none, ρ)
  | some (some (.val _)) => some (none, ρ)
  | _ => none
@[simp] theorem evS_o (ρ : Env) (ds : List D) (io : Bool) : evS ρ (some (some (.own (.lst ds) io))) = some (none, ρ) := rfl
@[simp] theorem evS_v (ρ : Env) (d : D) : evS ρ (some (some (.val d))) = some (none, ρ) := rfl
@[simp] theorem ev_o (i : Nat) (ρ : Env) : (DO.o i).ev ρ = evS ρ ρ[i]? := rfl
def finS : Option (Option Sl) → Option D
  | some (some (.own (.lst ds) _)) => some (.lst ds)
  | some (some (.val d)) => some d
  | _ => none
@[simp] theorem finS_o (ds : List D) (io : Bool) : finS (some (some (.own (.lst ds) io))) = some (.lst ds) := rfl
@[simp] theorem finS_v (d : D) : finS (some (some (.val d))) = some d := rfl
@[simp] theorem fin_o (i : Nat) (r : Option D) (ρ : Env) : (DO.o i).fin r ρ = finS ρ[i]? := rfl
@[simp] theorem ev_e (a : DE) (ρ : Env) : (DO.e a).ev ρ = (a ρ).bind fun x => some (some x.1, x.2) := rfl
@[simp] theorem fin_e (a : DE) (r : Option D) (ρ : Env) : (DO.e a).fin r ρ = r := rfl
@[simp] theorem d2_d (f : D → D → Option D) (x y : DO) (ρ : Env) : d2 f x y ρ = (x.ev ρ).bind fun a => (y.ev a.2).bind fun b => (x.fin a.1 b.2).bind fun u => (y.fin b.1 b.2).bind fun w => (f u w).bind fun c => some (c, b.2) := rfl
@[simp] theorem d1_d (f : D → Option D) (x : DO) (ρ : Env) : d1 f x ρ = (x.ev ρ).bind fun a => (x.fin a.1 a.2).bind fun u => (f u).bind fun c => some (c, a.2) := rfl
@[simp] theorem s1_d (f : D → Option (List D)) (x : DO) (ρ : Env) : s1 f x ρ = (x.ev ρ).bind fun a => (x.fin a.1 a.2).bind fun u => (f u).bind fun c => some (.own (.lst c) false, a.2) := rfl
def stS (r : Option Sl) (ρ : Env) : Option (Sl × Env) := match r with
  | some (.val z) => some (.val z, ρ)
  | some (.own (.lst ds) _) => some (.own (.lst ds) false, ρ)
  | _ => none
@[simp] theorem stS_v (z : D) (ρ : Env) : stS (some (.val z)) ρ = some (.val z, ρ) := rfl
@[simp] theorem stS_l (z : List D) (io : Bool) (ρ : Env) : stS (some (.own (.lst z) io)) ρ = some (.own (.lst z) false, ρ) := rfl
@[simp] theorem s2S_d (f : D → D → Option Sl) (x y : DO) (ρ : Env) : s2S f x y ρ = (x.ev ρ).bind fun a => (y.ev a.2).bind fun b => (x.fin a.1 b.2).bind fun u => (y.fin b.1 b.2).bind fun w => stS (f u w) b.2 := by
  rfl
def frzS : Sl × Env → Option (D × Env)
  | (.val d, ρ) => some (d, ρ)
  | (.own (.lst ds) _, ρ) => some (.lst ds, ρ)
  | _ => none
@[simp] theorem frzS_v (d : D) (ρ : Env) : frzS (.val d, ρ) = some (d, ρ) := rfl
@[simp] theorem frzS_l (ds : List D) (io : Bool) (ρ : Env) : frzS (.own (.lst ds) io, ρ) = some (.lst ds, ρ) := rfl
@[simp] theorem dFrz_d (a : SE) (ρ : Env) : dFrz a ρ = (a ρ).bind frzS := by
  unfold dFrz
  congr 1; funext x
  obtain ⟨s, ρ'⟩ := x
  cases s with
  | val d => rfl
  | own o io => cases o <;> rfl
def tofS : D × Env → Option (Bool × Env)
  | (.bl b, ρ) => some (b, ρ)
  | _ => none
@[simp] theorem tofS_b (b : Bool) (ρ : Env) : tofS (.bl b, ρ) = some (b, ρ) := rfl
@[simp] theorem tOf_d (a : DE) (ρ : Env) : tOf a ρ = (a ρ).bind tofS := by
  unfold tOf
  congr 1; funext x
  obtain ⟨d, ρ'⟩ := x
  cases d <;> rfl
@[simp] theorem tAndD_d (a b : DT) (ρ : Env) : tAndD a b ρ = (a ρ).bind fun x => if x.1 = true then b x.2 else some (false, x.2) := rfl
@[simp] theorem tOrD_d (a b : DT) (ρ : Env) : tOrD a b ρ = (a ρ).bind fun x => if x.1 = true then some (true, x.2) else b x.2 := rfl
@[simp] theorem tNotD_d (a : DT) (ρ : Env) : tNotD a ρ = (a ρ).bind fun x => some (!x.1, x.2) := rfl
@[simp] theorem tYesD_d (ρ : Env) : tYesD ρ = some (true, ρ) := rfl
@[simp] theorem dIf_d (c : DT) (a b : DE) (ρ : Env) : dIf c a b ρ = (c ρ).bind fun x => if x.1 = true then a x.2 else b x.2 := rfl
@[simp] theorem dNil_d (ρ : Env) : dNil ρ = some ([], ρ) := rfl
@[simp] theorem dCons_d (a : DE) (r : DA) (ρ : Env) : dCons a r ρ = (a ρ).bind fun x => (r x.2).bind fun y => some (x.1 :: y.1, y.2) := rfl
@[simp] theorem dTup_d (a : DA) (ρ : Env) : dTup a ρ = (a ρ).bind fun x => if x.1.length ≤ sizeLine then some (.tup x.1, x.2) else none := rfl
@[simp] theorem sLst_d (a : DA) (ρ : Env) : sLst a ρ = (a ρ).bind fun x => if x.1.length ≤ sizeLine then some (.own (.lst x.1) false, x.2) else none := rfl
def setS (i : Nat) (s : Sl) (ρ : Env) : Option (Option Sl) → Option Env
  | none => none
  | some (some (.own _ true)) => none
  | some _ => some (ρ.set i (some s.fix))
@[simp] theorem setS_n (i : Nat) (s : Sl) (ρ : Env) : setS i s ρ (some none) = some (ρ.set i (some s.fix)) := rfl
@[simp] theorem setS_v (i : Nat) (s : Sl) (ρ : Env) (d : D) : setS i s ρ (some (some (.val d))) = some (ρ.set i (some s.fix)) := rfl
@[simp] theorem setS_o (i : Nat) (s : Sl) (ρ : Env) (o : Own) : setS i s ρ (some (some (.own o false))) = some (ρ.set i (some s.fix)) := rfl
@[simp] theorem setSl_d (i : Nat) (s : Sl) (ρ : Env) : setSl i s ρ = setS i s ρ ρ[i]? := rfl
@[simp] theorem fix_v (d : D) : (Sl.val d).fix = .val d := rfl
@[simp] theorem fix_o (o : Own) (io : Bool) : (Sl.own o io).fix = .own o false := rfl
@[simp] theorem fAddS_i (a b : Int) : fAddS (.int a) (.int b) = some (.val (.int (a + b))) := rfl
@[simp] theorem fAddS_l (a b : List D) : fAddS (.lst a) (.lst b) = if a.length + b.length ≤ sizeLine then some (.own (.lst (a ++ b)) false) else none := by
  unfold fAddS orF vF lF fCatL
  simp only [fAdd, fInt2, fCatT, Option.map_none]
  split <;> rfl
@[simp] theorem fAddS_t (a b : List D) : fAddS (.tup a) (.tup b) = if a.length + b.length ≤ sizeLine then some (.val (.tup (a ++ b))) else none := by
  unfold fAddS orF vF lF
  simp only [fAdd, fInt2, fCatT, fCatL, Option.map_none]
  split <;> simp_all
@[simp] theorem fSub_i (a b : Int) : fSub (.int a) (.int b) = some (.int (a - b)) := rfl
@[simp] theorem fMod_i (a b : Int) : fMod (.int a) (.int b) = if 0 < b then some (.int (a % b)) else none := rfl
@[simp] theorem fDiv_i (a b : Int) : fDiv (.int a) (.int b) = if 0 < b ∧ b < 1073741824 then some (.int (a / b)) else none := rfl
@[simp] theorem vF_d (f : D → D → Option D) (a b : D) : vF f a b = (f a b).map .val := rfl
theorem fMulS_i {a b : Int} (h : -(2 ^ 64) < b ∧ b < 2 ^ 64) : fMulS (.int a) (.int b) = some (.val (.int (a * b))) := by
  unfold fMulS orF vF fMul
  simp only [if_pos (Or.inr h : (-(2 ^ 64) < a ∧ a < 2 ^ 64) ∨ (-(2 ^ 64) < b ∧ b < 2 ^ 64)), Option.map_some]
@[simp] theorem fIntOf_i (a : Int) : fIntOf (.int a) = some (.int a) := rfl
@[simp] theorem fLt_i (a b : Int) : fLt (.int a) (.int b) = some (.bl (decide (a < b))) := rfl
@[simp] theorem fLe_i (a b : Int) : fLe (.int a) (.int b) = some (.bl (decide (a ≤ b))) := rfl
@[simp] theorem fGt_i (a b : Int) : fGt (.int a) (.int b) = some (.bl (decide (b < a))) := rfl
@[simp] theorem fGe_i (a b : Int) : fGe (.int a) (.int b) = some (.bl (decide (b ≤ a))) := rfl
@[simp] theorem fIx_l (a : List D) (i : Int) : fIx (.lst a) (.int i) = atI a i := rfl
@[simp] theorem fIx_t (a : List D) (i : Int) : fIx (.tup a) (.int i) = atI a i := rfl
@[simp] theorem atI_nat {α : Type} (xs : List α) (i : Nat) : atI xs (i : Int) = xs[i]? := by
  unfold atI ixN
  rw [if_pos (Int.natCast_nonneg i)]
  by_cases h : i < xs.length
  · rw [if_pos (by omega)]; simp
  · rw [if_neg (by omega), Option.bind_none, List.getElem?_eq_none (by omega)]
@[simp] theorem atI_0 {α : Type} (xs : List α) : atI xs 0 = xs[0]? := atI_nat xs 0
theorem atI_lit {α : Type} (xs : List α) (i : Nat) : atI xs (OfNat.ofNat i : Int) = xs[i]? := atI_nat xs i
@[simp] theorem atI_1 {α : Type} (xs : List α) : atI xs 1 = xs[1]? := atI_nat xs 1
@[simp] theorem atI_2 {α : Type} (xs : List α) : atI xs 2 = xs[2]? := atI_nat xs 2
@[simp] theorem atI_3 {α : Type} (xs : List α) : atI xs 3 = xs[3]? := atI_nat xs 3
@[simp] theorem atI_4 {α : Type} (xs : List α) : atI xs 4 = xs[4]? := atI_nat xs 4
@[simp] theorem fLen_l (a : List D) : fLen (.lst a) = some (.int a.length) := rfl
@[simp] theorem fLen_t (a : List D) : fLen (.tup a) = some (.int a.length) := rfl
@[simp] theorem ixN_0 (n : Nat) : ixN n 0 = if 0 < n then some 0 else none := by unfold ixN; simp
theorem ixN_lit (n i : Nat) : ixN n (i : Int) = if i < n then some i else none := by unfold ixN; simp
@[simp] theorem ixN_1 (n : Nat) : ixN n 1 = if 1 < n then some 1 else none := ixN_lit n 1
@[simp] theorem ixN_2 (n : Nat) : ixN n 2 = if 2 < n then some 2 else none := ixN_lit n 2
@[simp] theorem ixN_3 (n : Nat) : ixN n 3 = if 3 < n then some 3 else none := ixN_lit n 3
def ownS : Option (Option Sl) → Option (List D × Bool)
  | some (some (.own (.lst ds) io)) => some (ds, io)
  | _ => none
@[simp] theorem ownS_d (ds : List D) (io : Bool) : ownS (some (some (.own (.lst ds) io))) = some (ds, io) := rfl
@[simp] theorem ownL_d (i : Nat) (ρ : Env) : ownL i ρ = ownS ρ[i]? := rfl
@[simp] theorem lstAt_d (i : Nat) (ρ : Env) : lstAt i ρ = (ownS ρ[i]?).isSome := rfl
@[simp] theorem callS_d (f : FS) (as : List AE) (ρ : Env) : callS f as ρ = (evA as ρ).bind fun x => (finA as x.1 x.2).bind fun xs => if (ios as).Nodup then (f xs).bind fun r => some (r.1, putA as r.2 x.2) else none := rfl
@[simp] theorem evA_nil (ρ : Env) : evA [] ρ = some ([], ρ) := rfl
@[simp] theorem evA_val (a : DE) (r : List AE) (ρ : Env) : evA (.val a :: r) ρ = (a ρ).bind fun x => (evA r x.2).bind fun y => some (some x.1 :: y.1, y.2) := rfl
def evIoS (r : List AE) (ρ : Env) : Option (Option Sl) → Option (List (Option D) × Env)
  | some (some (.own _ _)) => (evA r ρ).bind fun y => some (none :: y.1, y.2)
  | _ => none
@[simp] theorem evIoS_d (r : List AE) (ρ : Env) (o : Own) (io : Bool) : evIoS r ρ (some (some (.own o io))) = (evA r ρ).bind fun y => some (none :: y.1, y.2) := rfl
@[simp] theorem evA_io (i : Nat) (r : List AE) (ρ : Env) : evA (.io i :: r) ρ = evIoS r ρ ρ[i]? := rfl
@[simp] theorem finA_nil (ρ : Env) : finA [] [] ρ = some [] := rfl
@[simp] theorem finA_val (a : DE) (r : List AE) (d : D) (ds : List (Option D)) (ρ : Env) : finA (.val a :: r) (some d :: ds) ρ = (finA r ds ρ).map (.val d :: ·) := rfl
def finIoS (r : List AE) (ds : List (Option D)) (ρ : Env) : Option (Option Sl) → Option (List Arg)
  | some (some (.own o _)) => (finA r ds ρ).map (.io o :: ·)
  | _ => none
@[simp] theorem finIoS_d (r : List AE) (ds : List (Option D)) (ρ : Env) (o : Own) (io : Bool) : finIoS r ds ρ (some (some (.own o io))) = (finA r ds ρ).map (.io o :: ·) := rfl
@[simp] theorem finA_ioS (i : Nat) (r : List AE) (ds : List (Option D)) (ρ : Env) : finA (.io i :: r) (none :: ds) ρ = finIoS r ds ρ ρ[i]? := rfl
@[simp] theorem ios_nil : ios [] = [] := rfl
@[simp] theorem ios_val (a : DE) (r : List AE) : ios (.val a :: r) = ios r := rfl
@[simp] theorem ios_io (i : Nat) (r : List AE) : ios (.io i :: r) = i :: ios r := rfl
@[simp] theorem putA_nil (ys : List Arg) (ρ : Env) : putA [] ys ρ = ρ := by cases ys <;> rfl
@[simp] theorem putA_val (a : DE) (r : List AE) (y : Arg) (ys : List Arg) (ρ : Env) : putA (.val a :: r) (y :: ys) ρ = putA r ys ρ := by cases y <;> rfl
@[simp] theorem putA_io (i : Nat) (r : List AE) (o : Own) (ys : List Arg) (ρ : Env) : putA (.io i :: r) (.io o :: ys) ρ = putA r ys (setOwn i o ρ) := rfl
def soS (i : Nat) (o : Own) (ρ : Env) : Option (Option Sl) → Env
  | some (some (.own _ io)) => ρ.set i (some (.own o io))
  | _ => ρ
@[simp] theorem soS_d (i : Nat) (o p : Own) (ρ : Env) (io : Bool) : soS i o ρ (some (some (.own p io))) = ρ.set i (some (.own o io)) := rfl
@[simp] theorem setOwn_d (i : Nat) (o : Own) (ρ : Env) : setOwn i o ρ = soS i o ρ ρ[i]? := rfl
@[simp] theorem outsOf_nil (ρ : Env) : outsOf [] ρ = [] := by unfold outsOf; rfl
@[simp] theorem outsOf_val (d : D) (r : List Arg) (x : Option Sl) (ρ : Env) : outsOf (.val d :: r) (x :: ρ) = .val d :: outsOf r ρ := rfl
@[simp] theorem outsOf_io (o p : Own) (io : Bool) (r : List Arg) (ρ : Env) : outsOf (.io o :: r) (some (.own p io) :: ρ) = .io p :: outsOf r ρ := rfl
@[simp] theorem retF_rt (xs : List Arg) (s : Sl) (ρ : Env) : retF xs (.rt s ρ) = some (s.fix, outsOf xs ρ) := rfl
@[simp] theorem retF_nx (xs : List Arg) (ρ : Env) : retF xs (.nx ρ) = some (.val .non, outsOf xs ρ) := rfl
def putS (i : Nat) (x : D) : D × Env → Option Res
  | (.int k, ρ) => (ownL i ρ).bind fun l => (ixN l.1.length k).bind fun j => some (.nx (ρ.set i (some (.own (.lst (l.1.set j x)) l.2))))
  | _ => none
@[simp] theorem putS_i (i : Nat) (x : D) (k : Int) (ρ : Env) : putS i x (.int k, ρ) = (ownL i ρ).bind fun l => (ixN l.1.length k).bind fun j => some (.nx (ρ.set i (some (.own (.lst (l.1.set j x)) l.2)))) := rfl
@[simp] theorem kPut_d (i : Nat) (a ix : DE) (ρ : Env) : kPut i a ix ρ = (a ρ).bind fun x => if lstAt i x.2 = true then (ix x.2).bind (putS i x.1) else none := by
  unfold kPut
  congr 1; funext x
  congr 1
  congr 1; funext y
  obtain ⟨d, ρ'⟩ := y
  cases d <;> rfl
theorem sz : sizeLine = 16777216 := by decide
end ET
set_option Elab.async false
set_option maxRecDepth 100000
/-! ET: equality, depth, loops and comprehensions, for plain proofs. -/
namespace ET
open PySem L2
/-! ### equality of data -/
mutual
/-- no bools, no script -/
def cln : D → Bool
  | .bl _ => false
  | .scr _ => false
  | .tup xs => clns xs
  | .lst xs => clns xs
  | _ => true
def clns : List D → Bool
  | [] => true
  | d :: ds => cln d && clns ds
end
theorem Tag.s_inj : ∀ a b : Tag, a.s = b.s → a = b := by
  intro a b
  cases a <;> cases b <;> first | (intro _; rfl) | (intro h; exact absurd h (by decide +kernel))
def peqs (a b : List D) : Bool := PyData.eqvAll (D.pys a) (D.pys b)
@[simp] theorem peq_int (a b : Int) : peq (.int a) (.int b) = (a == b) := by unfold peq; simp only [D.py, PyData.eqv]
@[simp] theorem peq_tup (a b : List D) : peq (.tup a) (.tup b) = peqs a b := by unfold peq peqs; simp only [D.py, PyData.eqv]
@[simp] theorem peq_lst (a b : List D) : peq (.lst a) (.lst b) = peqs a b := by unfold peq peqs; simp only [D.py, PyData.eqv]
@[simp] theorem peq_non : peq .non .non = true := by unfold peq; simp only [D.py, PyData.eqv]
@[simp] theorem peqs_nil : peqs [] [] = true := by unfold peqs; simp only [D.pys, PyData.eqvAll]
@[simp] theorem peqs_cons (a b : D) (as bs : List D) : peqs (a :: as) (b :: bs) = (peq a b && peqs as bs) := by unfold peqs peq; simp only [D.pys, PyData.eqvAll]
@[simp] theorem peqs_nc (b : D) (bs : List D) : peqs [] (b :: bs) = false := by unfold peqs; simp only [D.pys, PyData.eqvAll]
@[simp] theorem peqs_cn (a : D) (as : List D) : peqs (a :: as) [] = false := by unfold peqs; simp only [D.pys, PyData.eqvAll]
@[simp] theorem peq_str (a b : Tag) : peq (.str a) (.str b) = decide (a = b) := by
  unfold peq
  simp only [D.py, PyData.eqv]
  by_cases h : a = b
  · subst h; simp
  · rw [decide_eq_false h]
    have : a.s ≠ b.s := fun q => h (Tag.s_inj a b q)
    simpa using this
@[simp] theorem peq_nt (a : List D) : peq .non (.tup a) = false := by unfold peq; simp only [D.py, PyData.eqv]
@[simp] theorem peq_tn (a : List D) : peq (.tup a) .non = false := by unfold peq; simp only [D.py, PyData.eqv]
@[simp] theorem peq_ni (a : Int) : peq .non (.int a) = false := by unfold peq; simp only [D.py, PyData.eqv]
@[simp] theorem peq_in (a : Int) : peq (.int a) .non = false := by unfold peq; simp only [D.py, PyData.eqv]
@[simp] theorem peq_is (a : Int) (b : Tag) : peq (.int a) (.str b) = false := by unfold peq; simp only [D.py, PyData.eqv]
@[simp] theorem peq_si (a : Int) (b : Tag) : peq (.str b) (.int a) = false := by unfold peq; simp only [D.py, PyData.eqv]
@[simp] theorem peq_it (a : Int) (b : List D) : peq (.int a) (.tup b) = false := by unfold peq; simp only [D.py, PyData.eqv]
@[simp] theorem peq_ti (a : Int) (b : List D) : peq (.tup b) (.int a) = false := by unfold peq; simp only [D.py, PyData.eqv]
@[simp] theorem peq_st (a : Tag) (b : List D) : peq (.str a) (.tup b) = false := by unfold peq; simp only [D.py, PyData.eqv]
@[simp] theorem peq_ts (a : Tag) (b : List D) : peq (.tup b) (.str a) = false := by unfold peq; simp only [D.py, PyData.eqv]
mutual
theorem peq_iff : ∀ (a b : D), cln a = true → cln b = true → (peq a b = true ↔ a = b)
  | .non, b, _, hb => by cases b <;> simp [cln, peq, D.py, PyData.eqv] at *
  | .bl _, _, h, _ => by simp [cln] at h
  | .scr _, _, h, _ => by simp [cln] at h
  | .int i, b, _, hb => by cases b <;> simp [cln, peq, D.py, PyData.eqv] at *
  | .str i, b, _, hb => by
    cases b with
    | str t => simp
    | _ => simp [cln, peq, D.py, PyData.eqv] at *
  | .tup xs, b, ha, hb => by
    cases b with
    | tup ys =>
      rw [peq_tup, peqs_iff xs ys (by simpa [cln] using ha) (by simpa [cln] using hb)]
      simp
    | _ => simp [cln, peq, D.py, PyData.eqv] at *
  | .lst xs, b, ha, hb => by
    cases b with
    | lst ys =>
      rw [peq_lst, peqs_iff xs ys (by simpa [cln] using ha) (by simpa [cln] using hb)]
      simp
    | _ => simp [cln, peq, D.py, PyData.eqv] at *
theorem peqs_iff : ∀ (a b : List D), clns a = true → clns b = true → (peqs a b = true ↔ a = b)
  | [], [], _, _ => by simp
  | [], _ :: _, _, _ => by simp
  | _ :: _, [], _, _ => by simp
  | x :: xs, y :: ys, ha, hb => by
    simp only [clns, Bool.and_eq_true] at ha hb
    rw [peqs_cons, Bool.and_eq_true, peq_iff x y ha.1 hb.1, peqs_iff xs ys ha.2 hb.2]
    simp
end
/-! ### depth -/
def deps (ds : List D) : Nat := PyData.depthAll (D.pys ds)
@[simp] theorem dep_int (i : Int) : dep (.int i) = 0 := by unfold dep; simp only [D.py, PyData.depth]
@[simp] theorem dep_non : dep .non = 0 := by unfold dep; simp only [D.py, PyData.depth]
@[simp] theorem dep_str (t : Tag) : dep (.str t) = 0 := by unfold dep; simp only [D.py, PyData.depth]
@[simp] theorem dep_bl (t : Bool) : dep (.bl t) = 0 := by unfold dep; simp only [D.py, PyData.depth]
@[simp] theorem dep_tup (ds : List D) : dep (.tup ds) = deps ds + 1 := by unfold dep deps; simp only [D.py, PyData.depth]
@[simp] theorem dep_lst (ds : List D) : dep (.lst ds) = deps ds + 1 := by unfold dep deps; simp only [D.py, PyData.depth]
@[simp] theorem deps_nil : deps [] = 0 := by unfold deps; simp only [D.pys, PyData.depthAll]
@[simp] theorem deps_cons (d : D) (ds : List D) : deps (d :: ds) = max (dep d) (deps ds) := by unfold deps dep; simp only [D.pys, PyData.depthAll]
theorem deps_le {ds : List D} {n : Nat} : deps ds ≤ n ↔ ∀ d ∈ ds, dep d ≤ n := by
  induction ds with
  | nil => simp
  | cons d ds ih => rw [deps_cons, Nat.max_le, ih]; simp
theorem fEq_d {a b : D} (h : dep a ≤ deepest ∨ dep b ≤ deepest) : fEq a b = some (.bl (peq a b)) := by unfold fEq; rw [if_pos (by omega)]
theorem fNe_d {a b : D} (h : dep a ≤ deepest ∨ dep b ≤ deepest) : fNe a b = some (.bl (!peq a b)) := by unfold fNe; rw [if_pos (by omega)]
@[simp] theorem fEq_i (a b : Int) : fEq (.int a) (.int b) = some (.bl (a == b)) := by rw [fEq_d (by simp)]; simp
@[simp] theorem fNe_i (a b : Int) : fNe (.int a) (.int b) = some (.bl (a != b)) := by rw [fNe_d (by simp)]; simp [bne]
@[simp] theorem fEq_s (a b : Tag) : fEq (.str a) (.str b) = some (.bl (decide (a = b))) := by rw [fEq_d (by simp)]; simp
@[simp] theorem fNe_s (a b : Tag) : fNe (.str a) (.str b) = some (.bl (!decide (a = b))) := by rw [fNe_d (by simp)]; simp
@[simp] theorem fNe_lnil (ds : List D) : fNe (.lst ds) (.lst []) = some (.bl (!ds.isEmpty)) := by rw [fNe_d (.inr (by simp [deepest]))]; cases ds <;> simp
@[simp] theorem fEq_lnil (ds : List D) : fEq (.lst ds) (.lst []) = some (.bl ds.isEmpty) := by rw [fEq_d (.inr (by simp [deepest]))]; cases ds <;> simp
@[simp] theorem fNe_tnil (ds : List D) : fNe (.tup ds) (.tup []) = some (.bl (!ds.isEmpty)) := by rw [fNe_d (.inr (by simp [deepest]))]; cases ds <;> simp
@[simp] theorem fEq_tnil (ds : List D) : fEq (.tup ds) (.tup []) = some (.bl ds.isEmpty) := by rw [fEq_d (.inr (by simp [deepest]))]; cases ds <;> simp
theorem fIn_l {neg : Bool} {a : D} {xs : List D} (h : dep a ≤ deepest ∨ deps xs ≤ deepest) : fIn neg a (.lst xs) = some (.bl ((xs.any fun z => peq z a) != neg)) := by
  unfold fIn itemsOf
  rw [Option.bind_some, if_pos (by unfold deps at h; omega)]
theorem fIn_t {neg : Bool} {a : D} {xs : List D} (h : dep a ≤ deepest ∨ deps xs ≤ deepest) : fIn neg a (.tup xs) = some (.bl ((xs.any fun z => peq z a) != neg)) := by
  unfold fIn itemsOf
  rw [Option.bind_some, if_pos (by unfold deps at h; omega)]
theorem fIn_li {neg : Bool} (i : Int) (ns : List Int) : fIn neg (.int i) (.lst (ns.map .int)) = some (.bl (decide (i ∈ ns) != neg)) := by
  rw [fIn_l (by simp)]
  congr 3
  rw [List.any_map]
  induction ns with
  | nil => simp
  | cons n ns ih =>
    rw [List.any_cons, ih]
    by_cases e : i = n
    · subst e; simp
    · have e2 : ¬ n = i := fun q => e q.symm
      simp [e, e2]
theorem fIn_ti {neg : Bool} (i : Int) (ns : List Int) : fIn neg (.int i) (.tup (ns.map .int)) = some (.bl (decide (i ∈ ns) != neg)) := by
  have := fIn_li (neg := neg) i ns
  rw [fIn_l (by simp)] at this
  rw [fIn_t (by simp)]
  exact this
@[simp] theorem itemsOf_l (ds : List D) : itemsOf (.lst ds) = some ds := rfl
@[simp] theorem itemsOf_t (ds : List D) : itemsOf (.tup ds) = some ds := rfl
@[simp] theorem itemsOf_s (ds : List D) : itemsOf (.scr ds) = some ds := rfl
@[simp] theorem fListOf_d (d : D) : fListOf d = itemsOf d := rfl
@[simp] theorem fTupOf_d (d : D) : fTupOf d = (itemsOf d).map .tup := rfl
@[simp] theorem iVal_d (a : DE) (ρ : Env) : iVal a ρ = (a ρ).bind fun x => (itemsOf x.1).bind fun xs => some (xs, x.2) := rfl
@[simp] theorem fIsN_d (a : D) : fIsN a .non = some (.bl (isNon a)) := rfl
@[simp] theorem fNotN_d (a : D) : fNotN a .non = some (.bl (!isNon a)) := rfl
@[simp] theorem isNon_n : isNon .non = true := rfl
@[simp] theorem isNon_t (a : List D) : isNon (.tup a) = false := rfl
@[simp] theorem isNon_i (a : Int) : isNon (.int a) = false := rfl
/-! ### targets -/
@[simp] theorem gN_d (i : Nat) (d : D) (ρ : Env) : gN i d ρ = setSl i (.val d) ρ := rfl
@[simp] theorem gTp_d (gs : GEs) (ds : List D) (ρ : Env) : gTp gs (.tup ds) ρ = gs ds ρ := rfl
@[simp] theorem gsNil_d (ρ : Env) : gsNil [] ρ = some ρ := rfl
@[simp] theorem gsCons_d (g : GE) (gs : GEs) (d : D) (r : List D) (ρ : Env) : gsCons g gs (d :: r) ρ = (g d ρ).bind fun ρ' => gs r ρ' := rfl
@[simp] theorem kAsg_d (a : DE) (g : GE) (ρ : Env) : kAsg a g ρ = (a ρ).bind fun x => (g x.1 x.2).bind fun ρ' => some (.nx ρ') := rfl
def appT (i : Nat) (d : D) (ρ : Env) : Option (List D × Bool) → Option Res
  | some (ds, io) => if ds.length < sizeLine then some (.nx (ρ.set i (some (.own (.lst (ds ++ [d])) io)))) else none
  | none => none
theorem appT_d (i : Nat) (d : D) (ρ : Env) (ds : List D) (io : Bool) (h : ds.length < 16777216) : appT i d ρ (some (ds, io)) = some (.nx (ρ.set i (some (.own (.lst (ds ++ [d])) io)))) := by
  unfold appT
  dsimp only
  rw [if_pos (by rw [sz]; exact h)]
@[simp] theorem kAppC_d (i : Nat) (a : DE) (ρ : Env) : kAppC i a ρ = if lstAt i ρ = true then (a ρ).bind fun x => appT i x.1 x.2 (ownL i x.2) else none := by
  unfold kAppC kApp
  congr 1
  congr 1; funext x
  cases ownL i x.2 with
  | none => rfl
  | some l => rfl
def popS (i : Nat) : D × Env → Option (D × Env)
  | (.int k, ρ) => (ownL i ρ).bind fun l => if -(2 ^ 63) ≤ k ∧ k < 2 ^ 63 then (seqIndex? k l.1.length).bind fun j => (l.1[j]?).bind fun y => some (y, ρ.set i (some (.own (.lst (l.1.eraseIdx j)) l.2))) else none
  | _ => none
@[simp] theorem popS_d (i : Nat) (k : Int) (ρ : Env) : popS i (.int k, ρ) = (ownL i ρ).bind fun l => if -(2 ^ 63) ≤ k ∧ k < 2 ^ 63 then (seqIndex? k l.1.length).bind fun j => (l.1[j]?).bind fun y => some (y, ρ.set i (some (.own (.lst (l.1.eraseIdx j)) l.2))) else none := rfl
@[simp] theorem dPop_d (i : Nat) (a : DE) (ρ : Env) : dPop i a ρ = if lstAt i ρ = true then (a ρ).bind (popS i) else none := by
  unfold dPop
  congr 1; congr 1; funext x
  obtain ⟨d, ρ'⟩ := x
  cases d <;> rfl
/-! ### loops -/
/-- one turn of a for -/
def turnS (g : GE) (b : DS) (d : D) (ρ : Env) : Option Res := (g d ρ).bind b
theorem forL_nil (g : GE) (b : DS) (ρ : Env) : forL g b [] ρ = some (.nx ρ) := rfl
theorem forL_nx {g : GE} {b : DS} {d : D} {ds : List D} {ρ ρ' : Env} (h : turnS g b d ρ = some (.nx ρ')) : forL g b (d :: ds) ρ = forL g b ds ρ' := by
  unfold turnS at h
  obtain ⟨ρ1, e1, h⟩ := Option.bind_eq_some_iff.mp h
  conv => lhs; unfold forL
  rw [e1, Option.bind_some, h, Option.bind_some]
theorem forL_ct {g : GE} {b : DS} {d : D} {ds : List D} {ρ ρ' : Env} (h : turnS g b d ρ = some (.ct ρ')) : forL g b (d :: ds) ρ = forL g b ds ρ' := by
  unfold turnS at h
  obtain ⟨ρ1, e1, h⟩ := Option.bind_eq_some_iff.mp h
  conv => lhs; unfold forL
  rw [e1, Option.bind_some, h, Option.bind_some]
theorem forL_rt {g : GE} {b : DS} {d : D} {ds : List D} {ρ ρ' : Env} {s : Sl} (h : turnS g b d ρ = some (.rt s ρ')) : forL g b (d :: ds) ρ = some (.rt s ρ') := by
  unfold turnS at h
  obtain ⟨ρ1, e1, h⟩ := Option.bind_eq_some_iff.mp h
  conv => lhs; unfold forL
  rw [e1, Option.bind_some, h, Option.bind_some]
theorem forL_bk {g : GE} {b : DS} {d : D} {ds : List D} {ρ ρ' : Env} (h : turnS g b d ρ = some (.bk ρ')) : forL g b (d :: ds) ρ = some (.nx ρ') := by
  unfold turnS at h
  obtain ⟨ρ1, e1, h⟩ := Option.bind_eq_some_iff.mp h
  conv => lhs; unfold forL
  rw [e1, Option.bind_some, h, Option.bind_some]
/-- a for whose turns all go on: a relation between what is done and the names is kept -/
theorem forL_rel {g : GE} {b : DS} (I : List D → Env → Prop) : ∀ (ds : List D) (done : List D) (ρ : Env), I done ρ → (∀ done d rest ρ, done ++ d :: rest = (done ++ d :: rest) → d ∈ ds → I done ρ → ∃ ρ', turnS g b d ρ = some (.nx ρ') ∧ I (done ++ [d]) ρ') → ∃ ρ', forL g b ds ρ = some (.nx ρ') ∧ I (done ++ ds) ρ'
  | [], done, ρ, h, _ => ⟨ρ, rfl, by simpa using h⟩
  | d :: ds, done, ρ, h, hs => by
    obtain ⟨ρ1, e1, h1⟩ := hs done d ds ρ rfl List.mem_cons_self h
    obtain ⟨ρ2, e2, h2⟩ := forL_rel I ds (done ++ [d]) ρ1 h1 fun dn d' r ρ _ m i => hs dn d' r ρ rfl (List.mem_cons_of_mem _ m) i
    exact ⟨ρ2, by rw [forL_nx e1]; exact e2, by simpa using h2⟩
@[simp] theorem kFor_d (s : SI) (g : GE) (b : DS) (ρ : Env) : kFor s g b ρ = (s ρ).bind fun x => forL g b x.1 x.2 := rfl
theorem kWhile_go {c : DT} {b : DS} {ρ ρ1 ρ2 : Env} (h : c ρ = some (true, ρ1)) (hb : b ρ1 = some (.nx ρ2)) : kWhile c b ρ = kWhile c b ρ2 := by
  rw [kWhile_eq, h, Option.bind_some, if_pos rfl, hb, Option.bind_some]
theorem kWhile_end {c : DT} {b : DS} {ρ ρ1 : Env} (h : c ρ = some (false, ρ1)) : kWhile c b ρ = some (.nx ρ1) := by
  rw [kWhile_eq, h, Option.bind_some, if_neg Bool.false_ne_true]
/-! ### comprehensions -/
/-- one turn: what it gives, if anything -/
def turnC (vs : List Nat) (g : GE) (c : DT) (e : DE) (d : D) (ρ : Env) : Option (Option D × Env) := (g d ρ).bind fun ρ1 => (c ρ1).bind fun x => if x.1 = true then (e x.2).bind fun y => (wipeG y.2 vs).bind fun ρ2 => some (some y.1, ρ2)
  else (wipeG x.2 vs).bind fun ρ2 => some (none, ρ2)
theorem compL_cons {vs : List Nat} {g : GE} {c : DT} {e : DE} {d : D} {ds : List D} {ρ : Env} : compL vs g c e (d :: ds) ρ = (turnC vs g c e d ρ).bind fun x => (compL vs g c e ds x.2).bind fun z => some (x.1.toList ++ z.1, z.2) := by
  conv => lhs; unfold compL
  unfold turnC
  cases g d ρ with
  | none => rfl
  | some ρ1 =>
    rw [Option.bind_some, Option.bind_some]
    cases c ρ1 with
    | none => rfl
    | some x =>
      rw [Option.bind_some, Option.bind_some]
      split
      · cases e x.2 with
        | none => rfl
        | some y =>
          rw [Option.bind_some, Option.bind_some]
          cases wipeG y.2 vs with
          | none => rfl
          | some ρ2 => rfl
      · cases wipeG x.2 vs with
        | none => rfl
        | some ρ2 =>
          rw [Option.bind_some, Option.bind_some, Option.bind_some]
          cases compL vs g c e ds ρ2 <;> rfl
/-- a comprehension over what is printed of ys, the names as before after each turn -/
theorem compL_map {α : Type} {vs : List Nat} {g : GE} {c : DT} {e : DE} {ρ : Env} {enc : α → D} (f : α → Option D) : ∀ (ys : List α), (∀ y ∈ ys, turnC vs g c e (enc y) ρ = some (f y, ρ)) → compL vs g c e (ys.map enc) ρ = some (ys.filterMap f, ρ)
  | [], _ => rfl
  | y :: ys, h => by
    rw [List.map_cons, compL_cons, h y List.mem_cons_self, Option.bind_some, compL_map f ys fun z m => h z (List.mem_cons_of_mem _ m), Option.bind_some]
    cases hf : f y with
    | none => rw [List.filterMap_cons_none hf]; rfl
    | some d => rw [List.filterMap_cons_some hf]; rfl
theorem compL_self {vs : List Nat} {g : GE} {c : DT} {e : DE} {ρ : Env} (f : D → Option D) (ys : List D) (h : ∀ y ∈ ys, turnC vs g c e y ρ = some (f y, ρ)) : compL vs g c e ys ρ = some (ys.filterMap f, ρ) := by
  have := compL_map (enc := id) f ys h
  simpa using this
@[simp] theorem sComp_d (vs : List Nat) (s : SI) (g : GE) (c : DT) (e : DE) (ρ : Env) : sComp vs s g c e ρ = (s ρ).bind fun x => (wipeG x.2 vs).bind fun ρ2 => (compL vs g c e x.1 ρ2).bind fun z => if z.1.length ≤ sizeLine then some (.own (.lst z.1) false, backE x.2 vs z.2) else none := rfl
end ET
set_option Elab.async false
set_option maxRecDepth 100000
/-! ET: sorting, for plain proofs; comprehensions that change the names. -/
namespace ET
open PySem L2
theorem leD_tot : PySem.W.TotalLe leD := by
  unfold leD PySem.W.dataLe
  exact PySem.W.sortLe_total _ _ _
theorem leD_total (a b : D) : (leD a b || leD b a) = true := by
  rw [Bool.or_eq_true]; exact leD_tot.total a b
theorem leD_trans (a b c : D) (h1 : leD a b = true) (h2 : leD b c = true) : leD a c = true := leD_tot.trans a b c h1 h2
theorem leD_int (a b : Int) : leD (.int a) (.int b) = decide (a ≤ b) := by
  unfold leD PySem.W.dataLe PySem.W.sortLe
  simp only [cond_false, D.py, PySem.W.keyToks, PyProof.Rows.lexLt, PyProof.Rows.itemLt, PyProof.Rows.itemOrd]
  by_cases h : b < a
  · have : ¬ a ≤ b := by omega
    simp [h, this]
  · have : a ≤ b := by omega
    simp [h, this]
theorem sortable_ints {ns : List Int} (h : ns.length ≤ sizeLine) : sortable (ns.map .int) = true := by
  unfold sortable
  simp only [Bool.and_eq_true, Bool.or_eq_true, List.all_eq_true, decide_eq_true_eq, List.length_map]
  refine ⟨⟨⟨?_, .inr ?_⟩, ?_⟩, h⟩
  · rintro x hx y hy
    obtain ⟨a, _, rfl⟩ := List.mem_map.mp hx
    obtain ⟨b, _, rfl⟩ := List.mem_map.mp hy
    rfl
  · rintro x hx
    obtain ⟨a, _, rfl⟩ := List.mem_map.mp hx
    rfl
  · rintro x hx
    obtain ⟨a, _, rfl⟩ := List.mem_map.mp hx
    simp
def ascI (ns : List Int) : List Int := ns.mergeSort fun a b => decide (a ≤ b)
theorem fSorted_ints {ns : List Int} (h : ns.length ≤ sizeLine) : fSorted (.lst (ns.map .int)) = some ((ascI ns).map .int) := by
  unfold fSorted lstOf
  rw [Option.bind_some, if_pos (sortable_ints h)]
  unfold sortD ascI
  have := sort_map (f := D.int) ns
  simp only [leD_int] at this
  rw [this]
theorem ascI_perm (ns : List Int) : (ascI ns).Perm ns := List.mergeSort_perm _ _
theorem ascI_le (ns : List Int) : (ascI ns).Pairwise (· ≤ ·) := by
  have := List.pairwise_mergeSort (le := fun (a b : Int) => decide (a ≤ b)) (fun a b c h1 h2 => by simp at *; omega) (fun a b => by simp; omega) ns
  exact this.imp fun h => by simpa using h
/-- a comprehension whose turns may change the names -/
theorem compL_rel {vs : List Nat} {g : GE} {c : DT} {e : DE} (I : List D → List D → Env → Prop) : ∀ (ds done outs : List D) (ρ : Env), I done outs ρ → (∀ done outs d ρ, d ∈ ds → I done outs ρ → ∃ o ρ', turnC vs g c e d ρ = some (o, ρ') ∧ I (done ++ [d]) (outs ++ o.toList) ρ') →
    ∃ zs ρ', compL vs g c e ds ρ = some (zs, ρ') ∧ I (done ++ ds) (outs ++ zs) ρ'
  | [], done, outs, ρ, h, _ => ⟨[], ρ, rfl, by simpa using h⟩
  | d :: ds, done, outs, ρ, h, hs => by
    obtain ⟨o, ρ1, e1, h1⟩ := hs done outs d ρ List.mem_cons_self h
    obtain ⟨zs, ρ2, e2, h2⟩ := compL_rel I ds (done ++ [d]) (outs ++ o.toList) ρ1 h1 fun dn ou d' ρ m i => hs dn ou d' ρ (List.mem_cons_of_mem _ m) i
    refine ⟨o.toList ++ zs, ρ2, ?_, by simpa using h2⟩
    rw [compL_cons, e1, Option.bind_some, e2, Option.bind_some]
theorem filterMap_if {α β : Type} (p : α → Prop) [DecidablePred p] (f : α → β) : ∀ l : List α, l.filterMap (fun x => if p x then some (f x) else none) = (l.filter fun x => decide (p x)).map f
  | [] => rfl
  | x :: l => by
    by_cases h : p x
    · simp [List.filterMap_cons, h, filterMap_if p f l]
    · simp [List.filterMap_cons, h, filterMap_if p f l]
theorem forL_map' {α : Type} {g : GE} {b : DS} {enc : α → D} (I : List α → Env → Prop) (all : List α) : ∀ (ys done : List α) (ρ : Env), all = done ++ ys → I done ρ → (∀ done y rest ρ, all = done ++ y :: rest → I done ρ → ∃ ρ', turnS g b (enc y) ρ = some (.nx ρ') ∧ I (done ++ [y]) ρ') → ∃ ρ', forL g b (ys.map enc) ρ = some (.nx ρ') ∧ I all ρ'
  | [], done, ρ, ha, h, _ => ⟨ρ, rfl, by rw [ha]; simpa using h⟩
  | y :: ys, done, ρ, ha, h, hs => by
    obtain ⟨ρ1, e1, h1⟩ := hs done y ys ρ ha h
    obtain ⟨ρ2, e2, h2⟩ := forL_map' I all ys (done ++ [y]) ρ1 (by rw [ha]; simp) h1 hs
    exact ⟨ρ2, by rw [List.map_cons, forL_nx e1]; exact e2, h2⟩
/-- a for over what is printed of ys, each turn of which goes on -/
theorem forL_map {α : Type} {g : GE} {b : DS} {enc : α → D} (I : List α → Env → Prop) (ys : List α) (ρ : Env) (h : I [] ρ) (hs : ∀ done y rest ρ, ys = done ++ y :: rest → I done ρ → ∃ ρ', turnS g b (enc y) ρ = some (.nx ρ') ∧ I (done ++ [y]) ρ') :
    ∃ ρ', forL g b (ys.map enc) ρ = some (.nx ρ') ∧ I ys ρ' := forL_map' I ys ys [] ρ rfl h hs
/-- a slot that may be set -/
def Free (x : Option Sl) : Prop := ∀ o, x ≠ some (.own o true)
theorem setS_free {i : Nat} {s : Sl} {ρ : Env} {x : Option Sl} (h : Free x) : setS i s ρ (some x) = some (ρ.set i (some s.fix)) := by
  cases x with
  | none => rfl
  | some sl => cases sl with
    | val d => rfl
    | own o io => cases io with
      | false => rfl
      | true => exact absurd rfl (h o)
theorem free_v (d : D) : Free (some (.val d)) := fun o h => by cases h
theorem free_n : Free none := fun o h => by cases h
/-- a slot that holds a list of one's own, or a list -/
def SlotL (x : Option Sl) (ds : List D) : Prop := x = some (.val (.lst ds)) ∨ x = some (.own (.lst ds) false)
section
variable {x : Option Sl} {ds : List D} (h : SlotL x ds)
include h
theorem SlotL.free : Free x := by rcases h with rfl | rfl <;> intro o e <;> cases e
theorem SlotL.ev (ρ : Env) : evS ρ (some x) = some (none, ρ) := by rcases h with rfl | rfl <;> rfl
theorem SlotL.fin : finS (some x) = some (.lst ds) := by rcases h with rfl | rfl <;> rfl
end
end ET
set_option Elab.async false
set_option maxRecDepth 100000
/-! ET: a <= b <= c; list(range(n)). -/
namespace ET
open PySem L2
section
variable {M : Md} {X : Cx}
/-- a op b op' c -/
def dChain (f f' : D → D → Option D) (a b c : DE) : DE := fun ρ => (a ρ).bind fun x => (b x.2).bind fun y => (f x.1 y.1).bind fun z => match z with
  | .bl true => (c y.2).bind fun u => (f' y.1 u.1).bind fun w => some (w, u.2)
  | .bl false => some (.bl false, y.2)
  | _ => none
theorem x_chain {op op' : CmpOp} {r r' : R2} {f f' : D → D → Option D} {a b c : Expr} {u v w : DE} {pos : Pos} (i : Imp2 M.K r f) (i' : Imp2 M.K r' f') (ho : OpR X (compareOp op) r) (ho' : OpR X (compareOp op') r') (ha : Ex M X a u) (hb : Ex M X b v) (hc : Ex M X c w)
    (hm : lastMarks [op, op'] [b, c] = false := by with_unfolding_all rfl) : Ex M X (.Compare a [op, op'] [b, c] pos) (dChain f f' u v w) :=
  (pe_chain ho ho' ha hb hc hm).imp fun σ H Q ⟨ρ, F, d, ρ', S, e, q⟩ => by
    unfold dChain at e
    obtain ⟨⟨x, ρ1⟩, e1, e⟩ := Option.bind_eq_some_iff.mp e
    obtain ⟨⟨y, ρ2⟩, e2, e⟩ := Option.bind_eq_some_iff.mp e
    obtain ⟨z, e3, e⟩ := Option.bind_eq_some_iff.mp e
    refine ⟨ρ, F, x, ρ1, S, e1, fun vx H1 F1 S1 T1 r1 => ⟨ρ1, F1, y, ρ2, S1, e2, fun vy H2 F2 S2 T2 r2 => ?_⟩⟩
    refine i F2 H2 vx vy x y z _ S2.sub (.inl (Rp.mono T2.fr _ _ r1)) (.inl r2) e3 fun vz H3 F3 n rz => ?_
    obtain ⟨S3, T3⟩ := S2.new n
    dsimp only at e
    split at e
    · obtain ⟨⟨u', ρ4⟩, e4, e⟩ := Option.bind_eq_some_iff.mp e
      obtain ⟨w', e5, e⟩ := Option.bind_eq_some_iff.mp e
      cases e
      unfold Rp at rz
      refine ⟨true, rz, ?_⟩
      rw [if_pos rfl]
      refine ⟨ρ2, F3, u', _, S3, e4, fun vu H4 F4 S4 T4 r4 => ?_⟩
      refine i' F4 H4 vy vu y u' _ _ S4.sub (.inl (Rp.mono T4.fr _ _ (Rp.mono T3.fr _ _ r2))) (.inl r4) e5 fun vw H5 F5 n5 rw' => ?_
      obtain ⟨S5, T5⟩ := S4.new n5
      exact q vw H5 F5 S5 ((((T1.trans T2).trans T3).trans T4).trans T5) rw'
    · cases e
      unfold Rp at rz
      refine ⟨false, rz, ?_⟩
      rw [if_neg (by decide)]
      exact q (.bl false) H3 F3 S3 ((T1.trans T2).trans T3) (by unfold Rp; rfl)
    · cases e
/-- list(range(n)) -/
def sLstRg (a : DE) : SE := fun ρ => (a ρ).bind fun x => match x.1 with
  | .int j => if 0 ≤ j ∧ j ≤ 1000000 then some (.own (.lst (rangeD 0 j.toNat)) false, x.2) else none
  | _ => none
theorem rg_all (K : PySem.W.Frag) (F : Hp) (n : Nat) : RpAll K F (rgV 0 n) (rangeD 0 n) := by
  unfold rgV rangeD
  have : ((n : Int) - 0).toNat = n := by omega
  rw [this]
  refine RpAll.of_get (by simp) fun i v d h1 h2 => ?_
  rw [List.getElem?_map] at h1 h2
  obtain ⟨x, e1, rfl⟩ := Option.map_eq_some_iff.mp h1
  rw [e1] at h2
  cases h2
  unfold Rp; rfl
theorem s_lstRg {a : Expr} {u : DE} {p p2 pos pos2 : Pos} (hc : X.calm = true) (hg : Gl X "list") (hm : X.mg "list" = none) (hg2 : Gl X "range") (hm2 : X.mg "range" = none) (ha : Ex M X a u)
    (na : starEach [a] X.env = (false, eval a X.env) :: starEach [] X.env := by rfl) (na2 : starEach [.Call (.Name "range" p2) [a] [] pos2] X.env = (false, eval (.Call (.Name "range" p2) [a] [] pos2) X.env) :: starEach [] X.env := by rfl) :
    Sx M X (.Call (.Name "list" p) [.Call (.Name "range" p2) [a] [] pos2] [] pos) (sLstRg u) :=
  (pe_listRg hc hg hm (prg_1 hg2 hm2 ha na) na2).imp fun σ H Q ⟨ρ, F, d, ρ', S, e, q⟩ => by
    unfold sLstRg at e
    obtain ⟨⟨x, ρ1⟩, e1, e⟩ := Option.bind_eq_some_iff.mp e
    cases x with
    | int j =>
      dsimp only at e
      split at e
      · rename_i hj
        cases e
        obtain ⟨n, rfl⟩ := Int.eq_ofNat_of_zero_le hj.1
        refine ⟨ρ, F, _, _, S, e1, fun v H1 F1 S1 T1 r1 => ?_⟩
        unfold Rp at r1
        subst r1
        refine ⟨n, rfl, RgOk.of_le (by omega) (by omega) (by omega) (by omega), fun p hp => ?_⟩
        have n' := New.obj S1.sub hp (.lst (rgV 0 n))
        obtain ⟨S3, T3⟩ := S1.new n'
        obtain ⟨f1, f2, f3⟩ := fresh_of S1 T1 hp
        refine q (.ref p) _ F1 S3 (T1.trans T3) ⟨p, rfl, ⟨_, upd_same, ?_⟩, f1, f2, f3⟩
        rw [Int.toNat_natCast]
        exact rg_all _ _ n
      · cases e
    | _ => cases e
end
end ET
set_option Elab.async false
set_option maxRecDepth 100000
/-! ET: sorted(t), t a tuple: the library tells it of lists; of a tuple it goes the same way. -/
namespace ET
open PySem PySem.W PySem.Calls PyProof.Rows PyProof.V PySem.Spec
section
variable {prog : Program} {w : World} {A : Around} {E : Value → Shared → Prop} {s : Shared}
/-- the heap with a new list of a tuple's items -/
abbrev gathered (g : Heap) (us : List Value) : Heap := (g.push (seqObj "list" #[] 0)).update g.objs.size (Obj.mapSeq (· ++ us.toArray))
theorem collect_tup {t : Addr} {us : List Value} {R : List Value → Shared → Prop} (tp : IsTup s.heap t us.toArray) (sm : us.length ≤ sizeLine) (fin : R us { s with heap := gathered s.heap us }) : wpAny (model prog w) A (collect (.ref t)) R E s := by
  obtain ⟨ob, go, gc, nn, gdt⟩ := id tp
  unfold collect; refine wpAny_bind (wpAny_runValue (codeAny_builtin entry_proto_collect' ?_))
  show wpAny _ _ (do again (.builtin "list.__iadd__" ⟨[← newList [], .ref t], []⟩)) _ _ s
  refine wpAny_bind (wpAny_newList (wpAny_pure ⟨Code.quiet_builtin _ (by decide +kernel), codeAny_builtin entry_list_iadd' ?_⟩))
  show wpAny _ _ (Builtin.List.listExtendWith (.ref s.heap.objs.size) (.ref t) (.ref s.heap.objs.size)) _ _ { s with heap := s.heap.push (seqObj "list" #[] 0) }
  have gp : (s.heap.push (seqObj "list" #[] 0)).get? t = some ob := Heap.get?_push_of_some _ go
  have gn : (s.heap.push (seqObj "list" #[] 0)).get? s.heap.objs.size = some (seqObj "list" #[] 0) := Heap.get?_push_size _ rfl
  unfold Builtin.List.listExtendWith; refine wpAny_bind (wpAny_typeOf (T := "tuple") ⟨ob, gp, gc⟩ ?_)
  rw [if_pos (by rw [show (Value.type "tuple" == Value.type "tuple") = true by rfl]; simp)]
  refine wpAny_bind (listItems_at gp gdt (wpAny_bind (listItems_at (xs := #[]) (n := 0) gn rfl ?_)))
  rw [if_neg (by simp)]
  have big : ((fun z : Array Value => z ++ us.toArray) #[]).size ≤ sizeLine + 1 := by
    simp only [Array.size_append, List.size_toArray, List.length_nil]; omega
  refine wpAny_bind (listUpdate_at (xs := #[]) (n := 0) gn rfl (wpAny_pure ?_) (Nat.zero_le _) big)
  refine wpAny_bind (wpAny_load (get?_update_seq gn _) ?_)
  have ee : ((#[] : Array Value) ++ us.toArray).toList = us := by simp
  show wpAny _ _ (pure ((#[] : Array Value) ++ us.toArray).toList) R E _
  rw [ee]; exact wpAny_pure fin
theorem sorted_tup {t : Addr} {us : List Value} {R : Value → Shared → Prop} (tp : IsTup s.heap t us.toArray) (sm : us.length ≤ sizeLine)
    (body : ∀ E2 : Value → Shared → Prop, wpAny (model prog w) A.in1.in1 (Builtin.«list.sort» ⟨[.ref (s.heap.objs.size + 1)], []⟩) (fun r s2 => r = .done (.ret .none) ∧ R (.ref (s.heap.objs.size + 1)) s2) E2 { s with heap := copyHeap s.heap us }) : wpAny (model prog w) A (call (.builtin "sorted") [.ref t]) R E s := by
  refine call_function_entry_kw kind_sorted plain_sorted entry_sorted (args_sorted1 _) ?_
  unfold Builtin.«sorted»; refine wpAny_bind (m := checkCount "sorted" 1 1 _) (wpAny_pure (wpAny_bind (collect_tup tp sm (wpAny_bind (wpAny_newList ?_ sm)))))
  have esz : (gathered s.heap us).objs.size = s.heap.objs.size + 1 := by rw [Heap.size_update, size_push']
  show wpAny _ _ _ _ _ { s with heap := copyHeap s.heap us }
  rw [esz]; refine wpAny_bind (wpAny_holding (wpAny_call_entry_kw slot_list_sort ⟨_, copyHeap_at s.heap us, rfl⟩ entry_list_sort (?go) (args_list_sort _)))
  show wpAny (model prog w) A.in1.in1 (Builtin.«list.sort» ⟨[.ref (s.heap.objs.size + 1)], []⟩) _ _ _
  exact wpAny_mono (body _) (fun r s2 hr => by obtain ⟨rfl, hq⟩ := hr; exact ⟨_, rfl, wpAny_pure ⟨_, rfl, hq⟩⟩) fun _ _ z => z
variable {α : Type} {K : Value → α → Prop} {vs : List Value} {items : List α} {tell : α → PyData}
/-- sorted(t): data that are alike, in order -/
theorem sorted_tup_data {t : Addr} {R : Value → Shared → Prop} (tp : IsTup s.heap t vs.toArray) (e : EachIs K vs items) (er : EachIs (fun v b => ∃ as, Reads s.heap v (tell b) as) vs items) (hal : AllAlike (items.map tell)) (hk : Sortable (items.map tell)) (hL : items.length ≤ sizeLine)
    (hu : ∀ b, b ∈ items → A.units + 2 + (tell b).depth < cLine) (h : ∀ out, out.length = items.length → EachIs K out (items.mergeSort (dataLe false tell)) → R (.ref (s.heap.objs.size + 1)) { s with heap := sortedAll s.heap vs (List.toArray out) }) : wpAny (model prog w) A (call (.builtin "sorted") [.ref t]) R E s := by
  have er2 := er.mono fun _ _ ⟨as, r⟩ => (⟨as, PyProof.Rows.Reads.keeps (fun _ _ => sorting_copy_old) r⟩ : ∃ as, Reads (sortingHeap (copyHeap s.heap vs) (s.heap.objs.size + 1) vs) _ _ as)
  have hvs : vs.length ≤ sizeLine := by rw [e.length]; exact hL
  have S := SortsAt.data (prog := prog) (w := w) (A := A.in1.in1) (s := { s with heap := sortingHeap (copyHeap s.heap vs) (s.heap.objs.size + 1) vs }) (each_map (R := fun v d => ∃ as, Reads (sortingHeap (copyHeap s.heap vs) (s.heap.objs.size + 1) vs) v d as) tell er2) hal hk (bound_map hu)
  refine sorted_tup tp hvs fun E2 => list_sort_vals (s := { s with heap := copyHeap s.heap vs }) (copyHeap_at s.heap vs) S hvs ⟨rfl, ?_⟩
  exact h _ (by rw [sortVals_length false rfl]; exact e.length) (sortVals_data false e er2 hal)
end
end ET
namespace ET
open PySem L2
/-- sorted of a tuple -/
noncomputable def fSortedT : D → Option (List D) := fun d => match d with
  | .tup xs => if cst xs = false ∧ sortable xs = true then some (sortD xs) else none
  | _ => none
def rSortT (K : PySem.W.Frag) : List V → Hp → VK → Prop := fun vs H Q => ∃ (a : Addr) (ws : List V) (ds : List D), vs = [V.ref a] ∧ SqT K H a ws ∧ RpAll K H ws ds ∧ sortable ds = true ∧
  ∀ p, H p = none → Q (.ref p) (upd H p (.lst ((ws.zip ds).mergeSort (fun x y => leD x.2 y.2) |>.map Prod.fst)))
theorem cr_sortT {X : Cx} {k : Nat} (hr : Room k X.A) : CallR X (.builtin "sorted") (rSortT X.K) := by
  intro pins s σ H vs us Q I r h
  obtain ⟨a, ws, ds, rfl, hs, hd, hk, q⟩ := h
  obtain ⟨its, rv, hl, hz⟩ := I.tuple hs
  rw [Vals.ref1 r]
  obtain ⟨e1, e2⟩ := each_of_vals I rv hd
  have hlen := hd.length
  have hmap : (ws.zip ds).map (fun b => b.2.py) = ds.map D.py := by
    have := congrArg (List.map D.py) (zip_snd hlen)
    rw [List.map_map] at this
    exact this
  have hu := hr.un
  refine sorted_tup_data (tell := fun b : V × D => b.2.py) (items := ws.zip ds) hl e1 e2 ?_ ?_ ?_ ?_ fun out h1 h2 => ?_
  · rw [hmap]
    intro x hx y hy
    obtain ⟨x', hx', rfl⟩ := List.mem_map.mp hx
    obtain ⟨y', hy', rfl⟩ := List.mem_map.mp hy
    exact sortable_alike hk x' hx' y' hy'
  · rw [hmap]; exact sortable_kind hk
  · rw [List.length_zip, hlen, Nat.min_self]; exact sortable_len hk
  · intro b hb
    have := sortable_dep hk b.2 (List.of_mem_zip hb).2
    unfold deepest at this
    show X.A.units + 2 + dep b.2 < cLine
    omega
  · obtain ⟨ep, he'⟩ := PyProof.Rows.sortedAll_at s.heap its out.toArray
    have hv := vals_of_each h2
    refine ⟨.ref _, upd H (s.heap.objs.size + 1) (.lst _), I.laid (t' := s.toks) (fun _ _ => PyProof.Rows.sortedAll_old) (Nat.le_succ _) ⟨?_, out, ep, hv, he'⟩, rfl, q _ (I.hok.fresh (Nat.le_succ _))⟩
    rw [List.length_map, List.length_mergeSort, List.length_zip, hlen, Nat.min_self]
    exact sortable_len hk
theorem imp_sortedT {K : PySem.W.Frag} : Imp1L K (rSortT K) fSortedT := fun F H v d c Q s hv h q => by
  unfold fSortedT at h
  split at h
  · rename_i xs
    split at h
    · rename_i hk
      cases h
      have hv := hv.rp (fun ds z => by cases z)
      unfold Rp at hv
      obtain ⟨a, vs, rfl, t, r⟩ := hv
      refine ⟨a, vs, xs, rfl, SqT.mono s t.sq, RpAll.mono s _ _ r, hk.2, fun p hp => q p _ hp ?_⟩
      have e : sortD xs = ((vs.zip xs).mergeSort (fun x y => leD x.2 y.2)).map Prod.snd := by
        rw [sort_map (f := Prod.snd), zip_snd r.length]
        rfl
      rw [e]
      exact RpAll.of_pairs fun p hp => r.zip p ((List.mergeSort_perm _ _).mem_iff.mp hp)
    · cases h
  · cases h
end ET
set_option Elab.async false
set_option maxRecDepth 100000
/-! ET: instances of a class: made, their fields read and set, their methods called. -/
namespace ET
open PySem L2

/-- a field is set -/
def putFd (f : Str) (d : D) : List (Str × D) → List (Str × D)
  | [] => [(f, d)]
  | (g, x) :: r => if g = f then (g, d) :: r else (g, x) :: putFd f d r
/-- the instance that slot i owns -/
def ownI (c : Str) (i : Nat) (ρ : Env) : Option (List (Str × D) × Bool) := match ρ[i]? with
  | some (some (.own (.ins c' fs) io)) => if c' = c then some (fs, io) else none
  | _ => none
theorem ownI_has {c : Str} {i : Nat} {ρ : Env} {fs : List (Str × D)} {io : Bool} (h : ownI c i ρ = some (fs, io)) : Has ρ i (.ins c fs) io := by
  unfold ownI at h
  split at h
  · rename_i hh
    split at h
    · rename_i e
      subst e
      cases h
      exact hh
    · cases h
  · cases h
theorem KVf.get {K : PySem.W.Frag} {F : Hp} {f : Str} : ∀ {ws : List (Str × V)} {fs : List (Str × D)}, KVf K F ws fs →
    (fs.lookup f = none → ws.lookup f = none) ∧ ∀ d, fs.lookup f = some d → ∃ v, ws.lookup f = some v ∧ Rp K F v d
  | [], [], _ => ⟨fun _ => rfl, fun d e => by cases e⟩
  | (k, v) :: ws, (i, d) :: fs, h => by
    obtain ⟨e, r, t⟩ := h
    subst e
    obtain ⟨i1, i2⟩ := KVf.get (f := f) t
    rw [List.lookup_cons, List.lookup_cons]
    cases f == k with
    | true => exact ⟨(fun z => by cases z), fun d' z => by cases z; exact ⟨v, rfl, r⟩⟩
    | false => exact ⟨i1, i2⟩
  | [], _ :: _, h => h.elim
  | _ :: _, [], h => h.elim
theorem KVf.put {K : PySem.W.Frag} {F : Hp} {f : Str} {v : V} {d : D} (r : Rp K F v d) : ∀ {ws : List (Str × V)} {fs : List (Str × D)}, KVf K F ws fs → KVf K F (L2.putF f v ws) (putFd f d fs)
  | [], [], _ => ⟨rfl, r, trivial⟩
  | (k, w) :: ws, (i, x) :: fs, h => by
    obtain ⟨e, q, t⟩ := h
    subst e
    unfold L2.putF putFd
    by_cases z : k = f
    · rw [if_pos z, if_pos z]; exact ⟨rfl, r, t⟩
    · rw [if_neg z, if_neg z]; exact ⟨rfl, q, KVf.put r t⟩
  | [], _ :: _, h => h.elim
  | _ :: _, [], h => h.elim
theorem KVf.len {K : PySem.W.Frag} {F : Hp} : ∀ {ws : List (Str × V)} {fs : List (Str × D)}, KVf K F ws fs → ws.length = fs.length
  | [], [], _ => rfl
  | (k, w) :: ws, (i, x) :: fs, h => by rw [List.length_cons, List.length_cons, KVf.len h.2.2]
  | [], _ :: _, h => h.elim
  | _ :: _, [], h => h.elim

/-- x.f -/
def dFld (c : Str) (i : Nat) (f : Str) : DE := fun ρ => (ownI c i ρ).bind fun x => (x.1.lookup f).bind fun d => some (d, ρ)
/-- x.f = e -/
def kFldSet (c : Str) (i : Nat) (f : Str) (a : DE) : DS := fun ρ => (a ρ).bind fun x => (ownI c i x.2).bind fun o =>
  if o.1.length < 1000 then some (.nx (x.2.set i (some (.own (.ins c (putFd f x.1 o.1)) o.2)))) else none
/-- x.m(..) -/
def callM (c m : Str) (f : FS) (i : Nat) (as : List AE) : SE := fun ρ => (ownI c i ρ).bind fun x => if x.1.lookup m = none then callS f (.io i :: as) ρ else none
/-- C(..) -/
def sMake (c : Str) (f : FS) (as : List AE) : SE := fun ρ => (evA as ρ).bind fun x => (finA as x.1 x.2).bind fun xs => if ios as = [] then (f (.io (.ins c []) :: xs)).bind fun r => match r with
  | (.val .non, .io o :: _) => some (.own o false, x.2)
  | _ => none
  else none
section
variable {M : Md} {X : Cx}
theorem x_fld {c f : Str} {i : Nat} {e : Expr} {pos : Pos} (hKM : M.K = X.K) (hC : Cls X.K (M.cls c)) (hN : NoAttr X.K (M.cls c) f) (h : PE X e (tVar i)) (hb : attributeBase e f X.env (eval e X.env) = eval e X.env := by rfl) : Ex M X (.Attribute e f pos) (dFld c i f) :=
  (pe_fld h hb).imp fun σ H Q ⟨ρ, F, d, ρ', S, e, q⟩ => by
    unfold dFld at e
    obtain ⟨⟨fs, io⟩, e1, e⟩ := Option.bind_eq_some_iff.mp e
    obtain ⟨d', e2, e⟩ := Option.bind_eq_some_iff.mp e
    cases e
    obtain ⟨a, ea, ⟨dx, ws, hw, kv⟩, _⟩ := S.own i _ _ (ownI_has e1)
    obtain ⟨v, ev, rv⟩ := (KVf.get (f := f) kv).2 _ e2
    exact ⟨_, ea, a, _, dx, ws, v, rfl, hw, hC, hN, ev, q v H F S .refl rv⟩
theorem k_fldSet {c f : Str} {i : Nat} {o value : Expr} {a : DE} {pos pos' : Pos} (hC : Cls X.K (M.cls c)) (hN : NoAttr X.K (M.cls c) f) (h : PE X o (tVar i)) (hv : Ex M X value a) (hs : swapsWith value (some (.Attribute o f pos')) pos.line X.env = pure false := by rfl) :
    Sm M X (.Assign [.Attribute o f pos'] value pos) (kFldSet c i f a) := (ps_fld h hv hs).imp fun Dd σ H ⟨ρ, F, r, S, e, q⟩ => by
  unfold kFldSet at e
  obtain ⟨⟨d, ρ1⟩, e1, e⟩ := Option.bind_eq_some_iff.mp e
  obtain ⟨⟨fs, io⟩, e2, e⟩ := Option.bind_eq_some_iff.mp e
  split at e
  · rename_i hl
    cases e
    refine ⟨ρ, F, d, ρ1, S, e1, fun v H1 F1 S1 T1 r1 => ?_⟩
    have hh := ownI_has e2
    obtain ⟨b, eb, ⟨dx, ws, hw, kv⟩, _⟩ := S1.own i _ _ hh
    obtain ⟨S2, T2⟩ := S1.write (o' := .ins c (putFd f d fs)) (u := .ins (M.cls c) dx (L2.putF f v ws)) hh eb ⟨dx, _, upd_same, KVf.put r1 kv⟩
    exact ⟨_, eb, b, _, dx, ws, rfl, hw, hC, hN, by rw [kv.len]; exact hl, q _ _ F1 S2 (T1.trans T2)⟩
  · cases e
theorem i_meth {c m : Str} {f : FS} {i : Nat} {as : List AE} : ∀ σ H Q, tSE M (callM c m f i as) σ H Q → tMeth (M.cls c) m (spF M f) [] E0 (tVar i) (tAA M as) σ H Q := fun σ H Q ⟨ρ, F, d, ρ', S, e, q⟩ => by
  unfold callM at e
  obtain ⟨⟨fs, io⟩, e0, e⟩ := Option.bind_eq_some_iff.mp e
  split at e
  · rename_i hm
    have hh := ownI_has e0
    obtain ⟨a, ea, ⟨dx, ws, hw, kv⟩, _⟩ := S.own i _ _ hh
    refine ⟨_, ea, a, dx, ws, rfl, hw, (KVf.get kv).1 hm, ?_⟩
    unfold callS at e
    obtain ⟨⟨ds, ρ1⟩, e1, e⟩ := Option.bind_eq_some_iff.mp e
    obtain ⟨xs, e2, e⟩ := Option.bind_eq_some_iff.mp e
    unfold evA at e1
    have hh' : ρ[i]? = some (some (.own (.ins c fs) io)) := hh
    rw [hh'] at e1
    obtain ⟨⟨ds', ρ2⟩, e3, e1⟩ := Option.bind_eq_some_iff.mp e1
    cases e1
    split at e
    · rename_i hn
      obtain ⟨⟨r, ys⟩, e4, e⟩ := Option.bind_eq_some_iff.mp e
      cases e
      refine ⟨ρ, F, ds', _, S, e3, fun vs H1 F1 S1 T1 h1 => ?_⟩
      show spF M f (V.ref a :: (vs ++ [])) H1 Q E0
      rw [List.append_nil]
      have h2 : HldA M σ F1 (V.ref a :: vs) (.io i :: as) (none :: ds') := ⟨ea, h1⟩
      refine ⟨F1, xs, _, ys, S1.sub, h2.ats S1 e2, h2.sep S1 e2 hn, e4, fun v H2 F2 p => ?_⟩
      obtain ⟨S2, T2, r2⟩ := S1.called h2 e2 hn (h2.len e2) p
      refine q v H2 F2 S2 (T1.trans T2) ?_
      dsimp only
      cases r with
      | val d => exact r2
      | own o io =>
        obtain ⟨b, eb, q', f', ha, nc⟩ := r2
        refine ⟨b, eb, q', f', ?_, nc⟩
        cases e : H b with
        | none => rfl
        | some u => obtain ⟨o', q'⟩ := T1.there b u e; rw [ha] at q'; cases q'
    · cases e
  · cases e
/-- a method as it is known to its callers -/
structure KnownM (P : Program) (w : World) (K : PySem.W.Frag) (mg : Str → Option Value) (base : Heap) (cls : Str → Addr) (k : Nat) (c m : Str) (f : FS) : Prop where
  ex : Cls K (cls c) ∧ ∃ (g : Addr) (fd : FuncData) (ps : List Str), Meth K (cls c) m g ∧ Binds K fd ps [] ∧ FnOk P w K mg base CX0 k g fd ps (spF ⟨K, cls⟩ f)
theorem KnownM.mono {P : Program} {w : World} {K : PySem.W.Frag} {mg : Str → Option Value} {base : Heap} {j k : Nat} {cls : Str → Addr} {c m : Str} {f : FS} (h : KnownM P w K mg base cls j c m f) (hj : j ≤ k) : KnownM P w K mg base cls k c m f := by
  obtain ⟨a, g, fd, ps, b, d, e⟩ := h.ex
  exact ⟨a, g, fd, ps, b, d, e.mono hj⟩
theorem s_meth {c m : Str} {f : FS} {i : Nat} {as : List AE} {k j : Nat} {o e : Expr} {es : List Expr} {pos apos : Pos} {pl : Sem Bool} (G : KnownM X.prog X.w X.K X.mg X.base M.cls j c m f) (hKM : M.K = X.K) (hr : Room k X.A) (hj : j ≤ k) (h : PE X o (tVar i)) (ha : ArA M X (e :: es) as)
    (hpl : (backTo pos (starEach es X.env)).any (·.1) = false := by rfl)
    (ht : eval (.Call (.Attribute o m apos) (e :: es) [] pos) X.env = (do
      let ov ← eval o X.env
      standAt apos.atName
      let (f, first) ← holding [ov] (getMethod ov m pl)
      callWith pos f first (backTo pos (starEach (e :: es) X.env)) (backToKw pos (keywordEach [] X.env))) := by rfl) :
    Sx M X (.Call (.Attribute o m apos) (e :: es) [] pos) (callM c m f i as) := by
  obtain ⟨hC, g, fd, ps, b, d, F⟩ := G.ex
  have eM : M = ⟨X.K, M.cls⟩ := by cases M; cases hKM; rfl
  rw [← eM] at F
  have st : starEach (e :: es) X.env = (false, eval e X.env) :: starEach es X.env := by
    match as, ha with
    | .val _ :: _, ⟨_, h, _⟩ => exact h
    | .io _ :: _, ⟨_, h, _⟩ => exact h
  exact (pe_meth (pl := pl) h hC b F (hr.mono hj) d .nil pass0 ha.run st hpl ht).imp i_meth
theorem ios_at {as : List AE} (h : ios as = []) : ∀ (j i : Nat), as[j]? ≠ some (.io i) := fun j i e => by
  have : i ∈ ios as := mem_ios.mpr ⟨j, e⟩
  rw [h] at this
  cases this
theorem i_make {c : Str} {f : FS} {as : List AE} : ∀ σ H Q, tSE M (sMake c f as) σ H Q → tMake (M.cls c) (spF M f) [] E0 (tAA M as) σ H Q := fun σ H Q ⟨ρ, F, d, ρ', S, e, q⟩ => by
  unfold sMake at e
  obtain ⟨⟨ds, ρ1⟩, e1, e⟩ := Option.bind_eq_some_iff.mp e
  obtain ⟨xs, e2, e⟩ := Option.bind_eq_some_iff.mp e
  split at e
  · rename_i hi
    obtain ⟨⟨r, ys⟩, e4, e⟩ := Option.bind_eq_some_iff.mp e
    split at e
    · rename_i ys0 o ys1 hy
      cases e
      cases hy
      refine ⟨ρ, F, ds, _, S, e1, fun vs H1 F1 S1 T1 h1 => fun x dx hx hdx hne => ?_⟩
      rw [List.append_nil]
      have ne : x ≠ dx := fun z => hne z.symm
      have keep1 : ∀ b u, H1 b = some u → upd (upd H1 dx (.own x)) x (.ins (M.cls c) dx []) b = some u := fun b u z => by
        rw [upd_ne (ne_of_none z hx), upd_ne (ne_of_none z hdx)]; exact z
      have back1 : ∀ b, upd (upd H1 dx (.own x)) x (.ins (M.cls c) dx []) b = none → H1 b = none := fun b z => by
        cases y : H1 b with
        | none => rfl
        | some u => rw [keep1 b u y] at z; cases z
      have at1 := h1.ats S1 e2
      have noio : ∀ (i : Nat) (o : Own), xs[i]? ≠ some (.io o) := fun i o z => by
        obtain ⟨i', io, ei, _⟩ := finA_io h1 e2 i o z
        exact ios_at hi i i' ei
      have ats2 : ∀ {vs : List V} {xs : List Arg}, Ats M F1 H1 vs xs → Ats M F1 (upd (upd H1 dx (.own x)) x (.ins (M.cls c) dx [])) vs xs := fun {vs xs} z => by
        induction z with
        | nil => exact .nil
        | @cons v vs x' xs h t ih =>
          refine .cons ?_ ih
          cases x' with
          | val d => exact h
          | io o => obtain ⟨a, ea, qa, fa⟩ := h; exact ⟨a, ea, qa.mono (Same.refl _) (keep1 a), fa⟩
      have fx : F1 x = none := S1.sub.free hx
      have inx : ∀ b, InA (V.ref x :: vs) (.io (.ins c []) :: xs) b → b = x := fun b ⟨j, o', h1, h2⟩ => by
        cases j with
        | zero => simp at h2; exact h2.symm
        | succ j => exact absurd (by simpa using h1) (noio j o')
      refine ⟨F1, .io (.ins c []) :: xs, _, _, fun b u z => keep1 b u (S1.sub _ _ z), .cons ⟨x, rfl, ⟨dx, [], upd_same, trivial⟩, fx⟩ (ats2 at1), fun j k o1 o2 b z1 z2 w1 w2 => ?_, e4, fun v H2 F2 p => ?_⟩
      · cases j with
        | zero =>
          cases k with
          | zero => rfl
          | succ k => exact absurd (by simpa using z2) (noio k o2)
        | succ j => exact absurd (by simpa using z1) (noio j o1)
      · have rv : Rp M.K F2 v .non := p.res
        unfold Rp at rv
        refine ⟨rv, ?_⟩
        obtain ⟨o', ho', qo⟩ := p.outs 0 (.ins c []) x rfl rfl
        simp at ho'
        subst ho'
        have keep2 : ∀ b u, H1 b = some u → H2 b = some u := fun b u z => p.keep b u (keep1 b u z) fun y => by
          rw [inx b y, hx] at z; cases z
        have Fo : ∀ {b w}, F1 b = none → H1 b = some w → (∀ xs, w ≠ .tup xs) → F2 b = none := fun {b w} f hw nt => by
          cases y : F2 b with
          | none => rfl
          | some u =>
            rcases p.new b u y with z | z | ⟨xs', z⟩
            · rw [f] at z; cases z
            · rw [back1 b z] at hw; cases hw
            · subst z
              have := p.sub _ _ y
              rw [keep2 b w hw] at this
              cases this
              exact absurd rfl (nt xs')
        have Fx : F2 x = none := by
          cases y : F2 x with
          | none => rfl
          | some u =>
            rcases p.new x u y with z | z | ⟨xs', z⟩
            · rw [fx] at z; cases z
            · rw [upd_same] at z; cases z
            · subst z
              exact (notTup qo (p.sub _ _ y)).elim
        have S2 : Sim M ρ1 F2 σ H2 := by
          refine ⟨S1.len, p.sub, fun k d z => ?_, fun k o io z => ?_, fun i j o o' io io' a => S1.sep i j o o' io io' a⟩
          · obtain ⟨w, ew, rw'⟩ := S1.val k d z
            exact ⟨w, ew, Rp.mono p.fr _ _ rw'⟩
          · obtain ⟨a, ea, qa, fa⟩ := S1.own k o io z
            obtain ⟨w, hw⟩ := qa.some
            exact ⟨a, ea, qa.mono p.fr (fun u z => keep2 a u z), Fo fa hw fun xs' z => notTup qa (by rw [hw, z])⟩
        refine q (.ref x) H2 F2 S2 (T1.trans ⟨p.fr, fun b u z => ?_, fun b u z _ => keep2 b u z, fun b u z => ⟨u, keep2 b u z⟩, fun _ z => .inl z, fun _ z => .inl z, fun _ o z => ⟨rfl, o, z⟩, fun _ o z => ⟨o, z⟩⟩) ⟨x, rfl, qo, Fx, ?_, fun z => ?_⟩
        · rcases p.new b u z with z | z | z
          · exact .inl z
          · exact .inr (.inl (back1 b z))
          · exact .inr (.inr (.inr z))
        · cases y : H x with
          | none => rfl
          | some u => obtain ⟨o'', z⟩ := T1.there x u y; rw [hx] at z; cases z
        · obtain ⟨_, u, hu⟩ := S1.ownF z
          rw [hx] at hu; cases hu
    · cases e
  · cases e
/-- a class as it is known to those who make an instance -/
structure KnownC (P : Program) (w : World) (K : PySem.W.Frag) (mg : Str → Option Value) (base : Heap) (cls : Str → Addr) (k : Nat) (c : Str) (f : FS) : Prop where
  ex : ∃ (g : Addr) (fd : FuncData) (ps : List Str), Mk K (cls c) g ∧ mg c = some (.ref (cls c)) ∧ Binds K fd ps [] ∧ FnOk P w K mg base CX0 k g fd ps (spF ⟨K, cls⟩ f)
theorem KnownC.mono {P : Program} {w : World} {K : PySem.W.Frag} {mg : Str → Option Value} {base : Heap} {j k : Nat} {cls : Str → Addr} {c : Str} {f : FS} (h : KnownC P w K mg base cls j c f) (hj : j ≤ k) : KnownC P w K mg base cls k c f := by
  obtain ⟨g, fd, ps, a, b, d, e⟩ := h.ex
  exact ⟨g, fd, ps, a, b, d, e.mono hj⟩
theorem s_make {c : Str} {f : FS} {as : List AE} {k j : Nat} {p pos : Pos} {e : Expr} {es : List Expr} (G : KnownC X.prog X.w X.K X.mg X.base M.cls j c f) (hKM : M.K = X.K) (hr : Room k X.A) (hj : j + 1 ≤ k) (hg : Gl X c)
    (ha : ArA M X (e :: es) as) (hdb : (c == ("__debug__" : Str)) = false := by decide) (hpl : (backTo pos (starEach es X.env)).any (·.1) = false := by rfl) : Sx M X (.Call (.Name c p) (e :: es) [] pos) (sMake c f as) := by
  obtain ⟨g, fd, ps, a, b, d, F⟩ := G.ex
  have eM : M = ⟨X.K, M.cls⟩ := by cases M; cases hKM; rfl
  rw [← eM] at F
  have st : starEach (e :: es) X.env = (false, eval e X.env) :: starEach es X.env := by
    match as, ha with
    | .val _ :: _, ⟨_, h, _⟩ => exact h
    | .io _ :: _, ⟨_, h, _⟩ => exact h
  exact (pe_make a F (hr.mono hj) hg b d .nil pass0 ha.run hdb st hpl).imp i_make
end
end ET
set_option Elab.async false
set_option maxRecDepth 100000
/-! ET: dict(branches), d.get(k), d.get(k, e), len(d). -/
namespace ET
open PySem PySem.Spec PyProof.Rows L2

/-! ### dict(t): t a tuple of pairs, known without a dict -/
theorem pairs_two {X : Cx} {pins : List (Addr × Obj)} {σ : L2.St} {H : Hp} {s : Shared} (J : Inv X pins σ H s) : ∀ {ps : List Addr} {ws : List (Key × V)}, Paired (fun p kv => SqT X.K H p [kV kv.1, kv.2]) ps ws →
    ∃ (rs : List (Key × Value)) (us : List (Value × Value)), KV ws rs ∧ us.length = ps.length ∧ rs.length = ps.length ∧ ∀ (j : Nat) (k v : Value), us[j]? = some (k, v) → ∃ b q, ps[j]? = some b ∧ IsTup s.heap b #[k, v] ∧ rs[j]? = some (q, v) ∧ keyIs q k = true
  | _, _, .nil => ⟨[], [], .nil, rfl, rfl, fun j k v e => by simp at e⟩
  | _, _, .cons (a := p) (b := kv) h t => by
    obtain ⟨rs, us, r, l1, l2, f⟩ := pairs_two J t
    obtain ⟨its, rv, ht, _⟩ := J.tuple h
    obtain ⟨u, y, ei, ru, ry⟩ := vals2 rv
    subst ei
    refine ⟨(kv.1, y) :: rs, (u, y) :: us, .cons ⟨rfl, ry⟩ r, by simp [l1], by simp [l2], fun j k v e => ?_⟩
    cases j with
    | zero =>
      cases e
      exact ⟨p, kv.1, rfl, ht, rfl, kV_is (P := X.prog) (w := X.w) ru⟩
    | succ j =>
      obtain ⟨b, q, e1, e2, e3, e4⟩ := f j k v (by simpa using e)
      exact ⟨b, q, by simpa using e1, e2, by simpa using e3, e4⟩
def rDictM (K : PySem.W.Frag) : List V → Hp → VK → Prop := fun xs H Q => ∃ (a : Addr) (o : Obj) (ps : List Addr) (ws : List (Key × V)), xs = [.ref a] ∧ o.dict = none ∧ H a = some (.frz o (.tup (ps.map V.ref))) ∧ Paired (fun p kv => SqT K H p [kV kv.1, kv.2]) ps ws ∧
  ∀ p, H p = none → Q (.ref p) (upd H p (.dK (mergeK [] ws)))
theorem call_dictM {X : Cx} (hc : X.calm = true) : CallR X (.type "dict") (rDictM X.K) := by
  intro pins s σ H xs us Q J r h
  obtain ⟨a, o, ps, ws, rfl, hd, hf, hp, q⟩ := h
  obtain ⟨u, rfl, rx⟩ := vals1 r
  cases rx
  obtain ⟨g, z, its, rv, o', g', hcl, n, hdat⟩ := J.hok a _ hf
  rw [g] at g'
  cases g'
  have ei := refs_at rv
  subst ei
  rw [List.length_map] at z
  obtain ⟨rs, uv, rel, l1, l2, f⟩ := pairs_two J hp
  have P := PairArg.tuple (prog := X.prog) (w := X.w) a (ps.map Value.ref).toArray (fun j => (ps[j]?).getD 0) uv
  have hz : uv.length ≤ sizeLine := by rw [l1]; exact z
  refine PySem.call_dict_pairs (knd := mixKind X.prog X.w) (kvs := rs) P (J.ok.hd hc) ⟨⟨o, n, g, hcl, hd, hdat⟩, by simp [l1], fun j k v e => ?_⟩ ⟨l2.trans l1.symm, fun j k v e => ?_⟩ hz fun h' tk hd' kp => ?_
  · obtain ⟨b, q', e1, e2, e3, e4⟩ := f j k v e
    refine ⟨?_, .inl ?_⟩
    · simp [e1]
    · show IsTup s.heap ((ps[j]?).getD 0) #[k, v]
      rw [e1]
      exact e2
  · obtain ⟨b, q', e1, e2, e3, e4⟩ := f j k v e
    exact ⟨q', e3, e4⟩
  · have hm : (s.heap.objs.size == sysModules) = false := beq_eq_false_iff_ne.mpr (Nat.ne_of_gt J.big)
    have hl : (mergeK [] ws).length ≤ sizeLine := by
      have a1 := length_mergeK ws []
      have a2 := rel.length
      simp only [List.length_nil] at a1
      omega
    exact ⟨.ref s.heap.objs.size, upd H s.heap.objs.size (.dK (mergeK [] ws)), J.laid (t' := tk) (fun b ob w => kp b ob (by simp) w) (Nat.le_refl _) ⟨hl, hm, merged [] rs, KV.merge rel .nil, hd'⟩, rfl, q _ (J.hok.fresh (Nat.le_refl _))⟩

/-- the pairs of branches -/
def brOf : List D → Option (List (Int × D))
  | [] => some []
  | .tup [.int k, d] :: r => (brOf r).map ((k, d) :: ·)
  | _ => none
def mrgD (kvs more : List (Int × D)) : List (Int × D) := more.foldl (fun acc kv => putD acc kv.1 kv.2) kvs
def sDict (x : DO) : SE := fun ρ => (x.ev ρ).bind fun a => (x.fin a.1 a.2).bind fun u => match u with
  | .tup ds => if brs ds = true then (brOf ds).bind fun kvs => some (.own (.dk (mrgD [] kvs)) false, a.2) else none
  | _ => none
theorem brs_cst {ds : List D} (h : brs ds = true) : cst ds = false := by
  unfold brs at h
  split at h
  · rfl
  · cases h
theorem KVg.mrg {K : PySem.W.Frag} {F : Hp} : ∀ {ms : List (Int × D)} {ns : List (Key × V)} {ws : List (Key × V)} {kvs : List (Int × D)}, KVi K F ns ms → KVi K F ws kvs → KVi K F (mergeK ws ns) (mrgD kvs ms)
  | [], [], _, _, _, r => r
  | (i, d) :: ms, (k, v) :: ns, ws, kvs, h, r => by
    obtain ⟨e, h1, h2⟩ := h
    subst e
    exact KVg.mrg (ms := ms) (ns := ns) h2 (KVg.put inl_inj i h1 r)
  | [], _ :: _, _, _, h, _ => h.elim
  | _ :: _, [], _, _, h, _ => h.elim
theorem brOf_at {K : PySem.W.Frag} {F H : Hp} (s : Same F H) : ∀ {ds : List D} {vs : List V} {kvs : List (Int × D)}, RpAll K F vs ds → brOf ds = some kvs → ∃ (ps : List Addr) (ws : List (Key × V)), vs = ps.map V.ref ∧ Paired (fun p kv => SqT K H p [kV kv.1, kv.2]) ps ws ∧ KVi K F ws kvs
  | [], vs, kvs, r, e => by
    cases e
    unfold RpAll at r
    exact ⟨[], [], r, .nil, trivial⟩
  | d :: ds, vs, kvs, r, e => by
    unfold brOf at e
    split at e
    · cases ‹_ :: _ = []›
    · rename_i k x r' hd
      cases hd
      obtain ⟨ms, e1, e2⟩ := Option.map_eq_some_iff.mp e
      subst e2
      unfold RpAll at r
      obtain ⟨v, ws', rfl, r1, r2⟩ := r
      obtain ⟨ps, ws, ep, hp, hk⟩ := brOf_at s r2 e1
      unfold Rp at r1
      obtain ⟨b, us, rfl, hb, ru⟩ := r1
      unfold RpAll at ru
      obtain ⟨v1, us1, rfl, q1, ru⟩ := ru
      unfold RpAll at ru
      obtain ⟨v2, us2, rfl, q2, ru⟩ := ru
      unfold RpAll at ru
      subst ru
      unfold Rp at q1
      subst q1
      exact ⟨b :: ps, (.inl k, v2) :: ws, by rw [ep]; rfl, .cons (TpAt.mono s hb).sq hp, rfl, q2, hk⟩
    · cases e
section
variable {M : Md} {X : Cx} {a : Expr} {x : DO}
theorem s_dictB {n : Str} {p pos : Pos} (hKM : M.K = X.K) (hc : X.calm = true) (hg : Gl X n) (hm : X.mg n = none) (hv : bootBuiltins n = some (.type "dict")) (ha : Opd M X a x)
    (hn : n ≠ "__name__" := by decide) (hdb : (n == ("__debug__" : Str)) = false := by decide) (he : starEach [a] X.env = (false, eval a X.env) :: starEach [] X.env := by rfl) : Sx M X (.Call (.Name n p) [a] [] pos) (sDict x) :=
  (pe_callTy (call_dictM hc) hg hm hv (pa_cons ha.run pa_nil he) hn hdb he).imp fun σ H Q ⟨ρ, F, d, ρ', S, e, q⟩ => by
    unfold sDict at e
    obtain ⟨⟨r1, ρ1⟩, e1, e⟩ := Option.bind_eq_some_iff.mp e
    obtain ⟨u, e3, e⟩ := Option.bind_eq_some_iff.mp e
    refine ⟨ρ, F, r1, ρ1, S, e1, fun v H1 F1 S1 T1 h1 => ?_⟩
    have hb := h1.bor S1 e3
    cases u <;> first | cases e | skip
    rename_i ds
    dsimp only at e
    split at e
    · rename_i hbr
      obtain ⟨kvs, e4, e⟩ := Option.bind_eq_some_iff.mp e
      cases e
      have hr := hb.rp (fun ds q => by cases q)
      unfold Rp at hr
      obtain ⟨b, vs, rfl, ht, rv⟩ := hr
      obtain ⟨ps, ws, rfl, hp, hk⟩ := brOf_at S1.sub rv e4
      rcases ht with ⟨c, _⟩ | ⟨_, o, hd, hf⟩ | ⟨c, _⟩
      · rw [hbr] at c; cases c
      · rw [hKM] at hp
        refine ⟨b, o, ps, ws, rfl, hd, S1.sub _ _ hf, hp, fun p hp => ?_⟩
        have nn := New.obj S1.sub hp (.dK (mergeK [] ws))
        obtain ⟨S2, T2⟩ := S1.new nn
        obtain ⟨f1, f2, f3⟩ := fresh_of S1 T1 hp
        exact q _ _ _ S2 (T1.trans T2) ⟨p, rfl, ⟨_, upd_same, KVg.mrg hk (show KVi M.K F1 [] [] from trivial)⟩, f1, f2, f3⟩
      · rw [brs_cst hbr] at c; cases c
    · cases e
end
/-! ### d.get(k), d.get(k, e), len(d) -/
def dDGet1 (i : Nat) (a : DE) : DE := fun ρ => (ownO i ρ).bind fun o0 => if isDk o0.1 = true then (a ρ).bind fun x => (ownO i x.2).bind fun o => (dGet o.1 x.1).bind fun r => some (r.getD .non, x.2) else none
def dDGet2 (i : Nat) (a b : DE) : DE := fun ρ => (ownO i ρ).bind fun o0 => if isDk o0.1 = true then (a ρ).bind fun x => (b x.2).bind fun y => (ownO i y.2).bind fun o => (dGet o.1 x.1).bind fun r => some (r.getD y.1, y.2) else none
def dDLen (i : Nat) : DE := fun ρ => match ρ[i]? with
  | some (some (.own (.dk kvs) _)) => some (.int kvs.length, ρ)
  | _ => none
section
variable {M : Md} {X : Cx} {e f : Expr} {i : Nat}
theorem isDk_at {F H : Hp} {b : Addr} {o : Own} (h : OwnAt M F H b o) (k : isDk o = true) : IsD H b := by
  cases o with
  | dk kvs => obtain ⟨ws, hw, _⟩ := h; exact .inl ⟨ws, .inl hw⟩
  | dt kvs => obtain ⟨ws, hw, _⟩ := h; exact .inr ⟨ws, .inl hw⟩
  | _ => cases k
theorem FndAt.getD {F : Hp} {u : Option V} {r : Option D} {v : V} {d : D} (h : FndAt M.K F u r) (q : Rp M.K F v d) : Rp M.K F (u.getD v) (r.getD d) := by
  cases r with
  | none => rw [show u = none from h]; exact q
  | some d' => obtain ⟨v', e, r'⟩ := h; rw [e]; exact r'
theorem x_dget1 {a : DE} (h : PE X e (tDGet1 (tVar i) (tD M a))) : Ex M X e (dDGet1 i a) := h.imp fun σ H Q ⟨ρ, F, d, ρ', S, e, q⟩ => by
  unfold dDGet1 at e
  obtain ⟨⟨o0, io0⟩, h0, e⟩ := Option.bind_eq_some_iff.mp e
  split at e
  · rename_i hk
    obtain ⟨⟨x, ρ1⟩, e1, e⟩ := Option.bind_eq_some_iff.mp e
    obtain ⟨⟨o, io⟩, e2, e⟩ := Option.bind_eq_some_iff.mp e
    obtain ⟨r, e3, e⟩ := Option.bind_eq_some_iff.mp e
    cases e
    obtain ⟨b, eb, qb, _⟩ := S.own i _ _ (ownO_has h0)
    refine ⟨_, eb, b, rfl, isDk_at qb hk, ρ, F, x, ρ1, S, e1, fun y H1 F1 S1 T1 r1 => ?_⟩
    obtain ⟨c, ec, qc, fc⟩ := S1.own i _ _ (ownO_has e2)
    rw [eb] at ec
    cases ec
    obtain ⟨u, g, fn⟩ := dGet_at qc S1.sub r1 e3
    refine ⟨u, g, q _ H1 F1 S1 T1 (fn.getD ?_)⟩
    unfold Rp; rfl
  · cases e
theorem x_dget2 {a b : DE} (h : PE X e (tDGet2 (tVar i) (tD M a) (tD M b))) : Ex M X e (dDGet2 i a b) := h.imp fun σ H Q ⟨ρ, F, d, ρ', S, e, q⟩ => by
  unfold dDGet2 at e
  obtain ⟨⟨o0, io0⟩, h0, e⟩ := Option.bind_eq_some_iff.mp e
  split at e
  · rename_i hk
    obtain ⟨⟨x, ρ1⟩, e1, e⟩ := Option.bind_eq_some_iff.mp e
    obtain ⟨⟨y, ρ2⟩, e2, e⟩ := Option.bind_eq_some_iff.mp e
    obtain ⟨⟨o, io⟩, e4, e⟩ := Option.bind_eq_some_iff.mp e
    obtain ⟨r, e3, e⟩ := Option.bind_eq_some_iff.mp e
    cases e
    obtain ⟨b, eb, qb, _⟩ := S.own i _ _ (ownO_has h0)
    refine ⟨_, eb, b, rfl, isDk_at qb hk, ρ, F, x, ρ1, S, e1, fun v H1 F1 S1 T1 r1 => ⟨ρ1, F1, y, _, S1, e2, fun v2 H2 F2 S2 T2 r2 => ?_⟩⟩
    obtain ⟨c, ec, qc, fc⟩ := S2.own i _ _ (ownO_has e4)
    rw [eb] at ec
    cases ec
    obtain ⟨u, g, fn⟩ := dGet_at qc S2.sub (Rp.mono T2.fr _ _ r1) e3
    exact ⟨u, g, q _ H2 F2 S2 (T1.trans T2) (fn.getD r2)⟩
  · cases e
theorem x_dlen {n : Str} {p pos : Pos} (hg : Gl X n) (hm : X.mg n = none) (hv : bootBuiltins n = some (.builtin "len")) (ha : PE X e (tVar i))
    (hn : n ≠ "__name__" := by decide) (hdb : (n == ("__debug__" : Str)) = false := by decide) (he : starEach [e] X.env = (false, eval e X.env) :: starEach [] X.env := by rfl) : Ex M X (.Call (.Name n p) [e] [] pos) (dDLen i) :=
  (pe_callB call_lenD hg hm hv (pa_cons ha pa_nil he) hn hdb he).imp fun σ H Q ⟨ρ, F, d, ρ', S, e, q⟩ => by
    unfold dDLen at e
    split at e
    · rename_i kvs io h
      cases e
      obtain ⟨b, eb, ⟨ws, hw, kv⟩, _⟩ := S.own i _ _ h
      refine ⟨_, eb, b, ws, rfl, hw, q _ H F S .refl ?_⟩
      unfold Rp
      rw [kv.length]
    · cases e
end
end ET
namespace ET
open PySem L2
section
variable {P : Program} {w : World} {K : PySem.W.Frag} {mg : Str → Option Value} {base : Heap}
/-- a def known by another name -/
theorem fn_knownA {g x qual : Str} {params : Arguments} {body : List Stmt} {sc : Scope} {f : Addr} {fd : FuncData} {N ps : List Str} {k : Nat} {cls : Str → Addr} {b : DS} (F : FunD K x qual params body sc [] [] f fd) (hm : mg g = some (.ref f)) (S : FnScope N ps sc) (hp : ps.length ≤ N.length)
    (hB : ∀ (kV doc pm : Value) (an : Option Addr) (cdv ct : Value) (us : List Value), us.length = ps.length → bindArgs (PySem.W.fnOf x qual params body sc .none kV doc pm an cdv ct) ⟨us, []⟩ = pure (ps.zip us))
    (hb : ∀ (cdv : Value) (A : Around) (outer : List PySem.Env) (s : Shared) (H : Hp) (E : XK), Room k (A.deeper (PyProof.Rows.envOfC qual sc s.heap.objs.size f cdv)) → Ss ⟨K, cls⟩ (bodyX P w K mg base N qual sc f cdv A outer s H E) body b) :
    Known P w K mg base cls (k + 1) g (runF ps.length N.length b) := ⟨f, fd, ps, hm, F.kp, F.bindsN hB, fn_ok F S hp hb⟩
/-- a method | a class's __init__ is known by its body -/
theorem fn_knownM {c x qual : Str} {params : Arguments} {body : List Stmt} {sc : Scope} {f : Addr} {fd : FuncData} {N ps : List Str} {k : Nat} {cls : Str → Addr} {b : DS} (F : FunD K x qual params body sc [] [] f fd) (hC : Cls K (cls c)) (hM : Meth K (cls c) x f) (S : FnScope N ps sc) (hp : ps.length ≤ N.length)
    (hB : ∀ (kV doc pm : Value) (an : Option Addr) (cdv ct : Value) (us : List Value), us.length = ps.length → bindArgs (PySem.W.fnOf x qual params body sc .none kV doc pm an cdv ct) ⟨us, []⟩ = pure (ps.zip us))
    (hb : ∀ (cdv : Value) (A : Around) (outer : List PySem.Env) (s : Shared) (H : Hp) (E : XK), Room k (A.deeper (PyProof.Rows.envOfC qual sc s.heap.objs.size f cdv)) → Ss ⟨K, cls⟩ (bodyX P w K mg base N qual sc f cdv A outer s H E) body b) :
    KnownM P w K mg base cls (k + 1) c x (runF ps.length N.length b) := ⟨hC, f, fd, ps, hM, F.bindsN hB, fn_ok F S hp hb⟩
theorem fn_knownC {c x qual : Str} {params : Arguments} {body : List Stmt} {sc : Scope} {f : Addr} {fd : FuncData} {N ps : List Str} {k : Nat} {cls : Str → Addr} {b : DS} (F : FunD K x qual params body sc [] [] f fd) (hK : Mk K (cls c) f) (hm : mg c = some (.ref (cls c))) (S : FnScope N ps sc) (hp : ps.length ≤ N.length)
    (hB : ∀ (kV doc pm : Value) (an : Option Addr) (cdv ct : Value) (us : List Value), us.length = ps.length → bindArgs (PySem.W.fnOf x qual params body sc .none kV doc pm an cdv ct) ⟨us, []⟩ = pure (ps.zip us))
    (hb : ∀ (cdv : Value) (A : Around) (outer : List PySem.Env) (s : Shared) (H : Hp) (E : XK), Room k (A.deeper (PyProof.Rows.envOfC qual sc s.heap.objs.size f cdv)) → Ss ⟨K, cls⟩ (bodyX P w K mg base N qual sc f cdv A outer s H E) body b) :
    KnownC P w K mg base cls (k + 1) c (runF ps.length N.length b) := ⟨f, fd, ps, hK, hm, F.bindsN hB, fn_ok F S hp hb⟩
theorem KnownM.cls {cls : Str → Addr} {k : Nat} {c m : Str} {f : FS} (h : KnownM P w K mg base cls k c m f) : Cls K (cls c) := h.ex.1
end
section
variable {M : Md} {X : Cx} {a b c : Expr} {pos : Pos}
/-- e if c else f, what is new stays one's own -/
theorem s_if {k : DT} {u w : SE} (hc : Te M X c k) (ha : Sx M X a u) (hb : Sx M X b w) : Sx M X (.IfExp c a b pos) (sIf k u w) := (pe_ifExp hc ha hb).imp fun σ H Q ⟨ρ, F, d, ρ', S, e, q⟩ => by
  have back : ∀ {H1 F1 ρ1 F2 H2 v}, Step ρ σ F H ρ1 σ F1 H1 → SlAt M ρ' σ H1 F2 H2 v d → SlAt M ρ' σ H F2 H2 v d := fun {H1 F1 ρ1 F2 H2 v} T1 r => by
    cases d with
    | val d => exact r
    | own o io =>
      obtain ⟨x, ex, qx, fx, hx, nx⟩ := r
      refine ⟨x, ex, qx, fx, ?_, nx⟩
      cases z : H x with
      | none => rfl
      | some y => obtain ⟨y', z'⟩ := T1.there x y z; rw [hx] at z'; cases z'
  unfold sIf at e
  obtain ⟨⟨k, ρ1⟩, e1, e⟩ := Option.bind_eq_some_iff.mp e
  refine ⟨ρ, F, k, ρ1, S, e1, fun H1 F1 S1 T1 => ?_⟩
  cases k with
  | true =>
    rw [if_pos rfl] at e ⊢
    exact ⟨ρ1, F1, d, ρ', S1, e, fun v H2 F2 S2 T2 r2 => q v H2 F2 S2 (T1.trans T2) (back T1 r2)⟩
  | false =>
    rw [if_neg Bool.false_ne_true] at e ⊢
    exact ⟨ρ1, F1, d, ρ', S1, e, fun v H2 F2 S2 T2 r2 => q v H2 F2 S2 (T1.trans T2) (back T1 r2)⟩
end
end ET
set_option Elab.async false
set_option maxRecDepth 100000
/-! ET: tables of sets, of any size up to 8192 slots. -/
namespace ET
open PySem PySem.Spec PyProof.Rows L2
/-- one less than a power of two -/
def MaskG (m : Nat) : Prop := ∃ k, 3 ≤ k ∧ k ≤ 13 ∧ m + 1 = 2 ^ k
/-- x -> 5 x + 1, n times -/
def five : Nat → Nat → Nat
  | 0, x => x
  | n + 1, x => five n x * 5 + 1
theorem five_add (a x : Nat) : ∀ b, five (a + b) x = five b (five a x)
  | 0 => rfl
  | b + 1 => by
    show five (a + b) x * 5 + 1 = five b (five a x) * 5 + 1
    rw [five_add a x b]
theorem five_pow : ∀ k : Nat, ∃ a b : Nat, ∀ x, five (2 ^ k) x = x + 4 * 2 ^ k * (a * x) + 2 ^ k * (2 * b + 1)
  | 0 => ⟨1, 0, fun x => by show x * 5 + 1 = _; omega⟩
  | k + 1 => by
    obtain ⟨a, b, h⟩ := five_pow k
    refine ⟨a + 2 * 2 ^ k * (a * a), b + 2 ^ k * a * (2 * b + 1), fun x => ?_⟩
    have e : 2 ^ (k + 1) = 2 ^ k + 2 ^ k := by rw [Nat.pow_succ]; omega
    rw [e, five_add, h, h]
    generalize 2 ^ k = N
    simp only [Nat.mul_add, Nat.add_mul, Nat.mul_one, Nat.one_mul]
    have c1 : 4 * N * (a * (4 * N * (a * x))) = 16 * (N * N * (a * a) * x) := by
      simp only [Nat.mul_assoc, Nat.mul_left_comm, Nat.mul_comm]
    have c2 : 4 * N * (a * (N * (2 * b))) = 8 * (N * N * a * b) := by
      simp only [Nat.mul_assoc, Nat.mul_left_comm, Nat.mul_comm]
    have c3 : 4 * N * (a * N) = 4 * (N * N * a) := by
      simp only [Nat.mul_assoc, Nat.mul_left_comm, Nat.mul_comm]
    have d1 : 4 * N * (2 * N * (a * a) * x) = 8 * (N * N * (a * a) * x) := by
      simp only [Nat.mul_assoc, Nat.mul_left_comm, Nat.mul_comm]
    have d2 : N * (2 * (N * a * (2 * b))) = 4 * (N * N * a * b) := by
      simp only [Nat.mul_assoc, Nat.mul_left_comm, Nat.mul_comm]
    have d3 : N * (2 * (N * a)) = 2 * (N * N * a) := by
      simp only [Nat.mul_assoc, Nat.mul_left_comm, Nat.mul_comm]
    rw [c1, c2, c3, d1, d2, d3]
    generalize N * N * (a * a) * x = u1
    generalize N * N * a * b = u2
    generalize N * N * a = u3
    generalize N * (2 * b) = u4
    generalize 4 * N * (a * x) = u5
    omega
theorem five_all : ∀ k x y : Nat, ∃ n, n < 2 ^ k ∧ five n x % 2 ^ k = y % 2 ^ k
  | 0, x, y => ⟨0, by simp, by simp [Nat.mod_one]⟩
  | k + 1, x, y => by
    obtain ⟨n, hn, e⟩ := five_all k x y
    obtain ⟨a, b, h⟩ := five_pow k
    have hp : 0 < 2 ^ k := Nat.pow_pos (by decide)
    have e2 : 2 ^ (k + 1) = 2 ^ k * 2 := Nat.pow_succ ..
    rw [e2]
    by_cases hq : five n x / 2 ^ k % 2 = y / 2 ^ k % 2
    · exact ⟨n, by omega, by rw [Nat.mod_mul, Nat.mod_mul, e, hq]⟩
    · refine ⟨n + 2 ^ k, by omega, ?_⟩
      rw [five_add, h, Nat.mod_mul, Nat.mod_mul]
      generalize five n x = z at *
      generalize 2 ^ k = N at *
      have r : z + 4 * N * (a * z) + N * (2 * b + 1) = z + N * (4 * (a * z) + (2 * b + 1)) := by
        have r2 : 4 * N * (a * z) = N * (4 * (a * z)) := by simp only [Nat.mul_assoc, Nat.mul_left_comm, Nat.mul_comm]
        rw [r2, Nat.add_assoc, ← Nat.mul_add N]
      rw [r, Nat.add_mul_mod_self_left, Nat.add_mul_div_left _ _ hp, e]
      congr 1
      congr 1
      omega
theorem lcgI_five (m i : Nat) (hi : i ≤ m) : ∀ n, lcgI m i n = five n i % (m + 1)
  | 0 => (Nat.mod_eq_of_lt (Nat.lt_succ_of_le hi)).symm
  | n + 1 => by
    show (lcgI m i n * 5 + 1) % (m + 1) = (five n i * 5 + 1) % (m + 1)
    rw [lcgI_five m i hi n]
    rw [Nat.add_mod, Nat.mul_mod, Nat.mod_mod, ← Nat.mul_mod, ← Nat.add_mod]
theorem lcgG {m : Nat} (hm : MaskG m) {i j : Nat} (hi : i ≤ m) (hj : j ≤ m) : ∃ k, k ≤ m ∧ lcgI m i k = j := by
  obtain ⟨k, _, _, e⟩ := hm
  obtain ⟨n, hn, z⟩ := five_all k i j
  refine ⟨n, by omega, ?_⟩
  rw [lcgI_five m i hi, e, z]
  exact Nat.mod_eq_of_lt (by omega)
theorem run_meetsG {m : Nat} (hm : MaskG m) (h : Int) {j : Nat} (hj : j ≤ m) : ∃ n, n ≤ m + 12 ∧ runI m (SetTable.bits h) n = j := by
  obtain ⟨k, hk, e⟩ := lcgG hm (runI_le m (SetTable.bits h) 12) hj
  exact ⟨12 + k, by omega, (runI_tail (bits_lt h) k).trans e⟩
theorem way_bd {m : Nat} {h : Int} {k : Nat} : way m h k ≤ m := by
  have hi : SetTable.bits h % (m + 1) ≤ m := Nat.le_of_lt_succ (Nat.mod_lt _ (Nat.succ_pos _))
  have r := runEnd_bd hi
  have q := nth_in (m := m) k (runAt m (SetTable.bits h % (m + 1)) (SetTable.bits h)) (by unfold runAt; dsimp only; omega)
  unfold way
  omega
theorem way_meets {m : Nat} (hm : MaskG m) (h : Int) {j : Nat} (hj : j ≤ m) : ∃ k, k < 10 * SetTable.turns m ∧ way m h k = j := by
  obtain ⟨n, hn, e⟩ := run_meetsG hm h hj
  obtain ⟨k, hk, e2⟩ := run_nth m (SetTable.bits h) n
  exact ⟨k, by unfold SetTable.turns; omega, by unfold way; rw [e2]; exact e⟩
/-! ### a table: each entry stands on its hash's way, behind taken slots alone -/
structure TabG (t : SetTable) (hs : List Int) : Prop where
  ris : Ris t.place.toList
  dm : t.dummies = #[]
  sz : t.place.toList.length = hs.length
  mok : MaskG t.mask
  bd : ∀ x ∈ t.place.toList, x ≤ t.mask
  onw : ∀ q ∈ t.place.toList.zip hs, ∃ k, way t.mask q.2 k = q.1 ∧ ∀ c < k, way t.mask q.2 c ∈ t.place.toList
theorem zip_at {α β : Type} {l : List α} {m : List β} {i : Nat} {x : α} {y : β} (h1 : l[i]? = some x) (h2 : m[i]? = some y) : (x, y) ∈ l.zip m := by
  have : (l.zip m)[i]? = some (x, y) := by rw [List.getElem?_zip_eq_some]; exact ⟨h1, h2⟩
  exact List.mem_of_getElem? this
/-- the first slot on a hash's way that is not taken -/
theorem TabG.first {t : SetTable} {hs : List Int} (T : TabG t hs) (hl : hs.length ≤ t.mask) (h : Int) : ∃ K, K < 10 * SetTable.turns t.mask ∧ way t.mask h K ∉ t.place.toList ∧ ∀ k, k < K → way t.mask h k ∈ t.place.toList := by
  obtain ⟨j, hj, hn⟩ := st_missing t.place.toList (t.mask + 1) (by have := T.sz; omega)
  obtain ⟨k, hk, e⟩ := way_meets T.mok h (Nat.le_of_lt_succ hj)
  obtain ⟨K, h1, h2, h3⟩ := st_least (p := fun k => way t.mask h k ∉ t.place.toList) k (by rw [e]; exact hn)
  exact ⟨K, by omega, h2, fun c hc => Classical.byContradiction fun z => h3 c hc z⟩
theorem TabG.before {t : SetTable} {hs : List Int} (T : TabG t hs) {h : Int} {K i j : Nat} (hK : way t.mask h K ∉ t.place.toList) (hi : hs[i]? = some h) (hj : t.place.toList[i]? = some j) : ∃ k, k < K ∧ way t.mask h k = j := by
  obtain ⟨k, e, hb⟩ := T.onw (j, h) (zip_at hj hi)
  refine ⟨k, Nat.lt_of_not_le fun z => ?_, e⟩
  rcases Nat.eq_or_lt_of_le z with c | c
  · subst c; rw [e] at hK; exact hK (List.mem_of_getElem? hj)
  · exact hK (hb K c)
theorem take_zips {α β : Type} : ∀ (p : Nat) (l : List α) (m : List β), (l.take p).zip (m.take p) = (l.zip m).take p
  | 0, _, _ => by simp
  | p + 1, [], _ => by simp
  | p + 1, _ :: _, [] => by simp
  | p + 1, a :: l, b :: m => by simp [take_zips p l m]
theorem drop_zips {α β : Type} : ∀ (p : Nat) (l : List α) (m : List β), (l.drop p).zip (m.drop p) = (l.zip m).drop p
  | 0, _, _ => by simp
  | p + 1, [], _ => by simp
  | p + 1, _ :: _, [] => by simp
  | p + 1, a :: l, b :: m => by simp [drop_zips p l m]
theorem zip_ins {α β : Type} (l : List α) (m : List β) (hl : l.length = m.length) (p : Nat) (x : α) (y : β) : (l.take p ++ x :: l.drop p).zip (m.take p ++ y :: m.drop p) = (l.zip m).take p ++ (x, y) :: (l.zip m).drop p := by
  rw [List.zip_append (by rw [List.length_take, List.length_take, hl]), List.zip_cons_cons, take_zips, drop_zips]
/-- one more put where its way meets the first free slot -/
theorem TabG.put {t : SetTable} {hs : List Int} (T : TabG t hs) {h : Int} {K : Nat} (hK : way t.mask h K ∉ t.place.toList) (hb : ∀ k, k < K → way t.mask h k ∈ t.place.toList) {p : Nat} (hp : p = SetTable.below t.place (way t.mask h K)) :
    TabG (t.put (way t.mask h K)).1 (hs.take p ++ h :: hs.drop p) ∧ p ≤ hs.length := by
  have hpp := put_place t (way t.mask h K)
  have hm : (t.put (way t.mask h K)).1.mask = t.mask := rfl
  have c1 := (below_cut T.ris (way t.mask h K)).1
  have hnp : t.place[SetTable.below t.place (way t.mask h K)]? ≠ some (way t.mask h K) := fun e => hK (List.mem_of_getElem? (by rw [Array.getElem?_toList]; exact e))
  have up : ∀ x, x ∈ t.place.toList → x ∈ (t.put (way t.mask h K)).1.place.toList := fun x hx => by rw [hpp]; exact mem_ins.2 (.inr hx)
  have hl : p ≤ t.place.toList.length := by rw [Array.length_toList, hp]; exact c1
  have hl2 : p ≤ hs.length := by have := T.sz; omega
  refine ⟨⟨ris_insert T.ris hnp, put_dm T.dm _, ?_, T.mok, fun x hx => ?_, fun q hq => ?_⟩, hl2⟩
  · rw [hpp, ← hp, len_ins _ hl, len_ins _ hl2, T.sz]
  · rw [hpp] at hx
    rcases mem_ins.1 hx with z | z
    · rw [z]; exact way_bd
    · exact T.bd x z
  · rw [hpp, ← hp, zip_ins _ _ T.sz] at hq
    rw [hm]
    rcases mem_ins.1 hq with z | z
    · subst z
      exact ⟨K, rfl, fun c hc => up _ (hb c hc)⟩
    · obtain ⟨k, e, w⟩ := T.onw q z
      exact ⟨k, e, fun c hc => up _ (w c hc)⟩
/-! ### laid anew -/
theorem freeG {m : Nat} (hm : MaskG m) (owner : Array (Option Nat)) (h : Int) {j : Nat} (hj : j ≤ m) (hf : oAt owner j = none) :
    ∃ K, SetTable.layClean.free m owner (SetTable.turns m) (SetTable.bits h % (m + 1)) (SetTable.bits h) = some (way m h K) ∧ oAt owner (way m h K) = none ∧ ∀ k, k < K → oAt owner (way m h k) ≠ none := by
  obtain ⟨n, hn, e⟩ := run_meetsG hm h hj
  have ho : nth m (runAt m (SetTable.bits h % (m + 1)) (SetTable.bits h)) (off m (SetTable.bits h % (m + 1)) (SetTable.bits h) n) = runAt m j (SetTable.bits h / 32 ^ n) := by rw [nth_off, itL_run, e]
  obtain ⟨K, k1, k2, k3⟩ := st_least (p := fun k => oAt owner (way m h k) = none) (off m (SetTable.bits h % (m + 1)) (SetTable.bits h) n) (by unfold way; rw [ho]; exact hf)
  refine ⟨K, free_spec m owner (SetTable.turns m) n _ _ K (by unfold SetTable.turns; omega) k1 (fun k hk => ?_) ?_, k2, k3⟩
  · have q := k3 k hk
    unfold way at q
    cases z : oAt owner (nth m (runAt m (SetTable.bits h % (m + 1)) (SetTable.bits h)) k).j with
    | none => exact absurd z q
    | some _ => rfl
  · unfold way at k2
    rw [k2]; rfl
theorem ownG {m : Nat} (hm : MaskG m) {done : List Int} {owner : Array (Option Nat)} (W : L2.Own m done owner) (hl : done.length ≤ m) (h : Int) :
    ∃ j, SetTable.layClean.free m owner (SetTable.turns m) (SetTable.bits h % (m + 1)) (SetTable.bits h) = some j ∧ L2.Own m (done ++ [h]) (owner.setIfInBounds j (some done.length)) := by
  obtain ⟨ps, hps, hin⟩ := W.ps
  obtain ⟨j0, h0, hn0⟩ := st_missing ps (m + 1) (by omega)
  obtain ⟨K, e1, e2, e3⟩ := freeG hm owner h (Nat.le_of_lt_succ h0) (Classical.byContradiction fun z => hn0 (hin j0 (Nat.le_of_lt_succ h0) z))
  have hjm : way m h K ≤ m := way_bd
  refine ⟨_, e1, ?_⟩
  generalize hw : way m h K = j at *
  have hself : oAt (owner.setIfInBounds j (some done.length)) j = some done.length := oAt_set_self _ (by rw [W.sz]; omega)
  have other : ∀ i, i ≠ j → oAt (owner.setIfInBounds j (some done.length)) i = oAt owner i := fun i hi => oAt_set_ne _ hi
  have mono : ∀ i, oAt owner i ≠ none → oAt (owner.setIfInBounds j (some done.length)) i ≠ none := fun i hi => by
    rcases Classical.em (i = j) with c | c
    · rw [c, hself]; simp
    · rw [other i c]; exact hi
  refine ⟨by rw [Array.size_setIfInBounds]; exact W.sz, fun i k hi e => ?_, fun k hk => ?_, j :: ps, by simp [hps], fun i hi e => ?_⟩
  · rcases Classical.em (i = j) with c | c
    · rw [c, hself] at e
      have ek := Option.some.inj e
      exact ⟨h, K, by rw [← ek]; simp, by rw [c]; exact hw, fun c hc => mono _ (e3 c hc)⟩
    · rw [other i c] at e
      obtain ⟨h', K', a1, a2, a3⟩ := W.at_ i k hi e
      exact ⟨h', K', by rw [List.getElem?_append_left (List.getElem?_eq_some_iff.mp a1).1]; exact a1, a2, fun c hc => mono _ (a3 c hc)⟩
  · rcases Classical.em (k < done.length) with c | c
    · obtain ⟨i, hi, e⟩ := W.all k c
      refine ⟨i, hi, ?_⟩
      rw [other i fun z => by rw [z, e2] at e; cases e]
      exact e
    · have ek : k = done.length := by simp at hk; omega
      exact ⟨j, hjm, by rw [ek]; exact hself⟩
  · rcases Classical.em (i = j) with c | c
    · simp [c]
    · rw [other i c] at e
      exact List.mem_cons_of_mem _ (hin i hi e)
theorem foldG {m : Nat} (hm : MaskG m) : ∀ (rest done : List Int) (owner : Array (Option Nat)), L2.Own m done owner → done.length + rest.length ≤ m →
    ∃ o', rest.foldl (stepF m) (some (owner, done.length)) = some (o', done.length + rest.length) ∧ L2.Own m (done ++ rest) o'
  | [], done, owner, W, _ => ⟨owner, rfl, by simpa using W⟩
  | h :: rest, done, owner, W, hl => by
    simp only [List.length_cons] at hl
    obtain ⟨j, e, W'⟩ := ownG hm W (by omega) h
    obtain ⟨o', f, W2⟩ := foldG hm rest (done ++ [h]) _ W' (by simp; omega)
    refine ⟨o', ?_, by simpa using W2⟩
    rw [List.foldl_cons, stepF_some e]
    rw [List.length_append, List.length_singleton] at f
    rw [f]
    congr 2
    simp; omega
theorem layG {m : Nat} (hm : MaskG m) {hs : Array Int} (hn : hs.size ≤ m) : ∃ owner, SetTable.layClean m hs = some owner ∧ L2.Own m hs.toList owner := by
  obtain ⟨owner, f, W⟩ := foldG hm hs.toList [] _ (L2.Own.init m) (by simpa using hn)
  exact ⟨owner, by rw [layClean_eq]; simp only [List.length_nil] at f; rw [f]; rfl, by simpa using W⟩
theorem zip_maps {α β γ : Type} (f : α → β) (g : α → γ) : ∀ l : List α, (l.map f).zip (l.map g) = l.map fun x => (f x, g x)
  | [] => rfl
  | x :: l => by simp [zip_maps f g l]
theorem relaidG (t : SetTable) {hs : Array Int} {wanted M : Nat} (hw : SetTable.sizeAbove wanted - 1 = M) (hM : MaskG M) (hn : hs.size ≤ M) :
    ∃ t' order, t.relaid hs wanted = some (t', order) ∧ order.toList.Perm (List.range hs.size) ∧ TabG t' (order.toList.map fun i => hs.getD i 0) ∧ t'.mask = M ∧ t'.led = t.led := by
  obtain ⟨owner, e, W⟩ := layG hM hn
  have hr : t.relaid hs wanted = some (tabOf t M owner, ((liveOf M owner).map (·.2)).toArray) := by rw [relaid_eq, hw, e]; rfl
  have ris := ris_live (fun j => owner.getD j none) (List.range (M + 1)) List.pairwise_lt_range
  have r1 : Ris ((liveOf M owner).map (·.1)) := ris.1
  have ml : ∀ {j k : Nat}, (j, k) ∈ liveOf M owner ↔ j ≤ M ∧ oAt owner j = some k := mem_live W.sz
  have all : ∀ k, k < hs.size → k ∈ (liveOf M owner).map (·.2) := fun k hk => by
    obtain ⟨j, b1, b2⟩ := W.all k (by simpa using hk)
    exact List.mem_map.mpr ⟨(j, k), ml.2 ⟨b1, b2⟩, rfl⟩
  have hlen : (liveOf M owner).length = hs.size := by
    obtain ⟨ps, p1, p2⟩ := W.ps
    have a := nat_nodup_len ((liveOf M owner).map (·.1)) ps (show ((liveOf M owner).map (·.1)).Nodup from List.Pairwise.imp (fun h => Nat.ne_of_lt h) r1) fun x hx => by
      obtain ⟨⟨y, k⟩, hq, rfl⟩ := List.mem_map.mp hx
      obtain ⟨b1, b2⟩ := ml.1 hq
      exact p2 y b1 (by rw [b2]; simp)
    have b := nat_nodup_len (List.range hs.size) ((liveOf M owner).map (·.2)) List.nodup_range fun k hk => all k (List.mem_range.mp hk)
    simp at a b p1
    omega
  have hpl : (tabOf t M owner).place.toList = (liveOf M owner).map (·.1) := rfl
  refine ⟨_, _, hr, perm_range hs.size _ (by simpa using hlen) fun k hk => by simpa using all k hk, ⟨r1, rfl, by rw [hpl]; simp, hM, fun x hx => ?_, fun q hq => ?_⟩, rfl, rfl⟩
  · rw [hpl] at hx
    obtain ⟨⟨y, k⟩, hq, rfl⟩ := List.mem_map.mp hx
    exact (ml.1 hq).1
  · have hm : (tabOf t M owner).mask = M := rfl
    rw [hpl] at hq ⊢
    rw [hm]
    simp only [List.map_map] at hq
    rw [zip_maps] at hq
    obtain ⟨⟨y, k⟩, hq2, rfl⟩ := List.mem_map.mp hq
    obtain ⟨b1, b2⟩ := ml.1 hq2
    obtain ⟨h0, K, a1, a2, a3⟩ := W.at_ y k b1 b2
    have e0 : hs.getD k 0 = h0 := by rw [Array.getD_eq_getD_getElem?, ← Array.getElem?_toList, a1]; rfl
    show ∃ K, way M (hs.getD k 0) K = y ∧ ∀ c < K, way M (hs.getD k 0) c ∈ (liveOf M owner).map (·.1)
    rw [e0]
    refine ⟨K, a2, fun c hc => ?_⟩
    have hwc : way M h0 c ≤ M := way_bd
    cases z : oAt owner (way M h0 c) with
    | none => exact absurd z (a3 c hc)
    | some k2 => exact List.mem_map.mpr ⟨(way M h0 c, k2), ml.2 ⟨hwc, z⟩, rfl⟩
theorem above_go : ∀ (f j n : Nat), n < 2 ^ (j + f) → ∃ k, j ≤ k ∧ SetTable.sizeAbove.go n f (2 ^ j) = 2 ^ k ∧ n < 2 ^ k ∧ (k = j ∨ 2 ^ k ≤ 2 * n)
  | 0, j, n, h => ⟨j, Nat.le_refl _, rfl, h, .inl rfl⟩
  | f + 1, j, n, h => by
    unfold SetTable.sizeAbove.go
    split
    · rename_i hle
      obtain ⟨k, h1, h2, h3, h4⟩ := above_go f (j + 1) n (by rw [show j + 1 + f = j + (f + 1) by omega]; exact h)
      refine ⟨k, by omega, by rw [← Nat.pow_succ]; exact h2, h3, .inr ?_⟩
      rcases h4 with rfl | h4
      · rw [Nat.pow_succ]; omega
      · exact h4
    · exact ⟨j, Nat.le_refl _, rfl, by omega, .inl rfl⟩
theorem above (n : Nat) (h : n ≤ 8000) : MaskG (SetTable.sizeAbove n - 1) ∧ n < SetTable.sizeAbove n ∧ SetTable.sizeAbove n ≤ 16384 ∧ 0 < SetTable.sizeAbove n := by
  have hb : n < 2 ^ (3 + 64) := Nat.lt_of_le_of_lt h (by decide)
  obtain ⟨k, h1, h2, h3, h4⟩ := above_go 64 3 n hb
  have e : SetTable.sizeAbove n = 2 ^ k := h2
  have hk : k ≤ 13 := by
    rcases h4 with rfl | h4
    · decide
    · apply Classical.byContradiction
      intro hn
      have : 2 ^ 14 ≤ 2 ^ k := Nat.pow_le_pow_right (by decide) (by omega)
      omega
  have hp : 0 < 2 ^ k := Nat.pow_pos (by decide)
  have : 2 ^ k ≤ 2 ^ 13 := Nat.pow_le_pow_right (by decide) hk
  rw [e]
  exact ⟨⟨k, h1, hk, by omega⟩, h3, by omega, hp⟩
end ET
set_option Elab.async false
set_option maxRecDepth 100000
/-! ET: sets of tuples of whole numbers, texts and such tuples: searching and adding. -/
namespace ET
open PySem PySem.Spec PyProof.Rows L2
section
variable {P : Program} {w : World} {A : Around} {E : Value → Shared → Prop} {s : Shared}
/-- the tuple at an address is a key -/
def IsN (h : Heap) (k : NestedKey) (a : Addr) : Prop := NestedIs h k (.ref a) ∧ k.depth ≤ 8
theorem IsN.tupAt {h : Heap} {k : NestedKey} {a : Addr} (x : IsN h k a) : ∃ o vs n ks, h.get? a = some o ∧ o.cls = .type "tuple" ∧ o.data = .seq vs n ∧ k = .tup ks ∧ NestedAll h ks vs.toList := by
  obtain ⟨x, _⟩ := x
  cases x with
  | tup h1 h2 h3 h4 => exact ⟨_, _, _, _, h1, h2, h3, rfl, h4⟩
/-! ### what is asked of a key -/
/-- ofAClassStatement says no -/
def Cl (P : Program) (w : World) (n : Nat) (s : Shared) (v : Value) : Prop := ∀ (A : Around) (E : Value → Shared → Prop) (Q : Bool → Shared → Prop), Q false s → wpAny (model P w) A (ofAClassStatement n v) Q E s
theorem cl_tup {n : Nat} {a : Addr} {o : Obj} {vs : Array Value} {m : Nat} (ho : s.heap.get? a = some o) (hc : o.cls = .type "tuple") (hd : o.data = .seq vs m) (hq : ∀ v ∈ vs.toList, Cl P w n s v) : Cl P w (n + 1) s (.ref a) := fun A E Q h => by
  have hT : s.TypeIs (.ref a) "tuple" := ⟨o, ho, hc⟩
  unfold ofAClassStatement
  refine wpAny_bind (wpAny_typeOf hT ?_)
  dsimp only
  have e : (("tuple" : String) == "tuple") = true := by decide
  simp only [e, if_true, Bool.not_true, Bool.false_eq_true, if_false]
  try refine wpAny_bind (wpAny_pure ?_)
  try simp only [Bool.not_true, Bool.false_eq_true, if_false]
  refine wpAny_bind (wpAny_seqItems ho hd ?_)
  dsimp only
  refine wpAny_bind ?_
  show wpAny _ _ (forIn vs _ _) _ _ s
  rw [← Array.forIn_toList]
  refine wpAny_forIn_list _ (fun rest r s' => r.1 = none ∧ s' = s ∧ ∀ v ∈ rest, Cl P w n s v) _ ?_ ?_ _ _ ⟨rfl, rfl, hq⟩
  · rintro v rest r s' ⟨hr, rfl, ha⟩
    refine wpAny_bind (ha v List.mem_cons_self _ _ _ ?_)
    simp only [Bool.false_eq_true, if_false]
    exact wpAny_pure ⟨rfl, rfl, fun u hu' => ha u (List.mem_cons_of_mem _ hu')⟩
  · rintro ⟨r1, r2⟩ s' ⟨hr, rfl, _⟩
    simp only at hr
    subst hr
    exact wpAny_pure h
theorem cl_val {n : Nat} {v : Value} (h : ofAClassStatement n v = pure false) : Cl P w n s v := fun A E Q hq => by
  rw [h]; exact wpAny_pure hq
mutual
theorem cl_key : ∀ (k : NestedKey) (v : Value) (n : Nat), NestedIs s.heap k v → k.depth ≤ n → Cl P w n s v
  | .none, _, n, x, _ => by cases x; exact cl_val (by cases n <;> rfl)
  | .num i, _, n, x, _ => by cases x <;> exact cl_val (by cases n <;> rfl)
  | .text y, _, n, x, _ => by cases x; exact cl_val (by cases n <;> rfl)
  | .tup ks, _, n, x, hn => by
    cases x with
    | tup hg hc hd hk =>
      simp only [NestedKey.depth] at hn
      cases n with
      | zero => omega
      | succ n => exact cl_tup hg hc hd (cl_keys ks _ n hk (by omega))
theorem cl_keys : ∀ (ks : List NestedKey) (vs : List Value) (n : Nat), NestedAll s.heap ks vs → NestedKey.depthAll ks ≤ n → ∀ v ∈ vs, Cl P w n s v
  | [], _, n, x, _, v, hv => by cases x; cases hv
  | k :: ks, _, n, x, hn, v, hv => by
    cases x with
    | cons x1 x2 =>
      simp only [NestedKey.depthAll] at hn
      rcases List.mem_cons.mp hv with e | hv
      · rw [e]; exact cl_key k _ n x1 (by omega)
      · exact cl_keys ks _ n x2 (by omega) v hv
end
/-- hashByValue answers, whichever -/
def Hb (P : Program) (w : World) (n : Nat) (s : Shared) (v : Value) : Prop := ∀ (A : Around) (E : Value → Shared → Prop) (Q : Bool → Shared → Prop), (∀ b, Q b s) → wpAny (model P w) A (hashByValue n v) Q E s
theorem hb_tup {n : Nat} {a : Addr} {o : Obj} {vs : Array Value} {m : Nat} (ho : s.heap.get? a = some o) (hc : o.cls = .type "tuple") (hd : o.data = .seq vs m) (hq : ∀ v ∈ vs.toList, Hb P w n s v) : Hb P w (n + 1) s (.ref a) := fun A E Q h => by
  have hT : s.TypeIs (.ref a) "tuple" := ⟨o, ho, hc⟩
  unfold hashByValue
  refine wpAny_bind (wpAny_specialOf hT F.slot_tuple_hash.lookup ?_)
  refine wpAny_bind (wpAny_seqItems ho hd ?_)
  refine wpAny_bind ?_
  show wpAny _ _ (forIn vs _ _) _ _ s
  rw [← Array.forIn_toList]
  refine wpAny_forIn_list _ (fun rest r s' => r.1 = none ∧ s' = s ∧ ∀ v ∈ rest, Hb P w n s v) _ ?_ ?_ _ _ ⟨rfl, rfl, hq⟩
  · rintro v rest r s' ⟨hr, rfl, ha⟩
    refine wpAny_bind (ha v List.mem_cons_self _ _ _ fun b => ?_)
    cases b with
    | true =>
      simp only [Bool.not_true, Bool.false_eq_true, if_false]
      exact wpAny_pure ⟨rfl, rfl, fun u hu' => ha u (List.mem_cons_of_mem _ hu')⟩
    | false =>
      simp only [Bool.not_false, if_true]
      exact wpAny_pure (wpAny_pure (h false))
  · rintro ⟨r1, r2⟩ s' ⟨hr, rfl, _⟩
    simp only at hr
    rcases hr with rfl
    exact wpAny_pure (h true)
theorem hb_val {n : Nat} {v : Value} {b : Bool} (h : hashByValue n v = pure b) : Hb P w n s v := fun A E Q hq => by
  rw [h]; exact wpAny_pure (hq b)
mutual
theorem hb_key : ∀ (k : NestedKey) (v : Value) (n : Nat), NestedIs s.heap k v → k.depth ≤ n → Hb P w n s v
  | .none, _, n, x, _ => by cases x; exact hb_val (b := true) (by cases n <;> rfl)
  | .num i, _, n, x, _ => by cases x <;> exact hb_val (b := true) (by cases n <;> rfl)
  | .text y, _, n, x, _ => by cases x; exact hb_val (b := false) (by cases n <;> rfl)
  | .tup ks, _, n, x, hn => by
    cases x with
    | tup hg hc hd hk =>
      simp only [NestedKey.depth] at hn
      cases n with
      | zero => omega
      | succ n => exact hb_tup hg hc hd (hb_keys ks _ n hk (by omega))
theorem hb_keys : ∀ (ks : List NestedKey) (vs : List Value) (n : Nat), NestedAll s.heap ks vs → NestedKey.depthAll ks ≤ n → ∀ v ∈ vs, Hb P w n s v
  | [], _, n, x, _, v, hv => by cases x; cases hv
  | k :: ks, _, n, x, hn, v, hv => by
    cases x with
    | cons x1 x2 =>
      simp only [NestedKey.depthAll] at hn
      rcases List.mem_cons.mp hv with e | hv
      · rw [e]; exact hb_key k _ n x1 (by omega)
      · exact hb_keys ks _ n x2 (by omega) v hv
end
theorem seenN {k : NestedKey} {b : Addr} {Q : Bool → Shared → Prop} (hk : IsN s.heap k b) {ys : List Value} (hy : ∀ y ∈ ys, ∃ k' c, y = Value.ref c ∧ IsN s.heap k' c) (h : Q false s) : wpAny (model P w) A (searchCouldBeSeen (.ref b) ys) Q E s := by
  unfold searchCouldBeSeen
  refine wpAny_bind ?_
  refine wpAny_forIn_list _ (fun rest r s' => r.1 = none ∧ s' = s ∧ ∀ y ∈ rest, ∃ k' c, y = Value.ref c ∧ IsN s.heap k' c) _ ?_ ?_ _ _ ⟨rfl, rfl, hy⟩
  · rintro v rest r s' ⟨hr, rfl, ha⟩
    obtain ⟨k', c, rfl, hc⟩ := ha v List.mem_cons_self
    have go : ∀ y ∈ rest, ∃ k' c, y = Value.ref c ∧ IsN s'.heap k' c := fun u hu' => ha u (List.mem_cons_of_mem _ hu')
    dsimp only
    by_cases hv : (b == c || (carriedByValue (.ref b) && carriedByValue (.ref c))) = true
    · exact wp_if_pos hv (wpAny_pure ⟨rfl, rfl, go⟩)
    · refine wp_if_neg hv ?_
      refine wpAny_bind (quiet_key _ _ 8 _ hk.1 hk.2 _ _ _ ?_)
      simp only [Bool.not_true, Bool.false_eq_true, if_false]
      refine wpAny_bind (quiet_key _ _ 8 _ hc.1 hc.2 _ _ _ ?_)
      simp only [Bool.not_true, Bool.false_eq_true, if_false]
      refine wpAny_bind (cl_key _ _ 8 hk.1 hk.2 _ _ _ ?_)
      simp only [Bool.false_eq_true, if_false]
      refine wpAny_bind (cl_key _ _ 8 hc.1 hc.2 _ _ _ ?_)
      simp only [Bool.false_eq_true, if_false]
      exact wpAny_pure ⟨rfl, rfl, go⟩
  · rintro ⟨r1, r2⟩ s' ⟨hr, rfl, _⟩
    simp only at hr
    subst hr
    exact wpAny_pure h
/-! ### a set of keys -/
def rowsN (w : World) (L : List (Addr × NestedKey)) : List (Int × Value) := L.map fun p => (p.2.hash w, Value.ref p.1)
def hashN (w : World) (L : List (Addr × NestedKey)) : List Int := L.map fun p => p.2.hash w
structure SetN (w : World) (h : Heap) (a : Addr) (L : List (Addr × NestedKey)) (es : Array (Int × Value)) (ep : Nat) (t : SetTable) : Prop where
  ob : ∃ o, h.get? a = some o ∧ o.ExactSet ∧ o.data = .set es ep t
  rows : es.toList = rowsN w L
  tab : TabG t (hashN w L)
  nd : (L.map (·.2)).Nodup
  key : ∀ p ∈ L, IsN h p.2 p.1
  led : w.params.followText "set-order" = true ∨ t.led = true
  room : L.length * 5 < t.mask * 3
  few : L.length ≤ 1900
variable {a : Addr} {L : List (Addr × NestedKey)} {es : Array (Int × Value)} {ep : Nat} {t : SetTable}
theorem rows_size (h : es.toList = rowsN w L) : es.size = L.length := by
  have := congrArg List.length h
  simpa [rowsN] using this
theorem fits_of {n : Nat} (h1 : t.place.toList.length = n) (h2 : t.dummies = #[]) (h3 : n ≤ t.mask) : t.fits n = true := by
  rw [Array.length_toList] at h1
  unfold SetTable.fits SetTable.fill
  rw [h2, h1]
  simpa using h3
theorem SetN.fits (R : SetN w s.heap a L es ep t) : t.fits es.size = true := by
  have h1 := R.tab.sz
  have h2 := rows_size R.rows
  have h3 := R.room
  unfold hashN at h1
  rw [List.length_map] at h1
  exact fits_of (by omega) R.tab.dm (by omega)
theorem SetN.entry (R : SetN w s.heap a L es ep t) {i : Nat} {p : Addr × NestedKey} (h : L[i]? = some p) : es[i]? = some (p.2.hash w, Value.ref p.1) := by
  rw [← Array.getElem?_toList, R.rows, rowsN, List.getElem?_map, h]; rfl
theorem SetN.gw (R : SetN w s.heap a L es ep t) : ¬ t.gaveWay = true := by
  obtain ⟨k, h1, _, h2⟩ := R.tab.mok
  unfold SetTable.gaveWay
  have e : 2 ^ k = 2 * 2 ^ (k - 1) := by rw [← Nat.pow_succ']; congr 1; omega
  have : t.mask % 2 = 1 := by omega
  simp [this]
theorem dummy_nth (m : Nat) : ∀ (n : Nat) (p : SetTable.Probe), p.dummy = none → (nth m p n).dummy = none
  | 0, _, h => h
  | n + 1, p, h => dummy_nth m n (adv m p) (by unfold adv; split <;> exact h)
/-- the way's c-th step -/
abbrev stepN (t : SetTable) (h : Int) (c : Nat) : SetTable.Probe := nth t.mask (runAt t.mask (SetTable.bits h % (t.mask + 1)) (SetTable.bits h)) c
theorem searchN (R : SetN w s.heap a L es ep t) {x : Addr} {k : NestedKey} (hx : IsN s.heap k x) (hu : A.units + 8 < cLine) {K : Nat} (hKf : K < 10 * SetTable.turns t.mask)
    (hK : way t.mask (k.hash w) K ∉ t.place.toList) (hKb : ∀ c, c < K → way t.mask (k.hash w) c ∈ t.place.toList) {Q : SetFound → Shared → Prop}
    (hin : k ∈ L.map (·.2) → Q (.there none) s) (hout : k ∉ L.map (·.2) → Q (.free (way t.mask (k.hash w) K) false) s) :
    ∀ (f c : Nat) (st : Option SetTable.Probe), st.getD (t.probeStart (k.hash w)) = stepN t (k.hash w) c → c ≤ K → K - c < f →
      (∀ (i : Nat) p, L[i]? = some p → p.2 = k → ∃ c', c ≤ c' ∧ c' < K ∧ t.place.toList[i]? = some (way t.mask (k.hash w) c')) →
      wpAny (model P w) A (setSearchFrom a (.ref x) (k.hash w) true f st) Q E s
  | 0, c, st, _, _, hf, _ => absurd hf (Nat.not_lt_zero _)
  | f + 1, c, st, hst, hc, hf, hre => by
    obtain ⟨o, ho, hex, hd⟩ := R.ob
    have ahead : ∀ q, nth t.mask (stepN t (k.hash w) c) q = stepN t (k.hash w) (c + q) := fun q => (nth_add t.mask c _ q).symm
    have hw : ∀ q, (nth t.mask (stepN t (k.hash w) c) q).j = way t.mask (k.hash w) (c + q) := fun q => by rw [ahead]
    have hash_at : ∀ (i : Nat) p, L[i]? = some p → (es[i]?.map (·.1)).getD 0 = p.2.hash w := fun i p hp => by rw [R.entry hp]; rfl
    have spec := go_spec t R.tab.ris R.tab.dm (fun i => (es[i]?.map (·.1)).getD 0) (k.hash w) (10 * SetTable.turns t.mask) (K - c) (stepN t (k.hash w) c) (dummy_nth t.mask c _ rfl) (by omega)
      (fun q hq => by rw [hw]; exact hKb (c + q) (by omega)) (by rw [hw, show c + (K - c) = K by omega]; exact hK)
    rw [setSearchFrom_succ]
    refine wpAny_bind (wpAny_setState_of ho hd R.fits ?_)
    dsimp only
    refine wp_if_neg R.gw ?_
    try refine wpAny_bind (wpAny_pure ?_)
    rcases spec with ⟨q, i, hq, hi, hh, hno, hpr⟩ | ⟨hno, hpr⟩
    · have hpr' : t.probe (fun i => (es[i]?.map (·.1)).getD 0) (k.hash w) (st.getD (t.probeStart (k.hash w))) = some (.candidate (way t.mask (k.hash w) (c + q)) i (stepN t (k.hash w) (c + (q + 1)))) := by
        rw [hst, ← hw, ← ahead]
        exact hpr
      rw [hpr']
      dsimp only
      rw [hw] at hi
      have hil : i < L.length := by
        have h1 := (List.getElem?_eq_some_iff.mp hi).1
        have h2 := R.tab.sz
        unfold hashN at h2
        rw [List.length_map] at h2
        omega
      obtain ⟨p, hp⟩ : ∃ p, L[i]? = some p := ⟨_, List.getElem?_eq_getElem hil⟩
      have hmem : p ∈ L := List.mem_of_getElem? hp
      have rest : wpAny (model P w) A (searchRest a (.ref x) (k.hash w) true f es t (way t.mask (k.hash w) (c + q)) i (stepN t (k.hash w) (c + (q + 1)))) Q E s := by
        have hsl := slot_live R.tab.ris hi
        unfold searchRest
        rw [R.entry hp]
        dsimp only
        refine wpAny_bind (wpAny_holding ((nestedKind P w).eqBool hu (R.key p hmem) hx ?_))
        refine wpAny_bind (wpAny_setState_of ho hd R.fits ?_)
        dsimp only
        by_cases hkk : p.2 = k
        · refine wp_if_pos (by simp [hkk]) (wpAny_pure (hin ?_))
          exact List.mem_map.mpr ⟨p, hmem, hkk⟩
        · refine wp_if_neg (by simp [hkk]) ?_
          try refine wpAny_bind (wpAny_pure ?_)
          rw [sameMem]
          dsimp only
          simp only [if_true, hsl, R.entry hp]
          refine wpAny_bind (wpAny_isSame_ref_self (wpAny_bind (wpAny_pure ?_)))
          simp only [if_true]
          refine wp_if_neg (by simp [hkk]) ?_
          refine searchN R hx hu hKf hK hKb hin hout f (c + (q + 1)) _ rfl (by omega) (by omega) fun i0 p0 h0 hk0 => ?_
          obtain ⟨c', a1, a2, a3⟩ := hre i0 p0 h0 hk0
          refine ⟨c', Classical.byContradiction fun z => ?_, a2, a3⟩
          rcases Nat.lt_or_ge c' (c + q) with y | y
          · refine hno (c' - c) i0 (by omega) (by rw [hw, show c + (c' - c) = c' by omega]; exact a3) ?_
            show (es[i0]?.map (·.1)).getD 0 = _
            rw [hash_at i0 p0 h0, hk0]
          · have ec : c' = c + q := by omega
            rw [ec] at a3
            have s0 := slot_live R.tab.ris a3
            rw [hsl] at s0
            injection s0 with s0
            rw [← s0, hp] at h0
            exact hkk ((congrArg Prod.snd (Option.some.inj h0)).trans hk0)
      by_cases hl : t.led = true
      · refine wp_if_neg (by simp [hl]) ?_
        try refine wpAny_bind (wpAny_pure ?_)
        exact rest
      · refine wp_if_pos (by simp [hl]) ?_
        refine wpAny_bind (seenN hx (fun y hy => ?_) ?_)
        · obtain ⟨e, he, ee⟩ := List.mem_map.mp hy
          have he1 : e ∈ es ∧ e.1 = k.hash w := by simpa using he
          have he2 : e ∈ es.toList := by simpa using he1.1
          rw [R.rows] at he2
          obtain ⟨p2, hp2, e2⟩ := List.mem_map.mp he2
          exact ⟨p2.2, p2.1, by rw [← ee, ← e2], R.key p2 hp2⟩
        · refine wp_if_neg (by decide) ?_
          try refine wpAny_bind (wpAny_pure ?_)
          exact rest
    · have hpr' : t.probe (fun i => (es[i]?.map (·.1)).getD 0) (k.hash w) (st.getD (t.probeStart (k.hash w))) = some (.empty (way t.mask (k.hash w) K) none) := by
        have e2 : way t.mask (k.hash w) K = (nth t.mask (stepN t (k.hash w) c) (K - c)).j := by rw [hw, show c + (K - c) = K by omega]
        rw [hst, e2]
        exact hpr
      rw [hpr']
      dsimp only
      refine wpAny_pure (hout fun hm => ?_)
      obtain ⟨p0, h0, hk0⟩ := List.mem_map.mp hm
      obtain ⟨i0, hi0, e0⟩ := List.getElem_of_mem h0
      have h00 : L[i0]? = some p0 := by rw [List.getElem?_eq_getElem hi0, e0]
      obtain ⟨c', a1, a2, a3⟩ := hre i0 p0 h00 hk0
      refine hno (c' - c) i0 (by omega) (by rw [hw, show c + (c' - c) = c' by omega]; exact a3) ?_
      show (es[i0]?.map (·.1)).getD 0 = _
      rw [hash_at i0 p0 h00, hk0]
theorem searchN_at (R : SetN w s.heap a L es ep t) {x : Addr} {k : NestedKey} (hx : IsN s.heap k x) (hu : A.units + 8 < cLine) {Q : SetFound → Shared → Prop}
    (hin : k ∈ L.map (·.2) → Q (.there none) s)
    (hout : ∀ K, k ∉ L.map (·.2) → way t.mask (k.hash w) K ∉ t.place.toList → (∀ c, c < K → way t.mask (k.hash w) c ∈ t.place.toList) → Q (.free (way t.mask (k.hash w) K) false) s) :
    wpAny (model P w) A (setSearch a (.ref x) (k.hash w) true) Q E s := by
  have hl : (hashN w L).length ≤ t.mask := by have := R.room; unfold hashN; rw [List.length_map]; omega
  obtain ⟨K, hKf, hK, hKb⟩ := R.tab.first hl (k.hash w)
  have hm : t.mask < 8192 := by
    obtain ⟨e, _, h2, h3⟩ := R.tab.mok
    have : 2 ^ e ≤ 2 ^ 13 := Nat.pow_le_pow_right (by decide) h2
    omega
  refine searchN R hx hu hKf hK hKb hin (fun hn => hout K hn hK hKb) 100000 0 none rfl (Nat.zero_le _) (by unfold SetTable.turns at hKf; omega) fun i p hp hk => ?_
  have hi : (hashN w L)[i]? = some (k.hash w) := by unfold hashN; rw [List.getElem?_map, hp, ← hk]; rfl
  have hil : i < t.place.toList.length := by
    have h1 := (List.getElem?_eq_some_iff.mp hi).1
    have := R.tab.sz
    omega
  obtain ⟨c, hc, e⟩ := R.tab.before hK hi (List.getElem?_eq_getElem hil)
  exact ⟨c, Nat.zero_le _, hc, by rw [List.getElem?_eq_getElem hil, e]⟩
end
end ET
set_option Elab.async false
set_option maxRecDepth 100000
/-! ET: sets of keys: adding, set(xs). -/
namespace ET
open PySem PySem.Spec PyProof.Rows L2
section
variable {P : Program} {w : World} {A : Around} {E : Value → Shared → Prop} {s : Shared}
theorem IsN.at' {h h' : Heap} {k : NestedKey} {b : Addr} (x : IsN h k b) (hk : ∀ c o vs n, h.get? c = some o → o.data = .seq vs n → h'.get? c = some o) : IsN h' k b := ⟨NestedIs.at hk _ _ x.1, x.2⟩
theorem IsN.keep {h h' : Heap} {k : NestedKey} {b : Addr} (x : IsN h k b) (hk : ∀ c o, h.get? c = some o → h'.get? c = some o) : IsN h' k b := x.at' fun c o _ _ e _ => hk c o e
theorem IsN.same {h h' : Heap} {k : NestedKey} {a b : Addr} {o : Obj} {es : Array (Int × Value)} {ep : Nat} {t : SetTable} (x : IsN h k b) (ho : h.get? a = some o) (hd : o.data = .set es ep t) (hs : Heap.SameBut a h h') : IsN h' k b :=
  x.at' fun c o' vs n e ed => (hs.2 c fun z => by
    rw [z, ho] at e
    cases e
    rw [hd] at ed
    cases ed).trans e
variable {a : Addr} {L : List (Addr × NestedKey)} {es : Array (Int × Value)} {ep : Nat} {t : SetTable}
theorem get_all {α : Type} : ∀ l : List α, (List.range l.length).filterMap (fun i => l[i]?) = l
  | [] => rfl
  | x :: l => by
    rw [List.length_cons, List.range_succ_eq_map]
    show List.filterMap (fun i => (x :: l)[i]?) (0 :: (List.range l.length).map Nat.succ) = x :: l
    rw [List.filterMap_cons_some (f := fun i => (x :: l)[i]?) (a := 0) (b := x) rfl, List.filterMap_map]
    congr 1
    exact get_all l
theorem orderN (L : List (Addr × NestedKey)) (es : Array (Int × Value)) (order : Array Nat) (hr : es.toList = rowsN w L) (hp : order.toList.Perm (List.range L.length)) :
    ∃ M, (order.filterMap (es[·]?)).toList = rowsN w M ∧ M.Perm L ∧ hashN w M = order.toList.map fun i => (es.map (·.1)).getD i 0 := by
  have ent : ∀ i : Nat, es[i]? = (L[i]?).map fun p => (p.2.hash w, Value.ref p.1) := fun i => by rw [← Array.getElem?_toList, hr, rowsN, List.getElem?_map]
  have key : ∀ l : List Nat, (∀ i ∈ l, i < L.length) → l.filterMap (fun i => es[i]?) = rowsN w (l.filterMap fun i => L[i]?) ∧ hashN w (l.filterMap fun i => L[i]?) = l.map fun i => (es.map (·.1)).getD i 0 := by
    intro l
    induction l with
    | nil => intro _; exact ⟨rfl, rfl⟩
    | cons i l ih =>
      intro hl
      obtain ⟨p, hpi⟩ : ∃ p, L[i]? = some p := ⟨_, List.getElem?_eq_getElem (hl i List.mem_cons_self)⟩
      obtain ⟨e1, e2⟩ := ih fun j hj => hl j (List.mem_cons_of_mem _ hj)
      have e3 := ent i
      rw [hpi] at e3
      have e4 : (es.map (·.1)).getD i 0 = p.2.hash w := by
        rw [Array.getD_eq_getD_getElem?, Array.getElem?_map, e3]; rfl
      rw [List.filterMap_cons_some e3, List.filterMap_cons_some hpi, List.map_cons, e1, e4, ← e2]
      exact ⟨rfl, rfl⟩
  obtain ⟨e1, e2⟩ := key order.toList fun i hi => List.mem_range.mp (hp.mem_iff.mp hi)
  refine ⟨_, by simpa using e1, ?_, e2⟩
  have h2 := get_all L
  have h3 := hp.filterMap fun i => L[i]?
  rw [h2] at h3
  exact h3
theorem relayN {o : Obj} (ho : s.heap.get? a = some o) (hex : o.ExactSet) (hd : o.data = .set es ep t) (hrows : es.toList = rowsN w L) (hft : t.fits es.size = true)
    (nd : (L.map (·.2)).Nodup) (key : ∀ p ∈ L, IsN s.heap p.2 p.1) (ld : w.params.followText "set-order" = true ∨ t.led = true) (few : L.length ≤ 1900) {wanted : Nat} (hw : wanted ≤ 8000) (hw2 : L.length * 4 ≤ wanted) {Q : Unit → Shared → Prop}
    (hQ : ∀ h' L' es' ep' t', Heap.SameBut a s.heap h' → SetN w h' a L' es' ep' t' → L'.Perm L → Q () { s with heap := h' }) : wpAny (model P w) A (setRelay a wanted) Q E s := by
  have hsl := rows_size hrows
  obtain ⟨b1, b2, b3, b4⟩ := above wanted hw
  obtain ⟨t', order, e, hp, T, em, el⟩ := relaidG t (hs := es.map (·.1)) rfl b1 (by rw [Array.size_map]; omega)
  rw [Array.size_map, hsl] at hp
  obtain ⟨M, r1, r2, r3⟩ := orderN L es order hrows hp
  rw [← r3] at T
  have hs2 : (order.filterMap (es[·]?)).size = es.size := by rw [rows_size r1, r2.length_eq, hsl]
  rw [setRelay_eq]
  refine wpAny_bind (wpAny_setState_of ho hd hft ?_)
  dsimp only
  refine wp_if_neg (by rw [sizeLine_eq]; omega) ?_
  try refine wpAny_bind (wpAny_pure ?_)
  rw [e]
  dsimp only
  refine wpAny_bind ?_
  refine wp_if_neg (by rw [hs2]; simp) ?_
  try refine wpAny_bind (wpAny_pure ?_)
  refine wpAny_pure ?_
  dsimp only
  refine wpAny_storeSet_of ho hd ?_ (by rw [hs2, hsl, sizeLine_eq]; omega)
  have sb : Heap.SameBut a s.heap (s.heap.update a (Obj.putSet (order.filterMap (es[·]?)) t')) := Heap.SameBut.update ..
  refine hQ _ M _ (ep + 1) t' sb ⟨⟨_, store_at ho hd, ⟨hex.1, hex.2.1, hex.2.2⟩, rfl⟩, r1, T, (r2.map (·.2)).nodup_iff.mpr nd, fun p hpm => (key p (r2.mem_iff.mp hpm)).same ho hd sb, by rw [el]; exact ld, ?_, by rw [r2.length_eq]; exact few⟩ r2
  rw [r2.length_eq, em]
  obtain ⟨k, k1, _, k2⟩ := b1
  have : 2 ^ 3 ≤ 2 ^ k := Nat.pow_le_pow_right (by decide) k1
  omega
theorem addN (R : SetN w s.heap a L es ep t) {x : Addr} {k : NestedKey} (hx : IsN s.heap k x) (hu : A.units + 8 < cLine) (hfew : L.length < 1900) {Q : Bool → Shared → Prop}
    (hQ : ∀ b h' L' es' ep' t', Heap.SameBut a s.heap h' → SetN w h' a L' es' ep' t' → (k ∈ L.map (·.2) → L' = L) → (k ∉ L.map (·.2) → L'.Perm ((x, k) :: L)) → Q b { s with heap := h' }) :
    wpAny (model P w) A (setAddHashed a (.ref x) (k.hash w)) Q E s := by
  obtain ⟨o, ho, hex, hd⟩ := R.ob
  have hsl := rows_size R.rows
  have hroom := R.room
  have hsz : t.place.toList.length = L.length := by have := R.tab.sz; unfold hashN at this; rw [List.length_map] at this; exact this
  unfold setAddHashed
  refine wpAny_holding ?_
  rw [show (100000 : Nat) = 99999 + 1 from rfl, setAddHashedIn_succ]
  refine wpAny_bind (wpAny_setState_of ho hd R.fits ?_)
  dsimp only
  refine wp_if_neg (by simp [byScan, Value.scannable]) ?_
  try refine wpAny_bind (wpAny_pure ?_)
  refine wpAny_bind (searchN_at R hx hu (fun hm => wpAny_pure (hQ false s.heap L es ep t (Heap.SameBut.refl a s.heap) R (fun _ => rfl) fun z => absurd hm z)) fun K hm hK hb => ?_)
  dsimp only
  refine wpAny_bind (wpAny_setState_of ho hd R.fits ?_)
  dsimp only
  obtain ⟨T1, hpl⟩ := R.tab.put hK hb rfl
  have em : (t.put (way t.mask (k.hash w) K)).1.mask = t.mask := rfl
  have el : (t.put (way t.mask (k.hash w) K)).1.led = t.led := rfl
  have ep2 : (t.put (way t.mask (k.hash w) K)).2 = SetTable.below t.place (way t.mask (k.hash w) K) := rfl
  generalize hpt : t.put (way t.mask (k.hash w) K) = pt at T1 em el ep2 ⊢
  obtain ⟨t1, p⟩ := pt
  dsimp only at T1 em el ep2 ⊢
  rw [← ep2] at T1 hpl
  have pm := put_perm L p (x, k)
  have hlen : (L.take p ++ (x, k) :: L.drop p).length = L.length + 1 := pm.length_eq
  have hrows : (SetTable.insertAt es p (k.hash w, Value.ref x)).toList = rowsN w (L.take p ++ (x, k) :: L.drop p) := by
    rw [SetTable.toList_insertAt, R.rows]
    unfold rowsN
    rw [List.map_append, List.map_cons, List.map_take, List.map_drop]
  have hhs : (hashN w L).take p ++ k.hash w :: (hashN w L).drop p = hashN w (L.take p ++ (x, k) :: L.drop p) := by
    unfold hashN
    rw [List.map_append, List.map_cons, List.map_take, List.map_drop]
  rw [hhs] at T1
  have nd1 : ((L.take p ++ (x, k) :: L.drop p).map (·.2)).Nodup := (pm.map (·.2)).nodup_iff.mpr (List.nodup_cons.mpr ⟨hm, R.nd⟩)
  have hes := rows_size hrows
  rw [hlen] at hes
  generalize SetTable.insertAt es p (k.hash w, Value.ref x) = es1 at hrows hes ⊢
  generalize L.take p ++ (x, k) :: L.drop p = L1 at pm hlen nd1 hrows T1
  have sz1 : t1.place.toList.length = L.length + 1 := by have := T1.sz; unfold hashN at this; rw [List.length_map, hlen] at this; exact this
  -- whatever the table is marked with
  have fin : ∀ t2 : SetTable, t2.place = t1.place → t2.dummies = t1.dummies → t2.mask = t1.mask → t2.led = t1.led →
      wpAny (model P w) A (storeSet a es1 t2 >>= fun _ => (do
        if !false && t2.tooFull then setRelay a (SetTable.grown (es.size + 1))
        return true)) Q E s := fun t2 g1 g2 g3 g4 => by
    have T2 : TabG t2 (hashN w L1) := ⟨by rw [g1]; exact T1.ris, by rw [g2]; exact T1.dm, by rw [g1]; exact T1.sz, by rw [g3]; exact T1.mok, by rw [g1, g3]; exact T1.bd, by rw [g1, g3]; exact T1.onw⟩
    refine wpAny_bind (wpAny_storeSet_of ho hd ?_ (by rw [hes, sizeLine_eq]; omega))
    have sb : Heap.SameBut a s.heap (s.heap.update a (Obj.putSet es1 t2)) := Heap.SameBut.update ..
    have ho1 := store_at (es' := es1) (t' := t2) ho hd
    generalize s.heap.update a (Obj.putSet es1 t2) = h1 at sb ho1 ⊢
    have key1 : ∀ p ∈ L1, IsN h1 p.2 p.1 := fun p hp => by
      rcases List.mem_cons.mp (pm.mem_iff.mp hp) with e | hp
      · rw [e]; exact hx.same ho hd sb
      · exact (R.key p hp).same ho hd sb
    have ld1 : w.params.followText "set-order" = true ∨ t2.led = true := by rw [g4, el]; exact R.led
    have hf2 : t2.fill = L.length + 1 := by
      unfold SetTable.fill
      rw [g1, g2, T1.dm]
      have : t1.place.size = L.length + 1 := by rw [← sz1, Array.length_toList]
      simpa using this
    by_cases hf : t2.tooFull = true
    · have gr : SetTable.grown (L.length + 1) = (L.length + 1) * 4 := by unfold SetTable.grown; rw [if_neg (by omega)]
      first
        | (refine wpAny_bind ?_; refine wp_if_pos (by simp [hf]) ?_)
        | (refine wp_if_pos (by simp [hf]) ?_; refine wpAny_bind ?_)
      rw [hsl, gr]
      refine relayN (s := { s with heap := h1 }) ho1 ⟨hex.1, hex.2.1, hex.2.2⟩ rfl hrows (fits_of (by rw [g1, sz1, hes]) (by rw [g2]; exact T1.dm) (by rw [hes, g3, em]; omega)) nd1 key1 ld1 (by omega) (by omega) (by omega) fun h2 L2 es2 ep2 t3 sb2 R2 pm2 => ?_
      exact wpAny_pure (hQ true h2 L2 es2 ep2 t3 (sb.trans sb2) R2 (fun z => absurd z hm) fun _ => pm2.trans pm)
    · first
        | refine wp_if_neg (by simp [hf]) ?_
        | (refine wpAny_bind ?_; refine wp_if_neg (by simp [hf]) ?_; refine wpAny_pure ?_)
      refine wpAny_pure (hQ true h1 L1 es1 (ep + 1) t2 sb ⟨⟨_, ho1, ⟨hex.1, hex.2.1, hex.2.2⟩, rfl⟩, hrows, T2, nd1, key1, ld1, ?_, by rw [hlen]; omega⟩ (fun z => absurd z hm) fun _ => pm)
      unfold SetTable.tooFull at hf
      rw [decide_eq_true_eq, hf2] at hf
      rw [hlen]
      omega
  by_cases hp1 : t1.plain = true
  · first
      | (refine wpAny_bind ?_; refine wp_if_pos hp1 ?_; refine hb_key _ _ 8 hx.1 hx.2 _ _ _ fun b => ?_)
      | refine wp_if_pos hp1 (wpAny_bind (hb_key _ _ 8 hx.1 hx.2 _ _ _ fun b => ?_))
    cases b with
    | true => simp only [if_true]; exact fin t1 rfl rfl rfl rfl
    | false => simp only [Bool.false_eq_true, if_false]; exact fin { t1 with plain := false } rfl rfl rfl rfl
  · first
      | (refine wpAny_bind ?_; refine wp_if_neg hp1 ?_; refine wpAny_pure ?_)
      | refine wp_if_neg hp1 (wpAny_bind (wpAny_pure ?_))
    simp only [if_true]
    exact fin t1 rfl rfl rfl rfl
/-- what the set has got of the first i items -/
structure GotN (ks : List (Addr × NestedKey)) (i : Nat) (L : List (Addr × NestedKey)) : Prop where
  sub : ∀ p ∈ L, p ∈ ks.take i
  all : ∀ p ∈ ks.take i, p.2 ∈ L.map (·.2)
  len : L.length ≤ i
theorem GotN.same {ks L : List (Addr × NestedKey)} {i : Nat} {x : Addr × NestedKey} (g : GotN ks i L) (h : ks[i]? = some x) (hm : x.2 ∈ L.map (·.2)) : GotN ks (i + 1) L := by
  have e := take_next h
  refine ⟨fun p hp => by rw [e]; exact List.mem_append_left _ (g.sub p hp), fun p hp => ?_, Nat.le_succ_of_le g.len⟩
  rw [e, List.mem_append, List.mem_singleton] at hp
  rcases hp with z | rfl
  · exact g.all p z
  · exact hm
theorem GotN.more {ks L L' : List (Addr × NestedKey)} {i : Nat} {x : Addr × NestedKey} (g : GotN ks i L) (h : ks[i]? = some x) (pm : L'.Perm (x :: L)) : GotN ks (i + 1) L' := by
  have e := take_next h
  refine ⟨fun p hp => ?_, fun p hp => ?_, by rw [pm.length_eq]; exact Nat.succ_le_succ g.len⟩
  · rw [e, List.mem_append, List.mem_singleton]
    rcases List.mem_cons.mp (pm.mem_iff.mp hp) with z | z
    · exact .inr z
    · exact .inl (g.sub p z)
  · rw [(pm.map (·.2)).mem_iff, List.map_cons, List.mem_cons]
    rw [e, List.mem_append, List.mem_singleton] at hp
    rcases hp with z | z
    · exact .inr (g.all p z)
    · exact .inl (by rw [z])
theorem SetN.keep {h h' : Heap} {a : Addr} {L : List (Addr × NestedKey)} {es : Array (Int × Value)} {ep : Nat} {t : SetTable} (R : SetN w h a L es ep t) (ha : ∀ o, h.get? a = some o → h'.get? a = some o) (ht : ∀ p ∈ L, IsN h' p.2 p.1) : SetN w h' a L es ep t := by
  obtain ⟨o, ho, r⟩ := R.ob
  exact ⟨⟨o, ha o ho, r⟩, R.rows, R.tab, R.nd, ht, R.led, R.room, R.few⟩
/-- an empty set as it is laid -/
abbrev nSet (w : World) : Obj := { cls := .type "set", dict := none, data := .set #[] 0 (.fresh 0 0 (!w.params.followText "set-order")) }
theorem freshN {h : Heap} {a : Addr} (ho : h.get? a = some (nSet w)) : SetN w h a [] #[] 0 (.fresh 0 0 (!w.params.followText "set-order")) where
  ob := ⟨_, ho, ⟨rfl, rfl, rfl⟩, rfl⟩
  rows := rfl
  tab := ⟨List.Pairwise.nil, rfl, rfl, ⟨3, by decide, by decide, rfl⟩, fun x hx => (by cases hx), fun q hq => (by cases hq)⟩
  nd := List.nodup_nil
  key := fun p hp => (by cases hp)
  led := by
    show _ ∨ (!w.params.followText "set-order") = true
    cases w.params.followText "set-order" <;> simp
  room := by show 0 * 5 < 7 * 3; decide
  few := by show 0 ≤ 1900; decide
theorem updateN {I : Addr} {fp wr : List Addr} {G : Array GenState → Array GenState → Prop} {n : Nat} {Pv : Nat → Value → Prop} {St : Nat → Shared → Prop} {R : Result → Shared → Prop}
    (W : WalksS P w A.in1 I fp wr G n Pv St) (S : Addr) (hSf : S ∉ fp) (ks : List (Addr × NestedKey)) (hn : n = ks.length) (hfew : ks.length ≤ 1900) (hval : ∀ i v, Pv i v → ∃ p, ks[i]? = some p ∧ v = .ref p.1)
    (h0 : Heap) (hk : ∀ p ∈ ks, IsN h0 p.2 p.1) (hS0 : h0.get? S = none) (hw0 : ∀ b ∈ wr, h0.get? b = none) (hu : A.in1.units + 8 < cLine) :
    ∀ (d i : Nat) (s : Shared), n - i = d → i ≤ n → St i s → (∀ b o, h0.get? b = some o → s.heap.get? b = some o) → (∃ L es ep t, SetN w s.heap S L es ep t ∧ GotN ks i L) →
      (∀ s' L es ep t, Moved (S :: wr) G s s' → SetN w s'.heap S L es ep t → GotN ks n L → (∀ b o, h0.get? b = some o → s'.heap.get? b = some o) → R (.ok (.ret .none)) s') →
      codeAny (model P w) A (.builtin "set.update.loop" ⟨[.ref S, .ref I], []⟩) R s := by
  have hSw : S ∉ wr := fun h => hSf (W.sub _ h)
  have hsub : ∀ b ∈ wr, b ∈ S :: wr := fun b hb => List.mem_cons_of_mem _ hb
  have kept : ∀ {s s' : Shared}, Moved wr G s s' → (∀ b o, h0.get? b = some o → s.heap.get? b = some o) → ∀ b o, h0.get? b = some o → s'.heap.get? b = some o := fun hm hkp b o e =>
    hm.heap b o (fun hb => by rw [hw0 b hb] at e; cases e) (hkp b o e)
  have stay : ∀ {s s' : Shared} {i L es ep t}, Moved wr G s s' → (∀ b o, h0.get? b = some o → s'.heap.get? b = some o) → GotN ks i L → SetN w s.heap S L es ep t → SetN w s'.heap S L es ep t := fun hm hk' g hS =>
    hS.keep (fun o e => hm.heap S o hSw e) fun p hp => (hk p (List.mem_of_mem_take (g.sub p hp))).keep hk'
  intro d
  induction d with
  | zero =>
    intro i s hd hi hst hkp ⟨L, es, ep, t, hS, g⟩ hR
    have hin : i = n := by omega
    subst hin
    refine codeAny_builtin F.entry_set_update_loop ?_
    rw [Around.under_plainId F.plain_set_update_loop _]
    show wpAny _ A.in1 (pyNext (.ref I) >>= _) _ _ s
    refine wpAny_bind (W.done s _ _ hst fun s' hm => ?_)
    show wpAny _ A.in1 (ret Value.none) _ _ s'
    have hkp' := kept hm hkp
    exact wpAny_pure (hR s' L es ep t (hm.mono hsub) (stay hm hkp' g hS) g hkp')
  | succ d ih =>
    intro i s hd hi hst hkp ⟨L, es, ep, t, hS, g⟩ hR
    have hlt : i < n := by omega
    refine codeAny_builtin F.entry_set_update_loop ?_
    rw [Around.under_plainId F.plain_set_update_loop _]
    show wpAny _ A.in1 (pyNext (.ref I) >>= _) _ _ s
    refine wpAny_bind (W.item i s _ _ hlt hst fun v s' hP hst' hm => ?_)
    obtain ⟨p, hp, rfl⟩ := hval i v hP
    have hkp' := kept hm hkp
    have hS' := stay hm hkp' g hS
    have hx : IsN s'.heap p.2 p.1 := (hk p (List.mem_of_getElem? hp)).keep hkp'
    show wpAny _ A.in1 (holding [Value.ref p.1] (setAdd S (.ref p.1)) >>= _) _ _ s'
    refine wpAny_bind (wpAny_holding ?_)
    unfold setAdd
    refine wpAny_holding ?_
    refine wpAny_bind ((nestedKind P w).pyHash hu hx ?_)
    refine addN (s := { s' with toks := s'.toks + p.2.draws }) hS' hx hu (by have := g.len; omega) fun b h' L' es' ep' t' hsb hS2 c1 c2 => ?_
    have g' : GotN ks (i + 1) L' := by
      rcases Classical.em (p.2 ∈ L.map (·.2)) with c | c
      · rw [c1 c]; exact g.same hp c
      · exact g.more hp (c2 c)
    have hkp2 : ∀ b o, h0.get? b = some o → h'.get? b = some o := fun b o e => (hsb.2 b fun z => by rw [z, hS0] at e; cases e).trans (hkp' b o e)
    refine wpAny_pure ⟨plainId_quiet F.plain_set_update_loop _, ih (i + 1) _ (by omega) hlt (W.frame _ s' _ _ hst' (Nat.le_add_right _ _) fun b hb o e => ?_) hkp2 ⟨L', es', ep', t', hS2, g'⟩ fun s'' M es2 ep2 t2 hm2 hS3 g3 hkp3 => ?_⟩
    · rw [hsb.2 b fun h : b = S => hSf (by rw [← h]; exact hb)]; exact e
    · refine hR s'' M es2 ep2 t2 (Moved.trans W.gtrans ((hm.mono hsub).then_heap (Nat.le_add_right _ _) fun b o hb e => ?_) hm2) hS3 g3 hkp3
      rw [hsb.2 b fun h : b = S => hb (by rw [h]; exact List.mem_cons_self)]; exact e
set_option maxHeartbeats 8000000 in
/-- set(l), l a list of keys -/
theorem setOfN {l : Addr} {items : Array Value} (ks : List (Addr × NestedKey)) {Q : Value → Shared → Prop} (hh : A.handled = none) (hl : s.heap.IsList l items) (hit : items.toList = ks.map fun p => Value.ref p.1)
    (hk : ∀ p ∈ ks, IsN s.heap p.2 p.1) (hfew : ks.length ≤ 1900) (hu : A.units + 12 < cLine)
    (h : ∀ (h' : Heap) (tk : Nat) L es ep t, SetN w h' s.heap.objs.size L es ep t → GotN ks ks.length L → (∀ b o, s.heap.get? b = some o → h'.get? b = some o) → Q (.ref s.heap.objs.size) { s with heap := h', toks := tk }) :
    wpAny (model P w) A (call (.type "set") [.ref l]) Q E s := by
  have hisz : items.size = ks.length := by
    have q := congrArg List.length hit
    rw [Array.length_toList, List.length_map] at q
    exact q
  obtain ⟨c, tl, hmro⟩ := F.called_set.mro
  have hmade := F.called_set.made
  have hsub := F.called_set.sub
  refine wpAny_call (codeAny_of_tree ?_)
  show wpAny _ _ (callAny (.type "set") _) _ _ _
  refine wpAny_pure ⟨Code.quiet_builtin _ (by decide +kernel), codeAny_builtin F.entry_type_call ?_⟩
  rw [Around.under_plain (weight_type_call_type "set" [.ref l] []) rfl]
  have h1 := F.called_set.notType
  have h2 := F.called_set.canCreate
  have hct := F.typeCall_set_1 (.ref l)
  repeat (any_goals (first | assumption | wp_step))
  refine codeAny_mono (code_set_led1 (.ref l) (E := E) (Q₁ := fun obj s₁ => obj = .ref s.heap.objs.size ∧ s₁ = { s with heap := s.heap.push (nSet w) }) ⟨rfl, rfl⟩) fun r s₁ hr => ?_
  cases r with
  | error e => exact hr
  | ok fl =>
    cases fl with
    | ret obj =>
      obtain ⟨rfl, rfl⟩ := hr
      have hS : (s.heap.push (nSet w)).get? s.heap.objs.size = some (nSet w) := Heap.get?_push_size _ rfl
      have hT : Shared.TypeIs { s with heap := s.heap.push (nSet w) } (.ref s.heap.objs.size) "set" := ⟨_, hS, rfl⟩
      have hli := F.called_set.init.lookup
      have hbi := F.called_set.init.bind (.ref s.heap.objs.size)
      repeat (any_goals (first | assumption | wp_step))
      refine codeAny_mono (codeAny_call_builtin (R := wants (fun r s₂ => r = .none ∧ ∃ h' tk L es ep t, s₂ = { s with heap := h', toks := tk } ∧ SetN w h' s.heap.objs.size L es ep t ∧ GotN ks ks.length L ∧
          (∀ b o, s.heap.get? b = some o → h'.get? b = some o)) E) F.called_set.init.plain F.entry_set_init (check_set_init_1 hT ?_)) fun r₂ s₂ hr₂ => ?_
      · obtain ⟨⟨ocls, odict, odata, oslots⟩, hol, hcl, nl, hdl⟩ := hl
        simp only at hcl hdl
        subst hcl; subst hdl
        have hol' : (s.heap.push (nSet w)).get? l = some { cls := .type "list", dict := odict, data := .seq items nl, slots := oslots } := Heap.get?_push_of_some _ hol
        have hsls := F.sub_list_set
        have hslf := F.sub_list_frozenset
        have hne : (Value.type "list" == Value.type "dict") = false := by decide
        have hl1 : (s.heap.push (nSet w)).IsList l items := ⟨_, hol', rfl, nl, rfl⟩
        unfold Builtin.«set.__init__» noKeywords Builtin.Frozenset.updateFrom
        generalize hPI : pyIter = PI
        wp_walk
        subst hPI
        refine wpAny_pyIter_list hl1 ?_
        refine wpAny_bind (wpAny_runValue ?_)
        have hlS : l < s.heap.objs.size := Heap.lt_size hol
        have hh3 : A.in1.in1.in1.handled = none := by simp [hh]
        have hneI : l ≠ (s.heap.push (nSet w)).objs.size := by
          rw [Heap.size_push]; exact Nat.ne_of_lt (Nat.lt_succ_of_lt hlS)
        have hSf : s.heap.objs.size ∉ [(s.heap.push (nSet w)).objs.size, l] := by
          rw [Heap.size_push]; simp only [List.mem_cons, List.mem_singleton, List.not_mem_nil, or_false, not_or]
          exact ⟨Nat.ne_of_lt (Nat.lt_succ_self _), Nat.ne_of_gt hlS⟩
        have hval : ∀ (i : Nat) (v : Value), items[i]? = some v → ∃ p, ks[i]? = some p ∧ v = .ref p.1 := fun i v hv => by
          have q : items.toList[i]? = some v := by rw [Array.getElem?_toList]; exact hv
          rw [hit, List.getElem?_map] at q
          obtain ⟨p, e1, e2⟩ := Option.map_eq_some_iff.mp q
          exact ⟨p, e1, e2.symm⟩
        have free : ∀ b, s.heap.objs.size ≤ b → s.heap.get? b = none := fun b hb => by
          cases q : s.heap.get? b with
          | none => rfl
          | some o => exact absurd (Nat.lt_of_lt_of_le (Heap.lt_size q) hb) (Nat.lt_irrefl _)
        refine updateN ((Walks.list hh3 _ l hneI items).toS) s.heap.objs.size hSf ks hisz hfew hval s.heap hk (free _ (Nat.le_refl _)) (fun b hb => free b (by
            rw [List.mem_singleton.mp hb, Heap.size_push]
            exact Nat.le_succ _)) (by simp only [Around.in1_units]; omega) (items.size - 0) 0 _ (by omega) (Nat.zero_le _)
          ⟨⟨_, Heap.get?_push_size _ rfl, rfl, rfl⟩, (hl1.push _)⟩ (fun b o e => Heap.get?_push_of_some _ (Heap.get?_push_of_some _ e)) ?hS0 ?hR
        case hS0 => exact ⟨[], #[], 0, _, freshN (Heap.get?_push_of_some _ hS), fun p hp => (by cases hp), fun p hp => (by simp at hp), Nat.le_refl _⟩
        case hR =>
          intro s' L es ep t hm hS' g' hkp
          obtain ⟨h', g2, d', tk', os'⟩ := s'
          have eg : g2 = s.gens := hm.gens
          have ed : d' = s.drawn := hm.drawn
          have eo : os' = s.os := hm.os
          subst eg; subst ed; subst eo
          show wpAny _ _ _ _ _ _
          refine wpAny_pure ?_
          show wpAny _ _ (ret Value.none) _ _ _
          rw [hisz] at g'
          exact wpAny_pure ⟨rfl, h', tk', L, es, ep, t, rfl, hS', g', hkp⟩
      · cases r₂ with
        | error e => exact hr₂
        | ok fl₂ =>
          cases fl₂ with
          | ret r =>
            obtain ⟨rfl, h', tk, L, es, ep, t, rfl, hS', g', hk'⟩ := hr₂
            repeat (any_goals (first | assumption | wp_step))
            exact h _ _ _ _ _ _ hS' g' hk'
          | _ => exact hr₂.elim
    | _ => exact hr.elim
end
end ET
set_option Elab.async false
set_option maxRecDepth 100000
/-! ET: the order of data is antisymmetric; sorting what is the same but for its order. -/
namespace ET
open PySem L2
theorem Tag.cps_inj : ∀ a b : Tag, a.s.cps.toList = b.s.cps.toList → a = b := by
  intro a b
  cases a <;> cases b <;> first | (intro _; rfl) | (intro h; exact absurd h (by decide +kernel))
mutual
theorem toks_inj : ∀ (a b : D), cln a = true → cln b = true → PySem.W.alike a.py b.py = true → ∀ l m, PySem.W.keyToks a.py ++ l = PySem.W.keyToks b.py ++ m → a = b ∧ l = m
  | .non, b, _, hb, h, l, m, e => by
    cases b <;> simp [D.py, PySem.W.alike, PySem.W.keyToks, cln] at h hb e ⊢
    exact e
  | .bl _, _, h, _, _, _, _, _ => by simp [cln] at h
  | .scr _, _, h, _, _, _, _, _ => by simp [cln] at h
  | .int i, b, _, hb, h, l, m, e => by
    cases b <;> simp [D.py, PySem.W.alike, PySem.W.keyToks, cln] at h hb e ⊢
    exact e
  | .str t, b, _, hb, h, l, m, e => by
    cases b <;> simp [D.py, PySem.W.alike, PySem.W.keyToks, cln] at h hb e ⊢
    exact ⟨Tag.cps_inj _ _ (by simpa using e.1), e.2⟩
  | .tup xs, b, ha, hb, h, l, m, e => by
    cases b with
    | tup ys =>
      simp only [D.py, PySem.W.alike, PySem.W.keyToks, cln] at h ha hb e
      have := toks_injs xs ys ha hb h l m e
      exact ⟨by rw [this.1], this.2⟩
    | _ => simp [D.py, PySem.W.alike, cln] at h hb
  | .lst xs, b, ha, hb, h, l, m, e => by
    cases b with
    | lst ys =>
      simp only [D.py, PySem.W.alike, PySem.W.keyToks, cln] at h ha hb e
      have := toks_injs xs ys ha hb h l m e
      exact ⟨by rw [this.1], this.2⟩
    | _ => simp [D.py, PySem.W.alike, cln] at h hb
theorem toks_injs : ∀ (a b : List D), clns a = true → clns b = true → PySem.W.alikeAll (D.pys a) (D.pys b) = true → ∀ l m, PySem.W.keyToksAll (D.pys a) ++ l = PySem.W.keyToksAll (D.pys b) ++ m → a = b ∧ l = m
  | [], [], _, _, _, l, m, e => by
    simp only [D.pys, PySem.W.keyToksAll, List.cons_append, List.nil_append, List.cons.injEq] at e
    exact ⟨rfl, e.2⟩
  | [], y :: ys, _, _, _, l, m, e => by
    simp [D.pys, PySem.W.keyToksAll] at e
  | x :: xs, [], _, _, _, l, m, e => by
    simp [D.pys, PySem.W.keyToksAll] at e
  | x :: xs, y :: ys, ha, hb, h, l, m, e => by
    simp only [clns, Bool.and_eq_true] at ha hb
    simp only [D.pys, PySem.W.alikeAll, Bool.and_eq_true] at h
    simp only [D.pys, PySem.W.keyToksAll, List.cons_append, List.append_assoc, List.cons.injEq, true_and] at e
    obtain ⟨e1, e2⟩ := toks_inj x y ha.1 hb.1 h.1 _ _ e
    obtain ⟨e3, e4⟩ := toks_injs xs ys ha.2 hb.2 h.2 _ _ e2
    exact ⟨by rw [e1, e3], e4⟩
end
theorem leD_anti {a b : D} (ca : cln a = true) (cb : cln b = true) (al : alikeD a b = true) (h1 : leD a b = true) (h2 : leD b a = true) : a = b := by
  unfold leD PySem.W.dataLe PySem.W.sortLe at h1 h2
  simp only [cond_false, Bool.not_eq_true'] at h1 h2
  have e := PyProof.Rows.lex_total (O := PyProof.Rows.itemOrd) _ _ h2 h1
  have := toks_inj a b ca cb al [] [] (by simpa using e)
  exact this.1
theorem perm_asc_eq {α : Type} {le : α → α → Bool} : ∀ (l m : List α), l.Perm m → l.Pairwise (fun x y => le x y = true) → m.Pairwise (fun x y => le x y = true) → (∀ a ∈ l, ∀ b ∈ l, le a b = true → le b a = true → a = b) → l = m
  | [], m, p, _, _, _ => (List.nil_perm.mp p).symm
  | a :: l, [], p, _, _, _ => absurd (p.mem_iff.mp List.mem_cons_self) (by simp)
  | a :: l, b :: m, p, h1, h2, an => by
    rw [List.pairwise_cons] at h1 h2
    have hab : a = b := by
      apply Classical.byContradiction
      intro hn
      have e1 := p.mem_iff.mp (List.mem_cons_self (a := a))
      have e2 := p.symm.mem_iff.mp (List.mem_cons_self (a := b))
      have e2' := e2
      rw [List.mem_cons] at e1 e2
      exact hn (an a List.mem_cons_self b e2' (h1.1 b (e2.resolve_left fun e => hn e.symm)) (h2.1 a (e1.resolve_left hn)))
    subst hab
    rw [perm_asc_eq l m (p.cons_inv) h1.2 h2.2 fun x hx y hy => an x (List.mem_cons_of_mem _ hx) y (List.mem_cons_of_mem _ hy)]
theorem sort_perm {α : Type} (enc : α → D) {l m : List α} (p : l.Perm m) (an : ∀ a ∈ l, ∀ b ∈ l, leD (enc a) (enc b) = true → leD (enc b) (enc a) = true → a = b) :
    (l.mergeSort fun x y => leD (enc x) (enc y)) = m.mergeSort fun x y => leD (enc x) (enc y) := by
  have pl := List.mergeSort_perm l fun x y => leD (enc x) (enc y)
  have pm := List.mergeSort_perm m fun x y => leD (enc x) (enc y)
  have al : ∀ k : List α, (k.mergeSort fun x y => leD (enc x) (enc y)).Pairwise fun x y => leD (enc x) (enc y) = true := fun k =>
    List.pairwise_mergeSort (le := fun x y => leD (enc x) (enc y)) (fun a b c => leD_trans _ _ _) (fun a b => leD_total _ _) k
  exact perm_asc_eq (le := fun x y => leD (enc x) (enc y)) _ _ (pl.trans (p.trans pm.symm)) (al l) (al m) fun a ha b hb => an a (pl.mem_iff.mp ha) b (pl.mem_iff.mp hb)
theorem perm_of_mem {α : Type} [DecidableEq α] : ∀ {l m : List α}, l.Nodup → m.Nodup → (∀ x, x ∈ l ↔ x ∈ m) → l.Perm m := by
  intro l m hl hm h
  exact (List.perm_ext_iff_of_nodup hl hm).mpr h
end ET
set_option Elab.async false
set_option maxRecDepth 100000
/-! ET: sorted(set(xs)), xs a list of keys. -/
namespace ET
open PySem PySem.Spec PyProof.Rows L2
/-! ### tuples, empty ones among them -/
section
variable {prog : Program} {w : World} {A : Around} {E : Value → Shared → Prop} {s : Shared}
open PySem.W PySem.SeqAt
theorem oneLt_tup {xs : List PyData} {db : PyData} {a b : Value} {as bs : List Addr} {Q : Bool → Shared → Prop} (ra : Reads s.heap a (.tuple xs) as) (rb : Reads s.heap b db bs) (h : alike (.tuple xs) db = true)
    (hu : A.units + min (PyData.tuple xs).depth db.depth < cLine) (hq : Q (dataLt (.tuple xs) db) s) : wpAny (model prog w) A (oneLt' true a b) Q E s := by
  cases db with
  | tuple ys =>
    have hal : alikeAll xs ys = true := by simpa [alike] using h
    cases ra with
    | @tuple l o vs n _ as₁ h1 h2 h3 h4 =>
      cases rb with
      | @tuple l' o' vs' n' _ bs₁ k1 k2 k3 k4 =>
        have n1 : vs.size = xs.length := by simpa using ReadsAll.length _ _ _ h4
        have n2 : vs'.size = ys.length := by simpa using ReadsAll.length _ _ _ k4
        rw [dataLt_tuple, ← firstLt_toks xs ys hal, ← n1, ← n2] at hq
        rw [oneLt'_eq]
        simp only [if_true]
        refine wpAny_bind (wpAny_cRoomFor (room_here hu) ?_)
        obtain ⟨cls, dd, data, sl⟩ := o
        obtain ⟨cls2, dd2, data2, sl2⟩ := o'
        simp only at h2 h3 k2 k3
        subst h2 h3 k2 k3
        refine wpAny_bind (wpAny_callSpecialIfBound?_slot (T := "tuple") ⟨_, h1, rfl⟩ F.slot_tuple_lt (call_meets F.slot_tuple_lt ⟨_, h1, rfl⟩ F.entry_tuple_lt (F.args_tuple_lt_2 _ _)
          (tuple_ltAt l l' vs vs' n n' dd dd2 sl sl2 (pairEq xs ys) (fun j => dataLt (xs.getD j .none) (ys.getD j .none))) ⟨h1, k1, fun j j1 j2 => ?_, fun j j1 j2 hj => ?_, ?_⟩))
        · have := eqAt_alikeAll xs ys A.in1 s vs.toList vs'.toList _ _ h4 k4 hal (room_in hu) j (by simpa using j1) (by simpa using j2)
          simpa using this
        · have := rcLt_alikeAll xs ys A.in1 s vs.toList vs'.toList _ _ h4 k4 hal (room_in hu) j (by simpa using j1) (by simpa using j2) hj
          simpa using this
        · exact wpAny_truthy_bool hq
  | _ => exact absurd h (by simp [alike])
/-- the first items, where there are any -/
theorem firsts_tup : ∀ (vs : List Value) (ds : List PyData) {Q : List (Option Value) → Shared → Prop}, EachIs (fun v d => ∃ as, Reads s.heap v d as) vs ds → (∀ d ∈ ds, ∃ xs, d = .tuple xs) →
    (∀ fs : List (Option Value), fs.map Option.isSome = ds.map (fun d => match d with | .tuple (_ :: _) => true | _ => false) → Q fs s) → wpAny (model prog w) A (vs.mapM firstOfTuple') Q E s
  | [], _, _, e, _, h => by
    cases e
    rw [List.mapM_nil]; exact wpAny_pure (h [] rfl)
  | v :: vs, _, Q, e, ht, h => by
    cases e with
    | @cons _ d _ ds r t =>
      obtain ⟨as, r⟩ := r
      obtain ⟨xs, rfl⟩ := ht d List.mem_cons_self
      cases r with
      | @tuple l o ws n _ as₁ h1 h2 h3 h4 =>
        rw [List.mapM_cons]
        refine wpAny_bind ?_
        rw [kas_first_eq]
        refine wpAny_bind (Looks.here (show Looks _ s.heap (typeOf (.ref l)) o.cls from (Looks.ld h1).andThen .now) ?_)
        rw [h2, if_neg (by first | decide | simp)]
        refine wpAny_bind (listItems_at h1 h3 (wpAny_pure ?_))
        refine wpAny_bind (firsts_tup vs ds (Q := fun bs s' => wpAny (model prog w) A (pure (ws[0]? :: bs)) Q E s') t (fun d hd => ht d (List.mem_cons_of_mem _ hd)) fun fs hf => wpAny_pure (h _ ?_))
        rw [List.map_cons, List.map_cons, hf]
        congr 1
        have hl : ws.size = xs.length := by simpa using ReadsAll.length _ _ _ h4
        cases xs with
        | nil =>
          have : ws[0]? = none := by rw [Array.getElem?_eq_none]; simp [hl]
          rw [this]; rfl
        | cons x r =>
          have : 0 < ws.size := by rw [hl]; simp
          rw [Array.getElem?_eq_getElem this]; rfl
theorem types_tup : ∀ (vs : List Value) (ds : List PyData) {Q : List Value → Shared → Prop}, EachIs (fun v d => ∃ as, Reads s.heap v d as) vs ds → (∀ d ∈ ds, ∃ xs, d = .tuple xs) → Q (vs.map fun _ => .type "tuple") s → wpAny (model prog w) A (vs.mapM typeOf) Q E s
  | [], _, _, e, _, h => by
    cases e
    rw [List.mapM_nil]; exact wpAny_pure h
  | v :: vs, _, Q, e, ht, h => by
    cases e with
    | @cons _ d _ ds r t =>
      obtain ⟨as, r⟩ := r
      obtain ⟨xs, rfl⟩ := ht d List.mem_cons_self
      cases r with
      | @tuple l o ws n _ as₁ h1 h2 h3 h4 =>
        rw [List.mapM_cons]
        refine wpAny_bind (wpAny_typeOf (T := "tuple") ⟨o, h1, h2⟩ ?_)
        exact wpAny_bind (types_tup vs ds (Q := fun bs s' => wpAny (model prog w) A (pure (Value.type "tuple" :: bs)) Q E s') t (fun d hd => ht d (List.mem_cons_of_mem _ hd)) (wpAny_pure h))
theorem sortsTup {vs : List Value} {ds : List PyData} (e : EachIs (fun v d => ∃ as, Reads s.heap v d as) vs ds) (hal : AllAlike ds) (ht : ∀ d ∈ ds, ∃ xs, d = .tuple xs) (hu : ∀ d, d ∈ ds → A.units + d.depth < cLine) : SortsAt prog w A s (dataKind s.heap ds) vs := by
  by_cases hall : ∀ d ∈ ds, ∃ x r, d = PyData.tuple (x :: r)
  · exact SortsAt.data e hal (.inl hall) hu
  have room : ∀ {d d' : PyData}, d ∈ ds → A.units + min d.depth d'.depth < cLine := fun {d d'} hd => Nat.lt_of_le_of_lt (Nat.add_le_add_left (Nat.min_le_left _ _) _) (hu d hd)
  have hn : ∀ d ∈ ds, d ≠ .none := fun d hd z => by obtain ⟨xs, e⟩ := ht d hd; rw [z] at e; cases e
  have lg : H.LtAt prog w A s (dataKind s.heap ds) general' := by
    intro E x y a b Q ha hb hq
    obtain ⟨d, as, hd, ra, rfl⟩ := dataKind_inv ha
    obtain ⟨d', as', hd', rb, rfl⟩ := dataKind_inv hb
    show wpAny _ _ (oneLt' false x y) _ _ _
    exact oneLt_alike (fun z => by cases z) ra rb (hal d hd d' hd') (hn d hd) (room hd) hq
  have lo : H.LtAt prog w A s (dataKind s.heap ds) oneType' := by
    intro E x y a b Q ha hb hq
    obtain ⟨d, as, hd, ra, rfl⟩ := dataKind_inv ha
    obtain ⟨d', as', hd', rb, rfl⟩ := dataKind_inv hb
    rw [keyLt'_oneType]
    have hdd := hal d hd d' hd'
    have hr := room (d' := d') hd
    obtain ⟨xs, rfl⟩ := ht d hd
    exact oneLt_tup ra rb hdd hr hq
  have some_none : ∀ fs : List (Option Value), fs.map Option.isSome = ds.map (fun d => match d with | .tuple (_ :: _) => true | _ => false) → ¬ (fs.toArray.all fun x => x.isSome) = true := fun fs hf z => by
    refine hall fun d hd => ?_
    have hz : ∀ b ∈ fs.map Option.isSome, b = true := fun b hb => by
      obtain ⟨x, hx, rfl⟩ := List.mem_map.mp hb
      simp only [List.all_toArray, List.all_eq_true] at z
      exact z x hx
    have := hz _ (by rw [hf]; exact List.mem_map_of_mem hd)
    obtain ⟨xs, rfl⟩ := ht d hd
    cases xs with
    | nil => cases this
    | cons x r => exact ⟨x, r, rfl⟩
  refine ⟨fun v hv => ?_, ?_⟩
  · obtain ⟨d, hd, as, r⟩ := e.left v hv
    exact ⟨_, dataKind_some hal hd r⟩
  · have lfs : ∀ fs : List (Option Value), fs.map Option.isSome = ds.map (fun d => match d with | .tuple (_ :: _) => true | _ => false) → fs.length = ds.length := fun fs hf => by
      have := congrArg List.length hf
      simpa using this
    by_cases hf0 : (ds.map (fun d => match d with | PyData.tuple (_ :: _) => true | _ => false))[0]? = some true
    · refine ⟨general', lg, fun h2 E Q hq => ?_⟩
      rw [kat_kind_eq, List.mapM_toArray, map_eq_pure_bind]
      refine wpAny_bind (wpAny_bind (firsts_tup vs ds e ht fun fs hf => wpAny_pure ?_))
      rw [if_neg (some_none fs hf)]
      have : ((fs.toArray[0]?).bind id).isSome = true := by
        rw [← hf, List.getElem?_map] at hf0
        obtain ⟨x, e1, e2⟩ := Option.map_eq_some_iff.mp hf0
        have : fs.toArray[0]? = some x := by simpa using e1
        rw [this]; exact e2
      rw [if_pos this]
      exact wpAny_pure hq
    · refine ⟨oneType', lo, fun h2 E Q hq => ?_⟩
      rw [kat_kind_eq, List.mapM_toArray, map_eq_pure_bind]
      refine wpAny_bind (wpAny_bind (firsts_tup vs ds e ht fun fs hf => wpAny_pure ?_))
      rw [if_neg (some_none fs hf)]
      have hvd : vs.length = ds.length := e.length
      have : ¬ ((fs.toArray[0]?).bind id).isSome = true := fun z => by
        refine hf0 ?_
        rw [← hf, List.getElem?_map]
        cases q : fs[0]? with
        | none =>
          have : fs.toArray[0]? = none := by simpa using q
          rw [this] at z; cases z
        | some x =>
          have : fs.toArray[0]? = some x := by simpa using q
          rw [this] at z
          exact congrArg some z
      rw [if_neg this]
      rw [oneTypeOnly'_eq, List.mapM_toArray, map_eq_pure_bind]
      refine wpAny_bind (wpAny_bind (wpAny_bind (types_tup vs ds e ht (wpAny_pure ?_))))
      have hall2 : ((vs.map fun _ => Value.type "tuple").toArray.all fun x => x == Value.type "tuple") = true := by
        simp only [List.all_toArray, List.all_map, List.all_eq_true]
        intro _ _
        first | rfl | decide
      have h0 : (vs.map fun _ => Value.type "tuple").toArray[0]? = some (Value.type "tuple") := by
        cases vs with
        | nil => simp at h2
        | cons v vs => simp
      rw [h0]
      simp only [hall2, if_true]
      exact wpAny_pure (wpAny_pure hq)
end
/-! ### the set's items, sorted -/
theorem perm_map_inv {α β : Type} (f : α → β) {l m : List β} (p : l.Perm m) : ∀ bs : List α, m = bs.map f → ∃ cs : List α, l = cs.map f ∧ cs.Perm bs := by
  induction p with
  | nil => intro bs e; exact ⟨[], rfl, by cases bs with | nil => exact .refl _ | cons _ _ => cases e⟩
  | cons x _ ih =>
    intro bs e
    cases bs with
    | nil => cases e
    | cons b bs =>
      rw [List.map_cons, List.cons.injEq] at e
      obtain ⟨cs, e1, p1⟩ := ih bs e.2
      exact ⟨b :: cs, by rw [List.map_cons, e.1, e1], p1.cons b⟩
  | swap x y l =>
    intro bs e
    cases bs with
    | nil => cases e
    | cons b bs =>
      cases bs with
      | nil => cases e
      | cons c bs =>
        simp only [List.map_cons, List.cons.injEq] at e
        obtain ⟨rfl, rfl, rfl⟩ := e
        exact ⟨c :: b :: bs, rfl, .swap b c bs⟩
  | trans _ _ ih1 ih2 =>
    intro bs e
    obtain ⟨cs, e1, p1⟩ := ih2 bs e
    obtain ⟨ds, e2, p2⟩ := ih1 cs e1
    exact ⟨ds, e2, p2.trans p1⟩
theorem each_refs {α : Type} (adr : α → Addr) : ∀ bs : List α, PySem.W.EachIs (fun v b => v = Value.ref (adr b)) (bs.map fun b => Value.ref (adr b)) bs
  | [] => .nil
  | b :: bs => .cons rfl (each_refs adr bs)
theorem refs_each {α : Type} (adr : α → Addr) : ∀ {vs : List Value} {bs : List α}, PySem.W.EachIs (fun v b => v = Value.ref (adr b)) vs bs → vs = bs.map fun b => Value.ref (adr b)
  | _, _, .nil => rfl
  | _, _, .cons r t => by rw [r, refs_each adr t]; rfl
section
variable {P : Program} {w : World} {A : Around} {E : Value → Shared → Prop} {s : Shared}
set_option maxHeartbeats 4000000 in
theorem sortedN {a : Addr} {L : List (Addr × NestedKey)} {es : Array (Int × Value)} {ep : Nat} {t : SetTable} {Q : Value → Shared → Prop} (R : SetN w s.heap a L es ep t) (hh : A.handled = none)
    {α : Type} (bs : List α) (adr : α → Addr) (tell : α → PyData) (hL : L.map (·.1) = bs.map adr) (er : ∀ b ∈ bs, ∃ as, Reads s.heap (.ref (adr b)) (tell b) as)
    (hal : PySem.W.AllAlike (bs.map tell)) (hk : ∀ d ∈ bs.map tell, ∃ xs, d = PyData.tuple xs) (hu : ∀ b ∈ bs, A.units + 2 + (tell b).depth < cLine)
    (hQ : ∀ s' p (out : Array Value) (c : Nat) (cs : List α), cs.Perm bs → (∀ b o, s.heap.get? b = some o → s'.heap.get? b = some o) → s'.gens = s.gens → s'.os = s.os → s.heap.objs.size ≤ p →
      s'.heap.get? p = some (seqObj "list" out c) → out.toList = (cs.mergeSort (PySem.W.dataLe false tell)).map (fun b => Value.ref (adr b)) → Q (.ref p) s') :
    wpAny (model P w) A (call (.builtin "sorted") [.ref a]) Q E s := by
  obtain ⟨o, ho, hex, hd⟩ := R.ob
  have hsz := rows_size R.rows
  have hfew := R.few
  have hbl : bs.length = L.length := by have := congrArg List.length hL; simpa using this.symm
  refine PySem.Calls.call_function_entry kind_sorted plain_sorted entry_sorted (args_sorted1 _) ?_
  unfold Builtin.«sorted»
  refine wpAny_bind (m := checkCount "sorted" 1 1 _) (wpAny_pure ?_)
  refine wpAny_bind (collect_set (A := A.in1) hh ⟨o, ho, hex.1, hd⟩ R.fits (by unfold scanBound; omega) R.tab.ris R.led fun s1 vs k1 hz g1 o1 pm => ?_)
  have hes : es.toList.map (·.2) = bs.map fun b => Value.ref (adr b) := by
    rw [R.rows, rowsN, List.map_map]
    have : (L.map (·.1)).map Value.ref = (bs.map adr).map Value.ref := by rw [hL]
    simpa [List.map_map, Function.comp_def] using this
  rw [hes] at pm
  obtain ⟨cs, e1, p1⟩ := perm_map_inv _ pm bs rfl
  have hcl : cs.length = L.length := by rw [p1.length_eq, hbl]
  subst e1
  have mem : ∀ b, b ∈ cs → b ∈ bs := fun b h => p1.mem_iff.mp h
  have hvl : (cs.map fun b => Value.ref (adr b)).length ≤ sizeLine := by rw [List.length_map, sizeLine_eq]; omega
  refine wpAny_bind (wpAny_newList ?_ hvl)
  have hoL : (s1.heap.push (seqObj "list" (cs.map fun b => Value.ref (adr b)).toArray 0)).get? s1.heap.objs.size = some (seqObj "list" (cs.map fun b => Value.ref (adr b)).toArray 0) := Heap.get?_push_size _ rfl
  have kp : ∀ b u, s1.heap.get? b = some u → (PySem.W.sortingHeap (s1.heap.push (seqObj "list" (cs.map fun b => Value.ref (adr b)).toArray 0)) s1.heap.objs.size (cs.map fun b => Value.ref (adr b))).get? b = some u := fun b u e =>
    PySem.W.sortingHeap_old (Nat.ne_of_lt (Heap.lt_size e)) (Heap.get?_push_of_some _ e)
  have er2 : PySem.W.EachIs (fun v b => ∃ as, Reads (PySem.W.sortingHeap (s1.heap.push (seqObj "list" (cs.map fun b => Value.ref (adr b)).toArray 0)) s1.heap.objs.size (cs.map fun b => Value.ref (adr b))) v (tell b) as) (cs.map fun b => Value.ref (adr b)) cs := by
    have : ∀ l : List α, (∀ b ∈ l, b ∈ bs) → PySem.W.EachIs (fun v b => ∃ as, Reads (PySem.W.sortingHeap (s1.heap.push (seqObj "list" (cs.map fun b => Value.ref (adr b)).toArray 0)) s1.heap.objs.size (cs.map fun b => Value.ref (adr b))) v (tell b) as) (l.map fun b => Value.ref (adr b)) l := by
      intro l
      induction l with
      | nil => intro _; exact .nil
      | cons b l ih =>
        intro hl
        refine .cons ?_ (ih fun c hc => hl c (List.mem_cons_of_mem _ hc))
        obtain ⟨as, r⟩ := er b (hl b List.mem_cons_self)
        exact ⟨as, PyProof.Rows.Reads.keeps (fun c u e => kp c u (k1 c u e)) r⟩
    exact this cs mem
  have hal2 : PySem.W.AllAlike (cs.map tell) := fun x hx y hy => hal x ((p1.map tell).mem_iff.mp hx) y ((p1.map tell).mem_iff.mp hy)
  refine wpAny_bind (wpAny_holding (wpAny_call_entry slot_list_sort ⟨_, hoL, rfl⟩ entry_list_sort
    (PySem.W.list_sort_vals (s := { s1 with heap := s1.heap.push (seqObj "list" (cs.map fun b => Value.ref (adr b)).toArray 0) })
      (κ := PySem.W.dataKind (PySem.W.sortingHeap (s1.heap.push (seqObj "list" (cs.map fun b => Value.ref (adr b)).toArray 0)) s1.heap.objs.size (cs.map fun b => Value.ref (adr b))) (cs.map tell)) hoL
      (sortsTup (s := { s1 with heap := PySem.W.sortingHeap (s1.heap.push (seqObj "list" (cs.map fun b => Value.ref (adr b)).toArray 0)) s1.heap.objs.size (cs.map fun b => Value.ref (adr b)) })
        (PySem.W.each_map (R := fun v d => ∃ as, Reads (PySem.W.sortingHeap (s1.heap.push (seqObj "list" (cs.map fun b => Value.ref (adr b)).toArray 0)) s1.heap.objs.size (cs.map fun b => Value.ref (adr b))) v d as) tell er2) hal2
        (fun d hd => hk d ((p1.map tell).mem_iff.mp hd)) (PySem.W.bound_map fun b hb => hu b (mem b hb))) hvl ⟨.none, rfl, ?_⟩) (args_list_sort _)))
  have sd := PySem.W.sortVals_data (R := fun v b => v = Value.ref (adr b)) false (each_refs adr cs) er2 hal2
  generalize PySem.W.sortVals _ false (cs.map fun b => Value.ref (adr b)) (cs.map fun b => Value.ref (adr b)) = vs at sd ⊢
  obtain ⟨c, hc⟩ := sortedHeap_at (vs := cs.map fun b => Value.ref (adr b)) (out := vs.toArray) hoL
  refine wpAny_pure ⟨_, rfl, hQ _ s1.heap.objs.size vs.toArray c cs p1 (fun b u e => ?_) g1 o1 hz hc (refs_each adr sd)⟩
  have q := k1 b u e
  have hlt := Heap.lt_size q
  show (sortedHeap _ s1.heap.objs.size _ _).get? b = some u
  rw [sortedHeap_old (Nat.ne_of_lt hlt) (by rw [size_push']; exact Nat.lt_succ_of_lt hlt)]
  exact Heap.get?_push_of_some _ q
end
/-! ### data as keys -/
mutual
def hsh : D → Bool
  | .non => true
  | .int _ => true
  | .str _ => true
  | .tup xs => hshs xs
  | _ => false
def hshs : List D → Bool
  | [] => true
  | d :: ds => hsh d && hshs ds
end
mutual
def keyD : D → NestedKey
  | .int i => .num i
  | .str t => .text t.s
  | .tup xs => .tup (keyDs xs)
  | _ => .none
def keyDs : List D → List NestedKey
  | [] => []
  | d :: ds => keyD d :: keyDs ds
end
mutual
theorem hsh_cln : ∀ d : D, hsh d = true → cln d = true
  | .non, _ => rfl
  | .int _, _ => rfl
  | .str _, _ => rfl
  | .tup xs, h => hshs_clns xs h
  | .bl _, h => by cases h
  | .lst _, h => by cases h
  | .scr _, h => by cases h
theorem hshs_clns : ∀ ds : List D, hshs ds = true → clns ds = true
  | [], _ => rfl
  | d :: ds, h => by
    simp only [hshs, Bool.and_eq_true] at h
    simp [clns, hsh_cln d h.1, hshs_clns ds h.2]
end
mutual
theorem keyD_inj : ∀ a b : D, hsh a = true → hsh b = true → keyD a = keyD b → a = b
  | .non, b, _, hb, e => by cases b <;> simp [hsh, keyD] at hb e ⊢
  | .int i, b, _, hb, e => by cases b <;> simp [hsh, keyD] at hb e ⊢; exact e
  | .str t, b, _, hb, e => by cases b <;> simp [hsh, keyD] at hb e ⊢; exact Tag.s_inj _ _ e
  | .tup xs, b, ha, hb, e => by
    cases b with
    | tup ys =>
      simp only [keyD, NestedKey.tup.injEq] at e
      rw [keyDs_inj xs ys ha hb e]
    | _ => simp [hsh, keyD] at hb e
  | .bl _, _, h, _, _ => by cases h
  | .lst _, _, h, _, _ => by cases h
  | .scr _, _, h, _, _ => by cases h
theorem keyDs_inj : ∀ a b : List D, hshs a = true → hshs b = true → keyDs a = keyDs b → a = b
  | [], [], _, _, _ => rfl
  | [], _ :: _, _, _, e => by cases e
  | _ :: _, [], _, _, e => by cases e
  | x :: xs, y :: ys, ha, hb, e => by
    simp only [hshs, Bool.and_eq_true] at ha hb
    simp only [keyDs, List.cons.injEq] at e
    rw [keyD_inj x y ha.1 hb.1 e.1, keyDs_inj xs ys ha.2 hb.2 e.2]
end
mutual
theorem keyD_dep : ∀ d : D, hsh d = true → (keyD d).depth = dep d
  | .non, _ => rfl
  | .int _, _ => rfl
  | .str _, _ => rfl
  | .tup xs, h => by
    have := keyDs_dep xs h
    simp only [keyD, NestedKey.depth, dep_tup, this]
  | .bl _, h => by cases h
  | .lst _, h => by cases h
  | .scr _, h => by cases h
theorem keyDs_dep : ∀ ds : List D, hshs ds = true → NestedKey.depthAll (keyDs ds) = deps ds
  | [], _ => rfl
  | d :: ds, h => by
    simp only [hshs, Bool.and_eq_true] at h
    simp only [keyDs, NestedKey.depthAll, keyD_dep d h.1, keyDs_dep ds h.2]
    rfl
end
section
variable {X : Cx} {pins : List (Addr × Obj)} {σ : L2.St} {H : Hp} {s : Shared}
mutual
theorem nest_of (I : Inv X pins σ H s) : ∀ (d : D) (v : V) (u : Value), hsh d = true → Rp X.K H v d → RelV v u → NestedIs s.heap (keyD d) u
  | .non, v, u, _, r, z => by unfold Rp at r; subst r; cases z; exact .none
  | .int i, v, u, _, r, z => by unfold Rp at r; subst r; obtain ⟨t, rfl⟩ := z; exact .int i t
  | .str t, v, u, _, r, z => by unfold Rp at r; subst r; obtain ⟨k, rfl⟩ := z; exact .text _ _
  | .tup ds, v, u, h, r, z => by
    unfold Rp at r
    obtain ⟨a, vs, rfl, t, rs⟩ := r
    cases z
    obtain ⟨its, rv, ⟨o, ho, hc, n, hd⟩, _⟩ := I.tuple t.sq
    exact .tup ho hc hd (by simpa using nests_of I ds vs its h rs rv)
  | .bl _, _, _, h, _, _ => by cases h
  | .lst _, _, _, h, _, _ => by cases h
  | .scr _, _, _, h, _, _ => by cases h
theorem nests_of (I : Inv X pins σ H s) : ∀ (ds : List D) (vs : List V) (us : List Value), hshs ds = true → RpAll X.K H vs ds → Vals vs us → NestedAll s.heap (keyDs ds) us
  | [], vs, us, _, r, z => by unfold RpAll at r; subst r; cases z; exact .nil
  | d :: ds, vs, us, h, r, z => by
    simp only [hshs, Bool.and_eq_true] at h
    unfold RpAll at r
    obtain ⟨v, ws, rfl, r1, r2⟩ := r
    cases z with
    | cons z1 z2 => exact .cons (nest_of I d v _ h.1 r1 z1) (nests_of I ds ws _ h.2 r2 z2)
end
end
/-! ### the rule -/
def onceD (xs : List D) : List D := xs.foldl (fun acc x => if acc.any (fun z => peq z x) = true then acc else acc ++ [x]) []
noncomputable def canonD (xs : List D) : List D := sortD (onceD xs)
theorem onceD_aux : ∀ (l acc : List D), clns l = true → clns acc = true → acc.Nodup → (l.foldl (fun acc x => if acc.any (fun z => peq z x) = true then acc else acc ++ [x]) acc).Nodup ∧ ∀ x, x ∈ l.foldl (fun acc x => if acc.any (fun z => peq z x) = true then acc else acc ++ [x]) acc ↔ x ∈ acc ∨ x ∈ l
  | [], acc, _, _, h => ⟨h, by simp⟩
  | a :: l, acc, cl, ca, h => by
    simp only [clns, Bool.and_eq_true] at cl
    have cm : ∀ z ∈ acc, cln z = true := by
      have : ∀ l : List D, clns l = true → ∀ z ∈ l, cln z = true := by
        intro l
        induction l with
        | nil => intro _ z hz; cases hz
        | cons b l ih =>
          intro hc z hz
          simp only [clns, Bool.and_eq_true] at hc
          rcases List.mem_cons.mp hz with rfl | hz
          · exact hc.1
          · exact ih hc.2 z hz
      exact this acc ca
    have hany : acc.any (fun z => peq z a) = true ↔ a ∈ acc := by
      rw [List.any_eq_true]
      constructor
      · rintro ⟨z, hz, e⟩
        rw [← (peq_iff z a (cm z hz) cl.1).mp e]; exact hz
      · intro hz
        exact ⟨a, hz, (peq_iff a a cl.1 cl.1).mpr rfl⟩
    rw [List.foldl_cons]
    by_cases ha : a ∈ acc
    · rw [if_pos (hany.mpr ha)]
      obtain ⟨h1, h2⟩ := onceD_aux l acc cl.2 ca h
      refine ⟨h1, fun x => ?_⟩
      rw [h2, List.mem_cons]
      constructor
      · rintro (q | q)
        · exact .inl q
        · exact .inr (.inr q)
      · rintro (q | rfl | q)
        · exact .inl q
        · exact .inl ha
        · exact .inr q
    · rw [if_neg fun z => ha (hany.mp z)]
      have ca2 : clns (acc ++ [a]) = true := by
        have : ∀ l : List D, clns l = true → clns (l ++ [a]) = true := by
          intro l
          induction l with
          | nil => intro _; simp [clns, cl.1]
          | cons b l ih =>
            intro hc
            simp only [clns, Bool.and_eq_true, List.cons_append] at hc ⊢
            exact ⟨hc.1, ih hc.2⟩
        exact this acc ca
      obtain ⟨h1, h2⟩ := onceD_aux l (acc ++ [a]) cl.2 ca2 (by rw [List.nodup_append]; exact ⟨h, by simp, fun x hx y hy e => by simp at hy; subst hy; subst e; exact ha hx⟩)
      refine ⟨h1, fun x => ?_⟩
      rw [h2, List.mem_cons, List.mem_append]
      simp [or_assoc]
theorem onceD_ok {l : List D} (h : clns l = true) : (onceD l).Nodup ∧ ∀ x, x ∈ onceD l ↔ x ∈ l := by
  obtain ⟨h1, h2⟩ := onceD_aux l [] h rfl (by simp)
  exact ⟨h1, fun x => by rw [onceD, h2]; simp⟩
def tupB : D → Bool
  | .tup _ => true
  | _ => false
/-- keys that may be sorted: tuples, all alike, not too deep, not too many -/
def keysOk (xs : List D) : Bool := hshs xs && (xs.all fun a => xs.all fun b => alikeD a b) && (xs.all fun a => tupB a) && (xs.all fun a => decide (dep a ≤ 8)) && decide (xs.length ≤ 1900)
noncomputable def fSortSetK : D → Option (List D) := fun d => (lstOf d).bind fun xs => if keysOk xs = true then some (canonD xs) else none
def rSortSetK (K : PySem.W.Frag) : List V → Hp → VK → Prop := fun xs H Q => ∃ (a : Addr) (cs : List (Addr × D)), xs = [V.ref a] ∧ SqL K H a (cs.map fun c => V.ref c.1) ∧ (∀ c ∈ cs, Rp K H (.ref c.1) c.2) ∧ keysOk (cs.map (·.2)) = true ∧
  ∀ (p : Addr) (ms : List (Addr × D)), (∀ m ∈ ms, m ∈ cs) → ms.map (·.2) = canonD (cs.map (·.2)) → H p = none → Q (.ref p) (upd H p (.lst (ms.map fun c => V.ref c.1)))
theorem kind1 {d : D} (h : tupB d = true) : ∃ xs, d = .tup xs := by
  cases d with
  | tup xs => exact ⟨xs, rfl⟩
  | _ => cases h
section
variable {X : Cx} {M : Md}
theorem pe_sortSetK {k : Nat} {a : Expr} {ta : TE} {p p2 q pos : Pos} (hr : Room k X.A) (hc : X.calm = true) (hg : Gl X "sorted") (hm : X.mg "sorted" = none) (hg2 : Gl X "set") (hm2 : X.mg "set" = none) (ha : PE X a ta)
    (na : starEach [a] X.env = (false, eval a X.env) :: starEach [] X.env := by rfl) : PE X (.Call (.Name "sorted" p) [.Call (.Name "set" p2) [a] [] q] [] pos) (tCB (rSortSetK X.K) (tCons ta tNil)) := by
  refine ⟨fun pins s σ H Q I h => ?_⟩
  refine PyProof.Rows.Call_ (ld_blt I hg hm PyProof.Rows.boot_sorted ?_)
  refine PyProof.Rows.callWith_builtin1 (PyProof.Rows.args_cons ?_ rfl) rfl rfl
  refine PyProof.Rows.Call_ (ld_blt I hg2 hm2 PyProof.Rows.boot_set ?_)
  refine PyProof.Rows.callWith_type1 (PyProof.Rows.args_cons (thn (ha.run pins s σ H _ I h) fun v s1 ⟨x, H1, I1, r1, q1⟩ => PyProof.Rows.args_nil ?_) na) na rfl
  obtain ⟨l, cs, e, hq, hrp, hok, q1⟩ := q1
  cases e
  cases r1
  unfold keysOk at hok
  simp only [Bool.and_eq_true, List.all_eq_true, decide_eq_true_eq] at hok
  obtain ⟨⟨⟨⟨k1, k2⟩, k3⟩, k4⟩, k5⟩ := hok
  have hu := hr.un
  have hd := I1.ok.hd hc
  obtain ⟨its, r, pl, hz⟩ := I1.list hq
  have hsh' : ∀ c ∈ cs, hsh c.2 = true := by
    have : ∀ l : List D, hshs l = true → ∀ z ∈ l, hsh z = true := by
      intro l
      induction l with
      | nil => intro _ z hz; cases hz
      | cons b l ih =>
        intro hc z hz
        simp only [hshs, Bool.and_eq_true] at hc
        rcases List.mem_cons.mp hz with rfl | hz
        · exact hc.1
        · exact ih hc.2 z hz
    exact fun c hc => this _ k1 c.2 (List.mem_map_of_mem hc)
  have isN : ∀ c ∈ cs, IsN s1.heap (keyD c.2) c.1 := fun c hc => ⟨nest_of I1 c.2 _ _ (hsh' c hc) (hrp c hc) rfl, by rw [keyD_dep _ (hsh' c hc)]; exact k4 _ (List.mem_map_of_mem hc)⟩
  have hits : its = cs.map fun c => Value.ref c.1 := by
    have : ∀ (l : List (Addr × D)) (us : List Value), Vals (l.map fun c => V.ref c.1) us → us = l.map fun c => Value.ref c.1 := by
      intro l
      induction l with
      | nil => intro us z; cases z; rfl
      | cons b l ih => intro us z; cases z with | cons z1 z2 => cases z1; rw [ih _ z2]; rfl
    exact this cs its r
  refine setOfN (P := X.prog) (w := X.w) (cs.map fun c => (c.1, keyD c.2)) hd pl.isList (by simp [hits, List.map_map, Function.comp_def]) (fun p hp => ?_) (by simpa using k5) (by omega) fun h' tk L es ep t R g kk => ?_
  · obtain ⟨c, hc, rfl⟩ := List.mem_map.mp hp
    exact isN c hc
  refine PyProof.Rows.args_nil ?_
  have I2 : Inv X pins σ H1 { s1 with heap := h', toks := tk } := I1.kept fun b o e => kk b o e
  -- the rows of the set are some of the items
  obtain ⟨bs, eb, mb⟩ : ∃ bs : List (Addr × D), L = bs.map (fun c => (c.1, keyD c.2)) ∧ ∀ b ∈ bs, b ∈ cs := by
    have : ∀ l : List (Addr × NestedKey), (∀ p ∈ l, p ∈ cs.map fun c => (c.1, keyD c.2)) → ∃ bs : List (Addr × D), l = bs.map (fun c => (c.1, keyD c.2)) ∧ ∀ b ∈ bs, b ∈ cs := by
      intro l
      induction l with
      | nil => intro _; exact ⟨[], rfl, by simp⟩
      | cons p l ih =>
        intro hp
        obtain ⟨c, hc, e⟩ := List.mem_map.mp (hp p List.mem_cons_self)
        obtain ⟨bs, e2, m⟩ := ih fun x hx => hp x (List.mem_cons_of_mem _ hx)
        refine ⟨c :: bs, by rw [List.map_cons, e, e2], fun b hb => ?_⟩
        rcases List.mem_cons.mp hb with rfl | hb
        · exact hc
        · exact m b hb
    exact this L fun p hp => List.mem_of_mem_take (g.sub p hp)
  have ndb : (bs.map (·.2)).Nodup := by
    have := R.nd
    rw [eb, List.map_map] at this
    have e : (bs.map ((·.2) ∘ fun c : Addr × D => (c.1, keyD c.2))) = (bs.map (·.2)).map keyD := by rw [List.map_map]; rfl
    rw [e] at this
    exact List.Pairwise.of_map keyD (fun _ _ hne e => hne (congrArg keyD e)) this
  have memb : ∀ d, d ∈ bs.map (·.2) ↔ d ∈ cs.map (·.2) := fun d => by
    constructor
    · intro hd
      obtain ⟨b, hb, rfl⟩ := List.mem_map.mp hd
      exact List.mem_map_of_mem (mb b hb)
    · intro hd
      obtain ⟨c, hc, rfl⟩ := List.mem_map.mp hd
      have := g.all (c.1, keyD c.2) (by rw [List.take_length]; exact List.mem_map.mpr ⟨c, hc, rfl⟩)
      rw [eb, List.map_map] at this
      obtain ⟨b, hb, e⟩ := List.mem_map.mp this
      rw [← keyD_inj b.2 c.2 (hsh' b (mb b hb)) (hsh' c hc) e]
      exact List.mem_map_of_mem hb
  refine sortedN (A := X.A) R hd bs (·.1) (fun c => c.2.py) (by rw [eb, List.map_map]; rfl) (fun b hb => ?_) (fun x hx y hy => ?_) (fun d hd => ?_) (fun b hb => ?_) fun s' p out c ms pm kk2 gg oo hp hg hout => ?_
  · exact Dp.reads I2 b.2.py _ _ (Rp.dp _ _ (hrp b (mb b hb))) rfl
  · obtain ⟨x', hx', rfl⟩ := List.mem_map.mp hx
    obtain ⟨y', hy', rfl⟩ := List.mem_map.mp hy
    exact k2 _ (List.mem_map_of_mem (mb _ hx')) _ (List.mem_map_of_mem (mb _ hy'))
  · obtain ⟨b, hb, rfl⟩ := List.mem_map.mp hd
    obtain ⟨xs, e⟩ := kind1 (k3 _ (List.mem_map_of_mem (mb b hb)))
    exact ⟨D.pys xs, by show b.2.py = _; rw [e]; rfl⟩
  · have := k4 _ (List.mem_map_of_mem (mb b hb))
    show X.A.units + 2 + dep b.2 < cLine
    omega
  · have hln : ms.length ≤ 1900 := by
      rw [pm.length_eq]
      have := R.few
      rw [eb, List.length_map] at this
      exact this
    have hlen : (((ms.mergeSort (PySem.W.dataLe false fun c => c.2.py))).map fun c => V.ref c.1).length ≤ sizeLine := by rw [List.length_map, List.length_mergeSort, sizeLine_eq]; omega
    have hn : H1 p = none := I2.hok.fresh hp
    have hv : Vals ((ms.mergeSort (PySem.W.dataLe false fun c => c.2.py)).map fun c => V.ref c.1) out.toList := by
      rw [hout]
      have : ∀ l : List (Addr × D), Vals (l.map fun c => V.ref c.1) (l.map fun c => Value.ref c.1) := by
        intro l
        induction l with
        | nil => exact .nil
        | cons b l ih => exact .cons rfl ih
      exact this _
    have J : Inv X pins σ (upd H1 p (.lst ((ms.mergeSort (PySem.W.dataLe false fun c => c.2.py)).map fun c => V.ref c.1))) { ({ s1 with heap := h', toks := tk } : Shared) with heap := s'.heap, gens := s'.gens, drawn := s'.drawn, toks := s'.toks } :=
      I2.call (ch := []) (Un.laid kk2 hp hn) (I2.hok.laid kk2 hp ⟨hlen, out.toList, c, hv, hg⟩) (by rw [gg]; exact I2.bare) (fun _ z => nomatch z)
    have e : s' = { ({ s1 with heap := h', toks := tk } : Shared) with heap := s'.heap, gens := s'.gens, drawn := s'.drawn, toks := s'.toks } := by
      cases s'
      cases s1
      cases oo
      rfl
    rw [e]
    refine ⟨.ref p, _, J, rfl, q1 p _ (fun m hm => mb m (pm.mem_iff.mp ((List.mergeSort_perm _ _).mem_iff.mp hm))) ?_ hn⟩
    have ck : clns (cs.map (·.2)) = true := hshs_clns _ k1
    obtain ⟨o1, o2⟩ := onceD_ok ck
    have es : (ms.mergeSort (PySem.W.dataLe false fun c => c.2.py)).map (·.2) = (ms.map (·.2)).mergeSort leD := sort_map (f := fun c : Addr × D => c.2) ms
    rw [es]
    unfold canonD sortD
    have pd : (ms.map (·.2)).Perm (onceD (cs.map (·.2))) := by
      refine (List.perm_ext_iff_of_nodup ((pm.map (·.2)).nodup_iff.mpr ndb) o1).mpr fun d => ?_
      rw [(pm.map (·.2)).mem_iff, memb, o2]
    have cm : ∀ d ∈ ms.map (·.2), d ∈ cs.map (·.2) := fun d hd => (memb d).mp ((pm.map (·.2)).mem_iff.mp hd)
    exact sort_perm (fun d => d) pd fun x hx y hy h1 h2 => by
      obtain ⟨x', hx', rfl⟩ := List.mem_map.mp (cm x hx)
      obtain ⟨y', hy', rfl⟩ := List.mem_map.mp (cm y hy)
      exact leD_anti (hsh_cln _ (hsh' _ hx')) (hsh_cln _ (hsh' _ hy')) (k2 _ (cm _ hx) _ (cm _ hy)) h1 h2
theorem cs_of {K : PySem.W.Frag} {F : Hp} : ∀ (ds : List D) (vs : List V), (∀ d ∈ ds, tupB d = true) → RpAll K F vs ds → ∃ cs : List (Addr × D), cs.map (·.2) = ds ∧ vs = cs.map (fun c => V.ref c.1) ∧ ∀ c ∈ cs, Rp K F (.ref c.1) c.2
  | [], vs, _, r => by unfold RpAll at r; subst r; exact ⟨[], rfl, rfl, by simp⟩
  | d :: ds, vs, h, r => by
    unfold RpAll at r
    obtain ⟨v, ws, rfl, r1, r2⟩ := r
    obtain ⟨cs, e1, e2, e3⟩ := cs_of ds ws (fun x hx => h x (List.mem_cons_of_mem _ hx)) r2
    obtain ⟨x, rfl⟩ := kind1 (h d List.mem_cons_self)
    have r1' := r1
    unfold Rp at r1
    obtain ⟨a, us, rfl, _⟩ := r1
    refine ⟨(a, .tup x) :: cs, by rw [List.map_cons, e1], by rw [List.map_cons, e2], fun c hc => ?_⟩
    rcases List.mem_cons.mp hc with rfl | hc
    · exact r1'
    · exact e3 c hc
theorem imp_sortSetK {K : PySem.W.Frag} : Imp1L K (rSortSetK K) fSortSetK := fun F H v d c Q s hv h q => by
  unfold fSortSetK at h
  obtain ⟨xs, e1, h⟩ := Option.bind_eq_some_iff.mp h
  split at h
  · rename_i hok
    cases h
    have := lstOf_eq e1
    subst this
    obtain ⟨a, vs, rfl, t, r⟩ := Bor.lst (M := ⟨K, fun _ => 0⟩) hv s
    have hok' := hok
    unfold keysOk at hok'
    simp only [Bool.and_eq_true, List.all_eq_true, decide_eq_true_eq] at hok'
    obtain ⟨cs, e1, e2, e3⟩ := cs_of xs vs hok'.1.1.2 r
    subst e1
    subst e2
    refine ⟨a, cs, rfl, SqL.of t, fun c hc => Rp.mono s _ _ (e3 c hc), hok, fun p ms hm em hp => q p _ hp ?_⟩
    rw [← em]
    have : ∀ l : List (Addr × D), (∀ c ∈ l, Rp K F (.ref c.1) c.2) → RpAll K F (l.map fun c => V.ref c.1) (l.map (·.2)) := by
      intro l
      induction l with
      | nil => intro _; exact RpAll.nil
      | cons b l ih => intro h; exact RpAll.cons (h b List.mem_cons_self) (ih fun c hc => h c (List.mem_cons_of_mem _ hc))
    exact this ms fun m hm' => e3 m (hm m hm')
  · cases h
theorem s_sortSetK {k : Nat} {a : Expr} {x : DO} {p p2 q pos : Pos} (hr : Room k X.A) (hK : X.K = M.K) (hc : X.calm = true) (hg : Gl X "sorted") (hm : X.mg "sorted" = none) (hg2 : Gl X "set") (hm2 : X.mg "set" = none) (ha : Opd M X a x)
    (na : starEach [a] X.env = (false, eval a X.env) :: starEach [] X.env := by rfl) : Sx M X (.Call (.Name "sorted" p) [.Call (.Name "set" p2) [a] [] q] [] pos) (s1 fSortSetK x) :=
  (pe_sortSetK hr hc hg hm hg2 hm2 ha.run na).imp fun σ H Q h => by
    have := r_s1 (r := rSortSetK M.K) imp_sortSetK σ H Q h
    rw [hK]
    exact this
end
end ET
set_option Elab.async false
set_option maxRecDepth 100000
/-! ET: x[i] as a target among others. -/
namespace ET
open PySem L2
section
variable {X : Cx} {M : Md}
def gPut (i : Nat) (ix : DE) : GE := fun d ρ => if lstAt i ρ = true then (ix ρ).bind fun y => match y.1 with
    | .int k => (ownL i y.2).bind fun l => (ixN l.1.length k).bind fun j => some (y.2.set i (some (.own (.lst (l.1.set j d)) l.2)))
    | _ => none
  else none
theorem g_put {e : Expr} {i : Nat} {ix : DE} (h : PG X e (gSub (tVar i) (tD M ix) rSetL)) : Tg M X e (gPut i ix) := h.imp fun v σ H Q ⟨ρ, F, x, ρ', S, r1, e, q⟩ => by
  unfold gPut at e
  split at e
  · rename_i hl
    obtain ⟨ds0, io0, h0⟩ := lstAt_has hl
    obtain ⟨⟨y, ρ2⟩, e2, e⟩ := Option.bind_eq_some_iff.mp e
    cases y with
    | int k =>
      dsimp only at e
      obtain ⟨⟨ds, io⟩, e3, e⟩ := Option.bind_eq_some_iff.mp e
      obtain ⟨j, e4, e⟩ := Option.bind_eq_some_iff.mp e
      cases e
      obtain ⟨b, vs0, eb, hb, _⟩ := S.is h0
      refine ⟨_, eb, ρ, F, _, ρ2, S, e2, fun w H2 F2 S2 T2 r2 => ?_⟩
      unfold Rp at r2
      subst r2
      have hh := ownL_has e3
      obtain ⟨c, vs, ec, hc, rc⟩ := S2.is hh
      rw [eb] at ec
      cases ec
      refine ⟨b, vs, k, j, rfl, rfl, hc, by rw [rc.length]; exact e4, ?_⟩
      obtain ⟨S3, T3⟩ := S2.write (o' := .lst (ds.set j x)) (u := .lst (vs.set j v)) hh eb ⟨vs.set j v, upd_same, rc.set j (Rp.mono T2.fr _ _ r1)⟩
      exact q σ _ F2 S3 (T2.trans T3)
    | _ => cases e
  · cases e
end
def putG (i : Nat) (d : D) : D × Env → Option Env
  | (.int k, ρ) => (ownL i ρ).bind fun l => (ixN l.1.length k).bind fun j => some (ρ.set i (some (.own (.lst (l.1.set j d)) l.2)))
  | _ => none
@[simp] theorem putG_i (i : Nat) (d : D) (k : Int) (ρ : Env) : putG i d (.int k, ρ) = (ownL i ρ).bind fun l => (ixN l.1.length k).bind fun j => some (ρ.set i (some (.own (.lst (l.1.set j d)) l.2))) := rfl
@[simp] theorem gPut_d (i : Nat) (ix : DE) (d : D) (ρ : Env) : gPut i ix d ρ = if lstAt i ρ = true then (ix ρ).bind (putG i d) else none := by
  unfold gPut
  congr 1; congr 1; funext y
  obtain ⟨u, ρ'⟩ := y
  cases u <;> rfl
end ET
set_option Elab.async false
set_option maxRecDepth 100000
namespace ET
open PySem L2
noncomputable section
/-- _law_pool -/
def b__law_pool_1 : DS := (kRet (sLst (dCons (dFrz (s1 fListOf (.o 0))) (dCons (dC (.int 0)) (dCons (dC (.int 0)) (dCons (dC (.int 0)) (dCons (dV 1) dNil)))))))
def b__law_pool_2 : DS := (kSet 1 (s2S (vF fMod) (.e (d1 fIntOf (.e (dFrz (s2S fAddS (.e (dFrz (s2S fMulS (.o 1) (.e (dC (.int 31)))))) (.o 2)))))) (.e (dC (.int 1000003)))))
def m__law_pool : DS := (kSeq (kSet 1 (sVal (dC (.int 7)))) (kSeq (kFor (iVal (dFrz (sSlS (.o 0) none (some (dC (.int 63)))))) (gN 2) b__law_pool_2) b__law_pool_1))
def f__law_pool : FS := runF 1 3 m__law_pool
/-- _law_put -/
def e__law_put_1 (self : FS) : DE := (dTup (dCons (dV 4) (dCons (dFrz (callS self [.val (dV 5), .val (dV 1), .val (dV 2)])) dNil)))
def b__law_put_2 (self : FS) : DS := (kSeq (kSet 3 (sVal (d1 fTupOf (.e (dFrz (sComp [4, 5] (iVal (d2 fIx (.o 0) (.e (dNegI 1)))) (gTp (gsCons (gN 4) (gsCons (gN 5) gsNil))) tYesD (e__law_put_1 self))))))) (kRet (s2S fAddS (.e (dFrz (sSlS (.o 0) none (some (dNegI 1))))) (.e (dTup (dCons (dV 3) dNil))))))
def t__law_put_3 : DT := (tOf (d2 (fIn false) (.e (d2 fIx (.o 0) (.e (dC (.int 0))))) (.e (dTup (dCons (dC (.str .«end»)) (dCons (dC (.str .beside)) dNil))))))
def b__law_put_4 (self : FS) : DS := (kSeq (kIf t__law_put_3 (kRet (sVal (dV 0))) kNil) (b__law_put_2 self))
def t__law_put_5 : DT := (tOf (d2 fEq (.e (d2 fIx (.o 0) (.e (dC (.int 0))))) (.e (dC (.str .loop)))))
def b__law_put_6 (self : FS) : DS := (kRet (sVal (dIf (tOf (d2 fEq (.e (d2 fIx (.o 0) (.e (dC (.int 1))))) (.o 1))) (dV 0) (dTup (dCons (dC (.str .loop)) (dCons (d2 fIx (.o 0) (.e (dC (.int 1)))) (dCons (dFrz (callS self [.val (d2 fIx (.o 0) (.e (dC (.int 2)))), .val (dV 1), .val (dV 2)])) dNil)))))))
def b__law_put_7 (self : FS) : DS := (kSeq (kIf t__law_put_5 (b__law_put_6 self) kNil) (b__law_put_4 self))
def t__law_put_8 : DT := (tOf (d2 fEq (.e (d2 fIx (.o 0) (.e (dC (.int 0))))) (.e (dC (.str .again)))))
def b__law_put_9 : DS := (kRet (sVal (dIf (tOf (d2 fEq (.e (d2 fIx (.o 0) (.e (dC (.int 1))))) (.o 1))) (dV 2) (dV 0))))
def m__law_put (self : FS) : DS := (kSeq (kIf t__law_put_8 b__law_put_9 kNil) (b__law_put_7 self))
def f__law_put : Nat → FS
  | 0 => runF 3 6 kNo
  | k + 1 => runF 3 6 (m__law_put (f__law_put k))
/-- _law_open -/
def t__law_open_1 : DT := (tOf (d2 fEq (.e (d2 fIx (.o 0) (.e (dC (.int 0))))) (.e (dC (.str .loop)))))
def b__law_open_2 : DS := (kSet 0 (callS (f__law_put 40) [.val (d2 fIx (.o 0) (.e (dC (.int 2)))), .val (d2 fIx (.o 0) (.e (dC (.int 1)))), .val (dV 0)]))
def m__law_open : DS := (kSeq (kWhile t__law_open_1 b__law_open_2) (kRet (sVal (dV 0))))
def f__law_open : FS := runF 1 1 m__law_open
/-- _law_machine -/
def b__law_machine_1 : DS := (kRet (sVal (dTup (dCons (d1 fLen (.o 1)) (dCons (d1 fTupOf (.e (dFrz (s1 fSorted (.o 2))))) dNil)))))
def b__law_machine_2 : DS := (kSeq (kSet 6 (callS f__law_open [.val (dV 6)])) (kSeq (kSet 1 (sVal (dIf (tOf (d2 (fIn true) (.o 6) (.o 1))) (dFrz (s2S fAddS (.o 1) (.e (dFrz (sLst (dCons (dV 6) dNil)))))) (dV 1)))) (kAppC 2 (dTup (dCons (dV 3) (dCons (d2 fIx (.o 4) (.e (dC (.int 0)))) (dCons (d2 fIx (.o 4) (.e (dC (.int 1)))) (dCons (dV 5) (dCons (dIndex (.o 1) (dV 6)) dNil)))))))))
def b__law_machine_3 : DS := (kSeq (kSet 4 (sVal (d2 fIx (.o 1) (.o 3)))) (kSeq (kFor (iVal (dIf (tOf (d2 fNe (.e (d2 fIx (.o 4) (.e (dC (.int 0))))) (.e (dC (.str .«end»))))) (d2 fIx (.o 4) (.e (dC (.int 2)))) (dTup dNil))) (gTp (gsCons (gN 5) (gsCons (gN 6) gsNil))) b__law_machine_2) (kSet 3 (s2S fAddS (.o 3) (.e (dC (.int 1)))))))
def m__law_machine : DS := (kSeq (kSet 1 (sLst (dCons (dFrz (callS f__law_open [.val (dV 0)])) dNil))) (kSeq (kSet 2 (sLst dNil)) (kSeq (kSet 3 (sVal (dC (.int 0)))) (kSeq (kWhile (tOf (d2 fLt (.o 3) (.e (d1 fLen (.o 1))))) b__law_machine_3) b__law_machine_1))))
def f__law_machine : FS := runF 1 7 m__law_machine
/-- _law_ways_out -/
def b__law_ways_out_1 (self : FS) : DS := (kSet 1 (s2S fAddS (.o 1) (.e (dFrz (callS self [.val (dV 3)])))))
def b__law_ways_out_2 (self : FS) : DS := (kSeq (kSet 1 (sVal (dIf (tOf (d2 fEq (.e (d2 fIx (.o 0) (.e (dC (.int 0))))) (.e (dC (.str .say))))) (dFrz (sLst dNil)) (dFrz (sLst (dCons (dNegI 1) dNil)))))) (kSeq (kFor (iVal (dIf (tOf (d2 fEq (.e (d2 fIx (.o 0) (.e (dC (.int 0))))) (.e (dC (.str .say))))) (d2 fIx (.o 0) (.e (dC (.int 3)))) (dTup dNil))) (gTp (gsCons (gN 2) (gsCons (gN 3) gsNil))) (b__law_ways_out_1 self)) (kRet (s1 fSortSet (.o 1)))))
def t__law_ways_out_3 : DT := (tOf (d2 fNe (.o 4) (.e (d2 fIx (.o 0) (.e (dC (.int 1)))))))
def t__law_ways_out_4 : DT := (tOf (d2 fEq (.e (d2 fIx (.o 0) (.e (dC (.int 0))))) (.e (dC (.str .loop)))))
def b__law_ways_out_5 (self : FS) : DS := (kRet (sComp [4] (iVal (dFrz (callS self [.val (d2 fIx (.o 0) (.e (dC (.int 2))))]))) (gN 4) t__law_ways_out_3 (dV 4)))
def b__law_ways_out_6 (self : FS) : DS := (kSeq (kIf t__law_ways_out_4 (b__law_ways_out_5 self) kNil) (b__law_ways_out_2 self))
def t__law_ways_out_7 : DT := (tOf (d2 fEq (.e (d2 fIx (.o 0) (.e (dC (.int 0))))) (.e (dC (.str .again)))))
def b__law_ways_out_8 : DS := (kRet (sLst (dCons (d2 fIx (.o 0) (.e (dC (.int 1)))) dNil)))
def m__law_ways_out (self : FS) : DS := (kSeq (kIf t__law_ways_out_7 b__law_ways_out_8 kNil) (b__law_ways_out_6 self))
def f__law_ways_out : Nat → FS
  | 0 => runF 1 5 kNo
  | k + 1 => runF 1 5 (m__law_ways_out (f__law_ways_out k))
/-- _law_inner -/
def b__law_inner_1 : DS := (kRet (sVal (dIf (tOf (d2 fEq (.e (d2 fIx (.o 0) (.e (dC (.int 0))))) (.e (dC (.str .loop))))) (dFrz (sLst (dCons (d2 fIx (.o 0) (.e (dC (.int 2)))) dNil))) (dFrz (sLst dNil)))))
def t__law_inner_2 : DT := (tOf (d2 fEq (.e (d2 fIx (.o 0) (.e (dC (.int 0))))) (.e (dC (.str .beside)))))
def b__law_inner_3 : DS := (kRet (sLst (dCons (d2 fIx (.o 0) (.e (dC (.int 1)))) (dCons (d2 fIx (.o 0) (.e (dC (.int 2)))) dNil))))
def b__law_inner_4 : DS := (kSeq (kIf t__law_inner_2 b__law_inner_3 kNil) b__law_inner_1)
def t__law_inner_5 : DT := (tOf (d2 fEq (.e (d2 fIx (.o 0) (.e (dC (.int 0))))) (.e (dC (.str .say)))))
def b__law_inner_6 : DS := (kRet (sComp [1, 2] (iVal (d2 fIx (.o 0) (.e (dC (.int 3))))) (gTp (gsCons (gN 1) (gsCons (gN 2) gsNil))) tYesD (dV 2)))
def m__law_inner : DS := (kSeq (kIf t__law_inner_5 b__law_inner_6 kNil) b__law_inner_4)
def f__law_inner : FS := runF 1 3 m__law_inner
/-- _law_roles -/
def b__law_roles_1 (self : FS) : DS := (kSet 1 (s2S fAddS (.o 1) (.e (dFrz (callS self [.val (dV 2)])))))
def m__law_roles (self : FS) : DS := (kSeq (kSet 1 (sVal (dIf (tOf (d2 fEq (.e (d2 fIx (.o 0) (.e (dC (.int 0))))) (.e (dC (.str .say))))) (dFrz (sLst (dCons (d2 fIx (.o 0) (.e (dC (.int 1)))) (dCons (d2 fIx (.o 0) (.e (dC (.int 2)))) dNil)))) (dFrz (sLst dNil))))) (kSeq (kFor (iVal (dFrz (callS f__law_inner [.val (dV 0)]))) (gN 2) (b__law_roles_1 self)) (kRet (s1 fSortSet (.o 1)))))
def f__law_roles : Nat → FS
  | 0 => runF 1 3 kNo
  | k + 1 => runF 1 3 (m__law_roles (f__law_roles k))
/-- _law_many -/
def m__law_many (self : FS) : DS := (kRet (s2S fAddS (.e (dC (.int 1))) (.e (d1 fSum (.e (dFrz (sComp [1] (iVal (dFrz (callS f__law_inner [.val (dV 0)]))) (gN 1) tYesD (dFrz (callS self [.val (dV 1)])))))))))
def f__law_many : Nat → FS
  | 0 => runF 1 2 kNo
  | k + 1 => runF 1 2 (m__law_many (f__law_many k))
/-- _law_merge -/
def b__law_merge_1 : DS := (kRet (sVal (dTup (dCons (d2 fIx (.o 0) (.e (dC (.int 0)))) (dCons (d2 fIx (.o 0) (.e (dC (.int 1)))) (dCons (dV 6) dNil))))))
def b__law_merge_2 : DS := (kSet 6 (s2S fAddS (.o 6) (.e (dTup (dCons (dTup (dCons (dV 4) (dCons (dV 5) dNil))) dNil)))))
def b__law_merge_3 : DS := (kSeq (kIf (tOf (d2 fIsN (.o 5) (.e (dC .non)))) (kRet (sVal (dC .non))) kNil) b__law_merge_2)
def t__law_merge_4 : DT := (tAndD (tOf (dDIn false 2 (dV 4))) (tOf (dDIn false 3 (dV 4))))
def b__law_merge_5 (self : FS) : DS := (kSet 5 (callS self [.val (dDGet 2 (dV 4)), .val (dDGet 3 (dV 4))]))
def b__law_merge_6 (self : FS) : DS := (kSeq (kSet 5 (sVal (dIf (tOf (dDIn false 2 (dV 4))) (dDGet 2 (dV 4)) (dDGet 3 (dV 4))))) (kSeq (kIf t__law_merge_4 (b__law_merge_5 self) kNil) b__law_merge_3))
def b__law_merge_7 (self : FS) : DS := (kSeq (kSet 6 (sVal (dTup dNil))) (kSeq (kFor (iVal (dFrz (s1 fSortSet (.e (dFrz (s2S fAddS (.e (dFrz (sKeysK 2))) (.e (dFrz (sKeysK 3))))))))) (gN 4) (b__law_merge_6 self)) b__law_merge_1))
def t__law_merge_8 : DT := (tAndD (tOf (d2 fEq (.e (d2 fIx (.o 0) (.e (dC (.int 0))))) (.e (dC (.str .send))))) (tOf (d2 fNe (.e (dFrz (s1 fSorted (.e (dFrz (sKeysK 2)))))) (.e (dFrz (s1 fSorted (.e (dFrz (sKeysK 3)))))))))
def b__law_merge_9 (self : FS) : DS := (kSeq (kIf t__law_merge_8 (kRet (sVal (dC .non))) kNil) (b__law_merge_7 self))
def b__law_merge_10 (self : FS) : DS := (kSeq (kFor (iVal (d2 fIx (.o 1) (.e (dC (.int 2))))) (gTp (gsCons (gN 4) (gsCons (gN 5) gsNil))) (kDPut 3 (dV 5) (dV 4))) (b__law_merge_9 self))
def b__law_merge_11 (self : FS) : DS := (kSeq (kPar 2 3 sNewK sNewK) (kSeq (kFor (iVal (d2 fIx (.o 0) (.e (dC (.int 2))))) (gTp (gsCons (gN 4) (gsCons (gN 5) gsNil))) (kDPut 2 (dV 5) (dV 4))) (b__law_merge_10 self)))
def t__law_merge_12 : DT := (tOf (d2 fEq (.e (d2 fIx (.o 0) (.e (dC (.int 0))))) (.e (dC (.str .loop)))))
def b__law_merge_13 (self : FS) : DS := (kSeq (kSet 7 (callS self [.val (d2 fIx (.o 0) (.e (dC (.int 2)))), .val (d2 fIx (.o 1) (.e (dC (.int 2))))])) (kRet (sVal (dIf (tOf (d2 fNotN (.o 7) (.e (dC .non)))) (dTup (dCons (dC (.str .loop)) (dCons (d2 fIx (.o 0) (.e (dC (.int 1)))) (dCons (dV 7) dNil)))) (dC .non)))))
def b__law_merge_14 (self : FS) : DS := (kSeq (kIf t__law_merge_12 (b__law_merge_13 self) kNil) (b__law_merge_11 self))
def t__law_merge_15 : DT := (tOrD (tOf (d2 fNe (.e (d2 fIx (.o 0) (.e (dC (.int 0))))) (.e (d2 fIx (.o 1) (.e (dC (.int 0))))))) (tOrD (tOf (d2 (fIn false) (.e (d2 fIx (.o 0) (.e (dC (.int 0))))) (.e (dTup (dCons (dC (.str .«end»)) (dCons (dC (.str .again)) dNil)))))) (tOf (d2 fNe (.e (d2 fIx (.o 0) (.e (dC (.int 1))))) (.e (d2 fIx (.o 1) (.e (dC (.int 1)))))))))
def b__law_merge_16 (self : FS) : DS := (kSeq (kIf t__law_merge_15 (kRet (sVal (dC .non))) kNil) (b__law_merge_14 self))
def m__law_merge (self : FS) : DS := (kSeq (kIf (tOf (d2 fEq (.o 0) (.o 1))) (kRet (sVal (dV 0))) kNil) (b__law_merge_16 self))
def f__law_merge : Nat → FS
  | 0 => runF 2 8 kNo
  | k + 1 => runF 2 8 (m__law_merge (f__law_merge k))
/-- _law_part_inner -/
def b__law_part_inner_1 : DS := (kRet (sVal (dIf (tOf (d2 fEq (.e (d2 fIx (.o 0) (.e (dC (.int 0))))) (.e (dC (.str .loop))))) (dFrz (sLst (dCons (d2 fIx (.o 0) (.e (dC (.int 2)))) dNil))) (dFrz (sLst dNil)))))
def t__law_part_inner_2 : DT := (tOf (d2 (fIn false) (.e (d2 fIx (.o 0) (.e (dC (.int 0))))) (.e (dTup (dCons (dC (.str .send)) (dCons (dC (.str .hear)) dNil))))))
def b__law_part_inner_3 : DS := (kRet (sComp [1, 2] (iVal (d2 fIx (.o 0) (.e (dC (.int 2))))) (gTp (gsCons (gN 1) (gsCons (gN 2) gsNil))) tYesD (dV 2)))
def m__law_part_inner : DS := (kSeq (kIf t__law_part_inner_2 b__law_part_inner_3 kNil) b__law_part_inner_1)
def f__law_part_inner : FS := runF 1 3 m__law_part_inner
/-- _law_goes -/
def b__law_goes_1 (self : FS) : DS := (kRet (sVal (d2 fGt (.e (d1 fLen (.e (dFrz (sComp [2] (iVal (dFrz (callS f__law_part_inner [.val (dV 0)]))) (gN 2) (tOf (dFrz (callS self [.val (dV 2), .val (dV 1)]))) (dC (.int 1))))))) (.e (dC (.int 0))))))
def t__law_goes_2 : DT := (tAndD (tOf (d2 fEq (.e (d2 fIx (.o 0) (.e (dC (.int 0))))) (.e (dC (.str .loop))))) (tOf (d2 fEq (.e (d2 fIx (.o 0) (.e (dC (.int 1))))) (.o 1))))
def b__law_goes_3 (self : FS) : DS := (kSeq (kIf t__law_goes_2 (kRet (sVal (dC (.bl false)))) kNil) (b__law_goes_1 self))
def t__law_goes_4 : DT := (tOf (d2 fEq (.e (d2 fIx (.o 0) (.e (dC (.int 0))))) (.e (dC (.str .again)))))
def b__law_goes_5 : DS := (kRet (sVal (d2 fEq (.e (d2 fIx (.o 0) (.e (dC (.int 1))))) (.o 1))))
def m__law_goes (self : FS) : DS := (kSeq (kIf t__law_goes_4 b__law_goes_5 kNil) (b__law_goes_3 self))
def f__law_goes : Nat → FS
  | 0 => runF 2 3 kNo
  | k + 1 => runF 2 3 (m__law_goes (f__law_goes k))
/-- _law_part -/
def b__law_part_1 : DS := (kRet (sVal (dTup (dCons (dV 8) (dCons (dFrz (s2S fAddS (.o 4) (.e (dIf (tOf (d2 fIsN (.o 8) (.e (dC .non)))) (dFrz (sLst (dCons (dV 5) dNil))) (dFrz (sLst dNil)))))) dNil)))))
def b__law_part_2 : DS := (kSet 8 (sVal (dIf (tOf (d2 fNotN (.o 8) (.e (dC .non)))) (dFrz (callS (f__law_merge 40) [.val (dV 8), .val (dV 9)])) (dC .non))))
def b__law_part_3 : DS := (kSeq (kSet 8 (sVal (d2 fIx (.e (d2 fIx (.o 3) (.e (dC (.int 0))))) (.e (dC (.int 1)))))) (kSeq (kFor (iVal (dFrz (sSlS (.o 3) (some (dC (.int 1))) none))) (gTp (gsCons (gN 6) (gsCons (gN 9) gsNil))) b__law_part_2) b__law_part_1))
def t__law_part_4 : DT := (tOf (d2 (fIn false) (.o 1) (.e (dTup (dCons (d2 fIx (.o 0) (.e (dC (.int 1)))) (dCons (d2 fIx (.o 0) (.e (dC (.int 2)))) dNil))))))
def b__law_part_5 : DS := (kRet (sVal (dTup (dCons (dIf (tOf (d2 fEq (.o 1) (.e (d2 fIx (.o 0) (.e (dC (.int 1))))))) (dTup (dCons (dC (.str .send)) (dCons (d2 fIx (.o 0) (.e (dC (.int 2)))) (dCons (d1 fTupOf (.o 3)) dNil)))) (dTup (dCons (dC (.str .hear)) (dCons (d2 fIx (.o 0) (.e (dC (.int 1)))) (dCons (d1 fTupOf (.o 3)) dNil))))) (dCons (dV 4) dNil)))))
def t__law_part_6 : DT := (tOf (d2 fGt (.e (d1 fLen (.e (dFrz (sComp [6, 9] (iVal (dV 3)) (gTp (gsCons (gN 6) (gsCons (gN 9) gsNil))) (tOf (d2 fIsN (.o 9) (.e (dC .non)))) (dC (.int 1))))))) (.e (dC (.int 0)))))
def b__law_part_7 : DS := (kSeq (kIf t__law_part_6 (kRet (sVal (dTup (dCons (dC .non) (dCons (dV 4) dNil))))) kNil) (kSeq (kIf t__law_part_4 b__law_part_5 kNil) b__law_part_3))
def b__law_part_8 (self : FS) : DS := (kSeq (kAsg (dFrz (callS self [.val (dV 7), .val (dV 1), .val (dV 2)])) (gTp (gsCons (gN 9) (gsCons (gN 16) gsNil)))) (kSeq (kAppC 3 (dTup (dCons (dV 6) (dCons (dV 9) dNil)))) (kSeq (kSet 4 (s2S fAddS (.o 4) (.o 16))) (kSet 2 (s2S fAddS (.o 2) (.e (dFrz (callS (f__law_many 40) [.val (dV 7)]))))))))
def b__law_part_9 (self : FS) : DS := (kSeq (kPar 3 4 (sLst dNil) (sLst dNil)) (kSeq (kSet 5 (sVal (dV 2))) (kSeq (kSet 2 (s2S fAddS (.o 2) (.e (dC (.int 1))))) (kSeq (kFor (iVal (d2 fIx (.o 0) (.e (dC (.int 3))))) (gTp (gsCons (gN 6) (gsCons (gN 7) gsNil))) (b__law_part_8 self)) b__law_part_7))))
def b__law_part_10 : DS := (kRet (sVal (dIf (tOf (d2 fEq (.o 14) (.e (dFrz (sLst (dCons (d2 fIx (.o 15) (.e (dC (.int 0)))) dNil)))))) (dTup (dCons (dTup (dCons (dC (.str .again)) (dCons (d2 fIx (.o 15) (.e (dC (.int 0)))) dNil))) (dCons (dFrz (sLst dNil)) dNil))) (dTup (dCons (dC .non) (dCons (dFrz (sLst (dCons (dV 2) dNil))) dNil))))))
def b__law_part_11 : DS := (kRet (sVal (dTup (dCons (dTup (dCons (dC (.str .«end»)) dNil)) (dCons (dFrz (sLst dNil)) dNil)))))
def t__law_part_12 : DT := (tOf (d2 (fIn true) (.o 18) (.e (dTup (dCons (dNegI 1) (dCons (d2 fIx (.o 0) (.e (dC (.int 1)))) dNil))))))
def b__law_part_13 : DS := (kSeq (kSet 14 (callS (f__law_ways_out 40) [.val (d2 fIx (.o 0) (.e (dC (.int 2))))])) (kSeq (kSet 15 (sComp [18] (iVal (dV 14)) (gN 18) t__law_part_12 (dV 18))) (kSeq (kIf (tOf (d2 fEq (.o 15) (.e (dFrz (sLst dNil))))) b__law_part_11 kNil) b__law_part_10)))
def t__law_part_14 : DT := (tOf (d2 (fIn false) (.o 1) (.e (dFrz (callS (f__law_roles 40) [.val (dV 0)])))))
def b__law_part_15 (self : FS) : DS := (kSeq (kAsg (dFrz (callS self [.val (d2 fIx (.o 0) (.e (dC (.int 2)))), .val (dV 1), .val (dFrz (s2S fAddS (.o 2) (.e (dC (.int 1)))))])) (gTp (gsCons (gN 17) (gsCons (gN 4) gsNil)))) (kRet (sVal (dTup (dCons (dIf (tAndD (tOf (d2 fNotN (.o 17) (.e (dC .non)))) (tOf (dFrz (callS (f__law_goes 40) [.val (dV 17), .val (d2 fIx (.o 0) (.e (dC (.int 1))))])))) (dTup (dCons (dC (.str .loop)) (dCons (d2 fIx (.o 0) (.e (dC (.int 1)))) (dCons (dV 17) dNil)))) (dV 17)) (dCons (dV 4) dNil))))))
def t__law_part_16 : DT := (tOf (d2 fEq (.e (d2 fIx (.o 0) (.e (dC (.int 0))))) (.e (dC (.str .loop)))))
def b__law_part_17 (self : FS) : DS := (kSeq (kIf t__law_part_14 (b__law_part_15 self) kNil) b__law_part_13)
def b__law_part_18 (self : FS) : DS := (kSeq (kIf t__law_part_16 (b__law_part_17 self) kNil) (b__law_part_9 self))
def t__law_part_19 : DT := (tOf (d2 fEq (.e (d2 fIx (.o 0) (.e (dC (.int 0))))) (.e (dC (.str .beside)))))
def b__law_part_20 (self : FS) : DS := (kSeq (kAsg (dFrz (callS self [.val (d2 fIx (.o 0) (.e (dC (.int 1)))), .val (dV 1), .val (dFrz (s2S fAddS (.o 2) (.e (dC (.int 1)))))])) (gTp (gsCons (gN 10) (gsCons (gN 11) gsNil)))) (kSeq (kAsg (dFrz (callS self [.val (d2 fIx (.o 0) (.e (dC (.int 2)))), .val (dV 1), .val (dFrz (s2S fAddS (.e (dFrz (s2S fAddS (.o 2) (.e (dC (.int 1)))))) (.e (dFrz (callS (f__law_many 40) [.val (d2 fIx (.o 0) (.e (dC (.int 1))))])))))])) (gTp (gsCons (gN 12) (gsCons (gN 13) gsNil)))) (kRet (sVal (dTup (dCons (dIf (tOf (d2 (fIn false) (.o 1) (.e (dFrz (callS (f__law_roles 40) [.val (d2 fIx (.o 0) (.e (dC (.int 2))))]))))) (dV 12) (dV 10)) (dCons (dFrz (s2S fAddS (.o 11) (.o 13))) dNil)))))))
def b__law_part_21 (self : FS) : DS := (kSeq (kIf t__law_part_19 (b__law_part_20 self) kNil) (b__law_part_18 self))
def t__law_part_22 : DT := (tOf (d2 (fIn false) (.e (d2 fIx (.o 0) (.e (dC (.int 0))))) (.e (dTup (dCons (dC (.str .«end»)) (dCons (dC (.str .again)) dNil))))))
def b__law_part_23 : DS := (kRet (sVal (dTup (dCons (dV 0) (dCons (dFrz (sLst dNil)) dNil)))))
def m__law_part (self : FS) : DS := (kSeq (kIf t__law_part_22 b__law_part_23 kNil) (b__law_part_21 self))
def f__law_part : Nat → FS
  | 0 => runF 3 19 kNo
  | k + 1 => runF 3 19 (m__law_part (f__law_part k))
/-- _law_parted -/
def m__law_parted : DS := (kSeq (kAsg (dFrz (callS (f__law_part 40) [.val (dV 0), .val (dV 1), .val (dC (.int 0))])) (gTp (gsCons (gN 2) (gsCons (gN 3) gsNil)))) (kRet (sVal (dIf (tOf (d2 fEq (.o 3) (.e (dFrz (sLst dNil))))) (dTup (dCons (dV 2) (dCons (dC .non) dNil))) (dTup (dCons (dC .non) (dCons (d1 fMin (.o 3)) dNil)))))))
def f__law_parted : FS := runF 2 4 m__law_parted
/-- _law_parts -/
def e__law_parts_1 : DE := (d2 fIx (.e (dFrz (callS f__law_parted [.val (dV 0), .val (dV 2)]))) (.e (dC (.int 0))))
def m__law_parts : DS := (kSeq (kSet 1 (sComp [2] (iR1 (dC (.int 4))) (gN 2) tYesD e__law_parts_1)) (kRet (sVal (dIf (tOf (d2 (fIn true) (.e (dC .non)) (.o 1))) (dV 1) (dC .non)))))
def f__law_parts : FS := runF 1 3 m__law_parts
/-- _law_machines -/
def m__law_machines : DS := (kRet (sVal (d1 fTupOf (.e (dFrz (sComp [1] (iVal (dFrz (callS f__law_parts [.val (dV 0)]))) (gN 1) tYesD (dFrz (callS f__law_machine [.val (dV 1)]))))))))
def f__law_machines : FS := runF 1 2 m__law_machines
/-- _law_spread -/
def b__law_spread_1 : DS := (kSeq (kSet 1 (s2S (vF fMod) (.e (d1 fIntOf (.e (dFrz (s2S fAddS (.e (dFrz (s2S fAddS (.e (dFrz (s2S fMulS (.o 1) (.e (dC (.int 48271)))))) (.e (dC (.int 12345)))))) (.o 3)))))) (.e (dC (.int 2147483647))))) (kSet 2 (s2S fAddS (.e (dFrz (s2S fMulS (.o 2) (.e (dC (.int 2147483647)))))) (.o 1))))
def m__law_spread : DS := (kSeq (kSet 1 (s2S (vF fMod) (.e (d1 fIntOf (.o 0))) (.e (dC (.int 2147483647))))) (kSeq (kSet 2 (sVal (dC (.int 1)))) (kSeq (kFor (iR1 (dC (.int 4))) (gN 3) b__law_spread_1) (kRet (sVal (dV 2))))))
def f__law_spread : FS := runF 1 4 m__law_spread
/-- _law_draw -/
def b__law_draw_1 : DS := (kSeq (kSet 2 (s2S (vF fMod) (.e (d1 fIntOf (.e (d2 fIx (.o 0) (.e (dC (.int 2))))))) (.o 1))) (kSeq (kPut 0 (dFrz (s2S (vF fDiv) (.e (d2 fIx (.o 0) (.e (dC (.int 2))))) (.o 1))) (dC (.int 2))) (kRet (sVal (dV 2)))))
def t__law_draw_2 : DT := (tOf (d2 fLe (.e (d2 fIx (.o 0) (.e (dC (.int 2))))) (.e (dC (.int 0)))))
def b__law_draw_3 : DS := (kSeq (kSet 4 (s2S (vF fMod) (.e (d1 fIntOf (.e (dFrz (s2S fAddS (.e (dFrz (s2S fAddS (.e (dFrz (s2S fMulS (.e (d2 fIx (.o 0) (.e (dC (.int 4))))) (.e (dC (.int 48271)))))) (.e (dFrz (s2S fMulS (.e (d2 fIx (.o 0) (.e (dC (.int 3))))) (.e (dC (.int 69621))))))))) (.e (dC (.int 1)))))))) (.e (dC (.int 2147483647))))) (kSeq (kSet 4 (s2S (vF fMod) (.e (d1 fIntOf (.e (dFrz (s2S fAddS (.e (dFrz (s2S fMulS (.o 4) (.e (dC (.int 16807)))))) (.e (d2 fIx (.o 0) (.e (dC (.int 3)))))))))) (.e (dC (.int 2147483629))))) (kRet (s2S (vF fMod) (.e (dFrz (s2S (vF fDiv) (.o 4) (.e (dC (.int 5)))))) (.o 1)))))
def b__law_draw_4 : DS := (kSeq (kPut 0 (dFrz (s2S fAddS (.e (d2 fIx (.o 0) (.e (dC (.int 3))))) (.e (dC (.int 1))))) (dC (.int 3))) (kSeq (kIf t__law_draw_2 b__law_draw_3 kNil) b__law_draw_1))
def b__law_draw_5 : DS := (kPut 0 (dFrz (callS f__law_spread [.val (dV 3)])) (dC (.int 2)))
def t__law_draw_6 : DT := (tAndD (tOf (d2 fLe (.e (d2 fIx (.o 0) (.e (dC (.int 2))))) (.e (dC (.int 0))))) (tOf (d2 fLt (.e (d2 fIx (.o 0) (.e (dC (.int 1))))) (.e (d1 fLen (.e (d2 fIx (.o 0) (.e (dC (.int 0))))))))))
def b__law_draw_7 : DS := (kSeq (kSet 3 (sVal (d2 fIx (.e (d2 fIx (.o 0) (.e (dC (.int 0))))) (.e (d2 fIx (.o 0) (.e (dC (.int 1)))))))) (kSeq (kPut 0 (dFrz (s2S fAddS (.e (d2 fIx (.o 0) (.e (dC (.int 1))))) (.e (dC (.int 1))))) (dC (.int 1))) (kSeq (kPut 0 (dV 3) (dC (.int 2))) (kIf (tOf (d2 fLt (.o 3) (.e (dC (.int 1000000000000000000))))) b__law_draw_5 kNil))))
def m__law_draw : DS := (kSeq (kIf t__law_draw_6 b__law_draw_7 kNil) b__law_draw_4)
def f__law_draw : FS := runF 2 5 m__law_draw
/-- _law_pick -/
def m__law_pick : DS := (kRet (sVal (d2 fIx (.o 1) (.e (dFrz (callS f__law_draw [.io 0, .val (d1 fLen (.o 1))]))))))
def f__law_pick : FS := runF 2 2 m__law_pick
/-- _law_shuffled -/
def b__law_shuffled_1 : DS := (kAppC 3 (dPop 2 (dFrz (callS f__law_draw [.io 0, .val (d1 fLen (.o 2))]))))
def m__law_shuffled : DS := (kSeq (kSet 2 (s1 fListOf (.o 1))) (kSeq (kSet 3 (sLst dNil)) (kSeq (kWhile (tOf (d2 fNe (.o 2) (.e (dFrz (sLst dNil))))) b__law_shuffled_1) (kRet (sVal (dV 3))))))
def f__law_shuffled : FS := runF 2 4 m__law_shuffled
/-- _law_draw_talk -/
def e__law_draw_talk_1 (self : FS) : DE := (dTup (dCons (dV 13) (dCons (dFrz (callS self [.io 0, .val (dFrz (s2S (vF fSub) (.o 1) (.e (dC (.int 1))))), .val (dV 2), .val (dFrz (sLst dNil)), .val (dV 4), .val (dV 5)])) dNil)))
def b__law_draw_talk_2 (self : FS) : DS := (kSeq (kSet 7 (callS f__law_shuffled [.io 0, .val (dV 5)])) (kSeq (kSet 8 (sVal (d2 fIx (.e (dTup (dCons (dC (.int 1)) (dCons (dC (.int 1)) (dCons (dC (.int 1)) (dCons (dC (.int 2)) (dCons (dC (.int 2)) (dCons (dC (.int 3)) dNil)))))))) (.e (dFrz (callS f__law_draw [.io 0, .val (dC (.int 6))])))))) (kSeq (kSet 9 (s1 fSorted (.e (dFrz (sSlS (.e (dFrz (callS f__law_shuffled [.io 0, .val (dFrz (sLst (dCons (dC (.int 0)) (dCons (dC (.int 1)) (dCons (dC (.int 2)) (dCons (dC (.int 3)) dNil))))))]))) none (some (dV 8))))))) (kRet (sVal (dTup (dCons (dC (.str .say)) (dCons (d2 fIx (.o 7) (.e (dC (.int 0)))) (dCons (d2 fIx (.o 7) (.e (dC (.int 1)))) (dCons (d1 fTupOf (.e (dFrz (sComp [13] (iVal (dV 9)) (gN 13) tYesD (e__law_draw_talk_1 self))))) dNil))))))))))
def t__law_draw_talk_3 : DT := (tAndD (tOf (d2 fEq (.o 6) (.e (dC (.int 4))))) (tOf (d2 fEq (.e (d1 fLen (.o 5))) (.e (dC (.int 4))))))
def b__law_draw_talk_4 (self : FS) : DS := (kSeq (kSet 7 (callS f__law_shuffled [.io 0, .val (dV 5)])) (kSeq (kSet 12 (callS self [.io 0, .val (dFrz (s2S (vF fSub) (.o 1) (.e (dC (.int 1))))), .val (dFrz (sLst dNil)), .val (dFrz (sLst dNil)), .val (dV 4), .val (dFrz (s1 fSorted (.e (dFrz (sSlS (.o 7) none (some (dC (.int 2))))))))])) (kRet (sVal (dTup (dCons (dC (.str .beside)) (dCons (dV 12) (dCons (dFrz (callS self [.io 0, .val (dFrz (s2S (vF fSub) (.o 1) (.e (dC (.int 1))))), .val (dFrz (sLst dNil)), .val (dFrz (sLst dNil)), .val (dV 4), .val (dFrz (s1 fSorted (.e (dFrz (sSlS (.o 7) (some (dC (.int 2))) none)))))])) dNil))))))))
def b__law_draw_talk_5 (self : FS) : DS := (kSeq (kIf t__law_draw_talk_3 (b__law_draw_talk_4 self) kNil) (b__law_draw_talk_2 self))
def t__law_draw_talk_6 : DT := (tAndD (tOf (d2 fLt (.o 6) (.e (dC (.int 4))))) (tOf (d2 fLt (.e (d1 fLen (.o 4))) (.e (dC (.int 3))))))
def b__law_draw_talk_7 (self : FS) : DS := (kSeq (kSet 11 (callS f__law_pick [.io 0, .val (dFrz (sComp [12] (iVal (dTup (dCons (dC (.int 0)) (dCons (dC (.int 1)) (dCons (dC (.int 2)) (dCons (dC (.int 3)) dNil)))))) (gN 12) (tOf (d2 (fIn true) (.o 12) (.o 4))) (dV 12)))])) (kRet (sVal (dTup (dCons (dC (.str .loop)) (dCons (dV 11) (dCons (dFrz (callS self [.io 0, .val (dFrz (s2S (vF fSub) (.o 1) (.e (dC (.int 1))))), .val (dFrz (s2S fAddS (.o 2) (.e (dFrz (sLst (dCons (dV 11) dNil)))))), .val (dFrz (s2S fAddS (.o 3) (.e (dFrz (sLst (dCons (dV 11) dNil)))))), .val (dFrz (s2S fAddS (.o 4) (.e (dFrz (sLst (dCons (dV 11) dNil)))))), .val (dV 5)])) dNil)))))))
def b__law_draw_talk_8 (self : FS) : DS := (kSeq (kIf t__law_draw_talk_6 (b__law_draw_talk_7 self) kNil) (b__law_draw_talk_5 self))
def t__law_draw_talk_9 : DT := (tOrD (tOf (d2 fEq (.o 1) (.e (dC (.int 0))))) (tOrD (tOf (d2 fLt (.o 6) (.e (dC (.int 2))))) (tOf (d2 fLt (.e (d1 fLen (.o 5))) (.e (dC (.int 2)))))))
def b__law_draw_talk_10 : DS := (kSeq (kSet 10 (sComp [11] (iVal (dV 2)) (gN 11) (tOf (d2 (fIn true) (.o 11) (.o 3))) (dV 11))) (kRet (sVal (dIf (tAndD (tOf (d2 fNe (.o 10) (.e (dFrz (sLst dNil))))) (tOf (d2 fGt (.e (dFrz (callS f__law_draw [.io 0, .val (dC (.int 3))]))) (.e (dC (.int 0)))))) (dTup (dCons (dC (.str .again)) (dCons (dFrz (callS f__law_pick [.io 0, .val (dV 10)])) dNil))) (dTup (dCons (dC (.str .«end»)) dNil))))))
def m__law_draw_talk (self : FS) : DS := (kSeq (kSet 6 (callS f__law_draw [.io 0, .val (dC (.int 16))])) (kSeq (kIf t__law_draw_talk_9 b__law_draw_talk_10 kNil) (b__law_draw_talk_8 self)))
def f__law_draw_talk : Nat → FS
  | 0 => runF 6 14 kNo
  | k + 1 => runF 6 14 (m__law_draw_talk (f__law_draw_talk k))
/-- _law_talk -/
def m__law_talk : DS := (kSeq (kSet 1 (callS f__law_pick [.io 0, .val (dFrz (sLst (dCons (dFrz (sLst (dCons (dC (.int 0)) (dCons (dC (.int 1)) dNil)))) (dCons (dFrz (sLst (dCons (dC (.int 0)) (dCons (dC (.int 1)) (dCons (dC (.int 2)) dNil))))) (dCons (dFrz (sLst (dCons (dC (.int 0)) (dCons (dC (.int 1)) (dCons (dC (.int 2)) dNil))))) (dCons (dFrz (sLst (dCons (dC (.int 0)) (dCons (dC (.int 1)) (dCons (dC (.int 2)) (dCons (dC (.int 3)) dNil)))))) (dCons (dFrz (sLst (dCons (dC (.int 0)) (dCons (dC (.int 1)) (dCons (dC (.int 2)) (dCons (dC (.int 3)) dNil)))))) dNil)))))))])) (kRet (callS (f__law_draw_talk 40) [.io 0, .val (dC (.int 4)), .val (dFrz (sLst dNil)), .val (dFrz (sLst dNil)), .val (dFrz (sLst dNil)), .val (dV 1)])))
def f__law_talk : FS := runF 1 2 m__law_talk
/-- _law_good_talk -/
def b__law_good_talk_1 : DS := (kRet (sVal (dTup (dCons (dC (.str .say)) (dCons (dC (.int 0)) (dCons (dC (.int 1)) (dCons (dTup (dCons (dTup (dCons (dC (.int 0)) (dCons (dTup (dCons (dC (.str .«end»)) dNil)) dNil))) (dCons (dTup (dCons (dC (.int 1)) (dCons (dTup (dCons (dC (.str .say)) (dCons (dC (.int 1)) (dCons (dC (.int 0)) (dCons (dTup (dCons (dTup (dCons (dC (.int 2)) (dCons (dTup (dCons (dC (.str .«end»)) dNil)) dNil))) dNil)) dNil))))) dNil))) dNil))) dNil)))))))
def t__law_good_talk_2 : DT := (tAndD (tOf (d2 fNotN (.e (dFrz (callS f__law_parts [.val (dV 2)]))) (.e (dC .non)))) (tOf (d2 fNe (.o 2) (.e (dTup (dCons (dC (.str .«end»)) dNil))))))
def b__law_good_talk_3 : DS := (kSeq (kSet 2 (callS f__law_talk [.io 0])) (kIf t__law_good_talk_2 (kRet (sVal (dV 2))) kNil))
def m__law_good_talk : DS := (kSeq (kFor (iR1 (dC (.int 12))) (gN 1) b__law_good_talk_3) b__law_good_talk_1)
def f__law_good_talk : FS := runF 1 3 m__law_good_talk
/-- _law_bad_machines -/
def e__law_bad_machines_1 : DE := (dIf (tOf (d2 fEq (.e (dFrz (callS f__law_draw [.io 0, .val (dC (.int 3))]))) (.e (dC (.int 0))))) (d2 fIx (.o 2) (.o 3)) (d2 fIx (.o 1) (.o 3)))
def m__law_bad_machines : DS := (kSeq (kSet 1 (callS f__law_machines [.val (dFrz (callS f__law_good_talk [.io 0]))])) (kSeq (kSet 2 (callS f__law_machines [.val (dFrz (callS f__law_good_talk [.io 0]))])) (kRet (sVal (d1 fTupOf (.e (dFrz (sComp [3] (iR1 (dC (.int 4))) (gN 3) tYesD e__law_bad_machines_1))))))))
def f__law_bad_machines : FS := runF 1 4 m__law_bad_machines
/-- _law_from -/
def t__law_from_1 : DT := (tOf (d2 fEq (.e (d2 fIx (.o 2) (.e (dC (.int 0))))) (.o 1)))
def m__law_from : DS := (kRet (sComp [2] (iVal (d2 fIx (.o 0) (.e (dC (.int 1))))) (gN 2) t__law_from_1 (dV 2)))
def f__law_from : FS := runF 2 3 m__law_from
/-- _law_meets -/
def t__law_meets_1 : DT := (tOf (d2 fEq (.e (dFrz (sSlS (.o 9) (some (dC (.int 1))) (some (dC (.int 4)))))) (.e (dTup (dCons (dC (.str .hear)) (dCons (dV 3) (dCons (dV 7) dNil)))))))
def b__law_meets_2 : DS := (kSeq (kSet 10 (sComp [11] (iR1 (d1 fLen (.o 1))) (gN 11) tYesD (d2 fIx (.o 1) (.o 11)))) (kSeq (kAsg (dTup (dCons (dV 8) (dCons (d2 fIx (.o 9) (.e (dC (.int 4)))) dNil))) (gTp (gsCons (gPut 10 (dV 3)) (gsCons (gPut 10 (dV 6)) gsNil)))) (kAppC 2 (dTup (dCons (dV 3) (dCons (dV 6) (dCons (dV 7) (dCons (d1 fTupOf (.o 10)) dNil))))))))
def t__law_meets_3 : DT := (tAndD (tOf (d2 fEq (.o 5) (.e (dC (.str .send))))) (tAndD (tOf (d2 fLt (.o 6) (.e (d1 fLen (.o 0))))) (tOf (d2 fNe (.o 6) (.o 3)))))
def b__law_meets_4 : DS := (kFor (iVal (dFrz (callS f__law_from [.val (d2 fIx (.o 0) (.o 6)), .val (d2 fIx (.o 1) (.o 6))]))) (gN 9) (kIf t__law_meets_1 b__law_meets_2 kNil))
def b__law_meets_5 : DS := (kFor (iVal (dFrz (callS f__law_from [.val (d2 fIx (.o 0) (.o 3)), .val (d2 fIx (.o 1) (.o 3))]))) (gTp (gsCons (gN 4) (gsCons (gN 5) (gsCons (gN 6) (gsCons (gN 7) (gsCons (gN 8) gsNil)))))) (kIf t__law_meets_3 b__law_meets_4 kNil))
def m__law_meets : DS := (kSeq (kSet 2 (sLst dNil)) (kSeq (kFor (iR1 (d1 fLen (.o 0))) (gN 3) b__law_meets_5) (kRet (s1 fSorted (.o 2)))))
def f__law_meets : FS := runF 2 12 m__law_meets
/-- _law_drawn_row -/
def b__law_drawn_row_1 : DS := (kSeq (kSet 9 (callS f__law_draw [.io 0, .val (dC (.int 4))])) (kSet 3 (s2S fAddS (.o 3) (.e (dTup (dCons (dTup (dCons (dV 9) (dCons (dFrz (s2S (vF fMod) (.e (d1 fIntOf (.e (dFrz (s2S fAddS (.e (dFrz (s2S fAddS (.o 9) (.e (dC (.int 1)))))) (.e (dFrz (callS f__law_draw [.io 0, .val (dC (.int 3))])))))))) (.e (dC (.int 4))))) (dCons (dFrz (callS f__law_draw [.io 0, .val (dC (.int 6))])) dNil)))) dNil))))))
def t__law_drawn_row_2 : DT := (tAndD (tOf (d2 fNe (.o 6) (.e (dFrz (sLst dNil))))) (tOf (d2 fGt (.o 7) (.e (dC (.int 0))))))
def b__law_drawn_row_3 : DS := (kSeq (kSet 8 (callS f__law_pick [.io 0, .val (dV 6)])) (kPar 3 4 (s2S fAddS (.o 3) (.e (dTup (dCons (dFrz (sSlS (.o 8) none (some (dC (.int 3))))) dNil)))) (sVal (d2 fIx (.o 8) (.e (dC (.int 3)))))))
def b__law_drawn_row_4 : DS := (kIf (tOf (d2 fEq (.o 7) (.e (dC (.int 0))))) b__law_drawn_row_1 kNil)
def b__law_drawn_row_5 : DS := (kSeq (kSet 6 (callS f__law_meets [.val (dV 1), .val (dV 4)])) (kSeq (kSet 7 (callS f__law_draw [.io 0, .val (dC (.int 9))])) (kIf t__law_drawn_row_2 b__law_drawn_row_3 b__law_drawn_row_4)))
def m__law_drawn_row : DS := (kSeq (kPar 3 4 (sVal (dTup dNil)) (s2S fMulS (.e (dTup (dCons (dC (.int 0)) dNil))) (.e (d1 fLen (.o 1))))) (kSeq (kFor (iR1 (dV 2)) (gN 5) b__law_drawn_row_5) (kRet (sVal (dV 3)))))
def f__law_drawn_row : FS := runF 3 10 m__law_drawn_row
/-- of_sayings -/
def b_of_sayings_1 : DS := (kSeq (kAugS 1 (dV 2) fAugA (.e (dTup (dCons (dTup (dCons (dC (.str .send)) (dCons (dV 3) (dCons (dV 4) dNil)))) dNil)))) (kAugS 1 (dV 3) fAugA (.e (dTup (dCons (dTup (dCons (dC (.str .hear)) (dCons (dV 2) (dCons (dV 4) dNil)))) dNil)))))
def m_of_sayings : DS := (kSeq (kSet 1 (s2S fMulS (.e (dFrz (sLst (dCons (dTup dNil) dNil)))) (.e (dC (.int 4))))) (kSeq (kFor (iVal (dV 0)) (gTp (gsCons (gN 2) (gsCons (gN 3) (gsCons (gN 4) gsNil)))) b_of_sayings_1) (kRet (sVal (d1 fTupOf (.o 1))))))
def f_of_sayings : FS := runF 1 5 m_of_sayings
/-- steps_from -/
def t_steps_from_1 : DT := (tOf (d2 fEq (.e (d2 fIx (.o 2) (.e (dC (.int 0))))) (.o 1)))
def m_steps_from : DS := (kRet (sComp [2] (iVal (d2 fIx (.o 0) (.e (dC (.int 1))))) (gN 2) t_steps_from_1 (dV 2)))
def f_steps_from : FS := runF 2 3 m_steps_from
/-- after_rows -/
def t_after_rows_1 : DT := (tOf (d2 fEq (.e (dFrz (sSlS (.o 5) (some (dC (.int 1))) (some (dC (.int 4)))))) (.o 3)))
def b_after_rows_2 : DS := (kSeq (kSet 4 (sComp [5] (iVal (dFrz (callS f_steps_from [.val (dV 0), .val (dV 2)]))) (gN 5) t_after_rows_1 (d2 fIx (.o 5) (.e (dC (.int 4)))))) (kSeq (kIf (tOf (d2 fEq (.e (d1 fLen (.o 4))) (.e (dC (.int 0))))) (kRet (sVal (dC .non))) kNil) (kSet 2 (sVal (d2 fIx (.o 4) (.e (dC (.int 0))))))))
def m_after_rows : DS := (kSeq (kSet 2 (sVal (dC (.int 0)))) (kSeq (kFor (iVal (dV 1)) (gN 3) b_after_rows_2) (kRet (sVal (dV 2)))))
def f_after_rows : FS := runF 2 6 m_after_rows
/-- _law_same -/
def b__law_same_1 : DS := (kRet (sVal (dAndV (dIsi "str" (.o 0)) (dAndV (dIsi "str" (.o 1)) (d2 fEq (.o 0) (.o 1))))))
def b__law_same_2 : DS := (kRet (sVal (dAndV (dIsi "int" (.o 0)) (d2 fEq (.o 0) (.o 1)))))
def b__law_same_3 : DS := (kSeq (kIf (tOf (dIsi "int" (.o 1))) b__law_same_2 kNil) b__law_same_1)
def t__law_same_4 : DT := (tOrD (tOf (dIsi "bool" (.o 1))) (tOf (dIsi "bool" (.o 0))))
def b__law_same_5 : DS := (kRet (sVal (dAndV (dIsi "bool" (.o 1)) (dAndV (dIsi "bool" (.o 0)) (d2 fEq (.o 0) (.o 1))))))
def b__law_same_6 : DS := (kSeq (kIf (tOf (d2 fIsN (.o 1) (.e (dC .non)))) (kRet (sVal (d2 fIsN (.o 0) (.e (dC .non))))) kNil) (kSeq (kIf t__law_same_4 b__law_same_5 kNil) b__law_same_3))
def t__law_same_7 (self : FS) : DT := (tNotD (tOf (dFrz (callS self [.val (d2 fIx (.o 0) (.o 2)), .val (d2 fIx (.o 1) (.o 2))]))))
def b__law_same_8 (self : FS) : DS := (kRet (sVal (d2 fEq (.e (d1 fLen (.e (dFrz (sComp [2] (iR1 (d1 fLen (.o 1))) (gN 2) (t__law_same_7 self) (dV 2)))))) (.e (dC (.int 0))))))
def t__law_same_9 : DT := (tOrD (tOf (d2 fNe (.e (dIsi "tuple" (.o 1))) (.e (dIsi "tuple" (.o 0))))) (tOrD (tOf (d2 fNe (.e (dIsi "list" (.o 1))) (.e (dIsi "list" (.o 0))))) (tOf (d2 fNe (.e (d1 fLen (.o 0))) (.e (d1 fLen (.o 1)))))))
def t__law_same_10 : DT := (tOrD (tOf (dIsi "tuple" (.o 1))) (tOf (dIsi "list" (.o 1))))
def b__law_same_11 (self : FS) : DS := (kSeq (kIf t__law_same_9 (kRet (sVal (dC (.bl false)))) kNil) (b__law_same_8 self))
def m__law_same (self : FS) : DS := (kSeq (kIf t__law_same_10 (b__law_same_11 self) kNil) b__law_same_6)
def f__law_same : Nat → FS
  | 0 => runF 2 3 kNo
  | k + 1 => runF 2 3 (m__law_same (f__law_same k))
/-- begin -/
def m_begin : DS := (kRet (sVal (d1 fTupOf (.e (dFrz (sComp [1] (iVal (dV 0)) (gN 1) tYesD (dC (.int 0))))))))
def f_begin : FS := runF 1 2 m_begin
/-- with_states -/
def m_with_states : DS := (kSeq (kSet 5 (s1 fListOf (.o 0))) (kSeq (kPut 5 (dV 2) (dV 1)) (kSeq (kPut 5 (dV 4) (dV 3)) (kRet (sVal (d1 fTupOf (.o 5)))))))
def f_with_states : FS := runF 5 6 m_with_states
/-- meets -/
def t_meets_1 : DT := (tOf (d2 fEq (.e (dFrz (sSlS (.o 6) (some (dC (.int 1))) (some (dC (.int 4)))))) (.e (dTup (dCons (dC (.str .hear)) (dCons (dV 3) (dCons (d2 fIx (.o 4) (.e (dC (.int 3)))) dNil)))))))
def b_meets_2 : DS := (kSeq (kSet 7 (callS f_with_states [.val (dV 1), .val (dV 3), .val (d2 fIx (.o 4) (.e (dC (.int 4)))), .val (dV 5), .val (d2 fIx (.o 6) (.e (dC (.int 4))))])) (kAppC 2 (dTup (dCons (dV 3) (dCons (dV 5) (dCons (d2 fIx (.o 4) (.e (dC (.int 3)))) (dCons (dV 7) dNil)))))))
def t_meets_3 : DT := (tAndD (tOf (d2 fEq (.e (d2 fIx (.o 4) (.e (dC (.int 1))))) (.e (dC (.str .send))))) (tAndD (tOf (d2 fLt (.o 5) (.e (d1 fLen (.o 0))))) (tOf (d2 fNe (.o 5) (.o 3)))))
def b_meets_4 : DS := (kFor (iVal (dFrz (callS f_steps_from [.val (d2 fIx (.o 0) (.o 5)), .val (d2 fIx (.o 1) (.o 5))]))) (gN 6) (kIf t_meets_1 b_meets_2 kNil))
def b_meets_5 : DS := (kSeq (kSet 5 (sVal (d2 fIx (.o 4) (.e (dC (.int 2)))))) (kIf t_meets_3 b_meets_4 kNil))
def b_meets_6 : DS := (kFor (iVal (dFrz (callS f_steps_from [.val (d2 fIx (.o 0) (.o 3)), .val (d2 fIx (.o 1) (.o 3))]))) (gN 4) b_meets_5)
def m_meets : DS := (kSeq (kSet 2 (sLst dNil)) (kSeq (kFor (iR1 (d1 fLen (.o 0))) (gN 3) b_meets_6) (kRet (s1 fSorted (.o 2)))))
def f_meets : FS := runF 2 8 m_meets
/-- rows_of -/
def b_rows_of_1 : DS := (kRet (s1 fSortSetK (.e (dFrz (sComp [4, 6] (iVal (dV 2)) (gTp (gsCons (gN 4) (gsCons (gN 6) gsNil))) tYesD (dV 4))))))
def e_rows_of_2 : DE := (dTup (dCons (dFrz (s2S fAddS (.o 4) (.e (dTup (dCons (dTup (dCons (dV 7) (dCons (dV 8) (dCons (dV 9) dNil)))) dNil))))) (dCons (dV 10) dNil)))
def b_rows_of_3 : DS := (kExtC 2 (.e (dFrz (sComp [7, 8, 9, 10] (iVal (dFrz (callS f_meets [.val (dV 0), .val (dV 5)]))) (gTp (gsCons (gN 7) (gsCons (gN 8) (gsCons (gN 9) (gsCons (gN 10) gsNil))))) tYesD e_rows_of_2))))
def b_rows_of_4 : DS := (kSeq (kAsg (d2 fIx (.o 2) (.o 3)) (gTp (gsCons (gN 4) (gsCons (gN 5) gsNil)))) (kSeq (kIf (tOf (d2 fLt (.e (d1 fLen (.o 4))) (.o 1))) b_rows_of_3 kNil) (kAug 3 fAugA (.e (dC (.int 1))))))
def m_rows_of : DS := (kSeq (kSet 2 (sLst (dCons (dTup (dCons (dTup dNil) (dCons (dFrz (callS f_begin [.val (dV 0)])) dNil))) dNil))) (kSeq (kSet 3 (sVal (dC (.int 0)))) (kSeq (kWhile (tOf (d2 fLt (.o 3) (.e (d1 fLen (.o 2))))) b_rows_of_4) b_rows_of_1)))
def f_rows_of : FS := runF 2 11 m_rows_of
/-- _law_walked -/
def t__law_walked_1 : DT := (tOf (d2 fEq (.e (dFrz (sSlS (.o 5) none (some (dC (.int 3)))))) (.o 3)))
def b__law_walked_2 : DS := (kSeq (kSet 4 (sComp [5] (iVal (dFrz (callS f__law_meets [.val (dV 0), .val (dV 2)]))) (gN 5) t__law_walked_1 (d2 fIx (.o 5) (.e (dC (.int 3)))))) (kSeq (kIf (tOf (d2 fEq (.o 4) (.e (dFrz (sLst dNil))))) (kRet (sVal (dC .non))) kNil) (kSet 2 (sVal (d2 fIx (.o 4) (.e (dC (.int 0))))))))
def m__law_walked : DS := (kSeq (kSet 2 (sVal (dTup (dCons (dC (.int 0)) (dCons (dC (.int 0)) (dCons (dC (.int 0)) (dCons (dC (.int 0)) dNil))))))) (kSeq (kFor (iVal (dV 1)) (gN 3) b__law_walked_2) (kRet (sVal (dV 2)))))
def f__law_walked : FS := runF 2 6 m__law_walked
/-- put_for -/
def e_put_for_1 (self : FS) : DE := (dTup (dCons (dV 3) (dCons (dFrz (callS self [.val (dV 4), .val (dV 1), .val (dV 2)])) dNil)))
def b_put_for_2 (self : FS) : DS := (kRet (s2S fAddS (.e (dFrz (sSlS (.o 0) none (some (dC (.int 2)))))) (.e (dTup (dCons (d1 fTupOf (.e (dFrz (sComp [3, 4] (iVal (d2 fIx (.o 0) (.e (dC (.int 2))))) (gTp (gsCons (gN 3) (gsCons (gN 4) gsNil))) tYesD (e_put_for_1 self))))) dNil)))))
def t_put_for_3 : DT := (tOf (d2 fEq (.e (d2 fIx (.o 0) (.e (dC (.int 0))))) (.e (dC (.str .«end»)))))
def b_put_for_4 (self : FS) : DS := (kSeq (kIf t_put_for_3 (kRet (sVal (dV 0))) kNil) (b_put_for_2 self))
def t_put_for_5 : DT := (tOf (d2 fEq (.e (d2 fIx (.o 0) (.e (dC (.int 0))))) (.e (dC (.str .loop)))))
def b_put_for_6 (self : FS) : DS := (kRet (sVal (dIf (tOf (d2 fEq (.e (d2 fIx (.o 0) (.e (dC (.int 1))))) (.o 1))) (dV 0) (dTup (dCons (dC (.str .loop)) (dCons (d2 fIx (.o 0) (.e (dC (.int 1)))) (dCons (dFrz (callS self [.val (d2 fIx (.o 0) (.e (dC (.int 2)))), .val (dV 1), .val (dV 2)])) dNil)))))))
def b_put_for_7 (self : FS) : DS := (kSeq (kIf t_put_for_5 (b_put_for_6 self) kNil) (b_put_for_4 self))
def t_put_for_8 : DT := (tOf (d2 fEq (.e (d2 fIx (.o 0) (.e (dC (.int 0))))) (.e (dC (.str .again)))))
def b_put_for_9 : DS := (kRet (sVal (dIf (tOf (d2 fEq (.e (d2 fIx (.o 0) (.e (dC (.int 1))))) (.o 1))) (dV 2) (dV 0))))
def m_put_for (self : FS) : DS := (kSeq (kIf t_put_for_8 b_put_for_9 kNil) (b_put_for_7 self))
def f_put_for : Nat → FS
  | 0 => runF 3 5 kNo
  | k + 1 => runF 3 5 (m_put_for (f_put_for k))
/-- opened -/
def t_opened_1 : DT := (tOf (d2 fEq (.e (d2 fIx (.o 0) (.e (dC (.int 0))))) (.e (dC (.str .loop)))))
def b_opened_2 : DS := (kSet 0 (callS (f_put_for 40) [.val (d2 fIx (.o 0) (.e (dC (.int 2)))), .val (d2 fIx (.o 0) (.e (dC (.int 1)))), .val (dV 0)]))
def m_opened : DS := (kSeq (kWhile t_opened_1 b_opened_2) (kRet (sVal (dV 0))))
def f_opened : FS := runF 1 1 m_opened
/-- machine_of -/
def b_machine_of_1 : DS := (kRet (sVal (dTup (dCons (d1 fLen (.o 1)) (dCons (d1 fTupOf (.e (dFrz (s1 fSorted (.o 2))))) dNil)))))
def b_machine_of_2 : DS := (kAppC 2 (dTup (dCons (dV 3) (dCons (d2 fIx (.o 4) (.e (dC (.int 0)))) (dCons (d2 fIx (.o 4) (.e (dC (.int 1)))) (dCons (dV 5) (dCons (dIndex (.o 1) (dV 6)) dNil)))))))
def b_machine_of_3 : DS := (kSeq (kSet 6 (callS f_opened [.val (dV 6)])) (kSeq (kIf (tOf (d2 (fIn true) (.o 6) (.o 1))) (kAppC 1 (dV 6)) kNil) b_machine_of_2))
def b_machine_of_4 : DS := (kSeq (kSet 4 (sVal (d2 fIx (.o 1) (.o 3)))) (kSeq (kFor (iVal (dIf (tOf (d2 fNe (.e (d2 fIx (.o 4) (.e (dC (.int 0))))) (.e (dC (.str .«end»))))) (d2 fIx (.o 4) (.e (dC (.int 2)))) (dTup dNil))) (gTp (gsCons (gN 5) (gsCons (gN 6) gsNil))) b_machine_of_3) (kAug 3 fAugA (.e (dC (.int 1))))))
def m_machine_of : DS := (kSeq (kSet 1 (sLst (dCons (dFrz (callS f_opened [.val (dV 0)])) dNil))) (kSeq (kSet 2 (sLst dNil)) (kSeq (kSet 3 (sVal (dC (.int 0)))) (kSeq (kWhile (tOf (d2 fLt (.o 3) (.e (d1 fLen (.o 1))))) b_machine_of_4) b_machine_of_1))))
def f_machine_of : FS := runF 1 7 m_machine_of
/-- after_row -/
def t_after_row_1 : DT := (tOf (d2 fEq (.e (dTup (dCons (dV 5) (dCons (dV 6) (dCons (dV 7) dNil))))) (.o 3)))
def b_after_row_2 : DS := (kSeq (kSet 4 (sComp [5, 6, 7, 8] (iVal (dFrz (callS f_meets [.val (dV 0), .val (dV 2)]))) (gTp (gsCons (gN 5) (gsCons (gN 6) (gsCons (gN 7) (gsCons (gN 8) gsNil))))) t_after_row_1 (dV 8))) (kSeq (kIf (tOf (d2 fEq (.e (d1 fLen (.o 4))) (.e (dC (.int 0))))) (kRet (sVal (dC .non))) kNil) (kSet 2 (sVal (d2 fIx (.o 4) (.e (dC (.int 0))))))))
def m_after_row : DS := (kSeq (kSet 2 (callS f_begin [.val (dV 0)])) (kSeq (kFor (iVal (dV 1)) (gN 3) b_after_row_2) (kRet (sVal (dV 2)))))
def f_after_row : FS := runF 2 9 m_after_row
/-- sayings_in -/
def t_sayings_in_1 : DT := (tOf (d2 fEq (.e (d2 fIx (.o 2) (.e (dC (.int 0))))) (.e (dC (.str .send)))))
def e_sayings_in_2 : DE := (d1 fLen (.e (dFrz (sComp [2] (iVal (dV 1)) (gN 2) t_sayings_in_1 (dV 2)))))
def m_sayings_in : DS := (kRet (sVal (d1 fSum (.e (dFrz (sComp [1] (iVal (dV 0)) (gN 1) tYesD e_sayings_in_2))))))
def f_sayings_in : FS := runF 1 3 m_sayings_in
/-- law -/
def t_law_1 : DT := (tOf (d2 fNe (.e (d2 (fIn false) (.o 9) (.e (dFrz (callS f_rows_of [.val (dV 3), .val (d1 fLen (.o 9))]))))) (.e (d2 fNotN (.e (dFrz (callS f__law_walked [.val (dV 3), .val (dV 9)]))) (.e (dC .non))))))
def b_law_2 : DS := (kSeq (kSet 9 (sSlS (.o 4) none (some (dC (.int 3))))) (kIf t_law_1 (kRet (sVal (dC (.bl false)))) kNil))
def t_law_3 : DT := (tAndD (tOf (d2 fNotN (.o 7) (.e (dC .non)))) (tOf (d2 fIsN (.e (dFrz (callS f_after_row [.val (dV 3), .val (dFrz (sSlS (.o 4) none (some (dV 8))))]))) (.e (dC .non)))))
def b_law_4 : DS := (kSeq (kFor (iR1 (d1 fLen (.o 4))) (gN 8) (kIf t_law_3 (kRet (sVal (dC (.bl false)))) kNil)) b_law_2)
def t_law_5 : DT := (tNotD (tOf (dFrz (callS (f__law_same 40) [.val (dFrz (sLst (dCons (dFrz (callS f_after_row [.val (dV 3), .val (dV 4)])) (dCons (dFrz (callS f__law_walked [.val (dV 3), .val (dV 4)])) (dCons (dFrz (callS f_sayings_in [.val (dV 5)])) dNil))))), .val (dFrz (sLst (dCons (dV 7) (dCons (dV 7) (dCons (d1 fLen (.o 4)) dNil)))))]))))
def e_law_6 : DE := (dFrz (callS f_after_rows [.val (d2 fIx (.o 3) (.o 10)), .val (d2 fIx (.o 5) (.o 10))]))
def b_law_7 : DS := (kSeq (kSet 4 (callS f__law_drawn_row [.io 1, .val (dV 3), .val (dC (.int 7))])) (kSeq (kSet 5 (callS f_of_sayings [.val (dV 4)])) (kSeq (kSet 6 (sComp [10] (iR1 (dC (.int 4))) (gN 10) tYesD e_law_6)) (kSeq (kSet 7 (sVal (dIf (tOf (d2 (fIn false) (.e (dC .non)) (.o 6))) (dC .non) (d1 fTupOf (.o 6))))) (kSeq (kIf t_law_5 (kRet (sVal (dC (.bl false)))) kNil) b_law_4)))))
def t_law_8 : DT := (tOf (d2 fEq (.e (dFrz (callS f__law_draw [.io 1, .val (dC (.int 2))]))) (.e (dC (.int 0)))))
def b_law_9 : DS := (kSet 3 (sVal (d1 fTupOf (.e (dFrz (sComp [11] (iVal (dFrz (callS f__law_parts [.val (dFrz (callS f__law_good_talk [.io 1]))]))) (gN 11) tYesD (dFrz (callS f_machine_of [.val (dV 11)]))))))))
def b_law_10 : DS := (kSeq (kSet 3 (callS f__law_bad_machines [.io 1])) (kSeq (kIf t_law_8 b_law_9 kNil) b_law_7))
def m_law : DS := (kSeq (kSet 1 (callS f__law_pool [.val (dV 0)])) (kSeq (kFor (iR1 (dC (.int 5))) (gN 2) b_law_10) (kRet (sVal (dC (.bl true))))))
def f_law : FS := runF 1 12 m_law
end
end ET
set_option Elab.async false
set_option maxRecDepth 100000
/-! The laws' helpers, plain: pools. (KM: the meanings that gen.py prints.) -/
namespace ET
open PySem L2
/-- a pool -/
structure Pool where
  cells : List Int
  pos : Nat
  val : Int
  cnt : Int
  salt : Int
def Pool.enc (p : Pool) : Own := .lst [.lst (p.cells.map .int), .int p.pos, .int p.val, .int p.cnt, .int p.salt]
theorem spread_ok (c : Int) : ∃ n : Int, 0 < n ∧ f__law_spread [.val (.int c)] = some (.val (.int n), [.val (.int c)]) := by
  unfold f__law_spread
  rw [runF_eq (by rfl)]
  unfold m__law_spread
  simp [envOf, slOf, kFor, iR1, rangeD, forL, List.range_succ, gN, fMulS_i, outsOf, retF, b__law_spread_1]
  omega
/-- what is left of a draw when the value is v -/
theorem draw_ok (p : Pool) (m : Int) (h : 0 < m ∧ m < 1000) : ∃ (q : Pool) (r : Int), 0 ≤ r ∧ r < m ∧ f__law_draw [.io p.enc, .val (.int m)] = some (.val (.int r), [.io q.enc, .val (.int m)]) := by
  obtain ⟨cells, pos, val, cnt, salt⟩ := p
  have hm0 := h.1
  have hm1 : m < 1073741824 := by omega
  unfold f__law_draw
  rw [runF_eq (by rfl)]
  unfold m__law_draw
  by_cases hv : val ≤ 0
  · by_cases hp : pos < cells.length
    · obtain ⟨n, hn, en⟩ := spread_ok cells[pos]
      by_cases hc : cells[pos] < 1000000000000000000
      · have hn' : ¬ n ≤ 0 := by omega
        refine ⟨⟨cells, pos + 1, n / m, cnt + 1, salt⟩, n % m, Int.emod_nonneg _ (by omega), Int.emod_lt_of_pos _ hm0, ?_⟩
        simp [envOf, slOf, Pool.enc, fMulS_i, b__law_draw_1, t__law_draw_2, b__law_draw_3, b__law_draw_4, b__law_draw_5, t__law_draw_6, b__law_draw_7, hv, hp, hc, en, hn', hm0, hm1]
      · have hn' : ¬ cells[pos] ≤ 0 := by omega
        refine ⟨⟨cells, pos + 1, cells[pos] / m, cnt + 1, salt⟩, cells[pos] % m, Int.emod_nonneg _ (by omega), Int.emod_lt_of_pos _ hm0, ?_⟩
        simp [envOf, slOf, Pool.enc, fMulS_i, b__law_draw_1, t__law_draw_2, b__law_draw_3, b__law_draw_4, b__law_draw_5, t__law_draw_6, b__law_draw_7, hv, hp, hc, hn', hm0, hm1]
    · refine ⟨⟨cells, pos, val, cnt + 1, salt⟩, (((salt * 48271 + (cnt + 1) * 69621 + 1) % 2147483647 * 16807 + (cnt + 1)) % 2147483629 / 5) % m, Int.emod_nonneg _ (by omega), Int.emod_lt_of_pos _ hm0, ?_⟩
      simp [envOf, slOf, Pool.enc, fMulS_i, b__law_draw_1, t__law_draw_2, b__law_draw_3, b__law_draw_4, b__law_draw_5, t__law_draw_6, b__law_draw_7, hv, hp, hm0, hm1]
  · refine ⟨⟨cells, pos, val / m, cnt + 1, salt⟩, val % m, Int.emod_nonneg _ (by omega), Int.emod_lt_of_pos _ hm0, ?_⟩
    simp [envOf, slOf, Pool.enc, fMulS_i, b__law_draw_1, t__law_draw_2, b__law_draw_3, b__law_draw_4, b__law_draw_5, t__law_draw_6, b__law_draw_7, hv, hm0, hm1]
end ET
set_option Elab.async false
set_option maxRecDepth 100000
/-! The laws' helpers, plain: pick, shuffled, pool. -/
namespace ET
open PySem L2
theorem pool_ok (ns : List Int) (h : ns.length ≤ 63) : ∃ p : Pool, f__law_pool [.val (.scr (ns.map .int))] = some (.own p.enc false, [.val (.scr (ns.map .int))]) := by
  unfold f__law_pool
  rw [runF_eq (by rfl)]
  unfold m__law_pool
  have hl : ns.length ≤ sizeLine := by rw [sz]; omega
  obtain ⟨ρ', e, hI⟩ := forL_rel (g := gN 2) (b := b__law_pool_2)
    (fun _ ρ => ∃ (s : Int) (x : Option Sl), ρ = [some (.val (.scr (ns.map .int))), some (.val (.int s)), x] ∧ ∀ o, x ≠ some (.own o true))
    (cutD (ns.map .int) none (some 63)) [] [some (.val (.scr (ns.map .int))), some (.val (.int 7)), none] ⟨7, none, rfl, by simp⟩ (by
      rintro done d rest ρ - hd ⟨s, x, rfl, hx⟩
      have hd' : d ∈ ns.map D.int := by
        unfold cutD at hd
        exact List.mem_of_mem_drop (List.mem_of_mem_take hd)
      obtain ⟨c, hc, rfl⟩ := List.mem_map.mp hd'
      refine ⟨[some (.val (.scr (ns.map .int))), some (.val (.int ((s * 31 + c) % 1000003))), some (.val (.int c))], ?_, _, _, rfl, by simp⟩
      unfold turnS b__law_pool_2
      have hs : setS 2 (.val (.int c)) [some (.val (.scr (ns.map .int))), some (.val (.int s)), x] (some x) = some [some (.val (.scr (ns.map .int))), some (.val (.int s)), some (.val (.int c))] := by
        cases x with
        | none => rfl
        | some sl => cases sl with
          | val d => rfl
          | own o io => cases io with
            | false => rfl
            | true => exact absurd rfl (hx o)
      simp [hs, fMulS_i])
  obtain ⟨s, x, rfl, hx⟩ := hI
  refine ⟨⟨ns, 0, 0, 0, s⟩, ?_⟩
  have e63 : fSlS none (some 63) (.scr (ns.map .int)) = some (.own (.lst (cutD (ns.map .int) none (some 63))) false) := rfl
  simp [envOf, slOf, sSlS, bEv, e63, e, Pool.enc, sz, b__law_pool_1]
theorem pick_ok (p : Pool) (ds : List D) (h : ds ≠ []) (hl : ds.length < 1000) : ∃ (q : Pool) (d : D), d ∈ ds ∧ f__law_pick [.io p.enc, .val (.lst ds)] = some (.val d, [.io q.enc, .val (.lst ds)]) := by
  have h0 : 0 < ds.length := List.length_pos_iff.mpr h
  obtain ⟨q, r, r0, r1, e⟩ := draw_ok p ds.length ⟨by omega, by omega⟩
  obtain ⟨k, rfl⟩ := Int.eq_ofNat_of_zero_le r0
  have hk : k < ds.length := by omega
  refine ⟨q, ds[k], List.getElem_mem hk, ?_⟩
  unfold f__law_pick
  rw [runF_eq (by rfl)]
  unfold m__law_pick
  obtain ⟨cells, pos, val, cnt, salt⟩ := p
  obtain ⟨cells', pos', val', cnt', salt'⟩ := q
  simp [envOf, slOf, Pool.enc] at e ⊢
  simp [e, hk]
theorem seqIndex_lt {k n : Nat} (h : k < n) : seqIndex? (k : Int) n = some k := by
  unfold seqIndex?
  have h0 : ¬ ((k : Int) < 0) := by omega
  simp [h, h0]
theorem popS_nat {i k : Nat} {ρ : Env} {l : List D} {io : Bool} (h : ρ[i]? = some (some (.own (.lst l) io))) (hk : k < l.length) (hl : l.length < 1000000) : popS i (.int (k : Int), ρ) = some (l[k], ρ.set i (some (.own (.lst (l.eraseIdx k)) io))) := by
  have h1 : -(2 ^ 63) ≤ (k : Int) ∧ (k : Int) < 2 ^ 63 := ⟨by omega, by omega⟩
  rw [popS_d, ownL_d, h, ownS_d, Option.bind_some, if_pos h1, seqIndex_lt hk, Option.bind_some, List.getElem?_eq_getElem hk, Option.bind_some]
theorem shuf_draw (p q : Pool) (left found ds : List D) (k : Nat) (hk : k < left.length) (hl : left.length < 1000) (e : f__law_draw [Arg.io p.enc, Arg.val (D.int ↑left.length)] =
    some (Sl.val (D.int ↑k), [Arg.io q.enc, Arg.val (D.int ↑left.length)])) : (dFrz (callS f__law_draw [.io 0, .val (d1 fLen (.o 2))])) [some (Sl.own p.enc true), some (Sl.val (D.lst ds)), some (Sl.own (Own.lst left) false),
        some (Sl.own (Own.lst found) false)] = some (.int k, [some (Sl.own q.enc true), some (Sl.val (D.lst ds)), some (Sl.own (Own.lst left) false),
        some (Sl.own (Own.lst found) false)]) := by
  simp [e]
theorem shuf_pop (p q : Pool) (left found ds : List D) (k : Nat) (hk : k < left.length) (hl : left.length < 1000) (e : f__law_draw [Arg.io p.enc, Arg.val (D.int ↑left.length)] =
    some (Sl.val (D.int ↑k), [Arg.io q.enc, Arg.val (D.int ↑left.length)])) : (dPop 2 (dFrz (callS f__law_draw [.io 0, .val (d1 fLen (.o 2))]))) [some (Sl.own p.enc true), some (Sl.val (D.lst ds)), some (Sl.own (Own.lst left) false),
        some (Sl.own (Own.lst found) false)] = some (left[k], [some (Sl.own q.enc true), some (Sl.val (D.lst ds)), some (Sl.own (Own.lst (left.eraseIdx k)) false),
        some (Sl.own (Own.lst found) false)]) := by
  rw [dPop_d, lstAt_d, shuf_draw p q left found ds k hk hl e, Option.bind_some, popS_nat (io := false) (l := left) rfl hk (by omega)]
  rfl
theorem shuffled_loop (n : Nat) : ∀ (left found ds : List D) (p : Pool), left.length = n → n < 1000 → found.length + n ≤ 1000 → ∃ (q : Pool) (es : List D), (found ++ es).Perm (found ++ left) ∧
    kWhile (tOf (d2 fNe (.o 2) (.e (dFrz (sLst dNil))))) (kAppC 3 (dPop 2 (dFrz (callS f__law_draw [.io 0, .val (d1 fLen (.o 2))])))) [some (.own p.enc true), some (.val (.lst ds)), some (.own (.lst left) false), some (.own (.lst found) false)] =
      some (.nx [some (.own q.enc true), some (.val (.lst ds)), some (.own (.lst []) false), some (.own (.lst (found ++ es)) false)]) := by
  induction n with
  | zero =>
    intro left found ds p hn _ _
    have : left = [] := List.eq_nil_of_length_eq_zero hn
    subst this
    refine ⟨p, [], by simp, ?_⟩
    rw [kWhile_end (ρ1 := [some (.own p.enc true), some (.val (.lst ds)), some (.own (.lst []) false), some (.own (.lst found) false)]) (by simp [sz])]
    simp
  | succ n ih =>
    intro left found ds p hn hm hf
    obtain ⟨q, r, r0, r1, e⟩ := draw_ok p left.length ⟨by omega, by omega⟩
    obtain ⟨k, rfl⟩ := Int.eq_ofNat_of_zero_le r0
    have hk : k < left.length := by omega
    have hne : left.isEmpty = false := by cases left with | nil => simp at hn | cons _ _ => rfl
    obtain ⟨q2, es, pm, e2⟩ := ih (left.eraseIdx k) (found ++ [left[k]]) ds q (by rw [List.length_eraseIdx]; simp [hk]; omega) (by omega) (by simp; omega)
    refine ⟨q2, left[k] :: es, ?_, ?_⟩
    · have h1 : (found ++ left[k] :: es) = (found ++ [left[k]]) ++ es := by simp
      rw [h1]
      refine pm.trans ?_
      rw [List.append_assoc]
      refine List.Perm.append_left _ ?_
      exact L2.erase_perm left k left[k] (List.getElem?_eq_getElem hk)
    · rw [kWhile_go (ρ1 := [some (.own p.enc true), some (.val (.lst ds)), some (.own (.lst left) false), some (.own (.lst found) false)]) (ρ2 := [some (.own q.enc true), some (.val (.lst ds)), some (.own (.lst (left.eraseIdx k)) false), some (.own (.lst (found ++ [left[k]])) false)]), e2]
      · simp
      · simp [sz, hne]
      · have hfz : found.length < 16777216 := by omega
        simp [-dPop_d, shuf_pop p q left found ds k hk (by omega) e, appT_d, hfz]
theorem shuffled_ok (p : Pool) (ds : List D) (hl : ds.length < 1000) : ∃ (q : Pool) (es : List D), es.Perm ds ∧ f__law_shuffled [.io p.enc, .val (.lst ds)] = some (.val (.lst es), [.io q.enc, .val (.lst ds)]) := by
  obtain ⟨q, es, pm, e⟩ := shuffled_loop ds.length ds [] ds p rfl hl (by simp; omega)
  refine ⟨q, es, by simpa using pm, ?_⟩
  unfold f__law_shuffled
  rw [runF_eq (by rfl)]
  unfold m__law_shuffled
  simp only [List.nil_append] at e
  unfold b__law_shuffled_1
  simp [envOf, slOf, sz, e]
end ET
set_option Elab.async false
set_option maxRecDepth 100000
/-! The laws' helpers, plain: talks. -/
namespace ET
open PySem L2
mutual
inductive Talk where
  | fin
  | again (n : Int)
  | loop (n : Int) (b : Talk)
  | beside (a b : Talk)
  | say (s h : Int) (r : Rows)
inductive Rows where
  | nil
  | cons (l : Int) (t : Talk) (r : Rows)
end
mutual
def Talk.enc : Talk → D
  | .fin => .tup [.str .«end»]
  | .again n => .tup [.str .again, .int n]
  | .loop n b => .tup [.str .loop, .int n, b.enc]
  | .beside a b => .tup [.str .beside, a.enc, b.enc]
  | .say s h r => .tup [.str .say, .int s, .int h, .tup r.enc]
def Rows.enc : Rows → List D
  | .nil => []
  | .cons l t r => .tup [.int l, t.enc] :: r.enc
end
mutual
/-- how deep -/
def Talk.ht : Talk → Nat
  | .fin => 1
  | .again _ => 1
  | .loop _ b => b.ht + 1
  | .beside a b => max a.ht b.ht + 1
  | .say _ _ r => r.ht + 1
def Rows.ht : Rows → Nat
  | .nil => 0
  | .cons _ t r => max t.ht r.ht
end
def Rows.letters : Rows → List Int
  | .nil => []
  | .cons l _ r => l :: r.letters
mutual
/-- what may be drawn -/
def Talk.ok : Talk → (names bare taken roles : List Int) → Prop
  | .fin, _, _, _, _ => True
  | .again n, names, bare, _, _ => n ∈ names ∧ n ∉ bare
  | .loop n b, names, bare, taken, roles => n ∉ taken ∧ 0 ≤ n ∧ n < 4 ∧ b.ok (names ++ [n]) (bare ++ [n]) (taken ++ [n]) roles
  | .beside a b, _, _, taken, roles => ∃ r1 r2 : List Int, (r1 ++ r2).Perm roles ∧ r1.length = 2 ∧ r2.length = 2 ∧ a.ok [] [] taken r1 ∧ b.ok [] [] taken r2
  | .say s h r, names, _, taken, roles => s ∈ roles ∧ h ∈ roles ∧ s ≠ h ∧ r.letters ≠ [] ∧ r.letters.length ≤ 3 ∧ r.letters.Pairwise (· < ·) ∧ (∀ l ∈ r.letters, 0 ≤ l ∧ l < 4) ∧ r.ok names taken roles
def Rows.ok : Rows → (names taken roles : List Int) → Prop
  | .nil, _, _, _ => True
  | .cons _ t r, names, taken, roles => t.ok names [] taken roles ∧ r.ok names taken roles
end
abbrev il (ns : List Int) : D := .lst (ns.map .int)
def Rows.snoc : Rows → Int → Talk → Rows
  | .nil, l, t => .cons l t .nil
  | .cons k u r, l, t => .cons k u (r.snoc l t)
theorem Rows.enc_snoc : ∀ (r : Rows) (l : Int) (t : Talk), (r.snoc l t).enc = r.enc ++ [.tup [.int l, t.enc]]
  | .nil, l, t => rfl
  | .cons k u r, l, t => by simp only [Rows.snoc, Rows.enc, Rows.enc_snoc r l t, List.cons_append]
theorem Rows.letters_snoc : ∀ (r : Rows) (l : Int) (t : Talk), (r.snoc l t).letters = r.letters ++ [l]
  | .nil, l, t => rfl
  | .cons k u r, l, t => by simp only [Rows.snoc, Rows.letters, Rows.letters_snoc r l t, List.cons_append]
theorem Rows.ht_snoc : ∀ (r : Rows) (l : Int) (t : Talk), (r.snoc l t).ht = max r.ht t.ht
  | .nil, l, t => by simp only [Rows.snoc, Rows.ht]; omega
  | .cons k u r, l, t => by simp only [Rows.snoc, Rows.ht, Rows.ht_snoc r l t]; omega
theorem Rows.ok_snoc : ∀ (r : Rows) (l : Int) (t : Talk) (names taken roles : List Int), r.ok names taken roles → t.ok names [] taken roles → (r.snoc l t).ok names taken roles
  | .nil, l, t, _, _, _, _, h => ⟨h, trivial⟩
  | .cons k u r, l, t, _, _, _, h1, h => ⟨h1.1, Rows.ok_snoc r l t _ _ _ h1.2 h⟩
theorem Rows.enc_length : ∀ r : Rows, r.enc.length = r.letters.length
  | .nil => rfl
  | .cons l t r => by simp only [Rows.enc, Rows.letters, List.length_cons, Rows.enc_length r]
theorem mem_il {d : D} {ns : List Int} (h : d ∈ ns.map D.int) : ∃ n, n ∈ ns ∧ d = .int n := by
  obtain ⟨n, h1, h2⟩ := List.mem_map.mp h
  exact ⟨n, h1, h2.symm⟩
theorem perm_il {ds : List D} {ns : List Int} (h : ds.Perm (ns.map D.int)) : ∃ ms : List Int, ms.Perm ns ∧ ds = ms.map .int := by
  have hm : ∀ d ∈ ds, ∃ n, d = D.int n := fun d hd => by
    obtain ⟨n, _, e⟩ := mem_il (h.mem_iff.mp hd)
    exact ⟨n, e⟩
  have : ∃ ms : List Int, ds = ms.map .int := by
    clear h
    induction ds with
    | nil => exact ⟨[], rfl⟩
    | cons d ds ih =>
      obtain ⟨ms, e⟩ := ih fun x hx => hm x (List.mem_cons_of_mem _ hx)
      obtain ⟨n, e2⟩ := hm d List.mem_cons_self
      exact ⟨n :: ms, by rw [e, e2]; rfl⟩
  obtain ⟨ms, rfl⟩ := this
  refine ⟨ms, ?_, rfl⟩
  have h2 := h.map (fun d => match d with | .int i => i | _ => 0)
  simpa [List.map_map, Function.comp_def] using h2
/-- [x for x in names if x not in bare] -/
theorem free_comp (i j : Nat) (hij : i ≠ j) (names bare : List Int) (ρ : Env) (h : i < ρ.length) (hb : ρ[j]? = some (some (.val (il bare)))) (hi : ρ[i]? = some none) :
    compL [i] (gN i) (tOf (d2 (fIn true) (.o i) (.o j))) (dV i) (names.map .int) ρ = some ((names.filter fun n => decide (n ∉ bare)).map .int, ρ) := by
  have := compL_map (vs := [i]) (g := gN i) (c := tOf (d2 (fIn true) (.o i) (.o j))) (e := dV i) (ρ := ρ) (enc := D.int) (fun n => if n ∉ bare then some (.int n) else none) names fun n _ => by
    have e1 : (ρ.set i (some (.val (.int n))))[i]? = some (some (.val (.int n))) := List.getElem?_set_self h
    have e3 : (ρ.set i (some (.val (.int n))))[j]? = some (some (.val (il bare))) := by rw [List.getElem?_set_ne hij]; exact hb
    have ew : wipeG (ρ.set i (some (.val (.int n)))) [i] = some ρ := by
      unfold wipeG noOwn
      simp only [List.all_cons, List.all_nil, e1, Bool.and_true, if_pos]
      congr 1
      apply List.ext_getElem?
      intro l
      rw [wipeE_get, List.length_set]
      by_cases hj : l = i
      · subst hj; rw [if_pos ⟨by simp, h⟩]; exact hi.symm
      · rw [if_neg (by simp [hj]), List.getElem?_set_ne (fun q => hj q.symm)]
    unfold turnC
    by_cases hn : n ∈ bare
    · simp [hi, e1, e3, fIn_li, hn, ew]
    · simp [hi, e1, e3, fIn_li, hn, ew]
  rw [this, filterMap_if (fun n => n ∉ bare)]
abbrev Ev (p : Pool) (d : Int) (names bare taken roles : List Int) (turn : Int) : Env :=
  [some (.own p.enc true), some (.val (.int d)), some (.val (il names)), some (.val (il bare)), some (.val (il taken)), some (.val (il roles)), some (.val (.int turn)), none, none, none, none, none, none, none]
def outT : Res → Option (D × Option (Option Sl))
  | .rt (.val d) ρ => some (d, ρ.head?)
  | _ => none
@[simp] theorem outT_rt (d : D) (ρ : Env) : outT (.rt (.val d) ρ) = some (d, ρ.head?) := rfl
/-- a talk comes out, the pool is handed on -/
def Gives (b : DS) (ρ : Env) (T : Talk → Prop) : Prop := ∃ (q : Pool) (t : Talk), T t ∧ (b ρ).bind outT = some (t.enc, some (some (.own q.enc true)))
theorem Gives.is {b : DS} {ρ : Env} {T : Talk → Prop} (h : Gives b ρ T) : ∃ (q : Pool) (t : Talk) (rest : Env), T t ∧ b ρ = some (.rt (.val t.enc) (some (.own q.enc true) :: rest)) := by
  obtain ⟨q, t, hT, e⟩ := h
  obtain ⟨r, e1, e2⟩ := Option.bind_eq_some_iff.mp e
  cases r with
  | rt s ρ' =>
    cases s with
    | val d =>
      simp only [outT_rt, Option.some.injEq, Prod.mk.injEq] at e2
      obtain ⟨rfl, h2⟩ := e2
      cases ρ' with
      | nil => cases h2
      | cons x ρ' =>
        simp only [List.head?_cons, Option.some.injEq] at h2
        subst h2
        exact ⟨q, t, ρ', hT, e1⟩
    | own _ _ => cases e2
  | _ => cases e2
theorem sub10 (p : Pool) (d : Int) (names bare taken roles : List Int) (turn : Int) (h : names.length ≤ 20) : Gives b__law_draw_talk_10 (Ev p d names bare taken roles turn) fun t => t.ok names bare taken roles ∧ t.ht ≤ 1 := by
  have fc := free_comp 11 3 (by decide) names bare (Ev p d names bare taken roles turn) (by simp) rfl rfl
  have hl : (names.filter fun n => decide (n ∉ bare)).length ≤ 20 := Nat.le_trans (List.length_filter_le _ _) h
  have hl' : ((names.filter fun n => decide (n ∉ bare)).map D.int).length ≤ sizeLine := by rw [List.length_map, sz]; omega
  unfold b__law_draw_talk_10
  generalize hfr : (names.filter fun n => decide (n ∉ bare)) = fr at *
  have c1 : sComp [11] (iVal (dV 2)) (gN 11) (tOf (d2 (fIn true) (.o 11) (.o 3))) (dV 11) (Ev p d names bare taken roles turn) = some (.own (.lst (fr.map .int)) false, Ev p d names bare taken roles turn) := by
    simp only [Ev] at fc
    simp [wipeG, noOwn, wipeE, backE, fc, sz]
    omega
  by_cases hf : fr = []
  · subst hf
    refine ⟨p, .fin, ⟨trivial, by simp [Talk.ht]⟩, ?_⟩
    simp [-sComp_d, c1, sz, Talk.enc]
  · obtain ⟨q1, r1, a1, b1, e1⟩ := draw_ok p 3 (by decide)
    by_cases hr : 0 < r1
    · obtain ⟨q2, x, hx, e2⟩ := pick_ok q1 (fr.map .int) (by simpa using hf) (by simp; omega)
      obtain ⟨n, hn, rfl⟩ := mem_il hx
      have hn' : n ∈ names ∧ n ∉ bare := by
        rw [← hfr] at hn
        simpa using hn
      have hne : (fr.map D.int).isEmpty = false := by cases fr with | nil => exact absurd rfl hf | cons _ _ => rfl
      refine ⟨q2, .again n, ⟨hn', by simp [Talk.ht]⟩, ?_⟩
      simp [-sComp_d, -List.isEmpty_map, c1, sz, Talk.enc, hne, e1, hr, e2]
    · have hne : (fr.map D.int).isEmpty = false := by cases fr with | nil => exact absurd rfl hf | cons _ _ => rfl
      refine ⟨q1, .fin, ⟨trivial, by simp [Talk.ht]⟩, ?_⟩
      simp [-sComp_d, -List.isEmpty_map, c1, sz, Talk.enc, hne, e1, hr]
/-- what draw_talk does, down to deep -/
def DrawSpec (self : FS) (deep : Nat) : Prop := ∀ (p : Pool) (names bare taken roles : List Int), names.length + deep ≤ 20 → bare.length + deep ≤ 20 → taken.length + deep ≤ 20 → roles.Nodup → roles.length ≤ 4 → 2 ≤ roles.length →
    ∃ (q : Pool) (t : Talk), t.ok names bare taken roles ∧ t.ht ≤ deep + 1 ∧ self [.io p.enc, .val (.int deep), .val (il names), .val (il bare), .val (il taken), .val (il roles)] =
      some (.val t.enc, [.io q.enc, .val (.int deep), .val (il names), .val (il bare), .val (il taken), .val (il roles)])
theorem room4 (taken : List Int) (h : taken.length < 3) : ([0, 1, 2, 3].filter fun n : Int => decide (n ∉ taken)) ≠ [] := fun e => by
  have hs : ∀ n : Int, n ∈ [0, 1, 2, 3] → n ∈ taken := fun n hn => by
    have := List.filter_eq_nil_iff.mp e n hn
    simpa using this
  have e0 := hs 0 (by simp)
  have e1 := hs 1 (by simp)
  have e2 := hs 2 (by simp)
  match taken, h with
  | [], _ => simp at e0
  | [a], _ => simp at e0 e1; omega
  | [a, b], _ => simp at e0 e1 e2; omega
  | _ :: _ :: _ :: _, h => simp at h; omega
theorem sub7 {self : FS} {deep : Nat} (S : DrawSpec self deep) (p : Pool) (names bare taken roles : List Int) (turn : Int) (h1 : names.length + (deep + 1) ≤ 20) (h2 : bare.length + (deep + 1) ≤ 20) (h3 : taken.length + (deep + 1) ≤ 20) (h3' : taken.length < 3) (h4 : roles.Nodup) (h5 : roles.length ≤ 4) (h6 : 2 ≤ roles.length) :
    Gives (b__law_draw_talk_7 self) (Ev p ((deep : Int) + 1) names bare taken roles turn) fun t => t.ok names bare taken roles ∧ t.ht ≤ deep + 2 := by
  have fc := free_comp 12 4 (by decide) [0, 1, 2, 3] taken (Ev p ((deep : Int) + 1) names bare taken roles turn) (by simp) rfl rfl
  have hne := room4 taken h3'
  have hl : ([0, 1, 2, 3].filter fun n : Int => decide (n ∉ taken)).length ≤ 4 := List.length_filter_le _ _
  have hm : ∀ n ∈ ([0, 1, 2, 3].filter fun n : Int => decide (n ∉ taken)), n ∉ taken ∧ 0 ≤ n ∧ n < 4 := fun n hn => by
    obtain ⟨a, b⟩ := List.mem_filter.mp hn
    refine ⟨by simpa using b, ?_⟩
    simp at a
    omega
  unfold b__law_draw_talk_7
  generalize ([0, 1, 2, 3].filter fun n : Int => decide (n ∉ taken)) = fr at *
  have c1 : sComp [12] (iVal (dTup (dCons (dC (.int 0)) (dCons (dC (.int 1)) (dCons (dC (.int 2)) (dCons (dC (.int 3)) dNil)))))) (gN 12) (tOf (d2 (fIn true) (.o 12) (.o 4))) (dV 12) (Ev p ((deep : Int) + 1) names bare taken roles turn) = some (.own (.lst (fr.map .int)) false, Ev p ((deep : Int) + 1) names bare taken roles turn) := by
    simp only [Ev, List.map_cons, List.map_nil] at fc
    simp [wipeG, noOwn, wipeE, backE, fc, sz]
    omega
  obtain ⟨q, x, hx, e⟩ := pick_ok p (fr.map .int) (by simpa using hne) (by simp; omega)
  obtain ⟨n, hn, rfl⟩ := mem_il hx
  obtain ⟨q2, t, o2, o3, e2⟩ := S q (names ++ [n]) (bare ++ [n]) (taken ++ [n]) roles (by simp; omega) (by simp; omega) (by simp; omega) h4 h5 h6
  simp only [il, List.map_append, List.map_cons, List.map_nil] at e2
  refine ⟨q2, .loop n t, ⟨⟨(hm n hn).1, (hm n hn).2.1, (hm n hn).2.2, o2⟩, by simp only [Talk.ht]; omega⟩, ?_⟩
  have z1 : names.length + 1 ≤ 16777216 := by omega
  have z2 : bare.length + 1 ≤ 16777216 := by omega
  have z3 : taken.length + 1 ≤ 16777216 := by omega
  simp [-sComp_d, c1, sz, Talk.enc, e, e2, z1, z2, z3]
theorem len4 {α : Type} {l : List α} (h : l.length = 4) : ∃ a b c d, l = [a, b, c, d] := by
  match l, h with
  | [a, b, c, d], _ => exact ⟨a, b, c, d, rfl⟩
theorem cut4 (a b c d : D) : cutD [a, b, c, d] none (some 2) = [a, b] ∧ cutD [a, b, c, d] (some 2) none = [c, d] ∧ cutD [a, b, c, d] none (some 1) = [a] ∧ cutD [a, b, c, d] none (some 3) = [a, b, c] := ⟨rfl, rfl, rfl, rfl⟩
@[simp] theorem bEv_n (ρ : Env) : bEv none ρ = some (none, ρ) := rfl
def bS : D × Env → Option (Option Int × Env)
  | (.int i, ρ) => some (some i, ρ)
  | _ => none
@[simp] theorem bS_i (i : Int) (ρ : Env) : bS (.int i, ρ) = some (some i, ρ) := rfl
@[simp] theorem bEv_s (a : DE) (ρ : Env) : bEv (some a) ρ = (a ρ).bind bS := by
  unfold bEv
  dsimp only
  congr 1; funext x
  obtain ⟨d, ρ'⟩ := x
  cases d <;> rfl
@[simp] theorem sSlS_d (x : DO) (lo hi : Option DE) (ρ : Env) : sSlS x lo hi ρ = (x.ev ρ).bind fun a => (bEv lo a.2).bind fun l => (bEv hi l.2).bind fun h => (x.fin a.1 h.2).bind fun u => (fSlS l.1 h.1 u).bind fun c => some (c, h.2) := rfl
@[simp] theorem fSlS_l (lo hi : Option Int) (xs : List D) : fSlS lo hi (.lst xs) = some (.own (.lst (cutD xs lo hi)) false) := rfl
@[simp] theorem fSlS_t (lo hi : Option Int) (xs : List D) : fSlS lo hi (.tup xs) = some (.val (.tup (cutD xs lo hi))) := rfl
theorem sub4 {self : FS} {deep : Nat} (S : DrawSpec self deep) (p : Pool) (names bare taken roles : List Int) (turn : Int) (hd : deep ≤ 19) (h3 : taken.length + (deep + 1) ≤ 20) (h4 : roles.Nodup) (h5 : roles.length = 4) :
    Gives (b__law_draw_talk_4 self) (Ev p ((deep : Int) + 1) names bare taken roles turn) fun t => t.ok names bare taken roles ∧ t.ht ≤ deep + 2 := by
  obtain ⟨q, ds, pm, e⟩ := shuffled_ok p (roles.map .int) (by simp; omega)
  obtain ⟨ms, pm', rfl⟩ := perm_il pm
  obtain ⟨a, b, c, d, rfl⟩ := len4 (pm'.length_eq.trans h5)
  have nd : ([a, b, c, d] : List Int).Nodup := pm'.nodup_iff.mpr h4
  have f1 : fSorted (.lst [.int a, .int b]) = some ((ascI [a, b]).map .int) := fSorted_ints (ns := [a, b]) (by simp [sz])
  have f2 : fSorted (.lst [.int c, .int d]) = some ((ascI [c, d]).map .int) := fSorted_ints (ns := [c, d]) (by simp [sz])
  have n1 : (ascI [a, b]).Nodup := (ascI_perm _).nodup_iff.mpr (by simp at nd ⊢; exact nd.1.1)
  have n2 : (ascI [c, d]).Nodup := (ascI_perm _).nodup_iff.mpr (by simp at nd ⊢; exact nd.2.2)
  have l1 : (ascI [a, b]).length = 2 := (ascI_perm _).length_eq
  have l2 : (ascI [c, d]).length = 2 := (ascI_perm _).length_eq
  obtain ⟨q1, t1, o1, k1, e1⟩ := S q [] [] taken (ascI [a, b]) (by simp; omega) (by simp; omega) (by omega) n1 (by omega) (by omega)
  obtain ⟨q2, t2, o2, k2, e2⟩ := S q1 [] [] taken (ascI [c, d]) (by simp; omega) (by simp; omega) (by omega) n2 (by omega) (by omega)
  refine ⟨q2, .beside t1 t2, ⟨⟨ascI [a, b], ascI [c, d], ?_, l1, l2, o1, o2⟩, by simp only [Talk.ht]; omega⟩, ?_⟩
  · exact ((ascI_perm [a, b]).append (ascI_perm [c, d])).trans pm'
  · unfold b__law_draw_talk_4
    have c4 := cut4 (.int a) (.int b) (.int c) (.int d)
    simp only [List.map_cons, List.map_nil] at e
    simp only [il, List.map_nil] at e1 e2
    simp [e, c4, f1, f2, e1, e2, sz, Talk.enc]
theorem many6 (r : Int) (h0 : 0 ≤ r) (h1 : r < 6) : ∃ m : Int, (m = 1 ∨ m = 2 ∨ m = 3) ∧ fIx (.tup [.int 1, .int 1, .int 1, .int 2, .int 2, .int 3]) (.int r) = some (.int m) := by
  have : r = 0 ∨ r = 1 ∨ r = 2 ∨ r = 3 ∨ r = 4 ∨ r = 5 := by omega
  rcases this with rfl | rfl | rfl | rfl | rfl | rfl
  · exact ⟨1, by simp, rfl⟩
  · exact ⟨1, by simp, rfl⟩
  · exact ⟨1, by simp, rfl⟩
  · exact ⟨2, by simp, rfl⟩
  · exact ⟨2, by simp, rfl⟩
  · exact ⟨3, by simp, rfl⟩
/-- the letters -/
theorem letters4 (ms : List Int) (pm : ms.Perm [0, 1, 2, 3]) (m : Int) (hm : m = 1 ∨ m = 2 ∨ m = 3) : ∃ ls : List Int, ls ≠ [] ∧ ls.length ≤ 3 ∧ ls.Pairwise (· < ·) ∧ (∀ l ∈ ls, 0 ≤ l ∧ l < 4) ∧ fSorted (.lst (cutD (ms.map .int) none (some m))) = some (ls.map .int) := by
  obtain ⟨a, b, c, d, rfl⟩ := len4 pm.length_eq
  have nd : ([a, b, c, d] : List Int).Nodup := pm.nodup_iff.mpr (by decide)
  have mem : ∀ l ∈ ([a, b, c, d] : List Int), 0 ≤ l ∧ l < 4 := fun l hl => by
    have := pm.mem_iff.mp hl
    simp at this
    omega
  have go : ∀ xs : List Int, xs ≠ [] → xs.length ≤ 3 → xs.Nodup → (∀ x ∈ xs, x ∈ [a, b, c, d]) → cutD (([a, b, c, d] : List Int).map D.int) none (some m) = xs.map .int → ∃ ls : List Int, ls ≠ [] ∧ ls.length ≤ 3 ∧ ls.Pairwise (· < ·) ∧ (∀ l ∈ ls, 0 ≤ l ∧ l < 4) ∧ fSorted (.lst (cutD (([a, b, c, d] : List Int).map .int) none (some m))) = some (ls.map .int) := by
    intro xs h1 h2 h3 h4 h5
    refine ⟨ascI xs, ?_, ?_, ?_, ?_, ?_⟩
    · intro z
      have := (ascI_perm xs).length_eq
      rw [z] at this
      exact h1 (List.eq_nil_of_length_eq_zero this.symm)
    · rw [(ascI_perm xs).length_eq]; exact h2
    · exact lt_of_le_nodup _ (ascI_le xs) ((ascI_perm xs).nodup_iff.mpr h3)
    · intro l hl
      exact mem l (h4 l ((ascI_perm xs).mem_iff.mp hl))
    · rw [h5]
      exact fSorted_ints (by rw [sz]; omega)
  have c4 := cut4 (.int a) (.int b) (.int c) (.int d)
  simp at nd
  rcases hm with rfl | rfl | rfl
  · exact go [a] (by simp) (by simp) (by simp) (by simp) c4.2.2.1
  · exact go [a, b] (by simp) (by simp) (by simp; exact nd.1.1) (by simp) c4.1
  · exact go [a, b, c] (by simp) (by simp) (by simp; exact ⟨⟨nd.1.1, nd.1.2.1⟩, nd.2.1.1⟩) (by simp) c4.2.2.2
/-- the state in which the branches are drawn -/
abbrev Es (p : Pool) (d : Int) (names bare taken roles : List Int) (turn : Int) (x7 x8 x9 : Sl) : Env :=
  [some (.own p.enc true), some (.val (.int d)), some (.val (il names)), some (.val (il bare)), some (.val (il taken)), some (.val (il roles)), some (.val (.int turn)), some x7, some x8, some x9, none, none, none, none]
theorem branches {self : FS} {deep : Nat} (S : DrawSpec self deep) (p : Pool) (names bare taken roles : List Int) (turn : Int) (x7 x8 : Sl) (ls : List Int) (x9 : Sl) (h1 : names.length + (deep + 1) ≤ 20) (h3 : taken.length + (deep + 1) ≤ 20) (h4 : roles.Nodup) (h5 : roles.length ≤ 4) (h6 : 2 ≤ roles.length) (hl : ls.length ≤ 3) :
    ∃ (q : Pool) (r : Rows), r.letters = ls ∧ r.ok names taken roles ∧ r.ht ≤ deep + 1 ∧ compL [13] (gN 13) tYesD (e__law_draw_talk_1 self) (ls.map .int) (Es p ((deep : Int) + 1) names bare taken roles turn x7 x8 x9) = some (r.enc, Es q ((deep : Int) + 1) names bare taken roles turn x7 x8 x9) := by
  obtain ⟨zs, ρ', e, I⟩ := compL_rel (vs := [13]) (g := gN 13) (c := tYesD) (e := e__law_draw_talk_1 self)
    (fun done outs ρ => ∃ (q : Pool) (r : Rows), r.letters.map D.int = done ∧ outs = r.enc ∧ r.ok names taken roles ∧ r.ht ≤ deep + 1 ∧ ρ = Es q ((deep : Int) + 1) names bare taken roles turn x7 x8 x9)
    (ls.map .int) [] [] _ ⟨p, .nil, rfl, rfl, trivial, by simp [Rows.ht], rfl⟩ (by
      rintro done outs d ρ hd ⟨q, r, i1, rfl, i3, i4, rfl⟩
      obtain ⟨l, hl, rfl⟩ := mem_il hd
      obtain ⟨q2, t, o2, o3, e2⟩ := S q names [] taken roles (by omega) (by simp; omega) (by omega) h4 h5 h6
      refine ⟨some (.tup [.int l, t.enc]), Es q2 ((deep : Int) + 1) names bare taken roles turn x7 x8 x9, ?_, q2, r.snoc l t, ?_, ?_, Rows.ok_snoc r l t _ _ _ i3 o2, ?_, rfl⟩
      · unfold turnC e__law_draw_talk_1
        simp only [il, List.map_nil] at e2
        simp [e2, sz, wipeG, noOwn, wipeE]
      · rw [Rows.letters_snoc, List.map_append, i1]; rfl
      · rw [Rows.enc_snoc]; rfl
      · rw [Rows.ht_snoc]; omega)
  obtain ⟨q, r, i1, i2, i3, i4, rfl⟩ := I
  refine ⟨q, r, ?_, i3, i4, ?_⟩
  · have : ∀ a b : List Int, a.map D.int = b.map D.int → a = b := fun a b h => by
      have := congrArg (List.map fun d => match d with | D.int i => i | _ => 0) h
      simpa [List.map_map, Function.comp_def] using this
    exact this _ _ (by simpa using i1)
  · rw [e]
    simp only [List.nil_append] at i2
    rw [i2]
theorem sub2 {self : FS} {deep : Nat} (S : DrawSpec self deep) (p : Pool) (names bare taken roles : List Int) (turn : Int) (h1 : names.length + (deep + 1) ≤ 20) (h3 : taken.length + (deep + 1) ≤ 20) (h4 : roles.Nodup) (h5 : roles.length ≤ 4) (h6 : 2 ≤ roles.length) :
    Gives (b__law_draw_talk_2 self) (Ev p ((deep : Int) + 1) names bare taken roles turn) fun t => t.ok names bare taken roles ∧ t.ht ≤ deep + 2 := by
  obtain ⟨q, ds, pm, e⟩ := shuffled_ok p (roles.map .int) (by simp; omega)
  obtain ⟨ms, pm', rfl⟩ := perm_il pm
  obtain ⟨s, h, ms, rfl⟩ : ∃ s h ms', ms = s :: h :: ms' := by
    have := pm'.length_eq
    match ms, this with
    | [], z => simp at z; omega
    | [_], z => simp at z; omega
    | s :: h :: ms', _ => exact ⟨s, h, ms', rfl⟩
  have nd : (s :: h :: ms).Nodup := pm'.nodup_iff.mpr h4
  obtain ⟨q2, r2, a2, b2, e2⟩ := draw_ok q 6 (by decide)
  obtain ⟨m, hm, em⟩ := many6 r2 a2 b2
  obtain ⟨q3, ds3, pm3, e3⟩ := shuffled_ok q2 ([0, 1, 2, 3].map .int) (by simp)
  obtain ⟨ms3, pm3', rfl⟩ := perm_il pm3
  obtain ⟨ls, g1, g2, g3, g4, g5⟩ := letters4 ms3 pm3' m hm
  obtain ⟨q4, r, k1, k2, k3, k4⟩ := branches S q3 names bare taken roles turn (.val (.lst ((s :: h :: ms).map .int))) (.val (.int m)) ls (.val (.lst (ls.map .int))) h1 h3 h4 h5 h6 g2
  refine ⟨q4, .say s h r, ⟨⟨?_, ?_, ?_, ?_, ?_, ?_, ?_, k2⟩, by simp only [Talk.ht]; omega⟩, ?_⟩
  · exact pm'.mem_iff.mp (by simp)
  · exact pm'.mem_iff.mp (by simp)
  · simp at nd; exact nd.1.1
  · rw [k1]; exact g1
  · rw [k1]; exact g2
  · rw [k1]; exact g3
  · rw [k1]; exact g4
  · unfold b__law_draw_talk_2
    simp only [List.map_cons, List.map_nil] at e e3 k4
    have hz : r.enc.length ≤ 16777216 := by
      rw [Rows.enc_length, k1]; omega
    simp only [Es] at k4
    simp [e, e2, em, e3, g5, sz, wipeG, noOwn, wipeE, backE, Talk.enc, k4, hz]
theorem ok0 (k : Nat) : f__law_draw_talk (k + 1) = runF 6 14 (m__law_draw_talk (f__law_draw_talk k)) := rfl
theorem draw_talk_ok (deep : Nat) : ∀ k : Nat, deep < k → DrawSpec (f__law_draw_talk k) deep := by
  induction deep with
  | zero =>
    intro k hk p names bare taken roles h1 h2 h3 h4 h5 h6
    obtain ⟨k, rfl⟩ : ∃ j, k = j + 1 := ⟨k - 1, by omega⟩
    obtain ⟨q1, r1, a1, b1, e1⟩ := draw_ok p 16 (by decide)
    obtain ⟨q, t, rest, ⟨o1, o2⟩, e⟩ := (sub10 q1 0 names bare taken roles r1 (by omega)).is
    refine ⟨q, t, o1, by omega, ?_⟩
    rw [ok0, runF_eq (by rfl)]
    unfold m__law_draw_talk
    simp only [Ev] at e
    simp [envOf, slOf, e1, t__law_draw_talk_9, e, outsOf]
  | succ deep ih =>
    intro k hk p names bare taken roles h1 h2 h3 h4 h5 h6
    obtain ⟨k, rfl⟩ : ∃ j, k = j + 1 := ⟨k - 1, by omega⟩
    have S := ih k (by omega)
    obtain ⟨q1, r1, a1, b1, e1⟩ := draw_ok p 16 (by decide)
    rw [ok0, runF_eq (by rfl)]
    unfold m__law_draw_talk
    have hc : ((deep + 1 : Nat) : Int) = (deep : Int) + 1 := by omega
    have hd0 : ¬ ((deep : Int) + 1 = 0) := by omega
    have hr2 : ¬ ((roles.length : Int) < 2) := by omega
    by_cases t2 : r1 < 2
    · obtain ⟨q, t, rest, ⟨o1, o2⟩, e⟩ := (sub10 q1 ((deep : Int) + 1) names bare taken roles r1 (by omega)).is
      refine ⟨q, t, o1, by omega, ?_⟩
      simp only [Ev] at e
      simp [envOf, slOf, e1, t__law_draw_talk_9, e, outsOf, hd0, t2, hr2]
    · by_cases c7 : r1 < 4 ∧ taken.length < 3
      · obtain ⟨q, t, rest, ⟨o1, o2⟩, e⟩ := (sub7 S q1 names bare taken roles r1 h1 h2 h3 c7.2 h4 h5 h6).is
        refine ⟨q, t, o1, by omega, ?_⟩
        have c7b : ((taken.length : Nat) : Int) < 3 := by omega
        simp only [Ev] at e
        simp [envOf, slOf, e1, t__law_draw_talk_9, b__law_draw_talk_8, t__law_draw_talk_6, e, outsOf, hd0, t2, hr2, c7.1, c7b]
      · by_cases c4 : r1 = 4 ∧ roles.length = 4
        · obtain ⟨q, t, rest, ⟨o1, o2⟩, e⟩ := (sub4 S q1 names bare taken roles r1 (by omega) h3 h4 c4.2).is
          refine ⟨q, t, o1, by omega, ?_⟩
          obtain ⟨rfl, c4b⟩ := c4
          simp only [Ev] at e
          simp [envOf, slOf, e1, t__law_draw_talk_9, b__law_draw_talk_8, t__law_draw_talk_6, b__law_draw_talk_5, t__law_draw_talk_3, e, outsOf, hd0, hr2, c4b]
        · obtain ⟨q, t, rest, ⟨o1, o2⟩, e⟩ := (sub2 S q1 names bare taken roles r1 h1 h3 h4 h5 h6).is
          refine ⟨q, t, o1, by omega, ?_⟩
          simp only [Ev] at e
          have c7b : r1 < 4 → ¬ ((taken.length : Int) < 3) := fun z w => c7 ⟨z, by omega⟩
          have c4b : r1 = 4 → ¬ ((roles.length : Int) = 4) := fun z w => c4 ⟨z, by omega⟩
          by_cases d4 : r1 < 4
          · have := c7b d4
            have d5 : ¬ r1 = 4 := by omega
            simp [envOf, slOf, e1, t__law_draw_talk_9, b__law_draw_talk_8, t__law_draw_talk_6, b__law_draw_talk_5, t__law_draw_talk_3, e, outsOf, hd0, t2, hr2, d4, d5, this]
          · by_cases d5 : r1 = 4
            · subst d5
              have := c4b rfl
              simp [envOf, slOf, e1, t__law_draw_talk_9, b__law_draw_talk_8, t__law_draw_talk_6, b__law_draw_talk_5, t__law_draw_talk_3, e, outsOf, hd0, hr2, this]
            · simp [envOf, slOf, e1, t__law_draw_talk_9, b__law_draw_talk_8, t__law_draw_talk_6, b__law_draw_talk_5, t__law_draw_talk_3, e, outsOf, hd0, t2, hr2, d4, d5]
/-- a talk as it is drawn -/
def Drawn (t : Talk) : Prop := ∃ roles : List Int, (roles = [0, 1] ∨ roles = [0, 1, 2] ∨ roles = [0, 1, 2, 3]) ∧ t.ok [] [] [] roles ∧ t.ht ≤ 5
theorem talk_ok (p : Pool) : ∃ (q : Pool) (t : Talk), Drawn t ∧ f__law_talk [.io p.enc] = some (.val t.enc, [.io q.enc]) := by
  obtain ⟨q, x, hx, e⟩ := pick_ok p [il [0, 1], il [0, 1, 2], il [0, 1, 2], il [0, 1, 2, 3], il [0, 1, 2, 3]] (by simp) (by simp)
  have go : ∀ roles : List Int, x = il roles → (roles = [0, 1] ∨ roles = [0, 1, 2] ∨ roles = [0, 1, 2, 3]) → ∃ (q : Pool) (t : Talk), Drawn t ∧ f__law_talk [.io p.enc] = some (.val t.enc, [.io q.enc]) := by
    rintro roles rfl hr
    obtain ⟨q2, t, o1, o2, e2⟩ := draw_talk_ok 4 40 (by decide) q [] [] [] roles (by simp) (by simp) (by simp) (by rcases hr with rfl | rfl | rfl <;> decide) (by rcases hr with rfl | rfl | rfl <;> decide) (by rcases hr with rfl | rfl | rfl <;> decide)
    refine ⟨q2, t, ⟨roles, hr, o1, o2⟩, ?_⟩
    unfold f__law_talk
    rw [runF_eq (by rfl)]
    unfold m__law_talk
    simp only [il, List.map_cons, List.map_nil] at e e2
    have e2' : f__law_draw_talk 40 [.io q.enc, .val (.int 4), .val (.lst []), .val (.lst []), .val (.lst []), .val (.lst (roles.map .int))] = some (.val t.enc, [.io q2.enc, .val (.int 4), .val (.lst []), .val (.lst []), .val (.lst []), .val (.lst (roles.map .int))]) := e2
    simp [envOf, slOf, e, e2', sz]
  simp only [List.mem_cons, List.not_mem_nil, or_false] at hx
  rcases hx with h | h | h | h | h
  · exact go _ h (by simp)
  · exact go _ h (by simp)
  · exact go _ h (by simp)
  · exact go _ h (by simp)
  · exact go _ h (by simp)
end ET
set_option Elab.async false
set_option maxRecDepth 100000
/-! The laws' helpers, plain: inner, many, roles, ways_out. -/
namespace ET
open PySem L2
mutual
def Talk.many : Talk → Nat
  | .fin => 1
  | .again _ => 1
  | .loop _ b => b.many + 1
  | .beside a b => a.many + b.many + 1
  | .say _ _ r => r.many + 1
def Rows.many : Rows → Nat
  | .nil => 0
  | .cons _ t r => t.many + r.many
end
def Rows.talks : Rows → List Talk
  | .nil => []
  | .cons _ t r => t :: r.talks
def Talk.inner : Talk → List Talk
  | .fin => []
  | .again _ => []
  | .loop _ b => [b]
  | .beside a b => [a, b]
  | .say _ _ r => r.talks
theorem Rows.ht_mem : ∀ {r : Rows} {t : Talk}, t ∈ r.talks → t.ht ≤ r.ht
  | .nil, _, h => by simp [Rows.talks] at h
  | .cons _ u r, t, h => by
    simp only [Rows.talks, List.mem_cons] at h
    simp only [Rows.ht]
    rcases h with rfl | h
    · omega
    · have := Rows.ht_mem h; omega
theorem Talk.ht_inner {t u : Talk} (h : u ∈ t.inner) : u.ht < t.ht := by
  cases t with
  | fin => simp [Talk.inner] at h
  | again n => simp [Talk.inner] at h
  | loop n b => simp [Talk.inner] at h; subst h; simp only [Talk.ht]; omega
  | beside a b => simp [Talk.inner] at h; simp only [Talk.ht]; rcases h with rfl | rfl <;> omega
  | say s h' r => simp only [Talk.inner] at h; have := Rows.ht_mem h; simp only [Talk.ht]; omega
theorem Rows.many_sum : ∀ r : Rows, ((r.talks.map Talk.many).map fun n : Nat => (n : Int)).sum = r.many
  | .nil => rfl
  | .cons _ t r => by simp only [Rows.talks, List.map_cons, List.sum_cons, Rows.many_sum r, Rows.many]; omega
theorem Talk.many_sum (t : Talk) : ((t.inner.map Talk.many).map fun n : Nat => (n : Int)).sum + 1 = t.many := by
  cases t with
  | say s h r => simp only [Talk.inner, Rows.many_sum, Talk.many]; omega
  | _ => simp [Talk.inner, Talk.many]
/-- not so many inner ones -/
def Talk.thin (t : Talk) : Prop := t.inner.length ≤ 1000
theorem Rows.enc_map : ∀ r : Rows, ∃ ls : List Int, ls.length = r.talks.length ∧ r.enc = (ls.zip r.talks).map fun x => .tup [.int x.1, x.2.enc]
  | .nil => ⟨[], rfl, rfl⟩
  | .cons l t r => by
    obtain ⟨ls, h1, h2⟩ := Rows.enc_map r
    exact ⟨l :: ls, by simp [Rows.talks, h1], by simp [Rows.enc, Rows.talks, h2]⟩
theorem zip_map_snd {α β γ : Type} (f : β → γ) : ∀ {l : List α} {m : List β}, l.length = m.length → (l.zip m).filterMap (fun x => some (f x.2)) = m.map f
  | [], [], _ => rfl
  | [], _ :: _, h => by simp at h
  | _ :: _, [], h => by simp at h
  | a :: l, b :: m, h => by simp [zip_map_snd f (l := l) (m := m) (by simpa using h)]
@[simp] theorem fEq_ss (a b : Tag) : peq (.str a) (.str b) = decide (a = b) := peq_str a b
theorem inner_ok (t : Talk) (h : t.inner.length ≤ 1000) : f__law_inner [.val t.enc] = some (.own (.lst (t.inner.map Talk.enc)) false, [.val t.enc]) ∨ f__law_inner [.val t.enc] = some (.val (.lst (t.inner.map Talk.enc)), [.val t.enc]) := by
  unfold f__law_inner
  rw [runF_eq (by rfl)]
  unfold m__law_inner
  cases t with
  | fin => right; simp [envOf, slOf, Talk.enc, Talk.inner, t__law_inner_5, b__law_inner_4, t__law_inner_2, b__law_inner_1, sz]
  | again n => right; simp [envOf, slOf, Talk.enc, Talk.inner, t__law_inner_5, b__law_inner_4, t__law_inner_2, b__law_inner_1, sz]
  | loop n b => right; simp [envOf, slOf, Talk.enc, Talk.inner, t__law_inner_5, b__law_inner_4, t__law_inner_2, b__law_inner_1, sz]
  | beside a b => left; simp [envOf, slOf, Talk.enc, Talk.inner, t__law_inner_5, b__law_inner_4, t__law_inner_2, b__law_inner_3, sz]
  | say s h' r =>
    left
    obtain ⟨ls, h1, h2⟩ := Rows.enc_map r
    have c := compL_map (vs := [1, 2]) (g := gTp (gsCons (gN 1) (gsCons (gN 2) gsNil))) (c := tYesD) (e := dV 2) (ρ := [some (.val (Talk.say s h' r).enc), none, none]) (enc := fun x : Int × Talk => .tup [.int x.1, x.2.enc]) (fun x => some x.2.enc) (ls.zip r.talks) fun y _ => by
      unfold turnC
      simp [wipeG, noOwn, wipeE]
    rw [zip_map_snd Talk.enc h1, ← h2] at c
    have hz : r.talks.length ≤ 16777216 := by simp only [Talk.inner] at h; omega
    simp only [Talk.enc] at c
    simp [envOf, slOf, Talk.enc, Talk.inner, t__law_inner_5, b__law_inner_6, sz, wipeG, noOwn, wipeE, backE, c, hz]
def In4 (l : List Int) : Prop := ∀ x ∈ l, 0 ≤ x ∧ x < 4
mutual
/-- few branches everywhere -/
def Talk.slim : Talk → Prop
  | .fin => True
  | .again n => 0 ≤ n ∧ n < 4
  | .loop n b => (0 ≤ n ∧ n < 4) ∧ b.slim
  | .beside a b => a.slim ∧ b.slim
  | .say s h r => (0 ≤ s ∧ s < 4 ∧ 0 ≤ h ∧ h < 4 ∧ s ≠ h) ∧ (r.letters.length ≤ 4 ∧ r.letters.Pairwise (· < ·) ∧ In4 r.letters ∧ r.letters ≠ []) ∧ r.slim
def Rows.slim : Rows → Prop
  | .nil => True
  | .cons _ t r => t.slim ∧ r.slim
end
mutual
theorem Talk.ok_slim : ∀ (t : Talk) (a b c d : List Int), In4 a → In4 d → t.ok a b c d → t.slim
  | .fin, _, _, _, _, _, _, _ => trivial
  | .again n, _, _, _, _, g, _, h => g n h.1
  | .loop n t, a, _, _, _, g, m, h => ⟨⟨h.2.1, h.2.2.1⟩, t.ok_slim _ _ _ _ (fun x hx => (List.mem_append.mp hx).elim (g x) fun y => by simp at y; subst y; exact ⟨h.2.1, h.2.2.1⟩) m h.2.2.2⟩
  | .beside t u, _, _, _, d, g, m, h => by
    obtain ⟨r1, r2, p, _, _, h1, h2⟩ := h
    exact ⟨t.ok_slim _ _ _ _ (fun x hx => by simp at hx) (fun x hx => m x (p.mem_iff.mp (List.mem_append_left _ hx))) h1, u.ok_slim _ _ _ _ (fun x hx => by simp at hx) (fun x hx => m x (p.mem_iff.mp (List.mem_append_right _ hx))) h2⟩
  | .say s h r, _, _, _, _, g', m, g => by
    obtain ⟨q1, q2, q3, g0, g1, g3, g4, g2⟩ := g
    exact ⟨⟨(m s q1).1, (m s q1).2, (m h q2).1, (m h q2).2, q3⟩, ⟨by omega, g3, g4, g0⟩, r.ok_slim _ _ _ g' m g2⟩
theorem Rows.ok_slim : ∀ (r : Rows) (a b c : List Int), In4 a → In4 c → r.ok a b c → r.slim
  | .nil, _, _, _, _, _, _ => trivial
  | .cons _ t r, _, _, _, g, m, h => ⟨t.ok_slim _ _ _ _ g m h.1, r.ok_slim _ _ _ g m h.2⟩
end
theorem Rows.slim_mem : ∀ {r : Rows} {t : Talk}, r.slim → t ∈ r.talks → t.slim
  | .nil, _, _, h => by simp [Rows.talks] at h
  | .cons _ u r, t, s, h => by
    simp only [Rows.talks, List.mem_cons] at h
    rcases h with rfl | h
    · exact s.1
    · exact Rows.slim_mem s.2 h
theorem Rows.talks_length : ∀ r : Rows, r.talks.length = r.letters.length
  | .nil => rfl
  | .cons _ t r => by simp only [Rows.talks, Rows.letters, List.length_cons, Rows.talks_length r]
theorem Talk.slim_inner {t u : Talk} (s : t.slim) (h : u ∈ t.inner) : u.slim := by
  cases t with
  | fin => simp [Talk.inner] at h
  | again n => simp [Talk.inner] at h
  | loop n b => simp [Talk.inner] at h; subst h; exact s.2
  | beside a b => simp [Talk.inner] at h; rcases h with rfl | rfl; exact s.1; exact s.2
  | say s' h' r => simp only [Talk.inner] at h; exact Rows.slim_mem s.2.2 h
theorem Talk.slim_len {t : Talk} (s : t.slim) : t.inner.length ≤ 4 := by
  cases t with
  | fin => simp [Talk.inner]
  | again n => simp [Talk.inner]
  | loop n b => simp [Talk.inner]
  | beside a b => simp [Talk.inner]
  | say s' h' r => simp only [Talk.inner, Rows.talks_length]; exact s.2.1.1
/-- the inner talks, read as a list -/
theorem inner_frz {a : DE} {ρ ρ' : Env} {t : Talk} (s : t.slim) (h : a ρ = some (t.enc, ρ')) : dFrz (callS f__law_inner [.val a]) ρ = some (.lst (t.inner.map Talk.enc), ρ') := by
  have hl := Talk.slim_len s
  rcases inner_ok t (by omega) with e | e
  · simp [h, e]
  · simp [h, e]
theorem fSum_ints (ns : List Int) : fSum (.lst (ns.map .int)) = some (.int ns.sum) := by
  unfold fSum lstOf
  rw [Option.bind_some, intsOf_map]
  rfl
theorem filterMap_some {α β : Type} (f : α → β) (l : List α) : l.filterMap (fun x => some (f x)) = l.map f := by
  induction l with
  | nil => rfl
  | cons a l ih => simp [ih]
theorem many_ok (k : Nat) : ∀ t : Talk, t.ht ≤ k → t.slim → f__law_many k [.val t.enc] = some (.val (.int t.many), [.val t.enc]) := by
  induction k with
  | zero => intro t h _; cases t <;> simp [Talk.ht] at h
  | succ k ih =>
    intro t h s
    have hl := Talk.slim_len s
    show runF 1 2 (m__law_many (f__law_many k)) _ = _
    rw [runF_eq (by rfl)]
    unfold m__law_many
    have c := compL_map (vs := [1]) (g := gN 1) (c := tYesD) (e := dFrz (callS (f__law_many k) [.val (dV 1)])) (ρ := [some (.val t.enc), none]) (enc := Talk.enc) (fun u => some (.int u.many)) t.inner fun u hu => by
      have e := ih u (by have := Talk.ht_inner hu; omega) (Talk.slim_inner s hu)
      unfold turnC
      simp [e, wipeG, noOwn, wipeE]
    rw [filterMap_some] at c
    have hz : t.inner.length ≤ 16777216 := by omega
    have e2 := fSum_ints ((t.inner.map Talk.many).map fun n : Nat => (n : Int))
    have e3 := t.many_sum
    simp only [List.map_map, Function.comp_def] at e2 e3
    rcases inner_ok t (by omega) with e1 | e1
    · simp [envOf, slOf, e1, wipeG, noOwn, wipeE, backE, hz, sz, c, e2]
      rw [← e3, Int.add_comm]
    · simp [envOf, slOf, e1, wipeG, noOwn, wipeE, backE, hz, sz, c, e2]
      rw [← e3, Int.add_comm]
mutual
/-- who speaks and hears -/
def Talk.rol : Talk → List Int
  | .fin => []
  | .again _ => []
  | .loop _ b => canon b.rol
  | .beside a b => canon (a.rol ++ b.rol)
  | .say s h r => canon (s :: h :: r.rol)
def Rows.rol : Rows → List Int
  | .nil => []
  | .cons _ t r => t.rol ++ r.rol
end
theorem asc4 : ∀ {l : List Int}, l.Pairwise (· < ·) → In4 l → l.length ≤ 4
  | [], _, _ => by simp
  | [_], _, _ => by simp
  | [_, _], _, _ => by simp
  | [_, _, _], _, _ => by simp
  | [_, _, _, _], _, _ => by simp
  | a :: b :: c :: d :: e :: l, h, m => by
    simp only [List.pairwise_cons, List.mem_cons] at h
    have ha := m a (by simp)
    have he := m e (by simp)
    have h1 := h.1 b (by simp)
    have h2 := h.2.1 c (by simp)
    have h3 := h.2.2.1 d (by simp)
    have h4 := h.2.2.2.1 e (by simp)
    omega
theorem in4_canon {l : List Int} (h : In4 l) : In4 (canon l) := fun x hx => h x (mem_canon.mp hx)
theorem len_canon {l : List Int} (h : In4 l) : (canon l).length ≤ 4 := asc4 (canon_lt l) (in4_canon h)
theorem canon_nil : canon [] = [] := by
  cases h : canon [] with
  | nil => rfl
  | cons a l =>
    have : a ∈ canon [] := by rw [h]; simp
    rw [mem_canon] at this
    simp at this
mutual
theorem Talk.rol_ok : ∀ t : Talk, t.slim → In4 t.rol ∧ t.rol.length ≤ 4
  | .fin, _ => ⟨fun x h => by simp [Talk.rol] at h, by simp [Talk.rol]⟩
  | .again _, _ => ⟨fun x h => by simp [Talk.rol] at h, by simp [Talk.rol]⟩
  | .loop _ b, s => by
    have := b.rol_ok s.2
    exact ⟨in4_canon this.1, len_canon this.1⟩
  | .beside a b, s => by
    have h1 := a.rol_ok s.1
    have h2 := b.rol_ok s.2
    have : In4 (a.rol ++ b.rol) := fun x hx => (List.mem_append.mp hx).elim (h1.1 x) (h2.1 x)
    exact ⟨in4_canon this, len_canon this⟩
  | .say s' h' r, s => by
    have h2 := r.rol_ok s.2.2
    have : In4 (s' :: h' :: r.rol) := fun x hx => by
      simp only [List.mem_cons] at hx
      rcases hx with rfl | rfl | hx
      · exact ⟨s.1.1, s.1.2.1⟩
      · exact ⟨s.1.2.2.1, s.1.2.2.2.1⟩
      · exact h2.1 x hx
    exact ⟨in4_canon this, len_canon this⟩
theorem Rows.rol_ok : ∀ r : Rows, r.slim → In4 r.rol ∧ r.rol.length ≤ 4 * r.letters.length
  | .nil, _ => ⟨fun x h => by simp [Rows.rol] at h, by simp [Rows.rol]⟩
  | .cons _ t r, s => by
    have h1 := t.rol_ok s.1
    have h2 := r.rol_ok s.2
    refine ⟨fun x hx => ?_, ?_⟩
    · simp only [Rows.rol] at hx
      exact (List.mem_append.mp hx).elim (h1.1 x) (h2.1 x)
    · simp only [Rows.rol, Rows.letters, List.length_append, List.length_cons]
      omega
end
theorem fSortSet_ints {ns : List Int} (h : In4 ns) (hl : ns.length ≤ 1000) : fSortSet (.lst (ns.map .int)) = some ((canon ns).map .int) := by
  unfold fSortSet lstOf
  rw [Option.bind_some, intsOf_map, Option.bind_some, if_pos ⟨hl, by have := len_canon h; omega⟩]
/-- the roles of what is inside, in order -/
def Talk.irol (t : Talk) : List Int := (t.inner.map Talk.rol).flatten
def Talk.brol : Talk → List Int
  | .say s h _ => [s, h]
  | _ => []
theorem Rows.irol : ∀ r : Rows, (r.talks.map Talk.rol).flatten = r.rol
  | .nil => rfl
  | .cons _ t r => by simp only [Rows.talks, List.map_cons, List.flatten_cons, Rows.irol r, Rows.rol]
theorem Talk.rol_eq (t : Talk) : t.rol = canon (t.brol ++ t.irol) := by
  cases t with
  | fin => simp [Talk.rol, Talk.brol, Talk.irol, Talk.inner, canon_nil]
  | again n => simp [Talk.rol, Talk.brol, Talk.irol, Talk.inner, canon_nil]
  | loop n b => simp [Talk.rol, Talk.brol, Talk.irol, Talk.inner]
  | beside a b => simp [Talk.rol, Talk.brol, Talk.irol, Talk.inner]
  | say s h r => simp only [Talk.rol, Talk.brol, Talk.irol, Talk.inner, Rows.irol]; rfl
theorem Talk.brol_ok {t : Talk} (s : t.slim) : In4 t.brol ∧ t.brol.length ≤ 2 := by
  cases t with
  | say s' h r => exact ⟨fun x hx => by
      simp only [Talk.brol, List.mem_cons, List.not_mem_nil, or_false] at hx
      rcases hx with rfl | rfl
      · exact ⟨s.1.1, s.1.2.1⟩
      · exact ⟨s.1.2.2.1, s.1.2.2.2.1⟩, by simp [Talk.brol]⟩
  | _ => exact ⟨fun x hx => by simp [Talk.brol] at hx, by simp [Talk.brol]⟩
theorem flat_ok : ∀ (us : List Talk), (∀ u ∈ us, u.slim) → In4 (us.map Talk.rol).flatten ∧ (us.map Talk.rol).flatten.length ≤ 4 * us.length
  | [], _ => ⟨fun x h => by simp at h, by simp⟩
  | u :: us, h => by
    have h1 := u.rol_ok (h u List.mem_cons_self)
    have h2 := flat_ok us fun v hv => h v (List.mem_cons_of_mem _ hv)
    refine ⟨fun x hx => ?_, ?_⟩
    · simp only [List.map_cons, List.flatten_cons] at hx
      exact (List.mem_append.mp hx).elim (h1.1 x) (h2.1 x)
    · simp only [List.map_cons, List.flatten_cons, List.length_append, List.length_cons]
      omega
def Talk.acc (t : Talk) (us : List Talk) : List Int := t.brol ++ (us.map Talk.rol).flatten
theorem Talk.acc_snoc (t : Talk) (us : List Talk) (u : Talk) : t.acc (us ++ [u]) = t.acc us ++ u.rol := by simp [Talk.acc]
theorem roles_ok (k : Nat) : ∀ t : Talk, t.ht ≤ k → t.slim → f__law_roles k [.val t.enc] = some (.own (.lst (t.rol.map .int)) false, [.val t.enc]) := by
  induction k with
  | zero => intro t h _; cases t <;> simp [Talk.ht] at h
  | succ k ih =>
    intro t h s
    have hl := Talk.slim_len s
    have hb := Talk.brol_ok s
    show runF 1 3 (m__law_roles (f__law_roles k)) _ = _
    rw [runF_eq (by rfl)]
    unfold m__law_roles
    obtain ⟨ρ', e, y, x, hy, hx, rfl⟩ := forL_map (g := gN 2) (b := b__law_roles_1 (f__law_roles k)) (enc := Talk.enc)
      (fun us ρ => ∃ y x : Option Sl, SlotL y ((t.acc us).map .int) ∧ Free x ∧ ρ = [some (.val t.enc), y, x])
      t.inner [some (.val t.enc), some (.val (il t.brol)), none] ⟨_, none, .inl (by simp [Talk.acc]), free_n, rfl⟩ (by
        rintro done u rest ρ hi ⟨y, x, hy, hx, rfl⟩
        have hu : u ∈ t.inner := by rw [hi]; simp
        have e := ih u (by have := Talk.ht_inner hu; omega) (Talk.slim_inner s hu)
        have hd := flat_ok done fun v hv => Talk.slim_inner s (by rw [hi]; simp [hv])
        have hn : done.length ≤ 4 := by have := congrArg List.length hi; simp at this; omega
        have hr := u.rol_ok (Talk.slim_inner s hu)
        refine ⟨[some (.val t.enc), some (.own (.lst ((t.acc done ++ u.rol).map .int)) false), some (.val u.enc)], ?_, _, _, .inr (by rw [Talk.acc_snoc]), free_v _, rfl⟩
        unfold turnS b__law_roles_1
        have hz : (t.acc done).length + u.rol.length ≤ 16777216 := by
          unfold Talk.acc
          rw [List.length_append]
          omega
        simp [setS_free hx, hy.ev, hy.fin, setS_free hy.free, e, sz, hz])
    have hd := flat_ok t.inner fun v hv => Talk.slim_inner s hv
    have fs := fSortSet_ints (ns := t.brol ++ (t.inner.map Talk.rol).flatten) (fun z hz => (List.mem_append.mp hz).elim (hb.1 z) (hd.1 z)) (by simp only [List.length_append]; omega)
    have er : canon (t.acc t.inner) = t.rol := t.rol_eq.symm
    change fSortSet (.lst ((t.acc t.inner).map .int)) = some ((canon (t.acc t.inner)).map .int) at fs
    rw [er] at fs
    have hbr : (dIf (tOf (d2 fEq (.e (d2 fIx (.o 0) (.e (dC (.int 0))))) (.e (dC (.str .say))))) (dFrz (sLst (dCons (d2 fIx (.o 0) (.e (dC (.int 1)))) (dCons (d2 fIx (.o 0) (.e (dC (.int 2)))) dNil)))) (dFrz (sLst dNil))) [some (.val t.enc), none, none] = some (il t.brol, [some (.val t.enc), none, none]) := by
      cases t <;> simp [Talk.enc, Talk.brol, sz]
    rcases inner_ok t (by omega) with e1 | e1
    · simp [-dIf_d, envOf, slOf, hbr, e1, e, hy.ev, hy.fin, fs]
    · simp [-dIf_d, envOf, slOf, hbr, e1, e, hy.ev, hy.fin, fs]
end ET
set_option Elab.async false
set_option maxRecDepth 100000
/-! The laws' helpers, plain: ways_out. -/
namespace ET
open PySem L2
def In5 (l : List Int) : Prop := ∀ x ∈ l, -1 ≤ x ∧ x < 4
theorem asc5 : ∀ {l : List Int}, l.Pairwise (· < ·) → In5 l → l.length ≤ 5
  | [], _, _ => by simp
  | [_], _, _ => by simp
  | [_, _], _, _ => by simp
  | [_, _, _], _, _ => by simp
  | [_, _, _, _], _, _ => by simp
  | [_, _, _, _, _], _, _ => by simp
  | a :: b :: c :: d :: e :: f :: l, h, m => by
    simp only [List.pairwise_cons, List.mem_cons] at h
    have ha := m a (by simp)
    have he := m f (by simp)
    have h1 := h.1 b (by simp)
    have h2 := h.2.1 c (by simp)
    have h3 := h.2.2.1 d (by simp)
    have h4 := h.2.2.2.1 e (by simp)
    have h5 := h.2.2.2.2.1 f (by simp)
    omega
theorem in5_canon {l : List Int} (h : In5 l) : In5 (canon l) := fun x hx => h x (mem_canon.mp hx)
theorem len5_canon {l : List Int} (h : In5 l) : (canon l).length ≤ 5 := asc5 (canon_lt l) (in5_canon h)
theorem fSortSet_ints5 {ns : List Int} (h : In5 ns) (hl : ns.length ≤ 1000) : fSortSet (.lst (ns.map .int)) = some ((canon ns).map .int) := by
  unfold fSortSet lstOf
  rw [Option.bind_some, intsOf_map, Option.bind_some, if_pos ⟨hl, by have := len5_canon h; omega⟩]
mutual
/-- how a talk may be left -/
def Talk.ways : Talk → List Int
  | .fin => canon [-1]
  | .again n => [n]
  | .loop n b => b.ways.filter fun x => decide (x ≠ n)
  | .beside _ _ => canon [-1]
  | .say _ _ r => canon r.ways
def Rows.ways : Rows → List Int
  | .nil => []
  | .cons _ t r => t.ways ++ r.ways
end
theorem canon_in5 : In5 (canon [-1]) := in5_canon fun x hx => by simp at hx; omega
mutual
theorem Talk.ways_ok : ∀ t : Talk, t.slim → In5 t.ways ∧ t.ways.length ≤ 5
  | .fin, _ => ⟨canon_in5, len5_canon fun x hx => by simp at hx; omega⟩
  | .again n, s => ⟨fun x hx => by simp [Talk.ways] at hx; subst hx; exact ⟨by have := s.1; omega, s.2⟩, by simp [Talk.ways]⟩
  | .loop n b, s => by
    have := b.ways_ok s.2
    exact ⟨fun x hx => this.1 x (List.mem_filter.mp hx).1, Nat.le_trans (List.length_filter_le _ _) this.2⟩
  | .beside _ _, _ => ⟨canon_in5, len5_canon fun x hx => by simp at hx; omega⟩
  | .say s' h' r, s => by
    have h2 := r.ways_ok s.2.2
    exact ⟨in5_canon h2.1, len5_canon h2.1⟩
theorem Rows.ways_ok : ∀ r : Rows, r.slim → In5 r.ways ∧ r.ways.length ≤ 5 * r.letters.length
  | .nil, _ => ⟨fun x h => by simp [Rows.ways] at h, by simp [Rows.ways]⟩
  | .cons _ t r, s => by
    have h1 := t.ways_ok s.1
    have h2 := r.ways_ok s.2
    refine ⟨fun x hx => ?_, ?_⟩
    · simp only [Rows.ways] at hx
      exact (List.mem_append.mp hx).elim (h1.1 x) (h2.1 x)
    · simp only [Rows.ways, Rows.letters, List.length_append, List.length_cons]
      omega
end
def Rows.list : Rows → List (Int × Talk)
  | .nil => []
  | .cons l t r => (l, t) :: r.list
def encRow (x : Int × Talk) : D := .tup [.int x.1, x.2.enc]
theorem Rows.enc_list : ∀ r : Rows, r.enc = r.list.map encRow
  | .nil => rfl
  | .cons l t r => by simp only [Rows.enc, Rows.list, List.map_cons, Rows.enc_list r, encRow]
theorem Rows.list_talks : ∀ r : Rows, r.list.map (·.2) = r.talks
  | .nil => rfl
  | .cons l t r => by simp only [Rows.list, Rows.talks, List.map_cons, Rows.list_talks r]
theorem Rows.list_letters : ∀ r : Rows, r.list.map (·.1) = r.letters
  | .nil => rfl
  | .cons l t r => by simp only [Rows.list, Rows.letters, List.map_cons, Rows.list_letters r]
theorem Rows.list_mem {r : Rows} {x : Int × Talk} (h : x ∈ r.list) : x.2 ∈ r.talks := by
  rw [← Rows.list_talks]; exact List.mem_map_of_mem h
def wacc (us : List (Int × Talk)) : List Int := (us.map fun x => x.2.ways).flatten
theorem wacc_snoc (us : List (Int × Talk)) (u : Int × Talk) : wacc (us ++ [u]) = wacc us ++ u.2.ways := by simp [wacc]
theorem wacc_list : ∀ r : Rows, wacc r.list = r.ways
  | .nil => rfl
  | .cons l t r => by
    have := wacc_list r
    unfold wacc at this ⊢
    simp only [Rows.list, List.map_cons, List.flatten_cons, this, Rows.ways]
theorem wacc_len : ∀ (us : List (Int × Talk)), (∀ u ∈ us, u.2.slim) → (wacc us).length ≤ 5 * us.length
  | [], _ => by simp [wacc]
  | u :: us, h => by
    have h1 := u.2.ways_ok (h u List.mem_cons_self)
    have h2 := wacc_len us fun v hv => h v (List.mem_cons_of_mem _ hv)
    unfold wacc at h2 ⊢
    simp only [List.map_cons, List.flatten_cons, List.length_append, List.length_cons]
    omega
/-- a result that is a list -/
def ResL (r : Option (Sl × List Arg)) (ds : List D) (xs : List Arg) : Prop := r = some (.val (.lst ds), xs) ∨ r = some (.own (.lst ds) false, xs)
theorem ways_fun (k : Nat) : ∀ t : Talk, t.ht ≤ k → t.slim → ResL (f__law_ways_out k [.val t.enc]) (t.ways.map .int) [.val t.enc] := by
  induction k with
  | zero => intro t h _; cases t <;> simp [Talk.ht] at h
  | succ k ih =>
    intro t h s
    show ResL (runF 1 5 (m__law_ways_out (f__law_ways_out k)) _) _ _
    rw [runF_eq (by rfl)]
    unfold m__law_ways_out
    have fm := fSortSet_ints5 (ns := [-1]) (fun x hx => by simp at hx; omega) (by simp)
    simp only [List.map_cons, List.map_nil] at fm
    cases t with
    | fin => right; simp [envOf, slOf, Talk.enc, t__law_ways_out_7, b__law_ways_out_6, t__law_ways_out_4, b__law_ways_out_2, sz, forL_nil, fm, Talk.ways]
    | beside a b => right; simp [envOf, slOf, Talk.enc, t__law_ways_out_7, b__law_ways_out_6, t__law_ways_out_4, b__law_ways_out_2, sz, forL_nil, fm, Talk.ways]
    | again n => right; simp [envOf, slOf, Talk.enc, t__law_ways_out_7, b__law_ways_out_8, sz, Talk.ways]
    | loop n b =>
      right
      simp only [Talk.ht] at h
      have e := ih b (by omega) s.2
      have c := compL_map (vs := [4]) (g := gN 4) (c := t__law_ways_out_3) (e := dV 4) (ρ := [some (.val (Talk.loop n b).enc), none, none, none, none]) (enc := D.int) (fun x => if x ≠ n then some (.int x) else none) b.ways fun x _ => by
        unfold turnC t__law_ways_out_3
        by_cases hx : x = n
        · simp [Talk.enc, hx, wipeG, noOwn, wipeE]
        · simp [Talk.enc, hx, wipeG, noOwn, wipeE]
      rw [filterMap_if (fun x => x ≠ n)] at c
      have hw := b.ways_ok s.2
      have hz : (b.ways.filter fun x => decide (x ≠ n)).length ≤ 16777216 := by have := List.length_filter_le (fun x => decide (x ≠ n)) b.ways; omega
      simp only [Talk.ways]
      generalize (b.ways.filter fun x => decide (x ≠ n)) = fw at *
      simp only [Talk.enc] at c
      rcases e with e | e
      · simp [envOf, slOf, Talk.enc, t__law_ways_out_7, b__law_ways_out_6, t__law_ways_out_4, b__law_ways_out_5, sz, e, wipeG, noOwn, wipeE, backE, c, hz]
      · simp [envOf, slOf, Talk.enc, t__law_ways_out_7, b__law_ways_out_6, t__law_ways_out_4, b__law_ways_out_5, sz, e, wipeG, noOwn, wipeE, backE, c, hz]
    | say s' h' r =>
      right
      simp only [Talk.ht] at h
      obtain ⟨ρ', e, y, x2, x3, hy, hx2, hx3, rfl⟩ := forL_map (g := gTp (gsCons (gN 2) (gsCons (gN 3) gsNil))) (b := b__law_ways_out_1 (f__law_ways_out k)) (enc := encRow)
        (fun us ρ => ∃ y x2 x3 : Option Sl, SlotL y ((wacc us).map .int) ∧ Free x2 ∧ Free x3 ∧ ρ = [some (.val (Talk.say s' h' r).enc), y, x2, x3, none])
        r.list [some (.val (Talk.say s' h' r).enc), some (.val (il [])), none, none, none] ⟨_, none, none, .inl (by simp [wacc]), free_n, free_n, rfl⟩ (by
          rintro done u rest ρ hi ⟨y, x2, x3, hy, hx2, hx3, rfl⟩
          have hu : u ∈ r.list := by rw [hi]; simp
          have hus : u.2.slim := Rows.slim_mem s.2.2 (Rows.list_mem hu)
          have e := ih u.2 (by have := Rows.ht_mem (Rows.list_mem hu); omega) hus
          have hd := wacc_len done fun v hv => Rows.slim_mem s.2.2 (Rows.list_mem (by rw [hi]; simp [hv]))
          have hn : done.length ≤ 4 := by
            have := congrArg List.length hi
            have h4 := s.2.1.1
            rw [← Rows.list_letters, List.length_map] at h4
            simp at this
            omega
          have hw := u.2.ways_ok hus
          refine ⟨[some (.val (Talk.say s' h' r).enc), some (.own (.lst ((wacc done ++ u.2.ways).map .int)) false), some (.val (.int u.1)), some (.val u.2.enc), none], ?_, _, _, _, .inr (by rw [wacc_snoc]), free_v _, free_v _, rfl⟩
          unfold turnS b__law_ways_out_1 encRow
          have hz : (wacc done).length + u.2.ways.length ≤ 16777216 := by omega
          rcases e with e | e
          · simp [setS_free hx2, setS_free hx3, hy.ev, hy.fin, setS_free hy.free, e, sz, hz]
          · simp [setS_free hx2, setS_free hx3, hy.ev, hy.fin, setS_free hy.free, e, sz, hz])
      rw [wacc_list] at hy
      have hw := r.ways_ok s.2.2
      have fs := fSortSet_ints5 (ns := r.ways) hw.1 (by have := s.2.1.1; omega)
      simp only [Talk.enc, Rows.enc_list, il, List.map_nil] at e
      simp [envOf, slOf, Talk.enc, Rows.enc_list, t__law_ways_out_7, b__law_ways_out_6, t__law_ways_out_4, b__law_ways_out_2, sz, e, hy.ev, hy.fin, fs, Talk.ways]
end ET
set_option Elab.async false
set_option maxRecDepth 100000
/-! The laws' helpers, plain: parts; part_inner, goes. -/
namespace ET
open PySem L2
mutual
inductive Part where
  | fin
  | again (n : Int)
  | loop (n : Int) (b : Part)
  | act (snd : Bool) (o : Int) (r : PRows)
  deriving DecidableEq
inductive PRows where
  | nil
  | cons (l : Int) (t : Part) (r : PRows)
  deriving DecidableEq
end
def wd (b : Bool) : Tag := if b = true then .send else .hear
mutual
def Part.enc : Part → D
  | .fin => .tup [.str .«end»]
  | .again n => .tup [.str .again, .int n]
  | .loop n b => .tup [.str .loop, .int n, b.enc]
  | .act w o r => .tup [.str (wd w), .int o, .tup r.enc]
def PRows.enc : PRows → List D
  | .nil => []
  | .cons l t r => .tup [.int l, t.enc] :: r.enc
end
mutual
def Part.ht : Part → Nat
  | .fin => 1
  | .again _ => 1
  | .loop _ b => b.ht + 1
  | .act _ _ r => r.ht + 1
def PRows.ht : PRows → Nat
  | .nil => 0
  | .cons _ t r => max t.ht r.ht
end
def PRows.list : PRows → List (Int × Part)
  | .nil => []
  | .cons l t r => (l, t) :: r.list
def PRows.letters : PRows → List Int
  | .nil => []
  | .cons l _ r => l :: r.letters
mutual
/-- few branches, letters that rise, roles that are -/
def Part.slim : Part → Prop
  | .fin => True
  | .again _ => True
  | .loop _ b => b.slim
  | .act _ o r => (0 ≤ o ∧ o < 4) ∧ r.letters.Pairwise (· < ·) ∧ In4 r.letters ∧ r.slim
def PRows.slim : PRows → Prop
  | .nil => True
  | .cons _ t r => t.slim ∧ r.slim
end
def encP (x : Int × Part) : D := .tup [.int x.1, x.2.enc]
theorem PRows.enc_list : ∀ r : PRows, r.enc = r.list.map encP
  | .nil => rfl
  | .cons l t r => by simp only [PRows.enc, PRows.list, List.map_cons, PRows.enc_list r, encP]
theorem PRows.list_letters : ∀ r : PRows, r.list.map (·.1) = r.letters
  | .nil => rfl
  | .cons l t r => by simp only [PRows.list, PRows.letters, List.map_cons, PRows.list_letters r]
theorem PRows.ht_mem : ∀ {r : PRows} {x : Int × Part}, x ∈ r.list → x.2.ht ≤ r.ht
  | .nil, _, h => by simp [PRows.list] at h
  | .cons l u r, x, h => by
    simp only [PRows.list, List.mem_cons] at h
    simp only [PRows.ht]
    rcases h with rfl | h
    · dsimp only; omega
    · have := PRows.ht_mem h; omega
theorem PRows.slim_mem : ∀ {r : PRows} {x : Int × Part}, r.slim → x ∈ r.list → x.2.slim
  | .nil, _, _, h => by simp [PRows.list] at h
  | .cons l u r, x, s, h => by
    simp only [PRows.list, List.mem_cons] at h
    rcases h with rfl | h
    · exact s.1
    · exact PRows.slim_mem s.2 h
theorem PRows.len4 {r : PRows} (h : r.letters.Pairwise (· < ·)) (m : In4 r.letters) : r.list.length ≤ 4 := by
  rw [← List.length_map (f := (·.1)), PRows.list_letters]
  exact asc4 h m
def Part.inner : Part → List Part
  | .fin => []
  | .again _ => []
  | .loop _ b => [b]
  | .act _ _ r => r.list.map (·.2)
theorem Part.ht_inner {t u : Part} (h : u ∈ t.inner) : u.ht < t.ht := by
  cases t with
  | fin => simp [Part.inner] at h
  | again n => simp [Part.inner] at h
  | loop n b => simp [Part.inner] at h; subst h; simp only [Part.ht]; omega
  | act w o r =>
    simp only [Part.inner] at h
    obtain ⟨x, hx, rfl⟩ := List.mem_map.mp h
    have := PRows.ht_mem hx
    simp only [Part.ht]; omega
theorem Part.slim_inner {t u : Part} (s : t.slim) (h : u ∈ t.inner) : u.slim := by
  cases t with
  | fin => simp [Part.inner] at h
  | again n => simp [Part.inner] at h
  | loop n b => simp [Part.inner] at h; subst h; exact s
  | act w o r =>
    simp only [Part.inner] at h
    obtain ⟨x, hx, rfl⟩ := List.mem_map.mp h
    exact PRows.slim_mem s.2.2.2 hx
theorem Part.slim_len {t : Part} (s : t.slim) : t.inner.length ≤ 4 := by
  cases t with
  | act w o r => simp only [Part.inner, List.length_map]; exact PRows.len4 s.2.1 s.2.2.1
  | _ => simp [Part.inner]
theorem fIn_tags (a b c : Tag) : fIn false (.str a) (.tup [.str b, .str c]) = some (.bl (decide (a = b) || decide (a = c))) := by
  rw [fIn_t (.inl (by simp))]
  simp [eq_comm]
theorem part_inner_fun (t : Part) (h : t.inner.length ≤ 1000) : ResL (f__law_part_inner [.val t.enc]) (t.inner.map Part.enc) [.val t.enc] := by
  unfold f__law_part_inner
  rw [runF_eq (by rfl)]
  unfold m__law_part_inner
  cases t with
  | fin => left; simp [envOf, slOf, Part.enc, Part.inner, t__law_part_inner_2, b__law_part_inner_1, sz, fIn_tags]
  | again n => left; simp [envOf, slOf, Part.enc, Part.inner, t__law_part_inner_2, b__law_part_inner_1, sz, fIn_tags]
  | loop n b => left; simp [envOf, slOf, Part.enc, Part.inner, t__law_part_inner_2, b__law_part_inner_1, sz, fIn_tags]
  | act w o r =>
    right
    have c := compL_map (vs := [1, 2]) (g := gTp (gsCons (gN 1) (gsCons (gN 2) gsNil))) (c := tYesD) (e := dV 2) (ρ := [some (.val (Part.act w o r).enc), none, none]) (enc := encP) (fun x => some x.2.enc) r.list fun y _ => by
      unfold turnC encP
      simp [wipeG, noOwn, wipeE]
    rw [filterMap_some] at c
    have hz : r.list.length ≤ 16777216 := by simp only [Part.inner, List.length_map] at h; omega
    simp only [Part.enc, PRows.enc_list] at c
    have hw : (decide (wd w = .send) || decide (wd w = .hear)) = true := by cases w <;> rfl
    simp [envOf, slOf, Part.enc, PRows.enc_list, Part.inner, t__law_part_inner_2, b__law_part_inner_3, sz, fIn_tags, hw, wipeG, noOwn, wipeE, backE, c, hz]
mutual
/-- name goes on there -/
def Part.goes (n : Int) : Part → Bool
  | .fin => false
  | .again m => m == n
  | .loop m b => if m = n then false else b.goes n
  | .act _ _ r => r.goes n
def PRows.goes (n : Int) : PRows → Bool
  | .nil => false
  | .cons _ t r => t.goes n || r.goes n
end
theorem PRows.goes_any (n : Int) : ∀ r : PRows, r.goes n = (r.list.map (·.2)).any fun u => u.goes n
  | .nil => rfl
  | .cons l t r => by simp only [PRows.goes, PRows.list, List.map_cons, List.any_cons, PRows.goes_any n r]
theorem any_filter {α : Type} (p : α → Bool) (l : List α) : decide (0 < (l.filter fun x => decide (p x = true)).length) = l.any p := by
  rw [Bool.eq_iff_iff, decide_eq_true_eq, List.any_eq_true]
  constructor
  · intro h
    have h2 : 0 < (l.filter fun x => decide (p x = true)).length := by omega
    obtain ⟨x, hx⟩ := List.exists_mem_of_length_pos h2
    obtain ⟨a, b⟩ := List.mem_filter.mp hx
    exact ⟨x, a, by simpa using b⟩
  · rintro ⟨x, a, b⟩
    have : x ∈ l.filter fun x => decide (p x = true) := List.mem_filter.mpr ⟨a, by simpa using b⟩
    have := List.length_pos_of_mem this
    omega
theorem goes_fun (k : Nat) : ∀ (t : Part) (n : Int), t.ht ≤ k → t.slim → f__law_goes k [.val t.enc, .val (.int n)] = some (.val (.bl (t.goes n)), [.val t.enc, .val (.int n)]) := by
  induction k with
  | zero => intro t n h _; cases t <;> simp [Part.ht] at h
  | succ k ih =>
    intro t n h s
    have hl := Part.slim_len s
    show runF 2 3 (m__law_goes (f__law_goes k)) _ = _
    rw [runF_eq (by rfl)]
    unfold m__law_goes
    have c := compL_map (vs := [2]) (g := gN 2) (c := tOf (dFrz (callS (f__law_goes k) [.val (dV 2), .val (dV 1)]))) (e := dC (.int 1)) (ρ := [some (.val t.enc), some (.val (.int n)), none]) (enc := Part.enc) (fun u => if u.goes n = true then some (.int 1) else none) t.inner fun u hu => by
      have e := ih u n (by have := Part.ht_inner hu; omega) (Part.slim_inner s hu)
      unfold turnC
      by_cases hg : u.goes n = true
      · simp [e, hg, wipeG, noOwn, wipeE]
      · simp [e, hg, wipeG, noOwn, wipeE]
    rw [filterMap_if (fun u : Part => u.goes n = true) (fun _ => D.int 1)] at c
    have ha := any_filter (fun u : Part => u.goes n) t.inner
    have hz : (t.inner.filter fun u => decide (u.goes n = true)).length ≤ 16777216 := by have := List.length_filter_le (fun u => decide (u.goes n = true)) t.inner; omega
    generalize hfl : (t.inner.filter fun u => decide (u.goes n = true)) = fl at *
    cases t with
    | again m => simp [envOf, slOf, Part.enc, t__law_goes_4, b__law_goes_5, Part.goes]
    | fin =>
      have hp := part_inner_fun .fin (by simp [Part.inner])
      simp only [Part.inner, List.any_nil] at ha
      simp only [Part.enc] at c hp
      rcases hp with e1 | e1 <;> simp [envOf, slOf, Part.enc, t__law_goes_4, b__law_goes_3, t__law_goes_2, b__law_goes_1, Part.goes, e1, wipeG, noOwn, wipeE, backE, c, hz, sz, ha]
    | loop m b =>
      by_cases hm : m = n
      · simp [envOf, slOf, Part.enc, t__law_goes_4, b__law_goes_3, t__law_goes_2, Part.goes, hm]
      · have hp := part_inner_fun (.loop m b) (by simp [Part.inner])
        simp only [Part.inner, List.any_cons, List.any_nil, Bool.or_false] at ha
        simp only [Part.enc] at c hp
        rcases hp with e1 | e1 <;> simp [envOf, slOf, Part.enc, t__law_goes_4, b__law_goes_3, t__law_goes_2, b__law_goes_1, Part.goes, hm, e1, wipeG, noOwn, wipeE, backE, c, hz, sz, ha]
    | act w o r =>
      have hp := part_inner_fun (.act w o r) (by omega)
      simp only [Part.inner, ← PRows.goes_any] at ha
      simp only [Part.enc] at c hp
      have hw1 : ¬ wd w = .again := by cases w <;> decide
      have hw2 : ¬ wd w = .loop := by cases w <;> decide
      rcases hp with e1 | e1 <;> simp [envOf, slOf, Part.enc, t__law_goes_4, b__law_goes_3, t__law_goes_2, b__law_goes_1, Part.goes, hw1, hw2, e1, wipeG, noOwn, wipeE, backE, c, hz, sz, ha]
end ET
set_option Elab.async false
set_option maxRecDepth 100000
/-! The laws' helpers, plain: merge. -/
namespace ET
open PySem L2
def PRows.at (l : Int) : PRows → Option Part
  | .nil => none
  | .cons m p r => if m = l then some p else r.at l
def PRows.ofList : List (Int × Part) → PRows
  | [] => .nil
  | x :: r => .cons x.1 x.2 (PRows.ofList r)
/-- one branch of what is merged -/
def mergeAt (mg : Part → Part → Option Part) (r s : PRows) (l : Int) : Option Part := match r.at l, s.at l with
  | some p, some q => mg p q
  | some p, none => some p
  | none, some q => some q
  | none, none => none
def mergeRows (mg : Part → Part → Option Part) (r s : PRows) : List Int → Option (List (Int × Part))
  | [] => some []
  | l :: ls => (mergeAt mg r s l).bind fun p => (mergeRows mg r s ls).map ((l, p) :: ·)
def merge : Nat → Part → Part → Option Part
  | 0, _, _ => none
  | k + 1, p, q => if p = q then some p else match p, q with
    | .loop n b, .loop m c => if n = m then (merge k b c).map (.loop n) else none
    | .act w o r, .act w' o' s => if w = w' ∧ o = o' then (if w = true ∧ r.letters ≠ s.letters then none else (mergeRows (merge k) r s (canon (r.letters ++ s.letters))).map fun l => .act w o (.ofList l)) else none
    | _, _ => none
def encO : Option Part → D
  | none => .non
  | some p => p.enc
/-- a dict of a part's branches -/
def dkOf (us : List (Int × Part)) : List (Int × D) := us.map fun x => (x.1, x.2.enc)
theorem putD_new {kvs : List (Int × D)} {l : Int} {d : D} (h : ∀ x ∈ kvs, x.1 ≠ l) : putD kvs l d = kvs ++ [(l, d)] := by
  unfold putD
  rw [if_neg]
  intro e
  obtain ⟨x, hx, e⟩ := List.any_eq_true.mp e
  exact h x hx (by simpa using e)
theorem valD_list (l : Int) : ∀ us : List (Int × Part), valD (dkOf us) l = ((us.find? fun x => decide (x.1 = l)).map fun x => x.2.enc)
  | [] => rfl
  | x :: us => by
    unfold dkOf
    rw [List.map_cons]
    by_cases e : x.1 = l
    · simp [valD, List.find?_cons, e]
    · have ih := valD_list l us
      unfold valD dkOf at ih
      simp only [valD, List.find?_cons, e, decide_false]
      exact ih
theorem PRows.at_list (l : Int) : ∀ r : PRows, r.at l = (r.list.find? fun x => decide (x.1 = l)).map (·.2)
  | .nil => rfl
  | .cons m p r => by
    unfold PRows.at PRows.list
    by_cases e : m = l
    · simp [List.find?_cons, e]
    · simp [List.find?_cons, e, PRows.at_list l r]
theorem valD_rows (l : Int) (r : PRows) : valD (dkOf r.list) l = (r.at l).map Part.enc := by
  rw [valD_list, PRows.at_list, Option.map_map]
  rfl
theorem dkOf_keys (r : PRows) : (dkOf r.list).map (fun kv => D.int kv.1) = r.letters.map .int := by
  unfold dkOf
  rw [List.map_map, ← PRows.list_letters, List.map_map]
  rfl
def ooS : Option (Option Sl) → Option (Own × Bool)
  | some (some (.own o io)) => some (o, io)
  | _ => none
@[simp] theorem ooS_d (o : Own) (io : Bool) : ooS (some (some (.own o io))) = some (o, io) := rfl
@[simp] theorem ownO_d (i : Nat) (ρ : Env) : ownO i ρ = ooS ρ[i]? := rfl
@[simp] theorem kDPut_d (i : Nat) (a k : DE) (ρ : Env) : kDPut i a k ρ = (a ρ).bind fun x => if (ownO i x.2).isSome = true then (k x.2).bind fun y => (ownO i y.2).bind fun o => (dPut o.1 y.1 x.1).bind fun o' => some (.nx (y.2.set i (some (.own o' o.2)))) else none := rfl
@[simp] theorem dDGet_d (i : Nat) (a : DE) (ρ : Env) : dDGet i a ρ = if (ownO i ρ).isSome = true then (a ρ).bind fun x => (ownO i x.2).bind fun o => (dGet o.1 x.1).bind fun r => r.bind fun d => some (d, x.2) else none := rfl
@[simp] theorem dDIn_d (neg : Bool) (i : Nat) (a : DE) (ρ : Env) : dDIn neg i a ρ = (a ρ).bind fun x => (ownO i x.2).bind fun o => (dGet o.1 x.1).bind fun r => some (.bl (r.isSome != neg), x.2) := rfl
@[simp] theorem dGet_i (kvs : List (Int × D)) (i : Int) : dGet (.dk kvs) (.int i) = some (valD kvs i) := rfl
theorem dPut_i {kvs : List (Int × D)} {i : Int} {d : D} (h : kvs.length < 16777216) : dPut (.dk kvs) (.int i) d = some (.dk (putD kvs i d)) := by
  show (if kvs.length < sizeLine then some (Own.dk (putD kvs i d)) else none) = _
  rw [if_pos (by rw [sz]; exact h)]
def keS (ρ : Env) : Option (Own × Bool) → Option (Sl × Env)
  | some (.dk kvs, _) => some (.own (.lst (kvs.map fun kv => .int kv.1)) false, ρ)
  | _ => none
@[simp] theorem keS_d (ρ : Env) (kvs : List (Int × D)) (io : Bool) : keS ρ (some (.dk kvs, io)) = some (.own (.lst (kvs.map fun kv => .int kv.1)) false, ρ) := rfl
@[simp] theorem sKeysK_d (i : Nat) (ρ : Env) : sKeysK i ρ = keS ρ (ownO i ρ) := by
  unfold sKeysK
  cases ownO i ρ with
  | none => rfl
  | some o => obtain ⟨o, io⟩ := o; cases o <;> rfl
/-- the state of a merge -/
abbrev Em (p q : Part) (A B : List (Int × D)) (x4 x5 : Option Sl) : Env := [some (.val p.enc), some (.val q.enc), some (.own (.dk A) false), some (.own (.dk B) false), x4, x5, none, none]
theorem asc_not {us vs : List Int} {l : Int} (h : (us ++ l :: vs).Pairwise (· < ·)) : ∀ x ∈ us, x ≠ l := fun x hx e => by
  subst e
  have := (List.pairwise_append.mp h).2.2 x hx x (by simp)
  omega
theorem fill2 (p q : Part) (B : List (Int × D)) (r : PRows) (ha : r.letters.Pairwise (· < ·)) (hm : In4 r.letters) : ∃ x4 x5, Free x4 ∧ Free x5 ∧ forL (gTp (gsCons (gN 4) (gsCons (gN 5) gsNil))) (kDPut 2 (dV 5) (dV 4)) (r.list.map encP) (Em p q [] B none none) = some (.nx (Em p q (dkOf r.list) B x4 x5)) := by
  have hl := PRows.len4 ha hm
  obtain ⟨ρ', e, x4, x5, h4, h5, rfl⟩ := forL_map (g := gTp (gsCons (gN 4) (gsCons (gN 5) gsNil))) (b := kDPut 2 (dV 5) (dV 4)) (enc := encP)
    (fun us ρ => ∃ x4 x5 : Option Sl, Free x4 ∧ Free x5 ∧ ρ = Em p q (dkOf us) B x4 x5) r.list (Em p q [] B none none) ⟨none, none, free_n, free_n, rfl⟩ (by
      rintro done u rest ρ hi ⟨x4, x5, h4, h5, rfl⟩
      refine ⟨Em p q (dkOf (done ++ [u])) B (some (.val (.int u.1))) (some (.val u.2.enc)), ?_, _, _, free_v _, free_v _, rfl⟩
      have hn : (dkOf done).length < 16777216 := by
        have := congrArg List.length hi
        simp at this
        unfold dkOf
        rw [List.length_map]; omega
      have hp : putD (dkOf done) u.1 u.2.enc = dkOf (done ++ [u]) := by
        rw [putD_new]
        · simp [dkOf]
        · intro x hx
          unfold dkOf at hx
          obtain ⟨y, hy, rfl⟩ := List.mem_map.mp hx
          rw [← PRows.list_letters, hi, List.map_append, List.map_cons] at ha
          exact asc_not ha y.1 (List.mem_map_of_mem hy)
      unfold turnS encP
      simp [setS_free h4, setS_free h5, dPut_i hn, hp])
  exact ⟨x4, x5, h4, h5, e⟩
theorem fill3 (p q : Part) (A : List (Int × D)) (r : PRows) (x4 x5 : Option Sl) (h4 : Free x4) (h5 : Free x5) (ha : r.letters.Pairwise (· < ·)) (hm : In4 r.letters) : ∃ y4 y5, Free y4 ∧ Free y5 ∧ forL (gTp (gsCons (gN 4) (gsCons (gN 5) gsNil))) (kDPut 3 (dV 5) (dV 4)) (r.list.map encP) (Em p q A [] x4 x5) = some (.nx (Em p q A (dkOf r.list) y4 y5)) := by
  have hl := PRows.len4 ha hm
  obtain ⟨ρ', e, y4, y5, g4, g5, rfl⟩ := forL_map (g := gTp (gsCons (gN 4) (gsCons (gN 5) gsNil))) (b := kDPut 3 (dV 5) (dV 4)) (enc := encP)
    (fun us ρ => ∃ x4 x5 : Option Sl, Free x4 ∧ Free x5 ∧ ρ = Em p q A (dkOf us) x4 x5) r.list (Em p q A [] x4 x5) ⟨x4, x5, h4, h5, rfl⟩ (by
      rintro done u rest ρ hi ⟨x4, x5, h4, h5, rfl⟩
      refine ⟨Em p q A (dkOf (done ++ [u])) (some (.val (.int u.1))) (some (.val u.2.enc)), ?_, _, _, free_v _, free_v _, rfl⟩
      have hn : (dkOf done).length < 16777216 := by
        have := congrArg List.length hi
        simp at this
        unfold dkOf
        rw [List.length_map]; omega
      have hp : putD (dkOf done) u.1 u.2.enc = dkOf (done ++ [u]) := by
        rw [putD_new]
        · simp [dkOf]
        · intro x hx
          unfold dkOf at hx
          obtain ⟨y, hy, rfl⟩ := List.mem_map.mp hx
          rw [← PRows.list_letters, hi, List.map_append, List.map_cons] at ha
          exact asc_not ha y.1 (List.mem_map_of_mem hy)
      unfold turnS encP
      simp [setS_free h4, setS_free h5, dPut_i hn, hp])
  exact ⟨y4, y5, g4, g5, e⟩
@[simp] theorem isNon_enc (p : Part) : isNon p.enc = false := by cases p <;> rfl
@[simp] theorem encO_some (p : Part) : encO (some p) = p.enc := rfl
@[simp] theorem encO_none : encO none = .non := rfl
/-- the state in the loop over the letters -/
abbrev El (p q : Part) (r s : PRows) (x4 x5 : Option Sl) (fs : List (Int × Part)) : Env :=
  [some (.val p.enc), some (.val q.enc), some (.own (.dk (dkOf r.list)) false), some (.own (.dk (dkOf s.list)) false), x4, x5, some (.val (.tup (fs.map encP))), none]
theorem mturn {self : FS} {mg : Part → Part → Option Part} (p q : Part) (r s : PRows) (x4 x5 : Option Sl) (h4 : Free x4) (h5 : Free x5) (fs : List (Int × Part)) (hf : fs.length ≤ 1000) (l : Int)
    (hs : ∀ a b, r.at l = some a → s.at l = some b → self [.val a.enc, .val b.enc] = some (.val (encO (mg a b)), [.val a.enc, .val b.enc])) (hin : (r.at l).isSome = true ∨ (s.at l).isSome = true) :
    ∃ y5, Free y5 ∧ turnS (gN 4) (b__law_merge_6 self) (.int l) (El p q r s x4 x5 fs) = match mergeAt mg r s l with
      | some a => some (.nx (El p q r s (some (.val (.int l))) (some (.val a.enc)) (fs ++ [(l, a)])))
      | none => some (.rt (.val .non) (El p q r s (some (.val (.int l))) y5 fs)) := by
  have hz : fs.length + 1 ≤ 16777216 := by omega
  have v1 := valD_rows l r
  have v2 := valD_rows l s
  unfold turnS b__law_merge_6 mergeAt
  cases ea : r.at l with
  | some a =>
    rw [ea] at v1
    cases eb : s.at l with
    | some b =>
      rw [eb] at v2
      have e := hs a b ea eb
      refine ⟨some (.val .non), free_v _, ?_⟩
      cases em : mg a b with
      | some c =>
        rw [em] at e
        simp only [encO_some] at e
        simp [setS_free h4, setS_free h5, v1, v2, t__law_merge_4, b__law_merge_5, b__law_merge_3, b__law_merge_2, e, em, sz, hz, encP]
      | none =>
        rw [em] at e
        simp only [encO_none] at e
        simp [setS_free h4, setS_free h5, v1, v2, t__law_merge_4, b__law_merge_5, b__law_merge_3, b__law_merge_2, e, em, sz, hz, encP]
    | none =>
      rw [eb] at v2
      refine ⟨none, free_n, ?_⟩
      simp [setS_free h4, setS_free h5, v1, v2, t__law_merge_4, b__law_merge_5, b__law_merge_3, b__law_merge_2, sz, hz, encP]
  | none =>
    rw [ea] at v1
    cases eb : s.at l with
    | some b =>
      rw [eb] at v2
      refine ⟨none, free_n, ?_⟩
      simp [setS_free h4, setS_free h5, v1, v2, t__law_merge_4, b__law_merge_5, b__law_merge_3, b__law_merge_2, sz, hz, encP]
    | none =>
      rw [ea, eb] at hin
      simp at hin
theorem mloop {self : FS} {mg : Part → Part → Option Part} (p q : Part) (r s : PRows)
    (hs : ∀ l a b, r.at l = some a → s.at l = some b → self [.val a.enc, .val b.enc] = some (.val (encO (mg a b)), [.val a.enc, .val b.enc])) :
    ∀ (ls : List Int) (fs : List (Int × Part)) (x4 x5 : Option Sl), Free x4 → Free x5 → (∀ l ∈ ls, (r.at l).isSome = true ∨ (s.at l).isSome = true) → fs.length + ls.length ≤ 1000 →
      match mergeRows mg r s ls with
      | some us => ∃ y4 y5, Free y4 ∧ Free y5 ∧ forL (gN 4) (b__law_merge_6 self) (ls.map .int) (El p q r s x4 x5 fs) = some (.nx (El p q r s y4 y5 (fs ++ us)))
      | none => ∃ rest, forL (gN 4) (b__law_merge_6 self) (ls.map .int) (El p q r s x4 x5 fs) = some (.rt (.val .non) (some (.val p.enc) :: some (.val q.enc) :: rest))
  | [], fs, x4, x5, h4, h5, _, _ => ⟨x4, x5, h4, h5, by simp [forL_nil]⟩
  | l :: ls, fs, x4, x5, h4, h5, hin, hf => by
    simp only [List.length_cons] at hf
    obtain ⟨y5, g5, e⟩ := mturn (mg := mg) p q r s x4 x5 h4 h5 fs (by omega) l (hs l) (hin l List.mem_cons_self)
    unfold mergeRows
    cases em : mergeAt mg r s l with
    | none =>
      rw [em] at e
      simp only [Option.bind_none]
      exact ⟨_, by rw [List.map_cons, forL_rt e]⟩
    | some a =>
      rw [em] at e
      simp only at e
      simp only [Option.bind_some]
      have ih := mloop p q r s hs ls (fs ++ [(l, a)]) (some (.val (.int l))) (some (.val a.enc)) (free_v _) (free_v _) (fun m hm => hin m (List.mem_cons_of_mem _ hm)) (by simp; omega)
      cases er : mergeRows mg r s ls with
      | none =>
        rw [er] at ih
        obtain ⟨rest, e2⟩ := ih
        exact ⟨rest, by rw [List.map_cons, forL_nx e, e2]⟩
      | some us =>
        rw [er] at ih
        obtain ⟨y4, y6, g4, g6, e2⟩ := ih
        exact ⟨y4, y6, g4, g6, by rw [List.map_cons, forL_nx e, e2]; simp⟩
mutual
theorem cln_enc : ∀ p : Part, cln p.enc = true
  | .fin => rfl
  | .again _ => rfl
  | .loop n b => by simp [Part.enc, cln, clns, cln_enc b]
  | .act w o r => by simp [Part.enc, cln, clns, clns_enc r]
theorem clns_enc : ∀ r : PRows, clns r.enc = true
  | .nil => rfl
  | .cons l t r => by simp [PRows.enc, cln, clns, cln_enc t, clns_enc r]
end
mutual
theorem enc_inj : ∀ p q : Part, p.enc = q.enc → p = q
  | .fin, q, h => by
    cases q with
    | fin => rfl
    | act w o r => cases w <;> simp [Part.enc, wd] at h
    | _ => simp [Part.enc] at h
  | .again n, q, h => by
    cases q with
    | again m => simp [Part.enc] at h; rw [h]
    | act w o r => cases w <;> simp [Part.enc, wd] at h
    | _ => simp [Part.enc] at h
  | .loop n b, q, h => by
    cases q with
    | loop m c => simp [Part.enc] at h; rw [h.1, enc_inj b c h.2]
    | act w o r => cases w <;> simp [Part.enc, wd] at h
    | _ => simp [Part.enc] at h
  | .act w o r, q, h => by
    cases q with
    | act w' o' s =>
      simp [Part.enc] at h
      have hw : w = w' := by revert h; cases w <;> cases w' <;> simp [wd]
      rw [hw, h.2.1, encs_inj r s h.2.2]
    | _ => cases w <;> simp [Part.enc, wd] at h
theorem encs_inj : ∀ r s : PRows, r.enc = s.enc → r = s
  | .nil, s, h => by cases s <;> simp [PRows.enc] at h; rfl
  | .cons l t r, s, h => by
    cases s with
    | nil => simp [PRows.enc] at h
    | cons m u s =>
      simp [PRows.enc] at h
      rw [h.1.1, enc_inj t u h.1.2, encs_inj r s h.2]
end
mutual
theorem dep_enc : ∀ p : Part, dep p.enc ≤ 3 * p.ht
  | .fin => by simp [Part.enc, Part.ht]
  | .again _ => by simp [Part.enc, Part.ht]
  | .loop n b => by have := dep_enc b; simp [Part.enc, Part.ht]; omega
  | .act w o r => by have := deps_enc r; simp [Part.enc, Part.ht]; omega
theorem deps_enc : ∀ r : PRows, deps r.enc ≤ 3 * r.ht + 1
  | .nil => by simp [PRows.enc]
  | .cons l t r => by have := dep_enc t; have := deps_enc r; simp [PRows.enc, PRows.ht]; omega
end
theorem fEq_part {p q : Part} (h : p.ht ≤ 60) : fEq p.enc q.enc = some (.bl (decide (p = q))) := by
  rw [fEq_d (.inl (by have := dep_enc p; unfold deepest; omega))]
  congr 2
  rw [Bool.eq_iff_iff, peq_iff _ _ (cln_enc p) (cln_enc q), decide_eq_true_eq]
  exact ⟨enc_inj p q, fun e => by rw [e]⟩
theorem clns_ints : ∀ ns : List Int, clns (ns.map .int) = true
  | [] => rfl
  | n :: ns => by simp [clns, cln, clns_ints ns]
theorem map_int_inj {a b : List Int} (h : a.map D.int = b.map D.int) : a = b := by
  have := congrArg (List.map fun d => match d with | D.int i => i | _ => 0) h
  simpa [List.map_map, Function.comp_def] using this
theorem deps_ints : ∀ ns : List Int, deps (ns.map .int) = 0
  | [] => rfl
  | n :: ns => by simp [deps_ints ns]
theorem fNe_ints (a b : List Int) : fNe (.lst (a.map .int)) (.lst (b.map .int)) = some (.bl (!decide (a = b))) := by
  rw [fNe_d (.inl (by simp [deps_ints, deepest]))]
  congr 3
  rw [Bool.eq_iff_iff, peq_lst, peqs_iff _ _ (clns_ints a) (clns_ints b), decide_eq_true_eq]
  exact ⟨map_int_inj, fun e => by rw [e]⟩
theorem ascI_same {l : List Int} (h : l.Pairwise (· < ·)) : ascI l = l := by
  refine asc_uniq (lt_of_le_nodup _ (ascI_le l) ((ascI_perm l).nodup_iff.mpr (lt_nodup h))) h fun k => (ascI_perm l).mem_iff
end ET
set_option Elab.async false
set_option maxRecDepth 100000
/-! The laws' helpers, plain: merge, whole. -/
namespace ET
open PySem L2
theorem tag_in (t : Tag) (h1 : t ≠ .«end») (h2 : t ≠ .again) : fIn false (.str t) (.tup [.str .«end», .str .again]) = some (.bl false) := by
  rw [fIn_tags]; simp [h1, h2]
theorem PRows.at_some {l : Int} : ∀ {r : PRows}, l ∈ r.letters → (r.at l).isSome = true
  | .nil, h => by simp [PRows.letters] at h
  | .cons m p r, h => by
    simp only [PRows.letters, List.mem_cons] at h
    unfold PRows.at
    by_cases e : m = l
    · simp [e]
    · rw [if_neg e]; exact PRows.at_some (h.resolve_left fun q => e q.symm)
theorem PRows.at_mem {l : Int} {a : Part} : ∀ {r : PRows}, r.at l = some a → (l, a) ∈ r.list
  | .nil, h => by simp [PRows.at] at h
  | .cons m p r, h => by
    unfold PRows.at at h
    by_cases e : m = l
    · rw [if_pos e] at h; cases h; subst e; simp [PRows.list]
    · rw [if_neg e] at h; exact List.mem_cons_of_mem _ (PRows.at_mem h)
theorem ofList_enc : ∀ us : List (Int × Part), (PRows.ofList us).enc = us.map encP
  | [] => rfl
  | x :: us => by simp only [PRows.ofList, PRows.enc, List.map_cons, ofList_enc us, encP]
@[simp] theorem kPar_d (i j : Nat) (a b : SE) (ρ : Env) : kPar i j a b ρ = (a ρ).bind fun x => (b x.2).bind fun y => (setSl i x.1 y.2).bind fun ρ1 => (setSl j y.1 ρ1).bind fun ρ2 => some (.nx ρ2) := by
  unfold kPar evPar
  cases a ρ with
  | none => rfl
  | some x =>
    rw [Option.bind_some, Option.bind_some]
    cases b x.2 with
    | none => rfl
    | some y => rfl
@[simp] theorem sNewK_d (ρ : Env) : sNewK ρ = some (.own (.dk []) false, ρ) := rfl
theorem merge_act {self : FS} {mg : Part → Part → Option Part} (w : Bool) (o : Int) (r s : PRows) (sr : r.letters.Pairwise (· < ·) ∧ In4 r.letters) (ss : s.letters.Pairwise (· < ·) ∧ In4 s.letters)
    (hs : ∀ l a b, r.at l = some a → s.at l = some b → self [.val a.enc, .val b.enc] = some (.val (encO (mg a b)), [.val a.enc, .val b.enc])) :
    (b__law_merge_11 self [some (.val (Part.act w o r).enc), some (.val (Part.act w o s).enc), none, none, none, none, none, none]).bind (retF [.val (Part.act w o r).enc, .val (Part.act w o s).enc]) =
      some (.val (encO (if w = true ∧ r.letters ≠ s.letters then none else (mergeRows mg r s (canon (r.letters ++ s.letters))).map fun l => .act w o (.ofList l))), [.val (Part.act w o r).enc, .val (Part.act w o s).enc]) := by
  obtain ⟨x4, x5, h4, h5, e2⟩ := fill2 (.act w o r) (.act w o s) [] r sr.1 sr.2
  obtain ⟨y4, y5, g4, g5, e3⟩ := fill3 (.act w o r) (.act w o s) (dkOf r.list) s x4 x5 h4 h5 ss.1 ss.2
  have l1 : r.letters.length ≤ 4 := asc4 sr.1 sr.2
  have l2 : s.letters.length ≤ 4 := asc4 ss.1 ss.2
  have k1 := dkOf_keys r
  have k2 := dkOf_keys s
  have f1 := fSorted_ints (ns := r.letters) (by rw [sz]; omega)
  have f2 := fSorted_ints (ns := s.letters) (by rw [sz]; omega)
  rw [ascI_same sr.1] at f1
  rw [ascI_same ss.1] at f2
  have f3 := fSortSet_ints (ns := r.letters ++ s.letters) (fun x hx => (List.mem_append.mp hx).elim (sr.2 x) (ss.2 x)) (by simp; omega)
  rw [List.map_append] at f3
  have hz : r.letters.length + s.letters.length ≤ 16777216 := by omega
  unfold b__law_merge_11 b__law_merge_10 b__law_merge_9
  simp only [Part.enc, Em, PRows.enc_list] at e2 e3 ⊢
  by_cases hw : w = true ∧ r.letters ≠ s.letters
  · obtain ⟨rfl, hl⟩ := hw
    have hwd : wd true = .send := rfl
    simp only [hwd] at e2 e3
    simp [hwd, e2, e3, t__law_merge_8, wd, k1, k2, f1, f2, fNe_ints, hl]
  · rw [if_neg hw]
    have hin : ∀ l ∈ canon (r.letters ++ s.letters), (r.at l).isSome = true ∨ (s.at l).isSome = true := fun l hl => by
      rw [mem_canon] at hl
      exact (List.mem_append.mp hl).imp PRows.at_some PRows.at_some
    have hlen : (canon (r.letters ++ s.letters)).length ≤ 4 := len_canon fun x hx => (List.mem_append.mp hx).elim (sr.2 x) (ss.2 x)
    have hm := mloop (mg := mg) (.act w o r) (.act w o s) r s hs (canon (r.letters ++ s.letters)) [] y4 y5 g4 g5 hin (by simp; omega)
    generalize canon (r.letters ++ s.letters) = ls at *
    cases er : mergeRows mg r s ls with
    | none =>
      rw [er] at hm
      obtain ⟨rest, e4⟩ := hm
      simp only [Part.enc, El, PRows.enc_list, List.map_nil] at e4
      cases w with
      | true =>
        have hl : r.letters = s.letters := by
          apply Classical.byContradiction
          intro z
          exact hw ⟨rfl, z⟩
        have hwd : wd true = .send := rfl
        simp only [hwd] at e2 e3 e4
        rw [hl] at f3 hz k1 f1
        simp [hwd, e2, e3, e4, t__law_merge_8, k1, k2, f1, f2, fNe_ints, b__law_merge_7, f3, hz, sz]
      | false =>
        have hwd : wd false = .hear := rfl
        simp only [hwd] at e2 e3 e4
        simp [hwd, e2, e3, e4, t__law_merge_8, k1, k2, f1, f2, fNe_ints, b__law_merge_7, f3, hz, sz]
    | some us =>
      rw [er] at hm
      obtain ⟨z4, z5, i4, i5, e4⟩ := hm
      simp only [Part.enc, El, PRows.enc_list, List.map_nil, List.nil_append] at e4
      cases w with
      | true =>
        have hl : r.letters = s.letters := by
          apply Classical.byContradiction
          intro z
          exact hw ⟨rfl, z⟩
        have hwd : wd true = .send := rfl
        simp only [hwd] at e2 e3 e4
        rw [hl] at f3 hz k1 f1
        simp [hwd, e2, e3, e4, t__law_merge_8, k1, k2, f1, f2, fNe_ints, b__law_merge_7, f3, hz, sz, b__law_merge_1, Part.enc, ofList_enc]
      | false =>
        have hwd : wd false = .hear := rfl
        simp only [hwd] at e2 e3 e4
        simp [hwd, e2, e3, e4, t__law_merge_8, k1, k2, f1, f2, fNe_ints, b__law_merge_7, f3, hz, sz, b__law_merge_1, Part.enc, ofList_enc]
theorem merge_fun (k : Nat) : ∀ (p q : Part), p.ht ≤ k → p.ht ≤ 60 → p.slim → q.slim → f__law_merge k [.val p.enc, .val q.enc] = some (.val (encO (merge k p q)), [.val p.enc, .val q.enc]) := by
  induction k with
  | zero => intro p q h; cases p <;> simp [Part.ht] at h
  | succ k ih =>
    intro p q h h60 sp sq
    show runF 2 8 (m__law_merge (f__law_merge k)) _ = _
    rw [runF_eq (by rfl)]
    unfold m__law_merge merge
    have fe := fEq_part (p := p) (q := q) h60
    by_cases e : p = q
    · subst e
      simp [envOf, slOf, fe]
    · rw [if_neg e]
      cases p with
      | fin =>
        cases q with
        | fin => exact absurd rfl e
        | act w o r =>
          have hw : ¬ Tag.«end» = wd w := by cases w <;> decide
          simp only [Part.enc] at fe ⊢
          simp [envOf, slOf, fe, e, b__law_merge_16, t__law_merge_15, hw]
        | _ =>
          simp only [Part.enc] at fe ⊢
          simp [envOf, slOf, fe, e, b__law_merge_16, t__law_merge_15]
      | again n =>
        cases q with
        | act w o r =>
          have hw : ¬ Tag.again = wd w := by cases w <;> decide
          simp only [Part.enc] at fe ⊢
          simp [envOf, slOf, fe, e, b__law_merge_16, t__law_merge_15, hw]
        | again m =>
          simp only [Part.enc] at fe ⊢
          simp [envOf, slOf, fe, e, b__law_merge_16, t__law_merge_15, fIn_tags, sz]
        | _ =>
          simp only [Part.enc] at fe ⊢
          simp [envOf, slOf, fe, e, b__law_merge_16, t__law_merge_15]
      | loop n b =>
        cases q with
        | act w o r =>
          have hw : ¬ Tag.loop = wd w := by cases w <;> decide
          simp only [Part.enc] at fe ⊢
          simp [envOf, slOf, fe, e, b__law_merge_16, t__law_merge_15, hw]
        | loop m c =>
          simp only [Part.ht] at h h60
          have ti := tag_in .loop (by decide) (by decide)
          have e2 := ih b c (by omega) (by omega) sp sq
          simp only [Part.enc] at fe ⊢
          by_cases hn : n = m
          · subst hn
            cases em : merge k b c with
            | none =>
              rw [em] at e2
              simp [envOf, slOf, fe, e, b__law_merge_16, t__law_merge_15, ti, b__law_merge_14, t__law_merge_12, b__law_merge_13, e2, em, sz]
            | some d =>
              rw [em] at e2
              simp [envOf, slOf, fe, e, b__law_merge_16, t__law_merge_15, ti, b__law_merge_14, t__law_merge_12, b__law_merge_13, e2, em, Part.enc, sz]
          · simp [envOf, slOf, fe, e, b__law_merge_16, t__law_merge_15, ti, hn, sz]
        | _ =>
          simp only [Part.enc] at fe ⊢
          simp [envOf, slOf, fe, e, b__law_merge_16, t__law_merge_15]
      | act w o r =>
        cases q with
        | fin =>
          have hw : ¬ wd w = .«end» := by cases w <;> decide
          simp only [Part.enc] at fe ⊢
          simp [envOf, slOf, fe, e, b__law_merge_16, t__law_merge_15, hw]
        | again n =>
          have hw : ¬ wd w = .again := by cases w <;> decide
          simp only [Part.enc] at fe ⊢
          simp [envOf, slOf, fe, e, b__law_merge_16, t__law_merge_15, hw]
        | loop n b =>
          have hw : ¬ wd w = .loop := by cases w <;> decide
          simp only [Part.enc] at fe ⊢
          simp [envOf, slOf, fe, e, b__law_merge_16, t__law_merge_15, hw]
        | act w' o' s =>
          have ti := tag_in (wd w) (by cases w <;> decide) (by cases w <;> decide)
          by_cases hw : w = w' ∧ o = o'
          · obtain ⟨rfl, rfl⟩ := hw
            simp only [Part.ht] at h h60
            have ma := merge_act (self := f__law_merge k) (mg := merge k) w o r s ⟨sp.2.1, sp.2.2.1⟩ ⟨sq.2.1, sq.2.2.1⟩ fun l a b ha hb => by
              have h1 := PRows.ht_mem (PRows.at_mem ha)
              exact ih a b (by dsimp only at h1; omega) (by dsimp only at h1; omega) (PRows.slim_mem sp.2.2.2 (PRows.at_mem ha)) (PRows.slim_mem sq.2.2.2 (PRows.at_mem hb))
            have hw3 : ¬ wd w = .loop := by cases w <;> decide
            simp only [Part.enc] at fe ma ⊢
            simp [envOf, slOf, fe, e, b__law_merge_16, t__law_merge_15, ti, sz, b__law_merge_14, t__law_merge_12, hw3]
            simpa using ma
          · simp only [Part.enc] at fe ⊢
            by_cases hw1 : w = w'
            · have ho : ¬ o = o' := fun z => hw ⟨hw1, z⟩
              subst hw1
              simp [envOf, slOf, fe, e, b__law_merge_16, t__law_merge_15, ti, ho, hw, sz]
            · have hw2 : ¬ wd w = wd w' := by revert hw1; cases w <;> cases w' <;> simp [wd]
              simp [envOf, slOf, fe, e, b__law_merge_16, t__law_merge_15, hw2, hw]
end ET
set_option Elab.async false
set_option maxRecDepth 100000
/-! The laws' helpers, plain: part. -/
namespace ET
open PySem L2
/-- the branches of a saying for who is not in it -/
def foldMerge (w : Option Part) (qs : List Part) : Option Part := qs.foldl (fun w q => w.bind fun p => merge 40 p q) w
/-- the place where none is -/
def noneAt : Option Part → Int → List Int
  | none, n => [n]
  | some _, _ => []
def allSome : List (Int × Option Part) → Option (List (Int × Part))
  | [] => some []
  | (l, some p) :: r => (allSome r).map ((l, p) :: ·)
  | (_, none) :: _ => none
mutual
def Talk.part (role : Int) : Talk → Int → Option Part × List Int
  | .fin, _ => (some .fin, [])
  | .again n, _ => (some (.again n), [])
  | .beside a b, num =>
    let x := a.part role (num + 1)
    let y := b.part role (num + 1 + a.many)
    (if role ∈ b.rol then y.1 else x.1, x.2 ++ y.2)
  | .loop n b, num =>
    if role ∈ (Talk.loop n b).rol then
      let x := b.part role (num + 1)
      (x.1.map fun p => if p.goes n = true then .loop n p else p, x.2)
    else match b.ways.filter fun x => decide (x ≠ -1 ∧ x ≠ n) with
      | [] => (some .fin, [])
      | o :: _ => if b.ways = [o] then (some (.again o), []) else (none, [num])
  | .say s h r, num =>
    let x := r.parts role (num + 1)
    match allSome x.1 with
    | none => (none, x.2)
    | some ps =>
      if role = s then (some (.act true h (.ofList ps)), x.2)
      else if role = h then (some (.act false s (.ofList ps)), x.2)
      else
        let w := foldMerge (ps.head?.map (·.2)) (ps.tail.map (·.2))
        (w, x.2 ++ noneAt w num)
def Rows.parts (role : Int) : Rows → Int → List (Int × Option Part) × List Int
  | .nil, _ => ([], [])
  | .cons l t r, num =>
    let x := t.part role num
    let y := r.parts role (num + t.many)
    ((l, x.1) :: y.1, x.2 ++ y.2)
end
mutual
theorem Talk.part_len (role : Int) : ∀ (t : Talk) (num : Int), (t.part role num).2.length ≤ t.many
  | .fin, _ => by simp [Talk.part]
  | .again n, _ => by simp [Talk.part]
  | .beside a b, num => by
    have h1 := a.part_len role (num + 1)
    have h2 := b.part_len role (num + 1 + a.many)
    simp only [Talk.part, Talk.many, List.length_append]
    omega
  | .loop n b, num => by
    have h1 := b.part_len role (num + 1)
    unfold Talk.part
    simp only [Talk.many]
    split
    · dsimp only; omega
    · split
      · simp
      · split
        · simp
        · simp
  | .say s h r, num => by
    have h1 := r.parts_len role (num + 1)
    unfold Talk.part
    simp only [Talk.many]
    split
    · dsimp only; omega
    · split
      · dsimp only; omega
      · split
        · dsimp only; omega
        · dsimp only
          rw [List.length_append]
          cases foldMerge _ _ <;> simp [noneAt] <;> omega
theorem Rows.parts_len (role : Int) : ∀ (r : Rows) (num : Int), (r.parts role num).2.length ≤ r.many
  | .nil, _ => by simp [Rows.parts]
  | .cons l t r, num => by
    have h1 := t.part_len role num
    have h2 := r.parts_len role (num + t.many)
    simp only [Rows.parts, Rows.many, List.length_append]
    omega
end
end ET
set_option Elab.async false
set_option maxRecDepth 100000
/-! The laws' helpers, plain: what parts are like. -/
namespace ET
open PySem L2
/-- something is done first -/
def Part.acts : Part → Bool
  | .fin => false
  | .again _ => false
  | .loop _ b => b.acts
  | .act _ _ _ => true
mutual
/-- again stands in a loop of its name; in a loop something is done first -/
def Part.wf : Part → List Int → Prop
  | .fin, _ => True
  | .again n, ns => n ∈ ns
  | .loop n b, ns => b.acts = true ∧ b.wf (n :: ns)
  | .act _ _ r, ns => r.wf ns
def PRows.wf : PRows → List Int → Prop
  | .nil, _ => True
  | .cons _ t r, ns => t.wf ns ∧ r.wf ns
end
theorem PRows.wf_iff (ns : List Int) : ∀ r : PRows, r.wf ns ↔ ∀ x ∈ r.list, x.2.wf ns
  | .nil => by simp [PRows.wf, PRows.list]
  | .cons l t r => by simp [PRows.wf, PRows.list, PRows.wf_iff ns r]
theorem PRows.slim_iff : ∀ r : PRows, r.slim ↔ ∀ x ∈ r.list, x.2.slim
  | .nil => by simp [PRows.slim, PRows.list]
  | .cons l t r => by simp [PRows.slim, PRows.list, PRows.slim_iff r]
theorem PRows.ht_iff (B : Nat) : ∀ r : PRows, r.ht ≤ B ↔ ∀ x ∈ r.list, x.2.ht ≤ B
  | .nil => by simp [PRows.ht, PRows.list]
  | .cons l t r => by
    simp only [PRows.ht, PRows.list, List.mem_cons, forall_eq_or_imp, ← PRows.ht_iff B r]
    omega
theorem PRows.list_ofList : ∀ us : List (Int × Part), (PRows.ofList us).list = us
  | [] => rfl
  | x :: us => by simp only [PRows.ofList, PRows.list, PRows.list_ofList us]
theorem PRows.letters_ofList (us : List (Int × Part)) : (PRows.ofList us).letters = us.map (·.1) := by
  rw [← PRows.list_letters, PRows.list_ofList]
theorem mergeRows_mem {mg : Part → Part → Option Part} {r s : PRows} : ∀ {ls : List Int} {us : List (Int × Part)}, mergeRows mg r s ls = some us → us.map (·.1) = ls ∧ ∀ x ∈ us, mergeAt mg r s x.1 = some x.2
  | [], us, h => by simp [mergeRows] at h; subst h; simp
  | l :: ls, us, h => by
    unfold mergeRows at h
    obtain ⟨p, e1, h⟩ := Option.bind_eq_some_iff.mp h
    obtain ⟨vs, e2, h⟩ := Option.map_eq_some_iff.mp h
    subst h
    obtain ⟨i1, i2⟩ := mergeRows_mem e2
    refine ⟨by simp [i1], fun x hx => ?_⟩
    simp only [List.mem_cons] at hx
    rcases hx with rfl | hx
    · exact e1
    · exact i2 x hx
theorem merge_ok (k : Nat) : ∀ (p q m : Part), merge k p q = some m → m.acts = p.acts ∧ m.acts = q.acts ∧ (p.slim → q.slim → m.slim) ∧ m.ht ≤ max p.ht q.ht ∧ ∀ ns, p.wf ns → q.wf ns → m.wf ns := by
  induction k with
  | zero => intro p q m h; simp [merge] at h
  | succ k ih =>
    intro p q m h
    unfold merge at h
    split at h
    · rename_i e
      cases h
      subst e
      exact ⟨rfl, rfl, fun h _ => h, by omega, fun _ h _ => h⟩
    · split at h
      · split at h
        · rename_i n b n' c e1 e
          subst e
          obtain ⟨d, e2, rfl⟩ := Option.map_eq_some_iff.mp h
          obtain ⟨a1, a2, a3, a4, a5⟩ := ih b c d e2
          refine ⟨a1, a2, a3, by simp only [Part.ht]; omega, fun ns h1 h2 => ⟨a1.trans h1.1, a5 _ h1.2 h2.2⟩⟩
        · cases h
      · split at h
        · rename_i w o r w' o' s e1 e
          obtain ⟨rfl, rfl⟩ := e
          split at h
          · cases h
          · obtain ⟨us, e2, rfl⟩ := Option.map_eq_some_iff.mp h
            obtain ⟨i1, i2⟩ := mergeRows_mem e2
            have key : ∀ (P : Part → Prop), (∀ x ∈ r.list, P x.2) → (∀ x ∈ s.list, P x.2) → (∀ a b c, merge k a b = some c → P a → P b → P c) → ∀ x ∈ us, P x.2 := by
              intro P h1 h2 h3 x hx
              have := i2 x hx
              unfold mergeAt at this
              split at this
              · rename_i a b ea eb
                exact h3 a b x.2 this (h1 _ (PRows.at_mem ea)) (h2 _ (PRows.at_mem eb))
              · rename_i a ea eb
                cases this
                exact h1 _ (PRows.at_mem ea)
              · rename_i b ea eb
                cases this
                exact h2 _ (PRows.at_mem eb)
              · cases this
            refine ⟨rfl, rfl, fun h1 h2 => ⟨h1.1, ?_, ?_, ?_⟩, ?_, fun ns h1 h2 => ?_⟩
            · rw [PRows.letters_ofList, i1]; exact canon_lt _
            · rw [PRows.letters_ofList, i1]
              exact in4_canon fun x hx => (List.mem_append.mp hx).elim (h1.2.2.1 x) (h2.2.2.1 x)
            · rw [PRows.slim_iff, PRows.list_ofList]
              exact key Part.slim ((PRows.slim_iff r).mp h1.2.2.2) ((PRows.slim_iff s).mp h2.2.2.2) fun a b c e ha hb => (ih a b c e).2.2.1 ha hb
            · simp only [Part.ht]
              have : (PRows.ofList us).ht ≤ max r.ht s.ht := by
                rw [PRows.ht_iff, PRows.list_ofList]
                refine key (fun p => p.ht ≤ max r.ht s.ht) (fun x hx => ?_) (fun x hx => ?_) fun a b c e ha hb => ?_
                · have := PRows.ht_mem hx; omega
                · have := PRows.ht_mem hx; omega
                · have := (ih a b c e).2.2.2.1; omega
              omega
            · show (PRows.ofList us).wf ns
              rw [PRows.wf_iff, PRows.list_ofList]
              exact key (fun p => p.wf ns) ((PRows.wf_iff ns r).mp h1) ((PRows.wf_iff ns s).mp h2) fun a b c e ha hb => (ih a b c e).2.2.2.2 ns ha hb
        · cases h
      · cases h
mutual
theorem Part.wf_mono : ∀ (p : Part) (ns ms : List Int), (∀ x ∈ ns, x ∈ ms) → p.wf ns → p.wf ms
  | .fin, _, _, _, _ => trivial
  | .again n, _, _, h, w => h n w
  | .loop n b, ns, ms, h, w => ⟨w.1, b.wf_mono (n :: ns) (n :: ms) (fun x hx => by
      simp only [List.mem_cons] at hx ⊢
      exact hx.imp id (h x)) w.2⟩
  | .act _ _ r, ns, ms, h, w => r.wf_mono ns ms h w
theorem PRows.wf_mono : ∀ (r : PRows) (ns ms : List Int), (∀ x ∈ ns, x ∈ ms) → r.wf ns → r.wf ms
  | .nil, _, _, _, _ => trivial
  | .cons _ t r, ns, ms, h, w => ⟨t.wf_mono ns ms h w.1, r.wf_mono ns ms h w.2⟩
end
mutual
theorem Part.wf_drop (n : Int) : ∀ (p : Part) (ns ms : List Int), p.goes n = false → (∀ x ∈ ns, x = n ∨ x ∈ ms) → p.wf ns → p.wf ms
  | .fin, _, _, _, _, _ => trivial
  | .again m, _, _, g, h, w => by
    rcases h m w with e | e
    · subst e; simp [Part.goes] at g
    · exact e
  | .loop m b, ns, ms, g, h, w => by
    refine ⟨w.1, ?_⟩
    by_cases e : m = n
    · subst e
      refine b.wf_mono (m :: ns) (m :: ms) (fun x hx => ?_) w.2
      simp only [List.mem_cons] at hx ⊢
      rcases hx with rfl | hx
      · exact .inl rfl
      · exact h x hx
    · refine b.wf_drop n (m :: ns) (m :: ms) (by simpa [Part.goes, e] using g) (fun x hx => ?_) w.2
      simp only [List.mem_cons] at hx ⊢
      rcases hx with rfl | hx
      · exact .inr (.inl rfl)
      · exact (h x hx).imp id .inr
  | .act _ _ r, ns, ms, g, h, w => r.wf_drop n ns ms g h w
theorem PRows.wf_drop (n : Int) : ∀ (r : PRows) (ns ms : List Int), r.goes n = false → (∀ x ∈ ns, x = n ∨ x ∈ ms) → r.wf ns → r.wf ms
  | .nil, _, _, _, _, _ => trivial
  | .cons _ t r, ns, ms, g, h, w => by
    simp only [PRows.goes, Bool.or_eq_false_iff] at g
    exact ⟨t.wf_drop n ns ms g.1 h w.1, r.wf_drop n ns ms g.2 h w.2⟩
end
mutual
theorem Talk.ways_in : ∀ (t : Talk) (names bare taken roles : List Int), t.ok names bare taken roles → ∀ x ∈ t.ways, x = -1 ∨ x ∈ names
  | .fin, _, _, _, _, _, x, h => .inl (by simpa [Talk.ways, mem_canon] using h)
  | .again n, _, _, _, _, o, x, h => by simp [Talk.ways] at h; subst h; exact .inr o.1
  | .loop n b, names, bare, taken, roles, o, x, h => by
    simp only [Talk.ways, List.mem_filter, decide_eq_true_eq] at h
    rcases b.ways_in _ _ _ _ o.2.2.2 x h.1 with e | e
    · exact .inl e
    · rcases List.mem_append.mp e with e | e
      · exact .inr e
      · simp at e; exact absurd e h.2
  | .beside _ _, _, _, _, _, _, x, h => .inl (by simpa [Talk.ways, mem_canon] using h)
  | .say s h' r, names, bare, taken, roles, o, x, h => by
    simp only [Talk.ways, mem_canon] at h
    exact r.ways_in _ _ _ o.2.2.2.2.2.2.2 x h
theorem Rows.ways_in : ∀ (r : Rows) (names taken roles : List Int), r.ok names taken roles → ∀ x ∈ r.ways, x = -1 ∨ x ∈ names
  | .nil, _, _, _, _, x, h => by simp [Rows.ways] at h
  | .cons _ t r, names, taken, roles, o, x, h => by
    simp only [Rows.ways, List.mem_append] at h
    exact h.elim (t.ways_in _ _ _ _ o.1 x) (r.ways_in _ _ _ o.2 x)
end
theorem allSome_eq : ∀ {xs : List (Int × Option Part)} {ps : List (Int × Part)}, allSome xs = some ps → xs = ps.map fun x => (x.1, some x.2)
  | [], ps, h => by simp [allSome] at h; subst h; rfl
  | (l, some p) :: xs, ps, h => by
    unfold allSome at h
    obtain ⟨qs, e, rfl⟩ := Option.map_eq_some_iff.mp h
    simp [allSome_eq e]
  | (l, none) :: xs, ps, h => by simp [allSome] at h
theorem allSome_none : ∀ {xs : List (Int × Option Part)}, allSome xs = none ↔ ∃ x ∈ xs, x.2 = none
  | [] => by simp [allSome]
  | (l, some p) :: xs => by
    have := allSome_none (xs := xs)
    simp [allSome, this]
  | (l, none) :: xs => by simp [allSome]
/-- what all parts of a fold are like, its result is like -/
theorem fold_ok (P : Part → Prop) (h : ∀ a b c, merge 40 a b = some c → P a → P b → P c) : ∀ (qs : List Part) (w : Option Part) (m : Part), (∀ q ∈ qs, P q) → (∀ p, w = some p → P p) → foldMerge w qs = some m → P m
  | [], w, m, _, hw, e => hw m e
  | q :: qs, w, m, hq, hw, e => by
    refine fold_ok P h qs (w.bind fun p => merge 40 p q) m (fun x hx => hq x (List.mem_cons_of_mem _ hx)) (fun p hp => ?_) e
    obtain ⟨a, e1, e2⟩ := Option.bind_eq_some_iff.mp hp
    exact h a q p e2 (hw a e1) (hq q List.mem_cons_self)
theorem fold_none : ∀ qs : List Part, foldMerge none qs = none
  | [] => rfl
  | q :: qs => fold_none qs
/-- all that are merged do something first, or none -/
theorem fold_acts : ∀ (qs : List Part) (w : Part) (m : Part), foldMerge (some w) qs = some m → m.acts = w.acts ∧ ∀ q ∈ qs, m.acts = q.acts
  | [], w, m, e => by cases e; simp
  | q :: qs, w, m, e => by
    have e' : foldMerge (merge 40 w q) qs = some m := e
    cases h : merge 40 w q with
    | none => rw [h, fold_none] at e'; cases e'
    | some p =>
      rw [h] at e'
      obtain ⟨a, b⟩ := fold_acts qs p m e'
      have := merge_ok 40 w q p h
      refine ⟨a.trans this.1, fun x hx => ?_⟩
      simp only [List.mem_cons] at hx
      rcases hx with rfl | hx
      · exact a.trans this.2.1
      · exact b x hx
/-- a part is as it should be -/
def Part.good (p : Part) (ht : Nat) (ns : List Int) : Prop := p.slim ∧ p.ht ≤ ht ∧ p.wf ns
mutual
theorem Talk.part_ok (role : Int) : ∀ (t : Talk) (names bare taken roles : List Int) (num : Int) (p : Part), t.ok names bare taken roles → t.slim → (t.part role num).1 = some p → p.good t.ht names ∧ (role ∈ t.rol → p.acts = true)
  | .fin, _, _, _, _, _, p, _, _, e => by
    simp only [Talk.part, Option.some.injEq] at e; subst e
    exact ⟨⟨trivial, by simp [Part.ht, Talk.ht], trivial⟩, fun h => by simp [Talk.rol] at h⟩
  | .again n, _, _, _, _, _, p, o, _, e => by
    simp only [Talk.part, Option.some.injEq] at e; subst e
    exact ⟨⟨trivial, by simp [Part.ht, Talk.ht], o.1⟩, fun h => by simp [Talk.rol] at h⟩
  | .beside a b, names, bare, taken, roles, num, p, o, s, e => by
    obtain ⟨r1, r2, _, _, _, o1, o2⟩ := o
    simp only [Talk.part] at e
    by_cases hr : role ∈ b.rol
    · rw [if_pos hr] at e
      obtain ⟨⟨g1, g2, g3⟩, h2⟩ := b.part_ok role _ _ _ _ _ p o2 s.2 e
      exact ⟨⟨g1, by simp only [Talk.ht]; omega, p.wf_mono _ _ (by simp) g3⟩, fun _ => h2 hr⟩
    · rw [if_neg hr] at e
      obtain ⟨⟨g1, g2, g3⟩, h2⟩ := a.part_ok role _ _ _ _ _ p o1 s.1 e
      refine ⟨⟨g1, by simp only [Talk.ht]; omega, p.wf_mono _ _ (by simp) g3⟩, fun h => h2 ?_⟩
      simp only [Talk.rol, mem_canon, List.mem_append] at h
      exact h.resolve_right hr
  | .loop n b, names, bare, taken, roles, num, p, o, s, e => by
    unfold Talk.part at e
    by_cases hr : role ∈ (Talk.loop n b).rol
    · rw [if_pos hr] at e
      dsimp only at e
      obtain ⟨q, e1, e2⟩ := Option.map_eq_some_iff.mp e
      obtain ⟨⟨g1, g2, g3⟩, h2⟩ := b.part_ok role _ _ _ _ _ q o.2.2.2 s.2 e1
      have hb : role ∈ b.rol := by simpa [Talk.rol, mem_canon] using hr
      by_cases hg : q.goes n = true
      · rw [if_pos hg] at e2
        subst e2
        refine ⟨⟨g1, by simp only [Part.ht, Talk.ht]; omega, h2 hb, q.wf_mono _ _ (fun x hx => ?_) g3⟩, fun _ => h2 hb⟩
        simp only [List.mem_append, List.mem_cons, List.not_mem_nil, or_false] at hx ⊢
        exact hx.symm
      · rw [if_neg hg] at e2
        subst e2
        refine ⟨⟨g1, by simp only [Talk.ht]; omega, q.wf_drop n _ _ (by simpa using hg) (fun x hx => ?_) g3⟩, fun _ => h2 hb⟩
        simp only [List.mem_append, List.mem_cons, List.not_mem_nil, or_false] at hx
        exact hx.symm
    · rw [if_neg hr] at e
      have hw := b.ways_in _ _ _ _ o.2.2.2
      split at e
      · cases e
        exact ⟨⟨trivial, by simp [Part.ht, Talk.ht], trivial⟩, fun h => absurd h hr⟩
      · rename_i x xs ef
        split at e
        · cases e
          refine ⟨⟨trivial, by simp [Part.ht, Talk.ht], ?_⟩, fun h => absurd h hr⟩
          have hx : x ∈ b.ways.filter fun x => decide (x ≠ -1 ∧ x ≠ n) := by rw [ef]; simp
          simp only [List.mem_filter, decide_eq_true_eq] at hx
          rcases hw x hx.1 with q | q
          · exact absurd q hx.2.1
          · rcases List.mem_append.mp q with q | q
            · exact q
            · simp at q; exact absurd q hx.2.2
        · cases e
  | .say s' h' r, names, bare, taken, roles, num, p, o, s, e => by
    obtain ⟨o1, o2, o3, o4, o5, o6, o7, o8⟩ := o
    have h1 := r.parts_ok role names taken roles (num + 1) o8 s.2.2
    have hlet := r.parts_letters role (num + 1)
    unfold Talk.part at e
    simp only at e
    split at e
    · cases e
    · rename_i ps ea
      have hx := allSome_eq ea
      have hps : ∀ x ∈ ps, x.2.good r.ht names := fun x hx' => h1.1 (x.1, some x.2) (by rw [hx]; exact List.mem_map.mpr ⟨x, hx', rfl⟩) x.2 rfl
      have hpl : ps.map (·.1) = r.letters := by
        rw [hx] at hlet
        rw [← hlet, List.map_map]
        rfl
      have good : ∀ (w : Bool) (q : Int), (0 ≤ q ∧ q < 4) → (Part.act w q (.ofList ps)).good (r.ht + 1) names := fun w q hq => by
        refine ⟨⟨hq, ?_, ?_, ?_⟩, ?_, ?_⟩
        · rw [PRows.letters_ofList, hpl]; exact o6
        · rw [PRows.letters_ofList, hpl]; exact o7
        · rw [PRows.slim_iff, PRows.list_ofList]; exact fun x hx => (hps x hx).1
        · simp only [Part.ht]
          have : (PRows.ofList ps).ht ≤ r.ht := by rw [PRows.ht_iff, PRows.list_ofList]; exact fun x hx => (hps x hx).2.1
          omega
        · show (PRows.ofList ps).wf names
          rw [PRows.wf_iff, PRows.list_ofList]; exact fun x hx => (hps x hx).2.2
      simp only [Talk.ht]
      split at e
      · simp only [Option.some.injEq] at e; subst e
        exact ⟨good _ _ ⟨s.1.2.2.1, s.1.2.2.2.1⟩, fun _ => rfl⟩
      · split at e
        · simp only [Option.some.injEq] at e; subst e
          exact ⟨good _ _ ⟨s.1.1, s.1.2.1⟩, fun _ => rfl⟩
        · rename_i hs hh
          dsimp only at e
          cases ps with
          | nil =>
            simp only [List.head?_nil, Option.map_none, List.tail_nil, List.map_nil] at e
            rw [fold_none] at e; cases e
          | cons u ps =>
            simp only [List.head?_cons, Option.map_some, List.tail_cons] at e
            have g : p.good r.ht names := fold_ok (fun p => p.good r.ht names) (fun a b c e ha hb => by
              have := merge_ok 40 a b c e
              exact ⟨this.2.2.1 ha.1 hb.1, by have := this.2.2.2.1; have := ha.2.1; have := hb.2.1; omega, this.2.2.2.2 _ ha.2.2 hb.2.2⟩) _ _ p (fun q hq => by
                obtain ⟨x, hx, rfl⟩ := List.mem_map.mp hq
                exact hps x (List.mem_cons_of_mem _ hx)) (fun q hq => by cases hq; exact hps u List.mem_cons_self) e
            obtain ⟨f1, f2⟩ := fold_acts _ _ p e
            refine ⟨⟨g.1, by have := g.2.1; omega, g.2.2⟩, fun hr => ?_⟩
            simp only [Talk.rol, mem_canon, List.mem_cons] at hr
            have hr := (hr.resolve_left hs).resolve_left hh
            obtain ⟨x, hx', q, hq, ha⟩ := h1.2 hr (fun y hy => by
              rw [hx] at hy
              obtain ⟨z, _, rfl⟩ := List.mem_map.mp hy
              simp)
            rw [hx] at hx'
            simp only [List.map_cons, List.mem_cons, List.mem_map] at hx'
            rcases hx' with rfl | ⟨z, hz, rfl⟩
            · cases hq; exact f1.trans ha
            · cases hq; exact (f2 _ (List.mem_map_of_mem hz)).trans ha
theorem Rows.parts_ok (role : Int) : ∀ (r : Rows) (names taken roles : List Int) (num : Int), r.ok names taken roles → r.slim →
    (∀ x ∈ (r.parts role num).1, ∀ p, x.2 = some p → p.good r.ht names) ∧ (role ∈ r.rol → (∀ x ∈ (r.parts role num).1, x.2 ≠ none) → ∃ x ∈ (r.parts role num).1, ∃ p, x.2 = some p ∧ p.acts = true)
  | .nil, _, _, _, _, _, _ => ⟨by simp [Rows.parts], fun h => by simp [Rows.rol] at h⟩
  | .cons l t r, names, taken, roles, num, o, s => by
    have h1 := t.part_ok role names [] taken roles num
    have h2 := r.parts_ok role names taken roles (num + t.many) o.2 s.2
    simp only [Rows.parts, Rows.ht, Rows.rol, List.mem_cons, forall_eq_or_imp, List.mem_append]
    refine ⟨⟨fun p e => ?_, fun x hx p e => ?_⟩, fun hr hn => ?_⟩
    · have := (h1 p o.1 s.1 e).1
      exact ⟨this.1, by have := this.2.1; omega, this.2.2⟩
    · have := h2.1 x hx p e
      exact ⟨this.1, by have := this.2.1; omega, this.2.2⟩
    · rcases hr with hr | hr
      · cases e : (t.part role num).1 with
        | none => exact absurd e hn.1
        | some p => exact ⟨(l, (t.part role num).1), .inl (by rw [e]), p, e, (h1 p o.1 s.1 e).2 hr⟩
      · obtain ⟨x, hx, q⟩ := h2.2 hr hn.2
        exact ⟨x, .inr hx, q⟩
theorem Rows.parts_letters (role : Int) : ∀ (r : Rows) (num : Int), (r.parts role num).1.map (·.1) = r.letters
  | .nil, _ => rfl
  | .cons l t r, num => by simp only [Rows.parts, List.map_cons, Rows.letters, r.parts_letters role (num + t.many)]
end
end ET
set_option Elab.async false
set_option maxRecDepth 100000
/-! The laws' helpers, plain: part, run. -/
namespace ET
open PySem L2
/-- a slot that owns nothing -/
def Vs (x : Option Sl) : Prop := x = none ∨ ∃ d, x = some (.val d)
theorem vs_n : Vs none := .inl rfl
theorem vs_v (d : D) : Vs (some (.val d)) := .inr ⟨d, rfl⟩
theorem Vs.free {x : Option Sl} (h : Vs x) : Free x := by
  rcases h with rfl | ⟨d, rfl⟩
  · exact free_n
  · exact free_v d
def accR (role : Int) : List (Int × Talk) → Int → List (Int × Option Part)
  | [], _ => []
  | x :: us, num => (x.1, (x.2.part role num).1) :: accR role us (num + x.2.many)
def accW (role : Int) : List (Int × Talk) → Int → List Int
  | [], _ => []
  | x :: us, num => (x.2.part role num).2 ++ accW role us (num + x.2.many)
def accN : List (Int × Talk) → Nat
  | [] => 0
  | x :: us => x.2.many + accN us
theorem accN_snoc : ∀ (us : List (Int × Talk)) (u : Int × Talk), accN (us ++ [u]) = accN us + u.2.many
  | [], u => by simp [accN]
  | x :: us, u => by simp only [List.cons_append, accN, accN_snoc us u]; omega
theorem accR_snoc (role : Int) : ∀ (us : List (Int × Talk)) (u : Int × Talk) (num : Int), accR role (us ++ [u]) num = accR role us num ++ [(u.1, (u.2.part role (num + accN us)).1)]
  | [], u, num => by simp [accR, accN]
  | x :: us, u, num => by
    have e : num + (x.2.many : Int) + (accN us : Nat) = num + ((x.2.many + accN us : Nat) : Int) := by omega
    simp only [List.cons_append, accR, accR_snoc role us u, accN, e]
theorem accW_snoc (role : Int) : ∀ (us : List (Int × Talk)) (u : Int × Talk) (num : Int), accW role (us ++ [u]) num = accW role us num ++ (u.2.part role (num + accN us)).2
  | [], u, num => by simp [accW, accN]
  | x :: us, u, num => by
    have e : num + (x.2.many : Int) + (accN us : Nat) = num + ((x.2.many + accN us : Nat) : Int) := by omega
    simp only [List.cons_append, accW, accW_snoc role us u, accN, e, List.append_assoc]
theorem parts_acc (role : Int) : ∀ (r : Rows) (num : Int), r.parts role num = (accR role r.list num, accW role r.list num)
  | .nil, _ => rfl
  | .cons l t r, num => by simp only [Rows.parts, Rows.list, accR, accW, parts_acc role r]
theorem accR_len (role : Int) : ∀ (us : List (Int × Talk)) (num : Int), (accR role us num).length = us.length
  | [], _ => rfl
  | x :: us, num => by simp only [accR, List.length_cons, accR_len role us]
theorem accN_list : ∀ r : Rows, accN r.list = r.many
  | .nil => rfl
  | .cons l t r => by simp only [Rows.list, accN, accN_list r, Rows.many]
theorem accN_le {us vs : List (Int × Talk)} : accN us ≤ accN (us ++ vs) := by
  induction us with
  | nil => simp [accN]
  | cons x us ih => simp only [List.cons_append, accN]; omega
theorem accW_len (role : Int) : ∀ (us : List (Int × Talk)) (num : Int), (accW role us num).length ≤ accN us
  | [], _ => by simp [accW]
  | x :: us, num => by
    have := x.2.part_len role num
    have := accW_len role us (num + x.2.many)
    simp only [accW, accN, List.length_append]; omega
def encR (x : Int × Option Part) : D := .tup [.int x.1, encO x.2]
@[simp] theorem isNon_encO (x : Option Part) : isNon (encO x) = x.isNone := by cases x <;> simp
abbrev Ep (t : Talk) (role num : Int) (rows : List (Int × Option Part)) (wrong : List Int) (here : Int) (x6 x7 x8 x9 x16 : Option Sl) : Env :=
  [some (.val t.enc), some (.val (.int role)), some (.val (.int num)), some (.own (.lst (rows.map encR)) false), some (.own (.lst (wrong.map .int)) false), some (.val (.int here)), x6, x7, x8, x9, none, none, none, none, none, none, x16, none, none]
/-- the same, the list of rows at rest -/
abbrev Eq (t : Talk) (role num : Int) (rows : List (Int × Option Part)) (wrong : List Int) (here : Int) (x6 x7 x8 x9 x16 : Option Sl) : Env :=
  [some (.val t.enc), some (.val (.int role)), some (.val (.int num)), some (.val (.lst (rows.map encR))), some (.own (.lst (wrong.map .int)) false), some (.val (.int here)), x6, x7, x8, x9, none, none, none, none, none, none, x16, none, none]
/-- what part does, down to k -/
def PartSpec (self : FS) (k : Nat) : Prop := ∀ (t : Talk) (role num : Int), t.ht ≤ k → t.ht ≤ 39 → t.slim → (∃ a b c d, t.ok a b c d) → t.many ≤ 100000 → self [.val t.enc, .val (.int role), .val (.int num)] = some (.val (.tup [encO (t.part role num).1, il (t.part role num).2]), [.val t.enc, .val (.int role), .val (.int num)])
theorem many_frz {a : DE} {ρ ρ' : Env} {t : Talk} (s : t.slim) (h40 : t.ht ≤ 40) (h : a ρ = some (t.enc, ρ')) : dFrz (callS (f__law_many 40) [.val a]) ρ = some (.int t.many, ρ') := by
  have e := many_ok 40 t h40 s
  simp [h, e]
theorem Rows.ok_mem {names taken roles : List Int} : ∀ {r : Rows} {x : Int × Talk}, r.ok names taken roles → x ∈ r.list → x.2.ok names [] taken roles
  | .nil, _, _, h => by simp [Rows.list] at h
  | .cons _ u r, x, s, h => by
    simp only [Rows.list, List.mem_cons] at h
    rcases h with rfl | h
    · exact s.1
    · exact Rows.ok_mem s.2 h
theorem part_rows {self : FS} {k : Nat} (S : PartSpec self k) (t : Talk) (r : Rows) (role num here : Int) (hk : r.ht ≤ k) (h39 : r.ht ≤ 39) (s : r.slim) (o : ∃ a b c, r.ok a b c) (hl : r.letters.length ≤ 4) (hm : r.many ≤ 100000) :
    ∃ x6 x7 x9 x16, Vs x6 ∧ Vs x7 ∧ Vs x9 ∧ Vs x16 ∧ forL (gTp (gsCons (gN 6) (gsCons (gN 7) gsNil))) (b__law_part_8 self) (r.list.map encRow) (Ep t role num [] [] here none none none none none) =
      some (.nx (Ep t role (num + r.many) (r.parts role num).1 (r.parts role num).2 here x6 x7 none x9 x16)) := by
  obtain ⟨ρ', e, x6, x7, x9, x16, h6, h7, h9, h16, rfl⟩ := forL_map (g := gTp (gsCons (gN 6) (gsCons (gN 7) gsNil))) (b := b__law_part_8 self) (enc := encRow)
    (fun us ρ => ∃ x6 x7 x9 x16, Vs x6 ∧ Vs x7 ∧ Vs x9 ∧ Vs x16 ∧ ρ = Ep t role (num + accN us) (accR role us num) (accW role us num) here x6 x7 none x9 x16)
    r.list (Ep t role num [] [] here none none none none none) ⟨none, none, none, none, vs_n, vs_n, vs_n, vs_n, by simp [accN, accR, accW]⟩ (by
      rintro done u rest ρ hi ⟨x6, x7, x9, x16, h6, h7, h9, h16, rfl⟩
      have hu : u ∈ r.list := by rw [hi]; simp
      have hut := Rows.list_mem hu
      have hus := Rows.slim_mem s hut
      have huh := Rows.ht_mem hut
      obtain ⟨oa, ob, oc, o⟩ := o
      have huo := Rows.ok_mem o hu
      have hmu : u.2.many ≤ r.many := by
        rw [← accN_list, hi, show done ++ u :: rest = (done ++ [u]) ++ rest by simp]
        have := accN_le (us := done ++ [u]) (vs := rest)
        rw [accN_snoc] at this
        omega
      have e := S u.2 role (num + accN done) (by omega) (by omega) hus ⟨_, _, _, _, huo⟩ (by omega)
      have em := many_ok 40 u.2 (by omega) hus
      have hd : done.length ≤ 4 := by
        have := congrArg List.length hi
        have h4 := hl
        rw [← Rows.list_letters, List.length_map] at h4
        simp at this
        omega
      have hz : (accR role done num).length < 16777216 := by rw [accR_len]; omega
      have hw : (accW role done num).length + (u.2.part role (num + accN done)).2.length ≤ 16777216 := by
        have h1 := accW_len role (done ++ [u]) num
        have h2 : accN (done ++ [u]) ≤ r.many := by rw [← accN_list, hi, show done ++ u :: rest = (done ++ [u]) ++ rest by simp]; exact accN_le
        rw [accW_snoc, List.length_append] at h1
        omega
      refine ⟨_, ?_, some (.val (.int u.1)), some (.val u.2.enc), some (.val (encO (u.2.part role (num + accN done)).1)), some (.val (il (u.2.part role (num + accN done)).2)), vs_v _, vs_v _, vs_v _, vs_v _, rfl⟩
      rw [accR_snoc, accW_snoc, accN_snoc]
      unfold turnS b__law_part_8 encRow
      have hn : num + (accN done : Int) + (u.2.many : Int) = num + ((accN done + u.2.many : Nat) : Int) := by omega
      simp [setS_free h6.free, setS_free h7.free, setS_free h9.free, setS_free h16.free, e, em, sz, appT_d, hz, hw, encR, hn])
  rw [accN_list] at e
  rw [parts_acc]
  exact ⟨x6, x7, x9, x16, h6, h7, h9, h16, e⟩
theorem cutD_tail (xs : List D) : cutD xs (some 1) none = xs.tail := by
  unfold cutD
  cases xs with
  | nil => simp
  | cons x xs =>
    have e : HT.sIx (x :: xs).length 0 (some 1) = 1 := by simp [HT.sIx]
    have e2 : HT.sIx (x :: xs).length (x :: xs).length none = (x :: xs).length := rfl
    rw [e, e2]
    simp
theorem fEq_ints (a b : List Int) : fEq (.lst (a.map .int)) (.lst (b.map .int)) = some (.bl (decide (a = b))) := by
  rw [fEq_d (.inl (by simp [deps_ints, deepest]))]
  congr 2
  rw [Bool.eq_iff_iff, peq_lst, peqs_iff _ _ (clns_ints a) (clns_ints b), decide_eq_true_eq]
  exact ⟨map_int_inj, fun e => by rw [e]⟩
/-- the branches put together -/
theorem part_fold (t : Talk) (role num : Int) (rows : List (Int × Option Part)) (wrong : List Int) (here : Int) (x6 x7 x9 x16 : Option Sl) (h6 : Vs x6) (h9 : Vs x9) (w : Part) (ps : List (Int × Part)) (B : Nat) (hB : B ≤ 40) (gw : w.slim ∧ w.ht ≤ B) (gp : ∀ x ∈ ps, x.2.slim ∧ x.2.ht ≤ B) :
    ∃ y6 y9, Vs y6 ∧ Vs y9 ∧ forL (gTp (gsCons (gN 6) (gsCons (gN 9) gsNil))) b__law_part_2 (ps.map encP) (Eq t role num rows wrong here x6 x7 (some (.val w.enc)) x9 x16) =
      some (.nx (Eq t role num rows wrong here y6 x7 (some (.val (encO (foldMerge (some w) (ps.map (·.2)))))) y9 x16)) := by
  obtain ⟨ρ', e, y6, y9, h6, h9, _, rfl⟩ := forL_map (g := gTp (gsCons (gN 6) (gsCons (gN 9) gsNil))) (b := b__law_part_2) (enc := encP)
    (fun us ρ => ∃ y6 y9, Vs y6 ∧ Vs y9 ∧ (∀ p, foldMerge (some w) (us.map (·.2)) = some p → p.slim ∧ p.ht ≤ B) ∧ ρ = Eq t role num rows wrong here y6 x7 (some (.val (encO (foldMerge (some w) (us.map (·.2)))))) y9 x16)
    ps (Eq t role num rows wrong here x6 x7 (some (.val w.enc)) x9 x16) ⟨x6, x9, h6, h9, fun p hp => by cases hp; exact gw, rfl⟩ (by
      rintro done u rest ρ hi ⟨y6, y9, h6, h9, hg, rfl⟩
      have gu := gp u (by rw [hi]; simp)
      have ef : foldMerge (some w) ((done ++ [u]).map (·.2)) = (foldMerge (some w) (done.map (·.2))).bind fun p => merge 40 p u.2 := by
        unfold foldMerge
        rw [List.map_append, List.foldl_append]
        rfl
      refine ⟨_, ?_, some (.val (.int u.1)), some (.val u.2.enc), vs_v _, vs_v _, fun p hp => ?_, rfl⟩
      · rw [ef]
        unfold turnS b__law_part_2 encP
        cases em : foldMerge (some w) (done.map (·.2)) with
        | none => simp [setS_free h6.free, setS_free h9.free]
        | some p =>
          have gp' := hg p em
          have e := merge_fun 40 p u.2 (by omega) (by omega) gp'.1 gu.1
          simp [setS_free h6.free, setS_free h9.free, e]
      · rw [ef] at hp
        obtain ⟨q, e1, e2⟩ := Option.bind_eq_some_iff.mp hp
        have hq := hg q e1
        have := merge_ok 40 q u.2 p e2
        exact ⟨this.2.2.1 hq.1 gu.1, by have := this.2.2.2.1; omega⟩)
  exact ⟨y6, y9, h6, h9, e⟩
theorem encR_some (ps : List (Int × Part)) : (ps.map fun x => (x.1, some x.2)).map encR = ps.map encP := by
  rw [List.map_map]; rfl
/-- the last part of part, behind the branches -/
theorem part_say (s h : Int) (r : Rows) (role num wh num0 : Int) (x6 x7 x9 x16 : Option Sl) (h6 : Vs x6) (h7 : Vs x7) (h9 : Vs x9) (h16 : Vs x16) (rows : List (Int × Option Part)) (wrong : List Int) (B : Nat) (hB : B ≤ 40) (hr : ∀ x ∈ rows, ∀ p, x.2 = some p → p.slim ∧ p.ht ≤ B) (hn : rows ≠ []) (hl : rows.length ≤ 4) (hw : wrong.length ≤ 1000000) :
    (b__law_part_7 (Ep (.say s h r) role num rows wrong wh x6 x7 none x9 x16)).bind (retF [.val (Talk.say s h r).enc, .val (.int role), .val (.int num0)]) =
      some (.val (match allSome rows with
        | none => .tup [.non, il wrong]
        | some ps => if role = s then .tup [(Part.act true h (.ofList ps)).enc, il wrong] else if role = h then .tup [(Part.act false s (.ofList ps)).enc, il wrong]
          else .tup [encO (foldMerge (ps.head?.map (·.2)) (ps.tail.map (·.2))), il (wrong ++ noneAt (foldMerge (ps.head?.map (·.2)) (ps.tail.map (·.2))) wh)]),
        [.val (Talk.say s h r).enc, .val (.int role), .val (.int num0)]) := by
  have cnt : (dFrz (sComp [6, 9] (iVal (dV 3)) (gTp (gsCons (gN 6) (gsCons (gN 9) gsNil))) (tOf (d2 fIsN (.o 9) (.e (dC .non)))) (dC (.int 1)))) (Ep (.say s h r) role num rows wrong wh x6 x7 none x9 x16) =
      some (.lst ((rows.filter fun x => decide (x.2 = none)).map fun _ => .int 1), Eq (.say s h r) role num rows wrong wh x6 x7 none x9 x16) := by
    have c := compL_map (vs := [6, 9]) (g := gTp (gsCons (gN 6) (gsCons (gN 9) gsNil))) (c := tOf (d2 fIsN (.o 9) (.e (dC .non)))) (e := dC (.int 1)) (ρ := Eq (.say s h r) role num rows wrong wh none x7 none none x16) (enc := encR) (fun x => if x.2 = none then some (.int 1) else none) rows fun y _ => by
      unfold turnC encR
      by_cases hy : y.2 = none
      · simp [hy, wipeG, noOwn, wipeE]
      · obtain ⟨p, hp⟩ := Option.ne_none_iff_exists'.mp hy
        simp [hp, wipeG, noOwn, wipeE]
    rw [filterMap_if (fun x : Int × Option Part => x.2 = none)] at c
    have hz : (rows.filter fun x => decide (x.2 = none)).length ≤ 16777216 := by have := List.length_filter_le (fun x : Int × Option Part => decide (x.2 = none)) rows; omega
    generalize (rows.filter fun x => decide (x.2 = none)) = fl at *
    simp only [Eq] at c
    rcases h6 with rfl | ⟨d6, rfl⟩ <;> rcases h9 with rfl | ⟨d9, rfl⟩ <;> simp [wipeG, noOwn, wipeE, backE, c, sz, hz]
  unfold b__law_part_7 t__law_part_6
  cases ea : allSome rows with
  | none =>
    obtain ⟨x, hx, hx2⟩ := allSome_none.mp ea
    have hp : 0 < (rows.filter fun x => decide (x.2 = none)).length := List.length_pos_of_mem (List.mem_filter.mpr ⟨hx, by simpa using hx2⟩)
    generalize (rows.filter fun x => decide (x.2 = none)) = fl at *
    simp [-dFrz_d, -sComp_d, cnt, hp, sz]
  | some ps =>
    have hx := allSome_eq ea
    have hp : (rows.filter fun x => decide (x.2 = none)) = [] := by
      rw [List.filter_eq_nil_iff, hx]
      intro x hx'
      obtain ⟨y, _, rfl⟩ := List.mem_map.mp hx'
      simp
    rw [hp] at cnt
    have hps : ∀ x ∈ ps, x.2.slim ∧ x.2.ht ≤ B := fun x hx' => hr (x.1, some x.2) (by rw [hx]; exact List.mem_map.mpr ⟨x, hx', rfl⟩) x.2 rfl
    have hlen : ps.length = rows.length := by rw [hx, List.length_map]
    clear hp
    have hsh : role = s ∨ role = h → (t__law_part_4 (Eq (.say s h r) role num rows wrong wh x6 x7 none x9 x16)) = some (true, Eq (.say s h r) role num rows wrong wh x6 x7 none x9 x16) := fun q => by
      unfold t__law_part_4
      have := fIn_ti (neg := false) role [s, h]
      simp only [List.map_cons, List.map_nil] at this
      simp [Talk.enc, sz, this]
      exact q
    have hnh : ¬ (role = s ∨ role = h) → (t__law_part_4 (Eq (.say s h r) role num rows wrong wh x6 x7 none x9 x16)) = some (false, Eq (.say s h r) role num rows wrong wh x6 x7 none x9 x16) := fun q => by
      unfold t__law_part_4
      have := fIn_ti (neg := false) role [s, h]
      simp only [List.map_cons, List.map_nil] at this
      simp [Talk.enc, sz, this]
      exact ⟨fun z => q (.inl z), fun z => q (.inr z)⟩
    have hrm : rows.map encR = ps.map encP := by rw [hx, encR_some]
    by_cases h1 : role = s
    · subst h1
      have h4 := hsh (.inl rfl)
      simp only [if_pos, Talk.enc, Eq, hrm] at h4 cnt ⊢
      simp [-dFrz_d, -sComp_d, cnt, h4, b__law_part_5, sz, Part.enc, hrm, ofList_enc, wd]
    · by_cases h2 : role = h
      · subst h2
        have h4 := hsh (.inr rfl)
        simp only [if_neg h1, if_pos, Talk.enc, Eq, hrm] at h4 cnt ⊢
        simp [-dFrz_d, -sComp_d, cnt, h4, b__law_part_5, sz, h1, Part.enc, hrm, ofList_enc, wd]
      · have h4 := hnh (by intro z; exact z.elim h1 h2)
        simp only [if_neg h1, if_neg h2]
        cases ps with
        | nil => simp at hlen; exact absurd (List.eq_nil_of_length_eq_zero hlen.symm) hn
        | cons u ps =>
          obtain ⟨y6, y9, g6, g9, ef⟩ := part_fold (.say s h r) role num rows wrong wh x6 x7 x9 x16 h6 h9 u.2 ps B hB (hps u List.mem_cons_self) fun x hx => hps x (List.mem_cons_of_mem _ hx)
          simp only [List.head?_cons, Option.map_some, List.tail_cons]
          generalize foldMerge (some u.2) (ps.map (·.2)) = fm at *
          have hz : wrong.length + 1 ≤ 16777216 := by omega
          have hz0 : wrong.length ≤ 16777216 := by omega
          simp only [Talk.enc, Eq, hrm, List.map_cons, encP] at h4 cnt ef ⊢
          cases fm with
          | none => simp [-dFrz_d, -sComp_d, noneAt, cnt, h4, b__law_part_3, cutD_tail, b__law_part_1, sz, ef, hz, hz0, hrm, encP, dFrz_d (s2S _ _ _), dFrz_d (sLst _), dFrz_d (sSlS _ _ _)]
          | some p => simp [-dFrz_d, -sComp_d, noneAt, cnt, h4, b__law_part_3, cutD_tail, b__law_part_1, sz, ef, hz, hz0, hrm, encP, dFrz_d (s2S _ _ _), dFrz_d (sLst _), dFrz_d (sSlS _ _ _)]
end ET
set_option Elab.async false
set_option maxRecDepth 100000
/-! The laws' helpers, plain: part, parted, parts, good_talk. -/
namespace ET
open PySem L2
theorem ret_stays {x : Option Res} {xs : List Arg} {r : Sl × List Arg} {C : Env → Option Res} (h : x.bind (retF xs) = some r) (hn : r.1 ≠ .val .non) : (x.bind fun r => match r with | .nx ρ' => C ρ' | r => some r).bind (retF xs) = some r := by
  cases x with
  | none => cases h
  | some y =>
    cases y with
    | rt s ρ => exact h
    | nx ρ => simp at h; subst h; exact absurd rfl hn
    | bk ρ => cases h
    | ct ρ => cases h
/-- the loop in which the role is not -/
theorem part_out (n : Int) (b : Talk) (role num : Int) (s : (Talk.loop n b).slim) (h : b.ht ≤ 40) :
    (b__law_part_13 (envOf 19 [.val (Talk.loop n b).enc, .val (.int role), .val (.int num)])).bind (retF [.val (Talk.loop n b).enc, .val (.int role), .val (.int num)]) =
      some (.val (match b.ways.filter fun x => decide (x ≠ -1 ∧ x ≠ n) with
        | [] => .tup [Part.fin.enc, il []]
        | o :: _ => if b.ways = [o] then .tup [(Part.again o).enc, il []] else .tup [.non, il [num]]),
        [.val (Talk.loop n b).enc, .val (.int role), .val (.int num)]) := by
  have e := ways_fun 40 b h s.2
  have hw := b.ways_ok s.2
  have c : ∀ x : Sl, (x = .val (.lst (b.ways.map .int)) ∨ x = .own (.lst (b.ways.map .int)) false) → compL [18] (gN 18) t__law_part_12 (dV 18) (b.ways.map .int) [some (.val (Talk.loop n b).enc), some (.val (.int role)), some (.val (.int num)), none, none, none, none, none, none, none, none, none, none, none, some (.val (.lst (b.ways.map .int))), none, none, none, none] =
      some ((b.ways.filter fun x => decide (x ≠ -1 ∧ x ≠ n)).map .int, [some (.val (Talk.loop n b).enc), some (.val (.int role)), some (.val (.int num)), none, none, none, none, none, none, none, none, none, none, none, some (.val (.lst (b.ways.map .int))), none, none, none, none]) := fun _ _ => by
    have c := compL_map (vs := [18]) (g := gN 18) (c := t__law_part_12) (e := dV 18) (ρ := [some (.val (Talk.loop n b).enc), some (.val (.int role)), some (.val (.int num)), none, none, none, none, none, none, none, none, none, none, none, some (.val (.lst (b.ways.map .int))), none, none, none, none]) (enc := D.int) (fun x => if x ≠ -1 ∧ x ≠ n then some (.int x) else none) b.ways fun x _ => by
      have ft := fIn_ti (neg := true) x [-1, n]
      simp only [List.map_cons, List.map_nil] at ft
      unfold turnC t__law_part_12
      by_cases hx : x = -1
      · subst hx
        simp [Talk.enc, sz, ft, wipeG, noOwn, wipeE]
      · by_cases hx2 : x = n
        · subst hx2
          simp [Talk.enc, sz, ft, hx, wipeG, noOwn, wipeE]
        · simp [Talk.enc, sz, ft, hx, hx2, wipeG, noOwn, wipeE]
    rw [filterMap_if (fun x => x ≠ -1 ∧ x ≠ n)] at c
    exact c
  have c := c (.val (.lst (b.ways.map .int))) (.inl rfl)
  have hz : (b.ways.filter fun x => decide (x ≠ -1 ∧ x ≠ n)).length ≤ 16777216 := by have := List.length_filter_le (fun x => decide (x ≠ -1 ∧ x ≠ n)) b.ways; omega
  generalize hf : (b.ways.filter fun x => decide (x ≠ -1 ∧ x ≠ n)) = fl at *
  unfold b__law_part_13
  cases fl with
  | nil =>
    simp only [Talk.enc, List.map_nil] at c ⊢
    rcases e with e | e <;> simp [envOf, slOf, e, wipeG, noOwn, wipeE, backE, c, sz, b__law_part_11, Part.enc]
  | cons o fl =>
    have fe := fEq_ints b.ways [o]
    have hz' : fl.length ≤ 16777215 := by simp at hz; omega
    simp only [Talk.enc, List.map_cons, List.map_nil] at c fe ⊢
    by_cases ho : b.ways = [o]
    · simp only [ho, List.map_cons, List.map_nil] at c e fe ⊢
      rcases e with e | e <;> simp [envOf, slOf, e, wipeG, noOwn, wipeE, backE, c, sz, b__law_part_10, Part.enc, fe, hz']
    · rw [if_neg ho]
      rcases e with e | e <;> simp [envOf, slOf, e, wipeG, noOwn, wipeE, backE, c, sz, b__law_part_10, Part.enc, fe, ho, hz']
theorem part_fun (k : Nat) : PartSpec (f__law_part k) k := by
  induction k with
  | zero => intro t role num h; cases t <;> simp [Talk.ht] at h
  | succ k ih =>
    intro t role num h h39 s o hm
    show runF 3 19 (m__law_part (f__law_part k)) _ = _
    rw [runF_eq (by rfl)]
    unfold m__law_part
    cases t with
    | fin => simp [envOf, slOf, Talk.enc, t__law_part_22, b__law_part_23, fIn_tags, sz, Talk.part, Part.enc]
    | again n => simp [envOf, slOf, Talk.enc, t__law_part_22, b__law_part_23, fIn_tags, sz, Talk.part, Part.enc]
    | beside a b =>
      obtain ⟨n1, n2, n3, n4, r1, r2, _, _, _, o1, o2⟩ := o
      simp only [Talk.ht, Talk.many] at h h39 hm
      have e1 := ih a role (num + 1) (by omega) (by omega) s.1 ⟨_, _, _, _, o1⟩ (by omega)
      have e2 := ih b role (num + 1 + a.many) (by omega) (by omega) s.2 ⟨_, _, _, _, o2⟩ (by omega)
      have em := many_ok 40 a (by omega) s.1
      have er := roles_ok 40 b (by omega) s.2
      have l1 := a.part_len role (num + 1)
      have l2 := b.part_len role (num + 1 + a.many)
      have hz : (a.part role (num + 1)).2.length + (b.part role (num + 1 + a.many)).2.length ≤ 16777216 := by omega
      have fi := fIn_li (neg := false) role b.rol
      by_cases hr : role ∈ b.rol
      · simp [envOf, slOf, Talk.enc, t__law_part_22, b__law_part_21, t__law_part_19, b__law_part_20, fIn_tags, sz, Talk.part, e1, e2, em, er, fi, hz, hr]
      · simp [envOf, slOf, Talk.enc, t__law_part_22, b__law_part_21, t__law_part_19, b__law_part_20, fIn_tags, sz, Talk.part, e1, e2, em, er, fi, hz, hr]
    | loop n b =>
      have er := roles_ok 40 (.loop n b) (by omega) s
      have fi := fIn_li (neg := false) role (Talk.loop n b).rol
      obtain ⟨n1, n2, n3, n4, o1⟩ := o
      by_cases hr : role ∈ (Talk.loop n b).rol
      · simp only [Talk.ht, Talk.many] at h h39 hm
        have e1 := ih b role (num + 1) (by omega) (by omega) s.2 ⟨_, _, _, _, o1.2.2.2⟩ (by omega)
        simp only [Talk.part, if_pos hr]
        have ok := fun p => b.part_ok role _ _ _ _ (num + 1) p o1.2.2.2 s.2
        generalize b.part role (num + 1) = x at *
        obtain ⟨x, w⟩ := x
        simp only [Talk.enc] at er ⊢
        cases x with
        | none => simp [envOf, slOf, t__law_part_22, b__law_part_21, t__law_part_19, b__law_part_18, t__law_part_16, b__law_part_17, t__law_part_14, b__law_part_15, fIn_tags, sz, e1, er, fi, hr]
        | some p =>
          have g := (ok p rfl).1
          have eg := goes_fun 40 p n (by have := g.2.1; omega) g.1
          by_cases hg : p.goes n = true
          · simp [envOf, slOf, t__law_part_22, b__law_part_21, t__law_part_19, b__law_part_18, t__law_part_16, b__law_part_17, t__law_part_14, b__law_part_15, fIn_tags, sz, e1, er, fi, hr, eg, hg, Part.enc]
          · simp [envOf, slOf, t__law_part_22, b__law_part_21, t__law_part_19, b__law_part_18, t__law_part_16, b__law_part_17, t__law_part_14, b__law_part_15, fIn_tags, sz, e1, er, fi, hr, eg, hg, Part.enc]
      · simp only [Talk.ht, Talk.many] at h h39 hm
        have e1 := part_out n b role num s (by omega)
        simp only [Talk.part, if_neg hr]
        generalize (b.ways.filter fun x => decide (x ≠ -1 ∧ x ≠ n)) = fl at e1 ⊢
        simp only [envOf, slOf, Talk.enc, List.map_cons, List.map_nil, List.length_cons, List.length_nil, List.replicate, List.cons_append, List.nil_append] at e1 er ⊢
        simp [t__law_part_22, b__law_part_21, t__law_part_19, b__law_part_18, t__law_part_16, b__law_part_17, t__law_part_14, fIn_tags, sz, er, fi, hr]
        refine ret_stays (e1.trans ?_) ?_
        · cases fl with
          | nil => simp [Part.enc]
          | cons o fl => by_cases ho : b.ways = [o] <;> simp [Part.enc, ho]
        · simp
    | say s' h' r =>
      obtain ⟨n1, n2, n3, n4, o1, o2, o3, o4, o5, o6, o7, o8⟩ := o
      simp only [Talk.ht, Talk.many] at h h39 hm
      obtain ⟨x6, x7, x9, x16, h6, h7, h9, h16, e⟩ := part_rows ih (.say s' h' r) r role (num + 1) num (by omega) (by omega) s.2.2 ⟨_, _, _, o8⟩ s.2.1.1 (by omega)
      have ok := (r.parts_ok role _ _ _ (num + 1) o8 s.2.2).1
      have hlen : (r.parts role (num + 1)).1.length = r.letters.length := by rw [← r.parts_letters role (num + 1), List.length_map]
      have hwl := r.parts_len role (num + 1)
      have e2 := part_say s' h' r role (num + 1 + r.many) num num x6 x7 x9 x16 h6 h7 h9 h16 (r.parts role (num + 1)).1 (r.parts role (num + 1)).2 r.ht (by omega) (fun x hx p hp => ⟨(ok x hx p hp).1, (ok x hx p hp).2.1⟩)
        (fun z => o4 (List.eq_nil_of_length_eq_zero (by rw [← hlen, z]; rfl))) (by have := s.2.1.1; omega) (by omega)
      simp only [Talk.part]
      generalize r.parts role (num + 1) = x at *
      obtain ⟨rows, wrong⟩ := x
      simp only [Ep, List.map_nil, Talk.enc, Rows.enc_list] at e e2 ⊢
      simp [envOf, slOf, t__law_part_22, b__law_part_21, t__law_part_19, b__law_part_18, t__law_part_16, b__law_part_9, fIn_tags, sz, e, e2]
      cases allSome rows with
      | none => simp
      | some ps =>
        dsimp only
        split
        · simp
        · split <;> simp
/-- part and place of one role -/
def Talk.parted (t : Talk) (role : Int) : Option Part := if (t.part role 0).2 = [] then (t.part role 0).1 else none
/-- what is known of a drawn talk -/
structure Talk.fine (t : Talk) : Prop where
  sl : t.slim
  ok : ∃ a b c d, t.ok a b c d
  ht : t.ht ≤ 5
  mn : t.many ≤ 100000
theorem min_ints (a : Int) (l : List Int) : ∃ m, fMin (.lst ((a :: l).map .int)) = some (.int m) := by
  unfold fMin lstOf
  rw [Option.bind_some, intsOf_map, Option.bind_some]
  exact ⟨_, rfl⟩
theorem parted_fun (t : Talk) (role : Int) (f : t.fine) : ∃ d, f__law_parted [.val t.enc, .val (.int role)] = some (.val (.tup [encO (t.parted role), d]), [.val t.enc, .val (.int role)]) := by
  have e := part_fun 40 t role 0 (by have := f.ht; omega) (by have := f.ht; omega) f.sl f.ok f.mn
  unfold f__law_parted Talk.parted
  rw [runF_eq (by rfl)]
  unfold m__law_parted
  generalize t.part role 0 = x at *
  obtain ⟨x, w⟩ := x
  cases w with
  | nil =>
    simp only [List.map_nil] at e
    refine ⟨.non, ?_⟩
    simp [envOf, slOf, e, sz]
  | cons a l =>
    obtain ⟨m, hm⟩ := min_ints a l
    simp only [il, List.map_cons] at e hm
    refine ⟨.int m, ?_⟩
    simp [envOf, slOf, e, sz, hm]
def Talk.parts (t : Talk) : Option (List Part) := match t.parted 0, t.parted 1, t.parted 2, t.parted 3 with
  | some a, some b, some c, some d => some [a, b, c, d]
  | _, _, _, _ => none
def encPs : Option (List Part) → D
  | none => .non
  | some ps => .lst (ps.map Part.enc)
@[simp] theorem peq_non_enc (p : Part) : peq p.enc .non = false := by cases p <;> rfl
theorem parts_fun (t : Talk) (f : t.fine) : f__law_parts [.val t.enc] = some (.val (encPs t.parts), [.val t.enc]) ∨ ∃ ps, t.parts = some ps ∧ f__law_parts [.val t.enc] = some (.own (.lst (ps.map Part.enc)) false, [.val t.enc]) := by
  obtain ⟨d0, e0⟩ := parted_fun t 0 f
  obtain ⟨d1, e1⟩ := parted_fun t 1 f
  obtain ⟨d2, e2⟩ := parted_fun t 2 f
  obtain ⟨d3, e3⟩ := parted_fun t 3 f
  have c := compL_self (vs := [2]) (g := gN 2) (c := tYesD) (e := e__law_parts_1) (ρ := [some (.val t.enc), none, none]) (fun d => match d with | .int i => some (encO (t.parted i)) | _ => none) [.int 0, .int 1, .int 2, .int 3] (by
    intro y hy
    unfold turnC e__law_parts_1
    simp at hy
    rcases hy with rfl | rfl | rfl | rfl
    · simp [e0, wipeG, noOwn, wipeE]
    · simp [e1, wipeG, noOwn, wipeE]
    · simp [e2, wipeG, noOwn, wipeE]
    · simp [e3, wipeG, noOwn, wipeE])
  simp only [List.filterMap_cons, List.filterMap_nil] at c
  have hr : rangeD 0 4 = [.int 0, .int 1, .int 2, .int 3] := rfl
  unfold f__law_parts Talk.parts
  rw [runF_eq (by rfl)]
  unfold m__law_parts
  have hin : ∀ a b c d : Option Part, fIn true .non (.lst [encO a, encO b, encO c, encO d]) = some (.bl (!(a.isNone || b.isNone || c.isNone || d.isNone))) := fun a b c d => by
    rw [fIn_l (.inl (by simp))]
    cases a <;> cases b <;> cases c <;> cases d <;> simp
  left
  have hI := hin (t.parted 0) (t.parted 1) (t.parted 2) (t.parted 3)
  generalize t.parted 0 = a at *
  generalize t.parted 1 = b at *
  generalize t.parted 2 = c' at *
  generalize t.parted 3 = d at *
  cases a <;> cases b <;> cases c' <;> cases d <;> simp_all [envOf, slOf, iR1, wipeG, noOwn, wipeE, backE, sz, encPs]
end ET
set_option Elab.async false
set_option maxRecDepth 100000
/-! Parts gone around: plain. -/
namespace ET
open PySem L2
mutual
def Part.put : Part → Int → Part → Part
  | .fin, _, _ => .fin
  | .again m, n, q => if m = n then q else .again m
  | .loop m b, n, q => if m = n then .loop m b else .loop m (b.put n q)
  | .act w o r, n, q => .act w o (r.put n q)
def PRows.put : PRows → Int → Part → PRows
  | .nil, _, _ => .nil
  | .cons l t r, n, q => .cons l (t.put n q) (r.put n q)
end
theorem PRows.list_put (n : Int) (q : Part) : ∀ r : PRows, (r.put n q).list = r.list.map fun x => (x.1, x.2.put n q)
  | .nil => rfl
  | .cons l t r => by simp only [PRows.put, PRows.list, List.map_cons, PRows.list_put n q r]
/-- loops at the beginning -/
def Part.hl : Part → Nat
  | .loop _ b => b.hl + 1
  | _ => 0
def Part.opn : Nat → Part → Part
  | k + 1, .loop n b => (b.put n (.loop n b)).opn k
  | _, p => p
/-- gone around -/
def Part.opened (p : Part) : Part := p.opn p.hl
theorem Part.put_acts {n : Int} {q : Part} : ∀ {p : Part}, p.acts = true → (p.put n q).acts = true ∧ (p.put n q).hl = p.hl
  | .fin, h => by cases h
  | .again m, h => by cases h
  | .loop m b, h => by
    unfold Part.put
    split
    · exact ⟨h, rfl⟩
    · have := Part.put_acts (n := n) (q := q) (p := b) h
      exact ⟨this.1, by simp only [Part.hl, this.2]⟩
  | .act _ _ _, _ => ⟨rfl, rfl⟩
/-- gone around, with what the walk needs -/
inductive Opn : Part → Part → Prop
  | done {p : Part} : p.hl = 0 → Opn p p
  | step {n : Int} {b o : Part} : b.acts = true → b.slim → b.ht ≤ 40 → Opn (b.put n (.loop n b)) o → Opn (.loop n b) o
theorem Opn.eq {p o : Part} (h : Opn p o) : o = p.opened := by
  induction h with
  | @done p h => cases p <;> first | rfl | cases h
  | @step n b o ha hs hh h ih =>
    rw [ih]
    unfold Part.opened
    rw [(Part.put_acts ha).2]
    rfl
mutual
/-- what again stands for put in -/
def Part.sub : List (Int × Part) → Part → Part
  | _, .fin => .fin
  | σ, .again n => (σ.lookup n).getD (.again n)
  | σ, .loop n b => .loop n (b.sub (σ.filter fun x => x.1 != n))
  | σ, .act w o r => .act w o (r.sub σ)
def PRows.sub : List (Int × Part) → PRows → PRows
  | _, .nil => .nil
  | σ, .cons l t r => .cons l (t.sub σ) (r.sub σ)
end
theorem PRows.list_sub (σ : List (Int × Part)) : ∀ r : PRows, (r.sub σ).list = r.list.map fun x => (x.1, x.2.sub σ)
  | .nil => rfl
  | .cons l t r => by simp only [PRows.sub, PRows.list, List.map_cons, PRows.list_sub σ r]
theorem PRows.letters_sub (σ : List (Int × Part)) : ∀ r : PRows, (r.sub σ).letters = r.letters
  | .nil => rfl
  | .cons l t r => by simp only [PRows.sub, PRows.letters, PRows.letters_sub σ r]
theorem lookup_filter_ne {n m : Int} (h : m ≠ n) : ∀ σ : List (Int × Part), (σ.filter fun x => x.1 != n).lookup m = σ.lookup m
  | [] => rfl
  | (k, q) :: σ => by
    have ih := lookup_filter_ne h σ
    by_cases e : k = n
    · subst e
      rw [List.filter_cons_of_neg (by simp), ih, List.lookup_cons]
      have : (m == k) = false := by simpa using h
      rw [this]
    · rw [List.filter_cons_of_pos (by simpa using e), List.lookup_cons, List.lookup_cons, ih]
theorem lookup_filter_eq (n : Int) : ∀ σ : List (Int × Part), (σ.filter fun x => x.1 != n).lookup n = none
  | [] => rfl
  | (k, q) :: σ => by
    have ih := lookup_filter_eq n σ
    by_cases e : k = n
    · rw [List.filter_cons_of_neg (by simpa using e)]; exact ih
    · rw [List.filter_cons_of_pos (by simpa using e), List.lookup_cons]
      have : (n == k) = false := by simpa using fun z => e z.symm
      rw [this]; exact ih
theorem lookup_mem {n : Int} {q : Part} : ∀ {σ : List (Int × Part)}, σ.lookup n = some q → (n, q) ∈ σ
  | [], h => by cases h
  | (k, p) :: σ, h => by
    rw [List.lookup_cons] at h
    by_cases e : n = k
    · subst e; simp at h; subst h; simp
    · have : (n == k) = false := by simpa using e
      rw [this] at h
      exact List.mem_cons_of_mem _ (lookup_mem h)
mutual
theorem Part.put_wf {n : Int} {q : Part} : ∀ (p : Part) (ns : List Int), p.wf ns → n ∉ ns → p.put n q = p
  | .fin, _, _, _ => rfl
  | .again m, ns, h, e => by
    unfold Part.put
    rw [if_neg]
    intro z; subst z; exact e h
  | .loop m b, ns, h, e => by
    unfold Part.put
    split
    · rfl
    · rename_i hm
      rw [Part.put_wf b (m :: ns) h.2 (by simp [e, Ne.symm hm])]
  | .act w o r, ns, h, e => by
    unfold Part.put
    rw [PRows.put_wf r ns h e]
theorem PRows.put_wf {n : Int} {q : Part} : ∀ (r : PRows) (ns : List Int), r.wf ns → n ∉ ns → r.put n q = r
  | .nil, _, _, _ => rfl
  | .cons l t r, ns, h, e => by
    unfold PRows.put
    rw [Part.put_wf t ns h.1 e, PRows.put_wf r ns h.2 e]
end
/-- all that is put in is closed -/
def Clo (σ : List (Int × Part)) : Prop := ∀ x ∈ σ, x.2.wf []
theorem Clo.filter {σ : List (Int × Part)} (h : Clo σ) (n : Int) : Clo (σ.filter fun x => x.1 != n) := fun x hx => h x (List.mem_filter.mp hx).1
mutual
theorem Part.put_sub {n : Int} {q : Part} : ∀ (p : Part) (σ : List (Int × Part)), Clo σ → (p.sub (σ.filter fun x => x.1 != n)).put n q = p.sub ((n, q) :: σ)
  | .fin, _, _ => rfl
  | .again m, σ, h => by
    simp only [Part.sub]
    rw [List.lookup_cons]
    by_cases e : m = n
    · subst e
      rw [lookup_filter_eq]
      simp [Part.put]
    · have e2 : (m == n) = false := by simpa using e
      rw [lookup_filter_ne e, e2]
      cases hl : σ.lookup m with
      | none => simp [Part.put, e]
      | some v =>
        simp only [Option.getD_some]
        exact Part.put_wf v [] (h _ (lookup_mem hl)) (by simp)
  | .loop m b, σ, h => by
    simp only [Part.sub]
    by_cases e : m = n
    · subst e
      rw [List.filter_cons_of_neg (by simp), List.filter_filter]
      simp [Part.put]
    · rw [List.filter_cons_of_pos (by simpa using fun z => e z.symm)]
      have := Part.put_sub (n := n) (q := q) b (σ.filter fun x => x.1 != m) (h.filter m)
      rw [List.filter_filter] at this ⊢
      have e3 : (fun a : Int × Part => (a.1 != m && a.1 != n)) = fun a => (a.1 != n && a.1 != m) := by funext a; exact Bool.and_comm _ _
      rw [e3]
      simp only [Part.put, if_neg e, this]
  | .act w o r, σ, h => by
    simp only [Part.sub, Part.put]
    rw [PRows.put_sub r σ h]
theorem PRows.put_sub {n : Int} {q : Part} : ∀ (p : PRows) (σ : List (Int × Part)), Clo σ → (p.sub (σ.filter fun x => x.1 != n)).put n q = p.sub ((n, q) :: σ)
  | .nil, _, _ => rfl
  | .cons l t r, σ, h => by
    simp only [PRows.sub, PRows.put]
    rw [Part.put_sub t σ h, PRows.put_sub r σ h]
end
mutual
theorem Part.sub_wf : ∀ (p : Part) (σ : List (Int × Part)) (ns ms : List Int), Clo σ → p.wf ns → (∀ n ∈ ns, n ∈ ms ∨ (σ.lookup n).isSome = true) → (p.sub σ).wf ms
  | .fin, _, _, _, _, _, _ => trivial
  | .again n, σ, ns, ms, h, w, c => by
    simp only [Part.sub]
    cases hl : σ.lookup n with
    | none =>
      have := c n w
      rw [hl] at this
      simpa [Part.wf] using this
    | some v => exact v.wf_mono [] ms (by simp) (h _ (lookup_mem hl))
  | .loop n b, σ, ns, ms, h, w, c => by
    refine ⟨(b.sub_acts _ w.1).1, b.sub_wf _ (n :: ns) (n :: ms) (h.filter n) w.2 fun x hx => ?_⟩
    by_cases e : x = n
    · subst e; exact .inl (by simp)
    · simp only [List.mem_cons] at hx ⊢
      rcases c x (hx.resolve_left e) with q | q
      · exact .inl (.inr q)
      · exact .inr (by rw [lookup_filter_ne e]; exact q)
  | .act w' o r, σ, ns, ms, h, w, c => r.sub_wf σ ns ms h w c
theorem Part.sub_acts : ∀ (p : Part) (σ : List (Int × Part)), p.acts = true → (p.sub σ).acts = true ∧ (p.sub σ).hl = p.hl
  | .fin, _, h => by cases h
  | .again m, _, h => by cases h
  | .loop m b, σ, h => by
    have := b.sub_acts (σ.filter fun x => x.1 != m) h
    exact ⟨this.1, by simp only [Part.sub, Part.hl, this.2]⟩
  | .act _ _ _, _, _ => ⟨rfl, rfl⟩
theorem PRows.sub_wf : ∀ (p : PRows) (σ : List (Int × Part)) (ns ms : List Int), Clo σ → p.wf ns → (∀ n ∈ ns, n ∈ ms ∨ (σ.lookup n).isSome = true) → (p.sub σ).wf ms
  | .nil, _, _, _, _, _, _ => trivial
  | .cons l t r, σ, ns, ms, h, w, c => ⟨t.sub_wf σ ns ms h w.1 c, r.sub_wf σ ns ms h w.2 c⟩
end
def Slm (σ : List (Int × Part)) (H : Nat) : Prop := ∀ x ∈ σ, x.2.slim ∧ x.2.ht ≤ H
theorem Slm.filter {σ : List (Int × Part)} {H : Nat} (h : Slm σ H) (n : Int) : Slm (σ.filter fun x => x.1 != n) H := fun x hx => h x (List.mem_filter.mp hx).1
mutual
theorem Part.sub_slim {H : Nat} : ∀ (p : Part) (σ : List (Int × Part)), Slm σ H → p.slim → (p.sub σ).slim ∧ (p.sub σ).ht ≤ p.ht + H
  | .fin, _, _, _ => ⟨trivial, by simp [Part.sub, Part.ht]⟩
  | .again n, σ, h, s => by
    simp only [Part.sub]
    cases hl : σ.lookup n with
    | none => exact ⟨trivial, by simp [Part.ht]⟩
    | some v =>
      have := h _ (lookup_mem hl)
      exact ⟨this.1, by simp only [Option.getD_some, Part.ht]; have := this.2; dsimp only at this; omega⟩
  | .loop n b, σ, h, s => by
    have := b.sub_slim (σ.filter fun x => x.1 != n) (h.filter n) s
    exact ⟨this.1, by simp only [Part.sub, Part.ht]; have := this.2; omega⟩
  | .act w o r, σ, h, s => by
    have := r.sub_slim σ h s.2.2.2
    refine ⟨⟨s.1, ?_, ?_, this.1⟩, by simp only [Part.sub, Part.ht]; have := this.2; omega⟩
    · rw [PRows.letters_sub]; exact s.2.1
    · rw [PRows.letters_sub]; exact s.2.2.1
theorem PRows.sub_slim {H : Nat} : ∀ (p : PRows) (σ : List (Int × Part)), Slm σ H → p.slim → (p.sub σ).slim ∧ (p.sub σ).ht ≤ p.ht + H
  | .nil, _, _, _ => ⟨trivial, by simp [PRows.sub, PRows.ht]⟩
  | .cons l t r, σ, h, s => by
    have h1 := t.sub_slim σ h s.1
    have h2 := r.sub_slim σ h s.2
    exact ⟨⟨h1.1, h2.1⟩, by simp only [PRows.sub, PRows.ht]; have := h1.2; have := h2.2; omega⟩
end
mutual
theorem Part.sub_nil : ∀ p : Part, p.sub [] = p
  | .fin => rfl
  | .again _ => rfl
  | .loop n b => by simp only [Part.sub, List.filter_nil, b.sub_nil]
  | .act w o r => by simp only [Part.sub, r.sub_nil]
theorem PRows.sub_nil : ∀ p : PRows, p.sub [] = p
  | .nil => rfl
  | .cons l t r => by simp only [PRows.sub, t.sub_nil, r.sub_nil]
end
/-- gone around, what is put in kept aside -/
def Part.os : List (Int × Part) → Part → Part
  | σ, .loop n b => b.os ((n, (Part.loop n b).sub σ) :: σ)
  | σ, p => p.sub σ
/-- what stands for again: closed, slim, not too deep -/
structure Cls (σ : List (Int × Part)) (ns : List Int) (H : Nat) : Prop where
  clo : Clo σ
  slm : Slm σ H
  has : ∀ n ∈ ns, (σ.lookup n).isSome = true
theorem Cls.more {σ : List (Int × Part)} {ns : List Int} {H : Nat} (c : Cls σ ns H) {n : Int} {b : Part} (w : (Part.loop n b).wf ns) (s : b.slim) : Cls ((n, (Part.loop n b).sub σ) :: σ) (n :: ns) (H + b.ht + 1) := by
  refine ⟨fun x hx => ?_, fun x hx => ?_, fun x hx => ?_⟩
  · simp only [List.mem_cons] at hx
    rcases hx with rfl | hx
    · exact Part.sub_wf _ σ ns [] c.clo w fun n hn => .inr (c.has n hn)
    · exact c.clo x hx
  · simp only [List.mem_cons] at hx
    rcases hx with rfl | hx
    · have := Part.sub_slim (Part.loop n b) σ c.slm s
      simp only [Part.ht] at this
      exact ⟨this.1, by have := this.2; dsimp only; omega⟩
    · have := c.slm x hx
      exact ⟨this.1, by have := this.2; omega⟩
  · rw [List.lookup_cons]
    by_cases e : x = n
    · subst e; simp
    · have e2 : (x == n) = false := by simpa using e
      rw [e2]
      simp only [List.mem_cons] at hx
      exact c.has x (hx.resolve_left e)
theorem sq_le (h H : Nat) (q : H + (h + 1) * (h + 2) ≤ 40) : H + h + 1 + h * (h + 1) ≤ 40 ∧ h + 1 + H ≤ 40 := by
  have e : (h + 1) * (h + 2) = h * (h + 1) + 2 * (h + 1) := by rw [Nat.mul_comm (h + 1) (h + 2), Nat.add_mul]
  have : 0 ≤ h * (h + 1) := Nat.zero_le _
  constructor <;> omega
theorem Part.opn_os : ∀ (p : Part) (σ : List (Int × Part)) (ns : List Int) (H : Nat), Cls σ ns H → p.wf ns → p.slim → p.acts = true → H + p.ht * (p.ht + 1) ≤ 40 → Opn (p.sub σ) (p.os σ)
  | .fin, _, _, _, _, _, _, h, _ => by cases h
  | .again m, _, _, _, _, _, _, h, _ => by cases h
  | .act _ _ _, _, _, _, _, _, _, _, _ => .done rfl
  | .loop n b, σ, ns, H, c, w, s, h, q => by
    obtain ⟨q1, q2⟩ := sq_le b.ht H q
    have c2 := c.more w s
    have sl := b.sub_slim (σ.filter fun x => x.1 != n) (c.slm.filter n) s
    refine .step (b.sub_acts _ w.1).1 sl.1 (by have := sl.2; omega) ?_
    have e := Part.put_sub (n := n) (q := (Part.loop n b).sub σ) b σ c.clo
    simp only [Part.sub] at e
    rw [e]
    exact b.opn_os _ (n :: ns) _ c2 w.2 s w.1 q1
mutual
/-- all instances of what stands in a part -/
def Part.subs : List (Int × Part) → Part → List Part
  | _, .fin => [.fin]
  | _, .again _ => []
  | σ, .loop n b => b.subs ((n, (Part.loop n b).sub σ) :: σ)
  | σ, .act w o r => (Part.act w o r).sub σ :: r.subs σ
def PRows.subs : List (Int × Part) → PRows → List Part
  | _, .nil => []
  | σ, .cons _ t r => t.subs σ ++ r.subs σ
end
theorem Part.os_mem : ∀ (p : Part) (σ : List (Int × Part)), p.acts = true → p.os σ ∈ p.subs σ
  | .fin, _, h => by cases h
  | .again m, _, h => by cases h
  | .act _ _ _, σ, _ => by simp [Part.os, Part.subs]
  | .loop n b, σ, h => by
    have := b.os_mem ((n, (Part.loop n b).sub σ) :: σ) h
    simpa [Part.os, Part.subs] using this
theorem Part.to_W {W : List Part} (p : Part) (σ : List (Int × Part)) (ns : List Int) (H : Nat) (c : Cls σ ns H) (w : p.wf ns) (s : p.slim) (q : H + p.ht * (p.ht + 1) ≤ 40) (g : ∀ x ∈ σ, ∃ o ∈ W, Opn x.2 o) (hW : ∀ v ∈ p.subs σ, v ∈ W) : ∃ o ∈ W, Opn (p.sub σ) o := by
  cases p with
  | fin => exact ⟨.fin, hW _ (by simp [Part.subs]), .done rfl⟩
  | again n =>
    have := c.has n w
    obtain ⟨v, hv⟩ := Option.isSome_iff_exists.mp this
    obtain ⟨o, ho, e⟩ := g _ (lookup_mem hv)
    refine ⟨o, ho, ?_⟩
    simp only [Part.sub, hv, Option.getD_some]
    exact e
  | loop n b => exact ⟨_, hW _ (Part.os_mem _ σ w.1), Part.opn_os _ σ ns H c w s w.1 q⟩
  | act w' o r => exact ⟨_, hW _ (Part.os_mem _ σ rfl), Part.opn_os _ σ ns H c w s rfl q⟩
/-- a state: nothing is to be gone around; what comes behind is a state again -/
structure Sta (W : List Part) (v : Part) : Prop where
  sl : v.slim
  ht : v.ht ≤ 40
  nx : v = .fin ∨ ∃ w o r, v = .act w o r ∧ ∀ x ∈ r.list, ∃ o ∈ W, Opn x.2 o
theorem ht_sq (h : Nat) : h ≤ h * (h + 1) := by
  have := Nat.le_mul_of_pos_right h (Nat.succ_pos h)
  exact this
theorem sq_mono {a b : Nat} (h : a ≤ b) : a * (a + 1) ≤ b * (b + 1) := Nat.mul_le_mul h (by omega)
mutual
theorem Part.subs_ok {W : List Part} : ∀ (p : Part) (σ : List (Int × Part)) (ns : List Int) (H : Nat), Cls σ ns H → p.wf ns → p.slim → H + p.ht * (p.ht + 1) ≤ 40 → (∀ x ∈ σ, ∃ o ∈ W, Opn x.2 o) → (∀ v ∈ p.subs σ, v ∈ W) → ∀ v ∈ p.subs σ, Sta W v
  | .fin, _, _, _, _, _, _, _, _, _, v, hv => by
    simp [Part.subs] at hv; subst hv
    exact ⟨trivial, by simp [Part.ht], .inl rfl⟩
  | .again _, _, _, _, _, _, _, _, _, _, v, hv => by simp [Part.subs] at hv
  | .loop n b, σ, ns, H, c, w, s, q, g, hW, v, hv => by
    obtain ⟨q1, q2⟩ := sq_le b.ht H q
    refine b.subs_ok _ (n :: ns) _ (c.more w s) w.2 s q1 (fun x hx => ?_) hW v hv
    simp only [List.mem_cons] at hx
    rcases hx with rfl | hx
    · exact (Part.loop n b).to_W σ ns H c w s q g hW
    · exact g x hx
  | .act w' o r, σ, ns, H, c, w, s, q, g, hW, v, hv => by
    have hr := r.subs_ok σ ns H c w s.2.2.2 (by
      have := sq_mono (Nat.le_succ r.ht)
      simp only [Part.ht, Nat.succ_eq_add_one] at q this
      omega) g (fun v hv => hW v (by simp [Part.subs, hv]))
    simp only [Part.subs, List.mem_cons] at hv
    rcases hv with rfl | hv
    · have sl := Part.sub_slim (Part.act w' o r) σ c.slm s
      refine ⟨sl.1, by have := sl.2; have := ht_sq (Part.act w' o r).ht; omega, .inr ⟨w', o, r.sub σ, rfl, fun x hx => ?_⟩⟩
      rw [PRows.list_sub] at hx
      obtain ⟨y, hy, rfl⟩ := List.mem_map.mp hx
      exact hr.2 y hy
    · exact hr.1 v hv
theorem PRows.subs_ok {W : List Part} : ∀ (p : PRows) (σ : List (Int × Part)) (ns : List Int) (H : Nat), Cls σ ns H → p.wf ns → p.slim → H + p.ht * (p.ht + 1) ≤ 40 → (∀ x ∈ σ, ∃ o ∈ W, Opn x.2 o) → (∀ v ∈ p.subs σ, v ∈ W) →
    (∀ v ∈ p.subs σ, Sta W v) ∧ ∀ x ∈ p.list, ∃ o ∈ W, Opn (x.2.sub σ) o
  | .nil, _, _, _, _, _, _, _, _, _ => ⟨by simp [PRows.subs], by simp [PRows.list]⟩
  | .cons l t r, σ, ns, H, c, w, s, q, g, hW => by
    simp only [PRows.ht] at q
    have q1 := sq_mono (Nat.le_max_left t.ht r.ht)
    have q2 := sq_mono (Nat.le_max_right t.ht r.ht)
    have W1 : ∀ v ∈ t.subs σ, v ∈ W := fun v hv => hW v (by simp [PRows.subs, hv])
    have W2 : ∀ v ∈ r.subs σ, v ∈ W := fun v hv => hW v (by simp [PRows.subs, hv])
    have h1 := t.subs_ok σ ns H c w.1 s.1 (by omega) g W1
    have h2 := r.subs_ok σ ns H c w.2 s.2 (by omega) g W2
    refine ⟨fun v hv => ?_, fun x hx => ?_⟩
    · simp only [PRows.subs, List.mem_append] at hv
      exact hv.elim (h1 v) (h2.1 v)
    · simp only [PRows.list, List.mem_cons] at hx
      rcases hx with rfl | hx
      · exact t.to_W σ ns H c w.1 s.1 (by omega) g W1
      · exact h2.2 x hx
end
mutual
theorem Part.subs_len : ∀ (p : Part) (σ : List (Int × Part)), p.slim → (p.subs σ).length ≤ 5 ^ p.ht
  | .fin, _, _ => by simp [Part.subs, Part.ht]
  | .again _, _, _ => by simp [Part.subs]
  | .loop n b, σ, s => by
    have := b.subs_len ((n, (Part.loop n b).sub σ) :: σ) s
    simp only [Part.subs, Part.ht, Nat.pow_succ]
    omega
  | .act w o r, σ, s => by
    have h1 := r.subs_len σ s.2.2.2
    have h2 := PRows.len4 s.2.1 s.2.2.1
    have h3 : r.list.length * 5 ^ r.ht ≤ 4 * 5 ^ r.ht := Nat.mul_le_mul_right _ h2
    have h4 : 1 ≤ 5 ^ r.ht := Nat.one_le_pow _ _ (by decide)
    simp only [Part.subs, List.length_cons, Part.ht, Nat.pow_succ]
    omega
theorem PRows.subs_len : ∀ (p : PRows) (σ : List (Int × Part)), p.slim → (p.subs σ).length ≤ p.list.length * 5 ^ p.ht
  | .nil, _, _ => by simp [PRows.subs]
  | .cons l t r, σ, s => by
    have h1 := t.subs_len σ s.1
    have h2 := r.subs_len σ s.2
    have h3 : 5 ^ t.ht ≤ 5 ^ max t.ht r.ht := Nat.pow_le_pow_right (by decide) (Nat.le_max_left _ _)
    have h4 : r.list.length * 5 ^ r.ht ≤ r.list.length * 5 ^ max t.ht r.ht := Nat.mul_le_mul_left _ (Nat.pow_le_pow_right (by decide) (Nat.le_max_right _ _))
    simp only [PRows.subs, PRows.list, List.length_append, List.length_cons, PRows.ht, Nat.add_mul]
    omega
end
/-- all states of a part -/
def Part.W (p : Part) : List Part := p.subs []
theorem Part.W_ok (p : Part) (g : p.good 5 []) : (∀ v ∈ p.W, Sta p.W v) ∧ p.W.length ≤ 3125 ∧ ∃ o ∈ p.W, Opn p o := by
  have c : Cls [] [] 0 := ⟨fun x h => by simp at h, fun x h => by simp at h, fun x h => by simp at h⟩
  have q : 0 + p.ht * (p.ht + 1) ≤ 40 := by
    have := sq_mono g.2.1
    omega
  refine ⟨p.subs_ok [] [] 0 c g.2.2 g.1 q (fun x h => by simp at h) fun v h => h, ?_, ?_⟩
  · have h1 := p.subs_len [] g.1
    have h2 : 5 ^ p.ht ≤ 5 ^ 5 := Nat.pow_le_pow_right (by decide) g.2.1
    unfold Part.W
    omega
  · have := p.to_W (W := p.W) [] [] 0 c g.2.2 g.1 q (fun x h => by simp at h) fun v h => h
    rw [p.sub_nil] at this
    exact this
end ET
set_option Elab.async false
set_option maxRecDepth 100000
/-! The laws' helpers: good_talk, put, open. -/
namespace ET
open PySem L2
mutual
theorem Talk.many_le : ∀ t : Talk, t.slim → t.many ≤ 5 ^ t.ht
  | .fin, _ => by simp [Talk.many, Talk.ht]
  | .again _, _ => by simp [Talk.many, Talk.ht]
  | .loop _ b, s => by
    have := b.many_le s.2
    have h4 : 1 ≤ 5 ^ b.ht := Nat.one_le_pow _ _ (by decide)
    simp only [Talk.many, Talk.ht, Nat.pow_succ]; omega
  | .beside a b, s => by
    have h1 := a.many_le s.1
    have h2 := b.many_le s.2
    have h3 : 5 ^ a.ht ≤ 5 ^ max a.ht b.ht := Nat.pow_le_pow_right (by decide) (Nat.le_max_left _ _)
    have h4 : 5 ^ b.ht ≤ 5 ^ max a.ht b.ht := Nat.pow_le_pow_right (by decide) (Nat.le_max_right _ _)
    have h5 : 1 ≤ 5 ^ max a.ht b.ht := Nat.one_le_pow _ _ (by decide)
    simp only [Talk.many, Talk.ht, Nat.pow_succ]; omega
  | .say _ _ r, s => by
    have h1 := r.many_le s.2.2
    have h2 : r.letters.length * 5 ^ r.ht ≤ 4 * 5 ^ r.ht := Nat.mul_le_mul_right _ s.2.1.1
    have h4 : 1 ≤ 5 ^ r.ht := Nat.one_le_pow _ _ (by decide)
    simp only [Talk.many, Talk.ht, Nat.pow_succ]; omega
theorem Rows.many_le : ∀ r : Rows, r.slim → r.many ≤ r.letters.length * 5 ^ r.ht
  | .nil, _ => by simp [Rows.many]
  | .cons _ t r, s => by
    have h1 := t.many_le s.1
    have h2 := r.many_le s.2
    have h3 : 5 ^ t.ht ≤ 5 ^ max t.ht r.ht := Nat.pow_le_pow_right (by decide) (Nat.le_max_left _ _)
    have h4 : r.letters.length * 5 ^ r.ht ≤ r.letters.length * 5 ^ max t.ht r.ht := Nat.mul_le_mul_left _ (Nat.pow_le_pow_right (by decide) (Nat.le_max_right _ _))
    simp only [Rows.many, Rows.letters, List.length_cons, Rows.ht, Nat.add_mul]; omega
end
theorem Talk.fine_of {t : Talk} {a b c d : List Int} (h : t.ok a b c d) (h1 : In4 a) (h2 : In4 d) (h3 : t.ht ≤ 5) : t.fine := by
  have s := t.ok_slim a b c d h1 h2 h
  refine ⟨s, ⟨a, b, c, d, h⟩, h3, ?_⟩
  have := t.many_le s
  have h2 : 5 ^ t.ht ≤ 5 ^ 5 := Nat.pow_le_pow_right (by decide) h3
  omega
/-- drawn, and what is known of its parts -/
structure Talk.fine0 (t : Talk) : Prop extends t.fine where
  ok0 : ∃ b c d, t.ok [] b c d
  nd0 : ∃ b c d, d.Nodup ∧ t.ok [] b c d
theorem Drawn.fine {t : Talk} (h : Drawn t) : t.fine0 := by
  obtain ⟨roles, hr, o, hh⟩ := h
  have hi : In4 roles := by
    rcases hr with rfl | rfl | rfl <;> intro x hx <;> simp at hx <;> omega
  have nd : roles.Nodup := by rcases hr with rfl | rfl | rfl <;> decide
  exact ⟨Talk.fine_of o (fun x hx => by simp at hx) hi hh, ⟨_, _, _, o⟩, ⟨_, _, _, nd, o⟩⟩
theorem Talk.parted_good {t : Talk} (f : t.fine0) {role : Int} {p : Part} (h : t.parted role = some p) : p.good 5 [] := by
  unfold Talk.parted at h
  split at h
  · obtain ⟨b, c, d, o⟩ := f.ok0
    have := (t.part_ok role [] b c d 0 p o f.sl h).1
    exact ⟨this.1, Nat.le_trans this.2.1 f.ht, this.2.2⟩
  · cases h
theorem Talk.parts_good {t : Talk} (f : t.fine0) {ps : List Part} (h : t.parts = some ps) : ps.length = 4 ∧ ∀ p ∈ ps, p.good 5 [] := by
  unfold Talk.parts at h
  split at h
  · rename_i a b c d e0 e1 e2 e3
    cases h
    refine ⟨rfl, fun p hp => ?_⟩
    simp at hp
    rcases hp with rfl | rfl | rfl | rfl
    · exact Talk.parted_good f e0
    · exact Talk.parted_good f e1
    · exact Talk.parted_good f e2
    · exact Talk.parted_good f e3
  · cases h
/-- a for whose turns go on or return -/
theorem forL_or {g : GE} {b : DS} (I : Env → Prop) (R : Sl → Env → Prop) : ∀ (ds : List D) (ρ : Env), I ρ → (∀ d ∈ ds, ∀ ρ, I ρ → (∃ ρ', turnS g b d ρ = some (.nx ρ') ∧ I ρ') ∨ ∃ s ρ', turnS g b d ρ = some (.rt s ρ') ∧ R s ρ') →
    (∃ ρ', forL g b ds ρ = some (.nx ρ') ∧ I ρ') ∨ ∃ s ρ', forL g b ds ρ = some (.rt s ρ') ∧ R s ρ'
  | [], ρ, h, _ => .inl ⟨ρ, rfl, h⟩
  | d :: ds, ρ, h, hs => by
    rcases hs d List.mem_cons_self ρ h with ⟨ρ1, e, h1⟩ | ⟨s, ρ1, e, h1⟩
    · rw [forL_nx e]
      exact forL_or I R ds ρ1 h1 fun x hx => hs x (List.mem_cons_of_mem _ hx)
    · exact .inr ⟨s, ρ1, forL_rt e, h1⟩
def lastTalk : Talk := .say 0 1 (.cons 0 .fin (.cons 1 (.say 1 0 (.cons 2 .fin .nil)) .nil))
theorem lastTalk_ok : lastTalk.fine0 ∧ lastTalk.parts ≠ none := by
  have o : lastTalk.ok [] [] [] [0, 1] := by simp [lastTalk, Talk.ok, Rows.ok, Rows.letters]
  refine ⟨⟨Talk.fine_of o (fun x hx => by simp at hx) (fun x hx => by simp at hx; omega) (by simp [lastTalk, Talk.ht, Rows.ht]), ⟨_, _, _, o⟩, ⟨_, _, _, by decide, o⟩⟩, ?_⟩
  have h : ∀ r : Int, r = 0 ∨ r = 1 ∨ r = 2 ∨ r = 3 → ∃ p, lastTalk.parted r = some p := by
    rintro r (rfl | rfl | rfl | rfl) <;> simp [lastTalk, Talk.parted, Talk.part, Rows.parts, allSome, foldMerge, merge, noneAt]
  obtain ⟨a, ha⟩ := h 0 (by simp)
  obtain ⟨b, hb⟩ := h 1 (by simp)
  obtain ⟨c, hc⟩ := h 2 (by simp)
  obtain ⟨d, hd⟩ := h 3 (by simp)
  unfold Talk.parts
  rw [ha, hb, hc, hd]
  simp
theorem good_talk_ok (p : Pool) : ∃ (q : Pool) (t : Talk), t.fine0 ∧ t.parts ≠ none ∧ f__law_good_talk [.io p.enc] = some (.val t.enc, [.io q.enc]) := by
  have h := forL_or (g := gN 1) (b := b__law_good_talk_3) (fun ρ => ∃ (q : Pool) (x1 x2 : Option Sl), Free x1 ∧ Free x2 ∧ ρ = [some (.own q.enc true), x1, x2])
    (fun s ρ => ∃ (q : Pool) (t : Talk) (r : Env), t.fine0 ∧ t.parts ≠ none ∧ s = .val t.enc ∧ ρ = some (.own q.enc true) :: r)
    (rangeD 0 12) [some (.own p.enc true), none, none] ⟨p, none, none, free_n, free_n, rfl⟩ (by
      rintro d hd ρ ⟨q, x1, x2, h1, h2, rfl⟩
      obtain ⟨q2, t, dr, e⟩ := talk_ok q
      have f := dr.fine
      have ps := parts_fun t f.tofine
      have hne : fNe t.enc (.tup [.str .«end»]) = some (.bl (!peq t.enc (.tup [.str .«end»]))) := fNe_d (.inr (by simp [deepest]))
      cases hp : t.parts with
      | none =>
        rw [hp] at ps
        rcases ps with ps | ⟨_, z, _⟩
        · left
          refine ⟨[some (.own q2.enc true), some (.val d), some (.val t.enc)], ?_, q2, _, _, free_v _, free_v _, rfl⟩
          unfold turnS b__law_good_talk_3 t__law_good_talk_2
          simp [setS_free h1, setS_free h2, e, ps, encPs]
        · cases z
      | some l =>
        have ps' : dFrz (callS f__law_parts [.val (dV 2)]) [some (.own q2.enc true), some (.val d), some (.val t.enc)] = some (.lst (l.map Part.enc), [some (.own q2.enc true), some (.val d), some (.val t.enc)]) := by
          rw [hp] at ps
          rcases ps with ps | ⟨l', z, ps⟩
          · simp [ps, encPs]
          · cases z; simp [ps]
        have nn : isNon (.lst (l.map Part.enc)) = false := rfl
        by_cases hq : peq t.enc (.tup [.str .«end»]) = true
        · left
          refine ⟨[some (.own q2.enc true), some (.val d), some (.val t.enc)], ?_, q2, _, _, free_v _, free_v _, rfl⟩
          unfold turnS b__law_good_talk_3 t__law_good_talk_2
          simp [-dFrz_d, setS_free h1, setS_free h2, e, ps', nn, hne, hq, sz]
        · right
          refine ⟨_, [some (.own q2.enc true), some (.val d), some (.val t.enc)], ?_, q2, t, _, f, by rw [hp]; simp, rfl, rfl⟩
          unfold turnS b__law_good_talk_3 t__law_good_talk_2
          simp [-dFrz_d, setS_free h1, setS_free h2, e, ps', nn, hne, hq, sz])
  unfold f__law_good_talk
  rw [runF_eq (by rfl)]
  unfold m__law_good_talk
  rcases h with ⟨ρ', e, q, x1, x2, h1, h2, rfl⟩ | ⟨s, ρ', e, q, t, r, f, hp, rfl, rfl⟩
  · refine ⟨q, lastTalk, lastTalk_ok.1, lastTalk_ok.2, ?_⟩
    simp [envOf, slOf, iR1, e, b__law_good_talk_1, sz, lastTalk, Talk.enc, Rows.enc]
  · refine ⟨q, t, f, hp, ?_⟩
    simp [envOf, slOf, iR1, e]
end ET
set_option Elab.async false
set_option maxRecDepth 100000
/-! The laws' helpers: machine. -/
namespace ET
open PySem L2
structure Stp where
  st : Nat
  w : Bool
  o : Int
  l : Int
  af : Nat
  deriving DecidableEq
def Stp.enc (s : Stp) : D := .tup [.int s.st, .str (wd s.w), .int s.o, .int s.l, .int s.af]
noncomputable def Stp.le (a b : Stp) : Bool := leD a.enc b.enc
structure Mach where
  many : Nat
  steps : List Stp
  deriving DecidableEq
def Mach.enc (m : Mach) : D := .tup [.int m.many, .tup (m.steps.map Stp.enc)]
def addNew (fs : List Part) (o : Part) : List Part := if o ∈ fs then fs else fs ++ [o]
def mOne (k : Nat) (w : Bool) (ot : Int) (x : List Part × List Stp) (b : Int × Part) : List Part × List Stp :=
  (addNew x.1 b.2.opened, x.2 ++ [⟨k, w, ot, b.1, (addNew x.1 b.2.opened).idxOf b.2.opened⟩])
def mRow (k : Nat) (w : Bool) (ot : Int) (r : List (Int × Part)) (x : List Part × List Stp) : List Part × List Stp := r.foldl (mOne k w ot) x
def mTurn (k : Nat) (x : List Part × List Stp) : List Part × List Stp := match x.1[k]? with
  | some (.act w o r) => mRow k w o r.list x
  | _ => x
def mLoop : Nat → Nat → List Part × List Stp → List Part × List Stp
  | 0, _, x => x
  | f + 1, k, x => if k < x.1.length then mLoop f (k + 1) (mTurn k x) else x
noncomputable def mach (p : Part) : Mach := let x := mLoop 4000 0 ([p.opened], []); ⟨x.1.length, x.2.mergeSort Stp.le⟩
/-- a machine as it should be -/
structure Mach.ok (m : Mach) : Prop where
  pos : 0 < m.many
  bnd : ∀ s ∈ m.steps, s.st < m.many ∧ s.af < m.many ∧ (0 ≤ s.o ∧ s.o < 4) ∧ 0 ≤ s.l ∧ s.l < 4
  det : ∀ a ∈ m.steps, ∀ b ∈ m.steps, a.st = b.st → a.w = b.w → a.o = b.o → a.l = b.l → a = b
  one : m.steps.Nodup
  pl : ∀ a ∈ m.steps, ∀ b ∈ m.steps, a.st = b.st → a.w = b.w ∧ a.o = b.o
  few : m.steps.length ≤ 20000 ∧ m.many ≤ 4000
theorem fIn_parts {o : Part} {fs : List Part} (h : o.ht ≤ 60) : fIn true o.enc (.lst (fs.map Part.enc)) = some (.bl (!decide (o ∈ fs))) := by
  rw [fIn_l (.inl (by have := dep_enc o; unfold deepest; omega))]
  congr 2
  rw [List.any_map]
  have : (fs.any ((fun z => peq z o.enc) ∘ Part.enc)) = decide (o ∈ fs) := by
    rw [Bool.eq_iff_iff, List.any_eq_true, decide_eq_true_eq]
    constructor
    · rintro ⟨x, hx, e⟩
      have := (peq_iff _ _ (cln_enc x) (cln_enc o)).mp e
      rw [← enc_inj x o this]; exact hx
    · intro hx
      exact ⟨o, hx, (peq_iff _ _ (cln_enc o) (cln_enc o)).mpr rfl⟩
  rw [this]
  simp
theorem fIndex_parts {o : Part} {fs : List Part} (h : o.ht ≤ 60) (hm : o ∈ fs) : fIndex (.lst (fs.map Part.enc)) o.enc = some (.int (fs.idxOf o)) := by
  unfold fIndex lstOf
  rw [Option.bind_some, if_pos (by have := dep_enc o; unfold deepest; omega)]
  have : (fs.map Part.enc).findIdx? (fun z => peq z o.enc) = some (fs.idxOf o) := by
    rw [List.findIdx?_map]
    have e : ((fun z => peq z o.enc) ∘ Part.enc) = fun x => x == o := by
      funext x
      rw [Bool.eq_iff_iff, beq_iff_eq]
      show peq x.enc o.enc = true ↔ _
      rw [peq_iff _ _ (cln_enc x) (cln_enc o)]
      exact ⟨enc_inj x o, fun e => by rw [e]⟩
    rw [e]
    unfold List.idxOf
    rw [List.findIdx?_eq_some_iff_findIdx_eq]
    exact ⟨List.idxOf_lt_length_of_mem hm, rfl⟩
  rw [this]
  rfl
theorem addNew_mem {fs : List Part} {o : Part} : o ∈ addNew fs o ∧ (∀ x ∈ fs, x ∈ addNew fs o) ∧ (∀ x ∈ addNew fs o, x ∈ fs ∨ x = o) := by
  unfold addNew
  split
  · rename_i h
    exact ⟨h, fun x hx => hx, fun x hx => .inl hx⟩
  · exact ⟨by simp, fun x hx => by simp [hx], fun x hx => by simpa using hx⟩
theorem addNew_pre {fs : List Part} {o : Part} : fs <+: addNew fs o := by
  unfold addNew
  split
  · exact List.prefix_refl _
  · exact List.prefix_append _ _
theorem addNew_nodup {fs : List Part} {o : Part} (h : fs.Nodup) : (addNew fs o).Nodup := by
  unfold addNew
  split
  · exact h
  · rename_i hn
    rw [List.nodup_append]
    refine ⟨h, by simp, fun a ha b hb e => ?_⟩
    simp at hb
    subst hb
    subst e
    exact hn ha
/-- what is kept while states are found -/
structure MI (W : List Part) (k : Nat) (x : List Part × List Stp) : Prop where
  sub : ∀ v ∈ x.1, v ∈ W
  nd : x.1.Nodup
  pos : 0 < x.1.length
  bnd : ∀ s ∈ x.2, s.st < x.1.length ∧ s.af < x.1.length ∧ (0 ≤ s.o ∧ s.o < 4) ∧ 0 ≤ s.l ∧ s.l < 4
  asc : x.2.Pairwise fun a b => a.st < b.st ∨ (a.st = b.st ∧ a.l < b.l)
  lt : ∀ s ∈ x.2, s.st < k
  pl : ∀ s ∈ x.2, ∃ r, x.1[s.st]? = some (.act s.w s.o r)
  few : x.2.length ≤ 4 * k
/-- .. and within the branches of a state -/
structure MR (W : List Part) (k : Nat) (n : Nat) (l0 : Option Int) (x : List Part × List Stp) : Prop where
  sub : ∀ v ∈ x.1, v ∈ W
  nd : x.1.Nodup
  pos : k < x.1.length
  bnd : ∀ s ∈ x.2, s.st < x.1.length ∧ s.af < x.1.length ∧ (0 ≤ s.o ∧ s.o < 4) ∧ 0 ≤ s.l ∧ s.l < 4
  asc : x.2.Pairwise fun a b => a.st < b.st ∨ (a.st = b.st ∧ a.l < b.l)
  lt : ∀ s ∈ x.2, s.st < k ∨ (s.st = k ∧ ∃ l, l0 = some l ∧ s.l ≤ l)
  pl : ∀ s ∈ x.2, ∃ r, x.1[s.st]? = some (.act s.w s.o r)
  few : x.2.length ≤ 4 * k + n
theorem pre_get {α : Type} {a b : List α} (h : a <+: b) {i : Nat} {v : α} (e : a[i]? = some v) : b[i]? = some v := by
  obtain ⟨t, rfl⟩ := h
  have hi : i < a.length := by
    apply Classical.byContradiction
    intro hn
    rw [List.getElem?_eq_none (by omega)] at e
    cases e
  rw [List.getElem?_append_left hi, e]
theorem MR.one {W : List Part} {k n : Nat} {l0 : Option Int} {x : List Part × List Stp} (h : MR W k n l0 x) {w : Bool} {ot : Int} {b : Int × Part} (hkk : ∃ r, x.1[k]? = some (.act w ot r)) (hb : b.2.opened ∈ W) (ho : 0 ≤ ot ∧ ot < 4) (hl : 0 ≤ b.1 ∧ b.1 < 4) (h0 : ∀ l, l0 = some l → l < b.1) :
    MR W k (n + 1) (some b.1) (mOne k w ot x b) := by
  have am := addNew_mem (fs := x.1) (o := b.2.opened)
  have ap := (addNew_pre (fs := x.1) (o := b.2.opened)).length_le
  unfold mOne
  refine ⟨fun v hv => ?_, addNew_nodup h.nd, by have := h.pos; dsimp only; omega, fun s hs => ?_, ?_, fun s hs => ?_, fun s hs => ?_, ?_⟩
  · rcases am.2.2 v hv with q | q
    · exact h.sub v q
    · rw [q]; exact hb
  · simp only [List.mem_append, List.mem_cons, List.not_mem_nil, or_false] at hs
    rcases hs with hs | rfl
    · have := h.bnd s hs
      dsimp only
      exact ⟨by omega, by omega, this.2.2⟩
    · dsimp only
      exact ⟨by have := h.pos; omega, List.idxOf_lt_length_of_mem am.1, ho, hl⟩
  · dsimp only
    rw [List.pairwise_append]
    refine ⟨h.asc, by simp, fun a ha c hc => ?_⟩
    simp at hc
    subst hc
    dsimp only
    rcases h.lt a ha with q | ⟨q, l, q2, q3⟩
    · exact .inl q
    · exact .inr ⟨q, by have := h0 l q2; omega⟩
  · simp only [List.mem_append, List.mem_cons, List.not_mem_nil, or_false] at hs
    rcases hs with hs | rfl
    · rcases h.lt s hs with q | ⟨q, l, q2, q3⟩
      · exact .inl q
      · exact .inr ⟨q, b.1, rfl, by have := h0 l q2; omega⟩
    · exact .inr ⟨rfl, b.1, rfl, by dsimp only; omega⟩
  · dsimp only at hs ⊢
    simp only [List.mem_append, List.mem_cons, List.not_mem_nil, or_false] at hs
    rcases hs with hs | rfl
    · obtain ⟨r, e⟩ := h.pl s hs
      exact ⟨r, pre_get addNew_pre e⟩
    · obtain ⟨r, e⟩ := hkk
      exact ⟨r, pre_get addNew_pre e⟩
  · dsimp only
    rw [List.length_append]
    have := h.few
    simp
    omega
theorem MR.row {W : List Part} {k : Nat} {w : Bool} {ot : Int} (ho : 0 ≤ ot ∧ ot < 4) : ∀ (r : List (Int × Part)) (n : Nat) (l0 : Option Int) (x : List Part × List Stp), MR W k n l0 x → (∃ r, x.1[k]? = some (.act w ot r)) → (∀ b ∈ r, b.2.opened ∈ W) → (∀ b ∈ r, 0 ≤ b.1 ∧ b.1 < 4) → (∀ l, l0 = some l → ∀ b ∈ r, l < b.1) → (r.map (·.1)).Pairwise (· < ·) →
    ∃ l1, MR W k (n + r.length) l1 (mRow k w ot r x)
  | [], n, l0, x, h, _, _, _, _, _ => ⟨l0, h⟩
  | b :: r, n, l0, x, h, hkk, h1, h2, h3, h4 => by
    have h5 := h.one (w := w) hkk (h1 b List.mem_cons_self) ho (h2 b List.mem_cons_self) fun l e => h3 l e b List.mem_cons_self
    rw [List.map_cons, List.pairwise_cons] at h4
    obtain ⟨l1, h6⟩ := MR.row ho r (n + 1) (some b.1) _ h5 (by obtain ⟨r', e⟩ := hkk; exact ⟨r', pre_get addNew_pre e⟩) (fun c hc => h1 c (List.mem_cons_of_mem _ hc)) (fun c hc => h2 c (List.mem_cons_of_mem _ hc)) (fun l e c hc => by cases e; exact h4.1 c.1 (List.mem_map_of_mem hc)) h4.2
    refine ⟨l1, ?_⟩
    rw [List.length_cons, show n + (r.length + 1) = n + 1 + r.length by omega]
    exact h6
theorem MI.mr {W : List Part} {k : Nat} {x : List Part × List Stp} (h : MI W k x) (hk : k < x.1.length) : MR W k 0 none x :=
  ⟨h.sub, h.nd, hk, h.bnd, h.asc, fun s hs => .inl (h.lt s hs), h.pl, by have := h.few; omega⟩
theorem MI.turn {W : List Part} (hW : ∀ v ∈ W, Sta W v) {k : Nat} {x : List Part × List Stp} (h : MI W k x) (hk : k < x.1.length) : MI W (k + 1) (mTurn k x) := by
  have hx : x.1[k]? = some x.1[k] := List.getElem?_eq_getElem hk
  have sta := hW _ (h.sub _ (List.getElem_mem hk))
  have stay : MI W (k + 1) x := ⟨h.sub, h.nd, h.pos, h.bnd, h.asc, fun s hs => by have := h.lt s hs; omega, h.pl, by have := h.few; omega⟩
  unfold mTurn
  rw [hx]
  rcases sta.nx with q | ⟨w, o, r, q, hr⟩
  · rw [q]; exact stay
  · rw [q]
    dsimp only
    have sl := sta.sl
    rw [q] at sl
    have l4 := PRows.len4 sl.2.1 sl.2.2.1
    obtain ⟨l1, m⟩ := MR.row (w := w) (ot := o) sl.1 r.list 0 none x (h.mr hk) ⟨r, by rw [hx, q]⟩ (fun b hb => by
      obtain ⟨o', ho', e⟩ := hr b hb
      rw [← e.eq]; exact ho') (fun b hb => sl.2.2.1 b.1 (by rw [← PRows.list_letters]; exact List.mem_map_of_mem hb)) (fun l e => by cases e) (by rw [PRows.list_letters]; exact sl.2.1)
    exact ⟨m.sub, m.nd, by have := m.pos; omega, m.bnd, m.asc, fun s hs => by rcases m.lt s hs with q | q <;> omega, m.pl, by have := m.few; omega⟩
theorem nodup_len {α : Type} [DecidableEq α] : ∀ (l W : List α), l.Nodup → (∀ x ∈ l, x ∈ W) → l.length ≤ W.length
  | [], _, _, _ => by simp
  | a :: l, W, h, s => by
    rw [List.nodup_cons] at h
    have ha := s a List.mem_cons_self
    have := nodup_len l (W.erase a) h.2 fun x hx => (List.mem_erase_of_ne (by intro e; subst e; exact h.1 hx)).mpr (s x (List.mem_cons_of_mem _ hx))
    rw [List.length_erase_of_mem ha] at this
    have := List.length_pos_of_mem ha
    rw [List.length_cons]; omega
theorem MI.len {W : List Part} {k : Nat} {x : List Part × List Stp} (h : MI W k x) : x.1.length ≤ W.length :=
  nodup_len _ _ h.nd h.sub
theorem MI.loop {W : List Part} (hW : ∀ v ∈ W, Sta W v) : ∀ (f k : Nat) (x : List Part × List Stp), MI W k x → k ≤ x.1.length → ∃ k', k' ≤ (mLoop f k x).1.length ∧ MI W k' (mLoop f k x)
  | 0, k, x, h, hk => ⟨k, hk, h⟩
  | f + 1, k, x, h, hk => by
    unfold mLoop
    split
    · rename_i hlt
      have h2 := h.turn hW hlt
      refine MI.loop hW f (k + 1) _ h2 ?_
      have : x.1.length ≤ (mTurn k x).1.length := by
        unfold mTurn
        split
        · rename_i w o r e
          have : ∀ (l : List (Int × Part)) (y : List Part × List Stp), y.1.length ≤ (mRow k w o l y).1.length := by
            intro l
            induction l with
            | nil => intro y; exact Nat.le_refl _
            | cons b l ih =>
              intro y
              have h1 := ih (mOne k w o y b)
              have h2 := (addNew_pre (fs := y.1) (o := b.2.opened)).length_le
              exact Nat.le_trans h2 h1
          exact this _ _
        · exact Nat.le_refl _
      omega
    · exact ⟨k, hk, h⟩
theorem start_MI {p : Part} (g : p.good 5 []) : MI p.W 0 ([p.opened], []) := by
  obtain ⟨h1, h2, o, ho, e⟩ := p.W_ok g
  refine ⟨fun v hv => ?_, by simp, by simp, by simp, by simp, by simp, by simp, by simp⟩
  simp at hv
  rw [hv, ← e.eq]; exact ho
theorem mach_ok {p : Part} (g : p.good 5 []) : (mach p).ok := by
  obtain ⟨h1, h2, o, ho, e⟩ := p.W_ok g
  obtain ⟨k, hk, h⟩ := MI.loop h1 4000 0 _ (start_MI g) (by simp)
  have hl := h.len
  unfold mach
  dsimp only
  generalize mLoop 4000 0 ([p.opened], []) = x at *
  have pm := List.mergeSort_perm x.2 Stp.le
  refine ⟨h.pos, fun s hs => h.bnd s (pm.mem_iff.mp hs), fun a ha b hb e1 e2 e3 e4 => ?_, ?_, fun a ha b hb e => ?_, ?_, ?_⟩
  · have ha' := pm.mem_iff.mp ha
    have hb' := pm.mem_iff.mp hb
    apply Classical.byContradiction
    intro hne
    have key : ∀ (l : List Stp), (l.Pairwise fun a b => a.st < b.st ∨ (a.st = b.st ∧ a.l < b.l)) → a ∈ l → b ∈ l → False := by
      intro l
      induction l with
      | nil => intro _ h; simp at h
      | cons c l ih =>
        intro hp ha hb
        rw [List.pairwise_cons] at hp
        simp only [List.mem_cons] at ha hb
        rcases ha with rfl | ha
        · rcases hb with rfl | hb
          · exact hne rfl
          · have := hp.1 b hb; omega
        · rcases hb with rfl | hb
          · have := hp.1 a ha; omega
          · exact ih hp.2 ha hb
    exact key x.2 h.asc ha' hb'
  · rw [pm.nodup_iff]
    exact h.asc.imp fun h e => by subst e; omega
  · obtain ⟨r1, e1⟩ := h.pl a (pm.mem_iff.mp ha)
    obtain ⟨r2, e2⟩ := h.pl b (pm.mem_iff.mp hb)
    rw [e, e2] at e1
    simp only [Option.some.injEq, Part.act.injEq] at e1
    exact ⟨e1.1.symm, e1.2.1.symm⟩
  · dsimp only
    rw [pm.length_eq]
    have := h.few
    omega
  · dsimp only
    omega
/-! ### sorting steps -/
theorem wd_kind (b : Bool) : True := trivial
theorem alike_step (a b : Stp) : alikeD a.enc b.enc = true := rfl
theorem sortable_steps (ss : List Stp) (h : ss.length ≤ sizeLine) : sortable (ss.map Stp.enc) = true := by
  unfold sortable
  simp only [Bool.and_eq_true, Bool.or_eq_true, List.all_eq_true, decide_eq_true_eq, List.length_map]
  refine ⟨⟨⟨?_, .inl ?_⟩, ?_⟩, h⟩
  · rintro x hx y hy
    obtain ⟨a, _, rfl⟩ := List.mem_map.mp hx
    obtain ⟨b, _, rfl⟩ := List.mem_map.mp hy
    exact alike_step a b
  · rintro x hx
    obtain ⟨a, _, rfl⟩ := List.mem_map.mp hx
    rfl
  · rintro x hx
    obtain ⟨a, _, rfl⟩ := List.mem_map.mp hx
    simp [Stp.enc, deepest]
theorem fSorted_steps (ss : List Stp) (h : ss.length ≤ sizeLine) : fSorted (.lst (ss.map Stp.enc)) = some ((ss.mergeSort Stp.le).map Stp.enc) := by
  unfold fSorted lstOf
  rw [Option.bind_some, if_pos (sortable_steps ss h)]
  unfold sortD
  have := sort_map (f := Stp.enc) ss
  rw [← this]
  rfl
/-! ### the walk -/
abbrev Emm (p : Part) (x1 : Option Sl) (ss : List Stp) (k : Nat) (x4 x5 x6 : Option Sl) : Env :=
  [some (.val p.enc), x1, some (.own (.lst (ss.map Stp.enc)) false), some (.val (.int k)), x4, x5, x6]
theorem SlotL.vs {ds : List D} : SlotL (some (.val (.lst ds))) ds := .inl rfl
end ET
set_option Elab.async false
set_option maxRecDepth 100000
/-! The laws' helpers: machine, machines, bad_machines. -/
namespace ET
open PySem L2
theorem mRow_snoc (k : Nat) (w : Bool) (ot : Int) (r : List (Int × Part)) (b : Int × Part) (x : List Part × List Stp) : mRow k w ot (r ++ [b]) x = mOne k w ot (mRow k w ot r x) b := by
  unfold mRow
  rw [List.foldl_append]
  rfl
theorem mRow_len (k : Nat) (w : Bool) (ot : Int) : ∀ (r : List (Int × Part)) (x : List Part × List Stp), (mRow k w ot r x).1.length ≤ x.1.length + r.length ∧ (mRow k w ot r x).2.length = x.2.length + r.length
  | [], x => ⟨Nat.le_refl _, rfl⟩
  | b :: r, x => by
    have ih := mRow_len k w ot r (mOne k w ot x b)
    have h : (mOne k w ot x b).1.length ≤ x.1.length + 1 := by
      unfold mOne addNew
      dsimp only
      split <;> simp
    have h2 : (mOne k w ot x b).2.length = x.2.length + 1 := by simp [mOne]
    show (mRow k w ot r (mOne k w ot x b)).1.length ≤ _ ∧ (mRow k w ot r (mOne k w ot x b)).2.length = _
    simp only [List.length_cons]
    omega
/-- machines of four roles -/
def encMs (ms : List Mach) : D := .tup (ms.map Mach.enc)
end ET
set_option Elab.async false
set_option maxRecDepth 100000
/-! Letters on the way: plain. -/
namespace ET
open PySem L2
structure Que where
  a : Int
  b : Int
  row : List Int
  deriving DecidableEq
def Que.enc (q : Que) : D := .tup [.int q.a, .int q.b, .tup (q.row.map .int)]
noncomputable def Que.le (x y : Que) : Bool := leD x.enc y.enc
def onWay (qs : List Que) (a b : Int) : List Int := match qs.filter (fun q => decide (q.a = a ∧ q.b = b)) with
  | [] => []
  | q :: _ => q.row
noncomputable def withRow (qs : List Que) (a b : Int) (row : List Int) : List Que := ((qs.filter fun q : Que => decide (¬ (q.a = a ∧ q.b = b))) ++ (if row = [] then [] else [(⟨a, b, row⟩ : Que)])).mergeSort Que.le
/-- ascending by who speaks and hears -/
def Que.lt (x y : Que) : Prop := x.a < y.a ∨ (x.a = y.a ∧ x.b < y.b)
structure QI (qs : List Que) : Prop where
  asc : qs.Pairwise Que.lt
  full : ∀ q ∈ qs, q.row ≠ []
theorem QI.nil : QI [] := ⟨List.Pairwise.nil, fun q h => by simp at h⟩
theorem onWay_nil (a b : Int) : onWay [] a b = [] := rfl
theorem onWay_some {qs : List Que} (h : QI qs) {q : Que} (hq : q ∈ qs) : onWay qs q.a q.b = q.row := by
  unfold onWay
  have hm : q ∈ qs.filter (fun x => decide (x.a = q.a ∧ x.b = q.b)) := List.mem_filter.mpr ⟨hq, by simp⟩
  have hp := h.asc.filter (fun x => decide (x.a = q.a ∧ x.b = q.b))
  have hk : ∀ x ∈ qs.filter (fun x => decide (x.a = q.a ∧ x.b = q.b)), x.a = q.a ∧ x.b = q.b := fun x hx => by simpa using (List.mem_filter.mp hx).2
  generalize qs.filter (fun x => decide (x.a = q.a ∧ x.b = q.b)) = l at *
  cases l with
  | nil => simp at hm
  | cons x l =>
    dsimp only
    simp only [List.mem_cons] at hm
    rcases hm with rfl | hm
    · rfl
    · rw [List.pairwise_cons] at hp
      have h1 := hp.1 q hm
      have h2 := hk x (by simp)
      unfold Que.lt at h1
      omega
theorem onWay_none {qs : List Que} {a b : Int} (h : ∀ q ∈ qs, ¬ (q.a = a ∧ q.b = b)) : onWay qs a b = [] := by
  unfold onWay
  have : qs.filter (fun x => decide (x.a = a ∧ x.b = b)) = [] := by
    rw [List.filter_eq_nil_iff]
    intro q hq
    simpa using h q hq
  rw [this]
theorem Que.lt_irrefl (x : Que) : ¬ x.lt x := by unfold Que.lt; omega
theorem Que.lt_trans {x y z : Que} (h1 : x.lt y) (h2 : y.lt z) : x.lt z := by unfold Que.lt at *; omega
/-- what stands on the way tells the queues -/
theorem QI.mem_of {qs rs : List Que} (h1 : QI qs) (h2 : QI rs) (h : ∀ a b, onWay qs a b = onWay rs a b) {q : Que} (hq : q ∈ qs) : q ∈ rs := by
  have e := (h q.a q.b).symm.trans (onWay_some h1 hq)
  apply Classical.byContradiction
  intro hn
  by_cases hx : ∃ x ∈ rs, x.a = q.a ∧ x.b = q.b
  · obtain ⟨x, hx, ea, eb⟩ := hx
    have := onWay_some h2 hx
    rw [ea, eb, e] at this
    have : x = q := by cases x; cases q; simp_all
    subst this
    exact hn hx
  · have := onWay_none (qs := rs) (a := q.a) (b := q.b) fun x hx' z => hx ⟨x, hx', z⟩
    rw [this] at e
    exact h1.full q hq e.symm
theorem asc_eq : ∀ {l m : List Que}, l.Pairwise Que.lt → m.Pairwise Que.lt → (∀ q, q ∈ l ↔ q ∈ m) → l = m
  | [], [], _, _, _ => rfl
  | [], b :: m, _, _, h => by have := (h b).mpr (by simp); simp at this
  | a :: l, [], _, _, h => by have := (h a).mp (by simp); simp at this
  | a :: l, b :: m, h1, h2, h => by
    rw [List.pairwise_cons] at h1 h2
    have hab : a = b := by
      have e1 := (h a).mp (by simp)
      have e2 := (h b).mpr (by simp)
      simp only [List.mem_cons] at e1 e2
      rcases e1 with e | e1
      · exact e
      · rcases e2 with e | e2
        · exact e.symm
        · exact absurd (Que.lt_trans (h1.1 b e2) (h2.1 a e1)) (Que.lt_irrefl a)
    subst hab
    congr 1
    refine asc_eq h1.2 h2.2 fun q => ?_
    have := h q
    simp only [List.mem_cons] at this
    constructor
    · intro hq
      rcases this.mp (.inr hq) with e | e
      · subst e; exact absurd (h1.1 q hq) (Que.lt_irrefl q)
      · exact e
    · intro hq
      rcases this.mpr (.inr hq) with e | e
      · subst e; exact absurd (h2.1 q hq) (Que.lt_irrefl q)
      · exact e
theorem QI.ext {qs rs : List Que} (h1 : QI qs) (h2 : QI rs) (h : ∀ a b, onWay qs a b = onWay rs a b) : qs = rs :=
  asc_eq h1.asc h2.asc fun q => ⟨fun hq => h1.mem_of h2 h hq, fun hq => h2.mem_of h1 (fun a b => (h a b).symm) hq⟩
theorem leD_que_false {x y : Que} (h : y.lt x) : x.le y = false := by
  unfold Que.lt at h
  unfold Que.le leD PySem.W.dataLe PySem.W.sortLe
  simp only [cond_false, D.py, Que.enc, D.pys, PySem.W.keyToks, PySem.W.keyToksAll, List.cons_append, List.nil_append, PyProof.Rows.lexLt, PyProof.Rows.itemLt, PyProof.Rows.itemOrd]
  rcases h with h | ⟨h1, h2⟩
  · have h3 : ¬ x.a < y.a := by omega
    simp [h, h3]
  · simp [h1, h2]
theorem sort_asc {l : List Que} (h : l.Pairwise fun x y => ¬ (x.a = y.a ∧ x.b = y.b)) : (l.mergeSort Que.le).Pairwise Que.lt := by
  have h1 : (l.mergeSort Que.le).Pairwise fun x y => x.le y = true := List.pairwise_mergeSort (le := Que.le) (fun a b c => leD_trans _ _ _) (fun a b => leD_total _ _) l
  have h2 : (l.mergeSort Que.le).Pairwise fun x y => ¬ (x.a = y.a ∧ x.b = y.b) := (List.mergeSort_perm l Que.le).symm.pairwise h fun {x y} h q => h ⟨q.1.symm, q.2.symm⟩
  refine (h1.and h2).imp fun {x y} h => ?_
  apply Classical.byContradiction
  intro hn
  have : y.lt x := by
    have := h.2
    unfold Que.lt at hn ⊢
    omega
  rw [leD_que_false this] at h
  exact absurd h.1 (by simp)
theorem QI.with_ {qs : List Que} (h : QI qs) (a b : Int) (row : List Int) : QI (withRow qs a b row) ∧ ∀ x y, onWay (withRow qs a b row) x y = if x = a ∧ y = b then row else onWay qs x y := by
  have hn : ∀ q ∈ qs.filter (fun q => decide (¬ (q.a = a ∧ q.b = b))), q ∈ qs ∧ ¬ (q.a = a ∧ q.b = b) := fun q hq => by
    have := List.mem_filter.mp hq
    exact ⟨this.1, of_decide_eq_true this.2⟩
  have hmem : ∀ q, q ∈ withRow qs a b row ↔ (q ∈ qs ∧ ¬ (q.a = a ∧ q.b = b)) ∨ (row ≠ [] ∧ q = ⟨a, b, row⟩) := fun q => by
    unfold withRow
    rw [(List.mergeSort_perm _ _).mem_iff, List.mem_append]
    refine or_congr ⟨hn q, fun z => List.mem_filter.mpr ⟨z.1, decide_eq_true z.2⟩⟩ ?_
    by_cases e : row = []
    · simp [e]
    · simp [e]
  have hQ : QI (withRow qs a b row) := by
    refine ⟨?_, fun q hq => ?_⟩
    · unfold withRow
      refine sort_asc ?_
      rw [List.pairwise_append]
      refine ⟨(h.asc.filter _).imp fun {x y} q z => by unfold Que.lt at q; omega, ?_, fun x hx y hy z => ?_⟩
      · split <;> simp
      · by_cases e : row = []
        · simp [e] at hy
        · simp [e] at hy
          subst hy
          exact (hn x hx).2 z
    · rcases (hmem q).mp hq with z | z
      · exact h.full q z.1
      · rw [z.2]; exact z.1
  refine ⟨hQ, fun x y => ?_⟩
  by_cases e : x = a ∧ y = b
  · rw [if_pos e]
    obtain ⟨rfl, rfl⟩ := e
    by_cases er : row = []
    · rw [onWay_none, er]
      intro q hq z
      rcases (hmem q).mp hq with w | w
      · exact w.2 z
      · exact w.1 er
    · exact onWay_some hQ ((hmem ⟨x, y, row⟩).mpr (.inr ⟨er, rfl⟩))
  · rw [if_neg e]
    by_cases hx : ∃ q ∈ qs, q.a = x ∧ q.b = y
    · obtain ⟨q, hq, rfl, rfl⟩ := hx
      rw [onWay_some h hq]
      exact onWay_some hQ ((hmem q).mpr (.inl ⟨hq, e⟩))
    · rw [onWay_none (qs := qs) fun q hq z => hx ⟨q, hq, z⟩]
      refine onWay_none fun q hq z => ?_
      rcases (hmem q).mp hq with w | w
      · exact hx ⟨q, w.1, z⟩
      · rw [w.2] at z; exact e ⟨z.1.symm, z.2.symm⟩
/-! ### the state of all -/
structure Wst where
  sts : List Nat
  qs : List Que
  deriving DecidableEq
/-- numbers of states -/
def nt (l : List Nat) : List D := l.map fun (n : Nat) => .int n
theorem nt_length (l : List Nat) : (nt l).length = l.length := by simp [nt]
def Wst.enc (s : Wst) : D := .tup [.tup (nt s.sts), .tup (s.qs.map Que.enc)]
structure Deed where
  r : Int
  w : Bool
  o : Int
  l : Int
  deriving DecidableEq
def Deed.enc (d : Deed) : D := .tup [.int d.r, .str (wd d.w), .int d.o, .int d.l]
structure Ent where
  d : Deed
  s : Wst
def Ent.enc (e : Ent) : D := .tup [.int e.d.r, .str (wd e.d.w), .int e.d.o, .int e.d.l, e.s.enc]
noncomputable def Ent.le (x y : Ent) : Bool := leD x.enc y.enc
def Mach.from (m : Mach) (st : Nat) : List Stp := m.steps.filter fun s => decide (s.st = st)
/-- what one step of a role gives -/
noncomputable def stepE (s : Wst) (room : Int) (k : Nat) (x : Stp) : List Ent :=
  if x.w = true then (if x.o < 4 ∧ x.o ≠ (k : Int) ∧ ((onWay s.qs k x.o).length : Int) < room then [⟨⟨k, x.w, x.o, x.l⟩, ⟨s.sts.set k x.af, withRow s.qs k x.o (onWay s.qs k x.o ++ [x.l])⟩⟩] else [])
  else (if (onWay s.qs x.o k).head? = some x.l then [⟨⟨k, x.w, x.o, x.l⟩, ⟨s.sts.set k x.af, withRow s.qs x.o k (onWay s.qs x.o k).tail⟩⟩] else [])
noncomputable def roleE (ms : List Mach) (s : Wst) (room : Int) (k : Nat) : List Ent := match ms[k]?, s.sts[k]? with
  | some m, some st => (m.from st).flatMap (stepE s room k)
  | _, _ => []
noncomputable def deedsU (ms : List Mach) (s : Wst) (room : Int) : List Ent := (List.range 4).flatMap (roleE ms s room)
noncomputable def deedsE (ms : List Mach) (s : Wst) (room : Int) : List Ent := (deedsU ms s room).mergeSort Ent.le
end ET
set_option Elab.async false
set_option maxRecDepth 100000
/-! What all laws use: steps of a walk, sorting. -/
namespace ET
open PySem L2
/-- not by rfl: the kernel would unfold what stands behind -/
theorem bs {α β : Type} (a : α) (f : α → Option β) : (some a).bind f = f a := (Option.bind_some a f).trans (Eq.refl _)
theorem kSeq_nx {a b : DS} {ρ ρ' : Env} (h : a ρ = some (.nx ρ')) : kSeq a b ρ = b ρ' := by rw [kSeq_d, h, Option.bind_some]
theorem kSeq_rt {a b : DS} {ρ ρ' : Env} {s : Sl} (h : a ρ = some (.rt s ρ')) : kSeq a b ρ = some (.rt s ρ') := by rw [kSeq_d, h, Option.bind_some]
theorem kFor_of {s : SI} {g : GE} {b : DS} {ρ ρ' : Env} {xs : List D} {r : Option Res} (h : s ρ = some (xs, ρ')) (e : forL g b xs ρ' = r) : kFor s g b ρ = r := by rw [kFor_d, h, Option.bind_some]; exact e
theorem iR1_n {a : DE} {ρ ρ' : Env} {n : Nat} (h : a ρ = some (.int n, ρ')) (hn : n < 1000000) : iR1 a ρ = some (rangeD 0 n, ρ') := by
  unfold iR1
  rw [h, Option.bind_some]
  dsimp only
  rw [if_pos ⟨by omega, by omega⟩, Int.toNat_natCast]
theorem clns_map {α : Type} {enc : α → D} (h : ∀ x, cln (enc x) = true) : ∀ l : List α, clns (l.map enc) = true
  | [] => rfl
  | x :: l => by simp [clns, h x, clns_map h l]
theorem sort_gen {α : Type} (enc : α → D) (l : List α) (h : l.length ≤ sizeLine) (ha : ∀ x y, alikeD (enc x) (enc y) = true) (hk : (∀ x, kindS (enc x) = 1)) (hd : ∀ x, dep (enc x) ≤ deepest) : fSorted (.lst (l.map enc)) = some ((l.mergeSort fun x y => leD (enc x) (enc y)).map enc) := by
  have hs : sortable (l.map enc) = true := by
    unfold sortable
    simp only [Bool.and_eq_true, Bool.or_eq_true, List.all_eq_true, decide_eq_true_eq, List.length_map]
    refine ⟨⟨⟨?_, .inl ?_⟩, ?_⟩, h⟩
    · rintro x hx y hy
      obtain ⟨a, _, rfl⟩ := List.mem_map.mp hx
      obtain ⟨b, _, rfl⟩ := List.mem_map.mp hy
      exact ha a b
    · rintro x hx
      obtain ⟨a, _, rfl⟩ := List.mem_map.mp hx
      rw [hk a]; rfl
    · rintro x hx
      obtain ⟨a, _, rfl⟩ := List.mem_map.mp hx
      exact hd a
  unfold fSorted lstOf
  rw [Option.bind_some, if_pos hs]
  unfold sortD
  rw [← sort_map (f := enc) l]
/-- free to be set again: nothing, a datum, or a list of one's own -/
def Fs (x : Option Sl) : Prop := x = none ∨ (∃ d, x = some (.val d)) ∨ ∃ l, x = some (.own (.lst l) false)
theorem Fs.free {x : Option Sl} (h : Fs x) : Free x := by
  rcases h with rfl | ⟨d, rfl⟩ | ⟨l, rfl⟩
  · exact free_n
  · exact free_v d
  · intro o e; cases e
theorem fs_n : Fs none := .inl rfl
theorem fs_v (d : D) : Fs (some (.val d)) := .inr (.inl ⟨d, rfl⟩)
theorem fs_l (l : List D) : Fs (some (.own (.lst l) false)) := .inr (.inr ⟨l, rfl⟩)
theorem forL_go {g : GE} {b : DS} (I : Env → Prop) : ∀ (ds : List D) (ρ : Env), I ρ → (∀ d ∈ ds, ∀ ρ, I ρ → ∃ ρ', (turnS g b d ρ = some (.nx ρ') ∨ turnS g b d ρ = some (.ct ρ')) ∧ I ρ') → ∃ ρ', forL g b ds ρ = some (.nx ρ') ∧ I ρ'
  | [], ρ, h, _ => ⟨ρ, rfl, h⟩
  | d :: ds, ρ, h, hs => by
    obtain ⟨ρ1, e, h1⟩ := hs d List.mem_cons_self ρ h
    obtain ⟨ρ2, e2, h2⟩ := forL_go I ds ρ1 h1 fun x hx => hs x (List.mem_cons_of_mem _ hx)
    refine ⟨ρ2, ?_, h2⟩
    rcases e with e | e
    · rw [forL_nx e]; exact e2
    · rw [forL_ct e]; exact e2
def kauS (i : Nat) (f : D → D → Option D) (o : DO) (ρ : Env) : Option (Option Sl) → Option Res
  | some (some (.val x)) => (o.ev ρ).bind fun r => (o.fin r.1 r.2).bind fun u => (f x u).bind fun z => (setSl i (.val z) r.2).bind fun ρ' => some (.nx ρ')
  | _ => none
@[simp] theorem kauS_d (i : Nat) (f : D → D → Option D) (o : DO) (ρ : Env) (x : D) : kauS i f o ρ (some (some (.val x))) = (o.ev ρ).bind fun r => (o.fin r.1 r.2).bind fun u => (f x u).bind fun z => (setSl i (.val z) r.2).bind fun ρ' => some (.nx ρ') := rfl
@[simp] theorem kAug_d (i : Nat) (f : D → D → Option D) (o : DO) (ρ : Env) : kAug i f o ρ = kauS i f o ρ ρ[i]? := by
  unfold kAug kauS
  split <;> simp_all
@[simp] theorem fAugA_i (a b : Int) : fAugA (.int a) (.int b) = some (.int (a + b)) := rfl
end ET
set_option Elab.async false
set_option maxRecDepth 100000
/-! Triples; sayings. -/
namespace ET
open PySem L2
abbrev Tri := Bool × Int × Int
def encT (t : Tri) : D := .tup [.str (wd t.1), .int t.2.1, .int t.2.2]
def Stp.tri (s : Stp) : Tri := (s.w, s.o, s.l)
def aOne (m : Mach) (st : Nat) (t : Tri) : Option Nat := ((m.from st).filter fun s => decide (s.tri = t)).head?.map (·.af)
def aRows (m : Mach) : Nat → List Tri → Option Nat
  | st, [] => some st
  | st, t :: r => (aOne m st t).bind fun st' => aRows m st' r
def encN : Option Nat → D
  | none => .non
  | some n => .int n
theorem tri_inj (a b : Tri) : encT a = encT b → a = b := by
  obtain ⟨w, x, y⟩ := a
  obtain ⟨w', x', y'⟩ := b
  simp only [encT, D.tup.injEq, List.cons.injEq, D.int.injEq, D.str.injEq, and_true]
  rintro ⟨h, rfl, rfl⟩
  revert h
  cases w <;> cases w' <;> simp [wd]
theorem fEq_tri (a b : Tri) : fEq (encT a) (encT b) = some (.bl (decide (a = b))) := by
  rw [fEq_d (.inl (by simp [encT, deepest]))]
  congr 2
  rw [Bool.eq_iff_iff, peq_iff _ _ rfl rfl, decide_eq_true_eq]
  exact ⟨tri_inj a b, fun e => by rw [e]⟩
theorem cut14 (a b c d e : D) : cutD [a, b, c, d, e] (some 1) (some 4) = [b, c, d] := rfl
/-! ### sayings_of -/
abbrev Say := Int × Int × Int
def encS (s : Say) : D := .tup [.int s.1, .int s.2.1, .int s.2.2]
def sent (row : List Deed) : List Say := (row.filter fun d => decide (d.w = true)).map fun d => (d.r, d.o, d.l)
end ET
set_option Elab.async false
set_option maxRecDepth 100000
/-! steps_from. -/
namespace ET
open PySem L2
theorem steps_from_fun (m : Mach) (st : Nat) (hm : m.steps.length ≤ 20000) : f_steps_from [.val m.enc, .val (.int st)] = some (.own (.lst ((m.from st).map Stp.enc)) false, [.val m.enc, .val (.int st)]) := by
  unfold f_steps_from
  rw [runF_eq (by rfl)]
  unfold m_steps_from
  have c := compL_map (vs := [2]) (g := gN 2) (c := t_steps_from_1) (e := dV 2) (ρ := [some (.val m.enc), some (.val (.int st)), none]) (enc := Stp.enc) (fun s => if s.st = st then some s.enc else none) m.steps fun y _ => by
    unfold turnC t_steps_from_1
    by_cases h : y.st = st
    · simp [Stp.enc, h, wipeG, noOwn, wipeE]
    · have h' : ¬ ((y.st : Int) = (st : Int)) := by omega
      simp [Stp.enc, h, h', wipeG, noOwn, wipeE]
  rw [filterMap_if (fun s : Stp => s.st = st)] at c
  have hz : (m.from st).length ≤ 16777216 := by have := List.length_filter_le (fun s : Stp => decide (s.st = st)) m.steps; unfold Mach.from; omega
  change _ = some ((m.from st).map Stp.enc, _) at c
  simp only [Mach.enc] at c ⊢
  simp [envOf, slOf, wipeG, noOwn, wipeE, backE, c, sz, hz]
end ET
set_option Elab.async false
set_option maxRecDepth 100000
/-! Hand in hand: meets. -/
namespace ET
open PySem L2
structure Met where
  a : Int
  b : Int
  l : Int
  af : List Nat
  deriving DecidableEq
def Met.enc (m : Met) : D := .tup [.int m.a, .int m.b, .int m.l, .tup (nt m.af)]
noncomputable def Met.le (x y : Met) : Bool := leD x.enc y.enc
def Met.say (m : Met) : Say := (m.a, m.b, m.l)
/-- what a role may do -/
def stAt (ms : List Mach) (sts : List Nat) (k : Nat) : List Stp := match ms[k]?, sts[k]? with
  | some m, some st => m.from st
  | _, _ => []
def metE (sts : List Nat) (a : Nat) (x y : Stp) : Met := ⟨a, x.o, x.l, (sts.set a x.af).set x.o.toNat y.af⟩
def meetX (ms : List Mach) (sts : List Nat) (a : Nat) (x : Stp) : List Met :=
  if x.w = true ∧ x.o < 4 ∧ x.o ≠ (a : Int) then ((stAt ms sts x.o.toNat).filter fun y => decide (y.tri = (false, (a : Int), x.l))).map fun y => metE sts a x y else []
def meetA (ms : List Mach) (sts : List Nat) (a : Nat) : List Met := (stAt ms sts a).flatMap (meetX ms sts a)
def meetsU (ms : List Mach) (sts : List Nat) : List Met := (List.range 4).flatMap (meetA ms sts)
noncomputable def meetsE (ms : List Mach) (sts : List Nat) : List Met := (meetsU ms sts).mergeSort Met.le
theorem from_few' {m : Mach} (h : m.ok) (st : Nat) : (m.from st).length ≤ 32 := by
  have nd : ((m.from st).map fun s => (s.w, s.o, s.l)).Nodup := by
    refine List.pairwise_map.mpr ?_
    refine List.Pairwise.imp_of_mem (fun {a b} ha hb hne e => ?_) (h.one.filter fun s => decide (s.st = st))
    obtain ⟨a1, a2⟩ := List.mem_filter.mp ha
    obtain ⟨b1, b2⟩ := List.mem_filter.mp hb
    simp only [Prod.mk.injEq] at e
    exact hne (h.det a a1 b b1 ((of_decide_eq_true a2).trans (of_decide_eq_true b2).symm) e.1 e.2.1 e.2.2)
  have sub : ∀ x ∈ (m.from st).map fun s => (s.w, s.o, s.l), x ∈ ([true, false].flatMap fun w => [0, 1, 2, 3].flatMap fun o => [0, 1, 2, 3].map fun l => ((w, o, l) : Bool × Int × Int)) := by
    intro x hx
    obtain ⟨s, hs, rfl⟩ := List.mem_map.mp hx
    have := h.bnd s (List.mem_filter.mp hs).1
    simp only [List.mem_flatMap, List.mem_map]
    refine ⟨s.w, by cases s.w <;> simp, s.o, ?_, s.l, ?_, rfl⟩
    · have : s.o = 0 ∨ s.o = 1 ∨ s.o = 2 ∨ s.o = 3 := by omega
      simpa using this
    · have : s.l = 0 ∨ s.l = 1 ∨ s.l = 2 ∨ s.l = 3 := by omega
      simpa using this
  have := nodup_len _ _ nd sub
  rw [List.length_map] at this
  exact this
theorem stAt_few {ms : List Mach} (hm : ∀ m ∈ ms, m.ok) (sts : List Nat) (k : Nat) : (stAt ms sts k).length ≤ 32 := by
  unfold stAt
  split
  · rename_i m st e _
    exact from_few' (hm m (List.mem_of_getElem? e)) st
  · simp
theorem stAt_bnd {ms : List Mach} (hm : ∀ m ∈ ms, m.ok) (sts : List Nat) (k : Nat) : ∀ x ∈ stAt ms sts k, (0 ≤ x.o ∧ x.o < 4) ∧ 0 ≤ x.l ∧ x.l < 4 := by
  unfold stAt
  split
  · rename_i m st e _
    exact fun x hx => ((hm m (List.mem_of_getElem? e)).bnd x (List.mem_filter.mp hx).1).2.2
  · simp
theorem meetX_few {ms : List Mach} (hm : ∀ m ∈ ms, m.ok) (sts : List Nat) (a : Nat) (x : Stp) : (meetX ms sts a x).length ≤ 32 := by
  unfold meetX
  split
  · rw [List.length_map]
    exact Nat.le_trans (List.length_filter_le _ _) (stAt_few hm sts _)
  · simp
theorem flat_few {α β : Type} (f : α → List β) (B : Nat) : ∀ l : List α, (∀ x ∈ l, (f x).length ≤ B) → (l.flatMap f).length ≤ l.length * B
  | [], _ => by simp
  | x :: l, h => by
    have := flat_few f B l fun y hy => h y (List.mem_cons_of_mem _ hy)
    have h1 := h x List.mem_cons_self
    rw [List.flatMap_cons, List.length_append, List.length_cons, Nat.add_mul, Nat.one_mul]
    omega
theorem meetA_few {ms : List Mach} (hm : ∀ m ∈ ms, m.ok) (sts : List Nat) (a : Nat) : (meetA ms sts a).length ≤ 1024 := by
  have h1 := flat_few (meetX ms sts a) 32 (stAt ms sts a) fun x _ => meetX_few hm sts a x
  have h2 := Nat.mul_le_mul_right 32 (stAt_few hm sts a)
  exact Nat.le_trans h1 h2
theorem meetsU_few {ms : List Mach} (hm : ∀ m ∈ ms, m.ok) (sts : List Nat) : (meetsU ms sts).length ≤ 4096 := by
  have h1 := flat_few (meetA ms sts) 1024 (List.range 4) fun x _ => meetA_few hm sts x
  have h2 : (List.range 4).length * 1024 = 4096 := rfl
  rw [h2] at h1
  exact h1
theorem alike_nts (l m : List Nat) : PySem.W.alikeAll (D.pys (nt l)) (D.pys (nt m)) = true := by
  induction l generalizing m with
  | nil => cases m <;> rfl
  | cons a l ih =>
    cases m with
    | nil => rfl
    | cons b m =>
      unfold nt at *
      simp only [List.map_cons, D.pys, D.py, PySem.W.alikeAll, PySem.W.alike, ih, Bool.and_self]
theorem alike_met (x y : Met) : alikeD x.enc y.enc = true := by
  simp only [alikeD, Met.enc, D.py, D.pys, PySem.W.alike, PySem.W.alikeAll, alike_nts, Bool.and_self]
theorem deps_nts (l : List Nat) : deps (nt l) = 0 := by
  unfold nt
  induction l with
  | nil => rfl
  | cons a l ih => simp [ih]
theorem dep_met (m : Met) : dep m.enc ≤ 2 := by simp [Met.enc, deps_nts]
theorem fSorted_mets (l : List Met) (h : l.length ≤ sizeLine) : fSorted (.lst (l.map Met.enc)) = some ((l.mergeSort Met.le).map Met.enc) :=
  sort_gen Met.enc l h alike_met (fun _ => rfl) fun q => by have := dep_met q; unfold deepest; omega
theorem ix_ms {ms : List Mach} {k : Nat} {m : Mach} (e1 : ms[k]? = some m) : fIx (encMs ms) (.int (k : Int)) = some m.enc := by
  show atI (ms.map Mach.enc) (k : Int) = _
  rw [atI_nat, List.getElem?_map, e1]; rfl
theorem ix_nt {sts : List Nat} {k st : Nat} (e2 : sts[k]? = some st) : fIx (.tup (nt sts)) (.int (k : Int)) = some (.int st) := by
  show atI (nt sts) (k : Int) = _
  rw [atI_nat, nt, List.getElem?_map, e2]; rfl
theorem stAt_eq {ms : List Mach} {sts : List Nat} {k : Nat} {m : Mach} {st : Nat} (e1 : ms[k]? = some m) (e2 : sts[k]? = some st) : stAt ms sts k = m.from st := by unfold stAt; rw [e1, e2]
theorem nt_set (l : List Nat) (k a : Nat) : nt (l.set k a) = (nt l).set k (.int a) := by unfold nt; rw [List.map_set]
theorem len_ms' (ms : List Mach) : fLen (encMs ms) = some (.int ms.length) := by simp [encMs]
end ET
set_option Elab.async false
set_option maxRecDepth 100000
/-! Hand in hand: the program's meets. -/
namespace ET
open PySem L2
theorem with_states_fun (sts : List Nat) (a b s1 s2 : Nat) (ha : a < sts.length) (hb : b < sts.length) (hl : sts.length ≤ 1000) : f_with_states [.val (.tup (nt sts)), .val (.int a), .val (.int s1), .val (.int b), .val (.int s2)] = some (.val (.tup (nt ((sts.set a s1).set b s2))), [.val (.tup (nt sts)), .val (.int a), .val (.int s1), .val (.int b), .val (.int s2)]) := by
  unfold f_with_states
  rw [runF_eq (by rfl)]
  unfold m_with_states
  have i1 : ixN (nt sts).length (a : Int) = some a := by rw [ixN_lit, nt_length, if_pos ha]
  have i2 : ixN ((nt sts).set a (.int s1)).length (b : Int) = some b := by rw [ixN_lit, List.length_set, nt_length, if_pos hb]
  rw [nt_set, nt_set]
  have hz : (nt sts).length ≤ 16777216 := by rw [nt_length]; omega
  generalize nt sts = N at *
  have i2' := i2
  rw [List.length_set] at i2'
  simp [envOf, slOf, fListOf, itemsOf, i1, i2, i2', sz, hz]
abbrev Eme (ms : List Mach) (sts : List Nat) (acc : List Met) (x3 x4 x5 x6 x7 : Option Sl) : Env := [some (.val (encMs ms)), some (.val (.tup (nt sts))), some (.own (.lst (acc.map Met.enc)) false), x3, x4, x5, x6, x7]
theorem me_inner {ms : List Mach} {sts : List Nat} (s4 : sts.length = 4) (a : Nat) (ha : a < 4) (x : Stp) (hx : 0 ≤ x.o ∧ x.o < 4) : ∀ (ys : List Stp) (acc : List Met), acc.length + ys.length ≤ 1000000 → ∀ (x6 x7 : Option Sl), Vs x6 → Vs x7 →
    ∃ y6 y7, Vs y6 ∧ Vs y7 ∧ forL (gN 6) (kIf t_meets_1 b_meets_2 kNil) (ys.map Stp.enc) (Eme ms sts acc (some (.val (.int a))) (some (.val x.enc)) (some (.val (.int x.o))) x6 x7) =
      some (.nx (Eme ms sts (acc ++ (ys.filter fun y => decide (y.tri = (false, (a : Int), x.l))).map fun y => metE sts a x y) (some (.val (.int a))) (some (.val x.enc)) (some (.val (.int x.o))) y6 y7))
  | [], acc, _, x6, x7, h6, h7 => ⟨x6, x7, h6, h7, by simp [forL_nil]⟩
  | y :: ys, acc, hz, x6, x7, h6, h7 => by
    simp only [List.length_cons] at hz
    have fe := fEq_tri y.tri (false, (a : Int), x.l)
    have hb : x.o.toNat < sts.length := by omega
    have eo : ((x.o.toNat : Nat) : Int) = x.o := by omega
    have ws := with_states_fun sts a x.o.toNat x.af y.af (by omega) hb (by omega)
    rw [eo] at ws
    have hz1 : acc.length < 16777216 := by omega
    have c14 : sSlS (.o 6) (some (dC (.int 1))) (some (dC (.int 4))) (Eme ms sts acc (some (.val (.int a))) (some (.val x.enc)) (some (.val (.int x.o))) (some (.val y.enc)) x7) = some (.val (encT y.tri), Eme ms sts acc (some (.val (.int a))) (some (.val x.enc)) (some (.val (.int x.o))) (some (.val y.enc)) x7) := by
      simp [Stp.enc, cut14, encT, Stp.tri]
    have i3 : fIx x.enc (.int 3) = some (.int x.l) := rfl
    have i4 : fIx x.enc (.int 4) = some (.int x.af) := rfl
    have j4 : fIx y.enc (.int 4) = some (.int y.af) := rfl
    have et : encT (false, (a : Int), x.l) = .tup [.str .hear, .int a, .int x.l] := rfl
    by_cases hh : y.tri = (false, (a : Int), x.l)
    · have t : turnS (gN 6) (kIf t_meets_1 b_meets_2 kNil) y.enc (Eme ms sts acc (some (.val (.int a))) (some (.val x.enc)) (some (.val (.int x.o))) x6 x7) = some (.nx (Eme ms sts (acc ++ [metE sts a x y]) (some (.val (.int a))) (some (.val x.enc)) (some (.val (.int x.o))) (some (.val y.enc)) (some (.val (.tup (nt ((sts.set a x.af).set x.o.toNat y.af))))))) := by
        have s0 : gN 6 y.enc (Eme ms sts acc (some (.val (.int a))) (some (.val x.enc)) (some (.val (.int x.o))) x6 x7) = some (Eme ms sts acc (some (.val (.int a))) (some (.val x.enc)) (some (.val (.int x.o))) (some (.val y.enc)) x7) := by simp [setS_free h6.free]
        rw [hh, et] at fe
        unfold turnS t_meets_1 b_meets_2
        rw [s0, bs]
        generalize f_with_states = fw at *
        rw [hh] at c14
        rw [et] at c14
        generalize sSlS (.o 6) (some (dC (.int 1))) (some (dC (.int 4))) = SS at *
        simp [-Option.bind_some, -fIx_t, bs, c14, i3, i4, j4, fe, sz, ws, setS_free h7.free, appT_d, hz1, metE, Met.enc]
      obtain ⟨y6, y7, g6, g7, e⟩ := me_inner s4 a ha x hx ys (acc ++ [metE sts a x y]) (by simp; omega) (some (.val y.enc)) _ (vs_v _) (vs_v _)
      refine ⟨y6, y7, g6, g7, ?_⟩
      rw [List.map_cons, forL_nx t, e, List.filter_cons_of_pos (by simpa using hh)]
      simp
    · have t : turnS (gN 6) (kIf t_meets_1 b_meets_2 kNil) y.enc (Eme ms sts acc (some (.val (.int a))) (some (.val x.enc)) (some (.val (.int x.o))) x6 x7) = some (.nx (Eme ms sts acc (some (.val (.int a))) (some (.val x.enc)) (some (.val (.int x.o))) (some (.val y.enc)) x7)) := by
        have s0 : gN 6 y.enc (Eme ms sts acc (some (.val (.int a))) (some (.val x.enc)) (some (.val (.int x.o))) x6 x7) = some (Eme ms sts acc (some (.val (.int a))) (some (.val x.enc)) (some (.val (.int x.o))) (some (.val y.enc)) x7) := by simp [setS_free h6.free]
        rw [decide_eq_false hh, et] at fe
        unfold turnS t_meets_1
        rw [s0, bs]
        generalize b_meets_2 = BB at *
        generalize sSlS (.o 6) (some (dC (.int 1))) (some (dC (.int 4))) = SS at *
        simp [-Option.bind_some, -fIx_t, bs, c14, i3, fe, sz]
      obtain ⟨y6, y7, g6, g7, e⟩ := me_inner s4 a ha x hx ys acc (by omega) (some (.val y.enc)) x7 (vs_v _) h7
      refine ⟨y6, y7, g6, g7, ?_⟩
      rw [List.map_cons, forL_nx t, e, List.filter_cons_of_neg (by simpa using hh)]
theorem me_step {ms : List Mach} (m4 : ms.length = 4) (hm : ∀ m ∈ ms, m.ok) {sts : List Nat} (s4 : sts.length = 4) (a : Nat) (ha : a < 4) : ∀ (xs : List Stp) (acc : List Met), (∀ x ∈ xs, 0 ≤ x.o ∧ x.o < 4) → acc.length + 32 * xs.length ≤ 900000 → ∀ (x4 x5 x6 x7 : Option Sl), Vs x4 → Vs x5 → Vs x6 → Vs x7 →
    ∃ y4 y5 y6 y7, Vs y4 ∧ Vs y5 ∧ Vs y6 ∧ Vs y7 ∧ forL (gN 4) b_meets_5 (xs.map Stp.enc) (Eme ms sts acc (some (.val (.int a))) x4 x5 x6 x7) =
      some (.nx (Eme ms sts (acc ++ xs.flatMap (meetX ms sts a)) (some (.val (.int a))) y4 y5 y6 y7))
  | [], acc, _, _, x4, x5, x6, x7, h4, h5, h6, h7 => ⟨x4, x5, x6, x7, h4, h5, h6, h7, by simp [forL_nil]⟩
  | x :: xs, acc, hb, hz, x4, x5, x6, x7, h4, h5, h6, h7 => by
    simp only [List.length_cons] at hz
    have hx := hb x List.mem_cons_self
    have few := meetX_few hm sts a x
    have s0 : gN 4 x.enc (Eme ms sts acc (some (.val (.int a))) x4 x5 x6 x7) = some (Eme ms sts acc (some (.val (.int a))) (some (.val x.enc)) x5 x6 x7) := by simp [setS_free h4.free]
    have i2 : fIx x.enc (.int 2) = some (.int x.o) := rfl
    have i1 : fIx x.enc (.int 1) = some (.str (wd x.w)) := rfl
    have s1 : kSet 5 (sVal (d2 fIx (.o 4) (.e (dC (.int 2))))) (Eme ms sts acc (some (.val (.int a))) (some (.val x.enc)) x5 x6 x7) = some (.nx (Eme ms sts acc (some (.val (.int a))) (some (.val x.enc)) (some (.val (.int x.o))) x6 x7)) := by
      simp [-fIx_t, i2, setS_free h5.free]
    have lm := len_ms' ms
    rw [m4] at lm
    have le : fLen (encMs ms) = some (.int 4) := lm
    have fne : fNe (.int x.o) (.int a) = some (.bl (!decide (x.o = (a : Int)))) := by rw [fNe_d (.inl (by simp))]; simp; rfl
    have t : ∃ y6 y7, Vs y6 ∧ Vs y7 ∧ turnS (gN 4) b_meets_5 x.enc (Eme ms sts acc (some (.val (.int a))) x4 x5 x6 x7) = some (.nx (Eme ms sts (acc ++ meetX ms sts a x) (some (.val (.int a))) (some (.val x.enc)) (some (.val (.int x.o))) y6 y7)) := by
      unfold turnS b_meets_5
      rw [s0, bs, kSeq_nx s1]
      by_cases hc : x.w = true ∧ x.o < 4 ∧ x.o ≠ (a : Int)
      · obtain ⟨c1, c2, c3⟩ := hc
        obtain ⟨m, e1⟩ : ∃ m, ms[x.o.toNat]? = some m := ⟨_, List.getElem?_eq_getElem (by omega)⟩
        obtain ⟨st, e2⟩ : ∃ st, sts[x.o.toNat]? = some st := ⟨_, List.getElem?_eq_getElem (by omega)⟩
        have hmk := hm _ (List.mem_of_getElem? e1)
        have fr := steps_from_fun m st hmk.few.1
        have a1 := ix_ms e1
        have a2 := ix_nt e2
        have eo : ((x.o.toNat : Nat) : Int) = x.o := by omega
        rw [eo] at a1 a2
        have few2 := from_few' hmk st
        obtain ⟨y6, y7, g6, g7, e⟩ := me_inner (ms := ms) s4 a ha x hx (m.from st) acc (by omega) x6 x7 h6 h7
        refine ⟨y6, y7, g6, g7, ?_⟩
        have hX : meetX ms sts a x = ((m.from st).filter fun y => decide (y.tri = (false, (a : Int), x.l))).map fun y => metE sts a x y := by
          unfold meetX
          rw [if_pos ⟨c1, c2, c3⟩, stAt_eq e1 e2]
        rw [hX]
        have hi : iVal (dFrz (callS f_steps_from [.val (d2 fIx (.o 0) (.o 5)), .val (d2 fIx (.o 1) (.o 5))])) (Eme ms sts acc (some (.val (.int a))) (some (.val x.enc)) (some (.val (.int x.o))) x6 x7) = some ((m.from st).map Stp.enc, Eme ms sts acc (some (.val (.int a))) (some (.val x.enc)) (some (.val (.int x.o))) x6 x7) := by
          generalize f_steps_from = ff at *
          generalize (m.from st).map Stp.enc = X at *
          simp [-Option.bind_some, -fIx_t, bs, a1, a2, fr]
        have hk : kIf t_meets_3 b_meets_4 kNil (Eme ms sts acc (some (.val (.int a))) (some (.val x.enc)) (some (.val (.int x.o))) x6 x7) = b_meets_4 (Eme ms sts acc (some (.val (.int a))) (some (.val x.enc)) (some (.val (.int x.o))) x6 x7) := by
          unfold t_meets_3
          generalize b_meets_4 = BB at *
          simp [-Option.bind_some, -fIx_t, -fLen_t, bs, i1, c1, wd, le, c2, fne, c3]
        rw [hk]
        unfold b_meets_4
        exact kFor_of hi e
      · refine ⟨x6, x7, h6, h7, ?_⟩
        have hX : meetX ms sts a x = [] := by unfold meetX; rw [if_neg hc]
        rw [hX, List.append_nil]
        unfold t_meets_3
        generalize b_meets_4 = BB at *
        cases hw : x.w with
        | false => simp [-Option.bind_some, -fIx_t, bs, i1, hw, wd]
        | true =>
          have c3 : x.o = (a : Int) := by
            apply Classical.byContradiction
            intro hn
            exact hc ⟨hw, hx.2, hn⟩
          simp [-Option.bind_some, -fIx_t, -fLen_t, bs, i1, hw, wd, le, hx.2, fne, c3]
    obtain ⟨y6, y7, g6, g7, t⟩ := t
    obtain ⟨z4, z5, z6, z7, i4, i5, i6, i7, e⟩ := me_step m4 hm s4 a ha xs (acc ++ meetX ms sts a x) (fun c hc => hb c (List.mem_cons_of_mem _ hc)) (by rw [List.length_append]; omega) _ _ y6 y7 (vs_v _) (vs_v _) g6 g7
    refine ⟨z4, z5, z6, z7, i4, i5, i6, i7, ?_⟩
    rw [List.map_cons, forL_nx t, e]
    simp
theorem me_roles {ms : List Mach} (m4 : ms.length = 4) (hm : ∀ m ∈ ms, m.ok) {sts : List Nat} (s4 : sts.length = 4) : ∀ (ks : List Nat) (acc : List Met), (∀ k ∈ ks, k < 4) → acc.length + 1024 * ks.length ≤ 800000 → ∀ (x3 x4 x5 x6 x7 : Option Sl), Vs x3 → Vs x4 → Vs x5 → Vs x6 → Vs x7 →
    ∃ y3 y4 y5 y6 y7, Vs y3 ∧ Vs y4 ∧ Vs y5 ∧ Vs y6 ∧ Vs y7 ∧ forL (gN 3) b_meets_6 (nt ks) (Eme ms sts acc x3 x4 x5 x6 x7) =
      some (.nx (Eme ms sts (acc ++ ks.flatMap (meetA ms sts)) y3 y4 y5 y6 y7))
  | [], acc, _, _, x3, x4, x5, x6, x7, h3, h4, h5, h6, h7 => ⟨x3, x4, x5, x6, x7, h3, h4, h5, h6, h7, by simp [forL_nil, nt]⟩
  | k :: ks, acc, hk, hz, x3, x4, x5, x6, x7, h3, h4, h5, h6, h7 => by
    simp only [List.length_cons] at hz
    have hk4 := hk k List.mem_cons_self
    obtain ⟨m, e1⟩ : ∃ m, ms[k]? = some m := ⟨_, List.getElem?_eq_getElem (by omega)⟩
    obtain ⟨st, e2⟩ : ∃ st, sts[k]? = some st := ⟨_, List.getElem?_eq_getElem (by omega)⟩
    have hmk := hm _ (List.mem_of_getElem? e1)
    have fr := steps_from_fun m st hmk.few.1
    have a1 := ix_ms e1
    have a2 := ix_nt e2
    have few := from_few' hmk st
    have fewA := meetA_few hm sts k
    have sa := stAt_eq e1 e2
    have hb := stAt_bnd hm sts k
    rw [sa] at hb
    obtain ⟨y4, y5, y6, y7, g4, g5, g6, g7, e⟩ := me_step m4 hm s4 k hk4 (m.from st) acc (fun x hx => (hb x hx).1) (by omega) x4 x5 x6 x7 h4 h5 h6 h7
    have hA : (m.from st).flatMap (meetX ms sts k) = meetA ms sts k := by unfold meetA; rw [sa]
    rw [hA] at e
    have s0 : gN 3 (.int (k : Int)) (Eme ms sts acc x3 x4 x5 x6 x7) = some (Eme ms sts acc (some (.val (.int k))) x4 x5 x6 x7) := by simp [setS_free h3.free]
    have hi : iVal (dFrz (callS f_steps_from [.val (d2 fIx (.o 0) (.o 3)), .val (d2 fIx (.o 1) (.o 3))])) (Eme ms sts acc (some (.val (.int k))) x4 x5 x6 x7) = some ((m.from st).map Stp.enc, Eme ms sts acc (some (.val (.int k))) x4 x5 x6 x7) := by
      generalize f_steps_from = ff at *
      generalize (m.from st).map Stp.enc = X at *
      simp [-Option.bind_some, -fIx_t, bs, a1, a2, fr]
    have t : turnS (gN 3) b_meets_6 (.int (k : Int)) (Eme ms sts acc x3 x4 x5 x6 x7) = some (.nx (Eme ms sts (acc ++ meetA ms sts k) (some (.val (.int k))) y4 y5 y6 y7)) := by
      unfold turnS b_meets_6
      rw [s0, bs]
      exact kFor_of hi e
    obtain ⟨z3, z4, z5, z6, z7, i3, i4, i5, i6, i7, e3⟩ := me_roles m4 hm s4 ks (acc ++ meetA ms sts k) (fun j hj => hk j (List.mem_cons_of_mem _ hj)) (by rw [List.length_append]; omega) _ y4 y5 y6 y7 (vs_v _) g4 g5 g6 g7
    refine ⟨z3, z4, z5, z6, z7, i3, i4, i5, i6, i7, ?_⟩
    show forL (gN 3) b_meets_6 (.int (k : Int) :: nt ks) _ = _
    rw [forL_nx t, e3]
    simp
theorem meets_fun {ms : List Mach} (m4 : ms.length = 4) (hm : ∀ m ∈ ms, m.ok) {sts : List Nat} (s4 : sts.length = 4) : f_meets [.val (encMs ms), .val (.tup (nt sts))] = some (.own (.lst ((meetsE ms sts).map Met.enc)) false, [.val (encMs ms), .val (.tup (nt sts))]) := by
  obtain ⟨y3, y4, y5, y6, y7, g3, g4, g5, g6, g7, e⟩ := me_roles m4 hm s4 [0, 1, 2, 3] [] (by simp) (by decide) none none none none none vs_n vs_n vs_n vs_n vs_n
  have hu : [0, 1, 2, 3].flatMap (meetA ms sts) = meetsU ms sts := rfl
  rw [hu, List.nil_append] at e
  have few := meetsU_few hm sts
  have fs := fSorted_mets (meetsU ms sts) (by rw [sz]; omega)
  have lm := len_ms' ms
  rw [m4] at lm
  have le : fLen (encMs ms) = some (.int 4) := lm
  unfold f_meets meetsE
  rw [runF_eq (by rfl)]
  unfold m_meets
  have s1 : kSet 2 (sLst dNil) (envOf 8 [.val (encMs ms), .val (.tup (nt sts))]) = some (.nx (Eme ms sts [] none none none none none)) := by simp [envOf, slOf, sz]
  have hi := iR1_n (a := d1 fLen (.o 0)) (ρ := Eme ms sts [] none none none none none) (ρ' := Eme ms sts [] none none none none none) (n := 4) (by simp [-fLen_t, le]) (by omega)
  have hr : rangeD 0 4 = nt [0, 1, 2, 3] := rfl
  rw [hr] at hi
  rw [kSeq_nx s1, kSeq_nx (kFor_of hi e)]
  simp [fs]
end ET
set_option Elab.async false
set_option maxRecDepth 100000
/-! The laws' from. -/
namespace ET
open PySem L2
theorem from_fun (m : Mach) (st : Nat) (hm : m.steps.length ≤ 20000) : f__law_from [.val m.enc, .val (.int st)] = some (.own (.lst ((m.from st).map Stp.enc)) false, [.val m.enc, .val (.int st)]) := by
  unfold f__law_from
  rw [runF_eq (by rfl)]
  unfold m__law_from
  have c := compL_map (vs := [2]) (g := gN 2) (c := t__law_from_1) (e := dV 2) (ρ := [some (.val m.enc), some (.val (.int st)), none]) (enc := Stp.enc) (fun s => if s.st = st then some s.enc else none) m.steps fun y _ => by
    unfold turnC t__law_from_1
    by_cases h : y.st = st
    · simp [Stp.enc, h, wipeG, noOwn, wipeE]
    · have h' : ¬ ((y.st : Int) = (st : Int)) := by omega
      simp [Stp.enc, h, h', wipeG, noOwn, wipeE]
  rw [filterMap_if (fun s : Stp => s.st = st)] at c
  have hz : (m.from st).length ≤ 16777216 := by have := List.length_filter_le (fun s : Stp => decide (s.st = st)) m.steps; unfold Mach.from; omega
  change _ = some ((m.from st).map Stp.enc, _) at c
  simp only [Mach.enc] at c ⊢
  simp [envOf, slOf, wipeG, noOwn, wipeE, backE, c, sz, hz]
end ET
set_option Elab.async false
set_option maxRecDepth 100000
/-! Hand in hand: the laws' meets. -/
namespace ET
open PySem L2
abbrev Elm (ms : List Mach) (sts : List Nat) (acc : List Met) (x3 x4 x5 x6 x7 x8 x9 x10 : Option Sl) : Env := [some (.val (encMs ms)), some (.val (.tup (nt sts))), some (.own (.lst (acc.map Met.enc)) false), x3, x4, x5, x6, x7, x8, x9, x10, none]
abbrev glm : GE := gTp (gsCons (gN 4) (gsCons (gN 5) (gsCons (gN 6) (gsCons (gN 7) (gsCons (gN 8) gsNil)))))
theorem fLen_nt (l : List Nat) : fLen (.tup (nt l)) = some (.int l.length) := by
  have := nt_length l
  simp [this]
theorem behind_e {ms : List Mach} {sts : List Nat} (s4 : sts.length = 4) (acc : List Met) (x3 x4 x5 x6 x7 x8 x9 x10 : Option Sl) :
    sComp [11] (iR1 (d1 fLen (.o 1))) (gN 11) tYesD (d2 fIx (.o 1) (.o 11)) (Elm ms sts acc x3 x4 x5 x6 x7 x8 x9 x10) = some (.own (.lst (nt sts)) false, Elm ms sts acc x3 x4 x5 x6 x7 x8 x9 x10) := by
  have le : fLen (.tup (nt sts)) = some (.int 4) := by rw [fLen_nt, s4]; rfl
  have hi := iR1_n (a := d1 fLen (.o 1)) (ρ := Elm ms sts acc x3 x4 x5 x6 x7 x8 x9 x10) (ρ' := Elm ms sts acc x3 x4 x5 x6 x7 x8 x9 x10) (n := 4) (by simp [-fLen_t, le]) (by omega)
  have hr : rangeD 0 4 = [0, 1, 2, 3].map fun (k : Nat) => D.int (k : Int) := rfl
  rw [hr] at hi
  have c := compL_map (vs := [11]) (g := gN 11) (c := tYesD) (e := d2 fIx (.o 1) (.o 11)) (ρ := Elm ms sts acc x3 x4 x5 x6 x7 x8 x9 x10) (enc := fun (k : Nat) => D.int (k : Int)) (fun k => some (.int (sts[k]?.getD 0))) [0, 1, 2, 3] fun k hk => by
    have hk4 : k < sts.length := by simp at hk; omega
    have a2 := ix_nt (sts := sts) (List.getElem?_eq_getElem hk4)
    unfold turnC
    rw [List.getElem?_eq_getElem hk4]
    simp [-fIx_t, a2, wipeG, noOwn, wipeE]
  have hf : [0, 1, 2, 3].filterMap (fun (k : Nat) => some (D.int (sts[k]?.getD 0))) = nt sts := by
    clear c hi le
    match sts, s4 with
    | [a, b, c, d], _ => simp [nt]
  rw [hf] at c
  have hz : (nt sts).length ≤ 16777216 := by rw [nt_length]; omega
  generalize iR1 (d1 fLen (.o 1)) = I at *
  generalize ([0, 1, 2, 3].map fun (k : Nat) => D.int (k : Int)) = L at *
  simp [-Option.bind_some, bs, hi, wipeG, noOwn, wipeE, backE, c, sz, hz]
theorem lm_inner {ms : List Mach} {sts : List Nat} (s4 : sts.length = 4) (a : Nat) (ha : a < 4) (x : Stp) (hx : 0 ≤ x.o ∧ x.o < 4) : ∀ (ys : List Stp) (acc : List Met), acc.length + ys.length ≤ 1000000 → ∀ (x4 x9 x10 : Option Sl), Vs x9 → Fs x10 →
    ∃ y9 y10, Vs y9 ∧ Fs y10 ∧ forL (gN 9) (kIf t__law_meets_1 b__law_meets_2 kNil) (ys.map Stp.enc) (Elm ms sts acc (some (.val (.int a))) x4 (some (.val (.str (wd x.w)))) (some (.val (.int x.o))) (some (.val (.int x.l))) (some (.val (.int x.af))) x9 x10) =
      some (.nx (Elm ms sts (acc ++ (ys.filter fun y => decide (y.tri = (false, (a : Int), x.l))).map fun y => metE sts a x y) (some (.val (.int a))) x4 (some (.val (.str (wd x.w)))) (some (.val (.int x.o))) (some (.val (.int x.l))) (some (.val (.int x.af))) y9 y10))
  | [], acc, _, x4, x9, x10, h9, h10 => ⟨x9, x10, h9, h10, by simp [forL_nil]⟩
  | y :: ys, acc, hz, x4, x9, x10, h9, h10 => by
    simp only [List.length_cons] at hz
    have fe := fEq_tri y.tri (false, (a : Int), x.l)
    have i1 : ixN (nt sts).length (a : Int) = some a := by rw [ixN_lit, nt_length, if_pos (by omega)]
    have eo : ((x.o.toNat : Nat) : Int) = x.o := by omega
    have i2 : ixN (nt sts).length x.o = some x.o.toNat := by
      have := ixN_lit (nt sts).length x.o.toNat
      rw [eo, nt_length, if_pos (by omega)] at this
      rw [nt_length]; exact this
    have hz1 : acc.length < 16777216 := by omega
    have c14 : sSlS (.o 9) (some (dC (.int 1))) (some (dC (.int 4))) (Elm ms sts acc (some (.val (.int a))) x4 (some (.val (.str (wd x.w)))) (some (.val (.int x.o))) (some (.val (.int x.l))) (some (.val (.int x.af))) (some (.val y.enc)) x10) = some (.val (encT y.tri), Elm ms sts acc (some (.val (.int a))) x4 (some (.val (.str (wd x.w)))) (some (.val (.int x.o))) (some (.val (.int x.l))) (some (.val (.int x.af))) (some (.val y.enc)) x10) := by
      simp [Stp.enc, cut14, encT, Stp.tri]
    have j4 : fIx y.enc (.int 4) = some (.int y.af) := rfl
    have et : encT (false, (a : Int), x.l) = .tup [.str .hear, .int a, .int x.l] := rfl
    have s0 : gN 9 y.enc (Elm ms sts acc (some (.val (.int a))) x4 (some (.val (.str (wd x.w)))) (some (.val (.int x.o))) (some (.val (.int x.l))) (some (.val (.int x.af))) x9 x10) = some (Elm ms sts acc (some (.val (.int a))) x4 (some (.val (.str (wd x.w)))) (some (.val (.int x.o))) (some (.val (.int x.l))) (some (.val (.int x.af))) (some (.val y.enc)) x10) := by simp [setS_free h9.free]
    by_cases hh : y.tri = (false, (a : Int), x.l)
    · have be := behind_e (ms := ms) s4 acc (some (.val (.int a))) x4 (some (.val (.str (wd x.w)))) (some (.val (.int x.o))) (some (.val (.int x.l))) (some (.val (.int x.af))) (some (.val y.enc)) x10
      have t : turnS (gN 9) (kIf t__law_meets_1 b__law_meets_2 kNil) y.enc (Elm ms sts acc (some (.val (.int a))) x4 (some (.val (.str (wd x.w)))) (some (.val (.int x.o))) (some (.val (.int x.l))) (some (.val (.int x.af))) x9 x10) = some (.nx (Elm ms sts (acc ++ [metE sts a x y]) (some (.val (.int a))) x4 (some (.val (.str (wd x.w)))) (some (.val (.int x.o))) (some (.val (.int x.l))) (some (.val (.int x.af))) (some (.val y.enc)) (some (.own (.lst (nt ((sts.set a x.af).set x.o.toNat y.af))) false)))) := by
        rw [hh, et] at fe
        unfold turnS t__law_meets_1 b__law_meets_2
        rw [s0, bs]
        have k1 : kSet 10 (sComp [11] (iR1 (d1 fLen (.o 1))) (gN 11) tYesD (d2 fIx (.o 1) (.o 11))) (Elm ms sts acc (some (.val (.int a))) x4 (some (.val (.str (wd x.w)))) (some (.val (.int x.o))) (some (.val (.int x.l))) (some (.val (.int x.af))) (some (.val y.enc)) x10) =
            some (.nx (Elm ms sts acc (some (.val (.int a))) x4 (some (.val (.str (wd x.w)))) (some (.val (.int x.o))) (some (.val (.int x.l))) (some (.val (.int x.af))) (some (.val y.enc)) (some (.own (.lst (nt sts)) false)))) := by
          generalize sComp [11] (iR1 (d1 fLen (.o 1))) (gN 11) tYesD (d2 fIx (.o 1) (.o 11)) = CC at *
          simp [-Option.bind_some, bs, be, setS_free h10.free]
        generalize kSet 10 (sComp [11] (iR1 (d1 fLen (.o 1))) (gN 11) tYesD (d2 fIx (.o 1) (.o 11))) = KK at *
        rw [hh] at c14
        rw [et] at c14
        generalize sSlS (.o 9) (some (dC (.int 1))) (some (dC (.int 4))) = SS at *
        have hl : (nt sts).length ≤ 16777216 := by rw [nt_length]; omega
        have em : List.map Met.enc (acc ++ [metE sts a x y]) = acc.map Met.enc ++ [.tup [.int a, .int x.o, .int x.l, .tup (((nt sts).set a (.int x.af)).set x.o.toNat (.int y.af))]] := by
          rw [List.map_append, List.map_cons, List.map_nil, ← nt_set, ← nt_set]; rfl
        simp only [Elm] at k1 c14 ⊢
        rw [em, nt_set, nt_set]
        have me : ∀ k : Nat, ixN ((nt sts).set a (.int x.af)).length (k : Int) = ixN (nt sts).length k := fun k => by rw [List.length_set]
        generalize nt sts = N at *
        have kn : ∀ (A B : DS) (ρ ρ' : Env), A ρ = some (.nx ρ') → kSeq A B ρ = B ρ' := fun A B ρ ρ' h => kSeq_nx h
        have t1 : (tOf (d2 fEq (.e (dFrz SS)) (.e (dTup (dCons (dC (.str .hear)) (dCons (dV 3) (dCons (dV 7) dNil))))))) [some (.val (encMs ms)), some (.val (.tup N)), some (.own (.lst (acc.map Met.enc)) false), (some (.val (.int a))), x4, (some (.val (.str (wd x.w)))), (some (.val (.int x.o))), (some (.val (.int x.l))), (some (.val (.int x.af))), (some (.val y.enc)), x10, none] = some (true, [some (.val (encMs ms)), some (.val (.tup N)), some (.own (.lst (acc.map Met.enc)) false), (some (.val (.int a))), x4, (some (.val (.str (wd x.w)))), (some (.val (.int x.o))), (some (.val (.int x.l))), (some (.val (.int x.af))), (some (.val y.enc)), x10, none]) := by
          simp [-Option.bind_some, bs, c14, fe, sz]
        unfold kIf
        rw [t1, bs]
        dsimp only
        rw [if_pos rfl, kn _ _ _ _ k1]
        simp [-Option.bind_some, -fIx_t, bs, j4, i1, i2, appT_d, hz1, sz, hl]
      obtain ⟨y9, y10, g9, g10, e⟩ := lm_inner s4 a ha x hx ys (acc ++ [metE sts a x y]) (by simp; omega) x4 (some (.val y.enc)) _ (vs_v _) (fs_l _)
      refine ⟨y9, y10, g9, g10, ?_⟩
      rw [List.map_cons, forL_nx t, e, List.filter_cons_of_pos (by simpa using hh)]
      simp
    · have t : turnS (gN 9) (kIf t__law_meets_1 b__law_meets_2 kNil) y.enc (Elm ms sts acc (some (.val (.int a))) x4 (some (.val (.str (wd x.w)))) (some (.val (.int x.o))) (some (.val (.int x.l))) (some (.val (.int x.af))) x9 x10) = some (.nx (Elm ms sts acc (some (.val (.int a))) x4 (some (.val (.str (wd x.w)))) (some (.val (.int x.o))) (some (.val (.int x.l))) (some (.val (.int x.af))) (some (.val y.enc)) x10)) := by
        rw [decide_eq_false hh, et] at fe
        unfold turnS t__law_meets_1
        rw [s0, bs]
        generalize b__law_meets_2 = BB at *
        generalize sSlS (.o 9) (some (dC (.int 1))) (some (dC (.int 4))) = SS at *
        simp [-Option.bind_some, -fIx_t, bs, c14, fe, sz]
      obtain ⟨y9, y10, g9, g10, e⟩ := lm_inner s4 a ha x hx ys acc (by omega) x4 (some (.val y.enc)) x10 (vs_v _) h10
      refine ⟨y9, y10, g9, g10, ?_⟩
      rw [List.map_cons, forL_nx t, e, List.filter_cons_of_neg (by simpa using hh)]
end ET
set_option Elab.async false
set_option maxRecDepth 100000
/-! Hand in hand: the laws' meets, the loops. -/
namespace ET
open PySem L2
theorem lm_step {ms : List Mach} (m4 : ms.length = 4) (hm : ∀ m ∈ ms, m.ok) {sts : List Nat} (s4 : sts.length = 4) (a : Nat) (ha : a < 4) : ∀ (xs : List Stp) (acc : List Met), (∀ x ∈ xs, 0 ≤ x.o ∧ x.o < 4) → acc.length + 32 * xs.length ≤ 900000 → ∀ (x4 x5 x6 x7 x8 x9 x10 : Option Sl), Vs x4 → Vs x5 → Vs x6 → Vs x7 → Vs x8 → Vs x9 → Fs x10 →
    ∃ y4 y5 y6 y7 y8 y9 y10, Vs y4 ∧ Vs y5 ∧ Vs y6 ∧ Vs y7 ∧ Vs y8 ∧ Vs y9 ∧ Fs y10 ∧ forL glm (kIf t__law_meets_3 b__law_meets_4 kNil) (xs.map Stp.enc) (Elm ms sts acc (some (.val (.int a))) x4 x5 x6 x7 x8 x9 x10) =
      some (.nx (Elm ms sts (acc ++ xs.flatMap (meetX ms sts a)) (some (.val (.int a))) y4 y5 y6 y7 y8 y9 y10))
  | [], acc, _, _, x4, x5, x6, x7, x8, x9, x10, h4, h5, h6, h7, h8, h9, h10 => ⟨x4, x5, x6, x7, x8, x9, x10, h4, h5, h6, h7, h8, h9, h10, by simp [forL_nil]⟩
  | x :: xs, acc, hb, hz, x4, x5, x6, x7, x8, x9, x10, h4, h5, h6, h7, h8, h9, h10 => by
    simp only [List.length_cons] at hz
    have hx := hb x List.mem_cons_self
    have few := meetX_few hm sts a x
    have s0 : glm x.enc (Elm ms sts acc (some (.val (.int a))) x4 x5 x6 x7 x8 x9 x10) = some (Elm ms sts acc (some (.val (.int a))) (some (.val (.int x.st))) (some (.val (.str (wd x.w)))) (some (.val (.int x.o))) (some (.val (.int x.l))) (some (.val (.int x.af))) x9 x10) := by
      simp [Stp.enc, setS_free h4.free, setS_free h5.free, setS_free h6.free, setS_free h7.free, setS_free h8.free]
    have lm := len_ms' ms
    rw [m4] at lm
    have le : fLen (encMs ms) = some (.int 4) := lm
    have fne : fNe (.int x.o) (.int a) = some (.bl (!decide (x.o = (a : Int)))) := by rw [fNe_d (.inl (by simp))]; simp; rfl
    have t : ∃ y9 y10, Vs y9 ∧ Fs y10 ∧ turnS glm (kIf t__law_meets_3 b__law_meets_4 kNil) x.enc (Elm ms sts acc (some (.val (.int a))) x4 x5 x6 x7 x8 x9 x10) = some (.nx (Elm ms sts (acc ++ meetX ms sts a x) (some (.val (.int a))) (some (.val (.int x.st))) (some (.val (.str (wd x.w)))) (some (.val (.int x.o))) (some (.val (.int x.l))) (some (.val (.int x.af))) y9 y10)) := by
      unfold turnS
      rw [s0, bs]
      by_cases hc : x.w = true ∧ x.o < 4 ∧ x.o ≠ (a : Int)
      · obtain ⟨c1, c2, c3⟩ := hc
        obtain ⟨m, e1⟩ : ∃ m, ms[x.o.toNat]? = some m := ⟨_, List.getElem?_eq_getElem (by omega)⟩
        obtain ⟨st, e2⟩ : ∃ st, sts[x.o.toNat]? = some st := ⟨_, List.getElem?_eq_getElem (by omega)⟩
        have hmk := hm _ (List.mem_of_getElem? e1)
        have fr := from_fun m st hmk.few.1
        have a1 := ix_ms e1
        have a2 := ix_nt e2
        have eo : ((x.o.toNat : Nat) : Int) = x.o := by omega
        rw [eo] at a1 a2
        have few2 := from_few' hmk st
        obtain ⟨y9, y10, g9, g10, e⟩ := lm_inner (ms := ms) s4 a ha x hx (m.from st) acc (by omega) (some (.val (.int x.st))) x9 x10 h9 h10
        refine ⟨y9, y10, g9, g10, ?_⟩
        have hX : meetX ms sts a x = ((m.from st).filter fun y => decide (y.tri = (false, (a : Int), x.l))).map fun y => metE sts a x y := by
          unfold meetX
          rw [if_pos ⟨c1, c2, c3⟩, stAt_eq e1 e2]
        rw [hX]
        have hi : iVal (dFrz (callS f__law_from [.val (d2 fIx (.o 0) (.o 6)), .val (d2 fIx (.o 1) (.o 6))])) (Elm ms sts acc (some (.val (.int a))) (some (.val (.int x.st))) (some (.val (.str (wd x.w)))) (some (.val (.int x.o))) (some (.val (.int x.l))) (some (.val (.int x.af))) x9 x10) = some ((m.from st).map Stp.enc, Elm ms sts acc (some (.val (.int a))) (some (.val (.int x.st))) (some (.val (.str (wd x.w)))) (some (.val (.int x.o))) (some (.val (.int x.l))) (some (.val (.int x.af))) x9 x10) := by
          generalize f__law_from = ff at *
          generalize (m.from st).map Stp.enc = X at *
          simp [-Option.bind_some, -fIx_t, bs, a1, a2, fr]
        have hk : kIf t__law_meets_3 b__law_meets_4 kNil (Elm ms sts acc (some (.val (.int a))) (some (.val (.int x.st))) (some (.val (.str (wd x.w)))) (some (.val (.int x.o))) (some (.val (.int x.l))) (some (.val (.int x.af))) x9 x10) = b__law_meets_4 (Elm ms sts acc (some (.val (.int a))) (some (.val (.int x.st))) (some (.val (.str (wd x.w)))) (some (.val (.int x.o))) (some (.val (.int x.l))) (some (.val (.int x.af))) x9 x10) := by
          unfold t__law_meets_3
          generalize b__law_meets_4 = BB at *
          simp [-Option.bind_some, -fIx_t, -fLen_t, bs, c1, wd, le, c2, fne, c3]
        rw [hk]
        unfold b__law_meets_4
        exact kFor_of hi e
      · refine ⟨x9, x10, h9, h10, ?_⟩
        have hX : meetX ms sts a x = [] := by unfold meetX; rw [if_neg hc]
        rw [hX, List.append_nil]
        unfold t__law_meets_3
        generalize b__law_meets_4 = BB at *
        cases hw : x.w with
        | false => simp [-Option.bind_some, -fIx_t, bs, hw, wd]
        | true =>
          have c3 : x.o = (a : Int) := by
            apply Classical.byContradiction
            intro hn
            exact hc ⟨hw, hx.2, hn⟩
          simp [-Option.bind_some, -fIx_t, -fLen_t, bs, hw, wd, le, hx.2, fne, c3]
    obtain ⟨y9, y10, g9, g10, t⟩ := t
    obtain ⟨z4, z5, z6, z7, z8, z9, z10, i4, i5, i6, i7, i8, i9, i10, e⟩ := lm_step m4 hm s4 a ha xs (acc ++ meetX ms sts a x) (fun c hc => hb c (List.mem_cons_of_mem _ hc)) (by rw [List.length_append]; omega) _ _ _ _ _ y9 y10 (vs_v _) (vs_v _) (vs_v _) (vs_v _) (vs_v _) g9 g10
    refine ⟨z4, z5, z6, z7, z8, z9, z10, i4, i5, i6, i7, i8, i9, i10, ?_⟩
    rw [List.map_cons, forL_nx t, e]
    simp
theorem lm_roles {ms : List Mach} (m4 : ms.length = 4) (hm : ∀ m ∈ ms, m.ok) {sts : List Nat} (s4 : sts.length = 4) : ∀ (ks : List Nat) (acc : List Met), (∀ k ∈ ks, k < 4) → acc.length + 1024 * ks.length ≤ 800000 → ∀ (x3 x4 x5 x6 x7 x8 x9 x10 : Option Sl), Vs x3 → Vs x4 → Vs x5 → Vs x6 → Vs x7 → Vs x8 → Vs x9 → Fs x10 →
    ∃ y3 y4 y5 y6 y7 y8 y9 y10, Vs y3 ∧ Vs y4 ∧ Vs y5 ∧ Vs y6 ∧ Vs y7 ∧ Vs y8 ∧ Vs y9 ∧ Fs y10 ∧ forL (gN 3) b__law_meets_5 (nt ks) (Elm ms sts acc x3 x4 x5 x6 x7 x8 x9 x10) =
      some (.nx (Elm ms sts (acc ++ ks.flatMap (meetA ms sts)) y3 y4 y5 y6 y7 y8 y9 y10))
  | [], acc, _, _, x3, x4, x5, x6, x7, x8, x9, x10, h3, h4, h5, h6, h7, h8, h9, h10 => ⟨x3, x4, x5, x6, x7, x8, x9, x10, h3, h4, h5, h6, h7, h8, h9, h10, by simp [forL_nil, nt]⟩
  | k :: ks, acc, hk, hz, x3, x4, x5, x6, x7, x8, x9, x10, h3, h4, h5, h6, h7, h8, h9, h10 => by
    simp only [List.length_cons] at hz
    have hk4 := hk k List.mem_cons_self
    obtain ⟨m, e1⟩ : ∃ m, ms[k]? = some m := ⟨_, List.getElem?_eq_getElem (by omega)⟩
    obtain ⟨st, e2⟩ : ∃ st, sts[k]? = some st := ⟨_, List.getElem?_eq_getElem (by omega)⟩
    have hmk := hm _ (List.mem_of_getElem? e1)
    have fr := from_fun m st hmk.few.1
    have a1 := ix_ms e1
    have a2 := ix_nt e2
    have few := from_few' hmk st
    have fewA := meetA_few hm sts k
    have sa := stAt_eq e1 e2
    have hb := stAt_bnd hm sts k
    rw [sa] at hb
    obtain ⟨y4, y5, y6, y7, y8, y9, y10, g4, g5, g6, g7, g8, g9, g10, e⟩ := lm_step m4 hm s4 k hk4 (m.from st) acc (fun x hx => (hb x hx).1) (by omega) x4 x5 x6 x7 x8 x9 x10 h4 h5 h6 h7 h8 h9 h10
    have hA : (m.from st).flatMap (meetX ms sts k) = meetA ms sts k := by unfold meetA; rw [sa]
    rw [hA] at e
    have s0 : gN 3 (.int (k : Int)) (Elm ms sts acc x3 x4 x5 x6 x7 x8 x9 x10) = some (Elm ms sts acc (some (.val (.int k))) x4 x5 x6 x7 x8 x9 x10) := by simp [setS_free h3.free]
    have hi : iVal (dFrz (callS f__law_from [.val (d2 fIx (.o 0) (.o 3)), .val (d2 fIx (.o 1) (.o 3))])) (Elm ms sts acc (some (.val (.int k))) x4 x5 x6 x7 x8 x9 x10) = some ((m.from st).map Stp.enc, Elm ms sts acc (some (.val (.int k))) x4 x5 x6 x7 x8 x9 x10) := by
      generalize f__law_from = ff at *
      generalize (m.from st).map Stp.enc = X at *
      simp [-Option.bind_some, -fIx_t, bs, a1, a2, fr]
    have t : turnS (gN 3) b__law_meets_5 (.int (k : Int)) (Elm ms sts acc x3 x4 x5 x6 x7 x8 x9 x10) = some (.nx (Elm ms sts (acc ++ meetA ms sts k) (some (.val (.int k))) y4 y5 y6 y7 y8 y9 y10)) := by
      unfold turnS b__law_meets_5
      rw [s0, bs]
      exact kFor_of hi e
    obtain ⟨z3, z4, z5, z6, z7, z8, z9, z10, i3, i4, i5, i6, i7, i8, i9, i10, e3⟩ := lm_roles m4 hm s4 ks (acc ++ meetA ms sts k) (fun j hj => hk j (List.mem_cons_of_mem _ hj)) (by rw [List.length_append]; omega) _ y4 y5 y6 y7 y8 y9 y10 (vs_v _) g4 g5 g6 g7 g8 g9 g10
    refine ⟨z3, z4, z5, z6, z7, z8, z9, z10, i3, i4, i5, i6, i7, i8, i9, i10, ?_⟩
    show forL (gN 3) b__law_meets_5 (.int (k : Int) :: nt ks) _ = _
    rw [forL_nx t, e3]
    simp
theorem law_meets_fun {ms : List Mach} (m4 : ms.length = 4) (hm : ∀ m ∈ ms, m.ok) {sts : List Nat} (s4 : sts.length = 4) : f__law_meets [.val (encMs ms), .val (.tup (nt sts))] = some (.own (.lst ((meetsE ms sts).map Met.enc)) false, [.val (encMs ms), .val (.tup (nt sts))]) := by
  obtain ⟨y3, y4, y5, y6, y7, y8, y9, y10, g3, g4, g5, g6, g7, g8, g9, g10, e⟩ := lm_roles m4 hm s4 [0, 1, 2, 3] [] (by simp) (by decide) none none none none none none none none vs_n vs_n vs_n vs_n vs_n vs_n vs_n fs_n
  have hu : [0, 1, 2, 3].flatMap (meetA ms sts) = meetsU ms sts := rfl
  rw [hu, List.nil_append] at e
  have few := meetsU_few hm sts
  have fs := fSorted_mets (meetsU ms sts) (by rw [sz]; omega)
  have lm := len_ms' ms
  rw [m4] at lm
  have le : fLen (encMs ms) = some (.int 4) := lm
  unfold f__law_meets meetsE
  rw [runF_eq (by rfl)]
  unfold m__law_meets
  have s1 : kSet 2 (sLst dNil) (envOf 12 [.val (encMs ms), .val (.tup (nt sts))]) = some (.nx (Elm ms sts [] none none none none none none none none)) := by simp [envOf, slOf, sz]
  have hi := iR1_n (a := d1 fLen (.o 0)) (ρ := Elm ms sts [] none none none none none none none none) (ρ' := Elm ms sts [] none none none none none none none none) (n := 4) (by simp [-fLen_t, le]) (by omega)
  have hr : rangeD 0 4 = nt [0, 1, 2, 3] := rfl
  rw [hr] at hi
  rw [kSeq_nx s1, kSeq_nx (kFor_of hi e)]
  simp [fs]
end ET
set_option Elab.async false
set_option maxRecDepth 100000
/-! Hand in hand: begin, after_row, walked. -/
namespace ET
open PySem L2
noncomputable def aOneS (ms : List Mach) (sts : List Nat) (s : Say) : Option (List Nat) := ((meetsE ms sts).filter fun m => decide (m.say = s)).head?.map (·.af)
noncomputable def aRow (ms : List Mach) : List Nat → List Say → Option (List Nat)
  | sts, [] => some sts
  | sts, s :: r => (aOneS ms sts s).bind fun sts' => aRow ms sts' r
def encSt : Option (List Nat) → D
  | none => .non
  | some l => .tup (nt l)
theorem say_inj (a b : Say) : encS a = encS b → a = b := by
  obtain ⟨w, x, y⟩ := a
  obtain ⟨w', x', y'⟩ := b
  simp only [encS, D.tup.injEq, List.cons.injEq, D.int.injEq, and_true]
  rintro ⟨rfl, rfl, rfl⟩
  rfl
theorem fEq_say (a b : Say) : fEq (encS a) (encS b) = some (.bl (decide (a = b))) := by
  rw [fEq_d (.inl (by simp [encS, deepest]))]
  congr 2
  rw [Bool.eq_iff_iff, peq_iff _ _ rfl rfl, decide_eq_true_eq]
  exact ⟨say_inj a b, fun e => by rw [e]⟩
theorem met_len {ms : List Mach} {sts : List Nat} : ∀ m ∈ meetsE ms sts, m.af.length = sts.length := by
  intro m hm
  have hm := (List.mergeSort_perm _ _).mem_iff.mp hm
  obtain ⟨a, _, hm⟩ := List.mem_flatMap.mp hm
  obtain ⟨x, _, hm⟩ := List.mem_flatMap.mp hm
  unfold meetX at hm
  split at hm
  · obtain ⟨y, _, rfl⟩ := List.mem_map.mp hm
    simp [metE]
  · exact absurd hm (by simp)
theorem aOneS_len {ms : List Mach} {sts sts' : List Nat} {s : Say} (h : aOneS ms sts s = some sts') : sts'.length = sts.length := by
  unfold aOneS at h
  rw [Option.map_eq_some_iff] at h
  obtain ⟨m, h, rfl⟩ := h
  exact met_len m (List.mem_filter.mp (List.mem_of_head? h)).1
theorem meetsE_few {ms : List Mach} (hm : ∀ m ∈ ms, m.ok) (sts : List Nat) : (meetsE ms sts).length ≤ 4096 := by
  unfold meetsE
  rw [List.length_mergeSort]
  exact meetsU_few hm sts
theorem begin_h_fun {ms : List Mach} (m4 : ms.length = 4) : f_begin [.val (encMs ms)] = some (.val (.tup (nt [0, 0, 0, 0])), [.val (encMs ms)]) := by
  match ms, m4 with
  | [a, b, c, d], _ =>
    unfold f_begin
    rw [runF_eq (by rfl)]
    unfold m_begin
    have c := compL_map (vs := [1]) (g := gN 1) (c := tYesD) (e := dC (.int 0)) (ρ := [some (.val (.tup [a.enc, b.enc, c.enc, d.enc])), none]) (enc := Mach.enc) (fun _ => some (.int 0)) [a, b, c, d] fun y _ => by
      unfold turnC
      simp [wipeG, noOwn, wipeE]
    simp only [List.map_cons, List.map_nil] at c
    simp [encMs, envOf, slOf, wipeG, noOwn, wipeE, backE, sz, c, nt]
abbrev Ehr (ms : List Mach) (row : List Say) (sts : List Nat) (x3 x4 : Option Sl) : Env := [some (.val (encMs ms)), some (.val (.tup (row.map encS))), some (.val (.tup (nt sts))), x3, x4, none, none, none, none]
theorem hr_turn {ms : List Mach} (m4 : ms.length = 4) (hm : ∀ m ∈ ms, m.ok) (row0 : List Say) (sts : List Nat) (s4 : sts.length = 4) (x3 x4 : Option Sl) (f3 : Fs x3) (f4 : Fs x4) (s : Say) :
    ∃ y4, Fs y4 ∧ turnS (gN 3) b_after_row_2 (encS s) (Ehr ms row0 sts x3 x4) = match aOneS ms sts s with
      | some s' => some (.nx (Ehr ms row0 s' (some (.val (encS s))) y4))
      | none => some (.rt (.val .non) (Ehr ms row0 sts (some (.val (encS s))) y4)) := by
  have ed := meets_fun m4 hm s4
  have hl := meetsE_few hm sts
  have c := compL_map (vs := [5, 6, 7, 8]) (g := gTp (gsCons (gN 5) (gsCons (gN 6) (gsCons (gN 7) (gsCons (gN 8) gsNil))))) (c := t_after_row_1) (e := dV 8) (ρ := Ehr ms row0 sts (some (.val (encS s))) x4) (enc := Met.enc) (fun e => if e.say = s then some (.tup (nt e.af)) else none) (meetsE ms sts) fun y _ => by
    unfold turnC t_after_row_1
    have fe := fEq_say y.say s
    have te : encS y.say = .tup [.int y.a, .int y.b, .int y.l] := rfl
    rw [te] at fe
    by_cases hy : y.say = s
    · rw [decide_eq_true hy] at fe
      simp [-Option.bind_some, bs, Met.enc, hy, fe, wipeG, noOwn, wipeE, sz]
    · rw [decide_eq_false hy] at fe
      simp [-Option.bind_some, bs, Met.enc, fe, hy, wipeG, noOwn, wipeE, sz]
  rw [filterMap_if (fun e : Met => e.say = s)] at c
  have hz : ((meetsE ms sts).filter fun e => decide (e.say = s)).length ≤ 16777216 := by have := List.length_filter_le (fun e : Met => decide (e.say = s)) (meetsE ms sts); omega
  unfold aOneS turnS b_after_row_2
  generalize f_meets = fd at ed ⊢
  generalize (meetsE ms sts).map Met.enc = ME at *
  generalize (meetsE ms sts).filter (fun e => decide (e.say = s)) = l at *
  refine ⟨some (.own (.lst (l.map fun e => .tup (nt e.af))) false), fs_l _, ?_⟩
  cases l with
  | nil =>
    simp only [List.map_nil, Ehr] at c
    simp [-Option.bind_some, bs, setS_free f3.free, ed, wipeG, noOwn, wipeE, backE, c, sz, setS_free f4.free]
  | cons e l =>
    simp only [List.map_cons, Ehr] at c
    have hz' : l.length ≤ 16777215 := by simp at hz; omega
    have hp : ¬ ((l.length : Int) + 1 = 0) := by omega
    simp [-Option.bind_some, bs, setS_free f3.free, ed, wipeG, noOwn, wipeE, backE, c, sz, hz', hp, setS_free f4.free]
theorem hr_loop {ms : List Mach} (m4 : ms.length = 4) (hm : ∀ m ∈ ms, m.ok) (row0 : List Say) : ∀ (row : List Say) (sts : List Nat), sts.length = 4 → ∀ (x3 x4 : Option Sl), Fs x3 → Fs x4 →
    match aRow ms sts row with
    | some s' => ∃ y3 y4, forL (gN 3) b_after_row_2 (row.map encS) (Ehr ms row0 sts x3 x4) = some (.nx (Ehr ms row0 s' y3 y4))
    | none => ∃ r, forL (gN 3) b_after_row_2 (row.map encS) (Ehr ms row0 sts x3 x4) = some (.rt (.val .non) (some (.val (encMs ms)) :: some (.val (.tup (row0.map encS))) :: r))
  | [], sts, s4, x3, x4, f3, f4 => ⟨x3, x4, rfl⟩
  | d :: row, sts, s4, x3, x4, f3, f4 => by
    obtain ⟨y4, g4, e⟩ := hr_turn m4 hm row0 sts s4 x3 x4 f3 f4 d
    unfold aRow
    cases h1 : aOneS ms sts d with
    | none =>
      rw [h1] at e
      dsimp only [Option.bind_none]
      exact ⟨_, by rw [List.map_cons, forL_rt e]⟩
    | some s' =>
      rw [h1] at e
      rw [Option.bind_some]
      have ih := hr_loop m4 hm row0 row s' ((aOneS_len h1).trans s4) (some (.val (encS d))) y4 (fs_v _) g4
      dsimp only at e
      rw [List.map_cons, forL_nx e]
      exact ih
theorem after_row_fun {ms : List Mach} (m4 : ms.length = 4) (hm : ∀ m ∈ ms, m.ok) (row : List Say) : f_after_row [.val (encMs ms), .val (.tup (row.map encS))] = some (.val (encSt (aRow ms [0, 0, 0, 0] row)), [.val (encMs ms), .val (.tup (row.map encS))]) := by
  have e := hr_loop m4 hm row row [0, 0, 0, 0] rfl none none fs_n fs_n
  have bg := begin_h_fun m4
  unfold f_after_row
  rw [runF_eq (by rfl)]
  unfold m_after_row
  generalize b_after_row_2 = BB at *
  generalize f_begin = fb at *
  simp only [Ehr] at e
  generalize nt [0, 0, 0, 0] = N0 at *
  cases h : aRow ms [0, 0, 0, 0] row with
  | none =>
    rw [h] at e
    obtain ⟨r, e⟩ := e
    simp [envOf, slOf, bg, e, encSt]
  | some s' =>
    rw [h] at e
    obtain ⟨y4, y5, e⟩ := e
    simp [envOf, slOf, bg, e, encSt]
abbrev Elw (ms : List Mach) (row : List Say) (sts : List Nat) (x3 x4 : Option Sl) : Env := [some (.val (encMs ms)), some (.val (.tup (row.map encS))), some (.val (.tup (nt sts))), x3, x4, none]
theorem cut3 (a b c d : D) : cutD [a, b, c, d] none (some 3) = [a, b, c] := rfl
theorem lw_turn {ms : List Mach} (m4 : ms.length = 4) (hm : ∀ m ∈ ms, m.ok) (row0 : List Say) (sts : List Nat) (s4 : sts.length = 4) (x3 x4 : Option Sl) (f3 : Fs x3) (f4 : Fs x4) (s : Say) :
    ∃ y4, Fs y4 ∧ turnS (gN 3) b__law_walked_2 (encS s) (Elw ms row0 sts x3 x4) = match aOneS ms sts s with
      | some s' => some (.nx (Elw ms row0 s' (some (.val (encS s))) y4))
      | none => some (.rt (.val .non) (Elw ms row0 sts (some (.val (encS s))) y4)) := by
  have ed := law_meets_fun m4 hm s4
  have hl := meetsE_few hm sts
  have c := compL_map (vs := [5]) (g := gN 5) (c := t__law_walked_1) (e := d2 fIx (.o 5) (.e (dC (.int 3)))) (ρ := Elw ms row0 sts (some (.val (encS s))) x4) (enc := Met.enc) (fun e => if e.say = s then some (.tup (nt e.af)) else none) (meetsE ms sts) fun y _ => by
    unfold turnC t__law_walked_1
    have fe := fEq_say y.say s
    have te : encS y.say = .tup [.int y.a, .int y.b, .int y.l] := rfl
    rw [te] at fe
    by_cases hy : y.say = s
    · rw [decide_eq_true hy] at fe
      simp [-Option.bind_some, bs, Met.enc, hy, cut3, fe, wipeG, noOwn, wipeE, sz]
    · rw [decide_eq_false hy] at fe
      simp [-Option.bind_some, bs, Met.enc, cut3, fe, hy, wipeG, noOwn, wipeE, sz]
  rw [filterMap_if (fun e : Met => e.say = s)] at c
  have hz : ((meetsE ms sts).filter fun e => decide (e.say = s)).length ≤ 16777216 := by have := List.length_filter_le (fun e : Met => decide (e.say = s)) (meetsE ms sts); omega
  unfold aOneS turnS b__law_walked_2
  generalize f__law_meets = fd at ed ⊢
  generalize (meetsE ms sts).map Met.enc = ME at *
  generalize (meetsE ms sts).filter (fun e => decide (e.say = s)) = l at *
  refine ⟨some (.own (.lst (l.map fun e => .tup (nt e.af))) false), fs_l _, ?_⟩
  cases l with
  | nil =>
    simp only [List.map_nil, Elw] at c
    simp [-Option.bind_some, bs, setS_free f3.free, ed, wipeG, noOwn, wipeE, backE, c, sz, setS_free f4.free]
  | cons e l =>
    simp only [List.map_cons, Elw] at c
    have hz' : l.length ≤ 16777215 := by simp at hz; omega
    simp [-Option.bind_some, bs, setS_free f3.free, ed, wipeG, noOwn, wipeE, backE, c, sz, hz', setS_free f4.free]
theorem lw_loop {ms : List Mach} (m4 : ms.length = 4) (hm : ∀ m ∈ ms, m.ok) (row0 : List Say) : ∀ (row : List Say) (sts : List Nat), sts.length = 4 → ∀ (x3 x4 : Option Sl), Fs x3 → Fs x4 →
    match aRow ms sts row with
    | some s' => ∃ y3 y4, forL (gN 3) b__law_walked_2 (row.map encS) (Elw ms row0 sts x3 x4) = some (.nx (Elw ms row0 s' y3 y4))
    | none => ∃ r, forL (gN 3) b__law_walked_2 (row.map encS) (Elw ms row0 sts x3 x4) = some (.rt (.val .non) (some (.val (encMs ms)) :: some (.val (.tup (row0.map encS))) :: r))
  | [], sts, s4, x3, x4, f3, f4 => ⟨x3, x4, rfl⟩
  | d :: row, sts, s4, x3, x4, f3, f4 => by
    obtain ⟨y4, g4, e⟩ := lw_turn m4 hm row0 sts s4 x3 x4 f3 f4 d
    unfold aRow
    cases h1 : aOneS ms sts d with
    | none =>
      rw [h1] at e
      dsimp only [Option.bind_none]
      exact ⟨_, by rw [List.map_cons, forL_rt e]⟩
    | some s' =>
      rw [h1] at e
      rw [Option.bind_some]
      have ih := lw_loop m4 hm row0 row s' ((aOneS_len h1).trans s4) (some (.val (encS d))) y4 (fs_v _) g4
      dsimp only at e
      rw [List.map_cons, forL_nx e]
      exact ih
theorem walked_fun {ms : List Mach} (m4 : ms.length = 4) (hm : ∀ m ∈ ms, m.ok) (row : List Say) : f__law_walked [.val (encMs ms), .val (.tup (row.map encS))] = some (.val (encSt (aRow ms [0, 0, 0, 0] row)), [.val (encMs ms), .val (.tup (row.map encS))]) := by
  have e := lw_loop m4 hm row row [0, 0, 0, 0] rfl none none fs_n fs_n
  unfold f__law_walked
  rw [runF_eq (by rfl)]
  unfold m__law_walked
  have e0 : nt [0, 0, 0, 0] = [.int 0, .int 0, .int 0, .int 0] := rfl
  generalize b__law_walked_2 = BB at *
  simp only [Elw, e0] at e
  cases h : aRow ms [0, 0, 0, 0] row with
  | none =>
    rw [h] at e
    obtain ⟨r, e⟩ := e
    simp [envOf, slOf, e, encSt, sz]
  | some s' =>
    rw [h] at e
    obtain ⟨y4, y5, e⟩ := e
    simp [envOf, slOf, e, encSt, sz]
end ET
set_option Elab.async false
set_option maxRecDepth 100000
/-! _law_same at the same data. -/
namespace ET
open PySem L2
mutual
/-- tuples, lists, ints and texts, not too long -/
def sma : D → Prop
  | .bl _ => False
  | .scr _ => False
  | .tup xs => xs.length ≤ 100000 ∧ smas xs
  | .lst xs => xs.length ≤ 100000 ∧ smas xs
  | _ => True
def smas : List D → Prop
  | [] => True
  | d :: ds => sma d ∧ smas ds
end
theorem smas_iff : ∀ ds : List D, smas ds ↔ ∀ d ∈ ds, sma d
  | [] => by simp [smas]
  | d :: ds => by simp [smas, smas_iff ds]
mutual
theorem sma_cln : ∀ d : D, sma d → cln d = true
  | .non, _ => rfl
  | .bl _, h => h.elim
  | .int _, _ => rfl
  | .str _, _ => rfl
  | .tup xs, h => smas_clns xs h.2
  | .lst xs, h => smas_clns xs h.2
  | .scr _, h => h.elim
theorem smas_clns : ∀ ds : List D, smas ds → clns ds = true
  | [], _ => rfl
  | d :: ds, h => by simp [clns, sma_cln d h.1, smas_clns ds h.2]
end
theorem fEq_self {d : D} (h : sma d) (hd : dep d ≤ deepest) : fEq d d = some (.bl true) := by
  rw [fEq_d (.inl hd)]
  congr 2
  exact (peq_iff d d (sma_cln d h) (sma_cln d h)).mpr rfl
@[simp] theorem dIsi_d (T : String) (x : DO) (ρ : Env) : dIsi T x ρ = d1 (fIsi T) x ρ := rfl
@[simp] theorem dAndV_d (a b : DE) (ρ : Env) : dAndV a b ρ = (tOf a ρ).bind fun x => if x.1 = true then b x.2 else some (.bl false, x.2) := rfl
theorem isiT (xs : List D) : fIsi "tuple" (.tup xs) = some (.bl true) ∧ fIsi "list" (.tup xs) = some (.bl false) := ⟨by unfold fIsi tyOf kitB; rfl, by unfold fIsi tyOf kitB; rfl⟩
theorem isiL (xs : List D) : fIsi "tuple" (.lst xs) = some (.bl false) ∧ fIsi "list" (.lst xs) = some (.bl true) := ⟨by unfold fIsi tyOf kitB; rfl, by unfold fIsi tyOf kitB; rfl⟩
theorem isiI (i : Int) : fIsi "tuple" (.int i) = some (.bl false) ∧ fIsi "list" (.int i) = some (.bl false) ∧ fIsi "bool" (.int i) = some (.bl false) ∧ fIsi "int" (.int i) = some (.bl true) := ⟨by unfold fIsi tyOf kitB; rfl, by unfold fIsi tyOf kitB; rfl, by unfold fIsi tyOf kitB; rfl, by unfold fIsi tyOf kitB; rfl⟩
theorem isiS (i : Tag) : fIsi "tuple" (.str i) = some (.bl false) ∧ fIsi "list" (.str i) = some (.bl false) ∧ fIsi "bool" (.str i) = some (.bl false) ∧ fIsi "int" (.str i) = some (.bl false) ∧ fIsi "str" (.str i) = some (.bl true) := ⟨by unfold fIsi tyOf kitB; rfl, by unfold fIsi tyOf kitB; rfl, by unfold fIsi tyOf kitB; rfl, by unfold fIsi tyOf kitB; rfl, by unfold fIsi tyOf kitB; rfl⟩
theorem isiN : fIsi "tuple" .non = some (.bl false) ∧ fIsi "list" .non = some (.bl false) := ⟨by unfold fIsi tyOf kitB; rfl, by unfold fIsi tyOf kitB; rfl⟩
theorem fNe_b (a b : Bool) : fNe (.bl a) (.bl b) = some (.bl (a != b)) := by
  rw [fNe_d (.inl (by simp))]
  cases a <;> cases b <;> simp [peq, D.py, PyData.eqv]
@[simp] theorem isNon_s (a : Tag) : isNon (.str a) = false := rfl
@[simp] theorem isNon_l (a : List D) : isNon (.lst a) = false := rfl
/-- the items are the same -/
theorem same_items {self : FS} (ds : List D) (d : D) (hd : d = .tup ds ∨ d = .lst ds) (hl : ds.length ≤ 100000) (hs : ∀ x ∈ ds, self [.val x, .val x] = some (.val (.bl true), [.val x, .val x])) :
    dFrz (sComp [2] (iR1 (d1 fLen (.o 1))) (gN 2) (t__law_same_7 self) (dV 2)) [some (.val d), some (.val d), none] = some (.lst [], [some (.val d), some (.val d), none]) := by
  have hr : iR1 (d1 fLen (.o 1)) [some (.val d), some (.val d), none] = some (rangeD 0 ds.length, [some (.val d), some (.val d), none]) := by
    refine iR1_n ?_ (by omega)
    rcases hd with rfl | rfl <;> simp
  have c := compL_map (vs := [2]) (g := gN 2) (c := t__law_same_7 self) (e := dV 2) (ρ := [some (.val d), some (.val d), none]) (enc := fun (i : Nat) => D.int (0 + (i : Int))) (fun _ => none) (List.range ds.length) fun i hi => by
    have hi' : i < ds.length := by simpa using hi
    have e := hs ds[i] (List.getElem_mem hi')
    have ha : fIx d (.int (i : Int)) = some ds[i] := by
      rcases hd with rfl | rfl
      · show atI ds (i : Int) = _
        rw [atI_nat, List.getElem?_eq_getElem hi']
      · show atI ds (i : Int) = _
        rw [atI_nat, List.getElem?_eq_getElem hi']
    unfold turnC t__law_same_7
    simp [-Option.bind_some, bs, ha, e, wipeG, noOwn, wipeE]
  have hf : (List.range ds.length).filterMap (fun _ => (none : Option D)) = [] := by
    rw [List.filterMap_eq_nil_iff]; intro a _; rfl
  rw [hf] at c
  unfold rangeD at hr
  rw [dFrz_d, sComp_d, hr]
  generalize (List.range ds.length).map (fun (i : Nat) => D.int (0 + (i : Int))) = rg at *
  simp [-Option.bind_some, bs, wipeG, noOwn, wipeE, c, sz, backE]
theorem same_fun (k : Nat) : ∀ d : D, sma d → dep d < k → dep d ≤ deepest → f__law_same k [.val d, .val d] = some (.val (.bl true), [.val d, .val d]) := by
  induction k with
  | zero => intro d _ h; omega
  | succ k ih =>
    intro d hs hk hd
    show runF 2 3 (m__law_same (f__law_same k)) _ = _
    rw [runF_eq (by rfl)]
    unfold m__law_same
    have fe := fEq_self hs hd
    cases d with
    | non => simp [-Option.bind_some, bs, envOf, slOf, t__law_same_10, isiN.1, isiN.2, b__law_same_6]
    | bl b => exact hs.elim
    | scr b => exact hs.elim
    | int i =>
      obtain ⟨i1, i2, i3, i4⟩ := isiI i
      simp [-Option.bind_some, bs, envOf, slOf, t__law_same_10, i1, i2, i3, i4, b__law_same_6, t__law_same_4, b__law_same_3, b__law_same_2]
    | str i =>
      obtain ⟨i1, i2, i3, i4, i5⟩ := isiS i
      simp [-Option.bind_some, bs, envOf, slOf, t__law_same_10, i1, i2, i3, i4, i5, b__law_same_6, t__law_same_4, b__law_same_3, b__law_same_1]
    | tup xs =>
      obtain ⟨i1, i2⟩ := isiT xs
      simp only [dep_tup] at hk hd
      have it := same_items (self := f__law_same k) xs (.tup xs) (.inl rfl) hs.1 fun x hx => ih x ((smas_iff xs).mp hs.2 x hx) (by have := deps_le.mp (Nat.le_refl (deps xs)) x hx; omega) (by have := deps_le.mp (Nat.le_refl (deps xs)) x hx; omega)
      simp [-dFrz_d, -Option.bind_some, bs, envOf, slOf, t__law_same_10, i1, i2, b__law_same_11, t__law_same_9, fNe_b, b__law_same_8, it]
    | lst xs =>
      obtain ⟨i1, i2⟩ := isiL xs
      simp only [dep_lst] at hk hd
      have it := same_items (self := f__law_same k) xs (.lst xs) (.inr rfl) hs.1 fun x hx => ih x ((smas_iff xs).mp hs.2 x hx) (by have := deps_le.mp (Nat.le_refl (deps xs)) x hx; omega) (by have := deps_le.mp (Nat.le_refl (deps xs)) x hx; omega)
      simp [-dFrz_d, -Option.bind_some, bs, envOf, slOf, t__law_same_10, i1, i2, b__law_same_11, t__law_same_9, fNe_b, b__law_same_8, it]
end ET
set_option Elab.async false
set_option maxRecDepth 100000
/-! Charts of deeds. -/
namespace ET
open PySem L2
def augS (i : Nat) (f : D → D → Option D) (o : DO) : D × Env → Option Res
  | (.int k, ρ) => (ownL i ρ).bind fun l => (atI l.1 k).bind fun x => (o.ev ρ).bind fun r => (o.fin r.1 r.2).bind fun u => (f x u).bind fun z =>
      (ownL i r.2).bind fun l2 => (ixN l2.1.length k).bind fun j => some (.nx (r.2.set i (some (.own (.lst (l2.1.set j z)) l2.2))))
  | _ => none
@[simp] theorem augS_i (i : Nat) (f : D → D → Option D) (o : DO) (k : Int) (ρ : Env) : augS i f o (.int k, ρ) = (ownL i ρ).bind fun l => (atI l.1 k).bind fun x => (o.ev ρ).bind fun r => (o.fin r.1 r.2).bind fun u => (f x u).bind fun z =>
      (ownL i r.2).bind fun l2 => (ixN l2.1.length k).bind fun j => some (.nx (r.2.set i (some (.own (.lst (l2.1.set j z)) l2.2)))) := rfl
@[simp] theorem kAugS_d (i : Nat) (ix : DE) (f : D → D → Option D) (o : DO) (ρ : Env) : kAugS i ix f o ρ = if lstAt i ρ = true then (ix ρ).bind (augS i f o) else none := by
  unfold kAugS
  congr 1; congr 1; funext x
  obtain ⟨d, ρ'⟩ := x
  cases d <;> rfl
theorem fAugA_t (a b : List D) (h : a.length + b.length ≤ 16777216) : fAugA (.tup a) (.tup b) = some (.tup (a ++ b)) := by
  unfold fAugA fAdd fInt2 fCatT
  dsimp only
  rw [if_pos (by rw [sz]; exact h)]
def Deed.tri (d : Deed) : Tri := (d.w, d.o, d.l)
def chartOf (row : List Deed) (r : Int) : List Tri := (row.filter fun d => decide (d.r = r)).map Deed.tri
def encC (c : List Tri) : D := .tup (c.map encT)
def encCh (row : List Deed) : List D := [encC (chartOf row 0), encC (chartOf row 1), encC (chartOf row 2), encC (chartOf row 3)]
/-- deeds as rows hold them -/
def Deed.fine (d : Deed) : Prop := (0 ≤ d.r ∧ d.r < 4) ∧ (0 ≤ d.o ∧ d.o < 4) ∧ (d.w = true → d.o ≠ d.r) ∧ 0 ≤ d.l ∧ d.l < 6
theorem chart_snoc (row : List Deed) (d : Deed) (r : Int) : chartOf (row ++ [d]) r = chartOf row r ++ if d.r = r then [d.tri] else [] := by
  unfold chartOf
  rw [List.filter_append, List.map_append]
  by_cases h : d.r = r <;> simp [h]
end ET
set_option Elab.async false
set_option maxRecDepth 100000
/-! Hand in hand: how many meets; of_sayings. -/
namespace ET
open PySem L2
theorem one_len {α : Type} [DecidableEq α] : ∀ (l : List α), l.Nodup → (∀ a ∈ l, ∀ b ∈ l, a = b) → l.length ≤ 1
  | [], _, _ => by simp
  | [_], _, _ => by simp
  | a :: b :: l, h, e => by
    have := e a (by simp) b (by simp)
    rw [List.nodup_cons] at h
    exact absurd (by rw [this]; simp) h.1
theorem from_nodup {m : Mach} (h : m.ok) (st : Nat) : (m.from st).Nodup := h.one.filter _
theorem from_four {m : Mach} (h : m.ok) (st : Nat) : (m.from st).length ≤ 4 := by
  have nd : ((m.from st).map fun s => s.l).Nodup := by
    refine List.pairwise_map.mpr ?_
    refine List.Pairwise.imp_of_mem (fun {a b} ha hb hne e => ?_) (from_nodup h st)
    obtain ⟨a1, a2⟩ := List.mem_filter.mp ha
    obtain ⟨b1, b2⟩ := List.mem_filter.mp hb
    have es := (of_decide_eq_true a2).trans (of_decide_eq_true b2).symm
    obtain ⟨p1, p2⟩ := h.pl a a1 b b1 es
    exact hne (h.det a a1 b b1 es p1 p2 e)
  have sub : ∀ x ∈ (m.from st).map fun s => s.l, x ∈ ([0, 1, 2, 3] : List Int) := by
    intro x hx
    obtain ⟨s, hs, rfl⟩ := List.mem_map.mp hx
    have := h.bnd s (List.mem_filter.mp hs).1
    have : s.l = 0 ∨ s.l = 1 ∨ s.l = 2 ∨ s.l = 3 := by omega
    simpa using this
  have := nodup_len _ _ nd sub
  rw [List.length_map] at this
  exact this
/-- steps of a state -/
structure StOk (l : List Stp) : Prop where
  nd : l.Nodup
  det : ∀ a ∈ l, ∀ b ∈ l, a.w = b.w → a.o = b.o → a.l = b.l → a = b
  pl : ∀ a ∈ l, ∀ b ∈ l, a.w = b.w ∧ a.o = b.o
  bnd : ∀ x ∈ l, (0 ≤ x.o ∧ x.o < 4) ∧ 0 ≤ x.l ∧ x.l < 4
  few : l.length ≤ 4
theorem from_stok {m : Mach} (h : m.ok) (st : Nat) : StOk (m.from st) := by
  have mm : ∀ {a}, a ∈ m.from st → a ∈ m.steps ∧ a.st = st := fun {a} ha => ⟨(List.mem_filter.mp ha).1, of_decide_eq_true (List.mem_filter.mp ha).2⟩
  exact ⟨from_nodup h st, fun a ha b hb => h.det a (mm ha).1 b (mm hb).1 ((mm ha).2.trans (mm hb).2.symm), fun a ha b hb => h.pl a (mm ha).1 b (mm hb).1 ((mm ha).2.trans (mm hb).2.symm), fun x hx => (h.bnd x (mm hx).1).2.2, from_four h st⟩
theorem stAt_ok {ms : List Mach} (hm : ∀ m ∈ ms, m.ok) (sts : List Nat) (k : Nat) : StOk (stAt ms sts k) := by
  unfold stAt
  split
  · rename_i m st e _
    exact from_stok (hm m (List.mem_of_getElem? e)) st
  · exact ⟨by simp, by simp, by simp, by simp, by simp⟩
theorem meetX_one {ms : List Mach} (hm : ∀ m ∈ ms, m.ok) (sts : List Nat) (a : Nat) (x : Stp) : (meetX ms sts a x).length ≤ 1 := by
  unfold meetX
  split
  · rw [List.length_map]
    have h := stAt_ok hm sts x.o.toNat
    refine one_len _ (h.nd.filter _) fun y hy z hz => ?_
    obtain ⟨y1, y2⟩ := List.mem_filter.mp hy
    obtain ⟨z1, z2⟩ := List.mem_filter.mp hz
    have e := (of_decide_eq_true y2).trans (of_decide_eq_true z2).symm
    simp only [Stp.tri, Prod.mk.injEq] at e
    exact h.det y y1 z z1 e.1 e.2.1 e.2.2
  · simp
theorem meetA_four {ms : List Mach} (hm : ∀ m ∈ ms, m.ok) (sts : List Nat) (a : Nat) : (meetA ms sts a).length ≤ 4 := by
  have h1 := flat_few (meetX ms sts a) 1 (stAt ms sts a) fun x _ => meetX_one hm sts a x
  have h2 := (stAt_ok hm sts a).few
  unfold meetA
  omega
theorem meet_mem {ms : List Mach} {sts : List Nat} {a : Nat} {m : Met} : m ∈ meetA ms sts a ↔ ∃ x ∈ stAt ms sts a, (x.w = true ∧ x.o < 4 ∧ x.o ≠ (a : Int)) ∧ ∃ y ∈ stAt ms sts x.o.toNat, y.tri = (false, (a : Int), x.l) ∧ m = metE sts a x y := by
  unfold meetA
  rw [List.mem_flatMap]
  constructor
  · rintro ⟨x, hx, hm⟩
    unfold meetX at hm
    split at hm
    · rename_i hc
      obtain ⟨y, hy, rfl⟩ := List.mem_map.mp hm
      obtain ⟨y1, y2⟩ := List.mem_filter.mp hy
      exact ⟨x, hx, hc, y, y1, of_decide_eq_true y2, rfl⟩
    · exact absurd hm (by simp)
  · rintro ⟨x, hx, hc, y, hy, e, rfl⟩
    refine ⟨x, hx, ?_⟩
    unfold meetX
    rw [if_pos hc]
    exact List.mem_map.mpr ⟨y, List.mem_filter.mpr ⟨hy, decide_eq_true e⟩, rfl⟩
/-- a role that meets: it sends, and whom it sends to hears it -/
theorem meetA_who {ms : List Mach} (hm : ∀ m ∈ ms, m.ok) (sts : List Nat) {a : Nat} (h : meetA ms sts a ≠ []) : ∃ b : Nat, b < 4 ∧ b ≠ a ∧ (∀ x ∈ stAt ms sts a, x.w = true) ∧ (∀ y ∈ stAt ms sts b, y.w = false ∧ y.o = (a : Int)) ∧ stAt ms sts b ≠ [] ∧ stAt ms sts a ≠ [] := by
  obtain ⟨m, hmm⟩ := List.exists_mem_of_ne_nil _ h
  obtain ⟨x, hx, ⟨c1, c2, c3⟩, y, hy, e, rfl⟩ := meet_mem.mp hmm
  have ka := stAt_ok hm sts a
  have kb := stAt_ok hm sts x.o.toNat
  have hb := (ka.bnd x hx).1
  simp only [Stp.tri, Prod.mk.injEq] at e
  refine ⟨x.o.toNat, by omega, by omega, fun z hz => ?_, fun z hz => ?_, List.ne_nil_of_mem hy, List.ne_nil_of_mem hx⟩
  · rw [(ka.pl z hz x hx).1, c1]
  · obtain ⟨q1, q2⟩ := kb.pl z hz y hy
    rw [q1, q2]
    exact ⟨e.1, e.2.1⟩
theorem meetA_three {ms : List Mach} (hm : ∀ m ∈ ms, m.ok) (sts : List Nat) (a b c : Nat) (hab : a < b) (hbc : b < c) (hc : c < 4) : meetA ms sts a = [] ∨ meetA ms sts b = [] ∨ meetA ms sts c = [] := by
  apply Classical.byContradiction
  intro hn
  simp only [not_or] at hn
  obtain ⟨n1, n2, n3⟩ := hn
  obtain ⟨t1, l1, k1, s1, r1, z1, w1⟩ := meetA_who hm sts n1
  obtain ⟨t2, l2, k2, s2, r2, z2, w2⟩ := meetA_who hm sts n2
  obtain ⟨t3, l3, k3, s3, r3, z3, w3⟩ := meetA_who hm sts n3
  have dif : ∀ t u a : Nat, stAt ms sts t ≠ [] → (∀ y ∈ stAt ms sts t, y.w = false ∧ y.o = (a : Int)) → (∀ x ∈ stAt ms sts u, x.w = true) → t ≠ u := by
    rintro t u a h1 h2 h3 rfl
    obtain ⟨y, hy⟩ := List.exists_mem_of_ne_nil _ h1
    have := (h2 y hy).1
    rw [h3 y hy] at this
    cases this
  have dif2 : ∀ t u a b : Nat, stAt ms sts t ≠ [] → (∀ y ∈ stAt ms sts t, y.w = false ∧ y.o = (a : Int)) → (∀ y ∈ stAt ms sts u, y.w = false ∧ y.o = (b : Int)) → a ≠ b → t ≠ u := by
    rintro t u a b h1 h2 h3 hne rfl
    obtain ⟨y, hy⟩ := List.exists_mem_of_ne_nil _ h1
    have e1 := (h2 y hy).2
    have e2 := (h3 y hy).2
    omega
  have a1 := dif t1 b a z1 r1 s2
  have a2 := dif t1 c a z1 r1 s3
  have a3 := dif t2 a b z2 r2 s1
  have a4 := dif t2 c b z2 r2 s3
  have b1 := dif2 t1 t2 a b z1 r1 r2 (by omega)
  omega
theorem meetsU_eight {ms : List Mach} (hm : ∀ m ∈ ms, m.ok) (sts : List Nat) : (meetsU ms sts).length ≤ 8 := by
  have e : meetsU ms sts = meetA ms sts 0 ++ (meetA ms sts 1 ++ (meetA ms sts 2 ++ meetA ms sts 3)) := by
    unfold meetsU
    rw [show List.range 4 = [0, 1, 2, 3] by rfl]
    simp
  have l0 := meetA_four hm sts 0
  have l1 := meetA_four hm sts 1
  have l2 := meetA_four hm sts 2
  have l3 := meetA_four hm sts 3
  have h1 := meetA_three hm sts 0 1 2 (by omega) (by omega) (by omega)
  have h2 := meetA_three hm sts 0 1 3 (by omega) (by omega) (by omega)
  have h3 := meetA_three hm sts 0 2 3 (by omega) (by omega) (by omega)
  have h4 := meetA_three hm sts 1 2 3 (by omega) (by omega) (by omega)
  simp only [← List.length_eq_zero_iff] at h1 h2 h3 h4
  rw [e]
  simp only [List.length_append]
  omega
theorem meetsE_eight {ms : List Mach} (hm : ∀ m ∈ ms, m.ok) (sts : List Nat) : (meetsE ms sts).length ≤ 8 := by
  unfold meetsE
  rw [List.length_mergeSort]
  exact meetsU_eight hm sts
/-! ### of_sayings -/
def dd (s : Say) : List Deed := [⟨s.1, true, s.2.1, s.2.2⟩, ⟨s.2.1, false, s.1, s.2.2⟩]
def Say.fine (s : Say) : Prop := (0 ≤ s.1 ∧ s.1 < 4) ∧ (0 ≤ s.2.1 ∧ s.2.1 < 4) ∧ s.1 ≠ s.2.1 ∧ 0 ≤ s.2.2 ∧ s.2.2 < 6
theorem dd_len (row : List Say) : (row.flatMap dd).length = 2 * row.length := by
  induction row with
  | nil => rfl
  | cons s r ih => rw [List.flatMap_cons, List.length_append, ih]; simp [dd]; omega
theorem chart_le (row : List Deed) (r : Int) : (chartOf row r).length ≤ row.length := by
  unfold chartOf
  rw [List.length_map]
  exact List.length_filter_le _ _
theorem of_sayings_fun (row : List Say) (hr : row.length ≤ 100000) (hf : ∀ s ∈ row, Say.fine s) : f_of_sayings [.val (.tup (row.map encS))] = some (.val (.tup (encCh (row.flatMap dd))), [.val (.tup (row.map encS))]) := by
  obtain ⟨ρ', e, x2, x3, x4, h2, h3, h4, rfl⟩ := forL_map (g := gTp (gsCons (gN 2) (gsCons (gN 3) (gsCons (gN 4) gsNil)))) (b := b_of_sayings_1) (enc := encS)
    (fun us ρ => ∃ x2 x3 x4 : Option Sl, Vs x2 ∧ Vs x3 ∧ Vs x4 ∧ ρ = [some (.val (.tup (row.map encS))), some (.own (.lst (encCh (us.flatMap dd))) false), x2, x3, x4])
    row [some (.val (.tup (row.map encS))), some (.own (.lst (encCh [])) false), none, none, none] ⟨none, none, none, vs_n, vs_n, vs_n, rfl⟩ (by
      rintro done u rest ρ hi ⟨x2, x3, x4, h2, h3, h4, rfl⟩
      refine ⟨[some (.val (.tup (row.map encS))), some (.own (.lst (encCh ((done ++ [u]).flatMap dd))) false), some (.val (.int u.1)), some (.val (.int u.2.1)), some (.val (.int u.2.2))], ?_, _, _, _, vs_v _, vs_v _, vs_v _, rfl⟩
      have hd : done.length ≤ row.length := by rw [hi]; simp
      have hl := dd_len done
      have hc := chart_le (done.flatMap dd)
      obtain ⟨u1, u2, u3, _⟩ := hf u (by rw [hi]; simp)
      have en : ∀ r, chartOf ((done ++ [u]).flatMap dd) r = chartOf (done.flatMap dd) r ++ ((if u.1 = r then [(true, u.2.1, u.2.2)] else []) ++ if u.2.1 = r then [(false, u.1, u.2.2)] else []) := fun r => by
        have e1 : (done ++ [u]).flatMap dd = (done.flatMap dd ++ [⟨u.1, true, u.2.1, u.2.2⟩]) ++ [⟨u.2.1, false, u.1, u.2.2⟩] := by
          rw [List.flatMap_append]
          simp [dd]
        rw [e1, chart_snoc, chart_snoc, List.append_assoc]
        rfl
      have fa : ∀ r (w : Bool) (o l : Int), fAugA (encC (chartOf (done.flatMap dd) r)) (.tup [.tup [.str (wd w), .int o, .int l]]) = some (encC (chartOf (done.flatMap dd) r ++ [(w, o, l)])) := fun r w o l => by
        unfold encC
        have := hc r
        rw [fAugA_t _ _ (by simp; omega), List.map_append]
        rfl
      have fs : ∀ r (o l : Int), fAugA (encC (chartOf (done.flatMap dd) r)) (.tup [.tup [.str .send, .int o, .int l]]) = some (encC (chartOf (done.flatMap dd) r ++ [(true, o, l)])) := fun r o l => fa r true o l
      have fh : ∀ r (o l : Int), fAugA (encC (chartOf (done.flatMap dd) r)) (.tup [.tup [.str .hear, .int o, .int l]]) = some (encC (chartOf (done.flatMap dd) r ++ [(false, o, l)])) := fun r o l => fa r false o l
      obtain ⟨a, b, l⟩ := u
      unfold turnS b_of_sayings_1
      unfold encCh
      simp only [en]
      generalize chartOf (done.flatMap dd) = C at *
      dsimp only at u1 u2 u3
      have ha : a = 0 ∨ a = 1 ∨ a = 2 ∨ a = 3 := by omega
      have hb : b = 0 ∨ b = 1 ∨ b = 2 ∨ b = 3 := by omega
      rcases ha with rfl | rfl | rfl | rfl <;> rcases hb with rfl | rfl | rfl | rfl <;> first | exact absurd rfl u3 | simp [-Option.bind_some, bs, encS, setS_free h2.free, setS_free h3.free, setS_free h4.free, sz, fs, fh])
  unfold f_of_sayings
  rw [runF_eq (by rfl)]
  unfold m_of_sayings
  have fm : fMulS (.lst [.tup []]) (.int 4) = some (.own (.lst (encCh [])) false) := by
    unfold fMulS orF vF lF fMul fMulW fRepT fRepL
    simp [sz]
    rfl
  simp [-Option.bind_some, bs, envOf, slOf, sz, fm, e]
end ET
set_option Elab.async false
set_option maxRecDepth 100000
/-! after_rows. -/
namespace ET
open PySem L2
abbrev Ear (m : Mach) (row : List Tri) (st : Nat) (x3 x4 : Option Sl) : Env := [some (.val m.enc), some (.val (.tup (row.map encT))), some (.val (.int st)), x3, x4, none]
theorem ar_turn {m : Mach} (hm : m.ok) (row0 : List Tri) (st : Nat) (x3 x4 : Option Sl) (f3 : Fs x3) (f4 : Fs x4) (d : Tri) :
    ∃ y4, Fs y4 ∧ turnS (gN 3) b_after_rows_2 (encT d) (Ear m row0 st x3 x4) = match aOne m st d with
      | some s' => some (.nx (Ear m row0 s' (some (.val (encT d))) y4))
      | none => some (.rt (.val .non) (Ear m row0 st (some (.val (encT d))) y4)) := by
  have ed := steps_from_fun m st hm.few.1
  have hl : (m.from st).length ≤ 20000 := by have := List.length_filter_le (fun x : Stp => decide (x.st = st)) m.steps; have := hm.few.1; unfold Mach.from; omega
  have c := compL_map (vs := [5]) (g := gN 5) (c := t_after_rows_1) (e := d2 fIx (.o 5) (.e (dC (.int 4)))) (ρ := Ear m row0 st (some (.val (encT d))) x4) (enc := Stp.enc) (fun e => if e.tri = d then some (.int e.af) else none) (m.from st) fun y _ => by
    unfold turnC t_after_rows_1
    have fe := fEq_tri y.tri d
    by_cases hy : y.tri = d
    · rw [decide_eq_true hy] at fe
      simp only [encT, Stp.tri] at fe
      simp [Stp.enc, cut14, encT, hy, fe, wipeG, noOwn, wipeE]
    · rw [decide_eq_false hy] at fe
      simp only [encT, Stp.tri] at fe
      simp [Stp.enc, cut14, encT, fe, hy, wipeG, noOwn, wipeE]
  rw [filterMap_if (fun e : Stp => e.tri = d)] at c
  have hz : ((m.from st).filter fun e => decide (e.tri = d)).length ≤ 16777216 := by have := List.length_filter_le (fun e : Stp => decide (e.tri = d)) (m.from st); omega
  unfold aOne turnS b_after_rows_2
  generalize f_steps_from = fd at ed ⊢
  generalize (m.from st).filter (fun e => decide (e.tri = d)) = l at *
  refine ⟨some (.own (.lst (l.map fun e => .int e.af)) false), fs_l _, ?_⟩
  cases l with
  | nil =>
    simp only [List.map_nil, Ear] at c
    simp [-Option.bind_some, bs, setS_free f3.free, ed, wipeG, noOwn, wipeE, backE, c, sz, setS_free f4.free]
  | cons e l =>
    simp only [List.map_cons, Ear] at c
    have hz' : l.length ≤ 16777215 := by simp at hz; omega
    have hp : ¬ ((l.length : Int) + 1 = 0) := by omega
    simp [-Option.bind_some, bs, setS_free f3.free, ed, wipeG, noOwn, wipeE, backE, c, sz, hz', hp, setS_free f4.free]
theorem ar_loop {m : Mach} (hm : m.ok) (row0 : List Tri) : ∀ (row : List Tri) (st : Nat) (x3 x4 : Option Sl), Fs x3 → Fs x4 →
    match aRows m st row with
    | some s' => ∃ y3 y4, forL (gN 3) b_after_rows_2 (row.map encT) (Ear m row0 st x3 x4) = some (.nx (Ear m row0 s' y3 y4))
    | none => ∃ r, forL (gN 3) b_after_rows_2 (row.map encT) (Ear m row0 st x3 x4) = some (.rt (.val .non) (some (.val m.enc) :: some (.val (.tup (row0.map encT))) :: r))
  | [], st, x3, x4, f3, f4 => ⟨x3, x4, rfl⟩
  | d :: row, st, x3, x4, f3, f4 => by
    obtain ⟨y4, g4, e⟩ := ar_turn hm row0 st x3 x4 f3 f4 d
    unfold aRows
    cases h1 : aOne m st d with
    | none =>
      rw [h1] at e
      dsimp only [Option.bind_none]
      exact ⟨_, by rw [List.map_cons, forL_rt e]⟩
    | some s' =>
      rw [h1] at e
      rw [Option.bind_some]
      have ih := ar_loop hm row0 row s' (some (.val (encT d))) y4 (fs_v _) g4
      dsimp only at e
      rw [List.map_cons, forL_nx e]
      exact ih
theorem after_rows_fun {m : Mach} (hm : m.ok) (row : List Tri) : f_after_rows [.val m.enc, .val (.tup (row.map encT))] = some (.val (encN (aRows m 0 row)), [.val m.enc, .val (.tup (row.map encT))]) := by
  have e := ar_loop hm row row 0 none none fs_n fs_n
  unfold f_after_rows
  rw [runF_eq (by rfl)]
  unfold m_after_rows
  have e0 : ((0 : Nat) : Int) = 0 := rfl
  simp only [Ear, e0] at e
  cases h : aRows m 0 row with
  | none =>
    rw [h] at e
    obtain ⟨r, e⟩ := e
    simp [envOf, slOf, e, encN]
  | some s' =>
    rw [h] at e
    obtain ⟨y4, y5, e⟩ := e
    simp [envOf, slOf, e, encN]
end ET
set_option Elab.async false
set_option maxRecDepth 100000
/-! Hand in hand: a row runs just when each chart runs. -/
namespace ET
open PySem L2
theorem aOne_iff {m : Mach} (h : m.ok) {st : Nat} {t : Tri} {n : Nat} : aOne m st t = some n ↔ ∃ x ∈ m.from st, x.tri = t ∧ x.af = n := by
  unfold aOne
  constructor
  · intro e
    obtain ⟨x, hx, e⟩ := Option.map_eq_some_iff.mp e
    obtain ⟨x1, x2⟩ := List.mem_filter.mp (List.mem_of_head? hx)
    exact ⟨x, x1, of_decide_eq_true x2, e⟩
  · rintro ⟨x, hx, e, rfl⟩
    have hm : x ∈ (m.from st).filter fun s => decide (s.tri = t) := List.mem_filter.mpr ⟨hx, decide_eq_true e⟩
    have k := from_stok h st
    cases hl : (m.from st).filter fun s => decide (s.tri = t) with
    | nil => rw [hl] at hm; cases hm
    | cons y l =>
      have hy : y ∈ (m.from st).filter fun s => decide (s.tri = t) := by rw [hl]; simp
      obtain ⟨y1, y2⟩ := List.mem_filter.mp hy
      have e2 := (of_decide_eq_true y2).trans e.symm
      simp only [Stp.tri, Prod.mk.injEq] at e2
      rw [k.det y y1 x hx e2.1 e2.2.1 e2.2.2]
      rfl
theorem opt_ext {α : Type} {a b : Option α} (h : ∀ x, a = some x ↔ b = some x) : a = b := by
  cases a with
  | none => cases b with
    | none => rfl
    | some y => exact absurd ((h y).mpr rfl) (by simp)
  | some y => exact ((h y).mp rfl).symm
theorem aOneS_iff {ms : List Mach} (hm : ∀ m ∈ ms, m.ok) {sts : List Nat} {s : Say} {r : List Nat} : aOneS ms sts s = some r ↔ ∃ m ∈ meetsE ms sts, m.say = s ∧ m.af = r := by
  unfold aOneS
  constructor
  · intro e
    obtain ⟨x, hx, e⟩ := Option.map_eq_some_iff.mp e
    obtain ⟨x1, x2⟩ := List.mem_filter.mp (List.mem_of_head? hx)
    exact ⟨x, x1, of_decide_eq_true x2, e⟩
  · rintro ⟨x, hx, e, rfl⟩
    have hmm : x ∈ (meetsE ms sts).filter fun m => decide (m.say = s) := List.mem_filter.mpr ⟨hx, decide_eq_true e⟩
    cases hl : (meetsE ms sts).filter fun m => decide (m.say = s) with
    | nil => rw [hl] at hmm; cases hmm
    | cons y l =>
      have hy : y ∈ (meetsE ms sts).filter fun m => decide (m.say = s) := by rw [hl]; simp
      obtain ⟨y1, y2⟩ := List.mem_filter.mp hy
      have e2 := (of_decide_eq_true y2).trans e.symm
      have y1 := (List.mergeSort_perm _ _).mem_iff.mp y1
      have x1 := (List.mergeSort_perm _ _).mem_iff.mp hx
      obtain ⟨a, _, y1⟩ := List.mem_flatMap.mp y1
      obtain ⟨b, _, x1⟩ := List.mem_flatMap.mp x1
      obtain ⟨u, hu, ⟨u1, u2, u3⟩, v, hv, ev, rfl⟩ := meet_mem.mp y1
      obtain ⟨u', hu', ⟨u1', u2', u3'⟩, v', hv', ev', rfl⟩ := meet_mem.mp x1
      simp only [Met.say, metE, Prod.mk.injEq] at e2
      obtain ⟨ea, eb, el⟩ := e2
      have hab : a = b := by omega
      subst hab
      have k := stAt_ok hm sts a
      have euu := k.det u hu u' hu' (u1.trans u1'.symm) eb el
      subst euu
      have k2 := stAt_ok hm sts u.o.toNat
      have evv := ev.trans ev'.symm
      simp only [Stp.tri, Prod.mk.injEq] at evv
      rw [k2.det v hv v' hv' evv.1 evv.2.1 evv.2.2]
      rfl
/-- one saying: the speaker's step and the hearer's step -/
theorem aOneS_eq {ms : List Mach} (hm : ∀ m ∈ ms, m.ok) {sts : List Nat} {a b : Nat} (ha : a < 4) (hb : b < 4) (hab : a ≠ b) {ma mb : Mach} {sa sb : Nat} (ea : ms[a]? = some ma) (eb : ms[b]? = some mb) (fa : sts[a]? = some sa) (fb : sts[b]? = some sb) (l : Int) :
    aOneS ms sts ((a : Int), (b : Int), l) = (aOne ma sa (true, (b : Int), l)).bind fun x => (aOne mb sb (false, (a : Int), l)).map fun y => (sts.set a x).set b y := by
  have oa := hm ma (List.mem_of_getElem? ea)
  have ob := hm mb (List.mem_of_getElem? eb)
  refine opt_ext fun r => ?_
  rw [aOneS_iff hm]
  constructor
  · rintro ⟨m, h, e, rfl⟩
    have h := (List.mergeSort_perm _ _).mem_iff.mp h
    obtain ⟨a', _, h⟩ := List.mem_flatMap.mp h
    obtain ⟨u, hu, ⟨u1, u2, u3⟩, v, hv, ev, rfl⟩ := meet_mem.mp h
    simp only [Met.say, metE, Prod.mk.injEq] at e
    obtain ⟨e1, e2, e3⟩ := e
    have : a' = a := by omega
    subst this
    have ebt : u.o.toNat = b := by omega
    rw [stAt_eq ea fa] at hu
    rw [ebt, stAt_eq eb fb] at hv
    have p1 := (aOne_iff oa (st := sa) (t := (true, (b : Int), l)) (n := u.af)).mpr ⟨u, hu, by simp only [Stp.tri, u1, e2, e3], rfl⟩
    have p2 := (aOne_iff ob (st := sb) (t := (false, (a' : Int), l)) (n := v.af)).mpr ⟨v, hv, by rw [ev, e3], rfl⟩
    rw [p1, p2]
    simp only [Option.bind_some, Option.map_some, metE, ebt]
  · intro e
    obtain ⟨x, p1, e⟩ := Option.bind_eq_some_iff.mp e
    obtain ⟨y, p2, rfl⟩ := Option.map_eq_some_iff.mp e
    obtain ⟨u, hu, tu, rfl⟩ := (aOne_iff oa).mp p1
    obtain ⟨v, hv, tv, rfl⟩ := (aOne_iff ob).mp p2
    simp only [Stp.tri, Prod.mk.injEq] at tu
    obtain ⟨t1, t2, t3⟩ := tu
    have ebt : u.o.toNat = b := by omega
    rw [← stAt_eq ea fa] at hu
    rw [← stAt_eq eb fb, ← ebt] at hv
    refine ⟨metE sts a u v, (List.mergeSort_perm _ _).mem_iff.mpr (List.mem_flatMap.mpr ⟨a, List.mem_range.mpr ha, meet_mem.mpr ⟨u, hu, ⟨t1, by omega, by omega⟩, v, hv, by rw [tv, t3], rfl⟩⟩), ?_, ?_⟩
    · simp only [Met.say, metE, t2, t3]
    · simp only [metE, ebt]
theorem chart_app (a b : List Deed) (r : Int) : chartOf (a ++ b) r = chartOf a r ++ chartOf b r := by
  unfold chartOf
  rw [List.filter_append, List.map_append]
theorem aRow_charts {m0 m1 m2 m3 : Mach} (hm : ∀ m ∈ [m0, m1, m2, m3], m.ok) : ∀ (row : List Say), (∀ s ∈ row, Say.fine s) → ∀ (s0 s1 s2 s3 : Nat),
    aRow [m0, m1, m2, m3] [s0, s1, s2, s3] row = (aRows m0 s0 (chartOf (row.flatMap dd) 0)).bind fun a => (aRows m1 s1 (chartOf (row.flatMap dd) 1)).bind fun b => (aRows m2 s2 (chartOf (row.flatMap dd) 2)).bind fun c => (aRows m3 s3 (chartOf (row.flatMap dd) 3)).bind fun d => some [a, b, c, d]
  | [], _, s0, s1, s2, s3 => rfl
  | (a, b, l) :: row, hf, s0, s1, s2, s3 => by
    have ih := aRow_charts hm row fun s hs => hf s (List.mem_cons_of_mem _ hs)
    obtain ⟨u1, u2, u3, _⟩ := hf _ List.mem_cons_self
    dsimp only at u1 u2 u3
    have en : ∀ r, chartOf (((a, b, l) :: row).flatMap dd) r = ((if a = r then [(true, b, l)] else []) ++ if b = r then [(false, a, l)] else []) ++ chartOf (row.flatMap dd) r := fun r => by
      rw [List.flatMap_cons, chart_app]
      congr 1
      unfold chartOf dd Deed.tri
      by_cases h1 : a = r <;> by_cases h2 : b = r <;> simp [h1, h2]
    unfold aRow
    simp only [en]
    generalize chartOf (row.flatMap dd) = C at *
    have ha : a = 0 ∨ a = 1 ∨ a = 2 ∨ a = 3 := by omega
    have hb : b = 0 ∨ b = 1 ∨ b = 2 ∨ b = 3 := by omega
    rcases ha with rfl | rfl | rfl | rfl <;> rcases hb with rfl | rfl | rfl | rfl <;> first | exact absurd rfl u3 | skip
    · have q : aOneS [m0, m1, m2, m3] [s0, s1, s2, s3] (0, 1, l) = (aOne m0 s0 (true, 1, l)).bind fun x => (aOne m1 s1 (false, 0, l)).map fun y => [x, y, s2, s3] := aOneS_eq hm (sts := [s0, s1, s2, s3]) (a := 0) (b := 1) (by decide) (by decide) (by decide) rfl rfl rfl rfl l
      rw [q]
      cases h1 : aOne m0 s0 (true, 1, l) with
      | none => simp [aRows, h1]
      | some x =>
        cases h2 : aOne m1 s1 (false, 0, l) with
        | none => simp [aRows, h1, h2]
        | some y => simp [aRows, h1, h2, ih]
    · have q : aOneS [m0, m1, m2, m3] [s0, s1, s2, s3] (0, 2, l) = (aOne m0 s0 (true, 2, l)).bind fun x => (aOne m2 s2 (false, 0, l)).map fun y => [x, s1, y, s3] := aOneS_eq hm (sts := [s0, s1, s2, s3]) (a := 0) (b := 2) (by decide) (by decide) (by decide) rfl rfl rfl rfl l
      rw [q]
      cases h1 : aOne m0 s0 (true, 2, l) with
      | none => simp [aRows, h1]
      | some x =>
        cases h2 : aOne m2 s2 (false, 0, l) with
        | none => simp [aRows, h1, h2]
        | some y => simp [aRows, h1, h2, ih]
    · have q : aOneS [m0, m1, m2, m3] [s0, s1, s2, s3] (0, 3, l) = (aOne m0 s0 (true, 3, l)).bind fun x => (aOne m3 s3 (false, 0, l)).map fun y => [x, s1, s2, y] := aOneS_eq hm (sts := [s0, s1, s2, s3]) (a := 0) (b := 3) (by decide) (by decide) (by decide) rfl rfl rfl rfl l
      rw [q]
      cases h1 : aOne m0 s0 (true, 3, l) with
      | none => simp [aRows, h1]
      | some x =>
        cases h2 : aOne m3 s3 (false, 0, l) with
        | none => simp [aRows, h1, h2]
        | some y => simp [aRows, h1, h2, ih]
    · have q : aOneS [m0, m1, m2, m3] [s0, s1, s2, s3] (1, 0, l) = (aOne m1 s1 (true, 0, l)).bind fun x => (aOne m0 s0 (false, 1, l)).map fun y => [y, x, s2, s3] := aOneS_eq hm (sts := [s0, s1, s2, s3]) (a := 1) (b := 0) (by decide) (by decide) (by decide) rfl rfl rfl rfl l
      rw [q]
      cases h1 : aOne m1 s1 (true, 0, l) with
      | none => simp [aRows, h1]
      | some x =>
        cases h2 : aOne m0 s0 (false, 1, l) with
        | none => simp [aRows, h1, h2]
        | some y => simp [aRows, h1, h2, ih]
    · have q : aOneS [m0, m1, m2, m3] [s0, s1, s2, s3] (1, 2, l) = (aOne m1 s1 (true, 2, l)).bind fun x => (aOne m2 s2 (false, 1, l)).map fun y => [s0, x, y, s3] := aOneS_eq hm (sts := [s0, s1, s2, s3]) (a := 1) (b := 2) (by decide) (by decide) (by decide) rfl rfl rfl rfl l
      rw [q]
      cases h1 : aOne m1 s1 (true, 2, l) with
      | none => simp [aRows, h1]
      | some x =>
        cases h2 : aOne m2 s2 (false, 1, l) with
        | none => simp [aRows, h1, h2]
        | some y => simp [aRows, h1, h2, ih]
    · have q : aOneS [m0, m1, m2, m3] [s0, s1, s2, s3] (1, 3, l) = (aOne m1 s1 (true, 3, l)).bind fun x => (aOne m3 s3 (false, 1, l)).map fun y => [s0, x, s2, y] := aOneS_eq hm (sts := [s0, s1, s2, s3]) (a := 1) (b := 3) (by decide) (by decide) (by decide) rfl rfl rfl rfl l
      rw [q]
      cases h1 : aOne m1 s1 (true, 3, l) with
      | none => simp [aRows, h1]
      | some x =>
        cases h2 : aOne m3 s3 (false, 1, l) with
        | none => simp [aRows, h1, h2]
        | some y => simp [aRows, h1, h2, ih]
    · have q : aOneS [m0, m1, m2, m3] [s0, s1, s2, s3] (2, 0, l) = (aOne m2 s2 (true, 0, l)).bind fun x => (aOne m0 s0 (false, 2, l)).map fun y => [y, s1, x, s3] := aOneS_eq hm (sts := [s0, s1, s2, s3]) (a := 2) (b := 0) (by decide) (by decide) (by decide) rfl rfl rfl rfl l
      rw [q]
      cases h1 : aOne m2 s2 (true, 0, l) with
      | none => simp [aRows, h1]
      | some x =>
        cases h2 : aOne m0 s0 (false, 2, l) with
        | none => simp [aRows, h1, h2]
        | some y => simp [aRows, h1, h2, ih]
    · have q : aOneS [m0, m1, m2, m3] [s0, s1, s2, s3] (2, 1, l) = (aOne m2 s2 (true, 1, l)).bind fun x => (aOne m1 s1 (false, 2, l)).map fun y => [s0, y, x, s3] := aOneS_eq hm (sts := [s0, s1, s2, s3]) (a := 2) (b := 1) (by decide) (by decide) (by decide) rfl rfl rfl rfl l
      rw [q]
      cases h1 : aOne m2 s2 (true, 1, l) with
      | none => simp [aRows, h1]
      | some x =>
        cases h2 : aOne m1 s1 (false, 2, l) with
        | none => simp [aRows, h1, h2]
        | some y => simp [aRows, h1, h2, ih]
    · have q : aOneS [m0, m1, m2, m3] [s0, s1, s2, s3] (2, 3, l) = (aOne m2 s2 (true, 3, l)).bind fun x => (aOne m3 s3 (false, 2, l)).map fun y => [s0, s1, x, y] := aOneS_eq hm (sts := [s0, s1, s2, s3]) (a := 2) (b := 3) (by decide) (by decide) (by decide) rfl rfl rfl rfl l
      rw [q]
      cases h1 : aOne m2 s2 (true, 3, l) with
      | none => simp [aRows, h1]
      | some x =>
        cases h2 : aOne m3 s3 (false, 2, l) with
        | none => simp [aRows, h1, h2]
        | some y => simp [aRows, h1, h2, ih]
    · have q : aOneS [m0, m1, m2, m3] [s0, s1, s2, s3] (3, 0, l) = (aOne m3 s3 (true, 0, l)).bind fun x => (aOne m0 s0 (false, 3, l)).map fun y => [y, s1, s2, x] := aOneS_eq hm (sts := [s0, s1, s2, s3]) (a := 3) (b := 0) (by decide) (by decide) (by decide) rfl rfl rfl rfl l
      rw [q]
      cases h1 : aOne m3 s3 (true, 0, l) with
      | none => simp [aRows, h1]
      | some x =>
        cases h2 : aOne m0 s0 (false, 3, l) with
        | none => simp [aRows, h1, h2]
        | some y => simp [aRows, h1, h2, ih]
    · have q : aOneS [m0, m1, m2, m3] [s0, s1, s2, s3] (3, 1, l) = (aOne m3 s3 (true, 1, l)).bind fun x => (aOne m1 s1 (false, 3, l)).map fun y => [s0, y, s2, x] := aOneS_eq hm (sts := [s0, s1, s2, s3]) (a := 3) (b := 1) (by decide) (by decide) (by decide) rfl rfl rfl rfl l
      rw [q]
      cases h1 : aOne m3 s3 (true, 1, l) with
      | none => simp [aRows, h1]
      | some x =>
        cases h2 : aOne m1 s1 (false, 3, l) with
        | none => simp [aRows, h1, h2]
        | some y => simp [aRows, h1, h2, ih]
    · have q : aOneS [m0, m1, m2, m3] [s0, s1, s2, s3] (3, 2, l) = (aOne m3 s3 (true, 2, l)).bind fun x => (aOne m2 s2 (false, 3, l)).map fun y => [s0, s1, y, x] := aOneS_eq hm (sts := [s0, s1, s2, s3]) (a := 3) (b := 2) (by decide) (by decide) (by decide) rfl rfl rfl rfl l
      rw [q]
      cases h1 : aOne m3 s3 (true, 2, l) with
      | none => simp [aRows, h1]
      | some x =>
        cases h2 : aOne m2 s2 (false, 3, l) with
        | none => simp [aRows, h1, h2]
        | some y => simp [aRows, h1, h2, ih]
end ET
set_option Elab.async false
set_option maxRecDepth 100000
/-! What is encoded: in, sorted sets. -/
namespace ET
open PySem L2
theorem nt_inj : ∀ {a b : List Nat}, nt a = nt b → a = b := by
  intro a
  induction a with
  | nil => intro b h; cases b with | nil => rfl | cons _ _ => cases h
  | cons x a ih =>
    intro b h
    cases b with
    | nil => cases h
    | cons y b =>
      unfold nt at h
      simp only [List.map_cons, List.cons.injEq, D.int.injEq] at h
      rw [ih h.2, show x = y by omega]
theorem ints_inj : ∀ {a b : List Int}, a.map D.int = b.map D.int → a = b := by
  intro a
  induction a with
  | nil => intro b h; cases b with | nil => rfl | cons _ _ => cases h
  | cons x a ih =>
    intro b h
    cases b with
    | nil => cases h
    | cons y b =>
      simp only [List.map_cons, List.cons.injEq, D.int.injEq] at h
      rw [ih h.2, h.1]
theorem map_inj_of {α : Type} {f : α → D} (hf : ∀ a b, f a = f b → a = b) : ∀ {a b : List α}, a.map f = b.map f → a = b := by
  intro a
  induction a with
  | nil => intro b h; cases b with | nil => rfl | cons _ _ => cases h
  | cons x a ih =>
    intro b h
    cases b with
    | nil => cases h
    | cons y b =>
      simp only [List.map_cons, List.cons.injEq] at h
      rw [ih h.2, hf _ _ h.1]
theorem cln_ints (l : List Int) : clns (l.map D.int) = true := clns_map (fun _ => rfl) l
/-- in, told by what is encoded -/
theorem fIn_enc {α : Type} [DecidableEq α] {enc : α → D} (hi : ∀ a b, enc a = enc b → a = b) (hc : ∀ a, cln (enc a) = true) {x : α} (hd : dep (enc x) ≤ deepest) (neg : Bool) (l : List α) : fIn neg (enc x) (.lst (l.map enc)) = some (.bl (decide (x ∈ l) != neg)) := by
  rw [fIn_l (.inl hd)]
  have : ((l.map enc).any fun z => peq z (enc x)) = decide (x ∈ l) := by
    rw [List.any_map, Bool.eq_iff_iff, List.any_eq_true, decide_eq_true_eq]
    constructor
    · rintro ⟨y, hy, e⟩
      rw [← hi _ _ ((peq_iff _ _ (hc y) (hc x)).mp e)]; exact hy
    · intro hx
      exact ⟨x, hx, (peq_iff _ _ (hc x) (hc x)).mpr rfl⟩
  rw [this]
theorem clns_mem : ∀ {l : List D}, clns l = true → ∀ z ∈ l, cln z = true
  | [], _, z, hz => by cases hz
  | b :: l, hc, z, hz => by
    simp only [clns, Bool.and_eq_true] at hc
    rcases List.mem_cons.mp hz with rfl | hz
    · exact hc.1
    · exact clns_mem hc.2 z hz
theorem clns_of : ∀ {l : List D}, (∀ z ∈ l, cln z = true) → clns l = true
  | [], _ => rfl
  | b :: l, h => by simp [clns, h b List.mem_cons_self, clns_of fun z hz => h z (List.mem_cons_of_mem _ hz)]
theorem hshs_of : ∀ {l : List D}, (∀ z ∈ l, hsh z = true) → hshs l = true
  | [], _ => rfl
  | b :: l, h => by simp [hshs, h b List.mem_cons_self, hshs_of fun z hz => h z (List.mem_cons_of_mem _ hz)]
theorem canonD_ok {xs : List D} (h : clns xs = true) : (canonD xs).Nodup ∧ ∀ x, x ∈ canonD xs ↔ x ∈ xs := by
  obtain ⟨h1, h2⟩ := onceD_ok h
  have pm : (canonD xs).Perm (onceD xs) := List.mergeSort_perm _ _
  exact ⟨pm.nodup_iff.mpr h1, fun x => by rw [pm.mem_iff, h2]⟩
/-- keys told by what is encoded -/
theorem keysOk_enc {α : Type} (enc : α → D) (l : List α) (h1 : ∀ a, hsh (enc a) = true) (h2 : ∀ a b, alikeD (enc a) (enc b) = true) (h3 : ∀ a, tupB (enc a) = true) (h4 : ∀ a, dep (enc a) ≤ 8) (h5 : l.length ≤ 1900) : keysOk (l.map enc) = true := by
  unfold keysOk
  simp only [Bool.and_eq_true, List.all_eq_true, decide_eq_true_eq, List.length_map]
  refine ⟨⟨⟨⟨hshs_of fun z hz => ?_, fun a ha b hb => ?_⟩, fun a ha => ?_⟩, fun a ha => ?_⟩, h5⟩
  · obtain ⟨x, _, rfl⟩ := List.mem_map.mp hz; exact h1 x
  · obtain ⟨x, _, rfl⟩ := List.mem_map.mp ha
    obtain ⟨y, _, rfl⟩ := List.mem_map.mp hb
    exact h2 x y
  · obtain ⟨x, _, rfl⟩ := List.mem_map.mp ha; exact h3 x
  · obtain ⟨x, _, rfl⟩ := List.mem_map.mp ha; exact h4 x
theorem fSortSetK_enc {α : Type} (enc : α → D) (l : List α) (h1 : ∀ a, hsh (enc a) = true) (h2 : ∀ a b, alikeD (enc a) (enc b) = true) (h3 : ∀ a, tupB (enc a) = true) (h4 : ∀ a, dep (enc a) ≤ 8) (h5 : l.length ≤ 1900) :
    fSortSetK (.lst (l.map enc)) = some (canonD (l.map enc)) := by
  unfold fSortSetK
  show (some (l.map enc)).bind _ = _
  rw [Option.bind_some, if_pos (keysOk_enc enc l h1 h2 h3 h4 h5)]
theorem exists_map {α : Type} (enc : α → D) (l : List α) : ∀ ds : List D, (∀ d ∈ ds, d ∈ l.map enc) → ∃ ms : List α, ds = ms.map enc ∧ ∀ m ∈ ms, m ∈ l
  | [], _ => ⟨[], rfl, by simp⟩
  | d :: ds, h => by
    obtain ⟨a, ha, e⟩ := List.mem_map.mp (h d List.mem_cons_self)
    obtain ⟨ms, e2, h2⟩ := exists_map enc l ds fun x hx => h x (List.mem_cons_of_mem _ hx)
    refine ⟨a :: ms, by rw [List.map_cons, e, e2], fun m hm => ?_⟩
    rcases List.mem_cons.mp hm with rfl | hm
    · exact ha
    · exact h2 m hm
theorem fNe_self' {d : D} (h : cln d = true) (hd : dep d ≤ deepest) : fNe d d = some (.bl false) := by
  rw [fNe_d (.inl hd), (peq_iff d d h h).mpr rfl]; rfl
end ET
set_option Elab.async false
set_option maxRecDepth 100000
/-! Hand in hand: rows_of. -/
namespace ET
open PySem L2
abbrev It := List Say × List Nat
def encSr (r : List Say) : D := .tup (r.map encS)
def encIt (x : It) : D := .tup [.tup (x.1.map encS), .tup (nt x.2)]
noncomputable def kids (ms : List Mach) (n : Nat) (x : It) : List It := if x.1.length < n then (meetsE ms x.2).map fun m => (x.1 ++ [m.say], m.af) else []
def wtR (n : Nat) (l : List It) : Nat := (l.map fun x => 9 ^ (n - x.1.length)).sum
theorem aRow_app {ms : List Mach} : ∀ (a b : List Say) (sts : List Nat), aRow ms sts (a ++ b) = (aRow ms sts a).bind fun st => aRow ms st b
  | [], b, sts => rfl
  | s :: a, b, sts => by
    rw [List.cons_append, aRow, aRow]
    cases h : aOneS ms sts s with
    | none => rfl
    | some st =>
      rw [Option.bind_some, Option.bind_some]
      rw [aRow_app a b st]
theorem aRow_one {ms : List Mach} (s : Say) (sts : List Nat) : aRow ms sts [s] = aOneS ms sts s := by
  rw [aRow]
  cases h : aOneS ms sts s with
  | none => rfl
  | some st => rfl
theorem wtR_app (n : Nat) (a b : List It) : wtR n (a ++ b) = wtR n a + wtR n b := by simp [wtR]
theorem wtR_len (n : Nat) : ∀ l : List It, l.length ≤ wtR n l
  | [] => by simp
  | x :: l => by
    have ih := wtR_len n l
    have : wtR n (x :: l) = 9 ^ (n - x.1.length) + wtR n l := by simp [wtR]
    have h1 : 1 ≤ 9 ^ (n - x.1.length) := Nat.one_le_pow _ _ (by decide)
    rw [this, List.length_cons]; omega
theorem wtR_all (n d : Nat) : ∀ l : List It, (∀ x ∈ l, x.1.length = d) → wtR n l = l.length * 9 ^ (n - d)
  | [], _ => by simp [wtR]
  | x :: l, h => by
    have ih := wtR_all n d l fun y hy => h y (List.mem_cons_of_mem _ hy)
    have : wtR n (x :: l) = 9 ^ (n - x.1.length) + wtR n l := by simp [wtR]
    rw [this, ih, h x List.mem_cons_self, List.length_cons, Nat.add_mul, Nat.one_mul, Nat.add_comm]
structure RI (ms : List Mach) (n k : Nat) (l : List It) : Prop where
  it : ∀ x ∈ l, x.2.length = 4 ∧ x.1.length ≤ n ∧ aRow ms [0, 0, 0, 0] x.1 = some x.2
  w : k + wtR n (l.drop k) ≤ 9 ^ n
  le : k ≤ l.length
  cl : ∀ (i : Nat) (x : It), i < k → l[i]? = some x → ∀ c ∈ kids ms n x, c ∈ l
  st : ([], [0, 0, 0, 0]) ∈ l
theorem RI.len {ms : List Mach} {n k : Nat} {l : List It} (h : RI ms n k l) : l.length ≤ 9 ^ n := by
  have h1 := wtR_len n (l.drop k)
  rw [List.length_drop] at h1
  have := h.w
  have := h.le
  omega
theorem RI.turn {ms : List Mach} (hm : ∀ m ∈ ms, m.ok) {n k : Nat} {l : List It} (h : RI ms n k l) {x : It} (hx : l[k]? = some x) : RI ms n (k + 1) (l ++ kids ms n x) := by
  have hk : k < l.length := by
    apply Classical.byContradiction
    intro hn
    rw [List.getElem?_eq_none (by omega)] at hx
    cases hx
  obtain ⟨x4, xn, xa⟩ := h.it x (List.mem_of_getElem? hx)
  have few := meetsE_eight hm x.2
  have hkid : ∀ c ∈ kids ms n x, c.2.length = 4 ∧ c.1.length = x.1.length + 1 ∧ c.1.length ≤ n ∧ aRow ms [0, 0, 0, 0] c.1 = some c.2 := by
    intro c hc
    unfold kids at hc
    split at hc
    · obtain ⟨m, hmm, rfl⟩ := List.mem_map.mp hc
      refine ⟨(met_len m hmm).trans x4, by simp, by simp; omega, ?_⟩
      rw [aRow_app, xa, Option.bind_some, aRow_one]
      exact (aOneS_iff hm).mpr ⟨m, hmm, rfl, rfl⟩
    · cases hc
  refine ⟨fun y hy => ?_, ?_, by rw [List.length_append]; omega, fun i y hi hy c hc => ?_, List.mem_append.mpr (.inl h.st)⟩
  · rcases List.mem_append.mp hy with hy | hy
    · exact h.it y hy
    · obtain ⟨a, _, b, c⟩ := hkid y hy
      exact ⟨a, b, c⟩
  · have hw := h.w
    rw [List.drop_eq_getElem_cons hk] at hw
    have ex : l[k] = x := by rw [List.getElem?_eq_getElem hk] at hx; exact Option.some.inj hx
    rw [ex] at hw
    have e1 : wtR n (x :: l.drop (k + 1)) = 9 ^ (n - x.1.length) + wtR n (l.drop (k + 1)) := by simp [wtR]
    rw [e1] at hw
    rw [List.drop_append_of_le_length (by omega), wtR_app]
    by_cases hc : x.1.length < n
    · have e2 := wtR_all n (x.1.length + 1) (kids ms n x) fun c hc => (hkid c hc).2.1
      have e3 : (kids ms n x).length ≤ 8 := by unfold kids; rw [if_pos hc, List.length_map]; exact few
      have e4 : 9 ^ (n - x.1.length) = 9 * 9 ^ (n - (x.1.length + 1)) := by
        rw [show n - x.1.length = n - (x.1.length + 1) + 1 by omega, Nat.pow_succ, Nat.mul_comm]
      have e5 : 1 ≤ 9 ^ (n - (x.1.length + 1)) := Nat.one_le_pow _ _ (by decide)
      have e6 := Nat.mul_le_mul_right (9 ^ (n - (x.1.length + 1))) e3
      omega
    · have e2 : kids ms n x = [] := by unfold kids; rw [if_neg hc]
      have e5 : 1 ≤ 9 ^ (n - x.1.length) := Nat.one_le_pow _ _ (by decide)
      rw [e2]
      simp only [wtR, List.map_nil, List.sum_nil] at hw ⊢
      omega
  · by_cases e : i = k
    · subst e
      rw [List.getElem?_append_left hk, hx] at hy
      cases hy
      exact List.mem_append.mpr (.inr hc)
    · rw [List.getElem?_append_left (by omega)] at hy
      exact List.mem_append.mpr (.inl (h.cl i y (by omega) hy c hc))
/-- all rows that run are found -/
theorem RI.all {ms : List Mach} (hm : ∀ m ∈ ms, m.ok) {n : Nat} {l : List It} (h : RI ms n l.length l) : ∀ (k : Nat) (row : List Say) (st : List Nat), row.length = k → k ≤ n → aRow ms [0, 0, 0, 0] row = some st → (row, st) ∈ l := by
  intro k
  induction k with
  | zero =>
    intro row st hl _ e
    have : row = [] := List.length_eq_zero_iff.mp hl
    subst this
    cases e
    exact h.st
  | succ k ih =>
    intro row st hl hn e
    have hne : row ≠ [] := fun q => by rw [q] at hl; cases hl
    have hr := (List.dropLast_concat_getLast hne).symm
    generalize row.dropLast = r at hr
    generalize row.getLast hne = s at hr
    subst hr
    rw [List.length_append, List.length_singleton] at hl
    rw [aRow_app] at e
    obtain ⟨st1, e1, e2⟩ := Option.bind_eq_some_iff.mp e
    rw [aRow_one] at e2
    have hm1 := ih r st1 (by omega) (by omega) e1
    obtain ⟨i, hi, ei⟩ := List.mem_iff_getElem.mp hm1
    obtain ⟨m, hmm, rfl, rfl⟩ := (aOneS_iff hm).mp e2
    refine h.cl i (r, st1) hi (by rw [List.getElem?_eq_getElem hi, ei]) _ ?_
    unfold kids
    rw [if_pos (by dsimp only; omega)]
    exact List.mem_map.mpr ⟨m, hmm, rfl⟩
theorem RI.mem {ms : List Mach} (hm : ∀ m ∈ ms, m.ok) {n : Nat} {l : List It} (h : RI ms n l.length l) {row : List Say} (hr : row.length ≤ n) : row ∈ l.map (·.1) ↔ aRow ms [0, 0, 0, 0] row ≠ none := by
  constructor
  · intro hh
    obtain ⟨x, hx, rfl⟩ := List.mem_map.mp hh
    rw [(h.it x hx).2.2]
    simp
  · intro hh
    obtain ⟨st, e⟩ := Option.ne_none_iff_exists'.mp hh
    exact List.mem_map.mpr ⟨_, h.all hm row.length row st rfl hr e, rfl⟩
/-! ### the walk -/
abbrev Ero (ms : List Mach) (n : Nat) (l : List It) (k : Nat) (x4 x5 : Option Sl) : Env := [some (.val (encMs ms)), some (.val (.int n)), some (.own (.lst (l.map encIt)) false), some (.val (.int k)), x4, x5, none, none, none, none, none]
theorem ro_turn {ms : List Mach} (m4 : ms.length = 4) (hm : ∀ m ∈ ms, m.ok) {n k : Nat} (hn : n ≤ 3) {l : List It} (h : RI ms n k l) {x : It} (hx : l[k]? = some x) (x4 x5 : Option Sl) (h4 : Vs x4) (h5 : Vs x5) :
    ∃ y4 y5, Vs y4 ∧ Vs y5 ∧ b_rows_of_4 (Ero ms n l k x4 x5) = some (.nx (Ero ms n (l ++ kids ms n x) (k + 1) y4 y5)) := by
  obtain ⟨x4', xn, xa⟩ := h.it x (List.mem_of_getElem? hx)
  have few := meetsE_eight hm x.2
  have hl := h.len
  have h9 : 9 ^ n ≤ 729 := by
    have : 9 ^ n ≤ 9 ^ 3 := Nat.pow_le_pow_right (by decide) hn
    exact this
  have hkl := h.le
  have as : atI (l.map encIt) (k : Int) = some (encIt x) := by rw [atI_nat, List.getElem?_map, hx]; rfl
  have s1 : kAsg (d2 fIx (.o 2) (.o 3)) (gTp (gsCons (gN 4) (gsCons (gN 5) gsNil))) (Ero ms n l k x4 x5) = some (.nx (Ero ms n l k (some (.val (.tup (x.1.map encS)))) (some (.val (.tup (nt x.2)))))) := by
    simp [as, encIt, setS_free h4.free, setS_free h5.free]
  refine ⟨some (.val (.tup (x.1.map encS))), some (.val (.tup (nt x.2))), vs_v _, vs_v _, ?_⟩
  unfold b_rows_of_4
  rw [kSeq_nx s1]
  have lx : fLen (.tup (x.1.map encS)) = some (.int x.1.length) := by simp
  have s3 : ∀ (L : List It), kAug 3 fAugA (.e (dC (.int 1))) (Ero ms n L k (some (.val (.tup (x.1.map encS)))) (some (.val (.tup (nt x.2))))) = some (.nx (Ero ms n L (k + 1) (some (.val (.tup (x.1.map encS)))) (some (.val (.tup (nt x.2)))))) := fun L => by
    have : fAugA (.int k) (.int 1) = some (.int ((k + 1 : Nat) : Int)) := fAugA_i _ _
    simp [-Option.bind_some, bs, this]
  by_cases hc : x.1.length < n
  · have hM := meets_fun m4 hm x4'
    have c := compL_map (vs := [7, 8, 9, 10]) (g := gTp (gsCons (gN 7) (gsCons (gN 8) (gsCons (gN 9) (gsCons (gN 10) gsNil))))) (c := tYesD) (e := e_rows_of_2) (ρ := Ero ms n l k (some (.val (.tup (x.1.map encS)))) (some (.val (.tup (nt x.2))))) (enc := Met.enc) (fun m => some (encIt (x.1 ++ [m.say], m.af))) (meetsE ms x.2) fun m _ => by
      have hz : x.1.length + 1 ≤ 16777216 := by omega
      have es : encS m.say = .tup [.int m.a, .int m.b, .int m.l] := rfl
      unfold turnC e_rows_of_2
      simp [-Option.bind_some, bs, Met.enc, encIt, es, wipeG, noOwn, wipeE, sz, hz]
    rw [filterMap_some] at c
    have ek : (meetsE ms x.2).map (fun m => encIt (x.1 ++ [m.say], m.af)) = (kids ms n x).map encIt := by
      unfold kids
      rw [if_pos hc, List.map_map]
      rfl
    rw [ek] at c
    have hkl2 : (kids ms n x).length ≤ 8 := by unfold kids; rw [if_pos hc, List.length_map]; exact few
    have hz1 : (kids ms n x).length ≤ 16777216 := by omega
    have hz2 : l.length + (kids ms n x).length ≤ 16777216 := by omega
    have s2 : kIf (tOf (d2 fLt (.e (d1 fLen (.o 4))) (.o 1))) b_rows_of_3 kNil (Ero ms n l k (some (.val (.tup (x.1.map encS)))) (some (.val (.tup (nt x.2))))) = some (.nx (Ero ms n (l ++ kids ms n x) k (some (.val (.tup (x.1.map encS)))) (some (.val (.tup (nt x.2)))))) := by
      unfold b_rows_of_3 kExtC kExt
      have hci : (x.1.length : Int) < (n : Int) := by omega
      generalize (meetsE ms x.2).map Met.enc = ME at *
      generalize f_meets = fm at *
      generalize kids ms n x = K at *
      simp only [Ero] at c ⊢
      simp [-Option.bind_some, -fLen_t, bs, lx, hci, hM, wipeG, noOwn, wipeE, backE, c, sz, hz1, hz2, lstOf]
    rw [kSeq_nx s2]
    exact s3 _
  · have e2 : kids ms n x = [] := by unfold kids; rw [if_neg hc]
    have s2 : kIf (tOf (d2 fLt (.e (d1 fLen (.o 4))) (.o 1))) b_rows_of_3 kNil (Ero ms n l k (some (.val (.tup (x.1.map encS)))) (some (.val (.tup (nt x.2))))) = some (.nx (Ero ms n l k (some (.val (.tup (x.1.map encS)))) (some (.val (.tup (nt x.2)))))) := by
      have hci : ¬ (x.1.length : Int) < (n : Int) := by omega
      generalize b_rows_of_3 = B3 at *
      simp [-Option.bind_some, -fLen_t, bs, lx, hci]
    rw [kSeq_nx s2, e2, List.append_nil]
    exact s3 _
theorem ro_while {ms : List Mach} (m4 : ms.length = 4) (hm : ∀ m ∈ ms, m.ok) {n : Nat} (hn : n ≤ 3) : ∀ (f k : Nat) (l : List It), RI ms n k l → 9 ^ n ≤ f + k → ∀ (x4 x5 : Option Sl), Vs x4 → Vs x5 →
    ∃ (l' : List It) (y4 y5 : Option Sl), RI ms n l'.length l' ∧ Vs y4 ∧ Vs y5 ∧ kWhile (tOf (d2 fLt (.o 3) (.e (d1 fLen (.o 2))))) b_rows_of_4 (Ero ms n l k x4 x5) = some (.nx (Ero ms n l' l'.length y4 y5)) := by
  intro f
  induction f with
  | zero =>
    intro k l h hf x4 x5 h4 h5
    have hl := h.len
    have hk : k = l.length := by have := h.le; omega
    have hc : (tOf (d2 fLt (.o 3) (.e (d1 fLen (.o 2))))) (Ero ms n l k x4 x5) = some (decide (k < l.length), Ero ms n l k x4 x5) := by simp
    refine ⟨l, x4, x5, by rw [← hk]; exact h, h4, h5, ?_⟩
    rw [hk] at hc ⊢
    exact kWhile_end (by rw [hc]; simp)
  | succ f ih =>
    intro k l h hf x4 x5 h4 h5
    have hc : (tOf (d2 fLt (.o 3) (.e (d1 fLen (.o 2))))) (Ero ms n l k x4 x5) = some (decide (k < l.length), Ero ms n l k x4 x5) := by simp
    by_cases hlt : k < l.length
    · obtain ⟨x, hx⟩ : ∃ x, l[k]? = some x := ⟨_, List.getElem?_eq_getElem hlt⟩
      obtain ⟨y4, y5, g4, g5, e⟩ := ro_turn m4 hm hn h hx x4 x5 h4 h5
      obtain ⟨l', z4, z5, r, i4, i5, e2⟩ := ih (k + 1) _ (h.turn hm hx) (by omega) y4 y5 g4 g5
      refine ⟨l', z4, z5, r, i4, i5, ?_⟩
      rw [kWhile_go (by rw [hc]; simp [hlt]) e]
      exact e2
    · have hk : k = l.length := by have := h.le; omega
      refine ⟨l, x4, x5, by rw [← hk]; exact h, h4, h5, ?_⟩
      rw [kWhile_end (ρ1 := Ero ms n l k x4 x5) (by rw [hc]; simp [hlt]), hk]
end ET
set_option Elab.async false
set_option maxRecDepth 100000
/-! Hand in hand: rows_of, told. -/
namespace ET
open PySem L2
theorem alike_says : ∀ (l m : List Say), PySem.W.alikeAll (D.pys (l.map encS)) (D.pys (m.map encS)) = true := by
  intro l
  induction l with
  | nil => intro m; cases m <;> rfl
  | cons a l ih =>
    intro m
    cases m with
    | nil => rfl
    | cons b m =>
      have := ih m
      simp only [List.map_cons, D.pys, PySem.W.alikeAll, this, Bool.and_true]
      rfl
theorem alike_sr (a b : List Say) : alikeD (encSr a) (encSr b) = true := by
  simp only [alikeD, encSr, D.py, PySem.W.alike, alike_says]
theorem deps_says (l : List Say) : deps (l.map encS) ≤ 1 := by
  rw [deps_le]
  intro d hd
  obtain ⟨s, _, rfl⟩ := List.mem_map.mp hd
  simp [encS]
theorem dep_sr (l : List Say) : dep (encSr l) ≤ 2 := by have := deps_says l; simp [encSr]; omega
theorem hsh_sr (l : List Say) : hsh (encSr l) = true := by
  show hshs (l.map encS) = true
  refine hshs_of fun z hz => ?_
  obtain ⟨s, _, rfl⟩ := List.mem_map.mp hz
  rfl
theorem cln_sr (l : List Say) : cln (encSr l) = true := clns_map (enc := encS) (fun _ => rfl) l
theorem sr_inj (a b : List Say) (h : encSr a = encSr b) : a = b := by
  simp only [encSr, D.tup.injEq] at h
  exact map_inj_of say_inj h
theorem rows_of_fun {ms : List Mach} (m4 : ms.length = 4) (hm : ∀ m ∈ ms, m.ok) {n : Nat} (hn : n ≤ 3) : ∃ rs : List (List Say), (∀ row, row.length ≤ n → (row ∈ rs ↔ aRow ms [0, 0, 0, 0] row ≠ none)) ∧
    f_rows_of [.val (encMs ms), .val (.int n)] = some (.own (.lst (rs.map encSr)) false, [.val (encMs ms), .val (.int n)]) := by
  obtain ⟨l, y4, y5, r, g4, g5, e⟩ := ro_while m4 hm hn (9 ^ n) 0 [([], [0, 0, 0, 0])] ⟨fun x hx => by simp at hx; subst hx; exact ⟨rfl, by simp, rfl⟩, by simp [wtR], by simp, fun i x hi => by omega, by simp⟩ (by omega) none none vs_n vs_n
  have hl := r.len
  have h9 : 9 ^ n ≤ 729 := by
    have : 9 ^ n ≤ 9 ^ 3 := Nat.pow_le_pow_right (by decide) hn
    exact this
  have hll : (l.map (·.1)).length ≤ 1900 := by rw [List.length_map]; omega
  have fk := fSortSetK_enc encSr (l.map (·.1)) hsh_sr alike_sr (fun _ => rfl) (fun a => by have := dep_sr a; omega) hll
  obtain ⟨c1, c2⟩ := canonD_ok (xs := (l.map (·.1)).map encSr) (clns_map cln_sr _)
  obtain ⟨rs, e1, e2⟩ := exists_map encSr (l.map (·.1)) (canonD ((l.map (·.1)).map encSr)) fun d hd => (c2 d).mp hd
  refine ⟨rs, fun row hr => ?_, ?_⟩
  · rw [← r.mem hm hr]
    constructor
    · exact e2 row
    · intro h
      have := (c2 (encSr row)).mpr (List.mem_map_of_mem h)
      rw [e1] at this
      obtain ⟨q, hq, eq⟩ := List.mem_map.mp this
      rw [← sr_inj _ _ eq]; exact hq
  · rw [e1] at fk
    have c := compL_map (vs := [4, 6]) (g := gTp (gsCons (gN 4) (gsCons (gN 6) gsNil))) (c := tYesD) (e := dV 4) (ρ := [some (.val (encMs ms)), some (.val (.int n)), some (.val (.lst (l.map encIt))), some (.val (.int l.length)), none, y5, none, none, none, none, none]) (enc := encIt) (fun x => some (encSr x.1)) l fun x _ => by
      unfold turnC
      simp [-Option.bind_some, bs, encIt, encSr, wipeG, noOwn, wipeE]
    rw [filterMap_some] at c
    have em : l.map (fun x => encSr x.1) = (l.map (·.1)).map encSr := by rw [List.map_map]; rfl
    rw [em] at c
    have hz : ((l.map (·.1)).map encSr).length ≤ 16777216 := by rw [List.length_map]; omega
    have bg := begin_h_fun m4
    unfold f_rows_of
    rw [runF_eq (by rfl)]
    unfold m_rows_of
    have s1 : kSet 2 (sLst (dCons (dTup (dCons (dTup dNil) (dCons (dFrz (callS f_begin [.val (dV 0)])) dNil))) dNil)) (envOf 11 [.val (encMs ms), .val (.int n)]) = some (.nx [some (.val (encMs ms)), some (.val (.int n)), some (.own (.lst [encIt ([], [0, 0, 0, 0])]) false), none, none, none, none, none, none, none, none]) := by
      generalize f_begin = fb at *
      simp [-Option.bind_some, bs, envOf, slOf, sz, bg, encIt]
    have s2 : kSet 3 (sVal (dC (.int 0))) [some (.val (encMs ms)), some (.val (.int n)), some (.own (.lst [encIt ([], [0, 0, 0, 0])]) false), none, none, none, none, none, none, none, none] = some (.nx (Ero ms n [([], [0, 0, 0, 0])] 0 none none)) := by simp
    rw [kSeq_nx s1, kSeq_nx s2, kSeq_nx e]
    unfold b_rows_of_1
    generalize (l.map (·.1)).map encSr = LR at *
    rcases g4 with rfl | ⟨d4, rfl⟩ <;> simp [-Option.bind_some, bs, wipeG, noOwn, wipeE, backE, c, sz, hz, fk]
end ET
set_option Elab.async false
set_option maxRecDepth 100000
/-! Hand in hand: a row is drawn. -/
namespace ET
open PySem L2
theorem meet_fine {ms : List Mach} (hm : ∀ m ∈ ms, m.ok) {sts : List Nat} : ∀ m ∈ meetsE ms sts, m.af.length = sts.length ∧ Say.fine m.say := by
  intro m hmm
  have hmm := (List.mergeSort_perm _ _).mem_iff.mp hmm
  obtain ⟨a, ha, hmm⟩ := List.mem_flatMap.mp hmm
  have ha4 : a < 4 := List.mem_range.mp ha
  obtain ⟨x, hx, ⟨c1, c2, c3⟩, y, hy, e, rfl⟩ := meet_mem.mp hmm
  obtain ⟨b1, b2⟩ := stAt_bnd hm sts a x hx
  refine ⟨by simp [metE], ?_⟩
  unfold Say.fine Met.say metE
  dsimp only
  omega
theorem cutq (a b c d : D) : cutD [a, b, c, d] none (some 3) = [a, b, c] := rfl
abbrev Edr (p : Pool) (ms : List Mach) (row : List Say) (sts : List Nat) (x5 x6 x7 x8 x9 : Option Sl) : Env := [some (.own p.enc true), some (.val (encMs ms)), some (.val (.int 7)), some (.val (.tup (row.map encS))), some (.val (.tup (nt sts))), x5, x6, x7, x8, x9]
structure DR (n : Nat) (row : List Say) (sts : List Nat) : Prop where
  s4 : sts.length = 4
  few : row.length ≤ n
  fine : ∀ s ∈ row, Say.fine s
theorem dr_turn {ms : List Mach} (m4 : ms.length = 4) (hm : ∀ m ∈ ms, m.ok) (p : Pool) {n : Nat} {row : List Say} {sts : List Nat} (h : DR n row sts) (hn : n ≤ 10) (k : Nat) (x5 x6 x7 x8 x9 : Option Sl) (h5 : Vs x5) (h6 : Fs x6) (h7 : Vs x7) (h8 : Vs x8) (h9 : Vs x9) :
    ∃ (q : Pool) (row' : List Say) (sts' : List Nat) (y5 y6 y7 y8 y9 : Option Sl), DR (n + 1) row' sts' ∧ Vs y5 ∧ Fs y6 ∧ Vs y7 ∧ Vs y8 ∧ Vs y9 ∧
      turnS (gN 5) b__law_drawn_row_5 (.int (k : Int)) (Edr p ms row sts x5 x6 x7 x8 x9) = some (.nx (Edr q ms row' sts' y5 y6 y7 y8 y9)) := by
  have hM := law_meets_fun m4 hm h.s4
  have few := meetsE_eight hm sts
  have hfm := meet_fine hm (sts := sts)
  have hz : row.length + 1 ≤ 16777216 := by have := h.few; omega
  obtain ⟨q1, r1, r1a, r1b, e1⟩ := draw_ok p 9 (by decide)
  have s0 : gN 5 (.int (k : Int)) (Edr p ms row sts x5 x6 x7 x8 x9) = some (Edr p ms row sts (some (.val (.int k))) x6 x7 x8 x9) := by simp [setS_free h5.free]
  have s1 : kSet 6 (callS f__law_meets [.val (dV 1), .val (dV 4)]) (Edr p ms row sts (some (.val (.int k))) x6 x7 x8 x9) = some (.nx (Edr p ms row sts (some (.val (.int k))) (some (.own (.lst ((meetsE ms sts).map Met.enc)) false)) x7 x8 x9)) := by
    generalize f__law_meets = fl at *
    generalize (meetsE ms sts).map Met.enc = ME at *
    simp [-Option.bind_some, bs, hM, setS_free h6.free]
  have s2 : ∀ x6, kSet 7 (callS f__law_draw [.io 0, .val (dC (.int 9))]) (Edr p ms row sts (some (.val (.int k))) x6 x7 x8 x9) = some (.nx (Edr q1 ms row sts (some (.val (.int k))) x6 (some (.val (.int r1))) x8 x9)) := fun x6 => by
    generalize f__law_draw = fl at *
    simp [-Option.bind_some, bs, e1, setS_free h7.free]
  unfold turnS b__law_drawn_row_5
  rw [s0, bs, kSeq_nx s1, kSeq_nx (s2 _)]
  by_cases c : meetsE ms sts ≠ [] ∧ 0 < r1
  · obtain ⟨c1, c2⟩ := c
    obtain ⟨q2, d, hd, e2⟩ := pick_ok q1 ((meetsE ms sts).map Met.enc) (by simpa using c1) (by rw [List.length_map]; omega)
    obtain ⟨m, hmm, rfl⟩ := List.mem_map.mp hd
    obtain ⟨g1, g2⟩ := hfm m hmm
    refine ⟨q2, row ++ [m.say], m.af, some (.val (.int k)), some (.val (.lst ((meetsE ms sts).map Met.enc))), some (.val (.int r1)), some (.val m.enc), x9, ⟨g1.trans h.s4, by rw [List.length_append]; have := h.few; simp; omega, fun s hs => ?_⟩, vs_v _, fs_v _, vs_v _, vs_v _, h9, ?_⟩
    · rcases List.mem_append.mp hs with hs | hs
      · exact h.fine s hs
      · rw [List.mem_singleton.mp hs]; exact g2
    · unfold t__law_drawn_row_2 b__law_drawn_row_3
      have hp : ¬ (meetsE ms sts).map Met.enc = [] := by simpa using c1
      have es : encS m.say = .tup [.int m.a, .int m.b, .int m.l] := rfl
      obtain ⟨M0, Mr, hcons⟩ := List.exists_cons_of_ne_nil hp
      rw [hcons] at hp ⊢
      rw [hcons] at e2
      generalize f__law_pick = fp at *
      generalize b__law_drawn_row_4 = BB at *
      simp [-Option.bind_some, bs, sz, c2, e2, setS_free h8.free, Met.enc, cutq, es, hz]
  · by_cases c2 : r1 = 0
    · obtain ⟨q2, a, a0, a1, e2⟩ := draw_ok q1 4 (by decide)
      obtain ⟨q3, b, b0, b1, e3⟩ := draw_ok q2 3 (by decide)
      obtain ⟨q4, l, l0, l1, e4⟩ := draw_ok q3 6 (by decide)
      refine ⟨q4, row ++ [(a, (a + 1 + b) % 4, l)], sts, some (.val (.int k)), some (.own (.lst ((meetsE ms sts).map Met.enc)) false), some (.val (.int r1)), x8, some (.val (.int a)), ⟨h.s4, by rw [List.length_append]; have := h.few; simp; omega, fun s hs => ?_⟩, vs_v _, fs_l _, vs_v _, h8, vs_v _, ?_⟩
      · rcases List.mem_append.mp hs with hs | hs
        · exact h.fine s hs
        · rw [List.mem_singleton.mp hs]
          unfold Say.fine
          dsimp only
          omega
      · have t1 : t__law_drawn_row_2 (Edr q1 ms row sts (some (.val (.int k))) (some (.own (.lst ((meetsE ms sts).map Met.enc)) false)) (some (.val (.int r1))) x8 x9) = some (false, Edr q1 ms row sts (some (.val (.int k))) (some (.own (.lst ((meetsE ms sts).map Met.enc)) false)) (some (.val (.int r1))) x8 x9) := by
          unfold t__law_drawn_row_2
          cases hME : (meetsE ms sts).map Met.enc with
          | nil => simp [-Option.bind_some, bs, sz]
          | cons M0 Mr => simp [-Option.bind_some, bs, sz, c2]
        have fm : fMod (.int (a + 1 + b)) (.int 4) = some (.int ((a + 1 + b) % 4)) := by
          simp [fMod]
        unfold kIf
        rw [t1, bs]
        dsimp only
        rw [if_neg (by simp)]
        unfold b__law_drawn_row_4 b__law_drawn_row_1
        generalize f__law_draw = fd at *
        simp [-Option.bind_some, bs, sz, c2, e2, e3, e4, setS_free h9.free, encS, hz]
    · have hr : 0 < r1 := by omega
      have hnil : meetsE ms sts = [] := by
        apply Classical.byContradiction
        intro hn
        exact c ⟨hn, hr⟩
      refine ⟨q1, row, sts, some (.val (.int k)), some (.own (.lst []) false), some (.val (.int r1)), x8, x9, ⟨h.s4, by have := h.few; omega, h.fine⟩, vs_v _, fs_l _, vs_v _, h8, h9, ?_⟩
      rw [hnil]
      unfold t__law_drawn_row_2 b__law_drawn_row_4
      generalize b__law_drawn_row_3 = B3 at *
      generalize b__law_drawn_row_1 = B1 at *
      simp [-Option.bind_some, bs, sz, c2]
theorem dr_loop {ms : List Mach} (m4 : ms.length = 4) (hm : ∀ m ∈ ms, m.ok) : ∀ (ks : List Nat) (n : Nat) (p : Pool) (row : List Say) (sts : List Nat), DR n row sts → n + ks.length ≤ 10 → ∀ (x5 x6 x7 x8 x9 : Option Sl), Vs x5 → Fs x6 → Vs x7 → Vs x8 → Vs x9 →
    ∃ (q : Pool) (row' : List Say) (sts' : List Nat) (y5 y6 y7 y8 y9 : Option Sl), DR (n + ks.length) row' sts' ∧ forL (gN 5) b__law_drawn_row_5 (nt ks) (Edr p ms row sts x5 x6 x7 x8 x9) = some (.nx (Edr q ms row' sts' y5 y6 y7 y8 y9))
  | [], n, p, row, sts, h, _, x5, x6, x7, x8, x9, _, _, _, _, _ => ⟨p, row, sts, x5, x6, x7, x8, x9, h, rfl⟩
  | k :: ks, n, p, row, sts, h, hn, x5, x6, x7, x8, x9, h5, h6, h7, h8, h9 => by
    rw [List.length_cons] at hn ⊢
    obtain ⟨q, row', sts', y5, y6, y7, y8, y9, h', g5, g6, g7, g8, g9, e⟩ := dr_turn m4 hm p h (by omega) k x5 x6 x7 x8 x9 h5 h6 h7 h8 h9
    obtain ⟨q2, row2, sts2, z5, z6, z7, z8, z9, h2, e2⟩ := dr_loop m4 hm ks (n + 1) q row' sts' h' (by omega) y5 y6 y7 y8 y9 g5 g6 g7 g8 g9
    refine ⟨q2, row2, sts2, z5, z6, z7, z8, z9, ?_, ?_⟩
    · rw [show n + (ks.length + 1) = n + 1 + ks.length by omega]; exact h2
    · show forL (gN 5) b__law_drawn_row_5 (.int (k : Int) :: nt ks) _ = _
      rw [forL_nx e, e2]
theorem drawn_row_fun {ms : List Mach} (m4 : ms.length = 4) (hm : ∀ m ∈ ms, m.ok) (p : Pool) : ∃ (q : Pool) (row : List Say), row.length ≤ 7 ∧ (∀ s ∈ row, Say.fine s) ∧
    f__law_drawn_row [.io p.enc, .val (encMs ms), .val (.int 7)] = some (.val (.tup (row.map encS)), [.io q.enc, .val (encMs ms), .val (.int 7)]) := by
  obtain ⟨q, row, sts, y5, y6, y7, y8, y9, h, e⟩ := dr_loop m4 hm [0, 1, 2, 3, 4, 5, 6] 0 p [] [0, 0, 0, 0] ⟨rfl, by simp, by simp⟩ (by simp) none none none none none vs_n fs_n vs_n vs_n vs_n
  refine ⟨q, row, by have := h.few; simpa using this, h.fine, ?_⟩
  have lm := len_ms' ms
  rw [m4] at lm
  have le : fLen (encMs ms) = some (.int 4) := lm
  have fm : fMulS (.tup [.int 0]) (.int 4) = some (.val (.tup (nt [0, 0, 0, 0]))) := by
    unfold fMulS orF vF lF fMul fMulW fRepT
    simp [sz]
    rfl
  unfold f__law_drawn_row
  rw [runF_eq (by rfl)]
  unfold m__law_drawn_row
  have s1 : kPar 3 4 (sVal (dTup dNil)) (s2S fMulS (.e (dTup (dCons (dC (.int 0)) dNil))) (.e (d1 fLen (.o 1)))) (envOf 10 [.io p.enc, .val (encMs ms), .val (.int 7)]) = some (.nx (Edr p ms [] [0, 0, 0, 0] none none none none none)) := by
    simp [-Option.bind_some, -fLen_t, bs, envOf, slOf, sz, le, fm]
  have hi := iR1_n (a := dV 2) (ρ := Edr p ms [] [0, 0, 0, 0] none none none none none) (ρ' := Edr p ms [] [0, 0, 0, 0] none none none none none) (n := 7) (by simp) (by omega)
  have hr : rangeD 0 7 = nt [0, 1, 2, 3, 4, 5, 6] := rfl
  rw [hr] at hi
  rw [kSeq_nx s1, kSeq_nx (kFor_of hi e)]
  simp
end ET
set_option Elab.async false
set_option maxRecDepth 100000
/-! The law's own put, open. -/
namespace ET
open PySem L2
theorem put_fun (k : Nat) : ∀ (p q : Part) (n : Int), p.ht ≤ k → p.slim → f__law_put k [.val p.enc, .val (.int n), .val q.enc] = some (.val (p.put n q).enc, [.val p.enc, .val (.int n), .val q.enc]) := by
  induction k with
  | zero => intro p q n h; cases p <;> simp [Part.ht] at h
  | succ k ih =>
    intro p q n h s
    show runF 3 6 (m__law_put (f__law_put k)) _ = _
    rw [runF_eq (by rfl)]
    unfold m__law_put
    cases p with
    | fin => simp [envOf, slOf, Part.enc, t__law_put_8, b__law_put_7, t__law_put_5, b__law_put_4, t__law_put_3, fIn_tags, sz, Part.put]
    | again m =>
      by_cases e : m = n
      · simp [envOf, slOf, Part.enc, t__law_put_8, b__law_put_9, Part.put, e]
      · simp [envOf, slOf, Part.enc, t__law_put_8, b__law_put_9, Part.put, e]
    | loop m b =>
      simp only [Part.ht] at h
      have e1 := ih b q n (by omega) s
      by_cases e : m = n
      · simp [envOf, slOf, Part.enc, t__law_put_8, b__law_put_7, t__law_put_5, b__law_put_6, Part.put, e]
      · simp [envOf, slOf, Part.enc, t__law_put_8, b__law_put_7, t__law_put_5, b__law_put_6, Part.put, e, e1, sz]
    | act w o r =>
      simp only [Part.ht] at h
      have hl := PRows.len4 s.2.1 s.2.2.1
      have c := compL_map (vs := [4, 5]) (g := gTp (gsCons (gN 4) (gsCons (gN 5) gsNil))) (c := tYesD) (e := e__law_put_1 (f__law_put k)) (ρ := [some (.val (Part.act w o r).enc), some (.val (.int n)), some (.val q.enc), none, none, none]) (enc := encP) (fun x => some (encP (x.1, x.2.put n q))) r.list fun y hy => by
        have e := ih y.2 q n (by have := PRows.ht_mem hy; omega) (PRows.slim_mem s.2.2.2 hy)
        unfold turnC e__law_put_1 encP
        simp [e, sz, wipeG, noOwn, wipeE]
      rw [filterMap_some] at c
      have hz : r.list.length ≤ 16777216 := by omega
      have w1 : ¬ wd w = .again := by cases w <;> decide
      have w2 : ¬ wd w = .loop := by cases w <;> decide
      have w3 : ¬ wd w = .«end» := by cases w <;> decide
      have w4 : ¬ wd w = .beside := by cases w <;> decide
      have at1 : ∀ x y z : D, atI [x, y, z] (-1) = some z := fun _ _ _ => rfl
      have cu : ∀ x y z : D, cutD [x, y, z] none (some (-1)) = [x, y] := fun _ _ _ => rfl
      have er : (r.put n q).enc = r.list.map fun x => encP (x.1, x.2.put n q) := by rw [PRows.enc_list, PRows.list_put, List.map_map]; rfl
      simp only [Part.enc, PRows.enc_list r] at c
      simp [envOf, slOf, Part.enc, PRows.enc_list r, er, t__law_put_8, b__law_put_7, t__law_put_5, b__law_put_4, t__law_put_3, b__law_put_2, fIn_tags, sz, Part.put, w1, w2, w3, w4, at1, cu, wipeG, noOwn, wipeE, backE, c, hz]
theorem open_while {p o : Part} (h : Opn p o) : kWhile t__law_open_1 b__law_open_2 [some (.val p.enc)] = some (.nx [some (.val o.enc)]) := by
  induction h with
  | @done p h =>
    refine kWhile_end ?_
    unfold t__law_open_1
    cases p with
    | fin => simp [Part.enc]
    | again m => simp [Part.enc]
    | loop m b => cases h
    | act w o r =>
      have w2 : ¬ wd w = .loop := by cases w <;> decide
      simp [Part.enc, w2]
  | @step n b o ha hs hh h ih =>
    have e := put_fun 40 b (.loop n b) n hh hs
    rw [kWhile_go (ρ1 := [some (.val (Part.loop n b).enc)]) (ρ2 := [some (.val (b.put n (.loop n b)).enc)]), ih]
    · unfold t__law_open_1
      simp [Part.enc]
    · unfold b__law_open_2
      simp only [Part.enc] at e ⊢
      simp [e]
theorem open_fun {p o : Part} (h : Opn p o) : f__law_open [.val p.enc] = some (.val o.enc, [.val p.enc]) := by
  unfold f__law_open
  rw [runF_eq (by rfl)]
  unfold m__law_open
  simp [envOf, slOf, open_while h]
end ET
set_option Elab.async false
set_option maxRecDepth 100000
/-! The law's own machine: a branch. -/
namespace ET
open PySem L2
theorem mone_fun (p : Part) (k : Nat) (w : Bool) (ot : Int) (r : PRows) (x : List Part × List Stp) (x1 x5 x6 : Option Sl) (h1 : SlotL x1 (x.1.map Part.enc)) (h5 : Vs x5) (h6 : Vs x6) (b : Int × Part) (o : Part) (ho : Opn b.2 o) (h40 : o.ht ≤ 40) (hz : x.1.length ≤ 10000) (hz2 : x.2.length ≤ 100000) :
    ∃ y1, SlotL y1 ((mOne k w ot x b).1.map Part.enc) ∧ turnS (gTp (gsCons (gN 5) (gsCons (gN 6) gsNil))) b__law_machine_2 (encP b) (Emm p x1 x.2 k (some (.val (Part.act w ot r).enc)) x5 x6) =
      some (.nx (Emm p y1 (mOne k w ot x b).2 k (some (.val (Part.act w ot r).enc)) (some (.val (.int b.1))) (some (.val o.enc)))) := by
  have e := open_fun ho
  have fi := fIn_parts (o := o) (fs := x.1) (by omega)
  have ix := fIndex_parts (o := o) (fs := addNew x.1 o) (by omega) addNew_mem.1
  have eo := ho.eq
  refine ⟨some (.val (.lst ((addNew x.1 o).map Part.enc))), ?_, ?_⟩
  · unfold mOne; rw [← eo]; exact .inl rfl
  · unfold mOne turnS b__law_machine_2 encP
    rw [← eo]
    dsimp only
    have hz3 : x.1.length + 1 ≤ 16777216 := by omega
    have hz4 : x.2.length < 16777216 := by omega
    by_cases hm : o ∈ x.1
    · have ea : addNew x.1 o = x.1 := by unfold addNew; rw [if_pos hm]
      rw [ea] at ix ⊢
      rcases h1 with rfl | rfl
      · simp [setS_free h5.free, setS_free h6.free, e, fi, hm, dIndex, lstOf, ix, sz, appT_d, hz4, Stp.enc, Part.enc]
      · simp [setS_free h5.free, setS_free h6.free, e, fi, hm, dIndex, lstOf, ix, sz, appT_d, hz4, Stp.enc, Part.enc]
    · have ea : addNew x.1 o = x.1 ++ [o] := by unfold addNew; rw [if_neg hm]
      rw [ea] at ix ⊢
      simp only [List.map_append, List.map_cons, List.map_nil] at ix ⊢
      rcases h1 with rfl | rfl
      · simp [setS_free h5.free, setS_free h6.free, e, fi, hm, dIndex, lstOf, ix, sz, appT_d, hz3, hz4, Stp.enc, Part.enc]
      · simp [setS_free h5.free, setS_free h6.free, e, fi, hm, dIndex, lstOf, ix, sz, appT_d, hz3, hz4, Stp.enc, Part.enc]
end ET
set_option Elab.async false
set_option maxRecDepth 100000
/-! The law's own machines. -/
namespace ET
open PySem L2
theorem mrow_fun (p : Part) (k : Nat) (w : Bool) (ot : Int) (r : PRows) (x : List Part × List Stp) (x1 x5 x6 : Option Sl) (h1 : SlotL x1 (x.1.map Part.enc)) (h5 : Vs x5) (h6 : Vs x6) (ho : ∀ b ∈ r.list, ∃ o, Opn b.2 o ∧ o.ht ≤ 40) (hl : r.list.length ≤ 4) (hz : x.1.length ≤ 9000) (hz2 : x.2.length ≤ 90000) :
    ∃ y1 y5 y6, SlotL y1 ((mRow k w ot r.list x).1.map Part.enc) ∧ Vs y5 ∧ Vs y6 ∧ forL (gTp (gsCons (gN 5) (gsCons (gN 6) gsNil))) b__law_machine_2 (r.list.map encP) (Emm p x1 x.2 k (some (.val (Part.act w ot r).enc)) x5 x6) =
      some (.nx (Emm p y1 (mRow k w ot r.list x).2 k (some (.val (Part.act w ot r).enc)) y5 y6)) := by
  obtain ⟨ρ', e, y1, y5, y6, g1, g5, g6, rfl⟩ := forL_map (g := gTp (gsCons (gN 5) (gsCons (gN 6) gsNil))) (b := b__law_machine_2) (enc := encP)
    (fun us ρ => ∃ y1 y5 y6, SlotL y1 ((mRow k w ot us x).1.map Part.enc) ∧ Vs y5 ∧ Vs y6 ∧ ρ = Emm p y1 (mRow k w ot us x).2 k (some (.val (Part.act w ot r).enc)) y5 y6)
    r.list _ ⟨x1, x5, x6, h1, h5, h6, rfl⟩ (by
      rintro done u rest ρ hi ⟨y1, y5, y6, g1, g5, g6, rfl⟩
      obtain ⟨o, h2, h3⟩ := ho u (by rw [hi]; simp)
      have hlen := mRow_len k w ot done x
      have hd : done.length ≤ 4 := by have := congrArg List.length hi; simp at this; omega
      obtain ⟨z1, i1, e⟩ := mone_fun p k w ot r (mRow k w ot done x) y1 y5 y6 g1 g5 g6 u o h2 h3 (by omega) (by omega)
      rw [mRow_snoc]
      exact ⟨_, e, z1, some (.val (.int u.1)), some (.val o.enc), i1, vs_v _, vs_v _, rfl⟩)
  exact ⟨y1, y5, y6, g1, g5, g6, e⟩
theorem mturn_fun {W : List Part} (hW : ∀ v ∈ W, Sta W v) (hl : W.length ≤ 3125) (p : Part) (k : Nat) (x : List Part × List Stp) (h : MI W k x) (hk : k < x.1.length) (x1 x4 x5 x6 : Option Sl) (h1 : SlotL x1 (x.1.map Part.enc)) (h4 : Vs x4) (h5 : Vs x5) (h6 : Vs x6) :
    ∃ y1 y4 y5 y6, SlotL y1 ((mTurn k x).1.map Part.enc) ∧ Vs y4 ∧ Vs y5 ∧ Vs y6 ∧ b__law_machine_3 (Emm p x1 x.2 k x4 x5 x6) = some (.nx (Emm p y1 (mTurn k x).2 (k + 1) y4 y5 y6)) := by
  have hx : x.1[k]? = some x.1[k] := List.getElem?_eq_getElem hk
  have sta := hW _ (h.sub _ (List.getElem_mem hk))
  have hlen := h.len
  have hf := h.few
  unfold mTurn b__law_machine_3
  rw [hx]
  have hat : atI (x.1.map Part.enc) (k : Int) = some x.1[k].enc := by rw [atI_nat, List.getElem?_map, hx]; rfl
  rcases sta.nx with q | ⟨w, o, r, q, hr⟩
  · rw [q] at hat ⊢
    dsimp only
    refine ⟨x1, some (.val Part.fin.enc), x5, x6, h1, vs_v _, h5, h6, ?_⟩
    have hn : fNe (.str .«end») (.str .«end») = some (.bl false) := by rw [fNe_d (.inl (by simp [deepest]))]; simp
    simp only [Part.enc] at hat ⊢
    rcases h1 with rfl | rfl
    · simp [hat, setS_free h4.free, forL_nil, sz]
    · simp [hat, setS_free h4.free, forL_nil, sz]
  · rw [q] at hat ⊢
    dsimp only
    have sl := sta.sl
    rw [q] at sl
    have l4 := PRows.len4 sl.2.1 sl.2.2.1
    obtain ⟨y1, y5, y6, g1, g5, g6, e⟩ := mrow_fun p k w o r x x1 x5 x6 h1 h5 h6 (fun b hb => by
      obtain ⟨o', ho', e⟩ := hr b hb
      exact ⟨o', e, (hW o' ho').ht⟩) l4 (by omega) (by omega)
    refine ⟨y1, some (.val (Part.act w o r).enc), y5, y6, g1, vs_v _, g5, g6, ?_⟩
    have w3 : ¬ wd w = .«end» := by cases w <;> decide
    simp only [Part.enc, Emm, PRows.enc_list] at hat e ⊢
    rcases h1 with rfl | rfl
    · simp [hat, setS_free h4.free, sz, w3, e]
    · simp [hat, setS_free h4.free, sz, w3, e]
theorem mwhile_fun {W : List Part} (hW : ∀ v ∈ W, Sta W v) (hl : W.length ≤ 3125) (p : Part) : ∀ (f k : Nat) (x : List Part × List Stp), MI W k x → k ≤ x.1.length → 3200 ≤ f + k → ∀ (x1 x4 x5 x6 : Option Sl), SlotL x1 (x.1.map Part.enc) → Vs x4 → Vs x5 → Vs x6 →
    ∃ k' y1 y4 y5 y6, SlotL y1 ((mLoop f k x).1.map Part.enc) ∧ kWhile (tOf (d2 fLt (.o 3) (.e (d1 fLen (.o 1))))) b__law_machine_3 (Emm p x1 x.2 k x4 x5 x6) = some (.nx (Emm p y1 (mLoop f k x).2 k' y4 y5 y6))
  | 0, k, x, h, hk, hf, _, _, _, _, _, _, _, _ => by have := h.len; omega
  | f + 1, k, x, h, hk, hf, x1, x4, x5, x6, h1, h4, h5, h6 => by
    have hc : (tOf (d2 fLt (.o 3) (.e (d1 fLen (.o 1))))) (Emm p x1 x.2 k x4 x5 x6) = some (decide (k < x.1.length), Emm p x1 x.2 k x4 x5 x6) := by
      rcases h1 with rfl | rfl <;> simp
    unfold mLoop
    by_cases hlt : k < x.1.length
    · rw [if_pos hlt]
      obtain ⟨y1, y4, y5, y6, g1, g4, g5, g6, e⟩ := mturn_fun hW hl p k x h hlt x1 x4 x5 x6 h1 h4 h5 h6
      have hk2 : k + 1 ≤ (mTurn k x).1.length := by
        have := (h.turn hW hlt)
        have hm : x.1.length ≤ (mTurn k x).1.length := by
          unfold mTurn
          split
          · rename_i w o r e
            have : ∀ (l : List (Int × Part)) (y : List Part × List Stp), y.1.length ≤ (mRow k w o l y).1.length := by
              intro l
              induction l with
              | nil => intro y; exact Nat.le_refl _
              | cons b l ih =>
                intro y
                have h1 := ih (mOne k w o y b)
                have h2 := (addNew_pre (fs := y.1) (o := b.2.opened)).length_le
                exact Nat.le_trans h2 h1
            exact this _ _
          · exact Nat.le_refl _
        omega
      obtain ⟨k', z1, z4, z5, z6, i1, e2⟩ := mwhile_fun hW hl p f (k + 1) _ (h.turn hW hlt) hk2 (by omega) y1 y4 y5 y6 g1 g4 g5 g6
      refine ⟨k', z1, z4, z5, z6, i1, ?_⟩
      rw [kWhile_go (ρ1 := Emm p x1 x.2 k x4 x5 x6) (ρ2 := Emm p y1 (mTurn k x).2 (k + 1) y4 y5 y6) (by rw [hc]; simp [hlt]) e]
      exact e2
    · rw [if_neg hlt]
      exact ⟨k, x1, x4, x5, x6, h1, kWhile_end (by rw [hc]; simp [hlt])⟩
theorem machine_fun (p : Part) (g : p.good 5 []) : f__law_machine [.val p.enc] = some (.val (mach p).enc, [.val p.enc]) := by
  obtain ⟨h1, h2, o, ho, e⟩ := p.W_ok g
  have eo := open_fun e
  obtain ⟨k', y1, y4, y5, y6, g1, ew⟩ := mwhile_fun h1 h2 p 4000 0 _ (start_MI g) (by simp) (by omega) (some (.own (.lst [p.opened.enc]) false)) none none none (.inr rfl) vs_n vs_n vs_n
  obtain ⟨k2, hk2, hm⟩ := MI.loop h1 4000 0 _ (start_MI g) (by simp)
  have hl := hm.len
  have hf := hm.few
  unfold f__law_machine mach
  rw [runF_eq (by rfl)]
  unfold m__law_machine b__law_machine_1
  rw [e.eq] at eo
  dsimp only
  generalize mLoop 4000 0 ([p.opened], []) = x at *
  have fs := fSorted_steps x.2 (by rw [sz]; omega)
  simp only [Emm, List.map_nil] at ew
  have e0 : ((0 : Nat) : Int) = 0 := rfl
  rw [e0] at ew
  rcases g1 with rfl | rfl
  · simp [envOf, slOf, eo, sz, ew, fs, Mach.enc]
  · simp [envOf, slOf, eo, sz, ew, fs, Mach.enc]
theorem machines_fun (t : Talk) (f : t.fine0) (hp : t.parts ≠ none) : ∃ ms : List Mach, ms.length = 4 ∧ (∀ m ∈ ms, m.ok) ∧ f__law_machines [.val t.enc] = some (.val (encMs ms), [.val t.enc]) := by
  obtain ⟨ps, hps⟩ := Option.ne_none_iff_exists'.mp hp
  obtain ⟨hl, hg⟩ := Talk.parts_good f hps
  refine ⟨ps.map mach, by simpa using hl, fun m hm => ?_, ?_⟩
  · obtain ⟨p, hp, rfl⟩ := List.mem_map.mp hm
    exact mach_ok (hg p hp)
  · have c := compL_map (vs := [1]) (g := gN 1) (c := tYesD) (e := dFrz (callS f__law_machine [.val (dV 1)])) (ρ := [some (.val t.enc), none]) (enc := Part.enc) (fun p => some (mach p).enc) ps fun y hy => by
      have e := machine_fun y (hg y hy)
      unfold turnC
      simp [e, wipeG, noOwn, wipeE]
    rw [filterMap_some] at c
    unfold f__law_machines
    rw [runF_eq (by rfl)]
    unfold m__law_machines
    have pf := parts_fun t f.tofine
    rw [hps] at pf
    rcases pf with q | ⟨l', z, q⟩
    · simp [envOf, slOf, q, encPs, wipeG, noOwn, wipeE, backE, c, hl, sz, encMs]
    · cases z
      simp [envOf, slOf, q, encPs, wipeG, noOwn, wipeE, backE, c, hl, sz, encMs]
theorem bad_machines_fun (p : Pool) : ∃ (q : Pool) (ms : List Mach), ms.length = 4 ∧ (∀ m ∈ ms, m.ok) ∧ f__law_bad_machines [.io p.enc] = some (.val (encMs ms), [.io q.enc]) := by
  obtain ⟨q1, t1, f1, p1, e1⟩ := good_talk_ok p
  obtain ⟨ms1, l1, o1, g1⟩ := machines_fun t1 f1 p1
  obtain ⟨q2, t2, f2, p2, e2⟩ := good_talk_ok q1
  obtain ⟨ms2, l2, o2, g2⟩ := machines_fun t2 f2 p2
  obtain ⟨a0, a1, a2, a3, rfl⟩ := len4 l1
  obtain ⟨b0, b1, b2, b3, rfl⟩ := len4 l2
  obtain ⟨zs, ρ', ec, q3, ms, hlen, rfl, hok, rfl⟩ := compL_rel (vs := [3]) (g := gN 3) (c := tYesD) (e := e__law_bad_machines_1)
    (fun done outs ρ => ∃ (q : Pool) (ms : List Mach), ms.length = done.length ∧ outs = ms.map Mach.enc ∧ (∀ m ∈ ms, m.ok) ∧ ρ = [some (.own q.enc true), some (.val (encMs [a0, a1, a2, a3])), some (.val (encMs [b0, b1, b2, b3])), none])
    (rangeD 0 4) [] [] [some (.own q2.enc true), some (.val (encMs [a0, a1, a2, a3])), some (.val (encMs [b0, b1, b2, b3])), none] ⟨q2, [], rfl, rfl, by simp, rfl⟩ (by
      rintro done outs d ρ hd ⟨q, ms, i1, rfl, i3, rfl⟩
      obtain ⟨q', r, r0, r1, er⟩ := draw_ok q 3 (by decide)
      have hd' : d = .int 0 ∨ d = .int 1 ∨ d = .int 2 ∨ d = .int 3 := by
        have hr : rangeD 0 4 = [.int 0, .int 1, .int 2, .int 3] := rfl
        rw [hr] at hd
        simpa using hd
      have go : ∀ (a b : Mach), a.ok → b.ok → atI ([a0, a1, a2, a3].map Mach.enc) (match d with | .int i => i | _ => 0) = some a.enc → atI ([b0, b1, b2, b3].map Mach.enc) (match d with | .int i => i | _ => 0) = some b.enc → (∃ i, d = .int i) →
          ∃ o ρ', turnC [3] (gN 3) tYesD e__law_bad_machines_1 d [some (.own q.enc true), some (.val (encMs [a0, a1, a2, a3])), some (.val (encMs [b0, b1, b2, b3])), none] = some (o, ρ') ∧
            ∃ (q : Pool) (ms' : List Mach), ms'.length = (done ++ [d]).length ∧ ms.map Mach.enc ++ o.toList = ms'.map Mach.enc ∧ (∀ m ∈ ms', m.ok) ∧ ρ' = [some (.own q.enc true), some (.val (encMs [a0, a1, a2, a3])), some (.val (encMs [b0, b1, b2, b3])), none] := by
        rintro a b oa ob ha hb ⟨i, rfl⟩
        dsimp only at ha hb
        by_cases hr : r = 0
        · subst hr
          refine ⟨some b.enc, _, ?_, q', ms ++ [b], by simp [i1], by simp, ?_, rfl⟩
          · unfold turnC e__law_bad_machines_1 encMs
            simp only [List.map_cons, List.map_nil] at ha hb
            simp [er, ha, hb, wipeG, noOwn, wipeE]
          · intro m hm
            simp only [List.mem_append, List.mem_cons, List.not_mem_nil, or_false] at hm
            rcases hm with hm | rfl
            · exact i3 m hm
            · exact ob
        · refine ⟨some a.enc, _, ?_, q', ms ++ [a], by simp [i1], by simp, ?_, rfl⟩
          · unfold turnC e__law_bad_machines_1 encMs
            simp only [List.map_cons, List.map_nil] at ha hb
            simp [er, ha, hb, wipeG, noOwn, wipeE, hr]
          · intro m hm
            simp only [List.mem_append, List.mem_cons, List.not_mem_nil, or_false] at hm
            rcases hm with hm | rfl
            · exact i3 m hm
            · exact oa
      rcases hd' with rfl | rfl | rfl | rfl
      · exact go a0 b0 (o1 _ (by simp)) (o2 _ (by simp)) rfl rfl ⟨_, rfl⟩
      · exact go a1 b1 (o1 _ (by simp)) (o2 _ (by simp)) rfl rfl ⟨_, rfl⟩
      · exact go a2 b2 (o1 _ (by simp)) (o2 _ (by simp)) rfl rfl ⟨_, rfl⟩
      · exact go a3 b3 (o1 _ (by simp)) (o2 _ (by simp)) rfl rfl ⟨_, rfl⟩)
  have hl4 : ms.length = 4 := by rw [hlen]; rfl
  refine ⟨q3, ms, hl4, hok, ?_⟩
  unfold f__law_bad_machines
  rw [runF_eq (by rfl)]
  unfold m__law_bad_machines
  simp [envOf, slOf, e1, g1, e2, g2, iR1, wipeG, noOwn, wipeE, backE, ec, hl4, sz]
  rfl
end ET
set_option Elab.async false
set_option maxRecDepth 100000
/-! The program's own: put_for, opened, machine_of. -/
namespace ET
open PySem L2
theorem put_for_fun (k : Nat) : ∀ (p q : Part) (n : Int), p.ht ≤ k → p.slim → f_put_for k [.val p.enc, .val (.int n), .val q.enc] = some (.val (p.put n q).enc, [.val p.enc, .val (.int n), .val q.enc]) := by
  induction k with
  | zero => intro p q n h; cases p <;> simp [Part.ht] at h
  | succ k ih =>
    intro p q n h s
    show runF 3 5 (m_put_for (f_put_for k)) _ = _
    rw [runF_eq (by rfl)]
    unfold m_put_for
    cases p with
    | fin => simp [envOf, slOf, Part.enc, t_put_for_8, b_put_for_7, t_put_for_5, b_put_for_4, t_put_for_3, sz, Part.put]
    | again m =>
      by_cases e : m = n
      · simp [envOf, slOf, Part.enc, t_put_for_8, b_put_for_9, Part.put, e]
      · simp [envOf, slOf, Part.enc, t_put_for_8, b_put_for_9, Part.put, e]
    | loop m b =>
      simp only [Part.ht] at h
      have e1 := ih b q n (by omega) s
      by_cases e : m = n
      · simp [envOf, slOf, Part.enc, t_put_for_8, b_put_for_7, t_put_for_5, b_put_for_6, Part.put, e]
      · simp [envOf, slOf, Part.enc, t_put_for_8, b_put_for_7, t_put_for_5, b_put_for_6, Part.put, e, e1, sz]
    | act w o r =>
      simp only [Part.ht] at h
      have hl := PRows.len4 s.2.1 s.2.2.1
      have c := compL_map (vs := [3, 4]) (g := gTp (gsCons (gN 3) (gsCons (gN 4) gsNil))) (c := tYesD) (e := e_put_for_1 (f_put_for k)) (ρ := [some (.val (Part.act w o r).enc), some (.val (.int n)), some (.val q.enc), none, none]) (enc := encP) (fun x => some (encP (x.1, x.2.put n q))) r.list fun y hy => by
        have e := ih y.2 q n (by have := PRows.ht_mem hy; omega) (PRows.slim_mem s.2.2.2 hy)
        unfold turnC e_put_for_1 encP
        simp [e, sz, wipeG, noOwn, wipeE]
      rw [filterMap_some] at c
      have hz : r.list.length ≤ 16777216 := by omega
      have w1 : ¬ wd w = .again := by cases w <;> decide
      have w2 : ¬ wd w = .loop := by cases w <;> decide
      have w3 : ¬ wd w = .«end» := by cases w <;> decide
      have cu : ∀ x y z : D, cutD [x, y, z] none (some 2) = [x, y] := fun _ _ _ => rfl
      have er : (r.put n q).enc = r.list.map fun x => encP (x.1, x.2.put n q) := by rw [PRows.enc_list, PRows.list_put, List.map_map]; rfl
      simp only [Part.enc, PRows.enc_list r] at c
      simp [envOf, slOf, Part.enc, PRows.enc_list r, er, t_put_for_8, b_put_for_7, t_put_for_5, b_put_for_4, t_put_for_3, b_put_for_2, sz, Part.put, w1, w2, w3, cu, wipeG, noOwn, wipeE, backE, c, hz]
theorem opened_while {p o : Part} (h : Opn p o) : kWhile t_opened_1 b_opened_2 [some (.val p.enc)] = some (.nx [some (.val o.enc)]) := by
  induction h with
  | @done p h =>
    refine kWhile_end ?_
    unfold t_opened_1
    cases p with
    | fin => simp [Part.enc]
    | again m => simp [Part.enc]
    | loop m b => cases h
    | act w o r =>
      have w2 : ¬ wd w = .loop := by cases w <;> decide
      simp [Part.enc, w2]
  | @step n b o ha hs hh h ih =>
    have e := put_for_fun 40 b (.loop n b) n hh hs
    rw [kWhile_go (ρ1 := [some (.val (Part.loop n b).enc)]) (ρ2 := [some (.val (b.put n (.loop n b)).enc)]), ih]
    · unfold t_opened_1
      simp [Part.enc]
    · unfold b_opened_2
      simp only [Part.enc] at e ⊢
      simp [e]
theorem opened_fun {p o : Part} (h : Opn p o) : f_opened [.val p.enc] = some (.val o.enc, [.val p.enc]) := by
  unfold f_opened
  rw [runF_eq (by rfl)]
  unfold m_opened
  simp [envOf, slOf, opened_while h]
abbrev Emp (p : Part) (fs : List Part) (ss : List Stp) (k : Nat) (x4 x5 x6 : Option Sl) : Env :=
  [some (.val p.enc), some (.own (.lst (fs.map Part.enc)) false), some (.own (.lst (ss.map Stp.enc)) false), some (.val (.int k)), x4, x5, x6]
theorem pone_fun (p : Part) (k : Nat) (w : Bool) (ot : Int) (r : PRows) (x : List Part × List Stp) (x5 x6 : Option Sl) (h5 : Vs x5) (h6 : Vs x6) (b : Int × Part) (o : Part) (ho : Opn b.2 o) (h40 : o.ht ≤ 40) (hz : x.1.length ≤ 10000) (hz2 : x.2.length ≤ 100000) :
    turnS (gTp (gsCons (gN 5) (gsCons (gN 6) gsNil))) b_machine_of_3 (encP b) (Emp p x.1 x.2 k (some (.val (Part.act w ot r).enc)) x5 x6) =
      some (.nx (Emp p (mOne k w ot x b).1 (mOne k w ot x b).2 k (some (.val (Part.act w ot r).enc)) (some (.val (.int b.1))) (some (.val o.enc)))) := by
  have e := opened_fun ho
  have fi := fIn_parts (o := o) (fs := x.1) (by omega)
  have ix := fIndex_parts (o := o) (fs := addNew x.1 o) (by omega) addNew_mem.1
  have eo := ho.eq
  unfold mOne turnS b_machine_of_3 b_machine_of_2 encP
  rw [← eo]
  dsimp only
  have hz3 : x.1.length < 16777216 := by omega
  have hz4 : x.2.length < 16777216 := by omega
  by_cases hm : o ∈ x.1
  · have ea : addNew x.1 o = x.1 := by unfold addNew; rw [if_pos hm]
    rw [ea] at ix ⊢
    simp [setS_free h5.free, setS_free h6.free, e, fi, hm, dIndex, lstOf, ix, sz, appT_d, hz4, Stp.enc, Part.enc]
  · have ea : addNew x.1 o = x.1 ++ [o] := by unfold addNew; rw [if_neg hm]
    rw [ea] at ix ⊢
    simp only [List.map_append, List.map_cons, List.map_nil] at ix ⊢
    simp [setS_free h5.free, setS_free h6.free, e, fi, hm, dIndex, lstOf, ix, sz, appT_d, hz3, hz4, Stp.enc, Part.enc]
theorem mo_row (p : Part) (k : Nat) (w : Bool) (ot : Int) (r : PRows) (x : List Part × List Stp) (x5 x6 : Option Sl) (h5 : Vs x5) (h6 : Vs x6) (ho : ∀ b ∈ r.list, ∃ o, Opn b.2 o ∧ o.ht ≤ 40) (hl : r.list.length ≤ 4) (hz : x.1.length ≤ 9000) (hz2 : x.2.length ≤ 90000) :
    ∃ y5 y6, Vs y5 ∧ Vs y6 ∧ forL (gTp (gsCons (gN 5) (gsCons (gN 6) gsNil))) b_machine_of_3 (r.list.map encP) (Emp p x.1 x.2 k (some (.val (Part.act w ot r).enc)) x5 x6) =
      some (.nx (Emp p (mRow k w ot r.list x).1 (mRow k w ot r.list x).2 k (some (.val (Part.act w ot r).enc)) y5 y6)) := by
  obtain ⟨ρ', e, y5, y6, g5, g6, rfl⟩ := forL_map (g := gTp (gsCons (gN 5) (gsCons (gN 6) gsNil))) (b := b_machine_of_3) (enc := encP)
    (fun us ρ => ∃ y5 y6, Vs y5 ∧ Vs y6 ∧ ρ = Emp p (mRow k w ot us x).1 (mRow k w ot us x).2 k (some (.val (Part.act w ot r).enc)) y5 y6)
    r.list _ ⟨x5, x6, h5, h6, rfl⟩ (by
      rintro done u rest ρ hi ⟨y5, y6, g5, g6, rfl⟩
      obtain ⟨o, h2, h3⟩ := ho u (by rw [hi]; simp)
      have hlen := mRow_len k w ot done x
      have hd : done.length ≤ 4 := by have := congrArg List.length hi; simp at this; omega
      have e := pone_fun p k w ot r (mRow k w ot done x) y5 y6 g5 g6 u o h2 h3 (by omega) (by omega)
      rw [mRow_snoc]
      exact ⟨_, e, some (.val (.int u.1)), some (.val o.enc), vs_v _, vs_v _, rfl⟩)
  exact ⟨y5, y6, g5, g6, e⟩
theorem mo_turn {W : List Part} (hW : ∀ v ∈ W, Sta W v) (hl : W.length ≤ 3125) (p : Part) (k : Nat) (x : List Part × List Stp) (h : MI W k x) (hk : k < x.1.length) (x4 x5 x6 : Option Sl) (h4 : Vs x4) (h5 : Vs x5) (h6 : Vs x6) :
    ∃ y4 y5 y6, Vs y4 ∧ Vs y5 ∧ Vs y6 ∧ b_machine_of_4 (Emp p x.1 x.2 k x4 x5 x6) = some (.nx (Emp p (mTurn k x).1 (mTurn k x).2 (k + 1) y4 y5 y6)) := by
  have hx : x.1[k]? = some x.1[k] := List.getElem?_eq_getElem hk
  have sta := hW _ (h.sub _ (List.getElem_mem hk))
  have hlen := h.len
  have hf := h.few
  unfold mTurn b_machine_of_4
  rw [hx]
  have hat : atI (x.1.map Part.enc) (k : Int) = some x.1[k].enc := by rw [atI_nat, List.getElem?_map, hx]; rfl
  rcases sta.nx with q | ⟨w, o, r, q, hr⟩
  · rw [q] at hat ⊢
    dsimp only
    refine ⟨some (.val Part.fin.enc), x5, x6, vs_v _, h5, h6, ?_⟩
    have hn : fNe (.str .«end») (.str .«end») = some (.bl false) := by rw [fNe_d (.inl (by simp [deepest]))]; simp
    simp only [Part.enc] at hat ⊢
    simp [hat, setS_free h4.free, forL_nil, sz]
  · rw [q] at hat ⊢
    dsimp only
    have sl := sta.sl
    rw [q] at sl
    have l4 := PRows.len4 sl.2.1 sl.2.2.1
    obtain ⟨y5, y6, g5, g6, e⟩ := mo_row p k w o r x x5 x6 h5 h6 (fun b hb => by
      obtain ⟨o', ho', e⟩ := hr b hb
      exact ⟨o', e, (hW o' ho').ht⟩) l4 (by omega) (by omega)
    refine ⟨some (.val (Part.act w o r).enc), y5, y6, vs_v _, g5, g6, ?_⟩
    have w3 : ¬ wd w = .«end» := by cases w <;> decide
    simp only [Part.enc, Emp, PRows.enc_list] at hat e ⊢
    simp [hat, setS_free h4.free, sz, w3, e]
theorem mo_while {W : List Part} (hW : ∀ v ∈ W, Sta W v) (hl : W.length ≤ 3125) (p : Part) : ∀ (f k : Nat) (x : List Part × List Stp), MI W k x → k ≤ x.1.length → 3200 ≤ f + k → ∀ (x4 x5 x6 : Option Sl), Vs x4 → Vs x5 → Vs x6 →
    ∃ k' y4 y5 y6, kWhile (tOf (d2 fLt (.o 3) (.e (d1 fLen (.o 1))))) b_machine_of_4 (Emp p x.1 x.2 k x4 x5 x6) = some (.nx (Emp p (mLoop f k x).1 (mLoop f k x).2 k' y4 y5 y6))
  | 0, k, x, h, hk, hf, _, _, _, _, _, _ => by have := h.len; omega
  | f + 1, k, x, h, hk, hf, x4, x5, x6, h4, h5, h6 => by
    have hc : (tOf (d2 fLt (.o 3) (.e (d1 fLen (.o 1))))) (Emp p x.1 x.2 k x4 x5 x6) = some (decide (k < x.1.length), Emp p x.1 x.2 k x4 x5 x6) := by simp
    unfold mLoop
    by_cases hlt : k < x.1.length
    · rw [if_pos hlt]
      obtain ⟨y4, y5, y6, g4, g5, g6, e⟩ := mo_turn hW hl p k x h hlt x4 x5 x6 h4 h5 h6
      have hk2 : k + 1 ≤ (mTurn k x).1.length := by
        have hm : x.1.length ≤ (mTurn k x).1.length := by
          unfold mTurn
          split
          · have : ∀ (w : Bool) (o : Int) (l : List (Int × Part)) (y : List Part × List Stp), y.1.length ≤ (mRow k w o l y).1.length := by
              intro w o l
              induction l with
              | nil => intro y; exact Nat.le_refl _
              | cons b l ih =>
                intro y
                have h1 := ih (mOne k w o y b)
                have h2 := (addNew_pre (fs := y.1) (o := b.2.opened)).length_le
                exact Nat.le_trans h2 h1
            exact this _ _ _ _
          · exact Nat.le_refl _
        omega
      obtain ⟨k', z4, z5, z6, e2⟩ := mo_while hW hl p f (k + 1) _ (h.turn hW hlt) hk2 (by omega) y4 y5 y6 g4 g5 g6
      refine ⟨k', z4, z5, z6, ?_⟩
      rw [kWhile_go (ρ1 := Emp p x.1 x.2 k x4 x5 x6) (ρ2 := Emp p (mTurn k x).1 (mTurn k x).2 (k + 1) y4 y5 y6) (by rw [hc]; simp [hlt]) e]
      exact e2
    · rw [if_neg hlt]
      exact ⟨k, x4, x5, x6, kWhile_end (by rw [hc]; simp [hlt])⟩
theorem machine_of_fun (p : Part) (g : p.good 5 []) : f_machine_of [.val p.enc] = some (.val (mach p).enc, [.val p.enc]) := by
  obtain ⟨h1, h2, o, ho, e⟩ := p.W_ok g
  have eo := opened_fun e
  obtain ⟨k', y4, y5, y6, ew⟩ := mo_while h1 h2 p 4000 0 _ (start_MI g) (by simp) (by omega) none none none vs_n vs_n vs_n
  obtain ⟨k2, hk2, hm⟩ := MI.loop h1 4000 0 _ (start_MI g) (by simp)
  have hl := hm.len
  have hf := hm.few
  unfold f_machine_of mach
  rw [runF_eq (by rfl)]
  unfold m_machine_of b_machine_of_1
  rw [e.eq] at eo
  dsimp only
  generalize mLoop 4000 0 ([p.opened], []) = x at *
  have fs := fSorted_steps x.2 (by rw [sz]; omega)
  simp only [Emp, List.map_nil, List.map_cons] at ew
  have e0 : ((0 : Nat) : Int) = 0 := rfl
  rw [e0] at ew
  simp [envOf, slOf, eo, sz, ew, fs, Mach.enc]
end ET
set_option Elab.async false
set_option maxRecDepth 100000
/-! Charts. -/
namespace ET
open PySem L2
abbrev Ch := List (List Tri)
abbrev encCs (c : Ch) : D := .tup (c.map encC)
/-- how many are sent -/
def nSent (c : List Tri) : Nat := (c.filter fun t => decide (t.1 = true)).length
end ET
set_option Elab.async false
set_option maxRecDepth 100000
/-! sayings_in. -/
namespace ET
open PySem L2
theorem sayings_in_fun (c : Ch) (h4 : c.length = 4) (hl : ∀ x ∈ c, x.length ≤ 100000) : f_sayings_in [.val (encCs c)] = some (.val (.int (c.map fun x => (nSent x : Int)).sum), [.val (encCs c)]) := by
  have cc := compL_map (vs := [1]) (g := gN 1) (c := tYesD) (e := e_sayings_in_2) (ρ := [some (.val (encCs c)), none, none]) (enc := encC) (fun x => some (.int (nSent x : Int))) c fun y hy => by
    have ci := compL_map (vs := [2]) (g := gN 2) (c := t_sayings_in_1) (e := dV 2) (ρ := [some (.val (encCs c)), some (.val (encC y)), none]) (enc := encT) (fun t => if t.1 = true then some (encT t) else none) y fun t _ => by
      obtain ⟨w, o, l⟩ := t
      unfold turnC t_sayings_in_1
      cases w <;> simp [-Option.bind_some, bs, encT, wd, wipeG, noOwn, wipeE]
    rw [filterMap_if (fun t : Tri => t.1 = true)] at ci
    have hn : ((y.filter fun t => decide (t.1 = true)).map encT).length = nSent y := by rw [List.length_map]; rfl
    have hz : nSent y ≤ 16777216 := by have := List.length_filter_le (fun t : Tri => decide (t.1 = true)) y; have := hl y hy; unfold nSent; omega
    generalize ((y.filter fun t => decide (t.1 = true)).map encT) = ys at *
    unfold turnC e_sayings_in_2
    unfold encC at ci ⊢
    simp [-Option.bind_some, bs, wipeG, noOwn, wipeE, backE, ci, sz, hz, hn]
  rw [filterMap_some] at cc
  have fs := fSum_ints (c.map fun x => (nSent x : Int))
  rw [List.map_map] at fs
  have hm : c.map (D.int ∘ fun x => (nSent x : Int)) = c.map fun x => D.int (nSent x : Int) := rfl
  rw [hm] at fs
  have hlm : (c.map fun x => D.int (nSent x : Int)).length = 4 := by rw [List.length_map, h4]
  generalize (c.map fun x => D.int (nSent x : Int)) = lens at *
  have hlz : lens.length ≤ 16777216 := by omega
  unfold f_sayings_in
  rw [runF_eq (by rfl)]
  unfold m_sayings_in
  simp [-Option.bind_some, bs, envOf, slOf, wipeG, noOwn, wipeE, backE, cc, sz, hlz, fs]
end ET
set_option Elab.async false
set_option maxRecDepth 100000
/-! k43: machines, due, how many are said. -/
namespace ET
open PySem L2
abbrev E43 (sc : D) (p : Pool) (x2 x3 x4 x5 x6 x7 x8 x9 : Option Sl) : Env :=
  [some (.val sc), some (.own p.enc false), x2, x3, x4, x5, x6, x7, x8, x9, none, none]
theorem machs43 (sc : D) (q0 : Pool) (x2 x3 x4 x5 x6 x7 x8 x9 : Option Sl) (h3 : Fs x3) : ∃ (q : Pool) (ms : List Mach), ms.length = 4 ∧ (∀ m ∈ ms, m.ok) ∧
    ∀ b : DS, kSeq (kSet 3 (callS f__law_bad_machines [.io 1])) (kSeq (kIf t_law_8 b_law_9 kNil) b) (E43 sc q0 x2 x3 x4 x5 x6 x7 x8 x9) = b (E43 sc q x2 (some (.val (encMs ms))) x4 x5 x6 x7 x8 x9) := by
  obtain ⟨q1, ms, m4, hm, e1⟩ := bad_machines_fun q0
  have s1 : kSet 3 (callS f__law_bad_machines [.io 1]) (E43 sc q0 x2 x3 x4 x5 x6 x7 x8 x9) = some (.nx (E43 sc q1 x2 (some (.val (encMs ms))) x4 x5 x6 x7 x8 x9)) := by
    generalize f__law_bad_machines = fb at *
    simp [-Option.bind_some, bs, e1, setS_free h3.free]
  obtain ⟨q2, r, r0, r1, e2⟩ := draw_ok q1 2 (by decide)
  by_cases hr : r = 0
  · subst hr
    obtain ⟨q3, t, f, hp, e3⟩ := good_talk_ok q2
    obtain ⟨ps, hps⟩ := Option.ne_none_iff_exists'.mp hp
    obtain ⟨hl, hg⟩ := Talk.parts_good f hps
    have c := compL_map (vs := [11]) (g := gN 11) (c := tYesD) (e := dFrz (callS f_machine_of [.val (dV 11)])) (ρ := E43 sc q3 x2 (some (.val (encMs ms))) x4 x5 x6 x7 x8 x9) (enc := Part.enc) (fun p => some (mach p).enc) ps fun p hp => by
      have em := machine_of_fun p (hg p hp)
      unfold turnC
      generalize f_machine_of = fm at *
      simp [-Option.bind_some, bs, em, wipeG, noOwn, wipeE]
    rw [filterMap_some] at c
    have ee : ps.map (fun p => (mach p).enc) = (ps.map mach).map Mach.enc := by rw [List.map_map]; rfl
    rw [ee] at c
    have hz : ((ps.map mach).map Mach.enc).length ≤ 16777216 := by rw [List.length_map, List.length_map]; omega
    have pf : ∃ ys, f__law_parts [.val t.enc] = some (ys, [.val t.enc]) ∧ (ys = .own (.lst (ps.map Part.enc)) false ∨ ys = .val (.lst (ps.map Part.enc))) := by
      have pf := parts_fun t f.tofine
      rw [hps] at pf
      rcases pf with q | ⟨l', z, q⟩
      · exact ⟨_, q, by simp [encPs]⟩
      · cases z
        exact ⟨_, q, by simp [encPs]⟩
    obtain ⟨ys, pf, hys⟩ := pf
    refine ⟨q3, ps.map mach, by rw [List.length_map]; exact hl, fun m hm => ?_, fun b => ?_⟩
    · obtain ⟨p, hp, rfl⟩ := List.mem_map.mp hm
      exact mach_ok (hg p hp)
    · rw [kSeq_nx s1]
      refine kSeq_nx ?_
      unfold t_law_8 b_law_9
      have em : encMs (ps.map mach) = .tup ((ps.map mach).map Mach.enc) := rfl
      rw [em]
      generalize (ps.map mach).map Mach.enc = X at *
      generalize ps.map Part.enc = Y at *
      generalize f__law_parts = fp at *
      generalize f__law_good_talk = fg at *
      generalize f__law_draw = fd at *
      generalize (dFrz (callS f_machine_of [.val (dV 11)])) = MM at *
      rcases hys with rfl | rfl <;> simp [-Option.bind_some, bs, e2, e3, pf, wipeG, noOwn, wipeE, backE, c, sz, hz]
  · refine ⟨q2, ms, m4, hm, fun b => ?_⟩
    rw [kSeq_nx s1]
    refine kSeq_nx ?_
    unfold t_law_8
    generalize b_law_9 = B9 at *
    generalize f__law_draw = fd at *
    simp [-Option.bind_some, bs, e2, hr]
theorem nSent_app (a b : List Tri) : nSent (a ++ b) = nSent a + nSent b := by simp [nSent]
theorem sent_row : ∀ row : List Say, (∀ s ∈ row, Say.fine s) → nSent (chartOf (row.flatMap dd) 0) + nSent (chartOf (row.flatMap dd) 1) + nSent (chartOf (row.flatMap dd) 2) + nSent (chartOf (row.flatMap dd) 3) = row.length
  | [], _ => rfl
  | (a, b, l) :: row, h => by
    have ih := sent_row row fun s hs => h s (List.mem_cons_of_mem _ hs)
    obtain ⟨u1, u2, u3, _⟩ := h _ List.mem_cons_self
    dsimp only at u1 u2 u3
    have one : ∀ r, nSent (chartOf (dd (a, b, l)) r) = if a = r then 1 else 0 := fun r => by
      unfold nSent chartOf dd Deed.tri
      by_cases h1 : a = r <;> by_cases h2 : b = r <;> simp [h1, h2]
    rw [List.flatMap_cons, List.length_cons]
    simp only [chart_app, nSent_app, one]
    have ha : a = 0 ∨ a = 1 ∨ a = 2 ∨ a = 3 := by omega
    rcases ha with rfl | rfl | rfl | rfl <;> simp <;> omega
/-- four ends -/
def seqO (a b c d : Option Nat) : Option (List Nat) := a.bind fun a => b.bind fun b => c.bind fun c => d.bind fun d => some [a, b, c, d]
theorem non_in (a b c d : Option Nat) : fIn false .non (.lst [encN a, encN b, encN c, encN d]) = some (.bl (a.isNone || b.isNone || c.isNone || d.isNone)) := by
  rw [fIn_l (.inl (by simp))]
  cases a <;> cases b <;> cases c <;> cases d <;> simp [encN]
theorem due43 (sc : D) (q : Pool) (x2 x3 x4 x5 x7 x8 x9 : Option Sl) (h7 : Fs x7) (a b c d : Option Nat) :
    kSet 7 (sVal (dIf (tOf (d2 (fIn false) (.e (dC .non)) (.o 6))) (dC .non) (d1 fTupOf (.o 6)))) (E43 sc q x2 x3 x4 x5 (some (.own (.lst [encN a, encN b, encN c, encN d]) false)) x7 x8 x9) =
      some (.nx (E43 sc q x2 x3 x4 x5 (some (.own (.lst [encN a, encN b, encN c, encN d]) false)) (some (.val (encSt (seqO a b c d)))) x8 x9)) := by
  have hn := non_in a b c d
  cases a <;> cases b <;> cases c <;> cases d <;> simp [-Option.bind_some, bs, encN, seqO, encSt, nt, setS_free h7.free] at hn ⊢ <;> simp [-Option.bind_some, bs, hn, setS_free h7.free]
theorem sma_st (r : Option (List Nat)) (h : ∀ l, r = some l → l.length ≤ 100000) : sma (encSt r) := by
  cases r with
  | none => trivial
  | some l => exact ⟨by rw [nt_length]; exact h l rfl, (smas_iff _).mpr fun d hd => by obtain ⟨n, _, rfl⟩ := List.mem_map.mp hd; trivial⟩
end ET
set_option Elab.async false
set_option maxRecDepth 100000
/-! k43: law. -/
namespace ET
open PySem L2
theorem cut_say (row : List Say) (k : Nat) : cutD (row.map encS) none (some (k : Int)) = (row.take k).map encS := by
  have h0 : HT.sIx (row.map encS).length 0 none = 0 := rfl
  have h1 : HT.sIx (row.map encS).length (row.map encS).length (some (k : Int)) = min k (row.map encS).length := by
    unfold HT.sIx
    simp
    omega
  unfold cutD
  rw [h0, h1]
  simp
section
variable {ms : List Mach} (m4 : ms.length = 4) (hm : ∀ m ∈ ms, m.ok)
include m4 hm
theorem b2_43 (sc : D) (q : Pool) (x2 x5 x6 x7 x8 x9 : Option Sl) (h9 : Fs x9) (row : List Say) : b_law_2 (E43 sc q x2 (some (.val (encMs ms))) (some (.val (.tup (row.map encS)))) x5 x6 x7 x8 x9) = some (.nx (E43 sc q x2 (some (.val (encMs ms))) (some (.val (.tup (row.map encS)))) x5 x6 x7 x8 (some (.val (encSr (row.take 3)))))) := by
  have ct := cut_say row 3
  have s1 : kSet 9 (sSlS (.o 4) none (some (dC (.int 3)))) (E43 sc q x2 (some (.val (encMs ms))) (some (.val (.tup (row.map encS)))) x5 x6 x7 x8 x9) = some (.nx (E43 sc q x2 (some (.val (encMs ms))) (some (.val (.tup (row.map encS)))) x5 x6 x7 x8 (some (.val (encSr (row.take 3)))))) := by
    have : cutD (row.map encS) none (some 3) = (row.take 3).map encS := ct
    simp [-Option.bind_some, bs, this, encSr, setS_free h9.free]
  have hl : (row.take 3).length ≤ 3 := by rw [List.length_take]; omega
  obtain ⟨rs, r1, r2⟩ := rows_of_fun m4 hm hl
  have fi := fIn_enc sr_inj cln_sr (x := row.take 3) (by have := dep_sr (row.take 3); unfold deepest; omega) false rs
  have fi : fIn false (encSr (row.take 3)) (.lst (rs.map encSr)) = some (.bl (decide (row.take 3 ∈ rs))) := by rw [fi]; simp
  have w := walked_fun m4 hm (row.take 3)
  have lx : fLen (encSr (row.take 3)) = some (.int (row.take 3).length) := by unfold encSr; simp
  have hiff := r1 (row.take 3) (Nat.le_refl _)
  have fn : isNon (encSt (aRow ms [0, 0, 0, 0] (row.take 3))) = !decide (row.take 3 ∈ rs) := by
    cases h : aRow ms [0, 0, 0, 0] (row.take 3) with
    | none =>
      have : ¬ row.take 3 ∈ rs := fun q => hiff.mp q h
      rw [decide_eq_false this]; rfl
    | some st =>
      have : row.take 3 ∈ rs := hiff.mpr (by rw [h]; simp)
      rw [decide_eq_true this]; rfl
  have fb := fNe_b (decide (row.take 3 ∈ rs)) (decide (row.take 3 ∈ rs))
  have hb : (decide (row.take 3 ∈ rs) != decide (row.take 3 ∈ rs)) = false := by simp
  rw [hb] at fb
  have hw : D.tup ((row.take 3).map encS) = encSr (row.take 3) := rfl
  rw [hw] at w
  unfold b_law_2
  rw [kSeq_nx s1]
  unfold t_law_1
  generalize encSt (aRow ms [0, 0, 0, 0] (row.take 3)) = R at *
  generalize decide (row.take 3 ∈ rs) = B1 at *
  generalize (row.take 3).length = n at *
  generalize encSr (row.take 3) = SH at *
  generalize f_rows_of = fr at *
  generalize f__law_walked = fw at *
  simp [-Option.bind_some, -fLen_t, bs, lx, r2, fi, w, fn, fb]
theorem b4_43 (sc : D) (q : Pool) (x2 x5 x6 x8 x9 : Option Sl) (h8 : Vs x8) (h9 : Fs x9) (row : List Say) (hr : row.length ≤ 1000) : ∃ y8 y9, Vs y8 ∧ Fs y9 ∧
    b_law_4 (E43 sc q x2 (some (.val (encMs ms))) (some (.val (.tup (row.map encS)))) x5 x6 (some (.val (encSt (aRow ms [0, 0, 0, 0] row)))) x8 x9) = some (.nx (E43 sc q x2 (some (.val (encMs ms))) (some (.val (.tup (row.map encS)))) x5 x6 (some (.val (encSt (aRow ms [0, 0, 0, 0] row)))) y8 y9)) := by
  obtain ⟨ρ', e, y8, g8, rfl⟩ := forL_map (g := gN 8) (b := kIf t_law_3 (kRet (sVal (dC (.bl false)))) kNil) (enc := fun (k : Nat) => D.int (0 + (k : Int)))
    (fun _ ρ => ∃ y8, Vs y8 ∧ ρ = E43 sc q x2 (some (.val (encMs ms))) (some (.val (.tup (row.map encS)))) x5 x6 (some (.val (encSt (aRow ms [0, 0, 0, 0] row)))) y8 x9)
    (List.range row.length) (E43 sc q x2 (some (.val (encMs ms))) (some (.val (.tup (row.map encS)))) x5 x6 (some (.val (encSt (aRow ms [0, 0, 0, 0] row)))) x8 x9) ⟨x8, h8, rfl⟩ (by
      rintro done k rest ρ hi ⟨y8, g8, rfl⟩
      refine ⟨E43 sc q x2 (some (.val (encMs ms))) (some (.val (.tup (row.map encS)))) x5 x6 (some (.val (encSt (aRow ms [0, 0, 0, 0] row)))) (some (.val (.int (0 + (k : Int))))) x9, ?_, _, vs_v _, rfl⟩
      have ct := cut_say row k
      have w := after_row_fun m4 hm (row.take k)
      unfold turnS t_law_3
      cases hR : aRow ms [0, 0, 0, 0] row with
      | none =>
        generalize f_after_row = fa at *
        simp [-Option.bind_some, bs, encSt, setS_free g8.free]
      | some st =>
        have e1 := aRow_app (ms := ms) (row.take k) (row.drop k) [0, 0, 0, 0]
        rw [List.take_append_drop, hR] at e1
        obtain ⟨st1, e2, _⟩ := Option.bind_eq_some_iff.mp e1.symm
        rw [e2] at w
        have n1 : isNon (encSt (some st)) = false := rfl
        have n2 : isNon (encSt (some st1)) = false := rfl
        generalize (row.take k).map encS = TK at *
        generalize encSt (some st) = R at *
        generalize encSt (some st1) = R1 at *
        generalize f_after_row = fa at *
        simp [-Option.bind_some, bs, setS_free g8.free, ct, w, n1, n2])
  have lx : fLen (.tup (row.map encS)) = some (.int row.length) := by simp
  have hi := iR1_n (a := d1 fLen (.o 4)) (ρ := E43 sc q x2 (some (.val (encMs ms))) (some (.val (.tup (row.map encS)))) x5 x6 (some (.val (encSt (aRow ms [0, 0, 0, 0] row)))) x8 x9) (ρ' := E43 sc q x2 (some (.val (encMs ms))) (some (.val (.tup (row.map encS)))) x5 x6 (some (.val (encSt (aRow ms [0, 0, 0, 0] row)))) x8 x9) (n := row.length) (by simp [-fLen_t, lx]) (by omega)
  refine ⟨y8, some (.val (encSr (row.take 3))), g8, fs_v _, ?_⟩
  unfold b_law_4
  rw [kSeq_nx (kFor_of hi e)]
  exact b2_43 m4 hm sc q x2 x5 x6 _ y8 x9 h9 row
/-- from the row on -/
theorem b7_43 (sc : D) (q0 : Pool) (x2 x4 x5 x6 x7 x8 x9 : Option Sl) (h4 : Fs x4) (h5 : Fs x5) (h6 : Fs x6) (h7 : Fs x7) (h8 : Vs x8) (h9 : Fs x9) : ∃ (q : Pool) (y4 y5 y6 y7 y8 y9 : Option Sl), Fs y4 ∧ Fs y5 ∧ Fs y6 ∧ Fs y7 ∧ Vs y8 ∧ Fs y9 ∧
    b_law_7 (E43 sc q0 x2 (some (.val (encMs ms))) x4 x5 x6 x7 x8 x9) = some (.nx (E43 sc q x2 (some (.val (encMs ms))) y4 y5 y6 y7 y8 y9)) := by
  obtain ⟨q, row, rl, rf, e1⟩ := drawn_row_fun m4 hm q0
  have s1 : kSet 4 (callS f__law_drawn_row [.io 1, .val (dV 3), .val (dC (.int 7))]) (E43 sc q0 x2 (some (.val (encMs ms))) x4 x5 x6 x7 x8 x9) = some (.nx (E43 sc q x2 (some (.val (encMs ms))) (some (.val (.tup (row.map encS)))) x5 x6 x7 x8 x9)) := by
    generalize f__law_drawn_row = fd at *
    simp [-Option.bind_some, bs, e1, setS_free h4.free]
  have e2 := of_sayings_fun row (by omega) rf
  have s2 : kSet 5 (callS f_of_sayings [.val (dV 4)]) (E43 sc q x2 (some (.val (encMs ms))) (some (.val (.tup (row.map encS)))) x5 x6 x7 x8 x9) = some (.nx (E43 sc q x2 (some (.val (encMs ms))) (some (.val (.tup (row.map encS)))) (some (.val (.tup (encCh (row.flatMap dd))))) x6 x7 x8 x9)) := by
    generalize f_of_sayings = fd at *
    generalize encCh (row.flatMap dd) = CH at *
    simp [-Option.bind_some, bs, e2, setS_free h5.free]
  obtain ⟨m0, m1, m2, m3, rfl⟩ := len4 m4
  obtain ⟨C, hC⟩ : ∃ C, chartOf (row.flatMap dd) = C := ⟨_, rfl⟩
  have hCl : ∀ r, (C r).length ≤ 14 := fun r => by
    have := chart_le (row.flatMap dd) r
    rw [dd_len] at this
    rw [← hC]; omega
  have ar := aRow_charts hm row rf 0 0 0 0
  have sr := sent_row row rf
  have ech : encCh (row.flatMap dd) = [encC (C 0), encC (C 1), encC (C 2), encC (C 3)] := by rw [← hC]; rfl
  rw [hC] at ar sr
  have a0 := after_rows_fun (hm m0 (by simp)) (C 0)
  have a1 := after_rows_fun (hm m1 (by simp)) (C 1)
  have a2 := after_rows_fun (hm m2 (by simp)) (C 2)
  have a3 := after_rows_fun (hm m3 (by simp)) (C 3)
  have esi := sayings_in_fun [C 0, C 1, C 2, C 3] rfl (fun x hx => by
    have := hCl 0
    have := hCl 1
    have := hCl 2
    have := hCl 3
    simp at hx
    rcases hx with rfl | rfl | rfl | rfl <;> omega)
  have ew := walked_fun m4 hm row
  have ea := after_row_fun m4 hm row
  obtain ⟨y8, y9, g8, g9, e4⟩ := b4_43 m4 hm sc q x2 (some (.val (.tup (encCh (row.flatMap dd))))) (some (.own (.lst [encN (aRows m0 0 (C 0)), encN (aRows m1 0 (C 1)), encN (aRows m2 0 (C 2)), encN (aRows m3 0 (C 3))]) false)) x8 x9 h8 h9 row (by omega)
  have hs : seqO (aRows m0 0 (C 0)) (aRows m1 0 (C 1)) (aRows m2 0 (C 2)) (aRows m3 0 (C 3)) = aRow [m0, m1, m2, m3] [0, 0, 0, 0] row := ar.symm
  have du := due43 sc q x2 (some (.val (encMs [m0, m1, m2, m3]))) (some (.val (.tup (row.map encS)))) (some (.val (.tup (encCh (row.flatMap dd))))) x7 x8 x9 h7 (aRows m0 0 (C 0)) (aRows m1 0 (C 1)) (aRows m2 0 (C 2)) (aRows m3 0 (C 3))
  rw [hs] at du
  have rlen : ∀ l, aRow [m0, m1, m2, m3] [0, 0, 0, 0] row = some l → l.length ≤ 100000 := fun l hl => by
    rw [ar] at hl
    obtain ⟨_, _, hl⟩ := Option.bind_eq_some_iff.mp hl
    obtain ⟨_, _, hl⟩ := Option.bind_eq_some_iff.mp hl
    obtain ⟨_, _, hl⟩ := Option.bind_eq_some_iff.mp hl
    obtain ⟨_, _, hl⟩ := Option.bind_eq_some_iff.mp hl
    cases hl
    simp
  have sR := sma_st _ rlen
  have dR : dep (encSt (aRow [m0, m1, m2, m3] [0, 0, 0, 0] row)) ≤ 1 := by
    cases aRow [m0, m1, m2, m3] [0, 0, 0, 0] row with
    | none => simp [encSt]
    | some l => simp [encSt, deps_nts]
  generalize encN (aRows m0 0 (C 0)) = A0 at *
  generalize encN (aRows m1 0 (C 1)) = A1 at *
  generalize encN (aRows m2 0 (C 2)) = A2 at *
  generalize encN (aRows m3 0 (C 3)) = A3 at *
  clear ar hs rlen
  generalize encSt (aRow [m0, m1, m2, m3] [0, 0, 0, 0] row) = R at *
  have sm := same_fun 40 (.lst [R, R, .int row.length]) ⟨by simp, sR, sR, trivial, trivial⟩ (by simp; omega) (by simp [deepest]; omega)
  have s3 : kSet 6 (sComp [10] (iR1 (dC (.int 4))) (gN 10) tYesD e_law_6) (E43 sc q x2 (some (.val (encMs [m0, m1, m2, m3]))) (some (.val (.tup (row.map encS)))) (some (.val (.tup (encCh (row.flatMap dd))))) x6 x7 x8 x9) =
      some (.nx (E43 sc q x2 (some (.val (encMs [m0, m1, m2, m3]))) (some (.val (.tup (row.map encS)))) (some (.val (.tup (encCh (row.flatMap dd))))) (some (.own (.lst [A0, A1, A2, A3]) false)) x7 x8 x9)) := by
    have c := compL_self (vs := [10]) (g := gN 10) (c := tYesD) (e := e_law_6) (ρ := E43 sc q x2 (some (.val (encMs [m0, m1, m2, m3]))) (some (.val (.tup (row.map encS)))) (some (.val (.tup (encCh (row.flatMap dd))))) x6 x7 x8 x9) (fun d => match d with | .int i => some ([A0, A1, A2, A3].getD i.toNat .non) | _ => none) [.int 0, .int 1, .int 2, .int 3] (by
      intro y hy
      rw [ech]
      simp only [encC] at a0 a1 a2 a3 ⊢
      have hi : ∀ k, k < 4 → True := fun _ _ => trivial
      simp only [List.mem_cons, List.not_mem_nil, or_false] at hy
      unfold turnC e_law_6
      generalize f_after_rows = fa at *
      rcases hy with rfl | rfl | rfl | rfl <;> simp [-Option.bind_some, bs, encMs, a0, a1, a2, a3, wipeG, noOwn, wipeE])
    have hr : rangeD 0 4 = [.int 0, .int 1, .int 2, .int 3] := rfl
    have hi := iR1_n (a := dC (.int 4)) (ρ := E43 sc q x2 (some (.val (encMs [m0, m1, m2, m3]))) (some (.val (.tup (row.map encS)))) (some (.val (.tup (encCh (row.flatMap dd))))) x6 x7 x8 x9) (n := 4) rfl (by omega)
    rw [hr] at hi
    have hl : [D.int 0, D.int 1, D.int 2, D.int 3].filterMap (fun d => match d with | .int i => some ([A0, A1, A2, A3].getD i.toNat .non) | _ => none) = [A0, A1, A2, A3] := rfl
    rw [hl] at c
    generalize e_law_6 = E6 at *
    generalize iR1 (dC (.int 4)) = I4 at *
    generalize encMs [m0, m1, m2, m3] = MM at *
    generalize encCh (row.flatMap dd) = CH at *
    simp [-Option.bind_some, bs, hi, wipeG, noOwn, wipeE, backE, c, sz, setS_free h6.free]
  have s5 : kIf t_law_5 (kRet (sVal (dC (.bl false)))) kNil (E43 sc q x2 (some (.val (encMs [m0, m1, m2, m3]))) (some (.val (.tup (row.map encS)))) (some (.val (.tup (encCh (row.flatMap dd))))) (some (.own (.lst [A0, A1, A2, A3]) false)) (some (.val R)) x8 x9) =
      some (.nx (E43 sc q x2 (some (.val (encMs [m0, m1, m2, m3]))) (some (.val (.tup (row.map encS)))) (some (.val (.tup (encCh (row.flatMap dd))))) (some (.own (.lst [A0, A1, A2, A3]) false)) (some (.val R)) x8 x9)) := by
    have hch : D.tup (encCh (row.flatMap dd)) = encCs [C 0, C 1, C 2, C 3] := by rw [ech]; rfl
    have hsum : ([C 0, C 1, C 2, C 3].map fun x => (nSent x : Int)).sum = (row.length : Int) := by
      simp
      omega
    have hlen : fLen (.tup (row.map encS)) = some (.int (row.length : Int)) := by simp
    rw [hsum] at esi
    rw [hch]
    unfold t_law_5
    generalize encCs [C 0, C 1, C 2, C 3] = CS at *
    generalize f__law_same 40 = fs at *
    generalize f_sayings_in = fi at *
    generalize f_after_row = f1 at *
    generalize f__law_walked = f2 at *
    generalize encMs [m0, m1, m2, m3] = MM at *
    generalize (row.length : Int) = n at *
    generalize row.map encS = RR at *
    simp [-Option.bind_some, -fLen_t, bs, ea, ew, esi, hlen, sm, sz]
  refine ⟨q, some (.val (.tup (row.map encS))), some (.val (.tup (encCh (row.flatMap dd)))), some (.own (.lst [A0, A1, A2, A3]) false), some (.val R), y8, y9, fs_v _, fs_v _, fs_l _, fs_v _, g8, g9, ?_⟩
  unfold b_law_7
  rw [kSeq_nx s1, kSeq_nx s2, kSeq_nx s3, kSeq_nx du, kSeq_nx s5]
  exact e4
end
def T43 (sc : D) (ρ : Env) : Prop := ∃ (q : Pool) (x2 x3 x4 x5 x6 x7 x8 x9 : Option Sl), Fs x2 ∧ Fs x3 ∧ Fs x4 ∧ Fs x5 ∧ Fs x6 ∧ Fs x7 ∧ Vs x8 ∧ Fs x9 ∧ ρ = E43 sc q x2 x3 x4 x5 x6 x7 x8 x9
theorem turn43 (sc : D) (d : D) (ρ : Env) (h : T43 sc ρ) : ∃ ρ', turnS (gN 2) b_law_10 d ρ = some (.nx ρ') ∧ T43 sc ρ' := by
  obtain ⟨q, x2, x3, x4, x5, x6, x7, x8, x9, h2, h3, h4, h5, h6, h7, h8, h9, rfl⟩ := h
  obtain ⟨q1, ms, m4, hm, e⟩ := machs43 sc q (some (.val d)) x3 x4 x5 x6 x7 x8 x9 h3
  obtain ⟨q2, y4, y5, y6, y7, y8, y9, g4, g5, g6, g7, g8, g9, e2⟩ := b7_43 m4 hm sc q1 (some (.val d)) x4 x5 x6 x7 x8 x9 h4 h5 h6 h7 h8 h9
  have s0 : gN 2 d (E43 sc q x2 x3 x4 x5 x6 x7 x8 x9) = some (E43 sc q (some (.val d)) x3 x4 x5 x6 x7 x8 x9) := by simp [setS_free h2.free]
  refine ⟨E43 sc q2 (some (.val d)) (some (.val (encMs ms))) y4 y5 y6 y7 y8 y9, ?_, q2, _, _, y4, y5, y6, y7, y8, y9, fs_v _, fs_v _, g4, g5, g6, g7, g8, g9, rfl⟩
  unfold turnS b_law_10
  rw [s0, bs, e]
  exact e2
theorem law43 : LawTrue f_law := by
  intro ns hns
  obtain ⟨p, e⟩ := pool_ok ns hns
  obtain ⟨ρ', e2, h⟩ := forL_rel (g := gN 2) (b := b_law_10) (fun _ ρ => T43 (.scr (ns.map .int)) ρ) (rangeD 0 5) [] (E43 (.scr (ns.map .int)) p none none none none none none none none)
    ⟨p, _, _, _, _, _, _, _, _, fs_n, fs_n, fs_n, fs_n, fs_n, fs_n, vs_n, fs_n, rfl⟩ fun done d rest ρ _ _ h => turn43 _ d ρ h
  obtain ⟨q, x2, x3, x4, x5, x6, x7, x8, x9, _, _, _, _, _, _, _, _, rfl⟩ := h
  refine ⟨[.val (.scr (ns.map .int))], ?_⟩
  unfold f_law
  rw [runF_eq (by rfl)]
  unfold m_law
  have w1 : kSet 1 (callS f__law_pool [.val (dV 0)]) (envOf 12 [.val (.scr (ns.map .int))]) = some (.nx (E43 (.scr (ns.map .int)) p none none none none none none none none)) := by simp [envOf, slOf, e]
  have hi := iR1_n (a := dC (.int 5)) (ρ := E43 (.scr (ns.map .int)) p none none none none none none none none) (n := 5) rfl (by omega)
  rw [kSeq_nx w1, kSeq_nx (kFor_of hi e2)]
  simp
end ET
set_option Elab.async false
set_option maxRecDepth 100000
set_option maxHeartbeats 4000000
namespace ET
open PySem L2
def top (i : Nat) : Stmt := PySem.Challenge.pw_everytalk_k43_whole_rows_seen_by_each_ro.main.body.getD i (.Pass ⟨0, 0, 0, 0⟩)
def topC (i j : Nat) : Stmt := match top i with | .ClassDef _ _ _ b .. => b.getD j (.Pass ⟨0, 0, 0, 0⟩) | _ => .Pass ⟨0, 0, 0, 0⟩
section
variable {P : Program} {w : World} {K : PySem.W.Frag} {mg : Str → Option Value} {base : Heap} {cls : Str → Addr}
abbrev N__law_pool : List Str := ["script", "salt", "cell"]
abbrev S__law_pool : Scope := defScope (top 19)
theorem sc__law_pool : FnScope N__law_pool ["script"] S__law_pool := sc_of (by decide +kernel)
theorem ok__law_pool (fr : Frees mg) {f : Addr} {fd : FuncData} (F : FunD K "_law_pool" "_law_pool" (defArgs (top 19)) (defBody (top 19)) S__law_pool [] [] f fd) (hm : mg "_law_pool" = some (.ref f)) : Known P w K mg base cls 1 "_law_pool" f__law_pool :=
  fn_known (N := N__law_pool) (k := 0) (b := m__law_pool) F hm sc__law_pool (by decide) (fun _ _ _ _ _ _ us hl => match us, hl with | [_], _ => rfl) (fun cdv A outer s H E hr => have hu := hr.units1; (k_cons (k_set (ps_set sc__law_pool.nd rfl (.inl rfl) (s_val x_int) rfl (.inl rfl))) (k_cons (k_for PassesOwn.never rfl (i_val (x_frz (s_slS rfl (opo (pv 0)) b_none (b_some x_int))) rfl) (g_name (pg_name sc__law_pool.nd rfl (.inl rfl) (.inl rfl))) (k_one (k_set (ps_set sc__law_pool.nd rfl (.inl rfl) (s_mod (ope (x_callTy imp_intOf call_int1 (by rfl) fr.int rfl (ope (x_frz (s_add rfl (ope (x_frz (s_mul rfl (opo (pv 1)) (ope x_int)))) (opo (pv 2))))))) (ope x_int)) rfl (.inl rfl))))) (k_one (k_ret (s_lst (a_cons (x_frz (s_callTy imp_listOf call_list_of (by rfl) fr.list rfl (opo (pv 0)))) (a_cons x_int (a_cons x_int (a_cons x_int (a_cons (x_var (pv 1)) a_nil)))))))))))
abbrev N__law_put : List Str := ["value", "name", "other", "rows", "letter", "after"]
abbrev S__law_put : Scope := defScope (top 29)
theorem sc__law_put : FnScope N__law_put ["value", "name", "other"] S__law_put := sc_of (by decide +kernel)
theorem ok__law_put (fr : Frees mg) {f : Addr} {fd : FuncData} (F : FunD K "_law_put" "_law_put" (defArgs (top 29)) (defBody (top 29)) S__law_put [] [] f fd) (hm : mg "_law_put" = some (.ref f)) : ∀ k : Nat, Known P w K mg base cls (1 + k) "_law_put" (f__law_put k)
  | 0 => fn_known (N := N__law_put) (k := 0) F hm sc__law_put (by decide) (fun _ _ _ _ _ _ us hl => match us, hl with | [_, _, _], _ => rfl) (fun _ _ _ _ _ _ _ => ss_no)
  | k + 1 => (fn_known (N := N__law_put) (k := 1 + k) (b := m__law_put (f__law_put k)) F hm sc__law_put (by decide) (fun _ _ _ _ _ _ us hl => match us, hl with | [_, _, _], _ => rfl) (have G__law_put := ok__law_put fr F hm  k; (fun cdv A outer s H E hr => have hu := hr.units1; (k_cons (k_if (t_cmp imp_eq (op_eqA hr) (ope (x_ix imp_ix ix_seq (opo (pv 0)) (ope x_int) (fun _ _ => rfl))) (ope (x_str (t := .again))) rfl) (k_one (k_ret (s_val (x_if (t_cmp imp_eq (op_eqA hr) (ope (x_ix imp_ix ix_seq (opo (pv 0)) (ope x_int) (fun _ _ => rfl))) (opo (pv 1)) rfl) (x_var (pv 2)) (x_var (pv 0)))))) k_nil) (k_cons (k_if (t_cmp imp_eq (op_eqA hr) (ope (x_ix imp_ix ix_seq (opo (pv 0)) (ope x_int) (fun _ _ => rfl))) (ope (x_str (t := .loop))) rfl) (k_one (k_ret (s_val (x_if (t_cmp imp_eq (op_eqA hr) (ope (x_ix imp_ix ix_seq (opo (pv 0)) (ope x_int) (fun _ _ => rfl))) (opo (pv 1)) rfl) (x_var (pv 0)) (x_tup (a_cons (x_str (t := .loop)) (a_cons (x_ix imp_ix ix_seq (opo (pv 0)) (ope x_int) (fun _ _ => rfl)) (a_cons (x_frz (s_callK G__law_put rfl hr (by omega) (by rfl) (aa_val (x_ix imp_ix ix_seq (opo (pv 0)) (ope x_int) (fun _ _ => rfl)) (aa_val (x_var (pv 1)) (aa_val (x_var (pv 2)) aa_nil))))) a_nil)))))))) k_nil) (k_cons (k_if (t_cmp (imp_in false) (op_inA hr) (ope (x_ix imp_ix ix_seq (opo (pv 0)) (ope x_int) (fun _ _ => rfl))) (ope (x_tup (a_cons (x_str (t := .«end»)) (a_cons (x_str (t := .beside)) a_nil)))) rfl) (k_one (k_ret (s_val (x_var (pv 0))))) k_nil) (k_cons (k_set (ps_set sc__law_put.nd rfl (.inl rfl) (s_val (x_callTy imp_tupOf call_tupM (by rfl) fr.tuple rfl (ope (x_frz ((pe_lc (own := [("letter", 4), ("after", 5)]) rfl sc__law_put.nd (i_val (x_ix imp_ix ix_seq (opo (pv 0)) (ope x_neg) (fun _ _ => rfl)) rfl) (blk_of (N := N__law_put) (sc := S__law_put) (by decide +kernel)) (fun s H C cl fp => (c_tup rfl rfl (cs_cons (c_name (by decide) (pg_name sc__law_put.nd rfl (.inl rfl) (.inr rfl))) (cs_cons (c_name (by decide) (pg_name sc__law_put.nd rfl (.inl rfl) (.inr rfl))) cs_nil)) (gsCons_len (gsCons_len gsNil_len)))) (fun s H C cl fp => ts_nil) (fun s H C cl fp => (x_tup (a_cons (x_var (pv 4)) (a_cons (x_frz (s_callK G__law_put rfl hr (by omega) (by rfl) (aa_val (x_var (pv 5)) (aa_val (x_var (pv 1)) (aa_val (x_var (pv 2)) aa_nil))))) a_nil))))).imp s_compI))))) rfl (.inl rfl))) (k_one (k_ret (s_add rfl (ope (x_frz (s_slS rfl (opo (pv 0)) b_none (b_some x_neg)))) (ope (x_tup (a_cons (x_var (pv 3)) a_nil))))))))))))).mono (by omega)
abbrev N__law_open : List Str := ["value"]
abbrev S__law_open : Scope := defScope (top 30)
theorem sc__law_open : FnScope N__law_open ["value"] S__law_open := sc_of (by decide +kernel)
theorem ok__law_open (fr : Frees mg) {f : Addr} {fd : FuncData} (F : FunD K "_law_open" "_law_open" (defArgs (top 30)) (defBody (top 30)) S__law_open [] [] f fd) (hm : mg "_law_open" = some (.ref f)) (G__law_put : Known P w K mg base cls 41 "_law_put" (f__law_put 40)) : Known P w K mg base cls 42 "_law_open" f__law_open :=
  fn_known (N := N__law_open) (k := 41) (b := m__law_open) F hm sc__law_open (by decide) (fun _ _ _ _ _ _ us hl => match us, hl with | [_], _ => rfl) (fun cdv A outer s H E hr => have hu := hr.units1; (k_cons (k_while PassesOwn.never (t_cmp imp_eq (op_eqA hr) (ope (x_ix imp_ix ix_seq (opo (pv 0)) (ope x_int) (fun _ _ => rfl))) (ope (x_str (t := .loop))) rfl) (k_one (k_set (ps_set sc__law_open.nd rfl (.inl rfl) (s_callK G__law_put rfl hr (by omega) (by rfl) (aa_val (x_ix imp_ix ix_seq (opo (pv 0)) (ope x_int) (fun _ _ => rfl)) (aa_val (x_ix imp_ix ix_seq (opo (pv 0)) (ope x_int) (fun _ _ => rfl)) (aa_val (x_var (pv 0)) aa_nil)))) rfl (.inl rfl))))) (k_one (k_ret (s_val (x_var (pv 0)))))))
abbrev N__law_machine : List Str := ["part", "found", "steps", "k", "here", "letter", "after"]
abbrev S__law_machine : Scope := defScope (top 38)
theorem sc__law_machine : FnScope N__law_machine ["part"] S__law_machine := sc_of (by decide +kernel)
theorem ok__law_machine (fr : Frees mg) {f : Addr} {fd : FuncData} (F : FunD K "_law_machine" "_law_machine" (defArgs (top 38)) (defBody (top 38)) S__law_machine [] [] f fd) (hm : mg "_law_machine" = some (.ref f)) (G__law_open : Known P w K mg base cls 42 "_law_open" f__law_open) : Known P w K mg base cls 43 "_law_machine" f__law_machine :=
  fn_known (N := N__law_machine) (k := 42) (b := m__law_machine) F hm sc__law_machine (by decide) (fun _ _ _ _ _ _ us hl => match us, hl with | [_], _ => rfl) (fun cdv A outer s H E hr => have hu := hr.units1; (k_cons (k_set (ps_set sc__law_machine.nd rfl (.inl rfl) (s_lst (a_cons (x_frz (s_callK G__law_open rfl hr (by omega) (by rfl) (aa_val (x_var (pv 0)) aa_nil))) a_nil)) rfl (.inl rfl))) (k_cons (k_set (ps_set sc__law_machine.nd rfl (.inl rfl) (s_lst a_nil) rfl (.inl rfl))) (k_cons (k_set (ps_set sc__law_machine.nd rfl (.inl rfl) (s_val x_int) rfl (.inl rfl))) (k_cons (k_while PassesOwn.never (t_cmp (imp_cmp _) op_lt (opo (pv 3)) (ope (x_callB imp_len call_len_seq (by rfl) fr.len rfl (opo (pv 1)))) rfl) (k_cons (k_set (ps_set sc__law_machine.nd rfl (.inl rfl) (s_val (x_ix imp_ix ix_seq (opo (pv 1)) (opo (pv 3)) (fun _ _ => rfl))) rfl (.inl rfl))) (k_cons (k_for PassesOwn.never rfl (i_val (x_if (t_cmp imp_ne (op_neA hr) (ope (x_ix imp_ix ix_seq (opo (pv 4)) (ope x_int) (fun _ _ => rfl))) (ope (x_str (t := .«end»))) rfl) (x_ix imp_ix ix_seq (opo (pv 4)) (ope x_int) (fun _ _ => rfl)) (x_tup a_nil)) rfl) (g_tup rfl rfl (gs_cons (g_name (pg_name sc__law_machine.nd rfl (.inl rfl) (.inl rfl))) (gs_cons (g_name (pg_name sc__law_machine.nd rfl (.inl rfl) (.inl rfl))) gs_nil)) (gsCons_len (gsCons_len gsNil_len))) (k_cons (k_set (ps_set sc__law_machine.nd rfl (.inl rfl) (s_callK G__law_open rfl hr (by omega) (by rfl) (aa_val (x_var (pv 6)) aa_nil)) rfl (.inl rfl))) (k_cons (k_set (ps_set sc__law_machine.nd rfl (.inl rfl) (s_val (x_if (t_cmp (imp_in true) (op_niA hr) (opo (pv 6)) (opo (pv 1)) rfl) (x_frz (s_add rfl (opo (pv 1)) (ope (x_frz (s_lst (a_cons (x_var (pv 6)) a_nil)))))) (x_var (pv 1)))) rfl (.inl rfl))) (k_one (let h := (x_tup (a_cons (x_var (pv 3)) (a_cons (x_ix imp_ix ix_seq (opo (pv 4)) (ope x_int) (fun _ _ => rfl)) (a_cons (x_ix imp_ix ix_seq (opo (pv 4)) (ope x_int) (fun _ _ => rfl)) (a_cons (x_var (pv 5)) (a_cons (x_index rfl (pe_bm PySem.F.plainAttrs_list PySem.F.slot_list_index PySem.F.type_list_index (mt_indexA hr) (Opd.run (opo (pv 1))) (pa_cons (x_var (pv 6)) pa_nil))) a_nil)))))); k_app (pv 2) h rfl rfl (pe_bm PySem.F.plainAttrs_list PySem.F.slot_list_append PySem.F.type_list_append mt_append (pv 2) (pa_cons h pa_nil))))))) (k_one (k_set (ps_set sc__law_machine.nd rfl (.inl rfl) (s_add rfl (opo (pv 3)) (ope x_int)) rfl (.inl rfl))))))) (k_one (k_ret (s_val (x_tup (a_cons (x_callB imp_len call_len_seq (by rfl) fr.len rfl (opo (pv 1))) (a_cons (x_callTy imp_tupOf call_tupM (by rfl) fr.tuple rfl (ope (x_frz (s_callB imp_sorted (cr_sortD hr) (by rfl) fr.sorted rfl (opo (pv 2)))))) a_nil)))))))))))
abbrev N__law_ways_out : List Str := ["talk", "found", "letter", "after", "name"]
abbrev S__law_ways_out : Scope := defScope (top 33)
theorem sc__law_ways_out : FnScope N__law_ways_out ["talk"] S__law_ways_out := sc_of (by decide +kernel)
theorem ok__law_ways_out (fr : Frees mg) {f : Addr} {fd : FuncData} (F : FunD K "_law_ways_out" "_law_ways_out" (defArgs (top 33)) (defBody (top 33)) S__law_ways_out [] [] f fd) (hm : mg "_law_ways_out" = some (.ref f)) : ∀ k : Nat, Known P w K mg base cls (1 + k) "_law_ways_out" (f__law_ways_out k)
  | 0 => fn_known (N := N__law_ways_out) (k := 0) F hm sc__law_ways_out (by decide) (fun _ _ _ _ _ _ us hl => match us, hl with | [_], _ => rfl) (fun _ _ _ _ _ _ _ => ss_no)
  | k + 1 => (fn_known (N := N__law_ways_out) (k := 1 + k) (b := m__law_ways_out (f__law_ways_out k)) F hm sc__law_ways_out (by decide) (fun _ _ _ _ _ _ us hl => match us, hl with | [_], _ => rfl) (have G__law_ways_out := ok__law_ways_out fr F hm  k; (fun cdv A outer s H E hr => have hu := hr.units1; (k_cons (k_if (t_cmp imp_eq (op_eqA hr) (ope (x_ix imp_ix ix_seq (opo (pv 0)) (ope x_int) (fun _ _ => rfl))) (ope (x_str (t := .again))) rfl) (k_one (k_ret (s_lst (a_cons (x_ix imp_ix ix_seq (opo (pv 0)) (ope x_int) (fun _ _ => rfl)) a_nil)))) k_nil) (k_cons (k_if (t_cmp imp_eq (op_eqA hr) (ope (x_ix imp_ix ix_seq (opo (pv 0)) (ope x_int) (fun _ _ => rfl))) (ope (x_str (t := .loop))) rfl) (k_one (k_ret ((pe_lc (own := [("name", 4)]) rfl sc__law_ways_out.nd (i_val (x_frz (s_callK G__law_ways_out rfl hr (by omega) (by rfl) (aa_val (x_ix imp_ix ix_seq (opo (pv 0)) (ope x_int) (fun _ _ => rfl)) aa_nil))) rfl) (blk_of (N := N__law_ways_out) (sc := S__law_ways_out) (by decide +kernel)) (fun s H C cl fp => (c_name (by decide) (pg_name sc__law_ways_out.nd rfl (.inl rfl) (.inr rfl)))) (fun s H C cl fp => (ts_one (t_cmp imp_ne (op_neA hr) (opo (pv 4)) (ope (x_ix imp_ix ix_seq (opo (pv 0)) (ope x_int) (fun _ _ => rfl))) rfl))) (fun s H C cl fp => (x_var (pv 4)))).imp s_compI))) k_nil) (k_cons (k_set (ps_set sc__law_ways_out.nd rfl (.inl rfl) (s_val (x_if (t_cmp imp_eq (op_eqA hr) (ope (x_ix imp_ix ix_seq (opo (pv 0)) (ope x_int) (fun _ _ => rfl))) (ope (x_str (t := .say))) rfl) (x_frz (s_lst a_nil)) (x_frz (s_lst (a_cons x_neg a_nil))))) rfl (.inl rfl))) (k_cons (k_for PassesOwn.never rfl (i_val (x_if (t_cmp imp_eq (op_eqA hr) (ope (x_ix imp_ix ix_seq (opo (pv 0)) (ope x_int) (fun _ _ => rfl))) (ope (x_str (t := .say))) rfl) (x_ix imp_ix ix_seq (opo (pv 0)) (ope x_int) (fun _ _ => rfl)) (x_tup a_nil)) rfl) (g_tup rfl rfl (gs_cons (g_name (pg_name sc__law_ways_out.nd rfl (.inl rfl) (.inl rfl))) (gs_cons (g_name (pg_name sc__law_ways_out.nd rfl (.inl rfl) (.inl rfl))) gs_nil)) (gsCons_len (gsCons_len gsNil_len))) (k_one (k_set (ps_set sc__law_ways_out.nd rfl (.inl rfl) (s_add rfl (opo (pv 1)) (ope (x_frz (s_callK G__law_ways_out rfl hr (by omega) (by rfl) (aa_val (x_var (pv 3)) aa_nil))))) rfl (.inl rfl))))) (k_one (k_ret (s_sortSet rfl rfl (by rfl) fr.sorted (by rfl) fr.set (opo (pv 1)))))))))))).mono (by omega)
abbrev N__law_inner : List Str := ["value", "letter", "after"]
abbrev S__law_inner : Scope := defScope (top 24)
theorem sc__law_inner : FnScope N__law_inner ["value"] S__law_inner := sc_of (by decide +kernel)
theorem ok__law_inner (fr : Frees mg) {f : Addr} {fd : FuncData} (F : FunD K "_law_inner" "_law_inner" (defArgs (top 24)) (defBody (top 24)) S__law_inner [] [] f fd) (hm : mg "_law_inner" = some (.ref f)) : Known P w K mg base cls 1 "_law_inner" f__law_inner :=
  fn_known (N := N__law_inner) (k := 0) (b := m__law_inner) F hm sc__law_inner (by decide) (fun _ _ _ _ _ _ us hl => match us, hl with | [_], _ => rfl) (fun cdv A outer s H E hr => have hu := hr.units1; (k_cons (k_if (t_cmp imp_eq (op_eqA hr) (ope (x_ix imp_ix ix_seq (opo (pv 0)) (ope x_int) (fun _ _ => rfl))) (ope (x_str (t := .say))) rfl) (k_one (k_ret ((pe_lc (own := [("letter", 1), ("after", 2)]) rfl sc__law_inner.nd (i_val (x_ix imp_ix ix_seq (opo (pv 0)) (ope x_int) (fun _ _ => rfl)) rfl) (blk_of (N := N__law_inner) (sc := S__law_inner) (by decide +kernel)) (fun s H C cl fp => (c_tup rfl rfl (cs_cons (c_name (by decide) (pg_name sc__law_inner.nd rfl (.inl rfl) (.inr rfl))) (cs_cons (c_name (by decide) (pg_name sc__law_inner.nd rfl (.inl rfl) (.inr rfl))) cs_nil)) (gsCons_len (gsCons_len gsNil_len)))) (fun s H C cl fp => ts_nil) (fun s H C cl fp => (x_var (pv 2)))).imp s_compI))) k_nil) (k_cons (k_if (t_cmp imp_eq (op_eqA hr) (ope (x_ix imp_ix ix_seq (opo (pv 0)) (ope x_int) (fun _ _ => rfl))) (ope (x_str (t := .beside))) rfl) (k_one (k_ret (s_lst (a_cons (x_ix imp_ix ix_seq (opo (pv 0)) (ope x_int) (fun _ _ => rfl)) (a_cons (x_ix imp_ix ix_seq (opo (pv 0)) (ope x_int) (fun _ _ => rfl)) a_nil))))) k_nil) (k_one (k_ret (s_val (x_if (t_cmp imp_eq (op_eqA hr) (ope (x_ix imp_ix ix_seq (opo (pv 0)) (ope x_int) (fun _ _ => rfl))) (ope (x_str (t := .loop))) rfl) (x_frz (s_lst (a_cons (x_ix imp_ix ix_seq (opo (pv 0)) (ope x_int) (fun _ _ => rfl)) a_nil))) (x_frz (s_lst a_nil)))))))))
abbrev N__law_roles : List Str := ["value", "found", "part"]
abbrev S__law_roles : Scope := defScope (top 26)
theorem sc__law_roles : FnScope N__law_roles ["value"] S__law_roles := sc_of (by decide +kernel)
theorem ok__law_roles (fr : Frees mg) {f : Addr} {fd : FuncData} (F : FunD K "_law_roles" "_law_roles" (defArgs (top 26)) (defBody (top 26)) S__law_roles [] [] f fd) (hm : mg "_law_roles" = some (.ref f)) (G__law_inner : Known P w K mg base cls 1 "_law_inner" f__law_inner) : ∀ k : Nat, Known P w K mg base cls (2 + k) "_law_roles" (f__law_roles k)
  | 0 => fn_known (N := N__law_roles) (k := 1) F hm sc__law_roles (by decide) (fun _ _ _ _ _ _ us hl => match us, hl with | [_], _ => rfl) (fun _ _ _ _ _ _ _ => ss_no)
  | k + 1 => (fn_known (N := N__law_roles) (k := 2 + k) (b := m__law_roles (f__law_roles k)) F hm sc__law_roles (by decide) (fun _ _ _ _ _ _ us hl => match us, hl with | [_], _ => rfl) (have G__law_roles := ok__law_roles fr F hm G__law_inner k; (fun cdv A outer s H E hr => have hu := hr.units1; (k_cons (k_set (ps_set sc__law_roles.nd rfl (.inl rfl) (s_val (x_if (t_cmp imp_eq (op_eqA hr) (ope (x_ix imp_ix ix_seq (opo (pv 0)) (ope x_int) (fun _ _ => rfl))) (ope (x_str (t := .say))) rfl) (x_frz (s_lst (a_cons (x_ix imp_ix ix_seq (opo (pv 0)) (ope x_int) (fun _ _ => rfl)) (a_cons (x_ix imp_ix ix_seq (opo (pv 0)) (ope x_int) (fun _ _ => rfl)) a_nil)))) (x_frz (s_lst a_nil)))) rfl (.inl rfl))) (k_cons (k_for PassesOwn.never rfl (i_val (x_frz (s_callK G__law_inner rfl hr (by omega) (by rfl) (aa_val (x_var (pv 0)) aa_nil))) rfl) (g_name (pg_name sc__law_roles.nd rfl (.inl rfl) (.inl rfl))) (k_one (k_set (ps_set sc__law_roles.nd rfl (.inl rfl) (s_add rfl (opo (pv 1)) (ope (x_frz (s_callK G__law_roles rfl hr (by omega) (by rfl) (aa_val (x_var (pv 2)) aa_nil))))) rfl (.inl rfl))))) (k_one (k_ret (s_sortSet rfl rfl (by rfl) fr.sorted (by rfl) fr.set (opo (pv 1)))))))))).mono (by omega)
abbrev N__law_many : List Str := ["value", "part"]
abbrev S__law_many : Scope := defScope (top 25)
theorem sc__law_many : FnScope N__law_many ["value"] S__law_many := sc_of (by decide +kernel)
theorem ok__law_many (fr : Frees mg) {f : Addr} {fd : FuncData} (F : FunD K "_law_many" "_law_many" (defArgs (top 25)) (defBody (top 25)) S__law_many [] [] f fd) (hm : mg "_law_many" = some (.ref f)) (G__law_inner : Known P w K mg base cls 1 "_law_inner" f__law_inner) : ∀ k : Nat, Known P w K mg base cls (2 + k) "_law_many" (f__law_many k)
  | 0 => fn_known (N := N__law_many) (k := 1) F hm sc__law_many (by decide) (fun _ _ _ _ _ _ us hl => match us, hl with | [_], _ => rfl) (fun _ _ _ _ _ _ _ => ss_no)
  | k + 1 => (fn_known (N := N__law_many) (k := 2 + k) (b := m__law_many (f__law_many k)) F hm sc__law_many (by decide) (fun _ _ _ _ _ _ us hl => match us, hl with | [_], _ => rfl) (have G__law_many := ok__law_many fr F hm G__law_inner k; (fun cdv A outer s H E hr => have hu := hr.units1; (k_one (k_ret (s_add rfl (ope x_int) (ope (x_callB imp_sum (cr_sum rfl) (by rfl) fr.sum rfl (ope (x_frz ((pe_lc (own := [("part", 1)]) rfl sc__law_many.nd (i_val (x_frz (s_callK G__law_inner rfl hr (by omega) (by rfl) (aa_val (x_var (pv 0)) aa_nil))) rfl) (blk_of (N := N__law_many) (sc := S__law_many) (by decide +kernel)) (fun s H C cl fp => (c_name (by decide) (pg_name sc__law_many.nd rfl (.inl rfl) (.inr rfl)))) (fun s H C cl fp => ts_nil) (fun s H C cl fp => (x_frz (s_callK G__law_many rfl hr (by omega) (by rfl) (aa_val (x_var (pv 1)) aa_nil))))).imp s_compI))))))))))).mono (by omega)
abbrev N__law_merge : List Str := ["one", "two", "rows", "others", "letter", "after", "found", "body"]
abbrev S__law_merge : Scope := defScope (top 32)
theorem sc__law_merge : FnScope N__law_merge ["one", "two"] S__law_merge := sc_of (by decide +kernel)
theorem ok__law_merge (fr : Frees mg) {f : Addr} {fd : FuncData} (F : FunD K "_law_merge" "_law_merge" (defArgs (top 32)) (defBody (top 32)) S__law_merge [] [] f fd) (hm : mg "_law_merge" = some (.ref f)) : ∀ k : Nat, Known P w K mg base cls (1 + k) "_law_merge" (f__law_merge k)
  | 0 => fn_known (N := N__law_merge) (k := 0) F hm sc__law_merge (by decide) (fun _ _ _ _ _ _ us hl => match us, hl with | [_, _], _ => rfl) (fun _ _ _ _ _ _ _ => ss_no)
  | k + 1 => (fn_known (N := N__law_merge) (k := 1 + k) (b := m__law_merge (f__law_merge k)) F hm sc__law_merge (by decide) (fun _ _ _ _ _ _ us hl => match us, hl with | [_, _], _ => rfl) (have G__law_merge := ok__law_merge fr F hm  k; (fun cdv A outer s H E hr => have hu := hr.units1; (k_cons (k_if (t_cmp imp_eq (op_eqA hr) (opo (pv 0)) (opo (pv 1)) rfl) (k_one (k_ret (s_val (x_var (pv 0))))) k_nil) (k_cons (k_if (t_w (w_or (t_cmp imp_ne (op_neA hr) (ope (x_ix imp_ix ix_seq (opo (pv 0)) (ope x_int) (fun _ _ => rfl))) (ope (x_ix imp_ix ix_seq (opo (pv 1)) (ope x_int) (fun _ _ => rfl))) rfl) (w_or (t_cmp (imp_in false) (op_inA hr) (ope (x_ix imp_ix ix_seq (opo (pv 0)) (ope x_int) (fun _ _ => rfl))) (ope (x_tup (a_cons (x_str (t := .«end»)) (a_cons (x_str (t := .again)) a_nil)))) rfl) (w_or1 (t_cmp imp_ne (op_neA hr) (ope (x_ix imp_ix ix_seq (opo (pv 0)) (ope x_int) (fun _ _ => rfl))) (ope (x_ix imp_ix ix_seq (opo (pv 1)) (ope x_int) (fun _ _ => rfl))) rfl))))) (k_one (k_ret (s_val x_non))) k_nil) (k_cons (k_if (t_cmp imp_eq (op_eqA hr) (ope (x_ix imp_ix ix_seq (opo (pv 0)) (ope x_int) (fun _ _ => rfl))) (ope (x_str (t := .loop))) rfl) (k_cons (k_set (ps_set sc__law_merge.nd rfl (.inl rfl) (s_callK G__law_merge rfl hr (by omega) (by rfl) (aa_val (x_ix imp_ix ix_seq (opo (pv 0)) (ope x_int) (fun _ _ => rfl)) (aa_val (x_ix imp_ix ix_seq (opo (pv 1)) (ope x_int) (fun _ _ => rfl)) aa_nil))) rfl (.inl rfl))) (k_one (k_ret (s_val (x_if (t_cmp imp_notN op_notN (opo (pv 7)) (ope x_non) rfl) (x_tup (a_cons (x_str (t := .loop)) (a_cons (x_ix imp_ix ix_seq (opo (pv 0)) (ope x_int) (fun _ _ => rfl)) (a_cons (x_var (pv 7)) a_nil)))) x_non))))) k_nil) (k_cons (k_par (by decide) (ps_par rfl sc__law_merge.nd rfl rfl (by decide) rfl rfl (pa_cons (s_newK pe_dnewK) (pa_cons (s_newK pe_dnewK) pa_nil)) rfl)) (k_cons (k_for PassesOwn.never rfl (i_val (x_ix imp_ix ix_seq (opo (pv 0)) (ope x_int) (fun _ _ => rfl)) rfl) (g_tup rfl rfl (gs_cons (g_name (pg_name sc__law_merge.nd rfl (.inl rfl) (.inl rfl))) (gs_cons (g_name (pg_name sc__law_merge.nd rfl (.inl rfl) (.inl rfl))) gs_nil)) (gsCons_len (gsCons_len gsNil_len))) (k_one (k_dput (ps_dput hu (pv 2) (x_var (pv 4)) (x_var (pv 5)) rfl)))) (k_cons (k_for PassesOwn.never rfl (i_val (x_ix imp_ix ix_seq (opo (pv 1)) (ope x_int) (fun _ _ => rfl)) rfl) (g_tup rfl rfl (gs_cons (g_name (pg_name sc__law_merge.nd rfl (.inl rfl) (.inl rfl))) (gs_cons (g_name (pg_name sc__law_merge.nd rfl (.inl rfl) (.inl rfl))) gs_nil)) (gsCons_len (gsCons_len gsNil_len))) (k_one (k_dput (ps_dput hu (pv 3) (x_var (pv 4)) (x_var (pv 5)) rfl)))) (k_cons (k_if (t_w (w_and (t_cmp imp_eq (op_eqA hr) (ope (x_ix imp_ix ix_seq (opo (pv 0)) (ope x_int) (fun _ _ => rfl))) (ope (x_str (t := .send))) rfl) (w_and1 (t_cmp imp_ne (op_neA hr) (ope (x_frz (s_callB imp_sorted (cr_sortD hr) (by rfl) fr.sorted rfl (ope (x_frz (s_keysK rfl (by rfl) fr.list rfl (pv 2))))))) (ope (x_frz (s_callB imp_sorted (cr_sortD hr) (by rfl) fr.sorted rfl (ope (x_frz (s_keysK rfl (by rfl) fr.list rfl (pv 3))))))) rfl)))) (k_one (k_ret (s_val x_non))) k_nil) (k_cons (k_set (ps_set sc__law_merge.nd rfl (.inl rfl) (s_val (x_tup a_nil)) rfl (.inl rfl))) (k_cons (k_for PassesOwn.never rfl (i_val (x_frz (s_sortSet rfl rfl (by rfl) fr.sorted (by rfl) fr.set (ope (x_frz (s_add rfl (ope (x_frz (s_keysK rfl (by rfl) fr.list rfl (pv 2)))) (ope (x_frz (s_keysK rfl (by rfl) fr.list rfl (pv 3))))))))) rfl) (g_name (pg_name sc__law_merge.nd rfl (.inl rfl) (.inl rfl))) (k_cons (k_set (ps_set sc__law_merge.nd rfl (.inl rfl) (s_val (x_if (t_ofPC (pc_din hu (x_var (pv 4)) (pv 2)) im_din rfl) (x_dget (pe_dget hu (pv 2) (x_var (pv 4)) (fun _ _ => rfl))) (x_dget (pe_dget hu (pv 3) (x_var (pv 4)) (fun _ _ => rfl))))) rfl (.inl rfl))) (k_cons (k_if (t_w (w_and (t_ofPC (pc_din hu (x_var (pv 4)) (pv 2)) im_din rfl) (w_and1 (t_ofPC (pc_din hu (x_var (pv 4)) (pv 3)) im_din rfl)))) (k_one (k_set (ps_set sc__law_merge.nd rfl (.inl rfl) (s_callK G__law_merge rfl hr (by omega) (by rfl) (aa_val (x_dget (pe_dget hu (pv 2) (x_var (pv 4)) (fun _ _ => rfl))) (aa_val (x_dget (pe_dget hu (pv 3) (x_var (pv 4)) (fun _ _ => rfl))) aa_nil))) rfl (.inl rfl)))) k_nil) (k_cons (k_if (t_cmp imp_isN op_isN (opo (pv 5)) (ope x_non) rfl) (k_one (k_ret (s_val x_non))) k_nil) (k_one (k_set (ps_set sc__law_merge.nd rfl (.inl rfl) (s_add rfl (opo (pv 6)) (ope (x_tup (a_cons (x_tup (a_cons (x_var (pv 4)) (a_cons (x_var (pv 5)) a_nil))) a_nil)))) rfl (.inl rfl)))))))) (k_one (k_ret (s_val (x_tup (a_cons (x_ix imp_ix ix_seq (opo (pv 0)) (ope x_int) (fun _ _ => rfl)) (a_cons (x_ix imp_ix ix_seq (opo (pv 0)) (ope x_int) (fun _ _ => rfl)) (a_cons (x_var (pv 6)) a_nil))))))))))))))))))).mono (by omega)
abbrev N__law_part_inner : List Str := ["value", "letter", "after"]
abbrev S__law_part_inner : Scope := defScope (top 31)
theorem sc__law_part_inner : FnScope N__law_part_inner ["value"] S__law_part_inner := sc_of (by decide +kernel)
theorem ok__law_part_inner (fr : Frees mg) {f : Addr} {fd : FuncData} (F : FunD K "_law_part_inner" "_law_part_inner" (defArgs (top 31)) (defBody (top 31)) S__law_part_inner [] [] f fd) (hm : mg "_law_part_inner" = some (.ref f)) : Known P w K mg base cls 1 "_law_part_inner" f__law_part_inner :=
  fn_known (N := N__law_part_inner) (k := 0) (b := m__law_part_inner) F hm sc__law_part_inner (by decide) (fun _ _ _ _ _ _ us hl => match us, hl with | [_], _ => rfl) (fun cdv A outer s H E hr => have hu := hr.units1; (k_cons (k_if (t_cmp (imp_in false) (op_inA hr) (ope (x_ix imp_ix ix_seq (opo (pv 0)) (ope x_int) (fun _ _ => rfl))) (ope (x_tup (a_cons (x_str (t := .send)) (a_cons (x_str (t := .hear)) a_nil)))) rfl) (k_one (k_ret ((pe_lc (own := [("letter", 1), ("after", 2)]) rfl sc__law_part_inner.nd (i_val (x_ix imp_ix ix_seq (opo (pv 0)) (ope x_int) (fun _ _ => rfl)) rfl) (blk_of (N := N__law_part_inner) (sc := S__law_part_inner) (by decide +kernel)) (fun s H C cl fp => (c_tup rfl rfl (cs_cons (c_name (by decide) (pg_name sc__law_part_inner.nd rfl (.inl rfl) (.inr rfl))) (cs_cons (c_name (by decide) (pg_name sc__law_part_inner.nd rfl (.inl rfl) (.inr rfl))) cs_nil)) (gsCons_len (gsCons_len gsNil_len)))) (fun s H C cl fp => ts_nil) (fun s H C cl fp => (x_var (pv 2)))).imp s_compI))) k_nil) (k_one (k_ret (s_val (x_if (t_cmp imp_eq (op_eqA hr) (ope (x_ix imp_ix ix_seq (opo (pv 0)) (ope x_int) (fun _ _ => rfl))) (ope (x_str (t := .loop))) rfl) (x_frz (s_lst (a_cons (x_ix imp_ix ix_seq (opo (pv 0)) (ope x_int) (fun _ _ => rfl)) a_nil))) (x_frz (s_lst a_nil))))))))
abbrev N__law_goes : List Str := ["value", "name", "part"]
abbrev S__law_goes : Scope := defScope (top 43)
theorem sc__law_goes : FnScope N__law_goes ["value", "name"] S__law_goes := sc_of (by decide +kernel)
theorem ok__law_goes (fr : Frees mg) {f : Addr} {fd : FuncData} (F : FunD K "_law_goes" "_law_goes" (defArgs (top 43)) (defBody (top 43)) S__law_goes [] [] f fd) (hm : mg "_law_goes" = some (.ref f)) (G__law_part_inner : Known P w K mg base cls 1 "_law_part_inner" f__law_part_inner) : ∀ k : Nat, Known P w K mg base cls (2 + k) "_law_goes" (f__law_goes k)
  | 0 => fn_known (N := N__law_goes) (k := 1) F hm sc__law_goes (by decide) (fun _ _ _ _ _ _ us hl => match us, hl with | [_, _], _ => rfl) (fun _ _ _ _ _ _ _ => ss_no)
  | k + 1 => (fn_known (N := N__law_goes) (k := 2 + k) (b := m__law_goes (f__law_goes k)) F hm sc__law_goes (by decide) (fun _ _ _ _ _ _ us hl => match us, hl with | [_, _], _ => rfl) (have G__law_goes := ok__law_goes fr F hm G__law_part_inner k; (fun cdv A outer s H E hr => have hu := hr.units1; (k_cons (k_if (t_cmp imp_eq (op_eqA hr) (ope (x_ix imp_ix ix_seq (opo (pv 0)) (ope x_int) (fun _ _ => rfl))) (ope (x_str (t := .again))) rfl) (k_one (k_ret (s_val (x_cmp imp_eq (op_eqA hr) (ope (x_ix imp_ix ix_seq (opo (pv 0)) (ope x_int) (fun _ _ => rfl))) (opo (pv 1)) rfl)))) k_nil) (k_cons (k_if (t_w (w_and (t_cmp imp_eq (op_eqA hr) (ope (x_ix imp_ix ix_seq (opo (pv 0)) (ope x_int) (fun _ _ => rfl))) (ope (x_str (t := .loop))) rfl) (w_and1 (t_cmp imp_eq (op_eqA hr) (ope (x_ix imp_ix ix_seq (opo (pv 0)) (ope x_int) (fun _ _ => rfl))) (opo (pv 1)) rfl)))) (k_one (k_ret (s_val x_bl))) k_nil) (k_one (k_ret (s_val (x_cmp (imp_cmp _) op_gt (ope (x_callB imp_len call_len_seq (by rfl) fr.len rfl (ope (x_frz ((pe_lc (own := [("part", 2)]) rfl sc__law_goes.nd (i_val (x_frz (s_callK G__law_part_inner rfl hr (by omega) (by rfl) (aa_val (x_var (pv 0)) aa_nil))) rfl) (blk_of (N := N__law_goes) (sc := S__law_goes) (by decide +kernel)) (fun s H C cl fp => (c_name (by decide) (pg_name sc__law_goes.nd rfl (.inl rfl) (.inr rfl)))) (fun s H C cl fp => (ts_one (t_val (x_frz (s_callK G__law_goes rfl hr (by omega) (by rfl) (aa_val (x_var (pv 2)) (aa_val (x_var (pv 1)) aa_nil))))))) (fun s H C cl fp => x_int)).imp s_compI))))) (ope x_int) rfl))))))))).mono (by omega)
abbrev N__law_part : List Str := ["talk", "role", "number", "rows", "wrong", "here", "letter", "after", "whole", "part", "one", "first", "two", "second", "ways", "out", "more", "body", "name"]
abbrev S__law_part : Scope := defScope (top 34)
theorem sc__law_part : FnScope N__law_part ["talk", "role", "number"] S__law_part := sc_of (by decide +kernel)
theorem ok__law_part (fr : Frees mg) {f : Addr} {fd : FuncData} (F : FunD K "_law_part" "_law_part" (defArgs (top 34)) (defBody (top 34)) S__law_part [] [] f fd) (hm : mg "_law_part" = some (.ref f)) (G__law_ways_out : Known P w K mg base cls 41 "_law_ways_out" (f__law_ways_out 40)) (G__law_roles : Known P w K mg base cls 42 "_law_roles" (f__law_roles 40)) (G__law_many : Known P w K mg base cls 42 "_law_many" (f__law_many 40)) (G__law_merge : Known P w K mg base cls 41 "_law_merge" (f__law_merge 40)) (G__law_goes : Known P w K mg base cls 42 "_law_goes" (f__law_goes 40)) : ∀ k : Nat, Known P w K mg base cls (43 + k) "_law_part" (f__law_part k)
  | 0 => fn_known (N := N__law_part) (k := 42) F hm sc__law_part (by decide) (fun _ _ _ _ _ _ us hl => match us, hl with | [_, _, _], _ => rfl) (fun _ _ _ _ _ _ _ => ss_no)
  | k + 1 => (fn_known (N := N__law_part) (k := 43 + k) (b := m__law_part (f__law_part k)) F hm sc__law_part (by decide) (fun _ _ _ _ _ _ us hl => match us, hl with | [_, _, _], _ => rfl) (have G__law_part := ok__law_part fr F hm G__law_ways_out G__law_roles G__law_many G__law_merge G__law_goes k; (fun cdv A outer s H E hr => have hu := hr.units1; (k_cons (k_if (t_cmp (imp_in false) (op_inA hr) (ope (x_ix imp_ix ix_seq (opo (pv 0)) (ope x_int) (fun _ _ => rfl))) (ope (x_tup (a_cons (x_str (t := .«end»)) (a_cons (x_str (t := .again)) a_nil)))) rfl) (k_one (k_ret (s_val (x_tup (a_cons (x_var (pv 0)) (a_cons (x_frz (s_lst a_nil)) a_nil)))))) k_nil) (k_cons (k_if (t_cmp imp_eq (op_eqA hr) (ope (x_ix imp_ix ix_seq (opo (pv 0)) (ope x_int) (fun _ _ => rfl))) (ope (x_str (t := .beside))) rfl) (k_cons (k_asg (ps_asg (x_frz (s_callK G__law_part rfl hr (by omega) (by rfl) (aa_val (x_ix imp_ix ix_seq (opo (pv 0)) (ope x_int) (fun _ _ => rfl)) (aa_val (x_var (pv 1)) (aa_val (x_frz (s_add rfl (opo (pv 2)) (ope x_int))) aa_nil))))) (g_tup rfl rfl (gs_cons (g_name (pg_name sc__law_part.nd rfl (.inl rfl) (.inl rfl))) (gs_cons (g_name (pg_name sc__law_part.nd rfl (.inl rfl) (.inl rfl))) gs_nil)) (gsCons_len (gsCons_len gsNil_len))))) (k_cons (k_asg (ps_asg (x_frz (s_callK G__law_part rfl hr (by omega) (by rfl) (aa_val (x_ix imp_ix ix_seq (opo (pv 0)) (ope x_int) (fun _ _ => rfl)) (aa_val (x_var (pv 1)) (aa_val (x_frz (s_add rfl (ope (x_frz (s_add rfl (opo (pv 2)) (ope x_int)))) (ope (x_frz (s_callK G__law_many rfl hr (by omega) (by rfl) (aa_val (x_ix imp_ix ix_seq (opo (pv 0)) (ope x_int) (fun _ _ => rfl)) aa_nil)))))) aa_nil))))) (g_tup rfl rfl (gs_cons (g_name (pg_name sc__law_part.nd rfl (.inl rfl) (.inl rfl))) (gs_cons (g_name (pg_name sc__law_part.nd rfl (.inl rfl) (.inl rfl))) gs_nil)) (gsCons_len (gsCons_len gsNil_len))))) (k_one (k_ret (s_val (x_tup (a_cons (x_if (t_cmp (imp_in false) (op_inA hr) (opo (pv 1)) (ope (x_frz (s_callK G__law_roles rfl hr (by omega) (by rfl) (aa_val (x_ix imp_ix ix_seq (opo (pv 0)) (ope x_int) (fun _ _ => rfl)) aa_nil)))) rfl) (x_var (pv 12)) (x_var (pv 10))) (a_cons (x_frz (s_add rfl (opo (pv 11)) (opo (pv 13)))) a_nil)))))))) k_nil) (k_cons (k_if (t_cmp imp_eq (op_eqA hr) (ope (x_ix imp_ix ix_seq (opo (pv 0)) (ope x_int) (fun _ _ => rfl))) (ope (x_str (t := .loop))) rfl) (k_cons (k_if (t_cmp (imp_in false) (op_inA hr) (opo (pv 1)) (ope (x_frz (s_callK G__law_roles rfl hr (by omega) (by rfl) (aa_val (x_var (pv 0)) aa_nil)))) rfl) (k_cons (k_asg (ps_asg (x_frz (s_callK G__law_part rfl hr (by omega) (by rfl) (aa_val (x_ix imp_ix ix_seq (opo (pv 0)) (ope x_int) (fun _ _ => rfl)) (aa_val (x_var (pv 1)) (aa_val (x_frz (s_add rfl (opo (pv 2)) (ope x_int))) aa_nil))))) (g_tup rfl rfl (gs_cons (g_name (pg_name sc__law_part.nd rfl (.inl rfl) (.inl rfl))) (gs_cons (g_name (pg_name sc__law_part.nd rfl (.inl rfl) (.inl rfl))) gs_nil)) (gsCons_len (gsCons_len gsNil_len))))) (k_one (k_ret (s_val (x_tup (a_cons (x_if (t_w (w_and (t_cmp imp_notN op_notN (opo (pv 17)) (ope x_non) rfl) (w_and1 (t_val (x_frz (s_callK G__law_goes rfl hr (by omega) (by rfl) (aa_val (x_var (pv 17)) (aa_val (x_ix imp_ix ix_seq (opo (pv 0)) (ope x_int) (fun _ _ => rfl)) aa_nil)))))))) (x_tup (a_cons (x_str (t := .loop)) (a_cons (x_ix imp_ix ix_seq (opo (pv 0)) (ope x_int) (fun _ _ => rfl)) (a_cons (x_var (pv 17)) a_nil)))) (x_var (pv 17))) (a_cons (x_var (pv 4)) a_nil))))))) k_nil) (k_cons (k_set (ps_set sc__law_part.nd rfl (.inl rfl) (s_callK G__law_ways_out rfl hr (by omega) (by rfl) (aa_val (x_ix imp_ix ix_seq (opo (pv 0)) (ope x_int) (fun _ _ => rfl)) aa_nil)) rfl (.inl rfl))) (k_cons (k_setT s_compI (ps_setLc (own := [("name", 18)]) rfl sc__law_part.nd rfl rfl rfl (i_val (x_var (pv 14)) rfl) (blk_of (N := N__law_part) (sc := S__law_part) (by decide +kernel)) (fun s H C cl fp => (c_name (by decide) (pg_name sc__law_part.nd rfl (.inl rfl) (.inr rfl)))) (fun s H C cl fp => (ts_one (t_cmp (imp_in true) (op_niA hr) (opo (pv 18)) (ope (x_tup (a_cons x_neg (a_cons (x_ix imp_ix ix_seq (opo (pv 0)) (ope x_int) (fun _ _ => rfl)) a_nil)))) rfl))) (fun s H C cl fp => (x_var (pv 18))))) (k_cons (k_if (t_cmp imp_eq (op_eqA hr) (opo (pv 15)) (ope (x_frz (s_lst a_nil))) rfl) (k_one (k_ret (s_val (x_tup (a_cons (x_tup (a_cons (x_str (t := .«end»)) a_nil)) (a_cons (x_frz (s_lst a_nil)) a_nil)))))) k_nil) (k_one (k_ret (s_val (x_if (t_cmp imp_eq (op_eqA hr) (opo (pv 14)) (ope (x_frz (s_lst (a_cons (x_ix imp_ix ix_seq (opo (pv 15)) (ope x_int) (fun _ _ => rfl)) a_nil)))) rfl) (x_tup (a_cons (x_tup (a_cons (x_str (t := .again)) (a_cons (x_ix imp_ix ix_seq (opo (pv 15)) (ope x_int) (fun _ _ => rfl)) a_nil))) (a_cons (x_frz (s_lst a_nil)) a_nil))) (x_tup (a_cons x_non (a_cons (x_frz (s_lst (a_cons (x_var (pv 2)) a_nil))) a_nil))))))))))) k_nil) (k_cons (k_par (by decide) (ps_par rfl sc__law_part.nd rfl rfl (by decide) rfl rfl (pa_cons (s_lst a_nil) (pa_cons (s_lst a_nil) pa_nil)) rfl)) (k_cons (k_set (ps_set sc__law_part.nd rfl (.inl rfl) (s_val (x_var (pv 2))) rfl (.inl rfl))) (k_cons (k_set (ps_set sc__law_part.nd rfl (.inl rfl) (s_add rfl (opo (pv 2)) (ope x_int)) rfl (.inl rfl))) (k_cons (k_for PassesOwn.never rfl (i_val (x_ix imp_ix ix_seq (opo (pv 0)) (ope x_int) (fun _ _ => rfl)) rfl) (g_tup rfl rfl (gs_cons (g_name (pg_name sc__law_part.nd rfl (.inl rfl) (.inl rfl))) (gs_cons (g_name (pg_name sc__law_part.nd rfl (.inl rfl) (.inl rfl))) gs_nil)) (gsCons_len (gsCons_len gsNil_len))) (k_cons (k_asg (ps_asg (x_frz (s_callK G__law_part rfl hr (by omega) (by rfl) (aa_val (x_var (pv 7)) (aa_val (x_var (pv 1)) (aa_val (x_var (pv 2)) aa_nil))))) (g_tup rfl rfl (gs_cons (g_name (pg_name sc__law_part.nd rfl (.inl rfl) (.inl rfl))) (gs_cons (g_name (pg_name sc__law_part.nd rfl (.inl rfl) (.inl rfl))) gs_nil)) (gsCons_len (gsCons_len gsNil_len))))) (k_cons (let h := (x_tup (a_cons (x_var (pv 6)) (a_cons (x_var (pv 9)) a_nil))); k_app (pv 3) h rfl rfl (pe_bm PySem.F.plainAttrs_list PySem.F.slot_list_append PySem.F.type_list_append mt_append (pv 3) (pa_cons h pa_nil))) (k_cons (k_set (ps_set sc__law_part.nd rfl (.inl rfl) (s_add rfl (opo (pv 4)) (opo (pv 16))) rfl (.inl rfl))) (k_one (k_set (ps_set sc__law_part.nd rfl (.inl rfl) (s_add rfl (opo (pv 2)) (ope (x_frz (s_callK G__law_many rfl hr (by omega) (by rfl) (aa_val (x_var (pv 7)) aa_nil))))) rfl (.inl rfl)))))))) (k_cons (k_if (t_cmp (imp_cmp _) op_gt (ope (x_callB imp_len call_len_seq (by rfl) fr.len rfl (ope (x_frz ((pe_lc (own := [("letter", 6), ("part", 9)]) rfl sc__law_part.nd (i_val (x_var (pv 3)) rfl) (blk_of (N := N__law_part) (sc := S__law_part) (by decide +kernel)) (fun s H C cl fp => (c_tup rfl rfl (cs_cons (c_name (by decide) (pg_name sc__law_part.nd rfl (.inl rfl) (.inr rfl))) (cs_cons (c_name (by decide) (pg_name sc__law_part.nd rfl (.inl rfl) (.inr rfl))) cs_nil)) (gsCons_len (gsCons_len gsNil_len)))) (fun s H C cl fp => (ts_one (t_cmp imp_isN op_isN (opo (pv 9)) (ope x_non) rfl))) (fun s H C cl fp => x_int)).imp s_compI))))) (ope x_int) rfl) (k_one (k_ret (s_val (x_tup (a_cons x_non (a_cons (x_var (pv 4)) a_nil)))))) k_nil) (k_cons (k_if (t_cmp (imp_in false) (op_inA hr) (opo (pv 1)) (ope (x_tup (a_cons (x_ix imp_ix ix_seq (opo (pv 0)) (ope x_int) (fun _ _ => rfl)) (a_cons (x_ix imp_ix ix_seq (opo (pv 0)) (ope x_int) (fun _ _ => rfl)) a_nil)))) rfl) (k_one (k_ret (s_val (x_tup (a_cons (x_if (t_cmp imp_eq (op_eqA hr) (opo (pv 1)) (ope (x_ix imp_ix ix_seq (opo (pv 0)) (ope x_int) (fun _ _ => rfl))) rfl) (x_tup (a_cons (x_str (t := .send)) (a_cons (x_ix imp_ix ix_seq (opo (pv 0)) (ope x_int) (fun _ _ => rfl)) (a_cons (x_callTy imp_tupOf call_tupM (by rfl) fr.tuple rfl (opo (pv 3))) a_nil)))) (x_tup (a_cons (x_str (t := .hear)) (a_cons (x_ix imp_ix ix_seq (opo (pv 0)) (ope x_int) (fun _ _ => rfl)) (a_cons (x_callTy imp_tupOf call_tupM (by rfl) fr.tuple rfl (opo (pv 3))) a_nil))))) (a_cons (x_var (pv 4)) a_nil)))))) k_nil) (k_cons (k_set (ps_set sc__law_part.nd rfl (.inl rfl) (s_val (x_ix imp_ix ix_seq (ope (x_ix imp_ix ix_seq (opo (pv 3)) (ope x_int) (fun _ _ => rfl))) (ope x_int) (fun _ _ => rfl))) rfl (.inl rfl))) (k_cons (k_for PassesOwn.never rfl (i_val (x_frz (s_slS rfl (opo (pv 3)) (b_some x_int) b_none)) rfl) (g_tup rfl rfl (gs_cons (g_name (pg_name sc__law_part.nd rfl (.inl rfl) (.inl rfl))) (gs_cons (g_name (pg_name sc__law_part.nd rfl (.inl rfl) (.inl rfl))) gs_nil)) (gsCons_len (gsCons_len gsNil_len))) (k_one (k_set (ps_set sc__law_part.nd rfl (.inl rfl) (s_val (x_if (t_cmp imp_notN op_notN (opo (pv 8)) (ope x_non) rfl) (x_frz (s_callK G__law_merge rfl hr (by omega) (by rfl) (aa_val (x_var (pv 8)) (aa_val (x_var (pv 9)) aa_nil)))) x_non)) rfl (.inl rfl))))) (k_one (k_ret (s_val (x_tup (a_cons (x_var (pv 8)) (a_cons (x_frz (s_add rfl (opo (pv 4)) (ope (x_if (t_cmp imp_isN op_isN (opo (pv 8)) (ope x_non) rfl) (x_frz (s_lst (a_cons (x_var (pv 5)) a_nil))) (x_frz (s_lst a_nil)))))) a_nil)))))))))))))))))))).mono (by omega)
abbrev N__law_parted : List Str := ["talk", "role", "part", "wrong"]
abbrev S__law_parted : Scope := defScope (top 35)
theorem sc__law_parted : FnScope N__law_parted ["talk", "role"] S__law_parted := sc_of (by decide +kernel)
theorem ok__law_parted (fr : Frees mg) {f : Addr} {fd : FuncData} (F : FunD K "_law_parted" "_law_parted" (defArgs (top 35)) (defBody (top 35)) S__law_parted [] [] f fd) (hm : mg "_law_parted" = some (.ref f)) (G__law_part : Known P w K mg base cls 83 "_law_part" (f__law_part 40)) : Known P w K mg base cls 84 "_law_parted" f__law_parted :=
  fn_known (N := N__law_parted) (k := 83) (b := m__law_parted) F hm sc__law_parted (by decide) (fun _ _ _ _ _ _ us hl => match us, hl with | [_, _], _ => rfl) (fun cdv A outer s H E hr => have hu := hr.units1; (k_cons (k_asg (ps_asg (x_frz (s_callK G__law_part rfl hr (by omega) (by rfl) (aa_val (x_var (pv 0)) (aa_val (x_var (pv 1)) (aa_val x_int aa_nil))))) (g_tup rfl rfl (gs_cons (g_name (pg_name sc__law_parted.nd rfl (.inl rfl) (.inl rfl))) (gs_cons (g_name (pg_name sc__law_parted.nd rfl (.inl rfl) (.inl rfl))) gs_nil)) (gsCons_len (gsCons_len gsNil_len))))) (k_one (k_ret (s_val (x_if (t_cmp imp_eq (op_eqA hr) (opo (pv 3)) (ope (x_frz (s_lst a_nil))) rfl) (x_tup (a_cons (x_var (pv 2)) (a_cons x_non a_nil))) (x_tup (a_cons x_non (a_cons (x_callB imp_min (cr_min rfl) (by rfl) fr.min rfl (opo (pv 3))) a_nil)))))))))
abbrev N__law_parts : List Str := ["talk", "found", "role"]
abbrev S__law_parts : Scope := defScope (top 36)
theorem sc__law_parts : FnScope N__law_parts ["talk"] S__law_parts := sc_of (by decide +kernel)
theorem ok__law_parts (fr : Frees mg) {f : Addr} {fd : FuncData} (F : FunD K "_law_parts" "_law_parts" (defArgs (top 36)) (defBody (top 36)) S__law_parts [] [] f fd) (hm : mg "_law_parts" = some (.ref f)) (G__law_parted : Known P w K mg base cls 84 "_law_parted" f__law_parted) : Known P w K mg base cls 85 "_law_parts" f__law_parts :=
  fn_known (N := N__law_parts) (k := 84) (b := m__law_parts) F hm sc__law_parts (by decide) (fun _ _ _ _ _ _ us hl => match us, hl with | [_], _ => rfl) (fun cdv A outer s H E hr => have hu := hr.units1; (k_cons (k_setT s_compI (ps_setLc (own := [("role", 2)]) rfl sc__law_parts.nd rfl rfl rfl (i_r1 (by rfl) fr.range x_int) (blk_of (N := N__law_parts) (sc := S__law_parts) (by decide +kernel)) (fun s H C cl fp => (c_name (by decide) (pg_name sc__law_parts.nd rfl (.inl rfl) (.inr rfl)))) (fun s H C cl fp => ts_nil) (fun s H C cl fp => (x_ix imp_ix ix_seq (ope (x_frz (s_callK G__law_parted rfl hr (by omega) (by rfl) (aa_val (x_var (pv 0)) (aa_val (x_var (pv 2)) aa_nil))))) (ope x_int) (fun _ _ => rfl))))) (k_one (k_ret (s_val (x_if (t_cmp (imp_in true) (op_niA hr) (ope x_non) (opo (pv 1)) rfl) (x_var (pv 1)) x_non))))))
abbrev N__law_machines : List Str := ["talk", "part"]
abbrev S__law_machines : Scope := defScope (top 39)
theorem sc__law_machines : FnScope N__law_machines ["talk"] S__law_machines := sc_of (by decide +kernel)
theorem ok__law_machines (fr : Frees mg) {f : Addr} {fd : FuncData} (F : FunD K "_law_machines" "_law_machines" (defArgs (top 39)) (defBody (top 39)) S__law_machines [] [] f fd) (hm : mg "_law_machines" = some (.ref f)) (G__law_machine : Known P w K mg base cls 43 "_law_machine" f__law_machine) (G__law_parts : Known P w K mg base cls 85 "_law_parts" f__law_parts) : Known P w K mg base cls 86 "_law_machines" f__law_machines :=
  fn_known (N := N__law_machines) (k := 85) (b := m__law_machines) F hm sc__law_machines (by decide) (fun _ _ _ _ _ _ us hl => match us, hl with | [_], _ => rfl) (fun cdv A outer s H E hr => have hu := hr.units1; (k_one (k_ret (s_val (x_callTy imp_tupOf call_tupM (by rfl) fr.tuple rfl (ope (x_frz ((pe_lc (own := [("part", 1)]) rfl sc__law_machines.nd (i_val (x_frz (s_callK G__law_parts rfl hr (by omega) (by rfl) (aa_val (x_var (pv 0)) aa_nil))) rfl) (blk_of (N := N__law_machines) (sc := S__law_machines) (by decide +kernel)) (fun s H C cl fp => (c_name (by decide) (pg_name sc__law_machines.nd rfl (.inl rfl) (.inr rfl)))) (fun s H C cl fp => ts_nil) (fun s H C cl fp => (x_frz (s_callK G__law_machine rfl hr (by omega) (by rfl) (aa_val (x_var (pv 1)) aa_nil))))).imp s_compI))))))))
abbrev N__law_spread : List Str := ["cell", "mixed", "total", "k"]
abbrev S__law_spread : Scope := defScope (top 20)
theorem sc__law_spread : FnScope N__law_spread ["cell"] S__law_spread := sc_of (by decide +kernel)
theorem ok__law_spread (fr : Frees mg) {f : Addr} {fd : FuncData} (F : FunD K "_law_spread" "_law_spread" (defArgs (top 20)) (defBody (top 20)) S__law_spread [] [] f fd) (hm : mg "_law_spread" = some (.ref f)) : Known P w K mg base cls 1 "_law_spread" f__law_spread :=
  fn_known (N := N__law_spread) (k := 0) (b := m__law_spread) F hm sc__law_spread (by decide) (fun _ _ _ _ _ _ us hl => match us, hl with | [_], _ => rfl) (fun cdv A outer s H E hr => have hu := hr.units1; (k_cons (k_set (ps_set sc__law_spread.nd rfl (.inl rfl) (s_mod (ope (x_callTy imp_intOf call_int1 (by rfl) fr.int rfl (opo (pv 0)))) (ope x_int)) rfl (.inl rfl))) (k_cons (k_set (ps_set sc__law_spread.nd rfl (.inl rfl) (s_val x_int) rfl (.inl rfl))) (k_cons (k_for PassesOwn.never rfl (i_r1 (by rfl) fr.range x_int) (g_name (pg_name sc__law_spread.nd rfl (.inl rfl) (.inl rfl))) (k_cons (k_set (ps_set sc__law_spread.nd rfl (.inl rfl) (s_mod (ope (x_callTy imp_intOf call_int1 (by rfl) fr.int rfl (ope (x_frz (s_add rfl (ope (x_frz (s_add rfl (ope (x_frz (s_mul rfl (opo (pv 1)) (ope x_int)))) (ope x_int)))) (opo (pv 3))))))) (ope x_int)) rfl (.inl rfl))) (k_one (k_set (ps_set sc__law_spread.nd rfl (.inl rfl) (s_add rfl (ope (x_frz (s_mul rfl (opo (pv 2)) (ope x_int)))) (opo (pv 1))) rfl (.inl rfl)))))) (k_one (k_ret (s_val (x_var (pv 2)))))))))
abbrev N__law_draw : List Str := ["pool", "many", "value", "cell", "mixed"]
abbrev S__law_draw : Scope := defScope (top 21)
theorem sc__law_draw : FnScope N__law_draw ["pool", "many"] S__law_draw := sc_of (by decide +kernel)
theorem ok__law_draw (fr : Frees mg) {f : Addr} {fd : FuncData} (F : FunD K "_law_draw" "_law_draw" (defArgs (top 21)) (defBody (top 21)) S__law_draw [] [] f fd) (hm : mg "_law_draw" = some (.ref f)) (G__law_spread : Known P w K mg base cls 1 "_law_spread" f__law_spread) : Known P w K mg base cls 2 "_law_draw" f__law_draw :=
  fn_known (N := N__law_draw) (k := 1) (b := m__law_draw) F hm sc__law_draw (by decide) (fun _ _ _ _ _ _ us hl => match us, hl with | [_, _], _ => rfl) (fun cdv A outer s H E hr => have hu := hr.units1; (k_cons (k_if (t_w (w_and (t_cmp (imp_cmp _) op_le (ope (x_ix imp_ix ix_seq (opo (pv 0)) (ope x_int) (fun _ _ => rfl))) (ope x_int) rfl) (w_and1 (t_cmp (imp_cmp _) op_lt (ope (x_ix imp_ix ix_seq (opo (pv 0)) (ope x_int) (fun _ _ => rfl))) (ope (x_callB imp_len call_len_seq (by rfl) fr.len rfl (ope (x_ix imp_ix ix_seq (opo (pv 0)) (ope x_int) (fun _ _ => rfl))))) rfl)))) (k_cons (k_set (ps_set sc__law_draw.nd rfl (.inl rfl) (s_val (x_ix imp_ix ix_seq (ope (x_ix imp_ix ix_seq (opo (pv 0)) (ope x_int) (fun _ _ => rfl))) (ope (x_ix imp_ix ix_seq (opo (pv 0)) (ope x_int) (fun _ _ => rfl))) (fun _ _ => rfl))) rfl (.inl rfl))) (k_cons (k_put (ps_asg (x_frz (s_add rfl (ope (x_ix imp_ix ix_seq (opo (pv 0)) (ope x_int) (fun _ _ => rfl))) (ope x_int))) (pg_sub (pv 0) x_int set_list))) (k_cons (k_put (ps_asg (x_var (pv 3)) (pg_sub (pv 0) x_int set_list))) (k_one (k_if (t_cmp (imp_cmp _) op_lt (opo (pv 3)) (ope x_int) rfl) (k_one (k_put (ps_asg (x_frz (s_callK G__law_spread rfl hr (by omega) (by rfl) (aa_val (x_var (pv 3)) aa_nil))) (pg_sub (pv 0) x_int set_list)))) k_nil))))) k_nil) (k_cons (k_put (ps_asg (x_frz (s_add rfl (ope (x_ix imp_ix ix_seq (opo (pv 0)) (ope x_int) (fun _ _ => rfl))) (ope x_int))) (pg_sub (pv 0) x_int set_list))) (k_cons (k_if (t_cmp (imp_cmp _) op_le (ope (x_ix imp_ix ix_seq (opo (pv 0)) (ope x_int) (fun _ _ => rfl))) (ope x_int) rfl) (k_cons (k_set (ps_set sc__law_draw.nd rfl (.inl rfl) (s_mod (ope (x_callTy imp_intOf call_int1 (by rfl) fr.int rfl (ope (x_frz (s_add rfl (ope (x_frz (s_add rfl (ope (x_frz (s_mul rfl (ope (x_ix imp_ix ix_seq (opo (pv 0)) (ope x_int) (fun _ _ => rfl))) (ope x_int)))) (ope (x_frz (s_mul rfl (ope (x_ix imp_ix ix_seq (opo (pv 0)) (ope x_int) (fun _ _ => rfl))) (ope x_int))))))) (ope x_int)))))) (ope x_int)) rfl (.inl rfl))) (k_cons (k_set (ps_set sc__law_draw.nd rfl (.inl rfl) (s_mod (ope (x_callTy imp_intOf call_int1 (by rfl) fr.int rfl (ope (x_frz (s_add rfl (ope (x_frz (s_mul rfl (opo (pv 4)) (ope x_int)))) (ope (x_ix imp_ix ix_seq (opo (pv 0)) (ope x_int) (fun _ _ => rfl)))))))) (ope x_int)) rfl (.inl rfl))) (k_one (k_ret (s_mod (ope (x_frz (s_div (opo (pv 4)) (ope x_int)))) (opo (pv 1))))))) k_nil) (k_cons (k_set (ps_set sc__law_draw.nd rfl (.inl rfl) (s_mod (ope (x_callTy imp_intOf call_int1 (by rfl) fr.int rfl (ope (x_ix imp_ix ix_seq (opo (pv 0)) (ope x_int) (fun _ _ => rfl))))) (opo (pv 1))) rfl (.inl rfl))) (k_cons (k_put (ps_asg (x_frz (s_div (ope (x_ix imp_ix ix_seq (opo (pv 0)) (ope x_int) (fun _ _ => rfl))) (opo (pv 1)))) (pg_sub (pv 0) x_int set_list))) (k_one (k_ret (s_val (x_var (pv 2)))))))))))
abbrev N__law_pick : List Str := ["pool", "items"]
abbrev S__law_pick : Scope := defScope (top 22)
theorem sc__law_pick : FnScope N__law_pick ["pool", "items"] S__law_pick := sc_of (by decide +kernel)
theorem ok__law_pick (fr : Frees mg) {f : Addr} {fd : FuncData} (F : FunD K "_law_pick" "_law_pick" (defArgs (top 22)) (defBody (top 22)) S__law_pick [] [] f fd) (hm : mg "_law_pick" = some (.ref f)) (G__law_draw : Known P w K mg base cls 2 "_law_draw" f__law_draw) : Known P w K mg base cls 3 "_law_pick" f__law_pick :=
  fn_known (N := N__law_pick) (k := 2) (b := m__law_pick) F hm sc__law_pick (by decide) (fun _ _ _ _ _ _ us hl => match us, hl with | [_, _], _ => rfl) (fun cdv A outer s H E hr => have hu := hr.units1; (k_one (k_ret (s_val (x_ix imp_ix ix_seq (opo (pv 1)) (ope (x_frz (s_callK G__law_draw rfl hr (by omega) (by rfl) (aa_io (pv 0) (aa_val (x_callB imp_len call_len_seq (by rfl) fr.len rfl (opo (pv 1))) aa_nil))))) (fun _ _ => rfl))))))
abbrev N__law_shuffled : List Str := ["pool", "items", "left", "found"]
abbrev S__law_shuffled : Scope := defScope (top 23)
theorem sc__law_shuffled : FnScope N__law_shuffled ["pool", "items"] S__law_shuffled := sc_of (by decide +kernel)
theorem ok__law_shuffled (fr : Frees mg) {f : Addr} {fd : FuncData} (F : FunD K "_law_shuffled" "_law_shuffled" (defArgs (top 23)) (defBody (top 23)) S__law_shuffled [] [] f fd) (hm : mg "_law_shuffled" = some (.ref f)) (G__law_draw : Known P w K mg base cls 2 "_law_draw" f__law_draw) : Known P w K mg base cls 3 "_law_shuffled" f__law_shuffled :=
  fn_known (N := N__law_shuffled) (k := 2) (b := m__law_shuffled) F hm sc__law_shuffled (by decide) (fun _ _ _ _ _ _ us hl => match us, hl with | [_, _], _ => rfl) (fun cdv A outer s H E hr => have hu := hr.units1; (k_cons (k_set (ps_set sc__law_shuffled.nd rfl (.inl rfl) (s_callTy imp_listOf call_list_of (by rfl) fr.list rfl (opo (pv 1))) rfl (.inl rfl))) (k_cons (k_set (ps_set sc__law_shuffled.nd rfl (.inl rfl) (s_lst a_nil) rfl (.inl rfl))) (k_cons (k_while PassesOwn.never (t_cmp imp_ne (op_neA hr) (opo (pv 2)) (ope (x_frz (s_lst a_nil))) rfl) (k_one (let h := (x_pop (pe_bm PySem.F.plainAttrs_list PySem.F.slot_list_pop PySem.F.type_list_pop mt_popAt (pv 2) (pa_cons (x_frz (s_callK G__law_draw rfl hr (by omega) (by rfl) (aa_io (pv 0) (aa_val (x_callB imp_len call_len_seq (by rfl) fr.len rfl (opo (pv 2))) aa_nil)))) pa_nil))); k_app (pv 3) h rfl rfl (pe_bm PySem.F.plainAttrs_list PySem.F.slot_list_append PySem.F.type_list_append mt_append (pv 3) (pa_cons h pa_nil))))) (k_one (k_ret (s_val (x_var (pv 3)))))))))
abbrev N__law_draw_talk : List Str := ["pool", "deep", "names", "bare", "taken", "roles", "turn", "order", "many", "letters", "free", "name", "one", "letter"]
abbrev S__law_draw_talk : Scope := defScope (top 27)
theorem sc__law_draw_talk : FnScope N__law_draw_talk ["pool", "deep", "names", "bare", "taken", "roles"] S__law_draw_talk := sc_of (by decide +kernel)
theorem ok__law_draw_talk (fr : Frees mg) {f : Addr} {fd : FuncData} (F : FunD K "_law_draw_talk" "_law_draw_talk" (defArgs (top 27)) (defBody (top 27)) S__law_draw_talk [] [] f fd) (hm : mg "_law_draw_talk" = some (.ref f)) (G__law_draw : Known P w K mg base cls 2 "_law_draw" f__law_draw) (G__law_shuffled : Known P w K mg base cls 3 "_law_shuffled" f__law_shuffled) (G__law_pick : Known P w K mg base cls 3 "_law_pick" f__law_pick) : ∀ k : Nat, Known P w K mg base cls (4 + k) "_law_draw_talk" (f__law_draw_talk k)
  | 0 => fn_known (N := N__law_draw_talk) (k := 3) F hm sc__law_draw_talk (by decide) (fun _ _ _ _ _ _ us hl => match us, hl with | [_, _, _, _, _, _], _ => rfl) (fun _ _ _ _ _ _ _ => ss_no)
  | k + 1 => (fn_known (N := N__law_draw_talk) (k := 4 + k) (b := m__law_draw_talk (f__law_draw_talk k)) F hm sc__law_draw_talk (by decide) (fun _ _ _ _ _ _ us hl => match us, hl with | [_, _, _, _, _, _], _ => rfl) (have G__law_draw_talk := ok__law_draw_talk fr F hm G__law_draw G__law_shuffled G__law_pick k; (fun cdv A outer s H E hr => have hu := hr.units1; (k_cons (k_set (ps_set sc__law_draw_talk.nd rfl (.inl rfl) (s_callK G__law_draw rfl hr (by omega) (by rfl) (aa_io (pv 0) (aa_val x_int aa_nil))) rfl (.inl rfl))) (k_cons (k_if (t_w (w_or (t_cmp imp_eq (op_eqA hr) (opo (pv 1)) (ope x_int) rfl) (w_or (t_cmp (imp_cmp _) op_lt (opo (pv 6)) (ope x_int) rfl) (w_or1 (t_cmp (imp_cmp _) op_lt (ope (x_callB imp_len call_len_seq (by rfl) fr.len rfl (opo (pv 5)))) (ope x_int) rfl))))) (k_cons (k_setT s_compI (ps_setLc (own := [("name", 11)]) rfl sc__law_draw_talk.nd rfl rfl rfl (i_val (x_var (pv 2)) rfl) (blk_of (N := N__law_draw_talk) (sc := S__law_draw_talk) (by decide +kernel)) (fun s H C cl fp => (c_name (by decide) (pg_name sc__law_draw_talk.nd rfl (.inl rfl) (.inr rfl)))) (fun s H C cl fp => (ts_one (t_cmp (imp_in true) (op_niA hr) (opo (pv 11)) (opo (pv 3)) rfl))) (fun s H C cl fp => (x_var (pv 11))))) (k_one (k_ret (s_val (x_if (t_w (w_and (t_cmp imp_ne (op_neA hr) (opo (pv 10)) (ope (x_frz (s_lst a_nil))) rfl) (w_and1 (t_cmp (imp_cmp _) op_gt (ope (x_frz (s_callK G__law_draw rfl hr (by omega) (by rfl) (aa_io (pv 0) (aa_val x_int aa_nil))))) (ope x_int) rfl)))) (x_tup (a_cons (x_str (t := .again)) (a_cons (x_frz (s_callK G__law_pick rfl hr (by omega) (by rfl) (aa_io (pv 0) (aa_val (x_var (pv 10)) aa_nil)))) a_nil))) (x_tup (a_cons (x_str (t := .«end»)) a_nil))))))) k_nil) (k_cons (k_if (t_w (w_and (t_cmp (imp_cmp _) op_lt (opo (pv 6)) (ope x_int) rfl) (w_and1 (t_cmp (imp_cmp _) op_lt (ope (x_callB imp_len call_len_seq (by rfl) fr.len rfl (opo (pv 4)))) (ope x_int) rfl)))) (k_cons (k_set (ps_set sc__law_draw_talk.nd rfl (.inl rfl) (s_callK G__law_pick rfl hr (by omega) (by rfl) (aa_io (pv 0) (aa_val (x_frz ((pe_lc (own := [("one", 12)]) rfl sc__law_draw_talk.nd (i_val (x_tup (a_cons x_int (a_cons x_int (a_cons x_int (a_cons x_int a_nil))))) rfl) (blk_of (N := N__law_draw_talk) (sc := S__law_draw_talk) (by decide +kernel)) (fun s H C cl fp => (c_name (by decide) (pg_name sc__law_draw_talk.nd rfl (.inl rfl) (.inr rfl)))) (fun s H C cl fp => (ts_one (t_cmp (imp_in true) (op_niA hr) (opo (pv 12)) (opo (pv 4)) rfl))) (fun s H C cl fp => (x_var (pv 12)))).imp s_compI)) aa_nil))) rfl (.inl rfl))) (k_one (k_ret (s_val (x_tup (a_cons (x_str (t := .loop)) (a_cons (x_var (pv 11)) (a_cons (x_frz (s_callK G__law_draw_talk rfl hr (by omega) (by rfl) (aa_io (pv 0) (aa_val (x_frz (s_sub (opo (pv 1)) (ope x_int))) (aa_val (x_frz (s_add rfl (opo (pv 2)) (ope (x_frz (s_lst (a_cons (x_var (pv 11)) a_nil)))))) (aa_val (x_frz (s_add rfl (opo (pv 3)) (ope (x_frz (s_lst (a_cons (x_var (pv 11)) a_nil)))))) (aa_val (x_frz (s_add rfl (opo (pv 4)) (ope (x_frz (s_lst (a_cons (x_var (pv 11)) a_nil)))))) (aa_val (x_var (pv 5)) aa_nil)))))))) a_nil)))))))) k_nil) (k_cons (k_if (t_w (w_and (t_cmp imp_eq (op_eqA hr) (opo (pv 6)) (ope x_int) rfl) (w_and1 (t_cmp imp_eq (op_eqA hr) (ope (x_callB imp_len call_len_seq (by rfl) fr.len rfl (opo (pv 5)))) (ope x_int) rfl)))) (k_cons (k_set (ps_set sc__law_draw_talk.nd rfl (.inl rfl) (s_callK G__law_shuffled rfl hr (by omega) (by rfl) (aa_io (pv 0) (aa_val (x_var (pv 5)) aa_nil))) rfl (.inl rfl))) (k_cons (k_set (ps_set sc__law_draw_talk.nd rfl (.inl rfl) (s_callK G__law_draw_talk rfl hr (by omega) (by rfl) (aa_io (pv 0) (aa_val (x_frz (s_sub (opo (pv 1)) (ope x_int))) (aa_val (x_frz (s_lst a_nil)) (aa_val (x_frz (s_lst a_nil)) (aa_val (x_var (pv 4)) (aa_val (x_frz (s_callB imp_sorted (cr_sortD hr) (by rfl) fr.sorted rfl (ope (x_frz (s_slS rfl (opo (pv 7)) b_none (b_some x_int)))))) aa_nil))))))) rfl (.inl rfl))) (k_one (k_ret (s_val (x_tup (a_cons (x_str (t := .beside)) (a_cons (x_var (pv 12)) (a_cons (x_frz (s_callK G__law_draw_talk rfl hr (by omega) (by rfl) (aa_io (pv 0) (aa_val (x_frz (s_sub (opo (pv 1)) (ope x_int))) (aa_val (x_frz (s_lst a_nil)) (aa_val (x_frz (s_lst a_nil)) (aa_val (x_var (pv 4)) (aa_val (x_frz (s_callB imp_sorted (cr_sortD hr) (by rfl) fr.sorted rfl (ope (x_frz (s_slS rfl (opo (pv 7)) (b_some x_int) b_none))))) aa_nil)))))))) a_nil))))))))) k_nil) (k_cons (k_set (ps_set sc__law_draw_talk.nd rfl (.inl rfl) (s_callK G__law_shuffled rfl hr (by omega) (by rfl) (aa_io (pv 0) (aa_val (x_var (pv 5)) aa_nil))) rfl (.inl rfl))) (k_cons (k_set (ps_set sc__law_draw_talk.nd rfl (.inl rfl) (s_val (x_ix imp_ix ix_seq (ope (x_tup (a_cons x_int (a_cons x_int (a_cons x_int (a_cons x_int (a_cons x_int (a_cons x_int a_nil)))))))) (ope (x_frz (s_callK G__law_draw rfl hr (by omega) (by rfl) (aa_io (pv 0) (aa_val x_int aa_nil))))) (fun _ _ => rfl))) rfl (.inl rfl))) (k_cons (k_set (ps_set sc__law_draw_talk.nd rfl (.inl rfl) (s_callB imp_sorted (cr_sortD hr) (by rfl) fr.sorted rfl (ope (x_frz (s_slS rfl (ope (x_frz (s_callK G__law_shuffled rfl hr (by omega) (by rfl) (aa_io (pv 0) (aa_val (x_frz (s_lst (a_cons x_int (a_cons x_int (a_cons x_int (a_cons x_int a_nil)))))) aa_nil))))) b_none (b_some (x_var (pv 8))))))) rfl (.inl rfl))) (k_one (k_ret (s_val (x_tup (a_cons (x_str (t := .say)) (a_cons (x_ix imp_ix ix_seq (opo (pv 7)) (ope x_int) (fun _ _ => rfl)) (a_cons (x_ix imp_ix ix_seq (opo (pv 7)) (ope x_int) (fun _ _ => rfl)) (a_cons (x_callTy imp_tupOf call_tupM (by rfl) fr.tuple rfl (ope (x_frz ((pe_lc (own := [("letter", 13)]) rfl sc__law_draw_talk.nd (i_val (x_var (pv 9)) rfl) (blk_of (N := N__law_draw_talk) (sc := S__law_draw_talk) (by decide +kernel)) (fun s H C cl fp => (c_name (by decide) (pg_name sc__law_draw_talk.nd rfl (.inl rfl) (.inr rfl)))) (fun s H C cl fp => ts_nil) (fun s H C cl fp => (x_tup (a_cons (x_var (pv 13)) (a_cons (x_frz (s_callK G__law_draw_talk rfl hr (by omega) (by rfl) (aa_io (pv 0) (aa_val (x_frz (s_sub (opo (pv 1)) (ope x_int))) (aa_val (x_var (pv 2)) (aa_val (x_frz (s_lst a_nil)) (aa_val (x_var (pv 4)) (aa_val (x_var (pv 5)) aa_nil)))))))) a_nil))))).imp s_compI)))) a_nil)))))))))))))))))).mono (by omega)
abbrev N__law_talk : List Str := ["pool", "roles"]
abbrev S__law_talk : Scope := defScope (top 28)
theorem sc__law_talk : FnScope N__law_talk ["pool"] S__law_talk := sc_of (by decide +kernel)
theorem ok__law_talk (fr : Frees mg) {f : Addr} {fd : FuncData} (F : FunD K "_law_talk" "_law_talk" (defArgs (top 28)) (defBody (top 28)) S__law_talk [] [] f fd) (hm : mg "_law_talk" = some (.ref f)) (G__law_pick : Known P w K mg base cls 3 "_law_pick" f__law_pick) (G__law_draw_talk : Known P w K mg base cls 44 "_law_draw_talk" (f__law_draw_talk 40)) : Known P w K mg base cls 45 "_law_talk" f__law_talk :=
  fn_known (N := N__law_talk) (k := 44) (b := m__law_talk) F hm sc__law_talk (by decide) (fun _ _ _ _ _ _ us hl => match us, hl with | [_], _ => rfl) (fun cdv A outer s H E hr => have hu := hr.units1; (k_cons (k_set (ps_set sc__law_talk.nd rfl (.inl rfl) (s_callK G__law_pick rfl hr (by omega) (by rfl) (aa_io (pv 0) (aa_val (x_frz (s_lst (a_cons (x_frz (s_lst (a_cons x_int (a_cons x_int a_nil)))) (a_cons (x_frz (s_lst (a_cons x_int (a_cons x_int (a_cons x_int a_nil))))) (a_cons (x_frz (s_lst (a_cons x_int (a_cons x_int (a_cons x_int a_nil))))) (a_cons (x_frz (s_lst (a_cons x_int (a_cons x_int (a_cons x_int (a_cons x_int a_nil)))))) (a_cons (x_frz (s_lst (a_cons x_int (a_cons x_int (a_cons x_int (a_cons x_int a_nil)))))) a_nil))))))) aa_nil))) rfl (.inl rfl))) (k_one (k_ret (s_callK G__law_draw_talk rfl hr (by omega) (by rfl) (aa_io (pv 0) (aa_val x_int (aa_val (x_frz (s_lst a_nil)) (aa_val (x_frz (s_lst a_nil)) (aa_val (x_frz (s_lst a_nil)) (aa_val (x_var (pv 1)) aa_nil)))))))))))
abbrev N__law_good_talk : List Str := ["pool", "k", "talk"]
abbrev S__law_good_talk : Scope := defScope (top 37)
theorem sc__law_good_talk : FnScope N__law_good_talk ["pool"] S__law_good_talk := sc_of (by decide +kernel)
theorem ok__law_good_talk (fr : Frees mg) {f : Addr} {fd : FuncData} (F : FunD K "_law_good_talk" "_law_good_talk" (defArgs (top 37)) (defBody (top 37)) S__law_good_talk [] [] f fd) (hm : mg "_law_good_talk" = some (.ref f)) (G__law_talk : Known P w K mg base cls 45 "_law_talk" f__law_talk) (G__law_parts : Known P w K mg base cls 85 "_law_parts" f__law_parts) : Known P w K mg base cls 86 "_law_good_talk" f__law_good_talk :=
  fn_known (N := N__law_good_talk) (k := 85) (b := m__law_good_talk) F hm sc__law_good_talk (by decide) (fun _ _ _ _ _ _ us hl => match us, hl with | [_], _ => rfl) (fun cdv A outer s H E hr => have hu := hr.units1; (k_cons (k_for PassesOwn.never rfl (i_r1 (by rfl) fr.range x_int) (g_name (pg_name sc__law_good_talk.nd rfl (.inl rfl) (.inl rfl))) (k_cons (k_set (ps_set sc__law_good_talk.nd rfl (.inl rfl) (s_callK G__law_talk rfl hr (by omega) (by rfl) (aa_io (pv 0) aa_nil)) rfl (.inl rfl))) (k_one (k_if (t_w (w_and (t_cmp imp_notN op_notN (ope (x_frz (s_callK G__law_parts rfl hr (by omega) (by rfl) (aa_val (x_var (pv 2)) aa_nil)))) (ope x_non) rfl) (w_and1 (t_cmp imp_ne (op_neA hr) (opo (pv 2)) (ope (x_tup (a_cons (x_str (t := .«end»)) a_nil))) rfl)))) (k_one (k_ret (s_val (x_var (pv 2))))) k_nil)))) (k_one (k_ret (s_val (x_tup (a_cons (x_str (t := .say)) (a_cons x_int (a_cons x_int (a_cons (x_tup (a_cons (x_tup (a_cons x_int (a_cons (x_tup (a_cons (x_str (t := .«end»)) a_nil)) a_nil))) (a_cons (x_tup (a_cons x_int (a_cons (x_tup (a_cons (x_str (t := .say)) (a_cons x_int (a_cons x_int (a_cons (x_tup (a_cons (x_tup (a_cons x_int (a_cons (x_tup (a_cons (x_str (t := .«end»)) a_nil)) a_nil))) a_nil)) a_nil))))) a_nil))) a_nil))) a_nil))))))))))
abbrev N__law_bad_machines : List Str := ["pool", "machines", "other", "k"]
abbrev S__law_bad_machines : Scope := defScope (top 42)
theorem sc__law_bad_machines : FnScope N__law_bad_machines ["pool"] S__law_bad_machines := sc_of (by decide +kernel)
theorem ok__law_bad_machines (fr : Frees mg) {f : Addr} {fd : FuncData} (F : FunD K "_law_bad_machines" "_law_bad_machines" (defArgs (top 42)) (defBody (top 42)) S__law_bad_machines [] [] f fd) (hm : mg "_law_bad_machines" = some (.ref f)) (G__law_machines : Known P w K mg base cls 86 "_law_machines" f__law_machines) (G__law_good_talk : Known P w K mg base cls 86 "_law_good_talk" f__law_good_talk) (G__law_draw : Known P w K mg base cls 2 "_law_draw" f__law_draw) : Known P w K mg base cls 87 "_law_bad_machines" f__law_bad_machines :=
  fn_known (N := N__law_bad_machines) (k := 86) (b := m__law_bad_machines) F hm sc__law_bad_machines (by decide) (fun _ _ _ _ _ _ us hl => match us, hl with | [_], _ => rfl) (fun cdv A outer s H E hr => have hu := hr.units1; (k_cons (k_set (ps_set sc__law_bad_machines.nd rfl (.inr rfl) (s_callK G__law_machines rfl hr (by omega) (by rfl) (aa_val (x_frz (s_callK G__law_good_talk rfl hr (by omega) (by rfl) (aa_io (pv 0) aa_nil))) aa_nil)) rfl (.inl rfl))) (k_cons (k_set (ps_set sc__law_bad_machines.nd rfl (.inr rfl) (s_callK G__law_machines rfl hr (by omega) (by rfl) (aa_val (x_frz (s_callK G__law_good_talk rfl hr (by omega) (by rfl) (aa_io (pv 0) aa_nil))) aa_nil)) rfl (.inl rfl))) (k_one (k_ret (s_val (x_callTy imp_tupOf call_tupM (by rfl) fr.tuple rfl (ope (x_frz ((pe_lc (own := [("k", 3)]) rfl sc__law_bad_machines.nd (i_r1 (by rfl) fr.range x_int) (blk_of (N := N__law_bad_machines) (sc := S__law_bad_machines) (by decide +kernel)) (fun s H C cl fp => (c_name (by decide) (pg_name sc__law_bad_machines.nd rfl (.inl rfl) (.inr rfl)))) (fun s H C cl fp => ts_nil) (fun s H C cl fp => (x_if (t_cmp imp_eq (op_eqA hr) (ope (x_frz (s_callK G__law_draw rfl hr (by omega) (by rfl) (aa_io (pv 0) (aa_val x_int aa_nil))))) (ope x_int) rfl) (x_ix imp_ix ix_seq (opo (pv 2)) (opo (pv 3)) (fun _ _ => rfl)) (x_ix imp_ix ix_seq (opo (pv 1)) (opo (pv 3)) (fun _ _ => rfl))))).imp s_compI))))))))))
abbrev N__law_from : List Str := ["machine", "state", "step"]
abbrev S__law_from : Scope := defScope (top 40)
theorem sc__law_from : FnScope N__law_from ["machine", "state"] S__law_from := sc_of (by decide +kernel)
theorem ok__law_from (fr : Frees mg) {f : Addr} {fd : FuncData} (F : FunD K "_law_from" "_law_from" (defArgs (top 40)) (defBody (top 40)) S__law_from [] [] f fd) (hm : mg "_law_from" = some (.ref f)) : Known P w K mg base cls 1 "_law_from" f__law_from :=
  fn_known (N := N__law_from) (k := 0) (b := m__law_from) F hm sc__law_from (by decide) (fun _ _ _ _ _ _ us hl => match us, hl with | [_, _], _ => rfl) (fun cdv A outer s H E hr => have hu := hr.units1; (k_one (k_ret ((pe_lc (own := [("step", 2)]) rfl sc__law_from.nd (i_val (x_ix imp_ix ix_seq (opo (pv 0)) (ope x_int) (fun _ _ => rfl)) rfl) (blk_of (N := N__law_from) (sc := S__law_from) (by decide +kernel)) (fun s H C cl fp => (c_name (by decide) (pg_name sc__law_from.nd rfl (.inl rfl) (.inr rfl)))) (fun s H C cl fp => (ts_one (t_cmp imp_eq (op_eqA hr) (ope (x_ix imp_ix ix_seq (opo (pv 2)) (ope x_int) (fun _ _ => rfl))) (opo (pv 1)) rfl))) (fun s H C cl fp => (x_var (pv 2)))).imp s_compI))))
abbrev N__law_meets : List Str := ["machines", "states", "found", "a", "state", "word", "b", "letter", "after", "step", "behind", "k"]
abbrev S__law_meets : Scope := defScope (top 41)
theorem sc__law_meets : FnScope N__law_meets ["machines", "states"] S__law_meets := sc_of (by decide +kernel)
theorem ok__law_meets (fr : Frees mg) {f : Addr} {fd : FuncData} (F : FunD K "_law_meets" "_law_meets" (defArgs (top 41)) (defBody (top 41)) S__law_meets [] [] f fd) (hm : mg "_law_meets" = some (.ref f)) (G__law_from : Known P w K mg base cls 1 "_law_from" f__law_from) : Known P w K mg base cls 2 "_law_meets" f__law_meets :=
  fn_known (N := N__law_meets) (k := 1) (b := m__law_meets) F hm sc__law_meets (by decide) (fun _ _ _ _ _ _ us hl => match us, hl with | [_, _], _ => rfl) (fun cdv A outer s H E hr => have hu := hr.units1; (k_cons (k_set (ps_set sc__law_meets.nd rfl (.inl rfl) (s_lst a_nil) rfl (.inl rfl))) (k_cons (k_for PassesOwn.never rfl (i_r1 (by rfl) fr.range (x_callB imp_len call_len_seq (by rfl) fr.len rfl (opo (pv 0)))) (g_name (pg_name sc__law_meets.nd rfl (.inl rfl) (.inl rfl))) (k_one (k_for PassesOwn.never rfl (i_val (x_frz (s_callK G__law_from rfl hr (by omega) (by rfl) (aa_val (x_ix imp_ix ix_seq (opo (pv 0)) (opo (pv 3)) (fun _ _ => rfl)) (aa_val (x_ix imp_ix ix_seq (opo (pv 1)) (opo (pv 3)) (fun _ _ => rfl)) aa_nil)))) rfl) (g_tup rfl rfl (gs_cons (g_name (pg_name sc__law_meets.nd rfl (.inl rfl) (.inl rfl))) (gs_cons (g_name (pg_name sc__law_meets.nd rfl (.inl rfl) (.inl rfl))) (gs_cons (g_name (pg_name sc__law_meets.nd rfl (.inl rfl) (.inl rfl))) (gs_cons (g_name (pg_name sc__law_meets.nd rfl (.inl rfl) (.inl rfl))) (gs_cons (g_name (pg_name sc__law_meets.nd rfl (.inl rfl) (.inl rfl))) gs_nil))))) (gsCons_len (gsCons_len (gsCons_len (gsCons_len (gsCons_len gsNil_len)))))) (k_one (k_if (t_w (w_and (t_cmp imp_eq (op_eqA hr) (opo (pv 5)) (ope (x_str (t := .send))) rfl) (w_and (t_cmp (imp_cmp _) op_lt (opo (pv 6)) (ope (x_callB imp_len call_len_seq (by rfl) fr.len rfl (opo (pv 0)))) rfl) (w_and1 (t_cmp imp_ne (op_neA hr) (opo (pv 6)) (opo (pv 3)) rfl))))) (k_one (k_for PassesOwn.never rfl (i_val (x_frz (s_callK G__law_from rfl hr (by omega) (by rfl) (aa_val (x_ix imp_ix ix_seq (opo (pv 0)) (opo (pv 6)) (fun _ _ => rfl)) (aa_val (x_ix imp_ix ix_seq (opo (pv 1)) (opo (pv 6)) (fun _ _ => rfl)) aa_nil)))) rfl) (g_name (pg_name sc__law_meets.nd rfl (.inl rfl) (.inl rfl))) (k_one (k_if (t_cmp imp_eq (op_eqA hr) (ope (x_frz (s_slS rfl (opo (pv 9)) (b_some x_int) (b_some x_int)))) (ope (x_tup (a_cons (x_str (t := .hear)) (a_cons (x_var (pv 3)) (a_cons (x_var (pv 7)) a_nil))))) rfl) (k_cons (k_setT s_compI (ps_setLc (own := [("k", 11)]) rfl sc__law_meets.nd rfl rfl rfl (i_r1 (by rfl) fr.range (x_callB imp_len call_len_seq (by rfl) fr.len rfl (opo (pv 1)))) (blk_of (N := N__law_meets) (sc := S__law_meets) (by decide +kernel)) (fun s H C cl fp => (c_name (by decide) (pg_name sc__law_meets.nd rfl (.inl rfl) (.inr rfl)))) (fun s H C cl fp => ts_nil) (fun s H C cl fp => (x_ix imp_ix ix_seq (opo (pv 1)) (opo (pv 11)) (fun _ _ => rfl))))) (k_cons (k_asg (ps_asg (x_tup (a_cons (x_var (pv 8)) (a_cons (x_ix imp_ix ix_seq (opo (pv 9)) (ope x_int) (fun _ _ => rfl)) a_nil))) (g_tup rfl rfl (gs_cons (g_put (pg_sub (pv 10) (x_var (pv 3)) set_list)) (gs_cons (g_put (pg_sub (pv 10) (x_var (pv 6)) set_list)) gs_nil)) (gsCons_len (gsCons_len gsNil_len))))) (k_one (let h := (x_tup (a_cons (x_var (pv 3)) (a_cons (x_var (pv 6)) (a_cons (x_var (pv 7)) (a_cons (x_callTy imp_tupOf call_tupM (by rfl) fr.tuple rfl (opo (pv 10))) a_nil))))); k_app (pv 2) h rfl rfl (pe_bm PySem.F.plainAttrs_list PySem.F.slot_list_append PySem.F.type_list_append mt_append (pv 2) (pa_cons h pa_nil)))))) k_nil)))) k_nil))))) (k_one (k_ret (s_callB imp_sorted (cr_sortD hr) (by rfl) fr.sorted rfl (opo (pv 2))))))))
abbrev N__law_drawn_row : List Str := ["pool", "machines", "most", "row", "states", "k", "told", "turn", "saying", "a"]
abbrev S__law_drawn_row : Scope := defScope (top 44)
theorem sc__law_drawn_row : FnScope N__law_drawn_row ["pool", "machines", "most"] S__law_drawn_row := sc_of (by decide +kernel)
theorem ok__law_drawn_row (fr : Frees mg) {f : Addr} {fd : FuncData} (F : FunD K "_law_drawn_row" "_law_drawn_row" (defArgs (top 44)) (defBody (top 44)) S__law_drawn_row [] [] f fd) (hm : mg "_law_drawn_row" = some (.ref f)) (G__law_meets : Known P w K mg base cls 2 "_law_meets" f__law_meets) (G__law_draw : Known P w K mg base cls 2 "_law_draw" f__law_draw) (G__law_pick : Known P w K mg base cls 3 "_law_pick" f__law_pick) : Known P w K mg base cls 4 "_law_drawn_row" f__law_drawn_row :=
  fn_known (N := N__law_drawn_row) (k := 3) (b := m__law_drawn_row) F hm sc__law_drawn_row (by decide) (fun _ _ _ _ _ _ us hl => match us, hl with | [_, _, _], _ => rfl) (fun cdv A outer s H E hr => have hu := hr.units1; (k_cons (k_par (by decide) (ps_par rfl sc__law_drawn_row.nd rfl rfl (by decide) rfl rfl (pa_cons (s_val (x_tup a_nil)) (pa_cons (s_mul rfl (ope (x_tup (a_cons x_int a_nil))) (ope (x_callB imp_len call_len_seq (by rfl) fr.len rfl (opo (pv 1))))) pa_nil)) rfl)) (k_cons (k_for PassesOwn.never rfl (i_r1 (by rfl) fr.range (x_var (pv 2))) (g_name (pg_name sc__law_drawn_row.nd rfl (.inl rfl) (.inl rfl))) (k_cons (k_set (ps_set sc__law_drawn_row.nd rfl (.inl rfl) (s_callK G__law_meets rfl hr (by omega) (by rfl) (aa_val (x_var (pv 1)) (aa_val (x_var (pv 4)) aa_nil))) rfl (.inl rfl))) (k_cons (k_set (ps_set sc__law_drawn_row.nd rfl (.inl rfl) (s_callK G__law_draw rfl hr (by omega) (by rfl) (aa_io (pv 0) (aa_val x_int aa_nil))) rfl (.inl rfl))) (k_one (k_if (t_w (w_and (t_cmp imp_ne (op_neA hr) (opo (pv 6)) (ope (x_frz (s_lst a_nil))) rfl) (w_and1 (t_cmp (imp_cmp _) op_gt (opo (pv 7)) (ope x_int) rfl)))) (k_cons (k_set (ps_set sc__law_drawn_row.nd rfl (.inl rfl) (s_callK G__law_pick rfl hr (by omega) (by rfl) (aa_io (pv 0) (aa_val (x_var (pv 6)) aa_nil))) rfl (.inl rfl))) (k_one (k_par (by decide) (ps_par rfl sc__law_drawn_row.nd rfl rfl (by decide) rfl rfl (pa_cons (s_add rfl (opo (pv 3)) (ope (x_tup (a_cons (x_frz (s_slS rfl (opo (pv 8)) b_none (b_some x_int))) a_nil)))) (pa_cons (s_val (x_ix imp_ix ix_seq (opo (pv 8)) (ope x_int) (fun _ _ => rfl))) pa_nil)) rfl)))) (k_one (k_if (t_cmp imp_eq (op_eqA hr) (opo (pv 7)) (ope x_int) rfl) (k_cons (k_set (ps_set sc__law_drawn_row.nd rfl (.inl rfl) (s_callK G__law_draw rfl hr (by omega) (by rfl) (aa_io (pv 0) (aa_val x_int aa_nil))) rfl (.inl rfl))) (k_one (k_set (ps_set sc__law_drawn_row.nd rfl (.inl rfl) (s_add rfl (opo (pv 3)) (ope (x_tup (a_cons (x_tup (a_cons (x_var (pv 9)) (a_cons (x_frz (s_mod (ope (x_callTy imp_intOf call_int1 (by rfl) fr.int rfl (ope (x_frz (s_add rfl (ope (x_frz (s_add rfl (opo (pv 9)) (ope x_int)))) (ope (x_frz (s_callK G__law_draw rfl hr (by omega) (by rfl) (aa_io (pv 0) (aa_val x_int aa_nil)))))))))) (ope x_int))) (a_cons (x_frz (s_callK G__law_draw rfl hr (by omega) (by rfl) (aa_io (pv 0) (aa_val x_int aa_nil)))) a_nil)))) a_nil)))) rfl (.inl rfl))))) k_nil))))))) (k_one (k_ret (s_val (x_var (pv 3))))))))
abbrev N_of_sayings : List Str := ["row", "found", "speaker", "hearer", "letter"]
abbrev S_of_sayings : Scope := defScope (top 15)
theorem sc_of_sayings : FnScope N_of_sayings ["row"] S_of_sayings := sc_of (by decide +kernel)
theorem ok_of_sayings (fr : Frees mg) {f : Addr} {fd : FuncData} (F : FunD K "of_sayings" "of_sayings" (defArgs (top 15)) (defBody (top 15)) S_of_sayings [] [] f fd) (hm : mg "of_sayings" = some (.ref f)) {t_ROLES : Tok} (gi_ROLES : mg "ROLES" = some (.int 4 t_ROLES)) : Known P w K mg base cls 1 "of_sayings" f_of_sayings :=
  fn_known (N := N_of_sayings) (k := 0) (b := m_of_sayings) F hm sc_of_sayings (by decide) (fun _ _ _ _ _ _ us hl => match us, hl with | [_], _ => rfl) (fun cdv A outer s H E hr => have hu := hr.units1; (k_cons (k_set (ps_set sc_of_sayings.nd rfl (.inl rfl) (s_mul rfl (ope (x_frz (s_lst (a_cons (x_tup a_nil) a_nil)))) (ope (x_gint (by rfl) gi_ROLES))) rfl (.inl rfl))) (k_cons (k_for PassesOwn.never rfl (i_val (x_var (pv 0)) rfl) (g_tup rfl rfl (gs_cons (g_name (pg_name sc_of_sayings.nd rfl (.inl rfl) (.inl rfl))) (gs_cons (g_name (pg_name sc_of_sayings.nd rfl (.inl rfl) (.inl rfl))) (gs_cons (g_name (pg_name sc_of_sayings.nd rfl (.inl rfl) (.inl rfl))) gs_nil))) (gsCons_len (gsCons_len (gsCons_len gsNil_len)))) (k_cons (k_augS imp_augA (ps_augS (pv 1) (x_var (pv 2)) get_list (Opd.run (ope (x_tup (a_cons (x_tup (a_cons (x_str (t := .send)) (a_cons (x_var (pv 3)) (a_cons (x_var (pv 4)) a_nil)))) a_nil)))) ip_augA set_list)) (k_one (k_augS imp_augA (ps_augS (pv 1) (x_var (pv 3)) get_list (Opd.run (ope (x_tup (a_cons (x_tup (a_cons (x_str (t := .hear)) (a_cons (x_var (pv 2)) (a_cons (x_var (pv 4)) a_nil)))) a_nil)))) ip_augA set_list))))) (k_one (k_ret (s_val (x_callTy imp_tupOf call_tupM (by rfl) fr.tuple rfl (opo (pv 1)))))))))
abbrev N_steps_from : List Str := ["machine", "state", "step"]
abbrev S_steps_from : Scope := defScope (top 5)
theorem sc_steps_from : FnScope N_steps_from ["machine", "state"] S_steps_from := sc_of (by decide +kernel)
theorem ok_steps_from (fr : Frees mg) {f : Addr} {fd : FuncData} (F : FunD K "steps_from" "steps_from" (defArgs (top 5)) (defBody (top 5)) S_steps_from [] [] f fd) (hm : mg "steps_from" = some (.ref f)) : Known P w K mg base cls 1 "steps_from" f_steps_from :=
  fn_known (N := N_steps_from) (k := 0) (b := m_steps_from) F hm sc_steps_from (by decide) (fun _ _ _ _ _ _ us hl => match us, hl with | [_, _], _ => rfl) (fun cdv A outer s H E hr => have hu := hr.units1; (k_one (k_ret ((pe_lc (own := [("step", 2)]) rfl sc_steps_from.nd (i_val (x_ix imp_ix ix_seq (opo (pv 0)) (ope x_int) (fun _ _ => rfl)) rfl) (blk_of (N := N_steps_from) (sc := S_steps_from) (by decide +kernel)) (fun s H C cl fp => (c_name (by decide) (pg_name sc_steps_from.nd rfl (.inl rfl) (.inr rfl)))) (fun s H C cl fp => (ts_one (t_cmp imp_eq (op_eqA hr) (ope (x_ix imp_ix ix_seq (opo (pv 2)) (ope x_int) (fun _ _ => rfl))) (opo (pv 1)) rfl))) (fun s H C cl fp => (x_var (pv 2)))).imp s_compI))))
abbrev N_after_rows : List Str := ["machine", "deeds", "state", "deed", "found", "step"]
abbrev S_after_rows : Scope := defScope (top 7)
theorem sc_after_rows : FnScope N_after_rows ["machine", "deeds"] S_after_rows := sc_of (by decide +kernel)
theorem ok_after_rows (fr : Frees mg) {f : Addr} {fd : FuncData} (F : FunD K "after_rows" "after_rows" (defArgs (top 7)) (defBody (top 7)) S_after_rows [] [] f fd) (hm : mg "after_rows" = some (.ref f)) (G_steps_from : Known P w K mg base cls 1 "steps_from" f_steps_from) : Known P w K mg base cls 2 "after_rows" f_after_rows :=
  fn_known (N := N_after_rows) (k := 1) (b := m_after_rows) F hm sc_after_rows (by decide) (fun _ _ _ _ _ _ us hl => match us, hl with | [_, _], _ => rfl) (fun cdv A outer s H E hr => have hu := hr.units1; (k_cons (k_set (ps_set sc_after_rows.nd rfl (.inl rfl) (s_val x_int) rfl (.inl rfl))) (k_cons (k_for PassesOwn.never rfl (i_val (x_var (pv 1)) rfl) (g_name (pg_name sc_after_rows.nd rfl (.inr rfl) (.inl rfl))) (k_cons (k_setT s_compI (ps_setLc (own := [("step", 5)]) rfl sc_after_rows.nd rfl rfl rfl (i_val (x_frz (s_callK G_steps_from rfl hr (by omega) (by rfl) (aa_val (x_var (pv 0)) (aa_val (x_var (pv 2)) aa_nil)))) rfl) (blk_of (N := N_after_rows) (sc := S_after_rows) (by decide +kernel)) (fun s H C cl fp => (c_name (by decide) (pg_name sc_after_rows.nd rfl (.inl rfl) (.inr rfl)))) (fun s H C cl fp => (ts_one (t_cmp imp_eq (op_eqA hr) (ope (x_frz (s_slS rfl (opo (pv 5)) (b_some x_int) (b_some x_int)))) (opo (pv 3)) rfl))) (fun s H C cl fp => (x_ix imp_ix ix_seq (opo (pv 5)) (ope x_int) (fun _ _ => rfl))))) (k_cons (k_if (t_cmp imp_eq (op_eqA hr) (ope (x_callB imp_len call_len_seq (by rfl) fr.len rfl (opo (pv 4)))) (ope x_int) rfl) (k_one (k_ret (s_val x_non))) k_nil) (k_one (k_set (ps_set sc_after_rows.nd rfl (.inl rfl) (s_val (x_ix imp_ix ix_seq (opo (pv 4)) (ope x_int) (fun _ _ => rfl))) rfl (.inl rfl))))))) (k_one (k_ret (s_val (x_var (pv 2))))))))
abbrev N__law_same : List Str := ["actual", "due", "k"]
abbrev S__law_same : Scope := defScope (top 18)
theorem sc__law_same : FnScope N__law_same ["actual", "due"] S__law_same := sc_of (by decide +kernel)
theorem ok__law_same (fr : Frees mg) {f : Addr} {fd : FuncData} (F : FunD K "_law_same" "_law_same" (defArgs (top 18)) (defBody (top 18)) S__law_same [] [] f fd) (hm : mg "_law_same" = some (.ref f)) : ∀ k : Nat, Known P w K mg base cls (1 + k) "_law_same" (f__law_same k)
  | 0 => fn_known (N := N__law_same) (k := 0) F hm sc__law_same (by decide) (fun _ _ _ _ _ _ us hl => match us, hl with | [_, _], _ => rfl) (fun _ _ _ _ _ _ _ => ss_no)
  | k + 1 => (fn_known (N := N__law_same) (k := 1 + k) (b := m__law_same (f__law_same k)) F hm sc__law_same (by decide) (fun _ _ _ _ _ _ us hl => match us, hl with | [_, _], _ => rfl) (have G__law_same := ok__law_same fr F hm  k; (fun cdv A outer s H E hr => have hu := hr.units1; (k_cons (k_if (t_w (w_or (t_val (x_isi rfl (by rfl) fr.isinstance (by rfl) fr.tuple rfl (opo (pv 1)))) (w_or1 (t_val (x_isi rfl (by rfl) fr.isinstance (by rfl) fr.list rfl (opo (pv 1))))))) (k_cons (k_if (t_w (w_or (t_cmp imp_ne (op_neA hr) (ope (x_isi rfl (by rfl) fr.isinstance (by rfl) fr.tuple rfl (opo (pv 1)))) (ope (x_isi rfl (by rfl) fr.isinstance (by rfl) fr.tuple rfl (opo (pv 0)))) rfl) (w_or (t_cmp imp_ne (op_neA hr) (ope (x_isi rfl (by rfl) fr.isinstance (by rfl) fr.list rfl (opo (pv 1)))) (ope (x_isi rfl (by rfl) fr.isinstance (by rfl) fr.list rfl (opo (pv 0)))) rfl) (w_or1 (t_cmp imp_ne (op_neA hr) (ope (x_callB imp_len call_len_seq (by rfl) fr.len rfl (opo (pv 0)))) (ope (x_callB imp_len call_len_seq (by rfl) fr.len rfl (opo (pv 1)))) rfl))))) (k_one (k_ret (s_val x_bl))) k_nil) (k_one (k_ret (s_val (x_cmp imp_eq (op_eqA hr) (ope (x_callB imp_len call_len_seq (by rfl) fr.len rfl (ope (x_frz ((pe_lc (own := [("k", 2)]) rfl sc__law_same.nd (i_r1 (by rfl) fr.range (x_callB imp_len call_len_seq (by rfl) fr.len rfl (opo (pv 1)))) (blk_of (N := N__law_same) (sc := S__law_same) (by decide +kernel)) (fun s H C cl fp => (c_name (by decide) (pg_name sc__law_same.nd rfl (.inl rfl) (.inr rfl)))) (fun s H C cl fp => (ts_one (t_not (t_val (x_frz (s_callK G__law_same rfl hr (by omega) (by rfl) (aa_val (x_ix imp_ix ix_seq (opo (pv 0)) (opo (pv 2)) (fun _ _ => rfl)) (aa_val (x_ix imp_ix ix_seq (opo (pv 1)) (opo (pv 2)) (fun _ _ => rfl)) aa_nil)))))))) (fun s H C cl fp => (x_var (pv 2)))).imp s_compI))))) (ope x_int) rfl))))) k_nil) (k_cons (k_if (t_cmp imp_isN op_isN (opo (pv 1)) (ope x_non) rfl) (k_one (k_ret (s_val (x_cmp imp_isN op_isN (opo (pv 0)) (ope x_non) rfl)))) k_nil) (k_cons (k_if (t_w (w_or (t_val (x_isi rfl (by rfl) fr.isinstance (by rfl) fr.bool rfl (opo (pv 1)))) (w_or1 (t_val (x_isi rfl (by rfl) fr.isinstance (by rfl) fr.bool rfl (opo (pv 0))))))) (k_one (k_ret (s_val (x_and (x_isi rfl (by rfl) fr.isinstance (by rfl) fr.bool rfl (opo (pv 1))) (x_and (x_isi rfl (by rfl) fr.isinstance (by rfl) fr.bool rfl (opo (pv 0))) (x_one (x_cmp imp_eq (op_eqA hr) (opo (pv 0)) (opo (pv 1)) rfl))))))) k_nil) (k_cons (k_if (t_val (x_isi rfl (by rfl) fr.isinstance (by rfl) fr.int rfl (opo (pv 1)))) (k_one (k_ret (s_val (x_and (x_isi rfl (by rfl) fr.isinstance (by rfl) fr.int rfl (opo (pv 0))) (x_one (x_cmp imp_eq (op_eqA hr) (opo (pv 0)) (opo (pv 1)) rfl)))))) k_nil) (k_one (k_ret (s_val (x_and (x_isi rfl (by rfl) fr.isinstance (by rfl) fr.str rfl (opo (pv 0))) (x_and (x_isi rfl (by rfl) fr.isinstance (by rfl) fr.str rfl (opo (pv 1))) (x_one (x_cmp imp_eq (op_eqA hr) (opo (pv 0)) (opo (pv 1)) rfl)))))))))))))).mono (by omega)
abbrev N_begin : List Str := ["machines", "_"]
abbrev S_begin : Scope := defScope (top 9)
theorem sc_begin : FnScope N_begin ["machines"] S_begin := sc_of (by decide +kernel)
theorem ok_begin (fr : Frees mg) {f : Addr} {fd : FuncData} (F : FunD K "begin" "begin" (defArgs (top 9)) (defBody (top 9)) S_begin [] [] f fd) (hm : mg "begin" = some (.ref f)) : Known P w K mg base cls 1 "begin" f_begin :=
  fn_known (N := N_begin) (k := 0) (b := m_begin) F hm sc_begin (by decide) (fun _ _ _ _ _ _ us hl => match us, hl with | [_], _ => rfl) (fun cdv A outer s H E hr => have hu := hr.units1; (k_one (k_ret (s_val (x_callTy imp_tupOf call_tupM (by rfl) fr.tuple rfl (ope (x_frz ((pe_lc (own := [("_", 1)]) rfl sc_begin.nd (i_val (x_var (pv 0)) rfl) (blk_of (N := N_begin) (sc := S_begin) (by decide +kernel)) (fun s H C cl fp => (c_name (by decide) (pg_name sc_begin.nd rfl (.inl rfl) (.inr rfl)))) (fun s H C cl fp => ts_nil) (fun s H C cl fp => x_int)).imp s_compI))))))))
abbrev N_with_states : List Str := ["states", "one", "first", "two", "second", "found"]
abbrev S_with_states : Scope := defScope (top 11)
theorem sc_with_states : FnScope N_with_states ["states", "one", "first", "two", "second"] S_with_states := sc_of (by decide +kernel)
theorem ok_with_states (fr : Frees mg) {f : Addr} {fd : FuncData} (F : FunD K "with_states" "with_states" (defArgs (top 11)) (defBody (top 11)) S_with_states [] [] f fd) (hm : mg "with_states" = some (.ref f)) : Known P w K mg base cls 1 "with_states" f_with_states :=
  fn_known (N := N_with_states) (k := 0) (b := m_with_states) F hm sc_with_states (by decide) (fun _ _ _ _ _ _ us hl => match us, hl with | [_, _, _, _, _], _ => rfl) (fun cdv A outer s H E hr => have hu := hr.units1; (k_cons (k_set (ps_set sc_with_states.nd rfl (.inl rfl) (s_callTy imp_listOf call_list_of (by rfl) fr.list rfl (opo (pv 0))) rfl (.inl rfl))) (k_cons (k_put (ps_asg (x_var (pv 2)) (pg_sub (pv 5) (x_var (pv 1)) set_list))) (k_cons (k_put (ps_asg (x_var (pv 4)) (pg_sub (pv 5) (x_var (pv 3)) set_list))) (k_one (k_ret (s_val (x_callTy imp_tupOf call_tupM (by rfl) fr.tuple rfl (opo (pv 5))))))))))
abbrev N_meets : List Str := ["machines", "states", "found", "speaker", "step", "hearer", "other", "after"]
abbrev S_meets : Scope := defScope (top 10)
theorem sc_meets : FnScope N_meets ["machines", "states"] S_meets := sc_of (by decide +kernel)
theorem ok_meets (fr : Frees mg) {f : Addr} {fd : FuncData} (F : FunD K "meets" "meets" (defArgs (top 10)) (defBody (top 10)) S_meets [] [] f fd) (hm : mg "meets" = some (.ref f)) (G_steps_from : Known P w K mg base cls 1 "steps_from" f_steps_from) (G_with_states : Known P w K mg base cls 1 "with_states" f_with_states) : Known P w K mg base cls 2 "meets" f_meets :=
  fn_known (N := N_meets) (k := 1) (b := m_meets) F hm sc_meets (by decide) (fun _ _ _ _ _ _ us hl => match us, hl with | [_, _], _ => rfl) (fun cdv A outer s H E hr => have hu := hr.units1; (k_cons (k_set (ps_set sc_meets.nd rfl (.inl rfl) (s_lst a_nil) rfl (.inl rfl))) (k_cons (k_for PassesOwn.never rfl (i_r1 (by rfl) fr.range (x_callB imp_len call_len_seq (by rfl) fr.len rfl (opo (pv 0)))) (g_name (pg_name sc_meets.nd rfl (.inl rfl) (.inl rfl))) (k_one (k_for PassesOwn.never rfl (i_val (x_frz (s_callK G_steps_from rfl hr (by omega) (by rfl) (aa_val (x_ix imp_ix ix_seq (opo (pv 0)) (opo (pv 3)) (fun _ _ => rfl)) (aa_val (x_ix imp_ix ix_seq (opo (pv 1)) (opo (pv 3)) (fun _ _ => rfl)) aa_nil)))) rfl) (g_name (pg_name sc_meets.nd rfl (.inl rfl) (.inl rfl))) (k_cons (k_set (ps_set sc_meets.nd rfl (.inl rfl) (s_val (x_ix imp_ix ix_seq (opo (pv 4)) (ope x_int) (fun _ _ => rfl))) rfl (.inl rfl))) (k_one (k_if (t_w (w_and (t_cmp imp_eq (op_eqA hr) (ope (x_ix imp_ix ix_seq (opo (pv 4)) (ope x_int) (fun _ _ => rfl))) (ope (x_str (t := .send))) rfl) (w_and (t_cmp (imp_cmp _) op_lt (opo (pv 5)) (ope (x_callB imp_len call_len_seq (by rfl) fr.len rfl (opo (pv 0)))) rfl) (w_and1 (t_cmp imp_ne (op_neA hr) (opo (pv 5)) (opo (pv 3)) rfl))))) (k_one (k_for PassesOwn.never rfl (i_val (x_frz (s_callK G_steps_from rfl hr (by omega) (by rfl) (aa_val (x_ix imp_ix ix_seq (opo (pv 0)) (opo (pv 5)) (fun _ _ => rfl)) (aa_val (x_ix imp_ix ix_seq (opo (pv 1)) (opo (pv 5)) (fun _ _ => rfl)) aa_nil)))) rfl) (g_name (pg_name sc_meets.nd rfl (.inl rfl) (.inl rfl))) (k_one (k_if (t_cmp imp_eq (op_eqA hr) (ope (x_frz (s_slS rfl (opo (pv 6)) (b_some x_int) (b_some x_int)))) (ope (x_tup (a_cons (x_str (t := .hear)) (a_cons (x_var (pv 3)) (a_cons (x_ix imp_ix ix_seq (opo (pv 4)) (ope x_int) (fun _ _ => rfl)) a_nil))))) rfl) (k_cons (k_set (ps_set sc_meets.nd rfl (.inl rfl) (s_callK G_with_states rfl hr (by omega) (by rfl) (aa_val (x_var (pv 1)) (aa_val (x_var (pv 3)) (aa_val (x_ix imp_ix ix_seq (opo (pv 4)) (ope x_int) (fun _ _ => rfl)) (aa_val (x_var (pv 5)) (aa_val (x_ix imp_ix ix_seq (opo (pv 6)) (ope x_int) (fun _ _ => rfl)) aa_nil)))))) rfl (.inl rfl))) (k_one (let h := (x_tup (a_cons (x_var (pv 3)) (a_cons (x_var (pv 5)) (a_cons (x_ix imp_ix ix_seq (opo (pv 4)) (ope x_int) (fun _ _ => rfl)) (a_cons (x_var (pv 7)) a_nil))))); k_app (pv 2) h rfl rfl (pe_bm PySem.F.plainAttrs_list PySem.F.slot_list_append PySem.F.type_list_append mt_append (pv 2) (pa_cons h pa_nil))))) k_nil)))) k_nil)))))) (k_one (k_ret (s_callB imp_sorted (cr_sortD hr) (by rfl) fr.sorted rfl (opo (pv 2))))))))
abbrev N_rows_of : List Str := ["machines", "most", "found", "at", "row", "states", "_", "a", "b", "letter", "after"]
abbrev S_rows_of : Scope := defScope (top 12)
theorem sc_rows_of : FnScope N_rows_of ["machines", "most"] S_rows_of := sc_of (by decide +kernel)
theorem ok_rows_of (fr : Frees mg) {f : Addr} {fd : FuncData} (F : FunD K "rows_of" "rows_of" (defArgs (top 12)) (defBody (top 12)) S_rows_of [] [] f fd) (hm : mg "rows_of" = some (.ref f)) (G_begin : Known P w K mg base cls 1 "begin" f_begin) (G_meets : Known P w K mg base cls 2 "meets" f_meets) : Known P w K mg base cls 3 "rows_of" f_rows_of :=
  fn_known (N := N_rows_of) (k := 2) (b := m_rows_of) F hm sc_rows_of (by decide) (fun _ _ _ _ _ _ us hl => match us, hl with | [_, _], _ => rfl) (fun cdv A outer s H E hr => have hu := hr.units1; (k_cons (k_set (ps_set sc_rows_of.nd rfl (.inl rfl) (s_lst (a_cons (x_tup (a_cons (x_tup a_nil) (a_cons (x_frz (s_callK G_begin rfl hr (by omega) (by rfl) (aa_val (x_var (pv 0)) aa_nil))) a_nil))) a_nil)) rfl (.inl rfl))) (k_cons (k_set (ps_set sc_rows_of.nd rfl (.inl rfl) (s_val x_int) rfl (.inl rfl))) (k_cons (k_while PassesOwn.never (t_cmp (imp_cmp _) op_lt (opo (pv 3)) (ope (x_callB imp_len call_len_seq (by rfl) fr.len rfl (opo (pv 2)))) rfl) (k_cons (k_asg (ps_asg (x_ix imp_ix ix_seq (opo (pv 2)) (opo (pv 3)) (fun _ _ => rfl)) (g_tup rfl rfl (gs_cons (g_name (pg_name sc_rows_of.nd rfl (.inr rfl) (.inl rfl))) (gs_cons (g_name (pg_name sc_rows_of.nd rfl (.inl rfl) (.inl rfl))) gs_nil)) (gsCons_len (gsCons_len gsNil_len))))) (k_cons (k_if (t_cmp (imp_cmp _) op_lt (ope (x_callB imp_len call_len_seq (by rfl) fr.len rfl (opo (pv 4)))) (opo (pv 1)) rfl) (k_one (k_ext rfl (pe_bm PySem.F.plainAttrs_list PySem.F.slot_list_extend PySem.F.type_list_extend mt_extend (pv 2) (pa_cons (Opd.run (ope (x_frz ((pe_lc (own := [("a", 7), ("b", 8), ("letter", 9), ("after", 10)]) rfl sc_rows_of.nd (i_val (x_frz (s_callK G_meets rfl hr (by omega) (by rfl) (aa_val (x_var (pv 0)) (aa_val (x_var (pv 5)) aa_nil)))) rfl) (blk_of (N := N_rows_of) (sc := S_rows_of) (by decide +kernel)) (fun s H C cl fp => (c_tup rfl rfl (cs_cons (c_name (by decide) (pg_name sc_rows_of.nd rfl (.inl rfl) (.inr rfl))) (cs_cons (c_name (by decide) (pg_name sc_rows_of.nd rfl (.inl rfl) (.inr rfl))) (cs_cons (c_name (by decide) (pg_name sc_rows_of.nd rfl (.inl rfl) (.inr rfl))) (cs_cons (c_name (by decide) (pg_name sc_rows_of.nd rfl (.inl rfl) (.inr rfl))) cs_nil)))) (gsCons_len (gsCons_len (gsCons_len (gsCons_len gsNil_len)))))) (fun s H C cl fp => ts_nil) (fun s H C cl fp => (x_tup (a_cons (x_frz (s_add rfl (opo (pv 4)) (ope (x_tup (a_cons (x_tup (a_cons (x_var (pv 7)) (a_cons (x_var (pv 8)) (a_cons (x_var (pv 9)) a_nil)))) a_nil))))) (a_cons (x_var (pv 10)) a_nil))))).imp s_compI)))) pa_nil)))) k_nil) (k_one (k_aug imp_augA (ps_aug sc_rows_of.nd rfl (.inl rfl) (Opd.run (ope x_int)) ip_augA (.inl rfl))))))) (k_one (k_ret (s_sortSetK hr rfl rfl (by rfl) fr.sorted (by rfl) fr.set (ope (x_frz ((pe_lc (own := [("row", 4), ("_", 6)]) rfl sc_rows_of.nd (i_val (x_var (pv 2)) rfl) (blk_of (N := N_rows_of) (sc := S_rows_of) (by decide +kernel)) (fun s H C cl fp => (c_tup rfl rfl (cs_cons (c_name (by decide) (pg_name sc_rows_of.nd rfl (.inl rfl) (.inr rfl))) (cs_cons (c_name (by decide) (pg_name sc_rows_of.nd rfl (.inl rfl) (.inr rfl))) cs_nil)) (gsCons_len (gsCons_len gsNil_len)))) (fun s H C cl fp => ts_nil) (fun s H C cl fp => (x_var (pv 4)))).imp s_compI))))))))))
abbrev N__law_walked : List Str := ["machines", "row", "states", "saying", "found", "entry"]
abbrev S__law_walked : Scope := defScope (top 45)
theorem sc__law_walked : FnScope N__law_walked ["machines", "row"] S__law_walked := sc_of (by decide +kernel)
theorem ok__law_walked (fr : Frees mg) {f : Addr} {fd : FuncData} (F : FunD K "_law_walked" "_law_walked" (defArgs (top 45)) (defBody (top 45)) S__law_walked [] [] f fd) (hm : mg "_law_walked" = some (.ref f)) (G__law_meets : Known P w K mg base cls 2 "_law_meets" f__law_meets) : Known P w K mg base cls 3 "_law_walked" f__law_walked :=
  fn_known (N := N__law_walked) (k := 2) (b := m__law_walked) F hm sc__law_walked (by decide) (fun _ _ _ _ _ _ us hl => match us, hl with | [_, _], _ => rfl) (fun cdv A outer s H E hr => have hu := hr.units1; (k_cons (k_set (ps_set sc__law_walked.nd rfl (.inl rfl) (s_val (x_tup (a_cons x_int (a_cons x_int (a_cons x_int (a_cons x_int a_nil)))))) rfl (.inl rfl))) (k_cons (k_for PassesOwn.never rfl (i_val (x_var (pv 1)) rfl) (g_name (pg_name sc__law_walked.nd rfl (.inr rfl) (.inl rfl))) (k_cons (k_setT s_compI (ps_setLc (own := [("entry", 5)]) rfl sc__law_walked.nd rfl rfl rfl (i_val (x_frz (s_callK G__law_meets rfl hr (by omega) (by rfl) (aa_val (x_var (pv 0)) (aa_val (x_var (pv 2)) aa_nil)))) rfl) (blk_of (N := N__law_walked) (sc := S__law_walked) (by decide +kernel)) (fun s H C cl fp => (c_name (by decide) (pg_name sc__law_walked.nd rfl (.inl rfl) (.inr rfl)))) (fun s H C cl fp => (ts_one (t_cmp imp_eq (op_eqA hr) (ope (x_frz (s_slS rfl (opo (pv 5)) b_none (b_some x_int)))) (opo (pv 3)) rfl))) (fun s H C cl fp => (x_ix imp_ix ix_seq (opo (pv 5)) (ope x_int) (fun _ _ => rfl))))) (k_cons (k_if (t_cmp imp_eq (op_eqA hr) (opo (pv 4)) (ope (x_frz (s_lst a_nil))) rfl) (k_one (k_ret (s_val x_non))) k_nil) (k_one (k_set (ps_set sc__law_walked.nd rfl (.inl rfl) (s_val (x_ix imp_ix ix_seq (opo (pv 4)) (ope x_int) (fun _ _ => rfl))) rfl (.inl rfl))))))) (k_one (k_ret (s_val (x_var (pv 2))))))))
abbrev N_put_for : List Str := ["value", "name", "other", "letter", "after"]
abbrev S_put_for : Scope := defScope (top 2)
theorem sc_put_for : FnScope N_put_for ["value", "name", "other"] S_put_for := sc_of (by decide +kernel)
theorem ok_put_for (fr : Frees mg) {f : Addr} {fd : FuncData} (F : FunD K "put_for" "put_for" (defArgs (top 2)) (defBody (top 2)) S_put_for [] [] f fd) (hm : mg "put_for" = some (.ref f)) : ∀ k : Nat, Known P w K mg base cls (1 + k) "put_for" (f_put_for k)
  | 0 => fn_known (N := N_put_for) (k := 0) F hm sc_put_for (by decide) (fun _ _ _ _ _ _ us hl => match us, hl with | [_, _, _], _ => rfl) (fun _ _ _ _ _ _ _ => ss_no)
  | k + 1 => (fn_known (N := N_put_for) (k := 1 + k) (b := m_put_for (f_put_for k)) F hm sc_put_for (by decide) (fun _ _ _ _ _ _ us hl => match us, hl with | [_, _, _], _ => rfl) (have G_put_for := ok_put_for fr F hm  k; (fun cdv A outer s H E hr => have hu := hr.units1; (k_cons (k_if (t_cmp imp_eq (op_eqA hr) (ope (x_ix imp_ix ix_seq (opo (pv 0)) (ope x_int) (fun _ _ => rfl))) (ope (x_str (t := .again))) rfl) (k_one (k_ret (s_val (x_if (t_cmp imp_eq (op_eqA hr) (ope (x_ix imp_ix ix_seq (opo (pv 0)) (ope x_int) (fun _ _ => rfl))) (opo (pv 1)) rfl) (x_var (pv 2)) (x_var (pv 0)))))) k_nil) (k_cons (k_if (t_cmp imp_eq (op_eqA hr) (ope (x_ix imp_ix ix_seq (opo (pv 0)) (ope x_int) (fun _ _ => rfl))) (ope (x_str (t := .loop))) rfl) (k_one (k_ret (s_val (x_if (t_cmp imp_eq (op_eqA hr) (ope (x_ix imp_ix ix_seq (opo (pv 0)) (ope x_int) (fun _ _ => rfl))) (opo (pv 1)) rfl) (x_var (pv 0)) (x_tup (a_cons (x_str (t := .loop)) (a_cons (x_ix imp_ix ix_seq (opo (pv 0)) (ope x_int) (fun _ _ => rfl)) (a_cons (x_frz (s_callK G_put_for rfl hr (by omega) (by rfl) (aa_val (x_ix imp_ix ix_seq (opo (pv 0)) (ope x_int) (fun _ _ => rfl)) (aa_val (x_var (pv 1)) (aa_val (x_var (pv 2)) aa_nil))))) a_nil)))))))) k_nil) (k_cons (k_if (t_cmp imp_eq (op_eqA hr) (ope (x_ix imp_ix ix_seq (opo (pv 0)) (ope x_int) (fun _ _ => rfl))) (ope (x_str (t := .«end»))) rfl) (k_one (k_ret (s_val (x_var (pv 0))))) k_nil) (k_one (k_ret (s_add rfl (ope (x_frz (s_slS rfl (opo (pv 0)) b_none (b_some x_int)))) (ope (x_tup (a_cons (x_callTy imp_tupOf call_tupM (by rfl) fr.tuple rfl (ope (x_frz ((pe_lc (own := [("letter", 3), ("after", 4)]) rfl sc_put_for.nd (i_val (x_ix imp_ix ix_seq (opo (pv 0)) (ope x_int) (fun _ _ => rfl)) rfl) (blk_of (N := N_put_for) (sc := S_put_for) (by decide +kernel)) (fun s H C cl fp => (c_tup rfl rfl (cs_cons (c_name (by decide) (pg_name sc_put_for.nd rfl (.inl rfl) (.inr rfl))) (cs_cons (c_name (by decide) (pg_name sc_put_for.nd rfl (.inl rfl) (.inr rfl))) cs_nil)) (gsCons_len (gsCons_len gsNil_len)))) (fun s H C cl fp => ts_nil) (fun s H C cl fp => (x_tup (a_cons (x_var (pv 3)) (a_cons (x_frz (s_callK G_put_for rfl hr (by omega) (by rfl) (aa_val (x_var (pv 4)) (aa_val (x_var (pv 1)) (aa_val (x_var (pv 2)) aa_nil))))) a_nil))))).imp s_compI)))) a_nil)))))))))))).mono (by omega)
abbrev N_opened : List Str := ["value"]
abbrev S_opened : Scope := defScope (top 3)
theorem sc_opened : FnScope N_opened ["value"] S_opened := sc_of (by decide +kernel)
theorem ok_opened (fr : Frees mg) {f : Addr} {fd : FuncData} (F : FunD K "opened" "opened" (defArgs (top 3)) (defBody (top 3)) S_opened [] [] f fd) (hm : mg "opened" = some (.ref f)) (G_put_for : Known P w K mg base cls 41 "put_for" (f_put_for 40)) : Known P w K mg base cls 42 "opened" f_opened :=
  fn_known (N := N_opened) (k := 41) (b := m_opened) F hm sc_opened (by decide) (fun _ _ _ _ _ _ us hl => match us, hl with | [_], _ => rfl) (fun cdv A outer s H E hr => have hu := hr.units1; (k_cons (k_while PassesOwn.never (t_cmp imp_eq (op_eqA hr) (ope (x_ix imp_ix ix_seq (opo (pv 0)) (ope x_int) (fun _ _ => rfl))) (ope (x_str (t := .loop))) rfl) (k_one (k_set (ps_set sc_opened.nd rfl (.inl rfl) (s_callK G_put_for rfl hr (by omega) (by rfl) (aa_val (x_ix imp_ix ix_seq (opo (pv 0)) (ope x_int) (fun _ _ => rfl)) (aa_val (x_ix imp_ix ix_seq (opo (pv 0)) (ope x_int) (fun _ _ => rfl)) (aa_val (x_var (pv 0)) aa_nil)))) rfl (.inl rfl))))) (k_one (k_ret (s_val (x_var (pv 0)))))))
abbrev N_machine_of : List Str := ["part", "found", "steps", "at", "here", "letter", "after"]
abbrev S_machine_of : Scope := defScope (top 6)
theorem sc_machine_of : FnScope N_machine_of ["part"] S_machine_of := sc_of (by decide +kernel)
theorem ok_machine_of (fr : Frees mg) {f : Addr} {fd : FuncData} (F : FunD K "machine_of" "machine_of" (defArgs (top 6)) (defBody (top 6)) S_machine_of [] [] f fd) (hm : mg "machine_of" = some (.ref f)) (G_opened : Known P w K mg base cls 42 "opened" f_opened) : Known P w K mg base cls 43 "machine_of" f_machine_of :=
  fn_known (N := N_machine_of) (k := 42) (b := m_machine_of) F hm sc_machine_of (by decide) (fun _ _ _ _ _ _ us hl => match us, hl with | [_], _ => rfl) (fun cdv A outer s H E hr => have hu := hr.units1; (k_cons (k_set (ps_set sc_machine_of.nd rfl (.inl rfl) (s_lst (a_cons (x_frz (s_callK G_opened rfl hr (by omega) (by rfl) (aa_val (x_var (pv 0)) aa_nil))) a_nil)) rfl (.inl rfl))) (k_cons (k_set (ps_set sc_machine_of.nd rfl (.inl rfl) (s_lst a_nil) rfl (.inl rfl))) (k_cons (k_set (ps_set sc_machine_of.nd rfl (.inl rfl) (s_val x_int) rfl (.inl rfl))) (k_cons (k_while PassesOwn.never (t_cmp (imp_cmp _) op_lt (opo (pv 3)) (ope (x_callB imp_len call_len_seq (by rfl) fr.len rfl (opo (pv 1)))) rfl) (k_cons (k_set (ps_set sc_machine_of.nd rfl (.inl rfl) (s_val (x_ix imp_ix ix_seq (opo (pv 1)) (opo (pv 3)) (fun _ _ => rfl))) rfl (.inl rfl))) (k_cons (k_for PassesOwn.never rfl (i_val (x_if (t_cmp imp_ne (op_neA hr) (ope (x_ix imp_ix ix_seq (opo (pv 4)) (ope x_int) (fun _ _ => rfl))) (ope (x_str (t := .«end»))) rfl) (x_ix imp_ix ix_seq (opo (pv 4)) (ope x_int) (fun _ _ => rfl)) (x_tup a_nil)) rfl) (g_tup rfl rfl (gs_cons (g_name (pg_name sc_machine_of.nd rfl (.inl rfl) (.inl rfl))) (gs_cons (g_name (pg_name sc_machine_of.nd rfl (.inl rfl) (.inl rfl))) gs_nil)) (gsCons_len (gsCons_len gsNil_len))) (k_cons (k_set (ps_set sc_machine_of.nd rfl (.inl rfl) (s_callK G_opened rfl hr (by omega) (by rfl) (aa_val (x_var (pv 6)) aa_nil)) rfl (.inl rfl))) (k_cons (k_if (t_cmp (imp_in true) (op_niA hr) (opo (pv 6)) (opo (pv 1)) rfl) (k_one (let h := (x_var (pv 6)); k_app (pv 1) h rfl rfl (pe_bm PySem.F.plainAttrs_list PySem.F.slot_list_append PySem.F.type_list_append mt_append (pv 1) (pa_cons h pa_nil)))) k_nil) (k_one (let h := (x_tup (a_cons (x_var (pv 3)) (a_cons (x_ix imp_ix ix_seq (opo (pv 4)) (ope x_int) (fun _ _ => rfl)) (a_cons (x_ix imp_ix ix_seq (opo (pv 4)) (ope x_int) (fun _ _ => rfl)) (a_cons (x_var (pv 5)) (a_cons (x_index rfl (pe_bm PySem.F.plainAttrs_list PySem.F.slot_list_index PySem.F.type_list_index (mt_indexA hr) (Opd.run (opo (pv 1))) (pa_cons (x_var (pv 6)) pa_nil))) a_nil)))))); k_app (pv 2) h rfl rfl (pe_bm PySem.F.plainAttrs_list PySem.F.slot_list_append PySem.F.type_list_append mt_append (pv 2) (pa_cons h pa_nil))))))) (k_one (k_aug imp_augA (ps_aug sc_machine_of.nd rfl (.inl rfl) (Opd.run (ope x_int)) ip_augA (.inl rfl))))))) (k_one (k_ret (s_val (x_tup (a_cons (x_callB imp_len call_len_seq (by rfl) fr.len rfl (opo (pv 1))) (a_cons (x_callTy imp_tupOf call_tupM (by rfl) fr.tuple rfl (ope (x_frz (s_callB imp_sorted (cr_sortD hr) (by rfl) fr.sorted rfl (opo (pv 2)))))) a_nil)))))))))))
abbrev N_after_row : List Str := ["machines", "row", "states", "saying", "found", "a", "b", "letter", "after"]
abbrev S_after_row : Scope := defScope (top 13)
theorem sc_after_row : FnScope N_after_row ["machines", "row"] S_after_row := sc_of (by decide +kernel)
theorem ok_after_row (fr : Frees mg) {f : Addr} {fd : FuncData} (F : FunD K "after_row" "after_row" (defArgs (top 13)) (defBody (top 13)) S_after_row [] [] f fd) (hm : mg "after_row" = some (.ref f)) (G_begin : Known P w K mg base cls 1 "begin" f_begin) (G_meets : Known P w K mg base cls 2 "meets" f_meets) : Known P w K mg base cls 3 "after_row" f_after_row :=
  fn_known (N := N_after_row) (k := 2) (b := m_after_row) F hm sc_after_row (by decide) (fun _ _ _ _ _ _ us hl => match us, hl with | [_, _], _ => rfl) (fun cdv A outer s H E hr => have hu := hr.units1; (k_cons (k_set (ps_set sc_after_row.nd rfl (.inl rfl) (s_callK G_begin rfl hr (by omega) (by rfl) (aa_val (x_var (pv 0)) aa_nil)) rfl (.inl rfl))) (k_cons (k_for PassesOwn.never rfl (i_val (x_var (pv 1)) rfl) (g_name (pg_name sc_after_row.nd rfl (.inr rfl) (.inl rfl))) (k_cons (k_setT s_compI (ps_setLc (own := [("a", 5), ("b", 6), ("letter", 7), ("after", 8)]) rfl sc_after_row.nd rfl rfl rfl (i_val (x_frz (s_callK G_meets rfl hr (by omega) (by rfl) (aa_val (x_var (pv 0)) (aa_val (x_var (pv 2)) aa_nil)))) rfl) (blk_of (N := N_after_row) (sc := S_after_row) (by decide +kernel)) (fun s H C cl fp => (c_tup rfl rfl (cs_cons (c_name (by decide) (pg_name sc_after_row.nd rfl (.inl rfl) (.inr rfl))) (cs_cons (c_name (by decide) (pg_name sc_after_row.nd rfl (.inl rfl) (.inr rfl))) (cs_cons (c_name (by decide) (pg_name sc_after_row.nd rfl (.inl rfl) (.inr rfl))) (cs_cons (c_name (by decide) (pg_name sc_after_row.nd rfl (.inl rfl) (.inr rfl))) cs_nil)))) (gsCons_len (gsCons_len (gsCons_len (gsCons_len gsNil_len)))))) (fun s H C cl fp => (ts_one (t_cmp imp_eq (op_eqA hr) (ope (x_tup (a_cons (x_var (pv 5)) (a_cons (x_var (pv 6)) (a_cons (x_var (pv 7)) a_nil))))) (opo (pv 3)) rfl))) (fun s H C cl fp => (x_var (pv 8))))) (k_cons (k_if (t_cmp imp_eq (op_eqA hr) (ope (x_callB imp_len call_len_seq (by rfl) fr.len rfl (opo (pv 4)))) (ope x_int) rfl) (k_one (k_ret (s_val x_non))) k_nil) (k_one (k_set (ps_set sc_after_row.nd rfl (.inl rfl) (s_val (x_ix imp_ix ix_seq (opo (pv 4)) (ope x_int) (fun _ _ => rfl))) rfl (.inl rfl))))))) (k_one (k_ret (s_val (x_var (pv 2))))))))
abbrev N_sayings_in : List Str := ["chart", "row", "deed"]
abbrev S_sayings_in : Scope := defScope (top 16)
theorem sc_sayings_in : FnScope N_sayings_in ["chart"] S_sayings_in := sc_of (by decide +kernel)
theorem ok_sayings_in (fr : Frees mg) {f : Addr} {fd : FuncData} (F : FunD K "sayings_in" "sayings_in" (defArgs (top 16)) (defBody (top 16)) S_sayings_in [] [] f fd) (hm : mg "sayings_in" = some (.ref f)) : Known P w K mg base cls 1 "sayings_in" f_sayings_in :=
  fn_known (N := N_sayings_in) (k := 0) (b := m_sayings_in) F hm sc_sayings_in (by decide) (fun _ _ _ _ _ _ us hl => match us, hl with | [_], _ => rfl) (fun cdv A outer s H E hr => have hu := hr.units1; (k_one (k_ret (s_val (x_callB imp_sum (cr_sum rfl) (by rfl) fr.sum rfl (ope (x_frz ((pe_lc (own := [("row", 1)]) rfl sc_sayings_in.nd (i_val (x_var (pv 0)) rfl) (blk_of (N := N_sayings_in) (sc := S_sayings_in) (by decide +kernel)) (fun s H C cl fp => (c_name (by decide) (pg_name sc_sayings_in.nd rfl (.inl rfl) (.inr rfl)))) (fun s H C cl fp => ts_nil) (fun s H C cl fp => (x_callB imp_len call_len_seq (by rfl) fr.len rfl (ope (x_frz ((pe_lc (own := [("deed", 2)]) rfl sc_sayings_in.nd (i_val (x_var (pv 1)) rfl) (blk_of (N := N_sayings_in) (by rfl)) (fun s H C cl fp => (c_name (by decide) (pg_name sc_sayings_in.nd rfl (.inl rfl) (.inr rfl)))) (fun s H C cl fp => (ts_one (t_cmp imp_eq (op_eqA hr) (ope (x_ix imp_ix ix_seq (opo (pv 2)) (ope x_int) (fun _ _ => rfl))) (ope (x_str (t := .send))) rfl))) (fun s H C cl fp => (x_var (pv 2)))).imp s_compI)))))).imp s_compI))))))))
abbrev N_law : List Str := ["script", "pool", "turn", "machines", "row", "chart", "alone", "due", "k", "short", "role", "part"]
abbrev S_law : Scope := defScope (top 46)
theorem sc_law : FnScope N_law ["script"] S_law := sc_of (by decide +kernel)
theorem ok_law (fr : Frees mg) {f : Addr} {fd : FuncData} (F : FunD K "law" "law" (defArgs (top 46)) (defBody (top 46)) S_law [] [] f fd) (hm : mg "law" = some (.ref f)) (G__law_pool : Known P w K mg base cls 1 "_law_pool" f__law_pool) (G__law_bad_machines : Known P w K mg base cls 87 "_law_bad_machines" f__law_bad_machines) (G__law_drawn_row : Known P w K mg base cls 4 "_law_drawn_row" f__law_drawn_row) (G_of_sayings : Known P w K mg base cls 1 "of_sayings" f_of_sayings) (G__law_draw : Known P w K mg base cls 2 "_law_draw" f__law_draw) (G_after_rows : Known P w K mg base cls 2 "after_rows" f_after_rows) (G__law_same : Known P w K mg base cls 41 "_law_same" (f__law_same 40)) (G_rows_of : Known P w K mg base cls 3 "rows_of" f_rows_of) (G__law_walked : Known P w K mg base cls 3 "_law_walked" f__law_walked) (G_machine_of : Known P w K mg base cls 43 "machine_of" f_machine_of) (G_after_row : Known P w K mg base cls 3 "after_row" f_after_row) (G_sayings_in : Known P w K mg base cls 1 "sayings_in" f_sayings_in) (G__law_parts : Known P w K mg base cls 85 "_law_parts" f__law_parts) (G__law_good_talk : Known P w K mg base cls 86 "_law_good_talk" f__law_good_talk) : FnOk P w K mg base CX0 88 f fd ["script"] (spF ⟨K, cls⟩ f_law) :=
  fn_ok (N := N_law) (k := 87) (b := m_law) F sc_law (by decide) (fun cdv A outer s H E hr => have hu := hr.units1; (k_cons (k_set (ps_set sc_law.nd rfl (.inl rfl) (s_callK G__law_pool rfl hr (by omega) (by rfl) (aa_val (x_var (pv 0)) aa_nil)) rfl (.inl rfl))) (k_cons (k_for PassesOwn.never rfl (i_r1 (by rfl) fr.range x_int) (g_name (pg_name sc_law.nd rfl (.inl rfl) (.inl rfl))) (k_cons (k_set (ps_set sc_law.nd rfl (.inr rfl) (s_callK G__law_bad_machines rfl hr (by omega) (by rfl) (aa_io (pv 1) aa_nil)) rfl (.inl rfl))) (k_cons (k_if (t_cmp imp_eq (op_eqA hr) (ope (x_frz (s_callK G__law_draw rfl hr (by omega) (by rfl) (aa_io (pv 1) (aa_val x_int aa_nil))))) (ope x_int) rfl) (k_one (k_set (ps_set sc_law.nd rfl (.inr rfl) (s_val (x_callTy imp_tupOf call_tupM (by rfl) fr.tuple rfl (ope (x_frz ((pe_lc (own := [("part", 11)]) rfl sc_law.nd (i_val (x_frz (s_callK G__law_parts rfl hr (by omega) (by rfl) (aa_val (x_frz (s_callK G__law_good_talk rfl hr (by omega) (by rfl) (aa_io (pv 1) aa_nil))) aa_nil))) rfl) (blk_of (N := N_law) (sc := S_law) (by decide +kernel)) (fun s H C cl fp => (c_name (by decide) (pg_name sc_law.nd rfl (.inl rfl) (.inr rfl)))) (fun s H C cl fp => ts_nil) (fun s H C cl fp => (x_frz (s_callK G_machine_of rfl hr (by omega) (by rfl) (aa_val (x_var (pv 11)) aa_nil))))).imp s_compI))))) rfl (.inl rfl)))) k_nil) (k_cons (k_set (ps_set sc_law.nd rfl (.inl rfl) (s_callK G__law_drawn_row rfl hr (by omega) (by rfl) (aa_io (pv 1) (aa_val (x_var (pv 3)) (aa_val x_int aa_nil)))) rfl (.inl rfl))) (k_cons (k_set (ps_set sc_law.nd rfl (.inr rfl) (s_callK G_of_sayings rfl hr (by omega) (by rfl) (aa_val (x_var (pv 4)) aa_nil)) rfl (.inl rfl))) (k_cons (k_setT s_compI (ps_setLc (own := [("role", 10)]) rfl sc_law.nd rfl rfl rfl (i_r1 (by rfl) fr.range x_int) (blk_of (N := N_law) (sc := S_law) (by decide +kernel)) (fun s H C cl fp => (c_name (by decide) (pg_name sc_law.nd rfl (.inl rfl) (.inr rfl)))) (fun s H C cl fp => ts_nil) (fun s H C cl fp => (x_frz (s_callK G_after_rows rfl hr (by omega) (by rfl) (aa_val (x_ix imp_ix ix_seq (opo (pv 3)) (opo (pv 10)) (fun _ _ => rfl)) (aa_val (x_ix imp_ix ix_seq (opo (pv 5)) (opo (pv 10)) (fun _ _ => rfl)) aa_nil))))))) (k_cons (k_set (ps_set sc_law.nd rfl (.inl rfl) (s_val (x_if (t_cmp (imp_in false) (op_inA hr) (ope x_non) (opo (pv 6)) rfl) x_non (x_callTy imp_tupOf call_tupM (by rfl) fr.tuple rfl (opo (pv 6))))) rfl (.inl rfl))) (k_cons (k_if (t_not (t_val (x_frz (s_callK G__law_same rfl hr (by omega) (by rfl) (aa_val (x_frz (s_lst (a_cons (x_frz (s_callK G_after_row rfl hr (by omega) (by rfl) (aa_val (x_var (pv 3)) (aa_val (x_var (pv 4)) aa_nil)))) (a_cons (x_frz (s_callK G__law_walked rfl hr (by omega) (by rfl) (aa_val (x_var (pv 3)) (aa_val (x_var (pv 4)) aa_nil)))) (a_cons (x_frz (s_callK G_sayings_in rfl hr (by omega) (by rfl) (aa_val (x_var (pv 5)) aa_nil))) a_nil))))) (aa_val (x_frz (s_lst (a_cons (x_var (pv 7)) (a_cons (x_var (pv 7)) (a_cons (x_callB imp_len call_len_seq (by rfl) fr.len rfl (opo (pv 4))) a_nil))))) aa_nil)))))) (k_one (k_ret (s_val x_bl))) k_nil) (k_cons (k_for PassesOwn.never rfl (i_r1 (by rfl) fr.range (x_callB imp_len call_len_seq (by rfl) fr.len rfl (opo (pv 4)))) (g_name (pg_name sc_law.nd rfl (.inl rfl) (.inl rfl))) (k_one (k_if (t_w (w_and (t_cmp imp_notN op_notN (opo (pv 7)) (ope x_non) rfl) (w_and1 (t_cmp imp_isN op_isN (ope (x_frz (s_callK G_after_row rfl hr (by omega) (by rfl) (aa_val (x_var (pv 3)) (aa_val (x_frz (s_slS rfl (opo (pv 4)) b_none (b_some (x_var (pv 8))))) aa_nil))))) (ope x_non) rfl)))) (k_one (k_ret (s_val x_bl))) k_nil))) (k_cons (k_set (ps_set sc_law.nd rfl (.inl rfl) (s_slS rfl (opo (pv 4)) b_none (b_some x_int)) rfl (.inl rfl))) (k_one (k_if (t_cmp imp_ne (op_neA hr) (ope (x_cmp (imp_in false) (op_inA hr) (opo (pv 9)) (ope (x_frz (s_callK G_rows_of rfl hr (by omega) (by rfl) (aa_val (x_var (pv 3)) (aa_val (x_callB imp_len call_len_seq (by rfl) fr.len rfl (opo (pv 9))) aa_nil))))) rfl)) (ope (x_cmp imp_notN op_notN (ope (x_frz (s_callK G__law_walked rfl hr (by omega) (by rfl) (aa_val (x_var (pv 3)) (aa_val (x_var (pv 9)) aa_nil))))) (ope x_non) rfl)) rfl) (k_one (k_ret (s_val x_bl))) k_nil)))))))))))) (k_one (k_ret (s_val x_bl))))))
end
end ET
set_option Elab.async false
set_option maxRecDepth 100000
set_option maxHeartbeats 0
namespace ET
open PySem PySem.Spec PyProof.Rows L2
def dd_put_for : He.DefD := ⟨("put_for", none), "put_for", "put_for", defArgs (top 2), defBody (top 2), defScope (top 2), [], []⟩
def dd_opened : He.DefD := ⟨("opened", none), "opened", "opened", defArgs (top 3), defBody (top 3), defScope (top 3), [], []⟩
def dd_steps_from : He.DefD := ⟨("steps_from", none), "steps_from", "steps_from", defArgs (top 5), defBody (top 5), defScope (top 5), [], []⟩
def dd_machine_of : He.DefD := ⟨("machine_of", none), "machine_of", "machine_of", defArgs (top 6), defBody (top 6), defScope (top 6), [], []⟩
def dd_after_rows : He.DefD := ⟨("after_rows", none), "after_rows", "after_rows", defArgs (top 7), defBody (top 7), defScope (top 7), [], []⟩
def dd_begin : He.DefD := ⟨("begin", none), "begin", "begin", defArgs (top 9), defBody (top 9), defScope (top 9), [], []⟩
def dd_meets : He.DefD := ⟨("meets", none), "meets", "meets", defArgs (top 10), defBody (top 10), defScope (top 10), [], []⟩
def dd_with_states : He.DefD := ⟨("with_states", none), "with_states", "with_states", defArgs (top 11), defBody (top 11), defScope (top 11), [], []⟩
def dd_rows_of : He.DefD := ⟨("rows_of", none), "rows_of", "rows_of", defArgs (top 12), defBody (top 12), defScope (top 12), [], []⟩
def dd_after_row : He.DefD := ⟨("after_row", none), "after_row", "after_row", defArgs (top 13), defBody (top 13), defScope (top 13), [], []⟩
def dd_of_sayings : He.DefD := ⟨("of_sayings", none), "of_sayings", "of_sayings", defArgs (top 15), defBody (top 15), defScope (top 15), [], []⟩
def dd_sayings_in : He.DefD := ⟨("sayings_in", none), "sayings_in", "sayings_in", defArgs (top 16), defBody (top 16), defScope (top 16), [], []⟩
def dd__law_same : He.DefD := ⟨("_law_same", none), "_law_same", "_law_same", defArgs (top 18), defBody (top 18), defScope (top 18), [], []⟩
def dd__law_pool : He.DefD := ⟨("_law_pool", none), "_law_pool", "_law_pool", defArgs (top 19), defBody (top 19), defScope (top 19), [], []⟩
def dd__law_spread : He.DefD := ⟨("_law_spread", none), "_law_spread", "_law_spread", defArgs (top 20), defBody (top 20), defScope (top 20), [], []⟩
def dd__law_draw : He.DefD := ⟨("_law_draw", none), "_law_draw", "_law_draw", defArgs (top 21), defBody (top 21), defScope (top 21), [], []⟩
def dd__law_pick : He.DefD := ⟨("_law_pick", none), "_law_pick", "_law_pick", defArgs (top 22), defBody (top 22), defScope (top 22), [], []⟩
def dd__law_shuffled : He.DefD := ⟨("_law_shuffled", none), "_law_shuffled", "_law_shuffled", defArgs (top 23), defBody (top 23), defScope (top 23), [], []⟩
def dd__law_inner : He.DefD := ⟨("_law_inner", none), "_law_inner", "_law_inner", defArgs (top 24), defBody (top 24), defScope (top 24), [], []⟩
def dd__law_many : He.DefD := ⟨("_law_many", none), "_law_many", "_law_many", defArgs (top 25), defBody (top 25), defScope (top 25), [], []⟩
def dd__law_roles : He.DefD := ⟨("_law_roles", none), "_law_roles", "_law_roles", defArgs (top 26), defBody (top 26), defScope (top 26), [], []⟩
def dd__law_draw_talk : He.DefD := ⟨("_law_draw_talk", none), "_law_draw_talk", "_law_draw_talk", defArgs (top 27), defBody (top 27), defScope (top 27), [], []⟩
def dd__law_talk : He.DefD := ⟨("_law_talk", none), "_law_talk", "_law_talk", defArgs (top 28), defBody (top 28), defScope (top 28), [], []⟩
def dd__law_put : He.DefD := ⟨("_law_put", none), "_law_put", "_law_put", defArgs (top 29), defBody (top 29), defScope (top 29), [], []⟩
def dd__law_open : He.DefD := ⟨("_law_open", none), "_law_open", "_law_open", defArgs (top 30), defBody (top 30), defScope (top 30), [], []⟩
def dd__law_part_inner : He.DefD := ⟨("_law_part_inner", none), "_law_part_inner", "_law_part_inner", defArgs (top 31), defBody (top 31), defScope (top 31), [], []⟩
def dd__law_merge : He.DefD := ⟨("_law_merge", none), "_law_merge", "_law_merge", defArgs (top 32), defBody (top 32), defScope (top 32), [], []⟩
def dd__law_ways_out : He.DefD := ⟨("_law_ways_out", none), "_law_ways_out", "_law_ways_out", defArgs (top 33), defBody (top 33), defScope (top 33), [], []⟩
def dd__law_part : He.DefD := ⟨("_law_part", none), "_law_part", "_law_part", defArgs (top 34), defBody (top 34), defScope (top 34), [], []⟩
def dd__law_parted : He.DefD := ⟨("_law_parted", none), "_law_parted", "_law_parted", defArgs (top 35), defBody (top 35), defScope (top 35), [], []⟩
def dd__law_parts : He.DefD := ⟨("_law_parts", none), "_law_parts", "_law_parts", defArgs (top 36), defBody (top 36), defScope (top 36), [], []⟩
def dd__law_good_talk : He.DefD := ⟨("_law_good_talk", none), "_law_good_talk", "_law_good_talk", defArgs (top 37), defBody (top 37), defScope (top 37), [], []⟩
def dd__law_machine : He.DefD := ⟨("_law_machine", none), "_law_machine", "_law_machine", defArgs (top 38), defBody (top 38), defScope (top 38), [], []⟩
def dd__law_machines : He.DefD := ⟨("_law_machines", none), "_law_machines", "_law_machines", defArgs (top 39), defBody (top 39), defScope (top 39), [], []⟩
def dd__law_from : He.DefD := ⟨("_law_from", none), "_law_from", "_law_from", defArgs (top 40), defBody (top 40), defScope (top 40), [], []⟩
def dd__law_meets : He.DefD := ⟨("_law_meets", none), "_law_meets", "_law_meets", defArgs (top 41), defBody (top 41), defScope (top 41), [], []⟩
def dd__law_bad_machines : He.DefD := ⟨("_law_bad_machines", none), "_law_bad_machines", "_law_bad_machines", defArgs (top 42), defBody (top 42), defScope (top 42), [], []⟩
def dd__law_goes : He.DefD := ⟨("_law_goes", none), "_law_goes", "_law_goes", defArgs (top 43), defBody (top 43), defScope (top 43), [], []⟩
def dd__law_drawn_row : He.DefD := ⟨("_law_drawn_row", none), "_law_drawn_row", "_law_drawn_row", defArgs (top 44), defBody (top 44), defScope (top 44), [], []⟩
def dd__law_walked : He.DefD := ⟨("_law_walked", none), "_law_walked", "_law_walked", defArgs (top 45), defBody (top 45), defScope (top 45), [], []⟩
def dd_law : He.DefD := ⟨("law", none), "law", "law", defArgs (top 46), defBody (top 46), defScope (top 46), [], []⟩
def fnL : List He.DefD := [dd_put_for, dd_opened, dd_steps_from, dd_machine_of, dd_after_rows, dd_begin, dd_meets, dd_with_states, dd_rows_of, dd_after_row, dd_of_sayings, dd_sayings_in, dd__law_same, dd__law_pool, dd__law_spread, dd__law_draw, dd__law_pick, dd__law_shuffled, dd__law_inner, dd__law_many, dd__law_roles, dd__law_draw_talk, dd__law_talk, dd__law_put, dd__law_open, dd__law_part_inner, dd__law_merge, dd__law_ways_out, dd__law_part, dd__law_parted, dd__law_parts, dd__law_good_talk, dd__law_machine, dd__law_machines, dd__law_from, dd__law_meets, dd__law_bad_machines, dd__law_goes, dd__law_drawn_row, dd__law_walked, dd_law]
def faL : List He.Fa := [.glo "put_for", .glo "opened", .glo "steps_from", .glo "machine_of", .glo "after_rows", .glo "begin", .glo "meets", .glo "with_states", .glo "rows_of", .glo "after_row", .glo "of_sayings", .glo "sayings_in", .glo "_law_same", .glo "_law_pool", .glo "_law_spread", .glo "_law_draw", .glo "_law_pick", .glo "_law_shuffled", .glo "_law_inner", .glo "_law_many", .glo "_law_roles", .glo "_law_draw_talk", .glo "_law_talk", .glo "_law_put", .glo "_law_open", .glo "_law_part_inner", .glo "_law_merge", .glo "_law_ways_out", .glo "_law_part", .glo "_law_parted", .glo "_law_parts", .glo "_law_good_talk", .glo "_law_machine", .glo "_law_machines", .glo "_law_from", .glo "_law_meets", .glo "_law_bad_machines", .glo "_law_goes", .glo "_law_drawn_row", .glo "_law_walked", .glo "law", .free "len", .free "range", .free "tuple", .free "list", .free "sorted", .free "set", .free "isinstance", .free "int", .free "str", .free "bool", .free "sum", .free "any", .free "all", .free "min", .free "max", .free "dict", .int "ROLES" 4]
abbrev Rr : PySem.W.OpenRow := PySem.W.OpenLaw.row PySem.Challenge.rw_everytalk_k43_whole_rows_seen_by_each_ro
abbrev hkL : PySem.W.Hook := He.hookD 4 faL fnL
def obL (s : PySem.W.SharedT) : He.AlD := He.obsDG 4 faL fnL (HandSHeadRun.getT s)
theorem obL_eq (s : PySem.W.SharedT) : obL s = hkL.obs s.abs := He.obsDG_eq (HandSHeadRun.getT_eq s)
def loose0 : List Str := ["put_for", "opened", "steps_from", "machine_of", "after_rows", "begin", "meets", "with_states", "rows_of", "after_row", "of_sayings", "sayings_in", "_law_same", "_law_pool", "_law_spread", "_law_draw", "_law_pick", "_law_shuffled", "_law_inner", "_law_many", "_law_roles", "_law_draw_talk", "_law_talk", "_law_put", "_law_open", "_law_part_inner", "_law_merge", "_law_ways_out", "_law_part", "_law_parted"]
def loose1 : List Str := ["_law_parts", "_law_good_talk", "_law_machine", "_law_machines", "_law_from", "_law_meets", "_law_bad_machines", "_law_goes", "_law_drawn_row", "_law_walked", "ROLES"]
abbrev looseL : List Str := loose0 ++ loose1
theorem runL (w : World) : HandSHeadRun.RunEq Rr (PySem.W.view Rr.prog [46]) hkL obL 4000 looseL w := by
  intro os
  kernel_rfl
theorem factsL {P : Program} {w : World} {K : PySem.W.Frag} {h : Heap} {mg : Str → Option Value} {f : Addr} (X : K.In h) (G : h.Ns mainGlobals mg) (hfa : mg ("law" : Str) = some (.ref f)) (c : He.SaysD faL fnL K) (LT : LawTrue f_law) :
    ∃ fd : FuncData, (∀ (s : Shared) (v : Value), BindsTo s fd ⟨[v], []⟩ [("script", v)]) ∧ ∀ base : Heap, K.In base → base.Ns mainGlobals mg → FnOk P w K mg base CX0 88 f fd ["script"] (spLaw K) := by
  obtain ⟨fd_put_for, F_put_for⟩ := c.def_ 0 (d := dd_put_for) rfl
  obtain ⟨fd_opened, F_opened⟩ := c.def_ 1 (d := dd_opened) rfl
  obtain ⟨fd_steps_from, F_steps_from⟩ := c.def_ 2 (d := dd_steps_from) rfl
  obtain ⟨fd_machine_of, F_machine_of⟩ := c.def_ 3 (d := dd_machine_of) rfl
  obtain ⟨fd_after_rows, F_after_rows⟩ := c.def_ 4 (d := dd_after_rows) rfl
  obtain ⟨fd_begin, F_begin⟩ := c.def_ 5 (d := dd_begin) rfl
  obtain ⟨fd_meets, F_meets⟩ := c.def_ 6 (d := dd_meets) rfl
  obtain ⟨fd_with_states, F_with_states⟩ := c.def_ 7 (d := dd_with_states) rfl
  obtain ⟨fd_rows_of, F_rows_of⟩ := c.def_ 8 (d := dd_rows_of) rfl
  obtain ⟨fd_after_row, F_after_row⟩ := c.def_ 9 (d := dd_after_row) rfl
  obtain ⟨fd_of_sayings, F_of_sayings⟩ := c.def_ 10 (d := dd_of_sayings) rfl
  obtain ⟨fd_sayings_in, F_sayings_in⟩ := c.def_ 11 (d := dd_sayings_in) rfl
  obtain ⟨fd__law_same, F__law_same⟩ := c.def_ 12 (d := dd__law_same) rfl
  obtain ⟨fd__law_pool, F__law_pool⟩ := c.def_ 13 (d := dd__law_pool) rfl
  obtain ⟨fd__law_spread, F__law_spread⟩ := c.def_ 14 (d := dd__law_spread) rfl
  obtain ⟨fd__law_draw, F__law_draw⟩ := c.def_ 15 (d := dd__law_draw) rfl
  obtain ⟨fd__law_pick, F__law_pick⟩ := c.def_ 16 (d := dd__law_pick) rfl
  obtain ⟨fd__law_shuffled, F__law_shuffled⟩ := c.def_ 17 (d := dd__law_shuffled) rfl
  obtain ⟨fd__law_inner, F__law_inner⟩ := c.def_ 18 (d := dd__law_inner) rfl
  obtain ⟨fd__law_many, F__law_many⟩ := c.def_ 19 (d := dd__law_many) rfl
  obtain ⟨fd__law_roles, F__law_roles⟩ := c.def_ 20 (d := dd__law_roles) rfl
  obtain ⟨fd__law_draw_talk, F__law_draw_talk⟩ := c.def_ 21 (d := dd__law_draw_talk) rfl
  obtain ⟨fd__law_talk, F__law_talk⟩ := c.def_ 22 (d := dd__law_talk) rfl
  obtain ⟨fd__law_put, F__law_put⟩ := c.def_ 23 (d := dd__law_put) rfl
  obtain ⟨fd__law_open, F__law_open⟩ := c.def_ 24 (d := dd__law_open) rfl
  obtain ⟨fd__law_part_inner, F__law_part_inner⟩ := c.def_ 25 (d := dd__law_part_inner) rfl
  obtain ⟨fd__law_merge, F__law_merge⟩ := c.def_ 26 (d := dd__law_merge) rfl
  obtain ⟨fd__law_ways_out, F__law_ways_out⟩ := c.def_ 27 (d := dd__law_ways_out) rfl
  obtain ⟨fd__law_part, F__law_part⟩ := c.def_ 28 (d := dd__law_part) rfl
  obtain ⟨fd__law_parted, F__law_parted⟩ := c.def_ 29 (d := dd__law_parted) rfl
  obtain ⟨fd__law_parts, F__law_parts⟩ := c.def_ 30 (d := dd__law_parts) rfl
  obtain ⟨fd__law_good_talk, F__law_good_talk⟩ := c.def_ 31 (d := dd__law_good_talk) rfl
  obtain ⟨fd__law_machine, F__law_machine⟩ := c.def_ 32 (d := dd__law_machine) rfl
  obtain ⟨fd__law_machines, F__law_machines⟩ := c.def_ 33 (d := dd__law_machines) rfl
  obtain ⟨fd__law_from, F__law_from⟩ := c.def_ 34 (d := dd__law_from) rfl
  obtain ⟨fd__law_meets, F__law_meets⟩ := c.def_ 35 (d := dd__law_meets) rfl
  obtain ⟨fd__law_bad_machines, F__law_bad_machines⟩ := c.def_ 36 (d := dd__law_bad_machines) rfl
  obtain ⟨fd__law_goes, F__law_goes⟩ := c.def_ 37 (d := dd__law_goes) rfl
  obtain ⟨fd__law_drawn_row, F__law_drawn_row⟩ := c.def_ 38 (d := dd__law_drawn_row) rfl
  obtain ⟨fd__law_walked, F__law_walked⟩ := c.def_ 39 (d := dd__law_walked) rfl
  obtain ⟨fd_law, F_law⟩ := c.def_ 40 (d := dd_law) rfl
  have e := hfa.symm.trans (He.glo_ok X G (c.fact 40 (f := .glo "law") rfl))
  cases e
  have fr : Frees mg := ⟨He.free_ok X G (c.fact 41 (f := .free "len") rfl), He.free_ok X G (c.fact 42 (f := .free "range") rfl), He.free_ok X G (c.fact 43 (f := .free "tuple") rfl), He.free_ok X G (c.fact 44 (f := .free "list") rfl), He.free_ok X G (c.fact 45 (f := .free "sorted") rfl), He.free_ok X G (c.fact 46 (f := .free "set") rfl), He.free_ok X G (c.fact 47 (f := .free "isinstance") rfl), He.free_ok X G (c.fact 48 (f := .free "int") rfl), He.free_ok X G (c.fact 49 (f := .free "str") rfl), He.free_ok X G (c.fact 50 (f := .free "bool") rfl), He.free_ok X G (c.fact 51 (f := .free "sum") rfl), He.free_ok X G (c.fact 52 (f := .free "any") rfl), He.free_ok X G (c.fact 53 (f := .free "all") rfl), He.free_ok X G (c.fact 54 (f := .free "min") rfl), He.free_ok X G (c.fact 55 (f := .free "max") rfl), He.free_ok X G (c.fact 56 (f := .free "dict") rfl)⟩
  obtain ⟨t_ROLES, gi_ROLES⟩ := He.int_ok X G (c.fact 57 (f := .int "ROLES" 4) rfl)
  have bb := FunD.bindsA (ps := ["script"]) F_law fun _ _ _ _ _ _ us hl => match us, hl with | [_], _ => rfl
  refine ⟨fd_law, fun s v => bb s [v] rfl, fun base _ _ => ?_⟩
  have G__law_pool : Known P w K mg base (He.ga K) 1 "_law_pool" f__law_pool := ok__law_pool fr F__law_pool (He.glo_ok X G (c.fact 13 (f := .glo "_law_pool") rfl)) 
  have G__law_put : Known P w K mg base (He.ga K) 41 "_law_put" (f__law_put 40) := (ok__law_put fr F__law_put (He.glo_ok X G (c.fact 23 (f := .glo "_law_put") rfl))   40).mono (by omega)
  have G__law_open : Known P w K mg base (He.ga K) 42 "_law_open" f__law_open := ok__law_open fr F__law_open (He.glo_ok X G (c.fact 24 (f := .glo "_law_open") rfl)) G__law_put
  have G__law_machine : Known P w K mg base (He.ga K) 43 "_law_machine" f__law_machine := ok__law_machine fr F__law_machine (He.glo_ok X G (c.fact 32 (f := .glo "_law_machine") rfl)) G__law_open
  have G__law_ways_out : Known P w K mg base (He.ga K) 41 "_law_ways_out" (f__law_ways_out 40) := (ok__law_ways_out fr F__law_ways_out (He.glo_ok X G (c.fact 27 (f := .glo "_law_ways_out") rfl))   40).mono (by omega)
  have G__law_inner : Known P w K mg base (He.ga K) 1 "_law_inner" f__law_inner := ok__law_inner fr F__law_inner (He.glo_ok X G (c.fact 18 (f := .glo "_law_inner") rfl)) 
  have G__law_roles : Known P w K mg base (He.ga K) 42 "_law_roles" (f__law_roles 40) := (ok__law_roles fr F__law_roles (He.glo_ok X G (c.fact 20 (f := .glo "_law_roles") rfl)) G__law_inner  40).mono (by omega)
  have G__law_many : Known P w K mg base (He.ga K) 42 "_law_many" (f__law_many 40) := (ok__law_many fr F__law_many (He.glo_ok X G (c.fact 19 (f := .glo "_law_many") rfl)) G__law_inner  40).mono (by omega)
  have G__law_merge : Known P w K mg base (He.ga K) 41 "_law_merge" (f__law_merge 40) := (ok__law_merge fr F__law_merge (He.glo_ok X G (c.fact 26 (f := .glo "_law_merge") rfl))   40).mono (by omega)
  have G__law_part_inner : Known P w K mg base (He.ga K) 1 "_law_part_inner" f__law_part_inner := ok__law_part_inner fr F__law_part_inner (He.glo_ok X G (c.fact 25 (f := .glo "_law_part_inner") rfl)) 
  have G__law_goes : Known P w K mg base (He.ga K) 42 "_law_goes" (f__law_goes 40) := (ok__law_goes fr F__law_goes (He.glo_ok X G (c.fact 37 (f := .glo "_law_goes") rfl)) G__law_part_inner  40).mono (by omega)
  have G__law_part : Known P w K mg base (He.ga K) 83 "_law_part" (f__law_part 40) := (ok__law_part fr F__law_part (He.glo_ok X G (c.fact 28 (f := .glo "_law_part") rfl)) G__law_ways_out G__law_roles G__law_many G__law_merge G__law_goes  40).mono (by omega)
  have G__law_parted : Known P w K mg base (He.ga K) 84 "_law_parted" f__law_parted := ok__law_parted fr F__law_parted (He.glo_ok X G (c.fact 29 (f := .glo "_law_parted") rfl)) G__law_part
  have G__law_parts : Known P w K mg base (He.ga K) 85 "_law_parts" f__law_parts := ok__law_parts fr F__law_parts (He.glo_ok X G (c.fact 30 (f := .glo "_law_parts") rfl)) G__law_parted
  have G__law_machines : Known P w K mg base (He.ga K) 86 "_law_machines" f__law_machines := ok__law_machines fr F__law_machines (He.glo_ok X G (c.fact 33 (f := .glo "_law_machines") rfl)) G__law_machine G__law_parts
  have G__law_spread : Known P w K mg base (He.ga K) 1 "_law_spread" f__law_spread := ok__law_spread fr F__law_spread (He.glo_ok X G (c.fact 14 (f := .glo "_law_spread") rfl)) 
  have G__law_draw : Known P w K mg base (He.ga K) 2 "_law_draw" f__law_draw := ok__law_draw fr F__law_draw (He.glo_ok X G (c.fact 15 (f := .glo "_law_draw") rfl)) G__law_spread
  have G__law_pick : Known P w K mg base (He.ga K) 3 "_law_pick" f__law_pick := ok__law_pick fr F__law_pick (He.glo_ok X G (c.fact 16 (f := .glo "_law_pick") rfl)) G__law_draw
  have G__law_shuffled : Known P w K mg base (He.ga K) 3 "_law_shuffled" f__law_shuffled := ok__law_shuffled fr F__law_shuffled (He.glo_ok X G (c.fact 17 (f := .glo "_law_shuffled") rfl)) G__law_draw
  have G__law_draw_talk : Known P w K mg base (He.ga K) 44 "_law_draw_talk" (f__law_draw_talk 40) := (ok__law_draw_talk fr F__law_draw_talk (He.glo_ok X G (c.fact 21 (f := .glo "_law_draw_talk") rfl)) G__law_draw G__law_shuffled G__law_pick  40).mono (by omega)
  have G__law_talk : Known P w K mg base (He.ga K) 45 "_law_talk" f__law_talk := ok__law_talk fr F__law_talk (He.glo_ok X G (c.fact 22 (f := .glo "_law_talk") rfl)) G__law_pick G__law_draw_talk
  have G__law_good_talk : Known P w K mg base (He.ga K) 86 "_law_good_talk" f__law_good_talk := ok__law_good_talk fr F__law_good_talk (He.glo_ok X G (c.fact 31 (f := .glo "_law_good_talk") rfl)) G__law_talk G__law_parts
  have G__law_bad_machines : Known P w K mg base (He.ga K) 87 "_law_bad_machines" f__law_bad_machines := ok__law_bad_machines fr F__law_bad_machines (He.glo_ok X G (c.fact 36 (f := .glo "_law_bad_machines") rfl)) G__law_machines G__law_good_talk G__law_draw
  have G__law_from : Known P w K mg base (He.ga K) 1 "_law_from" f__law_from := ok__law_from fr F__law_from (He.glo_ok X G (c.fact 34 (f := .glo "_law_from") rfl)) 
  have G__law_meets : Known P w K mg base (He.ga K) 2 "_law_meets" f__law_meets := ok__law_meets fr F__law_meets (He.glo_ok X G (c.fact 35 (f := .glo "_law_meets") rfl)) G__law_from
  have G__law_drawn_row : Known P w K mg base (He.ga K) 4 "_law_drawn_row" f__law_drawn_row := ok__law_drawn_row fr F__law_drawn_row (He.glo_ok X G (c.fact 38 (f := .glo "_law_drawn_row") rfl)) G__law_meets G__law_draw G__law_pick
  have G_of_sayings : Known P w K mg base (He.ga K) 1 "of_sayings" f_of_sayings := ok_of_sayings fr F_of_sayings (He.glo_ok X G (c.fact 10 (f := .glo "of_sayings") rfl)) gi_ROLES
  have G_steps_from : Known P w K mg base (He.ga K) 1 "steps_from" f_steps_from := ok_steps_from fr F_steps_from (He.glo_ok X G (c.fact 2 (f := .glo "steps_from") rfl)) 
  have G_after_rows : Known P w K mg base (He.ga K) 2 "after_rows" f_after_rows := ok_after_rows fr F_after_rows (He.glo_ok X G (c.fact 4 (f := .glo "after_rows") rfl)) G_steps_from
  have G__law_same : Known P w K mg base (He.ga K) 41 "_law_same" (f__law_same 40) := (ok__law_same fr F__law_same (He.glo_ok X G (c.fact 12 (f := .glo "_law_same") rfl))   40).mono (by omega)
  have G_begin : Known P w K mg base (He.ga K) 1 "begin" f_begin := ok_begin fr F_begin (He.glo_ok X G (c.fact 5 (f := .glo "begin") rfl)) 
  have G_with_states : Known P w K mg base (He.ga K) 1 "with_states" f_with_states := ok_with_states fr F_with_states (He.glo_ok X G (c.fact 7 (f := .glo "with_states") rfl)) 
  have G_meets : Known P w K mg base (He.ga K) 2 "meets" f_meets := ok_meets fr F_meets (He.glo_ok X G (c.fact 6 (f := .glo "meets") rfl)) G_steps_from G_with_states
  have G_rows_of : Known P w K mg base (He.ga K) 3 "rows_of" f_rows_of := ok_rows_of fr F_rows_of (He.glo_ok X G (c.fact 8 (f := .glo "rows_of") rfl)) G_begin G_meets
  have G__law_walked : Known P w K mg base (He.ga K) 3 "_law_walked" f__law_walked := ok__law_walked fr F__law_walked (He.glo_ok X G (c.fact 39 (f := .glo "_law_walked") rfl)) G__law_meets
  have G_put_for : Known P w K mg base (He.ga K) 41 "put_for" (f_put_for 40) := (ok_put_for fr F_put_for (He.glo_ok X G (c.fact 0 (f := .glo "put_for") rfl))   40).mono (by omega)
  have G_opened : Known P w K mg base (He.ga K) 42 "opened" f_opened := ok_opened fr F_opened (He.glo_ok X G (c.fact 1 (f := .glo "opened") rfl)) G_put_for
  have G_machine_of : Known P w K mg base (He.ga K) 43 "machine_of" f_machine_of := ok_machine_of fr F_machine_of (He.glo_ok X G (c.fact 3 (f := .glo "machine_of") rfl)) G_opened
  have G_after_row : Known P w K mg base (He.ga K) 3 "after_row" f_after_row := ok_after_row fr F_after_row (He.glo_ok X G (c.fact 9 (f := .glo "after_row") rfl)) G_begin G_meets
  have G_sayings_in : Known P w K mg base (He.ga K) 1 "sayings_in" f_sayings_in := ok_sayings_in fr F_sayings_in (He.glo_ok X G (c.fact 11 (f := .glo "sayings_in") rfl)) 
  exact (ok_law (cls := He.ga K) fr F_law (He.glo_ok X G (c.fact 40 (f := .glo "law") rfl)) G__law_pool G__law_bad_machines G__law_drawn_row G_of_sayings G__law_draw G_after_rows G__law_same G_rows_of G__law_walked G_machine_of G_after_row G_sayings_in G__law_parts G__law_good_talk).imp (lawImp LT)
end ET
open PySem PySem.W PySem.Calls PyProof.Rows
theorem holdsL (LT : ET.LawTrue ET.f_law) : PySem.Challenge.rw_everytalk_k43_whole_rows_seen_by_each_ro.Holds := by
  w_on; o_law
  refine HandSHeadRun.head_any (r := OpenLaw.row PySem.Challenge.rw_everytalk_k43_whole_rows_seen_by_each_ro) (q := view (OpenLaw.row PySem.Challenge.rw_everytalk_k43_whole_rows_seen_by_each_ro).prog [46]) (H := ET.hkL) (ob := ET.obL) (M := 4000) (loose := ET.looseL) (d := HandSHeadRun.topDef (OpenLaw.row PySem.Challenge.rw_everytalk_k43_whole_rows_seen_by_each_ro).prog 46) (kwd := []) ET.obL_eq
    (by kernel_rfl) (fun s => by kernel_rfl) ET.runL (by kernel_rfl) (by kernel_rfl) (by kernel_rfl) (by rfl) (by first | assumption | decide +kernel) (by decide +kernel) ⟨rfl, rfl, rfl, rfl, rfl, by decide +kernel⟩ ?hw ?hc
  case hw => w_witness2
  case hc =>
    refine L2.walk_ofE (l := PySem.Challenge.rw_everytalk_k43_whole_rows_seen_by_each_ro) (n := 63) (k := 88) (x := "script") (CX := L2.CX0) rfl (by decide) (by kernel_rfl) ⟨rfl, by decide, by decide⟩ ?F (fun _ _ _ _ z => z)
    intro w mg fa h Y G hmg0
    obtain ⟨K, KX, c⟩ := Y
    have hmg : mg ("law" : PySem.Str) = some (.ref fa) := by
      have e : (HandSHeadRun.topDef (OpenLaw.row PySem.Challenge.rw_everytalk_k43_whole_rows_seen_by_each_ro).prog 46).name = ("law" : PySem.Str) := by kernel_rfl
      rw [← e]
      exact hmg0
    obtain ⟨fd, hb, hF⟩ := ET.factsL (P := (PySem.Challenge.rw_everytalk_k43_whole_rows_seen_by_each_ro).prog) (w := w) KX G hmg c LT
    exact ⟨K, fd, ET.spLaw K, KX, hb, fun H a ns hl _ hS => ⟨a, ns, rfl, hl, hS, fun _ => rfl⟩, hF⟩
set_option maxHeartbeats 400000
theorem PySem.Challenge.cw_everytalk_k43_whole_rows_seen_by_each_ro_holds : PySem.Challenge.rw_everytalk_k43_whole_rows_seen_by_each_ro.Holds := by
  exact holdsL ET.law43
