import PyProof.Rows.All
import Wide.All
import OpenK.AllK
import Wide.FinOn
import KE.DataMinMax
import KE.DatumOrd
import HandS.ForMost
import HandS.Evl
import HandS.TupSets
import HandS.Strs
import HandS.SetFor
import HandS.SortKw
import HandS.Flt
import HandS.Wide
import HandS.WideBits
import HandS.Flow
import HandS.Conv
import HandS.TupLe
import HandS.Walk
import HandS.Sort
import HandS.SortOrd
import HandS.SortRule
import PySem.Challenge.RW_spanshelf_k48_whole_lists_beside
set_option Elab.async false
set_option linter.all false
set_option maxRecDepth 100000
set_option maxHeartbeats 4000000
section
/-! own rules over the hand layer: xs[i] += e of a list, list(d.values()), max(xs, default=i), min and max of three ints, xs.count(None), set(list of ints) -/
namespace SpR
open PySem PySem.Spec PyProof.Rows L2
section
variable {X : Cx}
/-! ### reading xs[i] of a list, for xs[i] += e -/
def rGetL (K : PySem.W.Frag) : V → V → Hp → VK → Prop := fun o i H Q => ∃ p xs j v, o = .ref p ∧ i = .int j ∧ 0 ≤ j ∧ SqL K H p xs ∧ atI xs j = some v ∧ Q v H
theorem get_list : PGet X (rGetL X.K) := by
  intro pins s σ H o i ov iv Q I ro ri h
  obtain ⟨p, xs, j, v, e1, e2, h0, hq, he, q⟩ := h
  subst e1 e2
  cases ro
  obtain ⟨t, rfl⟩ := ri
  obtain ⟨its, r, pl, hz⟩ := I.list hq
  obtain ⟨k, a1, a2, a3, a4, a5⟩ := atI_get he
  obtain ⟨u, eu, ru⟩ := r.get a2
  have hl := r.length
  have hn := line63
  have hk : j.toNat = k := by
    rw [seqIndex_of h0 a5] at a1
    exact Option.some.inj a1
  exact wpAny_getItem_list pl.isList h0 (by omega) (by rw [hk]; simpa using eu) ⟨v, H, I, ru, q⟩
/-! ### d.values(), list(d.values()) -/
def viewV (p d : Addr) : HO := .ext fun h => h.get? p = some { cls := .type "dict_values", data := .fields #[.ref d] }
def tVals (td : TE) : TE := fun σ H Q => td σ H fun x H1 => ∃ d kvs, x = .ref d ∧ H1 d = some (.dK kvs) ∧ ∀ p, H1 p = none → Q (.ref p) (upd H1 p (viewV p d))
theorem pe_values {e : Expr} {td : TE} {apos cpos : Pos} (he : PE X e td) (hbase : attributeBase e "values" X.env (eval e X.env) = eval e X.env := by rfl) (hline : (apos.endLine == cpos.line) = true := by rfl) :
    PE X (.Call (.Attribute e "values" apos) [] [] cpos) (tVals td) := by
  refine ⟨fun pins s σ H Q I h => ?_⟩
  refine wpAny_Call_method (T := "dict") (id := "dict.values") hbase rfl hline F.plainAttrs_dict F.slot_dict_values F.type_dict_values
    (thn (he.run pins s σ H _ I h) fun u s1 ⟨x, H1, I1, rx, d, kvs, ex, hd, q⟩ => ?_)
  subst ex
  obtain rfl : u = Value.ref d := rx
  obtain ⟨z, hs, vs, kv, hm⟩ := (show ObjOk X.prog X.w H1 s1.heap d (.dK kvs) from I1.hok d _ hd)
  refine ⟨hm.typeIs, hm.mapOf.noDict, ?_⟩
  show wpAny _ _ (callWith cpos (.builtin "dict.values") [.ref d] [] []) _ X.xe s1
  have hnew : (s1.heap.push { cls := .type "dict_values", data := .fields #[.ref d] }).get? s1.heap.objs.size = some { cls := .type "dict_values", data := .fields #[.ref d] } := Heap.get?_push_size _ rfl
  refine method_meetsIn F.slot_dict_values F.entry_dict_values rfl (PySem.evalArgs_none ⟨rfl, hm.typeIs, F.args_dict_values_1 _, _, meets_dict_values (mixKind X.prog X.w) d hs, ⟨vs, hm⟩, ?_⟩)
  exact ⟨.ref s1.heap.objs.size, upd H1 s1.heap.objs.size (viewV s1.heap.objs.size d),
    I1.laid (t' := s1.toks) (fun b o q => Heap.get?_push_of_some _ q) (Nat.le_refl _) ⟨hnew, ⟨_, hnew⟩, fun h1 h2 q k => k _ q⟩, rfl, q _ (I1.hok.fresh (Nat.le_refl _))⟩
def rListV : List V → Hp → VK → Prop := fun xs H Q => ∃ p d kvs, xs = [.ref p] ∧ H p = some (viewV p d) ∧ H d = some (.dK kvs) ∧ ∀ q, H q = none → Q (.ref q) (upd H q (.lst (kvs.map (·.2))))
theorem call_list_values (hc : X.calm = true) : CallR X (.type "list") rListV := by
  intro pins s σ H xs us Q I r h
  obtain ⟨p, d, kvs, e, hp, hd, q⟩ := h
  subst e
  obtain ⟨u, eu, rx⟩ := vals1 r
  subst eu
  obtain rfl : u = Value.ref p := rx
  obtain ⟨z, lo, vs, rk, hm⟩ := (show ObjOk X.prog X.w H s.heap d (.dK kvs) from I.hok d _ hd)
  have hv : s.heap.get? p = some { cls := .type "dict_values", data := .fields #[.ref d] } := (show ObjOk X.prog X.w H s.heap p (viewV p d) from I.hok p _ hp).1
  obtain ⟨ep, hat⟩ := hm.dictAt
  have hl : kvs.length = vs.length := Paired.length rk
  refine PySem.W.kdl_call (PySem.W.kdl_values (knd := mixKind X.prog X.w) (d := d) (r := p) (kvs := vs) (ep := ep)) (I.ok.hd hc) ⟨⟨_, hv, rfl, rfl⟩, hat⟩ (by rw [← hl]; exact z) fun h' tk acc c hkeep hS hacc => ?_
  refine ⟨.ref s.heap.objs.size, upd H s.heap.objs.size (.lst (kvs.map (·.2))), I.laid hkeep (Nat.le_refl _) (show ObjOk X.prog X.w _ _ _ (.lst (kvs.map (·.2))) from ⟨?_, acc.toList, c, ?_, ?_⟩), rfl, q _ (I.hok.fresh (Nat.le_refl _))⟩
  · rw [List.length_map]
    exact z
  · refine vals_of_at (by simp only [List.length_map, Array.length_toList]; rw [hacc.1, hl]) fun j x y h1 h2 => ?_
    obtain ⟨k, hk⟩ := hacc.2 j y (by rw [← Array.getElem?_toList]; exact h2)
    have rj : ∀ {l₁ : List (Key × V)} {l₂ : List (Key × Value)} (j : Nat) (x : V) (k : Key) (y : Value), KV l₁ l₂ → (l₁.map (·.2))[j]? = some x → l₂[j]? = some (k, y) → RelV x y := by
      intro l₁ l₂ j x k y rr
      induction rr generalizing j with
      | nil => intro a; simp at a
      | cons a b ih =>
        cases j with
        | zero =>
          intro e1 e2
          have f1 := Option.some.inj e1
          have f2 := Option.some.inj e2
          rw [f2] at a
          rw [← f1]
          exact a.2
        | succ j => exact fun e1 e2 => ih j e1 e2
    exact rj j x k y rk h1 hk
  · rw [Array.toArray_toList]
    exact hS
/-! ### max(xs, default=i) of whole numbers -/
def rMaxDef (K : PySem.W.Frag) : List V → List V → Hp → VK → Prop := fun xs zs H Q => ∃ (a : Addr) (ns : List Int) (d : Int), xs = [.ref a] ∧ zs = [.int d] ∧ SqL K H a (ns.map V.int) ∧
  (ns = [] → Q (.int d) H) ∧ ∀ m, m ∈ ns → (∀ y ∈ ns, y ≤ m) → Q (.int m) H
theorem cr_maxDef (hc : X.calm = true) (hu : X.A.units + 64 < cLine) : CallRK X (.builtin "max") [Str.ofString "default"] (rMaxDef X.K) := by
  intro pins s σ H xs zs us ws Q I r rz h
  obtain ⟨a, ns, d, rfl, rfl, hs, q0, q1⟩ := h
  obtain rfl := Vals.ref1 r
  obtain ⟨u, rfl, t, rfl⟩ := vals1 rz
  obtain ⟨its, rv, pl, hz⟩ := I.list hs
  have hd : ∀ ms : List Int, DpAll X.K H (ms.map V.int) (ms.map PyData.int) := fun ms => by
    induction ms with
    | nil => exact .nil
    | cons m ms ih => exact .cons (.int m) ih
  obtain ⟨as, hr⟩ := Dp.readsAll I _ _ its (hd ns) rv
  refine PySem.W.max_list_datum_default (α := Int) (xs := ns) (I.ok.hd hc) pl.isList ⟨as, show ReadsAll s.heap its (ns.map PySem.W.Datum.toD) as from hr⟩ (Nat.lt_of_le_of_lt (Nat.add_le_add_left (by decide : 1 + PySem.W.Datum.depth Int ≤ 64) _) hu) (fun e h' tk k => ?_) (fun y ys i v h' tk e hi hv k => ?_)
  · exact ⟨.int d, H, I.kept k, ⟨t, rfl⟩, q0 e⟩
  · have hv2 : ∃ t, v = .int (PySem.W.maxOf y ys) t := by
      obtain ⟨bs, hb⟩ := hv
      have hb2 : Reads h' v (.int (PySem.W.maxOf y ys)) bs := hb
      cases hb2 with
      | int _ t => exact ⟨t, rfl⟩
    obtain ⟨t2, rfl⟩ := hv2
    have key : ∀ (ys : List Int) (y : Int), PySem.W.maxOf y ys ∈ y :: ys ∧ ∀ z ∈ y :: ys, z ≤ PySem.W.maxOf y ys := by
      intro ys
      induction ys with
      | nil => intro y; exact ⟨List.mem_singleton.mpr rfl, fun z hz => by rw [List.mem_singleton.mp hz]; exact Int.le_refl _⟩
      | cons b bs ih =>
        intro y
        have e1 : PySem.W.maxOf y (b :: bs) = PySem.W.maxOf (if PySem.W.DatumOrd.lt y b = true then b else y) bs := rfl
        have e2 : PySem.W.DatumOrd.lt y b = decide (y < b) := rfl
        rw [e1, e2]
        by_cases hb : y < b
        · rw [if_pos (decide_eq_true hb)]
          obtain ⟨m1, m2⟩ := ih b
          refine ⟨List.mem_cons_of_mem _ m1, fun z hz => ?_⟩
          rcases List.mem_cons.mp hz with e | e
          · rw [e]
            exact Int.le_trans (Int.le_of_lt hb) (m2 b List.mem_cons_self)
          · exact m2 z e
        · rw [if_neg (by simpa using hb)]
          obtain ⟨m1, m2⟩ := ih y
          refine ⟨?_, fun z hz => ?_⟩
          · rcases List.mem_cons.mp m1 with e | e
            · rw [e]
              exact List.mem_cons_self
            · exact List.mem_cons_of_mem _ (List.mem_cons_of_mem _ e)
          · rcases List.mem_cons.mp hz with e | e
            · rw [e]
              exact m2 y List.mem_cons_self
            · rcases List.mem_cons.mp e with e | e
              · rw [e]
                exact Int.le_trans (Int.not_lt.mp hb) (m2 y List.mem_cons_self)
              · exact m2 z (List.mem_cons_of_mem _ e)
    obtain ⟨m1, m2⟩ := key ys y
    subst e
    exact ⟨.int (PySem.W.maxOf y ys), H, I.kept k, ⟨t2, rfl⟩, q1 _ m1 m2⟩
/-! ### min, max of three ints -/
def rI3 (f : Int → Int → Int → Int) : List V → Hp → VK → Prop := fun xs H Q => ∃ i j k, xs = [.int i, .int j, .int k] ∧ Q (.int (f i j k)) H
theorem call_max3i (hc : X.calm = true) : CallR X (.builtin "max") (rI3 fun i j k => max (max i j) k) := by
  intro pins s σ H xs us Q I r h
  obtain ⟨i, j, k, rfl, q⟩ := h
  refine call_max3Nu hc pins s σ H _ us Q I r ⟨.int i, .int j, .int k, .int (max (max i j) k), rfl, ?_, q⟩
  have e1 : ∀ a b : Int, nuMax2 (.int a) (.int b) = some (.int (max a b)) := fun a b => by
    show some (if decide (a < b) = true then V.int b else V.int a) = _
    by_cases h : a < b
    · rw [if_pos (decide_eq_true h), Int.max_def, if_pos (Int.le_of_lt h)]
    · rw [if_neg (by simpa using h), Int.max_def]
      by_cases h2 : a ≤ b
      · rw [if_pos h2, show a = b by omega]
      · rw [if_neg h2]
  show (nuMax2 (.int i) (.int j)).bind (fun m => nuMax2 m (.int k)) = _
  rw [e1, Option.bind_some, e1]
theorem call_min3i (hc : X.calm = true) : CallR X (.builtin "min") (rI3 fun i j k => min (min i j) k) := by
  intro pins s σ H xs us Q I r h
  obtain ⟨i, j, k, rfl, q⟩ := h
  refine call_min3Nu hc pins s σ H _ us Q I r ⟨.int i, .int j, .int k, .int (min (min i j) k), rfl, ?_, q⟩
  have e1 : ∀ a b : Int, nuMin2 (.int a) (.int b) = some (.int (min a b)) := fun a b => by
    show some (if decide (b < a) = true then V.int b else V.int a) = _
    by_cases h : b < a
    · rw [if_pos (decide_eq_true h), Int.min_def, if_neg (by omega)]
    · rw [if_neg (by simpa using h), Int.min_def, if_pos (by omega)]
  show (nuMin2 (.int i) (.int j)).bind (fun m => nuMin2 m (.int k)) = _
  rw [e1, Option.bind_some, e1]
/-! ### xs.count(None), the items ints and None -/
def isN : V → Bool
  | .non => true
  | _ => false
def rCntN (K : PySem.W.Frag) : V → List V → Hp → VK → Prop := fun x xs H Q => ∃ (p : Addr) (vs : List V), x = .ref p ∧ xs = [.non] ∧ SqL K H p vs ∧ (∀ v ∈ vs, v = .non ∨ ∃ i, v = .int i) ∧ Q (.int (vs.countP isN : Nat)) H
theorem mt_countN : MtR X "list.count" (rCntN X.K) := by
  intro pins s σ H x xs v us Q I rx rxs h
  obtain ⟨p, vs, rfl, rfl, hs, hv, q⟩ := h
  cases rx
  obtain ⟨u, rfl, ru⟩ := rxs.one
  cases ru
  obtain ⟨its, rv, ⟨⟨cls, dd, data, sl⟩, n, ho, hc, hdn, hd⟩, hlen⟩ := I.list hs
  simp only at hc hd
  subst hc hd
  have e0 : ∀ {vs : List V} {its : List Value}, Vals vs its → (∀ v ∈ vs, v = .non ∨ ∃ i, v = .int i) → (∀ y ∈ its, ∀ A s, SeqAt.EqAt A s y .none (y == Value.none)) ∧ its.countP (fun y => y == Value.none) = vs.countP isN := by
    intro vs its rv
    induction rv with
    | nil => intro _; exact ⟨fun y hy => (List.not_mem_nil hy).elim, rfl⟩
    | cons a b ih =>
      rename_i x u xs us
      intro hv
      obtain ⟨i1, i2⟩ := ih fun v hm => hv v (List.mem_cons_of_mem _ hm)
      have ex : (∀ A s, SeqAt.EqAt A s u .none (u == Value.none)) ∧ (u == Value.none) = isN x := by
        rcases hv x List.mem_cons_self with e | ⟨i, e⟩
        · subst e
          obtain rfl : u = Value.none := a
          exact ⟨fun A s => SeqAt.EqAt.same _, rfl⟩
        · subst e
          obtain ⟨t, rfl⟩ := a
          exact ⟨fun A s => SeqAt.EqAt.int_none i t, rfl⟩
      refine ⟨fun y hy => ?_, ?_⟩
      · rcases List.mem_cons.mp hy with e | e
        · rw [e]
          exact ex.1
        · exact i1 y e
      · rw [List.countP_cons, List.countP_cons, i2, ex.2]
  obtain ⟨k1, k2⟩ := e0 rv hv
  refine call_meets PySem.F.slot_list_count ⟨_, ho, rfl⟩ PySem.F.entry_list_count (PySem.F.args_list_count_2 _ _)
    (SeqAt.list_countAt p its.toArray n dd sl .none (fun y => y == Value.none)) ⟨ho, fun y hy => k1 y (by simpa using hy) _ _, ?_⟩
  refine ⟨.int (vs.countP isN : Nat), H, I.tok _, ⟨s.toks, ?_⟩, q⟩
  show Value.int ((its.toArray.toList.countP (fun y => y == Value.none) : Nat) : Int) s.toks = _
  rw [List.toList_toArray, k2]
end
/-! ### set(xs), xs a list of ints: the library has it for a tuple (SetFor); here by the same steps over a list's walk -/
abbrev new0 (w : World) : Obj := { cls := .type "set", dict := none, data := .set #[] 0 (.fresh 0 0 (!w.params.followText "set-order")) }
section
variable {P : Program} {w : World} {A : Around} {E : Value → Shared → Prop} {s : Shared}
set_option maxHeartbeats 8000000 in
theorem call_set_lst {l : Addr} {items : Array Value} (ns : List Int) {Q : Value → Shared → Prop} (hh : A.handled = none) (hl : s.heap.IsList l items) (hit : IntsAre items.toList ns) (hb : ns.length + 1 < scanBound)
    (h : ∀ (h' : Heap) (tk c : Nat), SetR w h' s.heap.objs.size (fun j => decide (j ∈ ns)) c → c ≤ ns.length → (∀ b o, s.heap.get? b = some o → h'.get? b = some o) → Q (.ref s.heap.objs.size) { s with heap := h', toks := tk }) :
    wpAny (model P w) A (call (.type "set") [.ref l]) Q E s := by
  have hn : items.size = ns.length := by
    have q := IntsAre.length hit
    simpa using q
  obtain ⟨_, _, hmro⟩ := F.called_set.mro
  have hm1 := F.called_set.made
  have hm2 := F.called_set.sub
  refine wpAny_call (codeAny_of_tree (?_ : wpAny _ _ (callAny (.type "set") _) _ _ _))
  refine wpAny_pure ⟨Code.quiet_builtin _ (by decide +kernel), codeAny_builtin F.entry_type_call ?_⟩
  rw [Around.under_plain (weight_type_call_type "set" [.ref l] []) rfl]
  have hm3 := F.called_set.notType
  have hm4 := F.called_set.canCreate
  have hm5 := F.typeCall_set_1 (.ref l)
  repeat (any_goals (first | assumption | wp_step))
  let z : Addr := s.heap.objs.size
  refine codeAny_mono (code_set_led1 (.ref l) (E := E) (Q₁ := fun obj s₁ => obj = .ref z ∧ s₁ = { s with heap := s.heap.push (new0 w) }) ⟨rfl, rfl⟩) fun r s₁ hr => ?_
  match r, hr with
  | .error e, hr => exact hr
  | .ok (.ret obj), hr =>
    obtain ⟨rfl, rfl⟩ := hr
    have hS : (s.heap.push (new0 w)).get? z = some (new0 w) := Heap.get?_push_size _ rfl
    have hT : Shared.TypeIs { s with heap := s.heap.push (new0 w) } (.ref z) "set" := ⟨_, hS, rfl⟩
    have hm6 := F.called_set.init.lookup
    have hm7 := F.called_set.init.bind (.ref z)
    repeat (any_goals (first | assumption | wp_step))
    refine codeAny_mono (codeAny_call_builtin (R := wants (fun r s₂ => r = .none ∧ ∃ h' tk c, s₂ = { s with heap := h', toks := tk } ∧ SetR w h' z (fun j => decide (j ∈ ns)) c ∧ c ≤ ns.length ∧
        (∀ b o, s.heap.get? b = some o → h'.get? b = some o)) E) F.called_set.init.plain F.entry_set_init (check_set_init_1 hT ?_)) fun r₂ s₂ hr₂ => ?_
    · obtain ⟨⟨ocls, odict, odata, oslots⟩, hol, hcl, nl, hdl⟩ := hl
      simp only at hcl hdl
      subst hcl hdl
      have hl1 : (s.heap.push (new0 w)).IsList l items := ⟨_, Heap.get?_push_of_some _ hol, rfl, nl, rfl⟩
      have hol2 : (s.heap.push (new0 w)).get? l = some { cls := .type "list", dict := odict, data := .seq items nl, slots := oslots } := Heap.get?_push_of_some _ hol
      have k1 := F.sub_list_set
      have k2 := F.sub_list_frozenset
      have k3 : (Value.type "list" == Value.type "dict") = false := by decide
      have hlz : l < z := Heap.lt_size hol
      unfold Builtin.«set.__init__» noKeywords Builtin.Frozenset.updateFrom
      generalize hPI : pyIter = PI
      wp_walk
      subst hPI
      refine wpAny_pyIter_list hl1 (wpAny_bind (wpAny_runValue ?_))
      have sz1 : (s.heap.push (new0 w)).objs.size = z + 1 := Heap.size_push ..
      have hne : l ≠ (s.heap.push (new0 w)).objs.size := by
        rw [sz1]
        exact Nat.ne_of_lt (Nat.lt_succ_of_lt hlz)
      have hSf : z ∉ [(s.heap.push (new0 w)).objs.size, l] := by
        simp only [List.mem_cons, List.not_mem_nil, or_false, not_or]
        rw [sz1]
        exact ⟨Nat.ne_of_lt (Nat.lt_succ_self _), Nat.ne_of_gt hlz⟩
      refine set_update_ints ((Walks.list (by simp [hh]) _ l hne items).toS) z hSf ns hn hb (fun i v hv => ?_) (items.size - 0) 0 _ (by omega) (Nat.zero_le _)
        ⟨⟨_, Heap.get?_push_size _ rfl, rfl, rfl⟩, (hl1.push _)⟩ ⟨0, Nat.le_refl 0, setR_new_at (Heap.get?_push_of_some _ hS)⟩ fun s' c' hm hc' hS' => ?_
      · have hi : i < ns.length := by rw [← hn]; exact (Array.getElem?_eq_some_iff.mp hv).1
        obtain ⟨t, e⟩ := PyProof.Rows.IntsAre.int_at hit i v (by rw [Array.getElem?_toList]; exact hv)
        refine ⟨ns[i], t, List.getElem?_eq_getElem hi, ?_⟩
        rw [e, List.getD_eq_getElem?_getD, List.getElem?_eq_getElem hi, Option.getD_some]
      · obtain ⟨h', g2, d', tk', os'⟩ := s'
        obtain rfl : g2 = s.gens := hm.gens
        obtain rfl : d' = s.drawn := hm.drawn
        obtain rfl : os' = s.os := hm.os
        refine (wpAny_pure ?_ : wpAny _ _ _ _ _ _)
        refine (wpAny_pure ?_ : wpAny _ _ (ret Value.none) _ _ _)
        refine ⟨rfl, h', tk', c', rfl, hS', by omega, fun b o e => hm.heap b o ?_ (Heap.get?_push_of_some _ (Heap.get?_push_of_some _ e))⟩
        have hb0 : b < z := Heap.lt_size e
        simp only [List.mem_cons, List.not_mem_nil, or_false, not_or]
        rw [sz1]
        exact ⟨Nat.ne_of_lt hb0, Nat.ne_of_lt (Nat.lt_succ_of_lt hb0)⟩
    · match r₂, hr₂ with
      | .error e, hr₂ => exact hr₂
      | .ok (.ret r), hr₂ =>
        obtain ⟨rfl, h', tk, c', rfl, hS', hc', hk'⟩ := hr₂
        repeat (any_goals (first | assumption | wp_step))
        exact h _ _ _ hS' hc' hk'
end
section
variable {X : Cx}
def rSetOf (K : PySem.W.Frag) (w : World) : List V → Hp → VK → Prop := fun xs H Q => ∃ (l : Addr) (ns : List Int), xs = [.ref l] ∧ SqL K H l (ns.map V.int) ∧ ns.length < 64 ∧
  ∀ p c, H p = none → c ≤ ns.length → Q (.ref p) (upd H p (SetO w p (fun j => decide (j ∈ ns)) c))
theorem cr_setOfI (hc : X.calm = true) : CallR X (.type "set") (rSetOf X.K X.w) := by
  intro pins s σ H xs us Q I r h
  obtain ⟨l, ns, rfl, hs, hn, q⟩ := h
  obtain rfl := Vals.ref1 r
  obtain ⟨its, rv, pl, hz⟩ := I.list hs
  refine call_set_lst ns (I.ok.hd hc) pl.isList rv.ints (by unfold scanBound; omega) fun h' tk c hS hc' hk => ?_
  have hnew : H s.heap.objs.size = none := I.hok.fresh (Nat.le_refl _)
  exact ⟨.ref s.heap.objs.size, upd H s.heap.objs.size (SetO X.w s.heap.objs.size (fun j => decide (j ∈ ns)) c), I.laid hk (Nat.le_refl _) (setO_new hS), rfl, q _ c hnew hc'⟩
end
end SpR
end

section
/-! sorted of a list of tuples of d whole numbers, of either sign: by the first, then the second, .. (the layer has pairs, and tuples of numbers from 0 on) -/
namespace SpR
open PySem PySem.Spec PyProof.Rows L2
theorem lexLt_asym : ∀ xs ys : List Int, HT.lexLt xs ys = true → HT.lexLt ys xs = false
  | [], [], h => by cases h
  | [], _ :: _, _ => rfl
  | _ :: _, [], h => by cases h
  | x :: xs, y :: ys, h => by
    rw [HT.lexLt_cons] at h ⊢
    by_cases e : x = y
    · rw [if_pos e] at h
      rw [if_pos e.symm]
      exact lexLt_asym xs ys h
    · rw [if_neg e] at h
      rw [if_neg (Ne.symm e)]
      have h1 := of_decide_eq_true h
      exact decide_eq_false (by omega)
theorem lexLt_tr : ∀ xs ys zs : List Int, HT.lexLt ys xs = false → HT.lexLt zs ys = false → HT.lexLt zs xs = false
  | [], [], _, _, h => h
  | [], _ :: _, [], _, _ => rfl
  | [], _ :: _, _ :: _, _, _ => rfl
  | _ :: _, [], _, h, _ => by cases h
  | _ :: _, _ :: _, [], _, h => by cases h
  | x :: xs, y :: ys, z :: zs, h1, h2 => by
    rw [HT.lexLt_cons] at h1 h2 ⊢
    by_cases e1 : y = x
    · rw [if_pos e1] at h1
      by_cases e2 : z = y
      · rw [if_pos e2] at h2
        rw [if_pos (e2.trans e1)]
        exact lexLt_tr xs ys zs h1 h2
      · rw [if_neg e2] at h2
        rw [if_neg (by omega), ← e1]
        exact h2
    · rw [if_neg e1] at h1
      have k1 := of_decide_eq_false h1
      by_cases e2 : z = y
      · rw [e2, if_neg e1]
        exact h1
      · rw [if_neg e2] at h2
        have k2 := of_decide_eq_false h2
        rw [if_neg (by omega)]
        exact decide_eq_false (by omega)
theorem swo_lexL {α : Type} (k : α → List Int) : SrtO.Swo fun v u => HT.lexLt (k v) (k u) := ⟨fun x y => lexLt_asym (k x) (k y), fun x y z => lexLt_tr (k x) (k y) (k z)⟩
/-- a tuple of these ints -/
def TupV (h : Heap) (v : Value) (ns : List Int) : Prop := ∃ a o xs n, v = .ref a ∧ h.get? a = some o ∧ o.cls = .type "tuple" ∧ o.data = .seq xs n ∧ IntsAre xs.toList ns
theorem TupV.keeps {h h' : Heap} {v : Value} {ns : List Int} (x : TupV h v ns) (k : ∀ b o, h.get? b = some o → o.cls = .type "tuple" → h'.get? b = some o) : TupV h' v ns := by
  obtain ⟨a, o, xs, n, e, g, c, d, i⟩ := x
  exact ⟨a, o, xs, n, e, k a o g c, c, d, i⟩
section
variable {prog : Program} {w : World} {A : Around} {E : Value → Shared → Prop} {s : Shared}
theorem kat_ints {b : Bool} {Q : Bool → Shared → Prop} : ∀ (us ws : List Value) (ns ms : List Int) (i : Nat), IntsAre us ns → IntsAre ws ms → us.length = ws.length → Q (HT.lexLt ns ms) s → PySem.W.KatLex prog w A b false Q (us.zip ws) i s
  | _, _, _, _, _, .nil, .nil, _, q => PySem.W.kat_nil q
  | _, _, _, _, _, .nil, .cons _ _ _, hl, _ => nomatch hl
  | _, _, _, _, _, .cons _ _ _, .nil, hl, _ => nomatch hl
  | _, _, _, _, i, .cons (vs := us) (ns := ns) x t iu, .cons (vs := ws) (ns := ms) y u iw, hl, q => by
    rw [HT.lexLt_cons] at q
    rw [List.zip_cons_cons]
    refine PySem.W.kat_cons (SeqAt.EqAt.int_int x t y u prog w _ _ (PySem.W.kat_go (fun e => PySem.W.kat_yes ?_) (fun e => PySem.W.kat_no ?_)))
    · rw [if_pos (by simpa using e)] at q
      exact kat_ints us ws ns ms (i + 1) iu iw (Nat.succ.inj hl) q
    · rw [if_neg (by simpa using e)] at q
      exact TS.oneLt_ints _ q
theorem tups_cmp {vs : List Value} {k : Value → List Int} {d : Nat} (hp : ∀ v ∈ vs, TupV s.heap v (k v) ∧ (k v).length = d) : SrtO.Cmp prog w A s (tuples' true) (fun p => p.1 ∈ vs) (SrtO.lt2 fun v u => HT.lexLt (k v) (k u)) := by
  intro p q hm hm'
  obtain ⟨⟨a, o, xs, n, e, g, c, dd, i⟩, l1⟩ := hp _ hm
  obtain ⟨⟨a', o', xs', n', e', g', c', dd', i'⟩, l2⟩ := hp _ hm'
  have z1 := IntsAre.length i
  have z2 := IntsAre.length i'
  rw [Array.length_toList] at z1 z2
  show wpAny (model prog w) A (keyLt' (tuples' true) p.1 q.1) (fun r s' => s' = s ∧ r = HT.lexLt (k p.1) (k q.1)) (fun _ _ => False) s
  have key : PySem.W.KatLex prog w A true (decide (xs.size < xs'.size)) (fun r s' => s' = s ∧ r = HT.lexLt (k p.1) (k q.1)) (xs.toList.zip xs'.toList) 0 s := by
    rw [show decide (xs.size < xs'.size) = false from decide_eq_false (by omega)]
    exact kat_ints _ _ _ _ 0 i i' (by rw [Array.length_toList, Array.length_toList]; omega) ⟨rfl, rfl⟩
  have fin := PySem.W.kat_lt (E := fun _ _ => False) g dd g' dd' key
  rw [← e, ← e'] at fin
  exact fin
theorem tups_firsts {h : Heap} {k : Value → List Int} {d : Nat} (hd : 1 ≤ d) : ∀ {vs : List Value}, (∀ v ∈ vs, TupV h v (k v) ∧ (k v).length = d) → ∃ fs : List Value, PySem.W.KatTups h vs fs ∧ fs.length = vs.length ∧ ∀ f ∈ fs, ∃ x t, f = Value.int x t
  | [], _ => ⟨[], PySem.W.KatTups.nil, rfl, fun _ hm => by simp at hm⟩
  | v :: vs, hp => by
    obtain ⟨fs, h1, h2, h3⟩ := tups_firsts hd (vs := vs) fun u hm => hp u (List.mem_cons_of_mem _ hm)
    obtain ⟨⟨a, o, xs, n, rfl, g, c, dd, i⟩, l⟩ := hp v List.mem_cons_self
    have hx : ∃ x t, xs[0]? = some (Value.int x t) := by
      rw [← Array.getElem?_toList]
      generalize k (.ref a) = ns at i l
      generalize xs.toList = us at i
      cases i with
      | nil =>
        simp at l
        omega
      | cons x t _ => exact ⟨x, t, rfl⟩
    obtain ⟨x, t, hx⟩ := hx
    refine ⟨.int x t :: fs, PySem.W.KatTups.cons g c dd hx h1, by rw [List.length_cons, List.length_cons, h2], fun f hm => ?_⟩
    rcases List.mem_cons.mp hm with e | hm
    · exact ⟨x, t, e⟩
    · exact h3 f hm
theorem tups_sortable {a : Addr} {vs : List Value} {k : Value → List Int} {d : Nat} (hd : 1 ≤ d) (h0 : 0 < vs.length) (hp : ∀ v ∈ vs, TupV s.heap v (k v) ∧ (k v).length = d) (ha : ∀ o, s.heap.get? a = some o → o.cls ≠ .type "tuple") :
    SrtO.SortableO prog w A s a vs fun v u => HT.lexLt (k v) (k u) := by
  intro h' keep
  have hp' : ∀ v ∈ vs, TupV h' v (k v) ∧ (k v).length = d := fun v hm => ⟨(hp v hm).1.keeps fun b o e c => keep b o (fun z => by subst z; exact ha o e c) e, (hp v hm).2⟩
  obtain ⟨fs, h1, h2, h3⟩ := tups_firsts hd hp'
  refine ⟨tuples' true, fun Q E hq => ?_, tups_cmp (s := { s with heap := h' }) hp'⟩
  refine PySem.W.kat_kind (s := { s with heap := h' }) (T := .type "int") h1 (by omega) (fun f hm => ?_) (by rfl) ?_
  · obtain ⟨x, t, rfl⟩ := h3 f hm
    exact PySem.W.Looks.now
  · rw [show (Value.type "int" != Value.type "tuple") = true by decide +kernel]
    exact hq
end
def rSortL (K : PySem.W.Frag) (d : Nat) : List V → Hp → VK → Prop := fun vs H Q => ∃ (a : Addr) (xs : List V) (k : V → List Int), vs = [V.ref a] ∧ SqL K H a xs ∧ (∀ x ∈ xs, (k x).length = d ∧ ∃ t, x = V.ref t ∧ H t = some (.tup ((k x).map V.int))) ∧
  ∀ ys p, ys.Perm xs → ys.Pairwise (fun x y => HT.lexLt (k y) (k x) = false) → H p = none → Q (.ref p) (upd H p (.lst ys))
theorem cr_sortL {X : Cx} {d : Nat} (hd : 1 ≤ d) : CallR X (.builtin "sorted") (rSortL X.K d) := by
  intro pins s σ H vs us Q I r h
  obtain ⟨a, xs, k, rfl, hs, hx, q⟩ := h
  obtain ⟨its, rv, hl, hz⟩ := I.list hs
  obtain rfl := Vals.ref1 r
  obtain ⟨e1, e2⟩ := refs_back rv fun x m => by
    obtain ⟨_, t, e, _⟩ := hx x m
    exact ⟨t, e⟩
  have hv : ∀ v ∈ its, TupV s.heap v (k (backV v)) ∧ (k (backV v)).length = d := fun v hv => by
    obtain ⟨t, rfl⟩ := e2 v hv
    have hm : V.ref t ∈ xs := by
      rw [e1]
      exact List.mem_map.mpr ⟨_, hv, rfl⟩
    obtain ⟨hl, t', e, ht⟩ := hx _ hm
    cases e
    obtain ⟨_, its2, r2, o, ho, hc, n, hd⟩ := I.hok _ _ ht
    exact ⟨⟨t, o, _, n, rfl, ho, hc, hd, r2.ints⟩, hl⟩
  refine SrtO.sorted_ord (swo_lexL fun u => k (backV u)) hl.isList (by rw [← rv.length]; exact hz) (fun h2 h₁ b hb kk => ?_) fun out hs hb => ?_
  · refine tups_sortable (s := { s with heap := h₁ }) hd (by omega) (fun v hm => ⟨(hv v hm).1.keeps fun b o e _ => (kk b o e).2, (hv v hm).2⟩) fun o e c => ?_
    cases (show some o = some (seqObj "list" its.toArray 0) from e.symm.trans hb)
    exact absurd (Value.type.inj c) (by decide)
  · have h3 : ∀ u ∈ out, ∃ a, u = Value.ref a := fun u hu => e2 u (hb.perm.mem_iff.mp hu)
    have hp : (out.map backV).Perm xs := by
      rw [e1]
      exact hb.perm.map backV
    obtain ⟨n, hn⟩ := PyProof.Rows.sortedAll_at s.heap its out.toArray
    refine ⟨.ref (s.heap.objs.size + 1), upd H (s.heap.objs.size + 1) (.lst (out.map backV)), I.laid (t' := s.toks) (fun _ _ => PyProof.Rows.sortedAll_old) (Nat.le_succ _) ⟨?_, out, n, vals_back h3, hn⟩, rfl, q _ _ hp (SrtO.srtd_map (lt := fun x y => HT.lexLt (k x) (k y)) hs) (I.hok.fresh (Nat.le_succ _))⟩
    rw [hp.length_eq]
    exact hz
end SpR
end

section
namespace SpR
open PySem PySem.Spec PyProof.Rows L2
/-! readings that only their own lemmas open -/
@[irreducible] def jCat : R2 := rCat
@[irreducible] def jEq (K : PySem.W.Frag) : R2 := rEqD K
@[irreducible] def jNe (K : PySem.W.Frag) : R2 := rNeD K
@[irreducible] def jIn (K : PySem.W.Frag) (neg : Bool) : R2 := rIn K neg
@[irreducible] def jSort (K : PySem.W.Frag) (d : Nat) : List V → Hp → VK → Prop := rSortL K d
@[irreducible] def jSortI (K : PySem.W.Frag) : List V → Hp → VK → Prop := rSorted K
@[irreducible] def jSetOf (K : PySem.W.Frag) (w : World) : List V → Hp → VK → Prop := rSetOf K w
@[irreducible] def jSortS (w : World) : List V → Hp → VK → Prop := rSortedSet w
@[irreducible] def jMaxDef (K : PySem.W.Frag) : List V → List V → Hp → VK → Prop := rMaxDef K
@[irreducible] def jRep : R2 := rRep
@[irreducible] def jIndex (K : PySem.W.Frag) : V → List V → Hp → VK → Prop := rIndex K
section
variable {X : Cx}
/-! ### the rules, the written part by its letter -/
variable {K : PySem.W.Frag}
theorem ix_tupK (h : X.K = K) : IxR X (rIxT K) := h ▸ ix_tup
theorem ix_listK (h : X.K = K) : IxR X (rIxL K) := h ▸ ix_list
theorem op_inK (h : X.K = K) : OpR X (compareOp .In) (jIn K false) := by
  unfold jIn
  exact h ▸ op_in_seq
theorem op_notInK (h : X.K = K) : OpR X (compareOp .NotIn) (jIn K true) := by
  unfold jIn
  exact h ▸ op_notIn_seq
theorem op_eqDK (h : X.K = K) (hu : X.A.units + 64 < cLine) : OpR X (compareOp .Eq) (jEq K) := by
  unfold jEq
  exact h ▸ op_eqD hu
theorem op_neDK (h : X.K = K) (hu : X.A.units + 64 < cLine) : OpR X (compareOp .NotEq) (jNe K) := by
  unfold jNe
  exact h ▸ op_neD hu
theorem pg_tupK {es : List Expr} {k : Nat} {pos : Pos} {t : TGs} {n : Nat} (h : X.K = K) (hc : X.calm = true) (hg : PGs X es t)
    (hn : (assignEach es X.env).length = n := by rfl) (hst : (assignEach es X.env).findIdx? (·.1) = none := by rfl) : PG X (.Tuple es k pos) (gTup K n t) := h ▸ pg_tup hc hg hn hst
theorem op_catJ : OpR X (binaryOp .Add) jCat := by
  unfold jCat
  exact op_cat
theorem cr_sortJ {d : Nat} (h : X.K = K) (hd : 1 ≤ d) : CallR X (.builtin "sorted") (jSort K d) := by
  unfold jSort
  exact h ▸ cr_sortL hd
theorem cr_sortIJ (h : X.K = K) : CallR X (.builtin "sorted") (jSortI K) := by
  unfold jSortI
  exact h ▸ cr_sorted
theorem cr_setJ {w : World} (h : X.K = K) (hw : X.w = w) (hc : X.calm = true) : CallR X (.type "set") (jSetOf K w) := by
  unfold jSetOf
  exact h ▸ hw ▸ cr_setOfI hc
theorem cr_sortSJ {w : World} (hw : X.w = w) (hc : X.calm = true) : CallR X (.builtin "sorted") (jSortS w) := by
  unfold jSortS
  exact hw ▸ cr_sortedSet hc
theorem cr_maxDefJ (h : X.K = K) (hc : X.calm = true) (hu : X.A.units + 64 < cLine) : CallRK X (.builtin "max") [Str.ofString "default"] (jMaxDef K) := by
  unfold jMaxDef
  exact h ▸ cr_maxDef hc hu
theorem op_repJ : OpR X (binaryOp .Mult) jRep := by
  unfold jRep
  exact op_rep
theorem mt_indexJ (h : X.K = K) : MtR X "list.index" (jIndex K) := by
  unfold jIndex
  exact h ▸ mt_index
end
end SpR
end

section
namespace Sh
open PySem PySem.Spec PyProof.Rows L2 SpR
def topS (i : Nat) : Stmt := PySem.Challenge.pw_spanshelf_k48_whole_lists_beside.main.body.getD i (.Pass ⟨0, 0, 0, 0⟩)
abbrev s_is_place : Stmt := topS 8
theorem sc_is_place : FnScope ["number"] ["number"] (defScope s_is_place) := ⟨rfl, rfl, rfl, by decide +kernel, rfl, by decide +kernel, by decide +kernel⟩
abbrev s_is_span : Stmt := topS 9
theorem sc_is_span : FnScope ["span"] ["span"] (defScope s_is_span) := ⟨rfl, rfl, rfl, by decide +kernel, rfl, by decide +kernel, by decide +kernel⟩
abbrev s_must_span : Stmt := topS 10
theorem sc_must_span : FnScope ["span"] ["span"] (defScope s_must_span) := ⟨rfl, rfl, rfl, by decide +kernel, rfl, by decide +kernel, by decide +kernel⟩
abbrev s_must_spans : Stmt := topS 11
theorem sc_must_spans : FnScope ["spans", "span"] ["spans"] (defScope s_must_spans) := ⟨rfl, rfl, rfl, by decide +kernel, rfl, by decide +kernel, by decide +kernel⟩
abbrev s_holds : Stmt := topS 12
theorem sc_holds : FnScope ["span", "place"] ["span", "place"] (defScope s_holds) := ⟨rfl, rfl, rfl, by decide +kernel, rfl, by decide +kernel, by decide +kernel⟩
abbrev s_is_inside : Stmt := topS 13
theorem sc_is_inside : FnScope ["one", "other"] ["one", "other"] (defScope s_is_inside) := ⟨rfl, rfl, rfl, by decide +kernel, rfl, by decide +kernel, by decide +kernel⟩
abbrev s_under : Stmt := topS 15
theorem sc_under : FnScope ["spans", "one", "other"] ["spans", "one", "other"] (defScope s_under) := ⟨rfl, rfl, rfl, by decide +kernel, rfl, by decide +kernel, by decide +kernel⟩
abbrev s_upward : Stmt := topS 16
theorem sc_upward : FnScope ["spans", "long", "number", "span"] ["spans"] (defScope s_upward) := ⟨rfl, rfl, rfl, by decide +kernel, rfl, by decide +kernel, by decide +kernel⟩
abbrev s_levels_of : Stmt := topS 17
theorem sc_levels_of : FnScope ["spans", "found", "number", "other"] ["spans"] (defScope s_levels_of) := ⟨rfl, rfl, rfl, by decide +kernel, rfl, by decide +kernel, by decide +kernel⟩
abbrev s_nest : Stmt := topS 18
theorem sc_nest : FnScope ["spans", "levels", "found", "level", "some", "number"] ["spans"] (defScope s_nest) := ⟨rfl, rfl, rfl, by decide +kernel, rfl, by decide +kernel, by decide +kernel⟩
abbrev s_may_follow : Stmt := topS 19
theorem sc_may_follow : FnScope ["spans", "tried", "led", "number", "other"] ["spans", "tried", "led", "number"] (defScope s_may_follow) := ⟨rfl, rfl, rfl, by decide +kernel, rfl, by decide +kernel, by decide +kernel⟩
abbrev s_followers : Stmt := topS 20
theorem sc_followers : FnScope ["spans", "led", "number"] ["spans"] (defScope s_followers) := ⟨rfl, rfl, rfl, by decide +kernel, rfl, by decide +kernel, by decide +kernel⟩
abbrev s_come_to : Stmt := topS 21
theorem sc_come_to : FnScope ["spans", "led", "going", "found", "reached", "at", "other", "number"] ["spans", "led"] (defScope s_come_to) := ⟨rfl, rfl, rfl, by decide +kernel, rfl, by decide +kernel, by decide +kernel⟩
abbrev s_nests_of : Stmt := topS 22
theorem sc_nests_of : FnScope ["spans", "led", "found", "number", "goes", "other", "row"] ["spans", "led"] (defScope s_nests_of) := ⟨rfl, rfl, rfl, by decide +kernel, rfl, by decide +kernel, by decide +kernel⟩
abbrev s_loose : Stmt := topS 23
theorem sc_loose : FnScope ["spans", "led", "starts", "reached", "found", "number"] ["spans"] (defScope s_loose) := ⟨rfl, rfl, rfl, by decide +kernel, rfl, by decide +kernel, by decide +kernel⟩
abbrev s_most_told : Stmt := topS 25
theorem sc_most_told : FnScope ["spans", "chosen", "pins", "high", "low", "number", "at", "span"] ["spans"] (defScope s_most_told) := ⟨rfl, rfl, rfl, by decide +kernel, rfl, by decide +kernel, by decide +kernel⟩
abbrev s_most_apart : Stmt := topS 26
theorem sc_most_apart : FnScope ["spans"] ["spans"] (defScope s_most_apart) := ⟨rfl, rfl, rfl, by decide +kernel, rfl, by decide +kernel, by decide +kernel⟩
abbrev s_must_cover : Stmt := topS 29
theorem sc_must_cover : FnScope ["cover", "one", "other"] ["cover"] (defScope s_must_cover) := ⟨rfl, rfl, rfl, by decide +kernel, rfl, by decide +kernel, by decide +kernel⟩
abbrev s_poured : Stmt := topS 30
theorem sc_poured : FnScope ["spans", "found", "low", "high"] ["spans"] (defScope s_poured) := ⟨rfl, rfl, rfl, by decide +kernel, rfl, by decide +kernel, by decide +kernel⟩
abbrev s_cover_of : Stmt := topS 31
theorem sc_cover_of : FnScope ["spans"] ["spans"] (defScope s_cover_of) := ⟨rfl, rfl, rfl, by decide +kernel, rfl, by decide +kernel, by decide +kernel⟩
abbrev s_either : Stmt := topS 32
theorem sc_either : FnScope ["one", "other"] ["one", "other"] (defScope s_either) := ⟨rfl, rfl, rfl, by decide +kernel, rfl, by decide +kernel, by decide +kernel⟩
abbrev s_held : Stmt := topS 33
theorem sc_held : FnScope ["cover", "low", "high"] ["cover"] (defScope s_held) := ⟨rfl, rfl, rfl, by decide +kernel, rfl, by decide +kernel, by decide +kernel⟩
abbrev s_depth_in : Stmt := topS 35
theorem sc_depth_in : FnScope ["spans", "place", "span"] ["spans", "place"] (defScope s_depth_in) := ⟨rfl, rfl, rfl, by decide +kernel, rfl, by decide +kernel, by decide +kernel⟩
abbrev s_ends_of : Stmt := topS 36
theorem sc_ends_of : FnScope ["spans", "span"] ["spans"] (defScope s_ends_of) := ⟨rfl, rfl, rfl, by decide +kernel, rfl, by decide +kernel, by decide +kernel⟩
abbrev s_pieces : Stmt := topS 37
theorem sc_pieces : FnScope ["spans", "ends", "found", "low", "high", "depth"] ["spans"] (defScope s_pieces) := ⟨rfl, rfl, rfl, by decide +kernel, rfl, by decide +kernel, by decide +kernel⟩
abbrev s_deepest_in : Stmt := topS 38
theorem sc_deepest_in : FnScope ["spans", "best", "low", "high", "depth"] ["spans"] (defScope s_deepest_in) := ⟨rfl, rfl, rfl, by decide +kernel, rfl, by decide +kernel, by decide +kernel⟩
abbrev s_deepest : Stmt := topS 39
theorem sc_deepest : FnScope ["spans"] ["spans"] (defScope s_deepest) := ⟨rfl, rfl, rfl, by decide +kernel, rfl, by decide +kernel, by decide +kernel⟩
abbrev s_must_weight : Stmt := topS 43
theorem sc_must_weight : FnScope ["weight"] ["weight"] (defScope s_must_weight) := ⟨rfl, rfl, rfl, by decide +kernel, rfl, by decide +kernel, by decide +kernel⟩
abbrev s_must_weights : Stmt := topS 44
theorem sc_must_weights : FnScope ["weights", "many", "weight"] ["weights", "many"] (defScope s_must_weights) := ⟨rfl, rfl, rfl, by decide +kernel, rfl, by decide +kernel, by decide +kernel⟩
abbrev s_must_count : Stmt := topS 45
theorem sc_must_count : FnScope ["k"] ["k"] (defScope s_must_count) := ⟨rfl, rfl, rfl, by decide +kernel, rfl, by decide +kernel, by decide +kernel⟩
abbrev s_Lanes_init : Stmt := inClass (topS 46) 0
theorem sc_Lanes_init : FnScope ["self", "spans", "weights", "span", "weight"] ["self", "spans", "weights"] (defScope s_Lanes_init) := ⟨rfl, rfl, rfl, by decide +kernel, rfl, by decide +kernel, by decide +kernel⟩
abbrev s_Lanes_lead : Stmt := inClass (topS 46) 1
theorem sc_Lanes_lead : FnScope ["self", "start", "goal", "gain", "step"] ["self", "start", "goal", "gain", "step"] (defScope s_Lanes_lead) := ⟨rfl, rfl, rfl, by decide +kernel, rfl, by decide +kernel, by decide +kernel⟩
abbrev s_Lanes_lead_all : Stmt := inClass (topS 46) 2
theorem sc_Lanes_lead_all : FnScope ["self", "better", "at", "number", "arc"] ["self"] (defScope s_Lanes_lead_all) := ⟨rfl, rfl, rfl, by decide +kernel, rfl, by decide +kernel, by decide +kernel⟩
abbrev s_Lanes_look : Stmt := inClass (topS 46) 3
theorem sc_Lanes_look : FnScope ["self", "at", "better"] ["self"] (defScope s_Lanes_look) := ⟨rfl, rfl, rfl, by decide +kernel, rfl, by decide +kernel, by decide +kernel⟩
abbrev s_Lanes_take : Stmt := inClass (topS 46) 4
theorem sc_Lanes_take : FnScope ["self", "at", "start", "step"] ["self"] (defScope s_Lanes_take) := ⟨rfl, rfl, rfl, by decide +kernel, rfl, by decide +kernel, by decide +kernel⟩
abbrev s_heaviest : Stmt := topS 47
theorem sc_heaviest : FnScope ["spans", "weights", "k", "lanes", "many", "chosen", "prices", "at", "number", "on", "tag"] ["spans", "weights", "k"] (defScope s_heaviest) := ⟨rfl, rfl, rfl, by decide +kernel, rfl, by decide +kernel, by decide +kernel⟩
abbrev s_given_places : Stmt := topS 49
theorem sc_given_places : FnScope ["spans", "given", "left", "waiting", "place", "number", "span", "one", "low", "high"] ["spans"] (defScope s_given_places) := ⟨rfl, rfl, rfl, by decide +kernel, rfl, by decide +kernel, by decide +kernel⟩
abbrev s_pressed : Stmt := topS 50
theorem sc_pressed : FnScope ["spans", "window", "span"] ["spans", "window"] (defScope s_pressed) := ⟨rfl, rfl, rfl, by decide +kernel, rfl, by decide +kernel, by decide +kernel⟩
abbrev s_best_before : Stmt := topS 51
theorem sc_best_before : FnScope ["best", "highs", "low", "found", "high"] ["best", "highs", "low"] (defScope s_best_before) := ⟨rfl, rfl, rfl, by decide +kernel, rfl, by decide +kernel, by decide +kernel⟩
abbrev s_best_windows : Stmt := topS 52
theorem sc_best_windows : FnScope ["spans", "lows", "highs", "best", "ahead", "high", "found", "low", "many", "before", "one", "span"] ["spans"] (defScope s_best_windows) := ⟨rfl, rfl, rfl, by decide +kernel, rfl, by decide +kernel, by decide +kernel⟩
abbrev s_giving : Stmt := topS 53
theorem sc_giving : FnScope ["spans"] ["spans"] (defScope s_giving) := ⟨rfl, rfl, rfl, by decide +kernel, rfl, by decide +kernel, by decide +kernel⟩
abbrev s_placed : Stmt := topS 54
theorem sc_placed : FnScope ["spans", "numbers", "some", "given", "number"] ["spans", "numbers"] (defScope s_placed) := ⟨rfl, rfl, rfl, by decide +kernel, rfl, by decide +kernel, by decide +kernel⟩
abbrev s_heaviest_giving : Stmt := topS 55
theorem sc_heaviest_giving : FnScope ["spans", "weights", "kept", "number", "weight", "given", "place"] ["spans", "weights"] (defScope s_heaviest_giving) := ⟨rfl, rfl, rfl, by decide +kernel, rfl, by decide +kernel, by decide +kernel⟩
abbrev s_first_free : Stmt := topS 57
theorem sc_first_free : FnScope ["ends", "low", "row", "end"] ["ends", "low"] (defScope s_first_free) := ⟨rfl, rfl, rfl, by decide +kernel, rfl, by decide +kernel, by decide +kernel⟩
abbrev s_rows_of : Stmt := topS 58
theorem sc_rows_of : FnScope ["spans", "rows", "ends", "place", "low", "high", "number", "row", "at", "span"] ["spans"] (defScope s_rows_of) := ⟨rfl, rfl, rfl, by decide +kernel, rfl, by decide +kernel, by decide +kernel⟩
abbrev s_law_at : Stmt := topS 60
theorem sc_law_at : FnScope ["_law_script", "_law_k"] ["_law_script", "_law_k"] (defScope s_law_at) := ⟨rfl, rfl, rfl, by decide +kernel, rfl, by decide +kernel, by decide +kernel⟩
abbrev s_law_mixed : Stmt := topS 61
theorem sc_law_mixed : FnScope ["_law_cell", "_law_k", "_law_number_here"] ["_law_cell", "_law_k"] (defScope s_law_mixed) := ⟨rfl, rfl, rfl, by decide +kernel, rfl, by decide +kernel, by decide +kernel⟩
abbrev s_law_purse : Stmt := topS 62
theorem sc_law_purse : FnScope ["_law_script", "_law_at_here", "_law_cell"] ["_law_script", "_law_at_here"] (defScope s_law_purse) := ⟨rfl, rfl, rfl, by decide +kernel, rfl, by decide +kernel, by decide +kernel⟩
abbrev s_law_draw : Stmt := topS 63
theorem sc_law_draw : FnScope ["_law_purse_here", "_law_out_of", "_law_drawn", "_law_number_here", "_law_k"] ["_law_purse_here", "_law_out_of"] (defScope s_law_draw) := ⟨rfl, rfl, rfl, by decide +kernel, rfl, by decide +kernel, by decide +kernel⟩
abbrev s_law_number : Stmt := topS 64
theorem sc_law_number : FnScope ["_law_purse_here", "_law_most", "_law_far"] ["_law_purse_here", "_law_most"] (defScope s_law_number) := ⟨rfl, rfl, rfl, by decide +kernel, rfl, by decide +kernel, by decide +kernel⟩
abbrev s_law_end : Stmt := topS 65
theorem sc_law_end : FnScope ["_law_purse_here", "_law_ends", "_law_most", "_law_near"] ["_law_purse_here", "_law_ends", "_law_most"] (defScope s_law_end) := ⟨rfl, rfl, rfl, by decide +kernel, rfl, by decide +kernel, by decide +kernel⟩
abbrev s_law_span : Stmt := topS 66
theorem sc_law_span : FnScope ["_law_purse_here", "_law_ends", "_law_most", "_law_one", "_law_other", "_law_low", "_law_high"] ["_law_purse_here", "_law_ends", "_law_most"] (defScope s_law_span) := ⟨rfl, rfl, rfl, by decide +kernel, rfl, by decide +kernel, by decide +kernel⟩
abbrev s_law_spans : Stmt := topS 67
theorem sc_law_spans : FnScope ["_law_purse_here", "_law_many", "_law_most", "_law_ends", "_law_found", "_law_k"] ["_law_purse_here", "_law_many", "_law_most"] (defScope s_law_spans) := ⟨rfl, rfl, rfl, by decide +kernel, rfl, by decide +kernel, by decide +kernel⟩
abbrev s_law_added : Stmt := topS 68
theorem sc_law_added : FnScope ["_law_spans_here"] ["_law_spans_here"] (defScope s_law_added) := ⟨rfl, rfl, rfl, by decide +kernel, rfl, by decide +kernel, by decide +kernel⟩
abbrev s_law_greatest : Stmt := topS 69
theorem sc_law_greatest : FnScope ["_law_spans_here", "_law_rows", "_law_place", "_law_found"] ["_law_spans_here"] (defScope s_law_greatest) := ⟨rfl, rfl, rfl, by decide +kernel, rfl, by decide +kernel, by decide +kernel⟩
abbrev s_law_weights : Stmt := topS 70
theorem sc_law_weights : FnScope ["_law_spans_here", "_law_weights_here", "_law_k", "_law_chosen", "_law_number_here"] ["_law_spans_here", "_law_weights_here", "_law_k"] (defScope s_law_weights) := ⟨rfl, rfl, rfl, by decide +kernel, rfl, by decide +kernel, by decide +kernel⟩
abbrev s_law_woven : Stmt := topS 71
theorem sc_law_woven : FnScope ["_law_purse_here", "_law_one", "_law_other", "_law_left", "_law_behind", "_law_found"] ["_law_purse_here", "_law_one", "_law_other"] (defScope s_law_woven) := ⟨rfl, rfl, rfl, by decide +kernel, rfl, by decide +kernel, by decide +kernel⟩
abbrev s_law : Stmt := topS 72
theorem sc_law : FnScope ["_law_script", "_law_turn", "_law_purse_here", "_law_one", "_law_other", "_law_most", "_law_end_here", "_law_by", "_law_pairs", "_law_behind", "_law_woven_here", "_law_k", "_law_whole", "_law_sums", "_law_first", "_law_second", "_law_span_here", "_law_weight", "_law_x", "_law_y"] ["_law_script"] (defScope s_law) := ⟨rfl, rfl, rfl, by decide +kernel, rfl, by decide +kernel, by decide +kernel⟩
structure DefM (K : PySem.W.Frag) (name qual : Str) (st : Stmt) (ps : List Str) where
  f : Addr
  fd : FuncData
  F : Fun K name qual st f fd
  b : Binds K fd ps []
structure DefG (K : PySem.W.Frag) (mg : Str → Option Value) (name : Str) (st : Stmt) (ps : List Str) extends DefM K name name st ps where
  g : mg name = some (.ref f)
/-- what the top has left: where each def stands, the constants, that the built-ins are not named anew -/
structure Txt (K : PySem.W.Frag) (mg : Str → Option Value) where
  is_place : DefG K mg "is_place" s_is_place ["number"]
  is_span : DefG K mg "is_span" s_is_span ["span"]
  must_span : DefG K mg "must_span" s_must_span ["span"]
  must_spans : DefG K mg "must_spans" s_must_spans ["spans"]
  holds : DefG K mg "holds" s_holds ["span", "place"]
  is_inside : DefG K mg "is_inside" s_is_inside ["one", "other"]
  under : DefG K mg "under" s_under ["spans", "one", "other"]
  upward : DefG K mg "upward" s_upward ["spans"]
  levels_of : DefG K mg "levels_of" s_levels_of ["spans"]
  nest : DefG K mg "nest" s_nest ["spans"]
  may_follow : DefG K mg "may_follow" s_may_follow ["spans", "tried", "led", "number"]
  followers : DefG K mg "followers" s_followers ["spans"]
  come_to : DefG K mg "come_to" s_come_to ["spans", "led"]
  nests_of : DefG K mg "nests_of" s_nests_of ["spans", "led"]
  loose : DefG K mg "loose" s_loose ["spans"]
  most_told : DefG K mg "most_told" s_most_told ["spans"]
  most_apart : DefG K mg "most_apart" s_most_apart ["spans"]
  must_cover : DefG K mg "must_cover" s_must_cover ["cover"]
  poured : DefG K mg "poured" s_poured ["spans"]
  cover_of : DefG K mg "cover_of" s_cover_of ["spans"]
  either : DefG K mg "either" s_either ["one", "other"]
  held : DefG K mg "held" s_held ["cover"]
  depth_in : DefG K mg "depth_in" s_depth_in ["spans", "place"]
  ends_of : DefG K mg "ends_of" s_ends_of ["spans"]
  pieces : DefG K mg "pieces" s_pieces ["spans"]
  deepest_in : DefG K mg "deepest_in" s_deepest_in ["spans"]
  deepest : DefG K mg "deepest" s_deepest ["spans"]
  must_weight : DefG K mg "must_weight" s_must_weight ["weight"]
  must_weights : DefG K mg "must_weights" s_must_weights ["weights", "many"]
  must_count : DefG K mg "must_count" s_must_count ["k"]
  Lanes_init : DefM K "__init__" "Lanes.__init__" s_Lanes_init ["self", "spans", "weights"]
  Lanes_lead : DefM K "lead" "Lanes.lead" s_Lanes_lead ["self", "start", "goal", "gain", "step"]
  Lanes_lead_all : DefM K "lead_all" "Lanes.lead_all" s_Lanes_lead_all ["self"]
  Lanes_look : DefM K "look" "Lanes.look" s_Lanes_look ["self"]
  Lanes_take : DefM K "take" "Lanes.take" s_Lanes_take ["self"]
  heaviest : DefG K mg "heaviest" s_heaviest ["spans", "weights", "k"]
  given_places : DefG K mg "given_places" s_given_places ["spans"]
  pressed : DefG K mg "pressed" s_pressed ["spans", "window"]
  best_before : DefG K mg "best_before" s_best_before ["best", "highs", "low"]
  best_windows : DefG K mg "best_windows" s_best_windows ["spans"]
  giving : DefG K mg "giving" s_giving ["spans"]
  placed : DefG K mg "placed" s_placed ["spans", "numbers"]
  heaviest_giving : DefG K mg "heaviest_giving" s_heaviest_giving ["spans", "weights"]
  first_free : DefG K mg "first_free" s_first_free ["ends", "low"]
  rows_of : DefG K mg "rows_of" s_rows_of ["spans"]
  law_at : DefG K mg "_law_at" s_law_at ["_law_script", "_law_k"]
  law_mixed : DefG K mg "_law_mixed" s_law_mixed ["_law_cell", "_law_k"]
  law_purse : DefG K mg "_law_purse" s_law_purse ["_law_script", "_law_at_here"]
  law_draw : DefG K mg "_law_draw" s_law_draw ["_law_purse_here", "_law_out_of"]
  law_number : DefG K mg "_law_number" s_law_number ["_law_purse_here", "_law_most"]
  law_end : DefG K mg "_law_end" s_law_end ["_law_purse_here", "_law_ends", "_law_most"]
  law_span : DefG K mg "_law_span" s_law_span ["_law_purse_here", "_law_ends", "_law_most"]
  law_spans : DefG K mg "_law_spans" s_law_spans ["_law_purse_here", "_law_many", "_law_most"]
  law_added : DefG K mg "_law_added" s_law_added ["_law_spans_here"]
  law_greatest : DefG K mg "_law_greatest" s_law_greatest ["_law_spans_here"]
  law_weights : DefG K mg "_law_weights" s_law_weights ["_law_spans_here", "_law_weights_here", "_law_k"]
  law_woven : DefG K mg "_law_woven" s_law_woven ["_law_purse_here", "_law_one", "_law_other"]
  law : DefG K mg "law" s_law ["_law_script"]
  c_BEYOND : ∃ t, mg "BEYOND" = some (.int 1000000000000 t)
  c_MOST_SPANS : ∃ t, mg "MOST_SPANS" = some (.int 200 t)
  c_MOST_WEIGHT : ∃ t, mg "MOST_WEIGHT" = some (.int 1000000000 t)
  c_MOST_COUNT : ∃ t, mg "MOST_COUNT" = some (.int 20 t)
  b_len : mg "len" = none
  b_range : mg "range" = none
  b_sorted : mg "sorted" = none
  b_enumerate : mg "enumerate" = none
  b_max : mg "max" = none
  b_min : mg "min" = none
  b_list : mg "list" = none
  b_zip : mg "zip" = none
  b_sum : mg "sum" = none
  b_set : mg "set" = none
  C : Addr
  cl : Cls K C
  mgC : mg "Lanes" = some (.ref C)
  mkL : Mk K C Lanes_init.f
  n_ends : NoAttr K C "ends"
  n_arcs : NoAttr K C "arcs"
  n_taken : NoAttr K C "taken"
  n_idle : NoAttr K C "idle"
  n_far : NoAttr K C "far"
  n_steps : NoAttr K C "steps"
  m_lead : Meth K C "lead" Lanes_lead.f
  m_lead_all : Meth K C "lead_all" Lanes_lead_all.f
  m_look : Meth K C "look" Lanes_look.f
  m_take : Meth K C "take" Lanes_take.f

end Sh
end

section
/-! heaps and rows of data: what stays, what a list of pairs, triples, ints is -/
namespace Sh
open PySem PySem.Spec PyProof.Rows L2 SpR

/-! ### what stays -/
theorem sm_new {H : Hp} {p : Addr} {o : HO} (h : H p = none) : Same H (upd H p o) := fun b u e => by
  rw [upd_ne (ne_of_none e h)]
  exact e
/-- an object that H does not know may change -/
theorem sm_mut {H H' : Hp} {p : Addr} {o : HO} (e : Same H H') (h : H p = none) : Same H (upd H' p o) := fun b u q => by
  rw [upd_ne (ne_of_none q h)]
  exact e b u q
theorem sm_at {H H' : Hp} {a : Addr} {o : HO} (e : Same H H') (h : H a = some o) : H' a = some o := e a o h
theorem up_old {H : Hp} {p a : Addr} {o u : HO} (hp : H p = none) (h : H a = some u) : upd H p o a = some u := sm_new hp a u h
theorem up_far {H : Hp} {p a : Addr} {o u : HO} (hn : a ≠ p) (h : H a = some u) : upd H p o a = some u := (upd_ne hn).trans h
theorem fr_back {H H' : Hp} {p : Addr} (e : Same H H') (h : H' p = none) : H p = none := e.free h
/-- tuples stand -/
def Tp (H H' : Hp) : Prop := ∀ p xs, H p = some (.tup xs) → H' p = some (.tup xs)
theorem Tp.refl (H : Hp) : Tp H H := fun _ _ h => h
theorem Tp.trans {H H1 H2 : Hp} (a : Tp H H1) (b : Tp H1 H2) : Tp H H2 := fun p xs h => b p xs (a p xs h)
theorem tp_of {H H' : Hp} (e : Same H H') : Tp H H' := fun p xs h => e p _ h
theorem tp_new {H : Hp} {p : Addr} {o : HO} (h : H p = none) : Tp H (upd H p o) := tp_of (sm_new h)
theorem tp_mut {H : Hp} {l : Addr} {o u : HO} (h : H l = some u) (hu : ∀ xs, u ≠ .tup xs) : Tp H (upd H l o) := fun p xs q => by
  have ne : p ≠ l := fun e => by
    subst e
    rw [h] at q
    exact hu xs (Option.some.inj q)
  rw [upd_ne ne]
  exact q
theorem tp_lst {H : Hp} {l : Addr} {o : HO} {ys : List V} (h : H l = some (.lst ys)) : Tp H (upd H l o) := tp_mut h fun xs e => by cases e

/-! ### rows of data -/
def Pr (H : Hp) (v : V) (x : Int × Int) : Prop := ∃ p, v = .ref p ∧ H p = some (.tup [.int x.1, .int x.2])
def Tr (H : Hp) (v : V) (x : Int × Int × Int) : Prop := ∃ p, v = .ref p ∧ H p = some (.tup [.int x.1, .int x.2.1, .int x.2.2])
def In (_ : Hp) (v : V) (x : Int) : Prop := v = .int x
theorem Pr.tp {H H' : Hp} {v : V} {x : Int × Int} (t : Tp H H') (h : Pr H v x) : Pr H' v x := let ⟨p, e, q⟩ := h; ⟨p, e, t p _ q⟩
theorem Tr.tp {H H' : Hp} {v : V} {x : Int × Int × Int} (t : Tp H H') (h : Tr H v x) : Tr H' v x := let ⟨p, e, q⟩ := h; ⟨p, e, t p _ q⟩
theorem In.tp {H H' : Hp} {v : V} {x : Int} (_ : Tp H H') (h : In H v x) : In H' v x := h
section
variable {α β : Type}
def Rows (R : V → α → Prop) (vs : List V) (xs : List α) : Prop := vs.length = xs.length ∧ ∀ (i : Nat) (v : V) (x : α), vs[i]? = some v → xs[i]? = some x → R v x
variable {R S : V → α → Prop} {vs ws : List V} {xs ys : List α}
theorem Rows.len (h : Rows R vs xs) : vs.length = xs.length := h.1
theorem Rows.nil : Rows R [] [] := ⟨rfl, fun i v x h => by simp at h⟩
theorem Rows.mono (h : Rows R vs xs) (f : ∀ v x, R v x → S v x) : Rows S vs xs := ⟨h.1, fun i v x a b => f v x (h.2 i v x a b)⟩
theorem Rows.get (h : Rows R vs xs) {i : Nat} {v : V} (e : vs[i]? = some v) : ∃ x, xs[i]? = some x ∧ R v x := by
  have hi : i < xs.length := by
    rw [← h.1]
    exact (List.getElem?_eq_some_iff.mp e).1
  exact ⟨xs[i], List.getElem?_eq_getElem hi, h.2 i v _ e (List.getElem?_eq_getElem hi)⟩
theorem Rows.at (h : Rows R vs xs) {i : Nat} {x : α} (e : xs[i]? = some x) : ∃ v, vs[i]? = some v ∧ R v x := by
  have hi : i < vs.length := by
    rw [h.1]
    exact (List.getElem?_eq_some_iff.mp e).1
  exact ⟨vs[i], List.getElem?_eq_getElem hi, h.2 i _ x (List.getElem?_eq_getElem hi) e⟩
theorem Rows.cons {v : V} {x : α} (r : R v x) (h : Rows R vs xs) : Rows R (v :: vs) (x :: xs) := by
  refine ⟨by rw [List.length_cons, List.length_cons, h.1], fun i u y a b => ?_⟩
  cases i with
  | zero =>
    have e1 : v = u := Option.some.inj a
    have e2 : x = y := Option.some.inj b
    rw [← e1, ← e2]
    exact r
  | succ i => exact h.2 i u y a b
theorem Rows.uncons {v : V} {x : α} (h : Rows R (v :: vs) (x :: xs)) : R v x ∧ Rows R vs xs :=
  ⟨h.2 0 v x rfl rfl, Nat.succ.inj h.1, fun i u y a b => h.2 (i + 1) u y a b⟩
theorem Rows.append (h : Rows R vs xs) (k : Rows R ws ys) : Rows R (vs ++ ws) (xs ++ ys) := by
  refine ⟨by rw [List.length_append, List.length_append, h.1, k.1], fun i v x a b => ?_⟩
  by_cases hi : i < vs.length
  · rw [List.getElem?_append_left hi] at a
    rw [List.getElem?_append_left (by rw [← h.1]; exact hi)] at b
    exact h.2 i v x a b
  · rw [List.getElem?_append_right (by omega)] at a
    rw [List.getElem?_append_right (by rw [← h.1]; omega)] at b
    rw [← h.1] at b
    exact k.2 _ v x a b
theorem Rows.one {v : V} {x : α} (r : R v x) : Rows R [v] [x] := Rows.cons r Rows.nil
theorem Rows.snoc {v : V} {x : α} (h : Rows R vs xs) (r : R v x) : Rows R (vs ++ [v]) (xs ++ [x]) := h.append (Rows.one r)
theorem Rows.set {v : V} {x : α} (h : Rows R vs xs) (j : Nat) (r : R v x) : Rows R (vs.set j v) (xs.set j x) := by
  refine ⟨by rw [List.length_set, List.length_set, h.1], fun i u y a b => ?_⟩
  by_cases hj : i = j
  · subst hj
    have hi : i < vs.length := by
      have q := (List.getElem?_eq_some_iff.mp a).1
      rw [List.length_set] at q
      exact q
    rw [List.getElem?_set_self hi] at a
    rw [List.getElem?_set_self (by rw [← h.1]; exact hi)] at b
    rw [← Option.some.inj a, ← Option.some.inj b]
    exact r
  · rw [List.getElem?_set_ne (Ne.symm hj)] at a b
    exact h.2 i u y a b
theorem Rows.drop (h : Rows R vs xs) (j : Nat) : Rows R (vs.drop j) (xs.drop j) := by
  refine ⟨by rw [List.length_drop, List.length_drop, h.1], fun i u y a b => ?_⟩
  rw [List.getElem?_drop] at a b
  exact h.2 _ u y a b
theorem Rows.tail (h : Rows R vs xs) : Rows R vs.tail xs.tail := by
  rw [← List.drop_one, ← List.drop_one]
  exact h.drop 1
end
theorem rows_int {H : Hp} : ∀ {vs : List V} {xs : List Int}, Rows (In H) vs xs → vs = xs.map V.int
  | [], [], _ => rfl
  | [], _ :: _, h => by cases h.1
  | _ :: _, [], h => by cases h.1
  | v :: vs, x :: xs, h => by
    obtain ⟨a, b⟩ := h.uncons
    rw [rows_int b, show v = .int x from a] <;> rfl
theorem int_rows {H : Hp} : ∀ (xs : List Int), Rows (In H) (xs.map V.int) xs
  | [] => Rows.nil
  | x :: xs => Rows.cons rfl (int_rows xs)
/-- at a a list whose items are, by R, those of xs -/
def Ls {α : Type} (R : Hp → V → α → Prop) (H : Hp) (a : Addr) (xs : List α) : Prop := ∃ vs, H a = some (.lst vs) ∧ Rows (R H) vs xs
abbrev LsP := @Ls (Int × Int) Pr
abbrev LsT := @Ls (Int × Int × Int) Tr
abbrev LsI (H : Hp) (a : Addr) (ns : List Int) : Prop := H a = some (.lst (ns.map V.int))
theorem Ls.same {α : Type} {R : Hp → V → α → Prop} (m : ∀ {H H' : Hp} {v : V} {x : α}, Tp H H' → R H v x → R H' v x) {H H' : Hp} {a : Addr} {xs : List α} (e : Same H H') (h : Ls R H a xs) : Ls R H' a xs :=
  let ⟨vs, q, r⟩ := h; ⟨vs, e a _ q, r.mono fun _ _ k => m (tp_of e) k⟩
theorem lsP_same {H H' : Hp} {a : Addr} {xs : List (Int × Int)} (e : Same H H') (h : LsP H a xs) : LsP H' a xs := Ls.same (fun t k => k.tp t) e h
theorem lsT_same {H H' : Hp} {a : Addr} {xs : List (Int × Int × Int)} (e : Same H H') (h : LsT H a xs) : LsT H' a xs := Ls.same (fun t k => k.tp t) e h
theorem ls_int {H : Hp} {a : Addr} {xs : List Int} (h : Ls In H a xs) : LsI H a xs := let ⟨vs, q, r⟩ := h; by
  rw [rows_int r] at q
  exact q
theorem int_ls {H : Hp} {a : Addr} {xs : List Int} (h : LsI H a xs) : Ls In H a xs := ⟨_, h, int_rows xs⟩

/-! ### tests -/
theorem ifY {c A B : Prop} [Decidable c] (h : c) (q : A) : if decide c = true then A else B := by
  rw [if_pos (decide_eq_true h)]
  exact q
theorem ifN {c A B : Prop} [Decidable c] (h : ¬ c) (q : B) : if decide c = true then A else B := by
  rw [if_neg (by rw [decide_eq_false h]; decide)]
  exact q
theorem ifD {c A B : Prop} [Decidable c] (h1 : c → A) (h2 : ¬ c → B) : if decide c = true then A else B := by
  by_cases h : c
  · exact ifY h (h1 h)
  · exact ifN h (h2 h)
theorem ifB {b : Bool} {A B : Prop} (h1 : b = true → A) (h2 : b = false → B) : if b = true then A else B := by
  cases b with
  | true => exact h1 rfl
  | false => exact h2 rfl
/-! ### steps of a reading -/
theorem cx_K {CX : CXT} {P : Program} {w : World} {K : PySem.W.Frag} {mg : Str → Option Value} {base : Heap} {N : List Str} {q : Str} {sc : Scope} {f : Addr} {cdv : Value} {A : Around} {outer : List Env} {s : Shared} {H : Hp} {E : XK} :
    (cxOf CX P w K mg base N q sc f cdv A outer s H E).nox.K = K := rfl

theorem k_ixT {K : PySem.W.Frag} {H : Hp} {p : Addr} {xs : List V} {i : Int} {v : V} {Q : VK} (h : H p = some (.tup xs)) (e : atI xs i = some v) (q : Q v H) : rIxT K (.ref p) (.int i) H Q := ⟨p, xs, i, v, rfl, rfl, SqT.of h, e, q⟩
theorem k_ixL {K : PySem.W.Frag} {H : Hp} {p : Addr} {xs : List V} {i : Nat} {v : V} {Q : VK} (h : H p = some (.lst xs)) (e : xs[i]? = some v) (q : Q v H) : rIxL K (.ref p) (.int (i : Int)) H Q := ⟨p, xs, i, v, rfl, rfl, SqL.of h, atI_nat e, q⟩
/-- a new object: from then on some heap that keeps what stood, and holds it -/
theorem k_new {H : Hp} {o : HO} {Q : VK} (q : ∀ p H', Same H H' → H p = none → H' p = some o → Q (.ref p) H') : ∀ p, H p = none → Q (.ref p) (upd H p o) := fun p hp => q p _ (sm_new hp) hp upd_same
theorem k_cat {H : Hp} {l b : Addr} {xs zs : List V} {Q : VK} (h1 : H l = some (.lst xs)) (h2 : H b = some (.lst zs)) (hz : xs.length + zs.length ≤ 1000) (q : ∀ p H', Same H H' → H p = none → H' p = some (.lst (xs ++ zs)) → Q (.ref p) H') : jCat (.ref l) (.ref b) H Q := by
  unfold jCat
  exact ⟨l, b, xs, zs, rfl, rfl, h1, h2, Nat.le_trans hz (by decide), k_new q⟩
theorem newF {H : Hp} {p : Addr} {o : HO} (h : H p = none) : Same H (upd H p o) ∧ upd H p o p = some o := ⟨sm_new h, upd_same⟩
theorem k_bl {Q : VK} {H : Hp} {a b : Bool} (e : a = b) (q : Q (.bl a) H) : Q (.bl b) H := by
  rw [← e]
  exact q
theorem k_int {Q : VK} {H : Hp} {a b : Int} (e : a = b) (q : Q (.int a) H) : Q (.int b) H := by
  rw [← e]
  exact q
theorem dec_and {a b : Prop} [Decidable a] [Decidable b] : (decide a && decide b) = decide (a ∧ b) := by
  by_cases h : a <;> by_cases h2 : b <;> simp [h, h2]
/-! ### sizes -/
theorem szl {n : Nat} (h : n ≤ 1000) : n ≤ sizeLine := Nat.le_trans h (by decide)
theorem szt {n : Nat} (h : n ≤ 1000) : n < sizeLine := small1000 h

/-! ### data that is compared -/
structure DtOk {α : Type} [DecidableEq α] (R : Hp → V → α → Prop) (toD : α → PyData) : Prop where
  tp : ∀ {H H' : Hp} {v : V} {x : α}, Tp H H' → R H v x → R H' v x
  dp : ∀ {K : PySem.W.Frag} {H : Hp} {v : V} {x : α}, R H v x → Dp K H v (toD x)
  lay : ∀ x, (toD x).canLay0 = true
  dep : ∀ x, (toD x).depth ≤ 3
  eqv : ∀ x y, PyData.eqv (toD x) (toD y) = decide (x = y)
def dP (s : Int × Int) : PyData := .tuple [.int s.1, .int s.2]
def dT (s : Int × Int × Int) : PyData := .tuple [.int s.1, .int s.2.1, .int s.2.2]
/-- a span with its weight -/
def Pq (H : Hp) (v : V) (x : (Int × Int) × Int) : Prop := ∃ p q, v = .ref p ∧ H p = some (.tup [.ref q, .int x.2]) ∧ H q = some (.tup [.int x.1.1, .int x.1.2])
theorem Pq.tp {H H' : Hp} {v : V} {x : (Int × Int) × Int} (t : Tp H H') (h : Pq H v x) : Pq H' v x := let ⟨p, q, e, a, b⟩ := h; ⟨p, q, e, t p _ a, t q _ b⟩
def dQ (s : (Int × Int) × Int) : PyData := .tuple [dP s.1, .int s.2]
theorem dtI : DtOk In PyData.int where
  tp := fun _ h => h
  dp := fun {K H v x} h => by
    rw [show v = .int x from h]
    exact .int x
  lay := fun x => by simp [PyData.canLay0]
  dep := fun x => by simp [PyData.depth]
  eqv := fun x y => by
    simp only [PyData.eqv]
    exact beq_eq_decide_int x y
where beq_eq_decide_int (x y : Int) : (x == y) = decide (x = y) := by by_cases h : x = y <;> simp [h]
theorem dtP : DtOk Pr dP where
  tp := fun t h => h.tp t
  dp := fun {K H v x} h => by
    obtain ⟨p, rfl, q⟩ := h
    exact .tup (SqT.of q) (.cons (.int _) (.cons (.int _) .nil))
  lay := fun x => by simp [dP, PyData.canLay0, PyData.canLayAll0]
  dep := fun x => by simp [dP, PyData.depth, PyData.depthAll]
  eqv := fun x y => by
    obtain ⟨a, b⟩ := x
    obtain ⟨c, d⟩ := y
    simp only [dP, PyData.eqv, PyData.eqvAll, Prod.mk.injEq]
    by_cases h1 : a = c <;> by_cases h2 : b = d <;> simp [h1, h2]
theorem dtT : DtOk Tr dT where
  tp := fun t h => h.tp t
  dp := fun {K H v x} h => by
    obtain ⟨p, rfl, q⟩ := h
    exact .tup (SqT.of q) (.cons (.int _) (.cons (.int _) (.cons (.int _) .nil)))
  lay := fun x => by simp [dT, PyData.canLay0, PyData.canLayAll0]
  dep := fun x => by simp [dT, PyData.depth, PyData.depthAll]
  eqv := fun x y => by
    obtain ⟨a, b, e⟩ := x
    obtain ⟨c, d, f⟩ := y
    simp only [dT, PyData.eqv, PyData.eqvAll, Prod.mk.injEq]
    by_cases h1 : a = c <;> by_cases h2 : b = d <;> by_cases h3 : e = f <;> simp [h1, h2, h3]
theorem dtQ : DtOk Pq dQ where
  tp := fun t h => h.tp t
  dp := fun {K H v x} h => by
    obtain ⟨p, q, rfl, a, b⟩ := h
    exact .tup (SqT.of a) (.cons (dtP.dp ⟨q, rfl, b⟩) (.cons (.int _) .nil))
  lay := fun x => by simp [dQ, dP, PyData.canLay0, PyData.canLayAll0]
  dep := fun x => by simp [dQ, dP, PyData.depth, PyData.depthAll]
  eqv := fun x y => by
    obtain ⟨⟨a, b⟩, e⟩ := x
    obtain ⟨⟨c, d⟩, f⟩ := y
    simp only [dQ, dP, PyData.eqv, PyData.eqvAll, Prod.mk.injEq]
    by_cases h1 : a = c <;> by_cases h2 : b = d <;> by_cases h3 : e = f <;> simp [h1, h2, h3]
section
variable {α : Type} [DecidableEq α] {R : Hp → V → α → Prop} {toD : α → PyData} {K : PySem.W.Frag} {H : Hp} {a b : Addr} {u v : V} {x y : α} {xs ys : List α} {Q : VK}
theorem DtOk.all (d : DtOk R toD) : ∀ {vs : List V} {xs : List α}, Rows (R H) vs xs → DpAll K H vs (xs.map toD)
  | [], [], _ => .nil
  | [], _ :: _, h => nomatch h.1
  | _ :: _, [], h => nomatch h.1
  | _ :: _, _ :: _, h => .cons (d.dp h.uncons.1) (d.all h.uncons.2)
theorem DtOk.lst (d : DtOk R toD) (h : Ls R H a xs) : Dp K H (.ref a) (.list (xs.map toD)) := let ⟨_, q, r⟩ := h; .lst (SqL.of q) (d.all r)
theorem DtOk.layAll (d : DtOk R toD) : ∀ xs : List α, PyData.canLayAll0 (xs.map toD) = true
  | [] => rfl
  | x :: xs => by
    rw [List.map_cons, PyData.canLayAll0, d.lay x, d.layAll xs] <;> rfl
theorem DtOk.depAll (d : DtOk R toD) : ∀ xs : List α, PyData.depthAll (xs.map toD) ≤ 3
  | [] => by simp [PyData.depthAll]
  | x :: xs => by
    rw [List.map_cons, PyData.depthAll]
    have h1 := d.dep x
    have h2 := d.depAll xs
    omega
theorem DtOk.shL (d : DtOk R toD) (xs : List α) : SeqAt.shaped (.list (xs.map toD)) = true := by
  have h := d.depAll xs
  unfold SeqAt.shaped
  rw [PyData.canLay0, d.layAll, PyData.depth, decide_eq_true (by omega)] <;> rfl
theorem DtOk.sh1 (d : DtOk R toD) (x : α) : SeqAt.shaped (toD x) = true := by
  have h := d.dep x
  unfold SeqAt.shaped
  rw [d.lay, decide_eq_true (by omega)] <;> rfl
theorem DtOk.eqAll (d : DtOk R toD) : ∀ xs ys : List α, PyData.eqvAll (xs.map toD) (ys.map toD) = decide (xs = ys)
  | [], [] => by simp [PyData.eqvAll]
  | [], _ :: _ => by simp [PyData.eqvAll]
  | _ :: _, [] => by simp [PyData.eqvAll]
  | x :: xs, y :: ys => by
    rw [List.map_cons, List.map_cons, PyData.eqvAll, d.eqv, d.eqAll xs ys, dec_and]
    exact decide_eq_decide.mpr ⟨fun z => by rw [z.1, z.2], fun z => ⟨(List.cons.inj z).1, (List.cons.inj z).2⟩⟩
theorem k_eq (d : DtOk R toD) (hx : R H u x) (hy : R H v y) (q : Q (.bl (decide (x = y))) H) : jEq K u v H Q := by
  unfold jEq
  exact ⟨_, _, d.dp hx, d.dp hy, d.sh1 x, d.sh1 y, by rw [d.eqv]; exact q⟩
theorem k_eqL (d : DtOk R toD) (hx : Ls R H a xs) (hy : Ls R H b ys) (q : Q (.bl (decide (xs = ys))) H) : jEq K (.ref a) (.ref b) H Q := by
  unfold jEq
  exact ⟨_, _, d.lst hx, d.lst hy, d.shL xs, d.shL ys, by rw [PyData.eqv, d.eqAll]; exact q⟩
theorem k_neL (d : DtOk R toD) (hx : Ls R H a xs) (hy : Ls R H b ys) (q : Q (.bl (!decide (xs = ys))) H) : jNe K (.ref a) (.ref b) H Q := by
  unfold jNe
  exact ⟨_, _, d.lst hx, d.lst hy, d.shL xs, d.shL ys, by rw [PyData.eqv, d.eqAll]; exact q⟩
theorem DtOk.same (d : DtOk R toD) {H' : Hp} (e : Same H H') (h : Ls R H a xs) : Ls R H' a xs := Ls.same (R := R) (fun t k => d.tp t k) e h
/-- xs == [], xs != [] -/
theorem k_eqN (d : DtOk R toD) (hx : Ls R H a xs) (q : ∀ p, H p = none → Q (.bl (decide (xs = []))) (upd H p (.lst []))) : ([] : List V).length ≤ sizeLine ∧ ∀ p, H p = none → jEq K (.ref a) (.ref p) (upd H p (.lst [])) Q :=
  ⟨Nat.zero_le _, fun p hp => k_eqL d (d.same (sm_new hp) hx) ⟨[], upd_same, Rows.nil⟩ (q p hp)⟩
theorem k_neN (d : DtOk R toD) (hx : Ls R H a xs) (q : ∀ p, H p = none → Q (.bl (!decide (xs = []))) (upd H p (.lst []))) : ([] : List V).length ≤ sizeLine ∧ ∀ p, H p = none → jNe K (.ref a) (.ref p) (upd H p (.lst [])) Q :=
  ⟨Nat.zero_le _, fun p hp => k_neL d (d.same (sm_new hp) hx) ⟨[], upd_same, Rows.nil⟩ (q p hp)⟩
end

/-! ### a comprehension: what each turn gives -/
theorem lc_map {J : It} {n : Nat} {G : Hp → Prop} {Y : Nat → Hp → V → Hp → Prop} (w : Walk J n G Y) {g : TG} {tt : TT} {te : TE} {vs : List Nat} {σ : L2.St} {H1 : Hp} {D : Addr} {Qd : Hp → Prop} {β : Type} (R : Hp → V → β → Prop)
    (m : ∀ {H H' : Hp} {v : V} {x : β}, Tp H H' → R H v x → R H' v x) (f : Nat → Option β) (hn : n ≤ 1000) (hD : H1 D = none) (hG : ∀ H', Same H1 H' → G H')
    (turn : ∀ i x H0 H', i < n → Same H1 H0 → Y i H0 x H' → ∀ (Kt : V → Hp → Prop) (Kf : Hp → Prop), (∀ y b H2, Same H0 H2 → f i = some b → R H2 y b → Kt y H2) → (∀ H2, Same H0 H2 → f i = none → Kf H2) →
      g x (wipe σ vs) H' fun σ2 H2 => wipe σ2 vs = wipe σ vs ∧ tt σ2 H2 fun b H3 => if b = true then te σ2 H3 Kt else Kf H3)
    (hd : ∀ H', Same H1 H' → Ls R H' D ((List.range n).filterMap f) → Qd H') :
    ∃ W : Nat → Nat → Hp → Prop, (∃ m, W 0 m (upd H1 D (.lst []))) ∧ ∀ i m H, W i m H →
      (J.stop i H ∧ Qd H) ∨ (J.go i H ∧ ∃ Nx : Hp → Prop, (∀ H', Nx H' → ∃ m', m' < m ∧ W (i + 1) m' H') ∧ ∀ x H', J.yld i H x H' → g x (wipe σ vs) H' fun σ2 H2 => wipe σ2 vs = wipe σ vs ∧ tt σ2 H2 fun b H3 =>
        if b = true then te σ2 H3 fun y H4 => ∃ acc, H4 D = some (.lst acc) ∧ acc.length < sizeLine ∧ Nx (upd H4 D (.lst (acc ++ [y]))) else Nx H3) := by
  have step : ∀ i, (List.range (i + 1)).filterMap f = (List.range i).filterMap f ++ (f i).toList := fun i => by
    rw [List.range_succ, List.filterMap_append]
    congr 1
  have lenle : ∀ i, ((List.range i).filterMap f).length ≤ i := fun i => by
    have q := List.length_filterMap_le f (List.range i)
    rw [List.length_range] at q
    exact q
  refine lc_it w (fun i H' => Same H1 H' ∧ Ls R H' D ((List.range i).filterMap f)) ⟨sm_new hD, [], upd_same, Rows.nil⟩ (fun i H' _ p => hG H' p.1) (fun i x H0 H' hi p y => ?_) (fun H' p => hd H' p.1 p.2)
  obtain ⟨s0, us, hu, ru⟩ := p
  have hlen : us.length < sizeLine := szt (by have := lenle i; have := ru.len; omega)
  refine turn i x H0 H' hi s0 y _ _ (fun y b H2 s2 hb r => ?_) (fun H2 s2 hf => ?_)
  · refine ⟨us, s2 D _ hu, hlen, sm_mut (s0.trans s2) hD, us ++ [y], upd_same, ?_⟩
    have t : Tp H2 (upd H2 D (.lst (us ++ [y]))) := tp_lst (s2 D _ hu)
    rw [step, hb]
    exact (ru.mono fun _ _ k => m ((tp_of s2).trans t) k).snoc (m t r)
  · refine ⟨s0.trans s2, us, s2 D _ hu, ?_⟩
    rw [step, hf]
    show Rows (R H2) us ((List.range i).filterMap f ++ [])
    rw [List.append_nil]
    exact ru.mono fun _ _ k => m (tp_of s2) k
/-- what comes of a list's items: by item, not by place -/
theorem range_fm {α β : Type} (xs : List α) (f : α → Option β) (g : Nat → Option β) (h : ∀ (i : Nat) (x : α), xs[i]? = some x → g i = f x) : (List.range xs.length).filterMap g = xs.filterMap f := by
  induction xs generalizing g with
  | nil => rfl
  | cons x xs ih =>
    rw [List.length_cons, List.range_succ_eq_map, List.filterMap_cons, h 0 x rfl]
    have e : List.filterMap g (List.map Nat.succ (List.range xs.length)) = List.filterMap f xs := by
      rw [List.filterMap_map]
      exact ih (fun i => g (i + 1)) fun i y hy => h (i + 1) y hy
    rw [e]
    cases hf : f x <;> simp [hf]
/-- .. of each item of a list -/
theorem lc_each {K : PySem.W.Frag} {a : Addr} {us : List V} {g : TG} {tt : TT} {te : TE} {vs : List Nat} {σ : L2.St} {H1 : Hp} {D : Addr} {Qd : Hp → Prop} {α β : Type} {xs : List α} (S : Hp → V → α → Prop) (sp : ∀ {H H' : Hp} {v : V} {x : α}, Tp H H' → S H v x → S H' v x) (R : Hp → V → β → Prop)
    (m : ∀ {H H' : Hp} {v : V} {x : β}, Tp H H' → R H v x → R H' v x) (f : α → Option β) (hu : H1 a = some (.lst us)) (ru : Rows (S H1) us xs) (hn : xs.length ≤ 1000) (hD : H1 D = none)
    (turn : ∀ v x H0, x ∈ xs → Same H1 H0 → S H0 v x → ∀ (Kt : V → Hp → Prop) (Kf : Hp → Prop), (∀ y b H2, Same H0 H2 → f x = some b → R H2 y b → Kt y H2) → (∀ H2, Same H0 H2 → f x = none → Kf H2) →
      g v (wipe σ vs) H0 fun σ2 H2 => wipe σ2 vs = wipe σ vs ∧ tt σ2 H2 fun b H3 => if b = true then te σ2 H3 Kt else Kf H3)
    (hd : ∀ H', Same H1 H' → Ls R H' D (xs.filterMap f) → Qd H') :
    ∃ W : Nat → Nat → Hp → Prop, (∃ m, W 0 m (upd H1 D (.lst []))) ∧ ∀ i m H, W i m H →
      ((Itl K a).stop i H ∧ Qd H) ∨ ((Itl K a).go i H ∧ ∃ Nx : Hp → Prop, (∀ H', Nx H' → ∃ m', m' < m ∧ W (i + 1) m' H') ∧ ∀ x H', (Itl K a).yld i H x H' → g x (wipe σ vs) H' fun σ2 H2 => wipe σ2 vs = wipe σ vs ∧ tt σ2 H2 fun b H3 =>
        if b = true then te σ2 H3 fun y H4 => ∃ acc, H4 D = some (.lst acc) ∧ acc.length < sizeLine ∧ Nx (upd H4 D (.lst (acc ++ [y]))) else Nx H3) := by
  have hf : ∀ (i : Nat) (x : α), xs[i]? = some x → (fun i => (xs[i]?).bind f) i = f x := fun i x hx => by
    show (xs[i]?).bind f = f x
    rw [hx, Option.bind_some]
  refine lc_map (walk_list (xs := us)) R m (fun i => (xs[i]?).bind f) (by have := ru.len; omega) hD (fun H' e => SqL.of (e _ _ hu)) (fun i v H0 H' hi s0 ⟨e, hv⟩ Kt Kf ht hf' => ?_) (fun H' e hl => ?_)
  · subst e
    obtain ⟨x, hx, r⟩ := ru.get hv
    have ex := hf i x hx
    exact turn v x _ (List.mem_of_getElem? hx) s0 (sp (tp_of s0) r) Kt Kf (fun y b H2 s2 hb => ht y b H2 s2 (ex.trans hb)) (fun H2 s2 hb => hf' H2 s2 (ex.trans hb))
  · rw [ru.len, range_fm xs f _ hf] at hl
    exact hd H' e hl
/-- [e for x in xs]: f of each -/
theorem lc_eachM {K : PySem.W.Frag} {a : Addr} {us : List V} {g : TG} {te : TE} {vs : List Nat} {σ : L2.St} {H1 : Hp} {D : Addr} {Qd : Hp → Prop} {α β : Type} {xs : List α} (S : Hp → V → α → Prop) (sp : ∀ {H H' : Hp} {v : V} {x : α}, Tp H H' → S H v x → S H' v x) (R : Hp → V → β → Prop)
    (m : ∀ {H H' : Hp} {v : V} {x : β}, Tp H H' → R H v x → R H' v x) (f : α → β) (hu : H1 a = some (.lst us)) (ru : Rows (S H1) us xs) (hn : xs.length ≤ 1000) (hD : H1 D = none)
    (turn : ∀ v x H0, x ∈ xs → Same H1 H0 → S H0 v x → ∀ (Kt : V → Hp → Prop), (∀ y H2, Same H0 H2 → R H2 y (f x) → Kt y H2) → g v (wipe σ vs) H0 fun σ2 H2 => wipe σ2 vs = wipe σ vs ∧ te σ2 H2 Kt)
    (hd : ∀ H', Same H1 H' → Ls R H' D (xs.map f) → Qd H') :
    ∃ W : Nat → Nat → Hp → Prop, (∃ m, W 0 m (upd H1 D (.lst []))) ∧ ∀ i m H, W i m H →
      ((Itl K a).stop i H ∧ Qd H) ∨ ((Itl K a).go i H ∧ ∃ Nx : Hp → Prop, (∀ H', Nx H' → ∃ m', m' < m ∧ W (i + 1) m' H') ∧ ∀ x H', (Itl K a).yld i H x H' → g x (wipe σ vs) H' fun σ2 H2 => wipe σ2 vs = wipe σ vs ∧ tYes σ2 H2 fun b H3 =>
        if b = true then te σ2 H3 fun y H4 => ∃ acc, H4 D = some (.lst acc) ∧ acc.length < sizeLine ∧ Nx (upd H4 D (.lst (acc ++ [y]))) else Nx H3) := by
  refine lc_each S sp R m (fun x => some (f x)) hu ru hn hD (fun v x H0 hx s0 r Kt Kf ht _ => ?_) (fun H' e hl => hd H' e ?_)
  · exact turn v x H0 hx s0 r Kt fun y H2 s2 rr => ht y _ H2 s2 rfl rr
  · rw [List.filterMap_eq_map'] at hl
    exact hl
/-- [x for x in xs if p] -/
theorem lc_eachF {K : PySem.W.Frag} {a : Addr} {us : List V} {i : Nat} {tt : TT} {vs : List Nat} {σ : L2.St} {H1 : Hp} {D : Addr} {Qd : Hp → Prop} {α : Type} {xs : List α} (S : Hp → V → α → Prop) (sp : ∀ {H H' : Hp} {v : V} {x : α}, Tp H H' → S H v x → S H' v x)
    (p : α → Bool) (hu : H1 a = some (.lst us)) (ru : Rows (S H1) us xs) (hn : xs.length ≤ 1000) (hD : H1 D = none) (hw : ∀ v, wipe ((wipe σ vs).set i (some v)) vs = wipe σ vs) (hi : i < (wipe σ vs).length)
    (turn : ∀ v x H0, x ∈ xs → Same H1 H0 → S H0 v x → ∀ (Kb : Bool → Hp → Prop), (∀ H2, Same H0 H2 → Kb (p x) H2) → tt ((wipe σ vs).set i (some v)) H0 Kb)
    (hd : ∀ H', Same H1 H' → Ls S H' D (xs.filter p) → Qd H') :
    ∃ W : Nat → Nat → Hp → Prop, (∃ m, W 0 m (upd H1 D (.lst []))) ∧ ∀ i' m H, W i' m H →
      ((Itl K a).stop i' H ∧ Qd H) ∨ ((Itl K a).go i' H ∧ ∃ Nx : Hp → Prop, (∀ H', Nx H' → ∃ m', m' < m ∧ W (i' + 1) m' H') ∧ ∀ x H', (Itl K a).yld i' H x H' → gName i x (wipe σ vs) H' fun σ2 H2 => wipe σ2 vs = wipe σ vs ∧ tt σ2 H2 fun b H3 =>
        if b = true then tVar i σ2 H3 fun y H4 => ∃ acc, H4 D = some (.lst acc) ∧ acc.length < sizeLine ∧ Nx (upd H4 D (.lst (acc ++ [y]))) else Nx H3) := by
  refine lc_each S sp S sp (fun x => if p x = true then some x else none) hu ru hn hD (fun v x H0 hx s0 r Kt Kf ht hf => ?_) (fun H' e hl => hd H' e ?_)
  · refine ⟨hw v, turn v x H0 hx s0 r _ fun H2 s2 => ?_⟩
    refine ifB (fun hb => ?_) (fun hb => ?_)
    · exact ⟨v, List.getElem?_set_self hi, ht v x H2 s2 (if_pos hb) (sp (tp_of s2) r)⟩
    · exact hf H2 s2 (if_neg (by rw [hb]; decide))
  · rw [show (fun x => if p x = true then some x else none) = Option.guard (fun x => p x) from rfl, List.filterMap_eq_filter] at hl
    exact hl
/-- a, b = a pair; a, b, c = a triple -/
theorem g_two {K : PySem.W.Frag} {i j : Nat} {T : Addr} {x y : V} {σ : L2.St} {H : Hp} {Q : L2.St → Hp → Prop} (h : H T = some (.tup [x, y])) (q : Q ((σ.set i (some x)).set j (some y)) H) : gTup K 2 (gCons (gName i) (gCons (gName j) gNil)) (.ref T) σ H Q :=
  ⟨T, [x, y], rfl, SqT.of h, rfl, x, [y], rfl, y, [], rfl, rfl, q⟩
theorem g_three {K : PySem.W.Frag} {i j l : Nat} {T : Addr} {x y z : V} {σ : L2.St} {H : Hp} {Q : L2.St → Hp → Prop} (h : H T = some (.tup [x, y, z])) (q : Q (((σ.set i (some x)).set j (some y)).set l (some z)) H) :
    gTup K 3 (gCons (gName i) (gCons (gName j) (gCons (gName l) gNil))) (.ref T) σ H Q :=
  ⟨T, [x, y, z], rfl, SqT.of h, rfl, x, [y, z], rfl, y, [z], rfl, z, [], rfl, rfl, q⟩
/-- [e for i, x in enumerate(xs) if ..] -/
theorem lc_enum {K : PySem.W.Frag} {a : Addr} {us : List V} {g : TG} {tt : TT} {te : TE} {vs : List Nat} {σ : L2.St} {H1 : Hp} {D : Addr} {Qd : Hp → Prop} {α β : Type} {xs : List α} (S : Hp → V → α → Prop) (sp : ∀ {H H' : Hp} {v : V} {x : α}, Tp H H' → S H v x → S H' v x) (R : Hp → V → β → Prop)
    (m : ∀ {H H' : Hp} {v : V} {x : β}, Tp H H' → R H v x → R H' v x) (f : α × Nat → Option β) (hu : H1 a = some (.lst us)) (ru : Rows (S H1) us xs) (hn : xs.length ≤ 1000) (hD : H1 D = none)
    (turn : ∀ v x (i : Nat) H0 T H', xs[i]? = some x → Same H1 H0 → S H' v x → Same H0 H' → H' T = some (.tup [.int (i : Int), v]) → ∀ (Kt : V → Hp → Prop) (Kf : Hp → Prop), (∀ y b H2, Same H' H2 → f (x, i) = some b → R H2 y b → Kt y H2) → (∀ H2, Same H' H2 → f (x, i) = none → Kf H2) →
      g (.ref T) (wipe σ vs) H' fun σ2 H2 => wipe σ2 vs = wipe σ vs ∧ tt σ2 H2 fun b H3 => if b = true then te σ2 H3 Kt else Kf H3)
    (hd : ∀ H', Same H1 H' → Ls R H' D (xs.zipIdx.filterMap f) → Qd H') :
    ∃ W : Nat → Nat → Hp → Prop, (∃ m, W 0 m (upd H1 D (.lst []))) ∧ ∀ i m H, W i m H →
      ((Ite K a).stop i H ∧ Qd H) ∨ ((Ite K a).go i H ∧ ∃ Nx : Hp → Prop, (∀ H', Nx H' → ∃ m', m' < m ∧ W (i + 1) m' H') ∧ ∀ x H', (Ite K a).yld i H x H' → g x (wipe σ vs) H' fun σ2 H2 => wipe σ2 vs = wipe σ vs ∧ tt σ2 H2 fun b H3 =>
        if b = true then te σ2 H3 fun y H4 => ∃ acc, H4 D = some (.lst acc) ∧ acc.length < sizeLine ∧ Nx (upd H4 D (.lst (acc ++ [y]))) else Nx H3) := by
  have hz : ∀ (i : Nat) (y : α × Nat), xs.zipIdx[i]? = some y → (fun i => (xs.zipIdx[i]?).bind f) i = f y := fun i y hy => by
    show (xs.zipIdx[i]?).bind f = f y
    rw [hy, Option.bind_some]
  refine lc_map (walk_enum (xs := us)) R m (fun i => (xs.zipIdx[i]?).bind f) (by have := ru.len; omega) hD (fun H' e => SqL.of (e _ _ hu)) (fun i w H0 H' hi s0 ⟨T, x, v, ew, hT, eH, ex, ev⟩ Kt Kf ht hf => ?_) (fun H' e hl => ?_)
  · obtain ⟨x', hx, r⟩ := ru.get ev
    have e1 : V.int (i : Int) = x := Option.some.inj ex
    have ez := hz i (x', i) (by simp [List.getElem?_zipIdx, hx])
    have s1 : Same H0 H' := by
      rw [eH]
      exact sm_new hT
    rw [ew]
    refine turn v x' i H0 T H' hx s0 (sp (tp_of (s0.trans s1)) r) s1 ?_ Kt Kf (fun y b H2 s2 hb => ht y b H2 (s1.trans s2) (ez.trans hb)) (fun H2 s2 hb => hf H2 (s1.trans s2) (ez.trans hb))
    rw [eH, upd_same, ← e1]
  · have e2 := range_fm xs.zipIdx f _ hz
    rw [List.length_zipIdx, ← ru.len] at e2
    rw [e2] at hl
    exact hd H' e hl
/-- [e for i, x in enumerate(xs)] -/
theorem lc_enumM {K : PySem.W.Frag} {a : Addr} {us : List V} {g : TG} {te : TE} {vs : List Nat} {σ : L2.St} {H1 : Hp} {D : Addr} {Qd : Hp → Prop} {α β : Type} {xs : List α} (S : Hp → V → α → Prop) (sp : ∀ {H H' : Hp} {v : V} {x : α}, Tp H H' → S H v x → S H' v x) (R : Hp → V → β → Prop)
    (m : ∀ {H H' : Hp} {v : V} {x : β}, Tp H H' → R H v x → R H' v x) (f : α × Nat → β) (hu : H1 a = some (.lst us)) (ru : Rows (S H1) us xs) (hn : xs.length ≤ 1000) (hD : H1 D = none)
    (turn : ∀ v x (i : Nat) H0 T H', xs[i]? = some x → Same H1 H0 → S H' v x → Same H0 H' → H' T = some (.tup [.int (i : Int), v]) → ∀ (Kt : V → Hp → Prop), (∀ y H2, Same H' H2 → R H2 y (f (x, i)) → Kt y H2) →
      g (.ref T) (wipe σ vs) H' fun σ2 H2 => wipe σ2 vs = wipe σ vs ∧ te σ2 H2 Kt)
    (hd : ∀ H', Same H1 H' → Ls R H' D (xs.zipIdx.map f) → Qd H') :
    ∃ W : Nat → Nat → Hp → Prop, (∃ m, W 0 m (upd H1 D (.lst []))) ∧ ∀ i m H, W i m H →
      ((Ite K a).stop i H ∧ Qd H) ∨ ((Ite K a).go i H ∧ ∃ Nx : Hp → Prop, (∀ H', Nx H' → ∃ m', m' < m ∧ W (i + 1) m' H') ∧ ∀ x H', (Ite K a).yld i H x H' → g x (wipe σ vs) H' fun σ2 H2 => wipe σ2 vs = wipe σ vs ∧ tYes σ2 H2 fun b H3 =>
        if b = true then te σ2 H3 fun y H4 => ∃ acc, H4 D = some (.lst acc) ∧ acc.length < sizeLine ∧ Nx (upd H4 D (.lst (acc ++ [y]))) else Nx H3) := by
  refine lc_enum S sp R m (fun x => some (f x)) hu ru hn hD (fun v x i H0 T H' hi s0 r s1 hT Kt Kf ht _ => ?_) (fun H' e hl => hd H' e ?_)
  · exact turn v x i H0 T H' hi s0 r s1 hT Kt fun y H2 s2 rr => ht y _ H2 s2 rfl rr
  · rw [List.filterMap_eq_map'] at hl
    exact hl
theorem fold_take {α β : Type} {f : β → α → β} {b : β} {l : List α} {i : Nat} {x : α} (h : l[i]? = some x) : (l.take (i + 1)).foldl f b = f ((l.take i).foldl f b) x := by
  rw [List.take_add_one, h, List.foldl_append]
  rfl
theorem nil_or_snoc {α : Type} (l : List α) : l = [] ∨ ∃ m x, l = m ++ [x] := by
  cases h : l.getLast? with
  | none => exact .inl (List.getLast?_eq_none_iff.mp h)
  | some x =>
    obtain ⟨m, e⟩ := List.getLast?_eq_some_iff.mp h
    exact .inr ⟨m, x, e⟩
theorem Rows.last {α : Type} {R : V → α → Prop} {vs : List V} {m : List α} {x : α} (h : Rows R vs (m ++ [x])) : ∃ ws v, vs = ws ++ [v] ∧ Rows R ws m ∧ R v x := by
  rcases nil_or_snoc vs with e | ⟨ws, v, e⟩
  · subst e
    have := h.len
    simp at this
  · subst e
    have hl : ws.length = m.length := by
      have := h.len
      simp only [List.length_append, List.length_singleton] at this
      omega
    refine ⟨ws, v, rfl, ⟨hl, fun i u y a b => h.2 i u y ?_ ?_⟩, h.2 m.length v x ?_ ?_⟩
    · rw [List.getElem?_append_left (List.getElem?_eq_some_iff.mp a).1]
      exact a
    · rw [List.getElem?_append_left (List.getElem?_eq_some_iff.mp b).1]
      exact b
    · rw [← hl, List.getElem?_concat_length]
    · rw [List.getElem?_concat_length]
theorem ixN_last (n : Nat) : ixN (n + 1) (-1) = some n := by
  unfold ixN
  rw [if_neg (by omega), if_pos (by omega)]
  congr 1
  omega
theorem set_last {α : Type} (m : List α) (x y : α) : (m ++ [x]).set m.length y = m ++ [y] := by
  rw [List.set_append_right _ _ (Nat.le_refl _), Nat.sub_self]
  rfl
theorem ixN_nat {n j : Nat} (hj : j < n) : ixN n (j : Int) = some j := by
  unfold ixN
  rw [if_pos (by omega), if_pos (by omega)]
  simp
theorem cut_one (xs : List V) : cutV xs (some 1) none = xs.drop 1 := by
  have e1 : HT.sIx xs.length 0 (some 1) = min 1 xs.length := HT.sIx_nat xs.length 0 1
  unfold cutV
  rw [HT.sIx_none, e1]
  cases xs with
  | nil => rfl
  | cons x r =>
    rw [show min 1 (x :: r).length = 1 by rw [List.length_cons]; omega]
    exact List.take_of_length_le (by rw [List.length_drop]; omega)
theorem rep_int (n : Int) (x : Int) : (List.replicate n.toNat [V.int x]).flatten = (List.replicate n.toNat x).map V.int := by
  rw [List.map_replicate]
  generalize n.toNat = n
  induction n with
  | zero => rfl
  | succ n ih => rw [List.replicate_succ, List.flatten_cons, ih, List.replicate_succ]; rfl
/-- [x] * n -/
theorem k_rep {H : Hp} {l : Addr} {v : V} {k : Int} {Q : VK} (h : H l = some (.lst [v])) (h0 : 0 ≤ k) (h1 : k ≤ 1000) (q : ∀ p H', Same H H' → H p = none → H' p = some (.lst (List.replicate k.toNat v)) → Q (.ref p) H') : jRep (.ref l) (.int k) H Q := by
  unfold jRep
  refine ⟨l, k, [v], rfl, rfl, h, by omega, by omega, by simp only [List.length_singleton]; exact szl (by omega), k_new fun p H' s n e => q p H' s n ?_⟩
  rw [e]
  congr 2
  generalize k.toNat = n
  induction n with
  | zero => rfl
  | succ n ih => rw [List.replicate_succ, List.flatten_cons, ih, List.replicate_succ]; rfl
end Sh
end

section
/-! sorting, in plain Lean: the one sorted list -/
namespace Sh
section
variable {α β : Type}
def ins (le : α → α → Bool) (x : α) : List α → List α
  | [] => [x]
  | y :: ys => if le x y = true then x :: y :: ys else y :: ins le x ys
def isort (le : α → α → Bool) : List α → List α
  | [] => []
  | x :: xs => ins le x (isort le xs)
structure Ord (le : α → α → Bool) : Prop where
  total : ∀ a b, le a b = true ∨ le b a = true
  trans : ∀ a b c, le a b = true → le b c = true → le a c = true
  anti : ∀ a b, le a b = true → le b a = true → a = b
abbrev Sorted (le : α → α → Bool) (l : List α) : Prop := l.Pairwise fun a b => le a b = true
variable {le : α → α → Bool}
theorem ins_perm (x : α) : ∀ l : List α, (ins le x l).Perm (x :: l)
  | [] => List.Perm.refl _
  | y :: ys => by
    unfold ins
    by_cases h : le x y = true
    · rw [if_pos h]
    · rw [if_neg h]
      exact ((ins_perm x ys).cons y).trans (List.Perm.swap x y ys)
theorem isort_perm : ∀ l : List α, (isort le l).Perm l
  | [] => List.Perm.refl _
  | x :: xs => (ins_perm x _).trans ((isort_perm xs).cons x)
theorem ins_sorted (O : Ord le) (x : α) : ∀ l : List α, Sorted le l → Sorted le (ins le x l)
  | [], _ => List.pairwise_singleton _ _
  | y :: ys, h => by
    obtain ⟨h1, h2⟩ := List.pairwise_cons.mp h
    unfold ins
    by_cases e : le x y = true
    · rw [if_pos e]
      refine List.pairwise_cons.mpr ⟨fun z hz => ?_, h⟩
      rcases List.mem_cons.mp hz with q | q
      · rw [q]
        exact e
      · exact O.trans x y z e (h1 z q)
    · rw [if_neg e]
      have e2 : le y x = true := (O.total x y).resolve_left e
      refine List.pairwise_cons.mpr ⟨fun z hz => ?_, ins_sorted O x ys h2⟩
      rcases List.mem_cons.mp ((ins_perm x ys).mem_iff.mp hz) with q | q
      · rw [q]
        exact e2
      · exact h1 z q
theorem isort_sorted (O : Ord le) : ∀ l : List α, Sorted le (isort le l)
  | [] => List.Pairwise.nil
  | x :: xs => ins_sorted O x _ (isort_sorted O xs)
theorem sorted_eq (O : Ord le) : ∀ {l m : List α}, l.Perm m → Sorted le l → Sorted le m → l = m
  | [], m, p, _, _ => (List.Perm.eq_nil p.symm).symm
  | x :: l, [], p, _, _ => absurd p.length_eq (by simp)
  | x :: l, y :: m, p, hl, hm => by
    obtain ⟨a1, a2⟩ := List.pairwise_cons.mp hl
    obtain ⟨b1, b2⟩ := List.pairwise_cons.mp hm
    have refl : ∀ z, le z z = true := fun z => (O.total z z).elim id id
    have e : x = y := by
      have h1 : le y x = true := by
        rcases List.mem_cons.mp (p.mem_iff.mp (List.mem_cons_self (a := x) (l := l))) with q | q
        · rw [q]
          exact refl y
        · exact b1 x q
      have h2 : le x y = true := by
        rcases List.mem_cons.mp (p.mem_iff.mpr (List.mem_cons_self (a := y) (l := m))) with q | q
        · rw [q]
          exact refl x
        · exact a1 y q
      exact O.anti x y h2 h1
    subst e
    rw [sorted_eq O p.cons_inv a2 b2]
theorem eq_isort (O : Ord le) {ys xs : List α} (p : ys.Perm xs) (s : Sorted le ys) : ys = isort le xs := sorted_eq O (p.trans (isort_perm xs).symm) s (isort_sorted O xs)
theorem isort_congr (O : Ord le) {ys xs : List α} (p : ys.Perm xs) : isort le ys = isort le xs := eq_isort O ((isort_perm ys).trans p) (isort_sorted O ys)
theorem isort_two (O : Ord le) {W A B : List α} (p : W.Perm (A ++ B)) (h : ∀ a ∈ A, ∀ b ∈ B, le a b = true) : isort le W = isort le A ++ isort le B := by
  refine (eq_isort O (((isort_perm A).append (isort_perm B)).trans p.symm) ?_).symm
  refine List.pairwise_append.mpr ⟨isort_sorted O A, isort_sorted O B, fun a ha b hb => ?_⟩
  exact h a ((isort_perm A).mem_iff.mp ha) b ((isort_perm B).mem_iff.mp hb)
theorem isort_len (l : List α) : (isort le l).length = l.length := (isort_perm l).length_eq
theorem isort_mem {l : List α} {x : α} : x ∈ isort le l ↔ x ∈ l := (isort_perm l).mem_iff
end
/-! ### the orders -/
def le1 (a b : Int) : Bool := decide (a ≤ b)
def le2 (a b : Int × Int) : Bool := decide (a.1 < b.1 ∨ (a.1 = b.1 ∧ a.2 ≤ b.2))
def le3 (a b : Int × Int × Int) : Bool := decide (a.1 < b.1 ∨ (a.1 = b.1 ∧ (a.2.1 < b.2.1 ∨ (a.2.1 = b.2.1 ∧ a.2.2 ≤ b.2.2))))
theorem ord1 : Ord le1 where
  total := fun a b => by simp only [le1, decide_eq_true_eq]; omega
  trans := fun a b c => by simp only [le1, decide_eq_true_eq]; omega
  anti := fun a b => by simp only [le1, decide_eq_true_eq]; omega
theorem ord2 : Ord le2 where
  total := fun a b => by simp only [le2, decide_eq_true_eq]; omega
  trans := fun a b c => by simp only [le2, decide_eq_true_eq]; omega
  anti := fun a b => by
    simp only [le2, decide_eq_true_eq]
    intro h1 h2
    exact Prod.ext (by omega) (by omega)
theorem ord3 : Ord le3 where
  total := fun a b => by simp only [le3, decide_eq_true_eq]; omega
  trans := fun a b c => by simp only [le3, decide_eq_true_eq]; omega
  anti := fun a b => by
    simp only [le3, decide_eq_true_eq]
    intro h1 h2
    exact Prod.ext (by omega) (Prod.ext (by omega) (by omega))
/-- the numbers of a list, rising, none twice -/
def sortU (l : List Int) : List Int := isort le1 l.eraseDups
theorem mem_sortU {l : List Int} {x : Int} : x ∈ sortU l ↔ x ∈ l := by
  unfold sortU
  rw [isort_mem, List.mem_eraseDups]
theorem nodup_eraseDups : ∀ (n : Nat) (l : List Int), l.length ≤ n → l.eraseDups.Nodup
  | _, [], _ => by simp
  | 0, _ :: _, h => by simp at h
  | n + 1, x :: xs, h => by
    rw [List.eraseDups_cons, List.nodup_cons]
    refine ⟨fun q => ?_, nodup_eraseDups n _ ?_⟩
    · have q2 := List.mem_eraseDups.mp q
      rw [List.mem_filter] at q2
      simp at q2
    · have h2 := List.length_filter_le (fun b => !b == x) xs
      rw [List.length_cons] at h
      omega
theorem lt_of_sorted {l : List Int} (n : l.Nodup) (s : Sorted le1 l) : l.Pairwise (· < ·) := by
  induction l with
  | nil => exact List.Pairwise.nil
  | cons x xs ih =>
    obtain ⟨s1, s2⟩ := List.pairwise_cons.mp s
    obtain ⟨n1, n2⟩ := List.nodup_cons.mp n
    refine List.pairwise_cons.mpr ⟨fun y hy => ?_, ih n2 s2⟩
    have h1 : x ≤ y := of_decide_eq_true (s1 y hy)
    have h2 : x ≠ y := fun e => n1 (by rw [e]; exact hy)
    omega
theorem sortU_lt (l : List Int) : (sortU l).Pairwise (· < ·) :=
  lt_of_sorted ((isort_perm _).nodup_iff.mpr (nodup_eraseDups _ l (Nat.le_refl _))) (isort_sorted ord1 _)
theorem lt_unique : ∀ {l m : List Int}, l.Pairwise (· < ·) → m.Pairwise (· < ·) → (∀ x, x ∈ l ↔ x ∈ m) → l = m
  | [], [], _, _, _ => rfl
  | [], y :: m, _, _, h => absurd ((h y).mpr List.mem_cons_self) (by simp)
  | x :: l, [], _, _, h => absurd ((h x).mp List.mem_cons_self) (by simp)
  | x :: l, y :: m, hl, hm, h => by
    obtain ⟨a1, a2⟩ := List.pairwise_cons.mp hl
    obtain ⟨b1, b2⟩ := List.pairwise_cons.mp hm
    have e : x = y := by
      have q1 := (h x).mp List.mem_cons_self
      have q2 := (h y).mpr List.mem_cons_self
      rcases List.mem_cons.mp q1 with q1 | q1
      · exact q1
      · rcases List.mem_cons.mp q2 with q2 | q2
        · exact q2.symm
        · have := a1 y q2
          have := b1 x q1
          omega
    subst e
    rw [lt_unique a2 b2 fun z => ⟨fun hz => ?_, fun hz => ?_⟩]
    · rcases List.mem_cons.mp ((h z).mp (List.mem_cons_of_mem _ hz)) with q | q
      · have := a1 z hz
        omega
      · exact q
    · rcases List.mem_cons.mp ((h z).mpr (List.mem_cons_of_mem _ hz)) with q | q
      · have := b1 z hz
        omega
      · exact q
end Sh
end

section
/-! what sorted gives, said by isort -/
namespace Sh
open PySem PySem.Spec PyProof.Rows L2 SpR
def vI : V → Int
  | .int i => i
  | _ => 0
def kI (H : Hp) : V → List Int
  | .ref t => (match H t with
    | some (.tup us) => us.map vI
    | _ => [])
  | _ => []
theorem vI_map (ns : List Int) : (ns.map V.int).map vI = ns := by
  rw [List.map_map]
  exact (List.map_congr_left fun _ _ => rfl).trans (List.map_id ns)
theorem kI_at {H : Hp} {t : Addr} {ns : List Int} (h : H t = some (.tup (ns.map V.int))) : kI H (.ref t) = ns := by
  show (match H t with
    | some (.tup us) => us.map vI
    | _ => []) = ns
  rw [h]
  exact vI_map ns
theorem k_sort {α : Type} {R : Hp → V → α → Prop} {toL : α → List Int} {ofL : List Int → α} {le : α → α → Bool} {d : Nat} {K : PySem.W.Frag} {H : Hp} {a : Addr} {xs : List α} {Q : VK}
    (hR : ∀ {H : Hp} {v : V} {x : α}, R H v x ↔ ∃ t, v = .ref t ∧ H t = some (.tup ((toL x).map V.int))) (tp : ∀ {H H' : Hp} {v : V} {x : α}, Tp H H' → R H v x → R H' v x) (hl : ∀ x, (toL x).length = d) (hof : ∀ x, ofL (toL x) = x) (O : Ord le)
    (hle : ∀ x y, HT.lexLt (toL y) (toL x) = false → le x y = true) (h : Ls R H a xs) (q : ∀ H' p, Same H H' → H p = none → Ls R H' p (isort le xs) → Q (.ref p) H') : rSortL K d [.ref a] H Q := by
  obtain ⟨us, hu, ru⟩ := h
  have key : ∀ v x, R H v x → kI H v = toL x := fun v x r => by
    obtain ⟨t, rfl, e⟩ := hR.mp r
    exact kI_at e
  have mem : ∀ v ∈ us, ∃ x, R H v x := fun v hv => by
    obtain ⟨i, hi⟩ := List.mem_iff_getElem?.mp hv
    obtain ⟨x, _, r⟩ := ru.get hi
    exact ⟨x, r⟩
  refine ⟨a, us, kI H, rfl, SqL.of hu, fun v hv => ?_, fun ys p hp hs hn => ?_⟩
  · obtain ⟨x, r⟩ := mem v hv
    rw [key v x r]
    exact ⟨hl x, hR.mp r⟩
  · refine q _ p (sm_new hn) hn ⟨ys, upd_same, ?_⟩
    have e1 : us.map (fun v => ofL (kI H v)) = xs := by
      refine List.ext_getElem? fun i => ?_
      rw [List.getElem?_map]
      cases hi : us[i]? with
      | none =>
        have : us.length ≤ i := List.getElem?_eq_none_iff.mp hi
        exact (List.getElem?_eq_none_iff.mpr (by have := ru.len; omega)).symm
      | some v =>
        obtain ⟨x, hx, r⟩ := ru.get hi
        rw [hx, Option.map_some, key v x r, hof]
    have e2 : ys.map (fun v => ofL (kI H v)) = isort le xs := by
      refine eq_isort O ?_ ?_
      · rw [← e1]
        exact hp.map _
      · refine List.pairwise_map.mpr (List.Pairwise.imp_of_mem (fun {u v} hu hv hlt => ?_) hs)
        obtain ⟨x, rx⟩ := mem u (hp.mem_iff.mp hu)
        obtain ⟨y, ry⟩ := mem v (hp.mem_iff.mp hv)
        rw [key u x rx, key v y ry] at hlt
        rw [key u x rx, key v y ry, hof, hof]
        exact hle x y hlt
    rw [← e2]
    refine ⟨by rw [List.length_map], fun i v x hv hx => ?_⟩
    rw [List.getElem?_map, hv] at hx
    obtain ⟨y, ry⟩ := mem v (hp.mem_iff.mp (List.mem_of_getElem? hv))
    have e3 : ofL (kI H v) = x := Option.some.inj hx
    rw [key v y ry, hof] at e3
    rw [← e3]
    exact tp (tp_new hn) ry
theorem k_sort2 {K : PySem.W.Frag} {H : Hp} {a : Addr} {xs : List (Int × Int)} {Q : VK} (h : LsP H a xs) (q : ∀ H' p, Same H H' → H p = none → LsP H' p (isort le2 xs) → Q (.ref p) H') : jSort K 2 [.ref a] H Q := by
  unfold jSort
  refine k_sort (R := Pr) (toL := fun x => [x.1, x.2]) (ofL := fun l => (l.getD 0 0, l.getD 1 0)) Iff.rfl (fun t r => Pr.tp t r) (fun _ => rfl) (fun _ => rfl) ord2 (fun x y e => ?_) h q
  refine decide_eq_true ?_
  rw [HT.lexLt_cons, HT.lexLt_cons] at e
  by_cases h1 : y.1 = x.1
  · rw [if_pos h1] at e
    by_cases h2 : y.2 = x.2
    · omega
    · rw [if_neg h2] at e
      have := of_decide_eq_false e
      omega
  · rw [if_neg h1] at e
    have := of_decide_eq_false e
    omega
theorem k_sort3 {K : PySem.W.Frag} {H : Hp} {a : Addr} {xs : List (Int × Int × Int)} {Q : VK} (h : LsT H a xs) (q : ∀ H' p, Same H H' → H p = none → LsT H' p (isort le3 xs) → Q (.ref p) H') : jSort K 3 [.ref a] H Q := by
  unfold jSort
  refine k_sort (R := Tr) (toL := fun x => [x.1, x.2.1, x.2.2]) (ofL := fun l => (l.getD 0 0, l.getD 1 0, l.getD 2 0)) Iff.rfl (fun t r => Tr.tp t r) (fun _ => rfl) (fun _ => rfl) ord3 (fun x y e => ?_) h q
  refine decide_eq_true ?_
  rw [HT.lexLt_cons, HT.lexLt_cons, HT.lexLt_cons] at e
  by_cases h1 : y.1 = x.1
  · rw [if_pos h1] at e
    by_cases h2 : y.2.1 = x.2.1
    · rw [if_pos h2] at e
      by_cases h3 : y.2.2 = x.2.2
      · omega
      · rw [if_neg h3] at e
        have := of_decide_eq_false e
        omega
    · rw [if_neg h2] at e
      have := of_decide_eq_false e
      omega
  · rw [if_neg h1] at e
    have := of_decide_eq_false e
    omega
/-- sorted of ints -/
theorem k_sort1 {K : PySem.W.Frag} {H : Hp} {a : Addr} {xs : List Int} {Q : VK} (h : LsI H a xs) (hn : xs.length < 64) (q : ∀ H' p, Same H H' → H p = none → LsI H' p (isort le1 xs) → Q (.ref p) H') : jSortI K [.ref a] H Q := by
  unfold jSortI
  refine ⟨a, xs, rfl, SqL.of h, hn, fun ys p hp hs hnew => ?_⟩
  have e : ys = isort le1 xs := eq_isort ord1 hp (hs.imp fun k => decide_eq_true k)
  refine q _ p (sm_new hnew) hnew ?_
  rw [← e]
  exact upd_same
/-- set(ints), then sorted of it -/
theorem k_setOf {K : PySem.W.Frag} {w : World} {H : Hp} {a : Addr} {xs : List Int} {Q : VK} (h : LsI H a xs) (hn : xs.length < 64) (q : ∀ H' p c, Same H H' → H p = none → c < 64 → H' p = some (SetO w p (fun j => decide (j ∈ xs)) c) → Q (.ref p) H') :
    jSetOf K w [.ref a] H Q := by
  unfold jSetOf
  exact ⟨a, xs, rfl, SqL.of h, hn, fun p c hp hc => q _ p c (sm_new hp) hp (by omega) upd_same⟩
theorem k_sortU {w : World} {H : Hp} {p : Addr} {c : Nat} {xs : List Int} {Q : VK} (h : H p = some (SetO w p (fun j => decide (j ∈ xs)) c)) (hc : c < 64) (q : ∀ H' r, Same H H' → H r = none → LsI H' r (sortU xs) → Q (.ref r) H') : jSortS w [.ref p] H Q := by
  unfold jSortS
  refine ⟨p, _, c, rfl, h, hc, fun ns r h1 h2 _ hr => ?_⟩
  have e : ns = sortU xs := lt_unique h1 (sortU_lt xs) fun x => by
    rw [h2, mem_sortU]
    exact decide_eq_true_iff
  refine q _ r (sm_new hr) hr ?_
  rw [← e]
  exact upd_same
end Sh
end

section
/-! mirrors: what the sweeps compute -/
namespace Sh
abbrev Spn := Int × Int
/-- a span of the document's -/
def okS (s : Int × Int) : Prop := -1000000000000 < s.1 ∧ s.1 < s.2 ∧ s.2 < 1000000000000
def holdsB (s : Int × Int) (p : Int) : Bool := decide (s.1 ≤ p ∧ p < s.2)
def insideB (s t : Int × Int) : Bool := decide (t.1 ≤ s.1 ∧ s.2 ≤ t.2)
def depthN (ss : List (Int × Int)) (p : Int) : Nat := (ss.filter fun s => holdsB s p).length
/-- whether the i-th span is under the j-th -/
def underB (ss : List (Int × Int)) (i j : Nat) : Bool :=
  let s := ss.getD i (0, 0); let t := ss.getD j (0, 0)
  if s = t then decide (i < j) else insideB s t
def ends (ss : List Spn) : List Int := sortU (ss.map (·.1) ++ ss.map (·.2))
/-- the last item put anew -/
def pourStep (found : List Spn) (s : Spn) : List Spn :=
  match found.getLast? with
  | some l => if s.1 ≤ l.2 then found.dropLast ++ [(l.1, max s.2 l.2)] else found ++ [s]
  | none => found ++ [s]
def pour (ss : List Spn) : List Spn := (isort le2 ss).foldl pourStep []
def pieceStep (dep : Int → Nat) (found : List (Int × Int × Int)) (s : Spn) : List (Int × Int × Int) :=
  let d : Int := dep s.1
  match found.getLast? with
  | some l => if l.2.1 = s.1 ∧ l.2.2 = d then found.dropLast ++ [(l.1, s.2, d)] else if 0 < d then found ++ [(s.1, s.2, d)] else found
  | none => if 0 < d then found ++ [(s.1, s.2, d)] else found
def deepStep (best : Option Spn) (s : Int × Int × Int) : Option Spn :=
  match best with
  | none => some (s.2.2, s.1)
  | some b => if b.1 < s.2.2 then some (s.2.2, s.1) else some b
theorem pour_len (l : List Spn) (b : List Spn) : (l.foldl pourStep b).length ≤ b.length + l.length := by
  induction l generalizing b with
  | nil => exact Nat.le_refl _
  | cons s l ih =>
    have h : (pourStep b s).length ≤ b.length + 1 := by
      unfold pourStep
      cases e : b.getLast? with
      | none => simp
      | some x =>
        by_cases c : s.1 ≤ x.2
        · simp only [c, if_true, List.length_append, List.length_dropLast, List.length_singleton]
          omega
        · simp only [c, if_false, List.length_append, List.length_singleton]
          omega
    have := ih (pourStep b s)
    simp only [List.foldl_cons, List.length_cons]
    omega
/-- (high, low, number) rising; chosen numbers, pins -/
def apartStep (st : List Int × List Int) (s : Int × Int × Int) : List Int × List Int :=
  match st.2.getLast? with
  | some l => if l < s.2.1 then (st.1 ++ [s.2.2], st.2 ++ [s.1 - 1]) else st
  | none => (st.1 ++ [s.2.2], st.2 ++ [s.1 - 1])
def apartKeys (ss : List Spn) : List (Int × Int × Int) := ss.zipIdx.map fun s => (s.1.2, s.1.1, (s.2 : Int))
def apart (ss : List Spn) : List Int × List Int := (isort le3 (apartKeys ss)).foldl apartStep ([], [])
def firstFree : List Int → Int → Nat
  | [], _ => 0
  | e :: es, low => if e ≤ low then 0 else firstFree es low + 1
def rowKeys (ss : List Spn) : List (Int × Int × Int) := ss.zipIdx.map fun s => (s.1.1, s.1.2, (s.2 : Int))
/-- rows, ends -/
def rowStep (st : List Int × List Int) (s : Int × Int × Int) : List Int × List Int :=
  let r := firstFree st.2 s.1
  (st.1.set s.2.2.toNat (r : Int), if r = st.2.length then st.2 ++ [s.2.1] else st.2.set r s.2.1)
def rowsOf (ss : List Spn) : List Int × List Int := (isort le3 (rowKeys ss)).foldl rowStep (List.replicate ss.length 0, [])
theorem key_mem {ss : List Spn} {f : Spn → Int × Int} {x : Int × Int × Int} (h : x ∈ ss.zipIdx.map fun s => ((f s.1).1, (f s.1).2, (s.2 : Int))) : ∃ (k : Nat) (s : Spn), ss[k]? = some s ∧ x = ((f s).1, (f s).2, (k : Int)) := by
  obtain ⟨⟨s, k⟩, hm, rfl⟩ := List.mem_map.mp h
  exact ⟨k, s, List.mem_zipIdx_iff_getElem?.mp hm, rfl⟩
theorem rowKey {ss : List Spn} {x : Int × Int × Int} (h : x ∈ isort le3 (rowKeys ss)) : ∃ (k : Nat) (s : Spn), ss[k]? = some s ∧ x = (s.1, s.2, (k : Int)) := key_mem (f := fun s => (s.1, s.2)) (isort_mem.mp h)
theorem apartKey {ss : List Spn} {x : Int × Int × Int} (h : x ∈ isort le3 (apartKeys ss)) : ∃ (k : Nat) (s : Spn), ss[k]? = some s ∧ x = (s.2, s.1, (k : Int)) := key_mem (f := fun s => (s.2, s.1)) (isort_mem.mp h)
theorem keys_len (ss : List Spn) : (rowKeys ss).length = ss.length := by
  unfold rowKeys
  rw [List.length_map, List.length_zipIdx]
theorem akeys_len (ss : List Spn) : (apartKeys ss).length = ss.length := by
  unfold apartKeys
  rw [List.length_map, List.length_zipIdx]
theorem row_len (l : List (Int × Int × Int)) (st : List Int × List Int) : (l.foldl rowStep st).1.length = st.1.length ∧ (l.foldl rowStep st).2.length ≤ st.2.length + l.length := by
  induction l generalizing st with
  | nil => exact ⟨rfl, Nat.le_refl _⟩
  | cons s l ih =>
    obtain ⟨a, b⟩ := ih (rowStep st s)
    have h2 : (rowStep st s).2.length ≤ st.2.length + 1 := by
      unfold rowStep
      by_cases c : firstFree st.2 s.1 = st.2.length
      · simp only [c, if_true, List.length_append, List.length_singleton]
        omega
      · simp only [c, if_false, List.length_set]
        omega
    refine ⟨?_, ?_⟩
    · rw [List.foldl_cons, a]
      unfold rowStep
      rw [List.length_set]
    · rw [List.foldl_cons, List.length_cons]
      omega
theorem apart_len (l : List (Int × Int × Int)) (st : List Int × List Int) : (l.foldl apartStep st).1.length ≤ st.1.length + l.length ∧ (l.foldl apartStep st).2.length ≤ st.2.length + l.length := by
  induction l generalizing st with
  | nil => exact ⟨Nat.le_refl _, Nat.le_refl _⟩
  | cons s l ih =>
    obtain ⟨a, b⟩ := ih (apartStep st s)
    have h : (apartStep st s).1.length ≤ st.1.length + 1 ∧ (apartStep st s).2.length ≤ st.2.length + 1 := by
      unfold apartStep
      cases st.2.getLast? with
      | none => simp
      | some l =>
        by_cases c : l < s.2.1
        · simp [c]
        · simp [c]
    rw [List.foldl_cons, List.length_cons]
    omega
theorem ff_le : ∀ (es : List Int) (low : Int), firstFree es low ≤ es.length
  | [], _ => Nat.le_refl _
  | e :: es, low => by
    unfold firstFree
    have := ff_le es low
    rw [List.length_cons]
    split <;> omega
def piecesOf (ss : List Spn) (dep : Int → Nat) : List (Int × Int × Int) := ((ends ss).zip ((ends ss).drop 1)).foldl (pieceStep dep) []
theorem piece_len (dep : Int → Nat) (l : List Spn) (b : List (Int × Int × Int)) : (l.foldl (pieceStep dep) b).length ≤ b.length + l.length := by
  induction l generalizing b with
  | nil => exact Nat.le_refl _
  | cons s l ih =>
    have h : (pieceStep dep b s).length ≤ b.length + 1 := by
      unfold pieceStep
      cases e : b.getLast? with
      | none =>
        simp only
        split <;> simp
      | some x =>
        simp only
        split
        · simp only [List.length_append, List.length_dropLast, List.length_singleton]
          omega
        · split <;> simp
    have := ih (pieceStep dep b s)
    simp only [List.foldl_cons, List.length_cons]
    omega
theorem sub_ends (ss : List Spn) : (ends ss).length ≤ 2 * ss.length := by
  have h : ∀ (n : Nat) (l : List Int), l.length ≤ n → l.eraseDups.length ≤ l.length := by
    intro n
    induction n with
    | zero =>
      intro l hl
      have : l = [] := List.eq_nil_of_length_eq_zero (by omega)
      subst this
      simp
    | succ n ih =>
      intro l hl
      cases l with
      | nil => simp
      | cons x xs =>
        rw [List.eraseDups_cons, List.length_cons, List.length_cons]
        have h2 := List.length_filter_le (fun b => !b == x) xs
        rw [List.length_cons] at hl
        have := ih (xs.filter fun b => !b == x) (by omega)
        omega
  unfold ends sortU
  rw [isort_len]
  have := h _ (ss.map (·.1) ++ ss.map (·.2)) (Nat.le_refl _)
  simp only [List.length_append, List.length_map] at this
  omega
def deepOf (ss : List Spn) (dep : Int → Nat) : Option Spn := (piecesOf ss dep).foldl deepStep none
end Sh
end

section
/-! levels of nests -/
namespace Sh
def longKeys (ss : List Spn) : List (Int × Int) := ss.zipIdx.map fun s => (s.1.2 - s.1.1, (s.2 : Int))
def upwardOf (ss : List Spn) : List Int := (isort le2 (longKeys ss)).map (·.2)
def levIn (ss : List Spn) (k : Nat) (f : List Int) (j : Nat) : List Int := if underB ss j k = true then f.set k (max (f.getD k 0) (f.getD j 0 + 1)) else f
def levStep (ss : List Spn) (f : List Int) (k : Int) : List Int := (List.range ss.length).foldl (levIn ss k.toNat) f
def levelsOf (ss : List Spn) : List Int := (upwardOf ss).foldl (levStep ss) (List.replicate ss.length 0)
theorem levIn_len (ss : List Spn) (k : Nat) (f : List Int) (j : Nat) : (levIn ss k f j).length = f.length := by
  unfold levIn
  split
  · rw [List.length_set]
  · rfl
theorem levIns_len (ss : List Spn) (k : Nat) (l : List Nat) (f : List Int) : (l.foldl (levIn ss k) f).length = f.length := by
  induction l generalizing f with
  | nil => rfl
  | cons j l ih => rw [List.foldl_cons, ih, levIn_len]
theorem levStep_len (ss : List Spn) (f : List Int) (k : Int) : (levStep ss f k).length = f.length := levIns_len _ _ _ _
theorem levs_len (ss : List Spn) (l : List Int) (f : List Int) : (l.foldl (levStep ss) f).length = f.length := by
  induction l generalizing f with
  | nil => rfl
  | cons j l ih => rw [List.foldl_cons, ih, levStep_len]
theorem levels_len (ss : List Spn) : (levelsOf ss).length = ss.length := by
  unfold levelsOf
  rw [levs_len, List.length_replicate]
theorem longKey {ss : List Spn} {x : Int × Int} (h : x ∈ isort le2 (longKeys ss)) : ∃ (k : Nat) (s : Spn), ss[k]? = some s ∧ x = (s.2 - s.1, (k : Int)) := by
  obtain ⟨⟨s, k⟩, hm, rfl⟩ := List.mem_map.mp (isort_mem.mp h)
  exact ⟨k, s, List.mem_zipIdx_iff_getElem?.mp hm, rfl⟩
theorem up_mem {ss : List Spn} {x : Int} (h : x ∈ upwardOf ss) : ∃ k : Nat, k < ss.length ∧ x = (k : Int) := by
  obtain ⟨y, hy, rfl⟩ := List.mem_map.mp h
  obtain ⟨k, s, hk, rfl⟩ := longKey hy
  exact ⟨k, (List.getElem?_eq_some_iff.mp hk).1, rfl⟩
theorem up_len (ss : List Spn) : (upwardOf ss).length = ss.length := by
  unfold upwardOf longKeys
  rw [List.length_map, isort_len, List.length_map, List.length_zipIdx]
/-- what a level is -/
def IsLev (ss : List Spn) (f : List Int) (k : Nat) : Prop := 0 ≤ f.getD k 0 ∧ (∀ j, j < ss.length → underB ss j k = true → f.getD j 0 + 1 ≤ f.getD k 0) ∧ (f.getD k 0 = 0 ∨ ∃ j, j < ss.length ∧ underB ss j k = true ∧ f.getD k 0 = f.getD j 0 + 1)
theorem getD_of {ss : List Spn} {k : Nat} {s : Spn} (h : ss[k]? = some s) : ss.getD k (0, 0) = s := by
  rw [List.getD_eq_getElem?_getD, h, Option.getD_some]
theorem under_key {ss : List Spn} {j k : Nat} {s t : Spn} (hj : ss[j]? = some s) (hk : ss[k]? = some t) (h : underB ss j k = true) : s.2 - s.1 < t.2 - t.1 ∨ (s.2 - s.1 = t.2 - t.1 ∧ j < k) := by
  unfold underB at h
  rw [getD_of hj, getD_of hk] at h
  simp only at h
  by_cases e : s = t
  · rw [if_pos e] at h
    exact .inr ⟨by rw [e], of_decide_eq_true h⟩
  · rw [if_neg e] at h
    have h2 : t.1 ≤ s.1 ∧ s.2 ≤ t.2 := of_decide_eq_true h
    by_cases e2 : s.2 - s.1 < t.2 - t.1
    · exact .inl e2
    · exact absurd (Prod.ext (by omega) (by omega)) e
theorem under_irr {ss : List Spn} {k : Nat} : underB ss k k = false := by
  unfold underB
  simp
theorem getD_set {f : List Int} {k i : Nat} {x : Int} (hk : k < f.length) : (f.set k x).getD i 0 = if i = k then x else f.getD i 0 := by
  rw [List.getD_eq_getElem?_getD, List.getD_eq_getElem?_getD]
  by_cases e : i = k
  · subst e
    rw [List.getElem?_set_self hk, if_pos rfl, Option.getD_some]
  · rw [List.getElem?_set_ne (Ne.symm e), if_neg e]
/-- one number's own turn -/
theorem levIns_spec (ss : List Spn) (k : Nat) : ∀ (l : List Nat) (f : List Int), k < f.length → (∀ j ∈ l, j < ss.length) →
    (∀ i, i ≠ k → (l.foldl (levIn ss k) f).getD i 0 = f.getD i 0) ∧ f.getD k 0 ≤ (l.foldl (levIn ss k) f).getD k 0 ∧ (∀ j ∈ l, underB ss j k = true → f.getD j 0 + 1 ≤ (l.foldl (levIn ss k) f).getD k 0) ∧
    ((l.foldl (levIn ss k) f).getD k 0 = f.getD k 0 ∨ ∃ j, j < ss.length ∧ underB ss j k = true ∧ (l.foldl (levIn ss k) f).getD k 0 = f.getD j 0 + 1)
  | [], f, hk, _ => ⟨fun _ _ => rfl, Int.le_refl _, fun _ h => (List.not_mem_nil h).elim, .inl rfl⟩
  | j :: l, f, hk, hl => by
    obtain ⟨a, b, c, d⟩ := levIns_spec ss k l (levIn ss k f j) (by rw [levIn_len]; exact hk) fun i hi => hl i (List.mem_cons_of_mem _ hi)
    rw [List.foldl_cons]
    by_cases hu : underB ss j k = true
    · have hne : j ≠ k := fun e => by
        rw [e, under_irr] at hu
        cases hu
      have e1 : levIn ss k f j = f.set k (max (f.getD k 0) (f.getD j 0 + 1)) := if_pos hu
      have g : ∀ i, (levIn ss k f j).getD i 0 = if i = k then max (f.getD k 0) (f.getD j 0 + 1) else f.getD i 0 := fun i => by
        rw [e1]
        exact getD_set hk
      have gk : (levIn ss k f j).getD k 0 = max (f.getD k 0) (f.getD j 0 + 1) := by rw [g k, if_pos rfl]
      have gi : ∀ i, i ≠ k → (levIn ss k f j).getD i 0 = f.getD i 0 := fun i hi => by rw [g i, if_neg hi]
      refine ⟨fun i hi => (a i hi).trans (gi i hi), by omega, fun i hi hui => ?_, ?_⟩
      · have hik : i ≠ k := fun e => by
          rw [e, under_irr] at hui
          cases hui
        rcases List.mem_cons.mp hi with e | e
        · rw [e]
          omega
        · have := c i e hui
          rw [gi i hik] at this
          exact this
      · rcases d with d | ⟨i, hi, hui, d⟩
        · rw [gk] at d
          by_cases hm : f.getD j 0 + 1 ≤ f.getD k 0
          · exact .inl (by omega)
          · exact .inr ⟨j, hl j List.mem_cons_self, hu, by omega⟩
        · have hik : i ≠ k := fun e => by
            rw [e, under_irr] at hui
            cases hui
          rw [gi i hik] at d
          exact .inr ⟨i, hi, hui, d⟩
    · have e1 : levIn ss k f j = f := if_neg hu
      rw [e1] at a b c d ⊢
      refine ⟨a, b, fun i hi hui => ?_, d⟩
      rcases List.mem_cons.mp hi with e | e
      · exact absurd (e ▸ hui) hu
      · exact c i e hui
theorem levels_go (ss : List Spn) : ∀ (rest done : List (Int × Int)) (f : List Int), Sorted le2 (done ++ rest) → (done ++ rest).Perm (longKeys ss) → f.length = ss.length →
    (∀ k : Nat, (k : Int) ∉ done.map (·.2) → f.getD k 0 = 0) → (∀ k : Nat, (k : Int) ∈ done.map (·.2) → IsLev ss f k) → ∀ k : Nat, k < ss.length → IsLev ss ((rest.map (·.2)).foldl (levStep ss) f) k
  | [], done, f, _, hp, _, _, hd => fun k hk => by
    refine hd k ?_
    rw [List.append_nil] at hp
    have : ((ss[k].2 - ss[k].1, (k : Int)) : Int × Int) ∈ done := hp.mem_iff.mpr (List.mem_map.mpr ⟨(ss[k], k), List.mem_zipIdx_iff_getElem?.mpr (List.getElem?_eq_getElem hk), rfl⟩)
    exact List.mem_map.mpr ⟨_, this, rfl⟩
  | x :: rest, done, f, hs, hp, hl, hz, hd => fun k hk => by
    have mem : ∀ y ∈ done ++ x :: rest, ∃ (k : Nat) (s : Spn), ss[k]? = some s ∧ y = (s.2 - s.1, (k : Int)) := fun y hy => longKey (isort_mem.mpr (hp.mem_iff.mp hy))
    obtain ⟨kx, sx, hkx, ex⟩ := mem x (by simp)
    have hkl : kx < ss.length := (List.getElem?_eq_some_iff.mp hkx).1
    obtain ⟨s1, s2, s3⟩ := List.pairwise_append.mp hs
    obtain ⟨s4, s5⟩ := List.pairwise_cons.mp s2
    -- whatever is under x stands in done
    have low : ∀ j : Nat, j < ss.length → underB ss j kx = true → (j : Int) ∈ done.map (·.2) := fun j hj hu => by
      have hjs : ss[j]? = some ss[j] := List.getElem?_eq_getElem hj
      have hy : ((ss[j].2 - ss[j].1, (j : Int)) : Int × Int) ∈ done ++ x :: rest := hp.mem_iff.mpr (List.mem_map.mpr ⟨(ss[j], j), List.mem_zipIdx_iff_getElem?.mpr hjs, rfl⟩)
      have key := under_key hjs hkx hu
      rcases List.mem_append.mp hy with q | q
      · exact List.mem_map.mpr ⟨_, q, rfl⟩
      · rcases List.mem_cons.mp q with q | q
        · rw [ex] at q
          have q1 := congrArg Prod.fst q
          have q2 := congrArg Prod.snd q
          simp only at q1 q2
          omega
        · have := of_decide_eq_true (s4 _ q)
          rw [ex] at this
          simp only at this
          omega
    have nx : (kx : Int) ∉ done.map (·.2) := fun q => by
      obtain ⟨y, hy, ey⟩ := List.mem_map.mp q
      obtain ⟨ky, sy, hky, eyy⟩ := mem y (List.mem_append_left _ hy)
      have e1 : ky = kx := by
        rw [eyy] at ey
        exact Int.ofNat.inj ey
      have e2 : y = x := by
        rw [eyy, ex]
        subst e1
        rw [hky] at hkx
        rw [Option.some.inj hkx]
      have nd : (longKeys ss).Nodup := by
        unfold longKeys
        refine List.nodup_iff_pairwise_ne.mpr (List.pairwise_map.mpr ?_)
        have hz : (ss.zipIdx).Pairwise (fun a b => a.2 ≠ b.2) := by
          have := List.nodup_range (n := ss.length)
          have e : ss.zipIdx.map (·.2) = List.range ss.length := by
            rw [List.zipIdx_map_snd]
            exact (List.range_eq_range').symm
          rw [← e] at this
          exact List.pairwise_map.mp (List.nodup_iff_pairwise_ne.mp this)
        exact hz.imp fun h q => h (Int.ofNat.inj (congrArg Prod.snd q))
      have nd2 := (hp.nodup_iff).mpr nd
      exact (List.nodup_append.mp nd2).2.2 y hy x (by simp) e2
    obtain ⟨a, b, c, d⟩ := levIns_spec ss kx (List.range ss.length) f (by omega) fun j hj => List.mem_range.mp hj
    have e0 : levStep ss f x.2 = (List.range ss.length).foldl (levIn ss kx) f := by
      unfold levStep
      rw [ex]
      simp only [Int.toNat_natCast]
    have e1 : ((x :: rest).map (·.2)).foldl (levStep ss) f = (rest.map (·.2)).foldl (levStep ss) ((List.range ss.length).foldl (levIn ss kx) f) := by
      rw [List.map_cons, List.foldl_cons, e0]
    rw [e1]
    refine levels_go ss rest (done ++ [x]) _ (by rw [List.append_assoc]; exact hs) (by rw [List.append_assoc]; exact hp) (by rw [levIns_len]; exact hl) (fun i hi => ?_) (fun i hi => ?_) k hk
    · rw [List.map_append, List.mem_append, not_or] at hi
      have hik : i ≠ kx := fun e => hi.2 (by rw [e, ex]; simp)
      rw [a i hik]
      exact hz i hi.1
    · have fz := hz kx nx
      have other : ∀ j : Nat, (j : Int) ∈ done.map (·.2) → ((List.range ss.length).foldl (levIn ss kx) f).getD j 0 = f.getD j 0 := fun j hj => a j fun e => nx (e ▸ hj)
      rw [List.map_append, List.mem_append] at hi
      rcases hi with hi | hi
      · obtain ⟨p1, p2, p3⟩ := hd i hi
        -- what is under i is done too
        have dn : ∀ j : Nat, j < ss.length → underB ss j i = true → j ≠ kx := fun j hj hu e => by
          subst e
          obtain ⟨y, hy, ey⟩ := List.mem_map.mp hi
          obtain ⟨ky, sy, hky, eyy⟩ := mem y (List.mem_append_left _ hy)
          have e1 : ky = i := by
            rw [eyy] at ey
            exact Int.ofNat.inj ey
          subst e1
          have key := under_key hkx hky hu
          have := of_decide_eq_true (s3 y hy x List.mem_cons_self)
          rw [ex, eyy] at this
          simp only at this
          omega
        refine ⟨by rw [other i hi]; exact p1, fun j hj hu => ?_, ?_⟩
        · rw [other i hi, a j (dn j hj hu)]
          exact p2 j hj hu
        · rw [other i hi]
          rcases p3 with p3 | ⟨j, hj, hu, p3⟩
          · exact .inl p3
          · exact .inr ⟨j, hj, hu, by rw [a j (dn j hj hu)]; exact p3⟩
      · have e2 : i = kx := by
          rw [ex] at hi
          simp at hi
          exact Int.ofNat.inj hi
        subst e2
        refine ⟨by omega, fun j hj hu => ?_, ?_⟩
        · rw [other j (low j hj hu)]
          exact c j (List.mem_range.mpr hj) hu
        · rcases d with d | ⟨j, hj, hu, d⟩
          · exact .inl (by omega)
          · exact .inr ⟨j, hj, hu, by rw [other j (low j hj hu)]; exact d⟩
theorem levels_spec (ss : List Spn) (k : Nat) (hk : k < ss.length) : IsLev ss (levelsOf ss) k :=
  levels_go ss (isort le2 (longKeys ss)) [] _ (by simpa using isort_sorted ord2 _) (by simpa using isort_perm _) (by simp) (fun k _ => by
    rw [List.getD_eq_getElem?_getD, List.getElem?_replicate]
    split <;> rfl) (fun k h => by simp at h) k hk
/-- the greatest of some levels, -1 of none -/
def maxOr (l : List Int) : Int := l.foldl max (-1)
theorem maxOr_go : ∀ (l : List Int) (b : Int), b ≤ l.foldl max b ∧ (∀ x ∈ l, x ≤ l.foldl max b) ∧ (l.foldl max b = b ∨ l.foldl max b ∈ l)
  | [], b => ⟨Int.le_refl _, fun _ h => (List.not_mem_nil h).elim, .inl rfl⟩
  | x :: l, b => by
    obtain ⟨h1, h2, h3⟩ := maxOr_go l (max b x)
    rw [List.foldl_cons]
    refine ⟨by omega, fun y hy => ?_, ?_⟩
    · rcases List.mem_cons.mp hy with e | e
      · rw [e]
        omega
      · exact h2 y e
    · rcases h3 with e | e
      · by_cases c : x ≤ b
        · exact .inl (by rw [e]; omega)
        · exact .inr (by rw [e, show max b x = x by omega]; exact List.mem_cons_self)
      · exact .inr (List.mem_cons_of_mem _ e)
theorem maxOr_eq {l : List Int} {m : Int} (hm : m ∈ l) (h0 : ∀ x ∈ l, 0 ≤ x) (h : ∀ y ∈ l, y ≤ m) : maxOr l = m := by
  obtain ⟨h1, h2, h3⟩ := maxOr_go l (-1)
  have := h2 m hm
  have := h0 m hm
  unfold maxOr
  rcases h3 with e | e
  · omega
  · have := h _ e
    omega
theorem levels_nonneg (ss : List Spn) : ∀ x ∈ levelsOf ss, 0 ≤ x := fun x hx => by
  obtain ⟨i, hi⟩ := List.mem_iff_getElem?.mp hx
  have hl := (List.getElem?_eq_some_iff.mp hi).1
  rw [levels_len] at hl
  have := (levels_spec ss i hl).1
  rw [List.getD_eq_getElem?_getD, hi, Option.getD_some] at this
  exact this
theorem levStep_le (ss : List Spn) (f : List Int) (k B : Int) (hf : f.length = ss.length) (h : ∀ i, f.getD i 0 ≤ B) : ∀ i, (levStep ss f k).getD i 0 ≤ B + 1 := fun i => by
  by_cases hk : k.toNat < f.length
  · obtain ⟨a, _, _, d⟩ := levIns_spec ss k.toNat (List.range ss.length) f hk fun j hj => List.mem_range.mp hj
    unfold levStep
    by_cases e : i = k.toNat
    · subst e
      have hi := h k.toNat
      rcases d with d | ⟨j, _, _, d⟩
      · omega
      · have := h j
        omega
    · rw [a i e]
      have := h i
      omega
  · have e : levStep ss f k = f := by
      unfold levStep
      generalize List.range ss.length = l
      have : ∀ (l : List Nat), l.foldl (levIn ss k.toNat) f = f := fun l => by
        induction l with
        | nil => rfl
        | cons j l ih =>
          have e1 : levIn ss k.toNat f j = f := by
            unfold levIn
            split
            · exact List.set_eq_of_length_le (by omega)
            · rfl
          rw [List.foldl_cons, e1, ih]
      exact this l
    rw [e]
    have := h i
    omega
theorem levels_le (ss : List Spn) : ∀ i, (levelsOf ss).getD i 0 ≤ ss.length := by
  have go : ∀ (l : List Int) (f : List Int) (B : Int), f.length = ss.length → (∀ i, f.getD i 0 ≤ B) → ∀ i, (l.foldl (levStep ss) f).getD i 0 ≤ B + l.length := by
    intro l
    induction l with
    | nil => intro f B _ h i; have := h i; rw [List.foldl_nil, List.length_nil]; omega
    | cons k l ih =>
      intro f B hf h i
      have := ih (levStep ss f k) (B + 1) (by rw [levStep_len]; exact hf) (levStep_le ss f k B hf h) i
      rw [List.foldl_cons, List.length_cons]
      omega
  intro i
  have := go (upwardOf ss) (List.replicate ss.length 0) 0 (by simp) (fun i => by
    rw [List.getD_eq_getElem?_getD, List.getElem?_replicate]
    split <;> simp) i
  rw [up_len] at this
  unfold levelsOf
  omega
theorem maxOr_le (ss : List Spn) : -1 ≤ maxOr (levelsOf ss) ∧ maxOr (levelsOf ss) ≤ ss.length := by
  obtain ⟨h1, h2, h3⟩ := maxOr_go (levelsOf ss) (-1)
  refine ⟨h1, ?_⟩
  show (levelsOf ss).foldl max (-1) ≤ _
  rcases h3 with e | e
  · omega
  · obtain ⟨i, hi⟩ := List.mem_iff_getElem?.mp e
    have := levels_le ss i
    rw [List.getD_eq_getElem?_getD, hi, Option.getD_some] at this
    exact this
/-- each level below one that is there is there, and under it -/
theorem level_top (ss : List Spn) (h : 0 ≤ maxOr (levelsOf ss)) : ∃ k, k < ss.length ∧ (levelsOf ss).getD k 0 = maxOr (levelsOf ss) := by
  obtain ⟨h1, h2, h3⟩ := maxOr_go (levelsOf ss) (-1)
  unfold maxOr at h ⊢
  rcases h3 with e | e
  · omega
  · obtain ⟨i, hi⟩ := List.mem_iff_getElem?.mp e
    refine ⟨i, ?_, ?_⟩
    · rw [← levels_len ss]
      exact (List.getElem?_eq_some_iff.mp hi).1
    · rw [List.getD_eq_getElem?_getD, hi, Option.getD_some]
theorem level_down (ss : List Spn) {k : Nat} {l : Int} (hk : k < ss.length) (h : (levelsOf ss).getD k 0 = l + 1) (h0 : 0 ≤ l) : ∃ j, j < ss.length ∧ underB ss j k = true ∧ (levelsOf ss).getD j 0 = l := by
  obtain ⟨_, _, p⟩ := levels_spec ss k hk
  rcases p with p | ⟨j, hj, hu, p⟩
  · omega
  · exact ⟨j, hj, hu, by omega⟩
end Sh
end

section
namespace Sh
open PySem PySem.Spec PyProof.Rows L2 SpR
theorem walk_rg {n : Nat} : Walk (Itr 0 n) n (fun _ => True) (fun i H x H' => H' = H ∧ x = .int (i : Int)) :=
  walk_range.mono (fun _ h => h) fun i H x H' _ _ y => ⟨y.1, by rw [y.2]; show V.int (0 + (i : Int)) = _; rw [Int.zero_add]⟩
/-- [e for i in range(n) if ..] -/
theorem lc_rng {n : Nat} {g : TG} {tt : TT} {te : TE} {vs : List Nat} {σ : L2.St} {H1 : Hp} {D : Addr} {Qd : Hp → Prop} {β : Type} (R : Hp → V → β → Prop)
    (m : ∀ {H H' : Hp} {v : V} {x : β}, Tp H H' → R H v x → R H' v x) (f : Nat → Option β) (hn : n ≤ 1000) (hD : H1 D = none)
    (turn : ∀ i H0, i < n → Same H1 H0 → ∀ (Kt : V → Hp → Prop) (Kf : Hp → Prop), (∀ y b H2, Same H0 H2 → f i = some b → R H2 y b → Kt y H2) → (∀ H2, Same H0 H2 → f i = none → Kf H2) →
      g (.int (i : Int)) (wipe σ vs) H0 fun σ2 H2 => wipe σ2 vs = wipe σ vs ∧ tt σ2 H2 fun b H3 => if b = true then te σ2 H3 Kt else Kf H3)
    (hd : ∀ H', Same H1 H' → Ls R H' D ((List.range n).filterMap f) → Qd H') :
    ∃ W : Nat → Nat → Hp → Prop, (∃ m, W 0 m (upd H1 D (.lst []))) ∧ ∀ i m H, W i m H →
      ((Itr 0 n).stop i H ∧ Qd H) ∨ ((Itr 0 n).go i H ∧ ∃ Nx : Hp → Prop, (∀ H', Nx H' → ∃ m', m' < m ∧ W (i + 1) m' H') ∧ ∀ x H', (Itr 0 n).yld i H x H' → g x (wipe σ vs) H' fun σ2 H2 => wipe σ2 vs = wipe σ vs ∧ tt σ2 H2 fun b H3 =>
        if b = true then te σ2 H3 fun y H4 => ∃ acc, H4 D = some (.lst acc) ∧ acc.length < sizeLine ∧ Nx (upd H4 D (.lst (acc ++ [y]))) else Nx H3) := by
  refine lc_map walk_rg R m f hn hD (fun _ _ => trivial) (fun i x H0 H' hi s0 ⟨e, ex⟩ Kt Kf ht hf => ?_) hd
  subst e ex
  exact turn i _ hi s0 Kt Kf ht hf
/-- [i for i in range(n) if p]: the numbers that p takes -/
def natsI (l : List Nat) : List Int := l.map Int.ofNat
theorem lc_rngF {n : Nat} {i : Nat} {tt : TT} {vs : List Nat} {σ : L2.St} {H1 : Hp} {D : Addr} {Qd : Hp → Prop} (p : Nat → Bool) (hn : n ≤ 1000) (hD : H1 D = none) (hw : ∀ v, wipe ((wipe σ vs).set i (some v)) vs = wipe σ vs) (hi : i < (wipe σ vs).length)
    (turn : ∀ j H0, j < n → Same H1 H0 → ∀ (Kb : Bool → Hp → Prop), (∀ H2, Same H0 H2 → Kb (p j) H2) → tt ((wipe σ vs).set i (some (.int (j : Int)))) H0 Kb)
    (hd : ∀ H', Same H1 H' → LsI H' D (natsI ((List.range n).filter p)) → Qd H') :
    ∃ W : Nat → Nat → Hp → Prop, (∃ m, W 0 m (upd H1 D (.lst []))) ∧ ∀ i' m H, W i' m H →
      ((Itr 0 n).stop i' H ∧ Qd H) ∨ ((Itr 0 n).go i' H ∧ ∃ Nx : Hp → Prop, (∀ H', Nx H' → ∃ m', m' < m ∧ W (i' + 1) m' H') ∧ ∀ x H', (Itr 0 n).yld i' H x H' → gName i x (wipe σ vs) H' fun σ2 H2 => wipe σ2 vs = wipe σ vs ∧ tt σ2 H2 fun b H3 =>
        if b = true then tVar i σ2 H3 fun y H4 => ∃ acc, H4 D = some (.lst acc) ∧ acc.length < sizeLine ∧ Nx (upd H4 D (.lst (acc ++ [y]))) else Nx H3) := by
  refine lc_rng In (fun _ h => h) (fun j => if p j = true then some (j : Int) else none) hn hD (fun j H0 hj s0 Kt Kf ht hf => ?_) (fun H' e hl => hd H' e ?_)
  · refine ⟨hw _, turn j H0 hj s0 _ fun H2 s2 => ?_⟩
    refine ifB (fun hb => ?_) (fun hb => ?_)
    · exact ⟨_, List.getElem?_set_self hi, ht _ _ H2 s2 (if_pos hb) rfl⟩
    · exact hf H2 s2 (if_neg (by rw [hb]; decide))
  · have e2 : (List.range n).filterMap (fun j => if p j = true then some (j : Int) else none) = natsI ((List.range n).filter p) := by
      unfold natsI
      generalize List.range n = l
      induction l with
      | nil => rfl
      | cons x l ih =>
        rw [List.filterMap_cons, List.filter_cons]
        by_cases h : p x = true
        · rw [if_pos h, if_pos h, ih, List.map_cons]
          rfl
        · rw [if_neg h, if_neg h, ih]
    rw [e2] at hl
    exact ls_int hl
theorem k_maxDef {K : PySem.W.Frag} {H : Hp} {a : Addr} {ns : List Int} {d m : Int} {Q : VK} (h : LsI H a ns) (h0 : ns = [] → m = d) (h1 : ∀ z, z ∈ ns → (∀ y ∈ ns, y ≤ z) → z = m) (q : Q (.int m) H) : jMaxDef K [.ref a] [.int d] H Q := by
  unfold jMaxDef
  exact ⟨a, ns, d, rfl, rfl, SqL.of h, fun e => by rw [← h0 e]; exact q, fun z hz hy => by rw [h1 z hz hy]; exact q⟩
theorem nats_get {l : List Nat} {i : Nat} {x : Int} (h : (natsI l)[i]? = some x) : ∃ k, l[i]? = some k ∧ x = (k : Int) := by
  unfold natsI at h
  rw [List.getElem?_map] at h
  cases e : l[i]? with
  | none =>
    rw [e] at h
    cases h
  | some k =>
    rw [e] at h
    exact ⟨k, rfl, (Option.some.inj h).symm⟩
theorem nats_mem {l : List Nat} {x : Int} (h : x ∈ natsI l) : ∃ k, k ∈ l ∧ x = (k : Int) := by
  obtain ⟨k, hk, e⟩ := List.mem_map.mp h
  exact ⟨k, hk, e.symm⟩
theorem nats_filter (l : List Nat) (p : Int → Bool) : (natsI l).filter p = natsI (l.filter fun k => p (k : Int)) := by
  unfold natsI
  rw [List.filter_map]
  rfl
theorem nats_len (l : List Nat) : (natsI l).length = l.length := List.length_map _
end Sh
end

section
/-! the matching that loose makes -/
namespace Sh
/-! ### counting -/
def cnt (n : Nat) (P : Nat → Bool) : Nat := ((List.range n).filter P).length
theorem len_sub {α : Type} [DecidableEq α] : ∀ {l m : List α}, l.Nodup → (∀ x ∈ l, x ∈ m) → l.length ≤ m.length
  | [], m, _, _ => Nat.zero_le _
  | x :: l, m, hn, hs => by
    have hx : x ∈ m := hs x List.mem_cons_self
    obtain ⟨h1, h2⟩ := List.nodup_cons.mp hn
    have h3 : l.length ≤ (m.erase x).length := len_sub h2 fun y hy => by
      refine (List.mem_erase_of_ne fun e => h1 ?_).mpr (hs y (List.mem_cons_of_mem _ hy))
      rw [← e]
      exact hy
    rw [List.length_erase_of_mem hx] at h3
    have := List.length_pos_of_mem hx
    rw [List.length_cons]
    omega
theorem nodup_mapOn {α β : Type} {f : α → β} : ∀ {l : List α}, l.Nodup → (∀ x ∈ l, ∀ y ∈ l, f x = f y → x = y) → (l.map f).Nodup
  | [], _, _ => List.nodup_nil
  | x :: l, hn, hf => by
    obtain ⟨h1, h2⟩ := List.nodup_cons.mp hn
    rw [List.map_cons]
    refine List.nodup_cons.mpr ⟨fun h => ?_, nodup_mapOn h2 fun a ha b hb => hf a (List.mem_cons_of_mem _ ha) b (List.mem_cons_of_mem _ hb)⟩
    obtain ⟨y, hy, e⟩ := List.mem_map.mp h
    exact h1 (by rw [hf x List.mem_cons_self y (List.mem_cons_of_mem _ hy) e.symm]; exact hy)
theorem range_nodup (n : Nat) : (List.range n).Nodup := List.nodup_range
theorem cnt_mem {n : Nat} {P : Nat → Bool} {x : Nat} : x ∈ (List.range n).filter P ↔ x < n ∧ P x = true := by
  rw [List.mem_filter, List.mem_range]
theorem cnt_nd (n : Nat) (P : Nat → Bool) : ((List.range n).filter P).Nodup := (range_nodup n).filter _
theorem cnt_le (n : Nat) (P : Nat → Bool) : cnt n P ≤ n := by
  have := List.length_filter_le P (List.range n)
  rw [List.length_range] at this
  exact this
theorem cnt_list {n : Nat} {P : Nat → Bool} {l : List Nat} (hn : l.Nodup) (h : ∀ x, x ∈ l ↔ x < n ∧ P x = true) : cnt n P = l.length := by
  refine Nat.le_antisymm (len_sub (cnt_nd n P) fun x hx => (h x).mpr (cnt_mem.mp hx)) (len_sub hn fun x hx => cnt_mem.mpr ((h x).mp hx))
theorem cnt_inj {n : Nat} {P Q : Nat → Bool} (Rl : Nat → Nat → Prop) (h : ∀ x, x < n → P x = true → ∃ y, y < n ∧ Q y = true ∧ Rl x y) (inj : ∀ x z y, Rl x y → Rl z y → x = z) : cnt n P ≤ cnt n Q := by
  have hf : ∀ x, ∃ y, x < n → P x = true → y < n ∧ Q y = true ∧ Rl x y := fun x => by
    by_cases h1 : x < n ∧ P x = true
    · obtain ⟨y, hy⟩ := h x h1.1 h1.2
      exact ⟨y, fun _ _ => hy⟩
    · exact ⟨0, fun a b => (h1 ⟨a, b⟩).elim⟩
  let f : Nat → Nat := fun x => (hf x).choose
  have fs : ∀ x, x < n → P x = true → f x < n ∧ Q (f x) = true ∧ Rl x (f x) := fun x => (hf x).choose_spec
  have h1 : (((List.range n).filter P).map f).Nodup := nodup_mapOn (cnt_nd n P) fun x hx y hy e => by
    obtain ⟨a, b⟩ := cnt_mem.mp hx
    obtain ⟨c, d⟩ := cnt_mem.mp hy
    refine inj x y (f x) (fs x a b).2.2 ?_
    rw [e]
    exact (fs y c d).2.2
  have h2 := len_sub (m := (List.range n).filter Q) h1 fun y hy => by
    obtain ⟨x, hx, e⟩ := List.mem_map.mp hy
    obtain ⟨a, b⟩ := cnt_mem.mp hx
    rw [← e]
    exact cnt_mem.mpr ⟨(fs x a b).1, (fs x a b).2.1⟩
  rw [List.length_map] at h2
  exact h2
theorem cnt_mono {n : Nat} {P Q : Nat → Bool} (h : ∀ x, x < n → P x = true → Q x = true) : cnt n P ≤ cnt n Q := cnt_inj (fun x y => x = y) (fun x a b => ⟨x, a, h x a b, rfl⟩) fun x z y e f => e.trans f.symm
theorem cnt_congr {n : Nat} {P Q : Nat → Bool} (h : ∀ x, x < n → P x = Q x) : cnt n P = cnt n Q := Nat.le_antisymm (cnt_mono fun x a b => by rw [← h x a]; exact b) (cnt_mono fun x a b => by rw [h x a]; exact b)
theorem cnt_split (n : Nat) (P S : Nat → Bool) : cnt n P = cnt n (fun x => P x && S x) + cnt n (fun x => P x && !S x) := by
  unfold cnt
  generalize List.range n = l
  induction l with
  | nil => rfl
  | cons x l ih =>
    simp only [List.filter_cons]
    cases P x <;> cases S x <;> simp [ih] <;> omega
theorem cnt_lt {n : Nat} {P Q : Nat → Bool} (h : ∀ x, x < n → P x = true → Q x = true) {y : Nat} (hy : y < n) (hq : Q y = true) (hp : P y = false) : cnt n P < cnt n Q := by
  have h1 := cnt_split n Q P
  have h2 : cnt n (fun x => Q x && P x) = cnt n P := cnt_congr fun x hx => by
    have := h x hx
    cases e : P x with
    | true => rw [this e]; rfl
    | false => rw [Bool.and_false]
  have h3 : 0 < cnt n (fun x => Q x && !P x) := List.length_pos_of_mem (cnt_mem.mpr ⟨hy, by rw [hq, hp]; rfl⟩)
  omega
/-! ### under is an order -/
theorem under_trans {ss : List Spn} {i j k : Nat} (h1 : underB ss i j = true) (h2 : underB ss j k = true) : underB ss i k = true := by
  unfold underB at *
  simp only at *
  generalize ss.getD i (0, 0) = s at *
  generalize ss.getD j (0, 0) = t at *
  generalize ss.getD k (0, 0) = u at *
  unfold insideB at *
  by_cases e1 : s = t
  · subst e1
    rw [if_pos rfl] at h1
    by_cases e2 : s = u
    · subst e2
      rw [if_pos rfl] at *
      have := of_decide_eq_true h1
      have := of_decide_eq_true h2
      exact decide_eq_true (by omega)
    · rw [if_neg e2] at *
      exact h2
  · rw [if_neg e1] at h1
    have a := of_decide_eq_true h1
    by_cases e2 : t = u
    · subst e2
      rw [if_neg e1]
      exact h1
    · rw [if_neg e2] at h2
      have b := of_decide_eq_true h2
      have e3 : s ≠ u := fun e => by
        subst e
        exact e1 (Prod.ext (by omega) (by omega))
      rw [if_neg e3]
      exact decide_eq_true (by omega)
def rank (ss : List Spn) (x : Nat) : Nat := cnt ss.length (underB ss x)
theorem rank_lt {ss : List Spn} {x y : Nat} (hy : y < ss.length) (h : underB ss x y = true) : rank ss y < rank ss x :=
  cnt_lt (fun z _ hz => under_trans h hz) hy h under_irr
/-! ### matchings -/
abbrev Mt := List (Nat × Nat)
def mput (M : Mt) (r l : Nat) : Mt := if (M.any fun p => decide (p.1 = r)) = true then M.map (fun p => if p.1 = r then (p.1, l) else p) else M ++ [(r, l)]
theorem any_key {M : Mt} {r : Nat} : (M.any fun p => decide (p.1 = r)) = true ↔ ∃ x, (r, x) ∈ M := by
  rw [List.any_eq_true]
  constructor
  · rintro ⟨⟨q, x⟩, h, e⟩
    have e : q = r := of_decide_eq_true e
    exact ⟨x, by rw [← e]; exact h⟩
  · rintro ⟨x, h⟩
    exact ⟨_, h, decide_eq_true rfl⟩
theorem mem_mput {M : Mt} {r l q x : Nat} : (q, x) ∈ mput M r l ↔ (q = r ∧ x = l) ∨ (q ≠ r ∧ (q, x) ∈ M) := by
  unfold mput
  by_cases h : (M.any fun p => decide (p.1 = r)) = true
  · rw [if_pos h, List.mem_map]
    constructor
    · rintro ⟨⟨q', x'⟩, hm, e⟩
      by_cases c : q' = r
      · rw [if_pos c] at e
        obtain ⟨e1, e2⟩ := Prod.mk.inj e
        exact .inl ⟨by rw [← e1]; exact c, e2.symm⟩
      · rw [if_neg c] at e
        obtain ⟨e1, e2⟩ := Prod.mk.inj e
        subst e1 e2
        exact .inr ⟨c, hm⟩
    · rintro (⟨rfl, rfl⟩ | ⟨c, hm⟩)
      · obtain ⟨y, hy⟩ := any_key.mp h
        exact ⟨_, hy, if_pos rfl⟩
      · exact ⟨_, hm, if_neg c⟩
  · rw [if_neg h, List.mem_append, List.mem_singleton]
    have h2 : ¬ ∃ x, (r, x) ∈ M := fun e => h (any_key.mpr e)
    constructor
    · rintro (hm | e)
      · exact .inr ⟨fun c => h2 ⟨x, by rw [← c]; exact hm⟩, hm⟩
      · exact .inl (Prod.mk.inj e)
    · rintro (⟨rfl, rfl⟩ | ⟨c, hm⟩)
      · exact .inr rfl
      · exact .inl hm
theorem mput_new {M : Mt} {r l : Nat} (h : ¬ ∃ x, (r, x) ∈ M) : mput M r l = M ++ [(r, l)] := if_neg fun e => h (any_key.mp e)
theorem mput_keys {M : Mt} {r l : Nat} (h : ∃ x, (r, x) ∈ M) : (mput M r l).map (·.1) = M.map (·.1) := by
  unfold mput
  rw [if_pos (any_key.mpr h), List.map_map]
  refine List.map_congr_left fun p _ => ?_
  show (if p.1 = r then (p.1, l) else p).1 = p.1
  split <;> rfl
theorem mput_nd {M : Mt} {r l : Nat} (h : (M.map (·.1)).Nodup) : ((mput M r l).map (·.1)).Nodup := by
  by_cases c : ∃ x, (r, x) ∈ M
  · rw [mput_keys c]
    exact h
  · rw [mput_new c, List.map_append]
    refine List.nodup_append.mpr ⟨h, by simp, fun a ha b hb e => c ?_⟩
    have hb : b = r := by simpa using hb
    obtain ⟨⟨q, x⟩, hm, e2⟩ := List.mem_map.mp ha
    have e2 : q = a := e2
    exact ⟨x, by rw [← hb, ← e, ← e2]; exact hm⟩
theorem mput_len (M : Mt) (r l : Nat) : (mput M r l).length ≤ M.length + 1 := by
  unfold mput
  split <;> simp
theorem key_fun {M : Mt} (h : (M.map (·.1)).Nodup) {r x y : Nat} (a : (r, x) ∈ M) (b : (r, y) ∈ M) : x = y := by
  induction M with
  | nil => exact (List.not_mem_nil a).elim
  | cons p M ih =>
    rw [List.map_cons] at h
    obtain ⟨h1, h2⟩ := List.nodup_cons.mp h
    rcases List.mem_cons.mp a with e | a'
    · rcases List.mem_cons.mp b with e' | b'
      · rw [← e] at e'
        exact (Prod.mk.inj e').2.symm
      · exact (h1 (by rw [← e]; exact List.mem_map.mpr ⟨_, b', rfl⟩)).elim
    · rcases List.mem_cons.mp b with e' | b'
      · exact (h1 (by rw [← e']; exact List.mem_map.mpr ⟨_, a', rfl⟩)).elim
      · exact ih h2 a' b'
theorem val_fun {M : Mt} (h : (M.map (·.2)).Nodup) {r q x : Nat} (a : (r, x) ∈ M) (b : (q, x) ∈ M) : r = q := by
  induction M with
  | nil => exact (List.not_mem_nil a).elim
  | cons p M ih =>
    rw [List.map_cons] at h
    obtain ⟨h1, h2⟩ := List.nodup_cons.mp h
    rcases List.mem_cons.mp a with e | a'
    · rcases List.mem_cons.mp b with e' | b'
      · rw [← e] at e'
        exact (Prod.mk.inj e').1.symm
      · exact (h1 (by rw [← e]; exact List.mem_map.mpr ⟨_, b', rfl⟩)).elim
    · rcases List.mem_cons.mp b with e' | b'
      · exact (h1 (by rw [← e']; exact List.mem_map.mpr ⟨_, a', rfl⟩)).elim
      · exact ih h2 a' b'
/-- put at a key: its value goes, the new one comes -/
theorem mput_vals {M : Mt} (h : (M.map (·.1)).Nodup) {r u l : Nat} (a : (r, u) ∈ M) : ∃ X, (M.map (·.2)).Perm (u :: X) ∧ ((mput M r l).map (·.2)).Perm (l :: X) := by
  obtain ⟨M1, M2, e⟩ := List.append_of_mem a
  refine ⟨(M1 ++ M2).map (·.2), ?_, ?_⟩
  · rw [e, List.map_append, List.map_cons, List.map_append]
    exact List.perm_middle
  · unfold mput
    rw [if_pos (any_key.mpr ⟨u, a⟩)]
    have no : ∀ p ∈ M1 ++ M2, ¬ p.1 = r := fun p hp c => by
      have h2 : (M.map (·.1)).Perm (r :: (M1 ++ M2).map (·.1)) := by
        rw [e, List.map_append, List.map_cons, List.map_append]
        exact List.perm_middle
      have h3 := (List.nodup_cons.mp (h2.nodup_iff.mp h)).1
      exact h3 (List.mem_map.mpr ⟨p, hp, c⟩)
    have e1 : ∀ N : Mt, (∀ p ∈ N, ¬ p.1 = r) → N.map (fun p => if p.1 = r then (p.1, l) else p) = N := fun N hN =>
      (List.map_congr_left fun p hp => if_neg (hN p hp)).trans (List.map_id' N)
    rw [e, List.map_append, List.map_cons, e1 M1 fun p hp => no p (List.mem_append_left _ hp), e1 M2 fun p hp => no p (List.mem_append_right _ hp), if_pos rfl, List.map_append, List.map_cons, List.map_append]
    exact List.perm_middle
structure MOk (ss : List Spn) (M : Mt) : Prop where
  nd : (M.map (·.1)).Nodup
  ed : ∀ r l, (r, l) ∈ M → r < ss.length ∧ l < ss.length ∧ underB ss l r = true
def Closed (ss : List Spn) (M : Mt) (C : Nat → Prop) : Prop := ∀ r, C r → ∃ u, (r, u) ∈ M ∧ ∀ q, q < ss.length → underB ss u q = true → C q
structure MFt (ss : List Spn) (M M' : Mt) (T : List Nat) (v : Nat) : Prop where
  ok : MOk ss M'
  vals : (M'.map (·.2)).Perm (v :: M.map (·.2))
  keep : ∀ r ∈ T, ∀ x, (r, x) ∈ M' ↔ (r, x) ∈ M
  clos : ∀ C : Nat → Prop, Closed ss M C → (∃ r, r < ss.length ∧ underB ss v r = true ∧ ¬ C r) ∧ ∀ r x, C r → ((r, x) ∈ M' ↔ (r, x) ∈ M)
structure TExt (ss : List Spn) (T T' : List Nat) : Prop where
  sub : ∀ x ∈ T, x ∈ T'
  nd : T'.Nodup
  lt : ∀ x ∈ T', x < ss.length
/-- a turn of the loop: places below j are done -/
structure MFl (ss : List Spn) (M : Mt) (T T' : List Nat) (v j : Nat) : Prop where
  ext : TExt ss T T'
  all : ∀ r, r < j → underB ss v r = true → r ∈ T'
  nw : ∀ r ∈ T', r ∉ T → ∃ u, (r, u) ∈ M ∧ ∀ q, q < ss.length → underB ss u q = true → q ∈ T'
theorem TExt.len {ss : List Spn} {T T' : List Nat} (h : TExt ss T T') : T'.length ≤ ss.length := by
  have := len_sub (m := List.range ss.length) h.nd fun x hx => List.mem_range.mpr (h.lt x hx)
  rw [List.length_range] at this
  exact this
theorem TExt.push {ss : List Spn} {T T' : List Nat} {x : Nat} (h : TExt ss T T') (hx : x < ss.length) (hn : x ∉ T') : TExt ss T (T' ++ [x]) where
  sub := fun y hy => List.mem_append_left _ (h.sub y hy)
  nd := List.nodup_append.mpr ⟨h.nd, by simp, fun a ha b hb e => hn (by
    have hb : b = x := by simpa using hb
    rw [← hb, ← e]
    exact ha)⟩
  lt := fun y hy => by
    rcases List.mem_append.mp hy with a | a
    · exact h.lt y a
    · have : y = x := by simpa using a
      rw [this]
      exact hx
theorem TExt.trans {ss : List Spn} {T T1 T2 : List Nat} (a : TExt ss T T1) (b : TExt ss T1 T2) : TExt ss T T2 := ⟨fun x h => b.sub x (a.sub x h), b.nd, b.lt⟩
theorem MFt.down {ss : List Spn} {M M' : Mt} {T T1 : List Nat} {v : Nat} (h : MFt ss M M' T1 v) (s : ∀ x ∈ T, x ∈ T1) : MFt ss M M' T v := ⟨h.ok, h.vals, fun r hr => h.keep r (s r hr), h.clos⟩
theorem mf_new {ss : List Spn} {M : Mt} {T : List Nat} {v o : Nat} (ok : MOk ss M) (hv : v < ss.length) (ho : o < ss.length) (hu : underB ss v o = true) (hn : ¬ ∃ x, (o, x) ∈ M) (hT : o ∉ T) : MFt ss M (mput M o v) T v where
  ok := ⟨mput_nd ok.nd, fun r l h => by
    rcases mem_mput.mp h with ⟨rfl, rfl⟩ | ⟨_, h⟩
    · exact ⟨ho, hv, hu⟩
    · exact ok.ed r l h⟩
  vals := by
    rw [mput_new hn, List.map_append]
    exact List.perm_append_comm
  keep := fun r hr x => by
    rw [mem_mput]
    constructor
    · rintro (⟨rfl, _⟩ | ⟨_, h⟩)
      · exact (hT hr).elim
      · exact h
    · exact fun h => .inr ⟨fun e => hT (by rw [← e]; exact hr), h⟩
  clos := fun C hC => by
    have hc : ¬ C o := fun c => by
      obtain ⟨u, h, _⟩ := hC o c
      exact hn ⟨u, h⟩
    refine ⟨⟨o, ho, hu, hc⟩, fun r x hr => ?_⟩
    rw [mem_mput]
    constructor
    · rintro (⟨rfl, _⟩ | ⟨_, h⟩)
      · exact (hc hr).elim
      · exact h
    · exact fun h => .inr ⟨fun e => hc (by rw [← e]; exact hr), h⟩
theorem mf_rec {ss : List Spn} {M M1 : Mt} {T : List Nat} {v o u : Nat} (ok : MOk ss M) (hv : v < ss.length) (ho : o < ss.length) (hu : underB ss v o = true) (hm : (o, u) ∈ M) (hT : o ∉ T) (h : MFt ss M M1 (T ++ [o]) u) : MFt ss M (mput M1 o v) T v := by
  have hm1 : (o, u) ∈ M1 := (h.keep o (by simp) u).mpr hm
  refine ⟨⟨mput_nd h.ok.nd, fun r l hr => ?_⟩, ?_, fun r hr x => ?_, fun C hC => ?_⟩
  · rcases mem_mput.mp hr with ⟨rfl, rfl⟩ | ⟨_, hr⟩
    · exact ⟨ho, hv, hu⟩
    · exact h.ok.ed r l hr
  · obtain ⟨X, h1, h2⟩ := mput_vals (l := v) h.ok.nd hm1
    exact h2.trans (List.Perm.cons v ((h1.symm.trans h.vals).cons_inv))
  · rw [mem_mput, ← h.keep r (List.mem_append_left _ hr) x]
    constructor
    · rintro (⟨rfl, _⟩ | ⟨_, h⟩)
      · exact (hT hr).elim
      · exact h
    · exact fun h => .inr ⟨fun e => hT (by rw [← e]; exact hr), h⟩
  · obtain ⟨⟨r0, h1, h2, h3⟩, h4⟩ := h.clos C hC
    have hc : ¬ C o := fun c => by
      obtain ⟨u', a, b⟩ := hC o c
      have := key_fun ok.nd a hm
      subst this
      exact h3 (b r0 h1 h2)
    refine ⟨⟨o, ho, hu, hc⟩, fun r x hr => ?_⟩
    rw [mem_mput, ← h4 r x hr]
    constructor
    · rintro (⟨rfl, _⟩ | ⟨_, h⟩)
      · exact (hc hr).elim
      · exact h
    · exact fun h => .inr ⟨fun e => hc (by rw [← e]; exact hr), h⟩
theorem mfl_start {ss : List Spn} {M : Mt} {T : List Nat} {v : Nat} (nd : T.Nodup) (lt : ∀ x ∈ T, x < ss.length) : MFl ss M T T v 0 := ⟨⟨fun _ h => h, nd, lt⟩, fun r h => absurd h (Nat.not_lt_zero r), fun r h n => (n h).elim⟩
theorem mfl_skip {ss : List Spn} {M : Mt} {T T1 : List Nat} {v j : Nat} (h : MFl ss M T T1 v j) (c : underB ss v j = true → j ∈ T1) : MFl ss M T T1 v (j + 1) := ⟨h.ext, fun r hr hu => by
  by_cases e : r = j
  · subst e
    exact c hu
  · exact h.all r (by omega) hu, h.nw⟩
theorem mfl_rec {ss : List Spn} {M : Mt} {T T1 T2 : List Nat} {v u j : Nat} (h : MFl ss M T T1 v j) (hj : j < ss.length) (hn : j ∉ T1) (hm : (j, u) ∈ M) (f : MFl ss M (T1 ++ [j]) T2 u ss.length) : MFl ss M T T2 v (j + 1) where
  ext := (h.ext.push hj hn).trans f.ext
  all := fun r hr hu => by
    by_cases e : r = j
    · subst e
      exact f.ext.sub r (by simp)
    · exact f.ext.sub r (List.mem_append_left _ (h.all r (by omega) hu))
  nw := fun r hr hrn => by
    by_cases c : r ∈ T1 ++ [j]
    · rcases List.mem_append.mp c with a | a
      · obtain ⟨x, h1, h2⟩ := h.nw r a hrn
        exact ⟨x, h1, fun q hq hu => f.ext.sub q (List.mem_append_left _ (h2 q hq hu))⟩
      · have : r = j := by simpa using a
        subst this
        exact ⟨u, hm, f.all⟩
    · exact f.nw r hr c
/-! ### all numbers in their turn -/
structure FM (ss : List Spn) (M : Mt) (i : Nat) : Prop where
  ok : MOk ss M
  vnd : (M.map (·.2)).Nodup
  vlt : ∀ x ∈ M.map (·.2), x < i
  cl : ∃ C, Closed ss M C ∧ ∀ v, v < i → v ∉ M.map (·.2) → ∀ q, q < ss.length → underB ss v q = true → C q
theorem fm_start (ss : List Spn) : FM ss [] 0 := ⟨⟨List.nodup_nil, fun r l h => (List.not_mem_nil h).elim⟩, List.nodup_nil, fun x h => (List.not_mem_nil h).elim, fun _ => False, fun r h => h.elim, fun v h => absurd h (Nat.not_lt_zero v)⟩
theorem fm_true {ss : List Spn} {M M' : Mt} {i : Nat} (f : FM ss M i) (h : MFt ss M M' [] i) : FM ss M' (i + 1) := by
  obtain ⟨C, hC, hf⟩ := f.cl
  have hi : i ∉ M.map (·.2) := fun e => absurd (f.vlt i e) (Nat.lt_irrefl i)
  refine ⟨h.ok, h.vals.nodup_iff.mpr (List.nodup_cons.mpr ⟨hi, f.vnd⟩), fun x hx => ?_, C, fun r hr => ?_, fun v hv hn q hq hu => ?_⟩
  · rcases List.mem_cons.mp (h.vals.mem_iff.mp hx) with e | e
    · omega
    · have := f.vlt x e
      omega
  · obtain ⟨u, a, b⟩ := hC r hr
    exact ⟨u, ((h.clos C hC).2 r u hr).mpr a, b⟩
  · have e : v ≠ i := fun e => hn (h.vals.mem_iff.mpr (by rw [e]; exact List.mem_cons_self))
    exact hf v (by omega) (fun c => hn (h.vals.mem_iff.mpr (List.mem_cons_of_mem _ c))) q hq hu
theorem fm_false {ss : List Spn} {M : Mt} {T : List Nat} {i : Nat} (f : FM ss M i) (h : MFl ss M [] T i ss.length) : FM ss M (i + 1) := by
  obtain ⟨C, hC, hf⟩ := f.cl
  refine ⟨f.ok, f.vnd, fun x hx => Nat.lt_succ_of_lt (f.vlt x hx), fun x => C x ∨ x ∈ T, fun r hr => ?_, fun v hv hn q hq hu => ?_⟩
  · rcases hr with hr | hr
    · obtain ⟨u, a, b⟩ := hC r hr
      exact ⟨u, a, fun q hq hu => .inl (b q hq hu)⟩
    · obtain ⟨u, a, b⟩ := h.nw r hr (List.not_mem_nil)
      exact ⟨u, a, fun q hq hu => .inr (b q hq hu)⟩
  · by_cases e : v = i
    · subst e
      exact .inr (h.all q hq hu)
    · exact .inl (hf v (by omega) hn q hq hu)
theorem FM.len {ss : List Spn} {M : Mt} {i : Nat} (f : FM ss M i) (hi : i ≤ ss.length) : M.length ≤ ss.length := by
  have := len_sub (m := List.range ss.length) f.vnd fun x hx => List.mem_range.mpr (by have := f.vlt x hx; omega)
  rw [List.length_range, List.length_map] at this
  exact this
/-! ### what is come to -/
def isFree (M : Mt) (x : Nat) : Bool := decide (x ∉ M.map (·.2))
def free (ss : List Spn) (M : Mt) : List Nat := (List.range ss.length).filter (isFree M)
structure CT (ss : List Spn) (M : Mt) (C : Nat → Prop) (F R : List Nat) (a j : Nat) : Prop where
  inC : ∀ r ∈ R, C r
  nd : R.Nodup
  lt : ∀ r ∈ R, r < ss.length
  len : F.length = (free ss M).length + R.length
  mem : ∀ x, x ∈ F ↔ x ∈ free ss M ∨ ∃ r ∈ R, (r, x) ∈ M
  did : ∀ i, i < a → ∀ x, F[i]? = some x → ∀ q, q < ss.length → underB ss x q = true → q ∈ R
  now : ∀ x, F[a]? = some x → ∀ q, q < j → underB ss x q = true → q ∈ R
  src : ∀ r ∈ R, ∃ x ∈ F, underB ss x r = true
theorem mem_free {ss : List Spn} {M : Mt} {x : Nat} : x ∈ free ss M ↔ x < ss.length ∧ x ∉ M.map (·.2) := by
  unfold free isFree
  rw [cnt_mem, decide_eq_true_iff]
theorem ct_start (ss : List Spn) (M : Mt) (C : Nat → Prop) : CT ss M C (free ss M) [] 0 0 := ⟨fun r h => (List.not_mem_nil h).elim, List.nodup_nil, fun r h => (List.not_mem_nil h).elim, rfl, fun x => ⟨.inl, fun h => h.elim id fun ⟨r, h, _⟩ => (List.not_mem_nil h).elim⟩, fun i h => absurd h (Nat.not_lt_zero i), fun x _ q h => absurd h (Nat.not_lt_zero q), fun r h => (List.not_mem_nil h).elim⟩
theorem CT.lenR {ss : List Spn} {M : Mt} {C : Nat → Prop} {F R : List Nat} {a j : Nat} (c : CT ss M C F R a j) : R.length ≤ ss.length := by
  have := len_sub (m := List.range ss.length) c.nd fun x hx => List.mem_range.mpr (c.lt x hx)
  rw [List.length_range] at this
  exact this
/-- all that is come to stands in the closed set -/
theorem ct_in {ss : List Spn} {M : Mt} {C : Nat → Prop} {F R : List Nat} {a j x : Nat} (f : FM ss M ss.length) (c : CT ss M C F R a j) (hx : x ∈ F) (hC : Closed ss M C) (hf : ∀ v, v < ss.length → v ∉ M.map (·.2) → ∀ q, q < ss.length → underB ss v q = true → C q) {q : Nat} (hq : q < ss.length) (hu : underB ss x q = true) : C q := by
  rcases (c.mem x).mp hx with h | ⟨r, hr, hm⟩
  · obtain ⟨a, b⟩ := mem_free.mp h
    exact hf x a b q hq hu
  · obtain ⟨u, h1, h2⟩ := hC r (c.inC r hr)
    have := key_fun f.ok.nd h1 hm
    subst this
    exact h2 q hq hu
theorem CT.all {ss : List Spn} {M : Mt} {C : Nat → Prop} {F R : List Nat} {a j : Nat} (c : CT ss M C F R a j) (h : ss.length ≤ j) : CT ss M C F R (a + 1) 0 :=
  ⟨c.inC, c.nd, c.lt, c.len, c.mem, fun i hi x hx q hq hu => by
    by_cases e : i = a
    · subst e
      exact c.now x hx q (by omega) hu
    · exact c.did i (by omega) x hx q hq hu, fun x _ q h => absurd h (Nat.not_lt_zero q), c.src⟩
theorem CT.skip {ss : List Spn} {M : Mt} {C : Nat → Prop} {F R : List Nat} {a j x : Nat} (c : CT ss M C F R a j) (hx : F[a]? = some x) (h : underB ss x j = true → j ∈ R) : CT ss M C F R a (j + 1) :=
  ⟨c.inC, c.nd, c.lt, c.len, c.mem, c.did, fun y hy q hq hu => by
    have e : x = y := by
      rw [hx] at hy
      exact Option.some.inj hy
    subst e
    by_cases e : q = j
    · subst e
      exact h hu
    · exact c.now x hx q (by omega) hu, c.src⟩
theorem CT.fresh {ss : List Spn} {M : Mt} {C : Nat → Prop} {F R : List Nat} {a j o y : Nat} (f : FM ss M ss.length) (c : CT ss M C F R a j) (ho : o ∉ R) (hm : (o, y) ∈ M) : y ∉ F := fun h => by
  rcases (c.mem y).mp h with h | ⟨r, hr, h⟩
  · exact (mem_free.mp h).2 (List.mem_map.mpr ⟨_, hm, rfl⟩)
  · have := val_fun f.vnd h hm
    subst this
    exact ho hr
theorem CT.add {ss : List Spn} {M : Mt} {C : Nat → Prop} {F R : List Nat} {a j x y : Nat} (c : CT ss M C F R a j) (hj : j < ss.length) (hx : F[a]? = some x) (hu : underB ss x j = true) (ho : j ∉ R) (hm : (j, y) ∈ M) (nd : (M.map (·.1)).Nodup) (cj : C j) : CT ss M C (F ++ [y]) (R ++ [j]) a (j + 1) := by
  have hlt : a < F.length := (List.getElem?_eq_some_iff.mp hx).1
  have old : ∀ i, i ≤ a → (F ++ [y])[i]? = F[i]? := fun i hi => List.getElem?_append_left (by omega)
  refine ⟨fun r hr => ?_, List.nodup_append.mpr ⟨c.nd, by simp, fun p hp q hq e => ho ?_⟩, fun r hr => ?_, ?_, fun z => ?_, fun i hi z hz q hq hu2 => ?_, fun z hz q hq hu2 => ?_, fun r hr => ?_⟩
  · rcases List.mem_append.mp hr with h | h
    · exact c.inC r h
    · have : r = j := by simpa using h
      rw [this]
      exact cj
  · have hq : q = j := by simpa using hq
    rw [← hq, ← e]
    exact hp
  · rcases List.mem_append.mp hr with h | h
    · exact c.lt r h
    · have : r = j := by simpa using h
      rw [this]
      exact hj
  · rw [List.length_append, List.length_append, c.len]
    simp only [List.length_singleton]
    omega
  · rw [List.mem_append, List.mem_singleton, c.mem z]
    constructor
    · rintro ((h | ⟨r, hr, h⟩) | rfl)
      · exact .inl h
      · exact .inr ⟨r, List.mem_append_left _ hr, h⟩
      · exact .inr ⟨j, by simp, hm⟩
    · rintro (h | ⟨r, hr, h⟩)
      · exact .inl (.inl h)
      · rcases List.mem_append.mp hr with h2 | h2
        · exact .inl (.inr ⟨r, h2, h⟩)
        · have : r = j := by simpa using h2
          subst this
          exact .inr (key_fun nd h hm)
  · rw [old i (by omega)] at hz
    exact List.mem_append_left _ (c.did i hi z hz q hq hu2)
  · rw [old a (Nat.le_refl a)] at hz
    by_cases e : q = j
    · subst e
      simp
    · exact List.mem_append_left _ (c.now z hz q (by omega) hu2)
  · rcases List.mem_append.mp hr with h | h
    · obtain ⟨z, hz, h2⟩ := c.src r h
      exact ⟨z, List.mem_append_left _ hz, h2⟩
    · have : r = j := by simpa using h
      subst this
      exact ⟨x, List.mem_append_left _ (List.mem_of_getElem? hx), hu⟩
/-! ### how many are loose -/
def dN (ss : List Spn) (X : Nat → Bool) (j : Nat) : Bool := (List.range ss.length).any fun i => X i && underB ss i j
theorem dN_iff {ss : List Spn} {X : Nat → Bool} {j : Nat} : dN ss X j = true ↔ ∃ i, i < ss.length ∧ X i = true ∧ underB ss i j = true := by
  unfold dN
  rw [List.any_eq_true]
  constructor
  · rintro ⟨i, hi, h⟩
    exact ⟨i, List.mem_range.mp hi, Bool.and_eq_true_iff.mp h⟩
  · rintro ⟨i, hi, h⟩
    exact ⟨i, List.mem_range.mpr hi, Bool.and_eq_true_iff.mpr h⟩
/-- the greatest lack: so many more numbers than what they are under -/
def IsDef (ss : List Spn) (k : Nat) : Prop := (∃ X, cnt ss.length X = k + cnt ss.length (dN ss X)) ∧ ∀ X, cnt ss.length X ≤ k + cnt ss.length (dN ss X)
def looseL (ss : List Spn) (F R : List Nat) : List Nat := (List.range ss.length).filter fun x => decide (x ∈ F) && !decide (x ∈ R)
theorem loose_def {ss : List Spn} {M : Mt} {C : Nat → Prop} {F R : List Nat} {a j : Nat} (f : FM ss M ss.length) (c : CT ss M C F R a j) (hC : Closed ss M C) (ha : F.length ≤ a) : IsDef ss (looseL ss F R).length := by
  have flt : ∀ x ∈ F, x < ss.length := fun x hx => by
    rcases (c.mem x).mp hx with h | ⟨r, hr, h⟩
    · exact (mem_free.mp h).1
    · exact (f.ok.ed r x h).2.1
  have done : ∀ x ∈ F, ∀ q, q < ss.length → underB ss x q = true → q ∈ R := fun x hx q hq hu => by
    obtain ⟨i, hi⟩ := List.mem_iff_getElem?.mp hx
    have := (List.getElem?_eq_some_iff.mp hi).1
    exact c.did i (by omega) x hi q hq hu
  have keyed : ∀ r ∈ R, ∃ u, (r, u) ∈ M := fun r hr => by
    obtain ⟨u, h, _⟩ := hC r (c.inC r hr)
    exact ⟨u, h⟩
  have sub : ∀ r ∈ R, r ∈ F := fun r hr => by
    by_cases h : r ∈ M.map (·.2)
    · obtain ⟨⟨q, r'⟩, hm, e⟩ := List.mem_map.mp h
      have e : r' = r := e
      subst e
      obtain ⟨hq, _, hu⟩ := f.ok.ed q r' hm
      obtain ⟨x, hx, hxr⟩ := c.src r' hr
      exact (c.mem r').mpr (.inr ⟨q, done x hx q hq (under_trans hxr hu), hm⟩)
    · exact (c.mem r).mpr (.inl (mem_free.mpr ⟨c.lt r hr, h⟩))
  have eN : cnt ss.length (dN ss fun x => decide (x ∈ F)) = R.length := cnt_list c.nd fun r => by
    rw [dN_iff]
    constructor
    · intro hr
      obtain ⟨x, hx, hu⟩ := c.src r hr
      exact ⟨c.lt r hr, x, flt x hx, decide_eq_true hx, hu⟩
    · rintro ⟨hr, x, _, hx, hu⟩
      exact done x (of_decide_eq_true hx) r hr hu
  have eS := cnt_split ss.length (fun x => decide (x ∈ F)) (fun x => decide (x ∈ R))
  have eR : cnt ss.length (fun x => decide (x ∈ F) && decide (x ∈ R)) = R.length := cnt_list c.nd fun r => by
    rw [Bool.and_eq_true_iff, decide_eq_true_iff, decide_eq_true_iff]
    exact ⟨fun h => ⟨c.lt r h, sub r h, h⟩, fun h => h.2.2⟩
  have eL : cnt ss.length (fun x => decide (x ∈ F) && !decide (x ∈ R)) = (looseL ss F R).length := rfl
  -- as many as are free
  have eF : cnt ss.length (fun x => decide (x ∈ F)) ≤ (free ss M).length + R.length := by
    rw [← c.len]
    have := len_sub (m := F) (cnt_nd ss.length fun x => decide (x ∈ F)) fun x hx => of_decide_eq_true (cnt_mem.mp hx).2
    exact this
  have eF2 : (free ss M).length + R.length ≤ cnt ss.length (fun x => decide (x ∈ F)) := by
    have s1 := cnt_split ss.length (fun x => decide (x ∈ F)) (isFree M)
    have s2 : cnt ss.length (fun x => decide (x ∈ F) && isFree M x) = (free ss M).length := cnt_congr fun x hx => by
      cases e : isFree M x with
      | false => rw [Bool.and_false]
      | true =>
        rw [Bool.and_true]
        exact decide_eq_true ((c.mem x).mpr (.inl (cnt_mem.mpr ⟨hx, e⟩)))
    have s3 : cnt ss.length (fun x => decide (x ∈ R)) ≤ cnt ss.length (fun x => decide (x ∈ F) && !isFree M x) := cnt_inj (fun x y => (x, y) ∈ M) (fun x hx hr => by
      obtain ⟨u, hu⟩ := keyed x (of_decide_eq_true hr)
      refine ⟨u, (f.ok.ed x u hu).2.1, ?_, hu⟩
      rw [Bool.and_eq_true_iff]
      refine ⟨decide_eq_true ((c.mem u).mpr (.inr ⟨x, of_decide_eq_true hr, hu⟩)), ?_⟩
      unfold isFree
      rw [decide_eq_false (fun h => h (List.mem_map.mpr ⟨_, hu, rfl⟩))]
      rfl) fun x z y h1 h2 => val_fun f.vnd h1 h2
    have s4 : cnt ss.length (fun x => decide (x ∈ R)) = R.length := cnt_list c.nd fun r => by
      rw [decide_eq_true_iff]
      exact ⟨fun h => ⟨c.lt r h, h⟩, fun h => h.2⟩
    omega
  refine ⟨⟨fun x => decide (x ∈ F), by omega⟩, fun X => ?_⟩
  have t1 := cnt_split ss.length X (isFree M)
  have t2 : cnt ss.length (fun x => X x && isFree M x) ≤ (free ss M).length := cnt_mono fun x _ h => (Bool.and_eq_true_iff.mp h).2
  have t3 : cnt ss.length (fun x => X x && !isFree M x) ≤ cnt ss.length (dN ss X) := cnt_inj (fun x y => (y, x) ∈ M) (fun x hx h => by
    obtain ⟨h1, h2⟩ := Bool.and_eq_true_iff.mp h
    have h3 : x ∈ M.map (·.2) := by
      unfold isFree at h2
      by_cases c : x ∈ M.map (·.2)
      · exact c
      · rw [decide_eq_true c] at h2
        cases h2
    obtain ⟨⟨y, x'⟩, hm, e⟩ := List.mem_map.mp h3
    have e : x' = x := e
    subst e
    obtain ⟨hy, _, hu⟩ := f.ok.ed y x' hm
    exact ⟨y, hy, dN_iff.mpr ⟨x', hx, h1, hu⟩, hm⟩) fun x z y h1 h2 => key_fun f.ok.nd h1 h2
  omega
theorem def_unique {ss : List Spn} {k l : Nat} (a : IsDef ss k) (b : IsDef ss l) : k = l := by
  obtain ⟨⟨X, hX⟩, hk⟩ := a
  obtain ⟨⟨Y, hY⟩, hl⟩ := b
  have := hl X
  have := hk Y
  omega
end Sh
end

section
/-! lanes: the best way from end to end, and what it says -/
namespace Sh
inductive Kd where
  | idle
  | back
  | on
  | off
structure Net where
  m : Nat
  arcs : List (Nat × Nat × Int)
  idle : List Int
  taken : List Bool
structure Ed where
  s : Nat
  v : Nat
  g : Int
  kd : Kd
  j : Nat
def Edge (D : Net) (e : Ed) : Prop :=
  match e.kd with
  | .idle => e.j < D.m ∧ e.s = e.j ∧ e.v = e.j + 1 ∧ e.g = 0
  | .back => e.j < D.m ∧ 0 < D.idle.getD e.j 0 ∧ e.s = e.j + 1 ∧ e.v = e.j ∧ e.g = 0
  | .on => ∃ a b w, D.arcs[e.j]? = some (a, b, w) ∧ D.taken.getD e.j false = false ∧ e.s = a ∧ e.v = b ∧ e.g = w
  | .off => ∃ a b w, D.arcs[e.j]? = some (a, b, w) ∧ D.taken.getD e.j false = true ∧ e.s = b ∧ e.v = a ∧ e.g = 0 - w
abbrev Sps := List (Option (Nat × Kd × Nat))
abbrev LSt := Bool × List Int × Sps
def leadE (st : LSt) (e : Ed) : LSt :=
  if st.2.1.getD e.s 0 + e.g ≤ st.2.1.getD e.v 0 then st else (true, st.2.1.set e.v (st.2.1.getD e.s 0 + e.g), st.2.2.set e.v (some (e.s, e.kd, e.j)))
def cellEds (D : Net) (c : Nat) : List Ed := ⟨c, c + 1, 0, .idle, c⟩ :: if 0 < D.idle.getD c 0 then [⟨c + 1, c, 0, .back, c⟩] else []
def arcEd (D : Net) (x : (Nat × Nat × Int) × Nat) : Ed := if D.taken.getD x.2 false = true then ⟨x.1.2.1, x.1.1, 0 - x.1.2.2, .off, x.2⟩ else ⟨x.1.1, x.1.2.1, x.1.2.2, .on, x.2⟩
def edsOf (D : Net) : List Ed := (List.range D.m).flatMap (cellEds D) ++ D.arcs.zipIdx.map (arcEd D)
theorem eds_ok {D : Net} {e : Ed} (h : e ∈ edsOf D) : Edge D e := by
  rcases List.mem_append.mp h with h | h
  · obtain ⟨c, hc, he⟩ := List.mem_flatMap.mp h
    have hc := List.mem_range.mp hc
    rcases List.mem_cons.mp he with e1 | e1
    · subst e1
      exact ⟨hc, rfl, rfl, rfl⟩
    · by_cases hp : 0 < D.idle.getD c 0
      · rw [if_pos hp] at e1
        have : e = ⟨c + 1, c, 0, .back, c⟩ := by simpa using e1
        subst this
        exact ⟨hc, hp, rfl, rfl, rfl⟩
      · rw [if_neg hp] at e1
        exact (List.not_mem_nil e1).elim
  · obtain ⟨⟨⟨a, b, w⟩, j⟩, hx, he⟩ := List.mem_map.mp h
    have hj := List.mem_zipIdx_iff_getElem?.mp hx
    unfold arcEd at he
    by_cases ht : D.taken.getD j false = true
    · rw [if_pos ht] at he
      subst he
      exact ⟨a, b, w, hj, ht, rfl, rfl, rfl⟩
    · rw [if_neg ht] at he
      subst he
      exact ⟨a, b, w, hj, by simpa using ht, rfl, rfl, rfl⟩
theorem eds_all {D : Net} {e : Ed} (h : Edge D e) : e ∈ edsOf D := by
  obtain ⟨s, v, g, kd, j⟩ := e
  unfold edsOf
  rw [List.mem_append]
  cases kd with
  | idle =>
    obtain ⟨h1, h2, h3, h4⟩ := h
    simp only at h1 h2 h3 h4
    subst h2 h3 h4
    exact .inl (List.mem_flatMap.mpr ⟨s, List.mem_range.mpr h1, List.mem_cons_self⟩)
  | back =>
    obtain ⟨h1, h0, h2, h3, h4⟩ := h
    simp only at h1 h0 h2 h3 h4
    subst h2 h3 h4
    refine .inl (List.mem_flatMap.mpr ⟨v, List.mem_range.mpr h1, List.mem_cons_of_mem _ ?_⟩)
    rw [if_pos h0]
    exact List.mem_singleton.mpr rfl
  | on =>
    obtain ⟨a, b, w, h1, h0, h2, h3, h4⟩ := h
    simp only at h1 h0 h2 h3 h4
    subst h2 h3 h4
    refine .inr (List.mem_map.mpr ⟨((s, v, g), j), List.mem_zipIdx_iff_getElem?.mpr h1, ?_⟩)
    unfold arcEd
    rw [if_neg (by rw [h0]; decide)]
  | off =>
    obtain ⟨a, b, w, h1, h0, h2, h3, h4⟩ := h
    simp only at h1 h0 h2 h3 h4
    subst h2 h3 h4
    refine .inr (List.mem_map.mpr ⟨((v, s, w), j), List.mem_zipIdx_iff_getElem?.mpr h1, ?_⟩)
    unfold arcEd
    rw [if_pos h0]
def Feas (D : Net) (p : Nat → Int) : Prop := ∀ e, Edge D e → p e.s + e.g ≤ p e.v
/-- the nodes of edges are nodes -/
def Nodes (D : Net) (n : Nat) : Prop := ∀ e, Edge D e → e.s < n ∧ e.v < n
structure LI (D : Net) (n : Nat) (p : Nat → Int) (far : List Int) (sp : Sps) (rk : Nat → Nat) : Prop where
  fl : far.length = n
  sl : n ≤ sp.length
  lo : ∀ v, v < n → 0 ≤ far.getD v 0
  hi : ∀ v, v < n → far.getD v 0 ≤ p v
  z : sp[0]? = some none
  pt : ∀ v, 0 < v → v < n → ∃ e, Edge D e ∧ e.v = v ∧ sp[v]? = some (some (e.s, e.kd, e.j)) ∧ far.getD v 0 ≤ far.getD e.s 0 + e.g ∧ rk e.s < rk v
inductive Reach (sp : Sps) : Nat → Nat → Prop where
  | refl (x : Nat) : Reach sp x x
  | step {x p y : Nat} {kd : Kd} {j : Nat} (h : sp[x]? = some (some (p, kd, j))) (r : Reach sp p y) : Reach sp x y
theorem getD_setI {f : List Int} {k i : Nat} {x : Int} (hk : k < f.length) : (f.set k x).getD i 0 = if i = k then x else f.getD i 0 := getD_set hk
theorem reach_slack {D : Net} {n : Nat} {p : Nat → Int} {far : List Int} {sp : Sps} {rk : Nat → Nat} (F : Feas D p) (N : Nodes D n) (I : LI D n p far sp rk) {x y : Nat} (r : Reach sp x y) : x < n → p y - far.getD y 0 ≤ p x - far.getD x 0 := by
  induction r with
  | refl x => exact fun _ => Int.le_refl _
  | step h r ih =>
    rename_i x q y kd j
    intro hx
    have h0 : 0 < x := by
      rcases Nat.eq_zero_or_pos x with e | e
      · subst e
        rw [I.z] at h
        cases h
      · exact e
    obtain ⟨e, E, ev, hs, hf, _⟩ := I.pt x h0 hx
    rw [h] at hs
    have e1 : q = e.s := (Prod.mk.inj (Option.some.inj (Option.some.inj hs))).1
    have h2 := F e E
    have h3 := ih (by rw [e1]; exact (N e E).1)
    rw [ev] at h2
    rw [e1] at h3
    omega
open Classical in
theorem li_lead {D : Net} {n : Nat} {p : Nat → Int} {far : List Int} {sp : Sps} {rk : Nat → Nat} (F : Feas D p) (N : Nodes D n) (h0 : p 0 = 0) (I : LI D n p far sp rk) (b : Bool) {e : Ed} (E : Edge D e) : ∃ rk', LI D n p (leadE (b, far, sp) e).2.1 (leadE (b, far, sp) e).2.2 rk' := by
  unfold leadE
  by_cases c : far.getD e.s 0 + e.g ≤ far.getD e.v 0
  · exact ⟨rk, by rw [if_pos c]; exact I⟩
  · rw [if_neg c]
    simp only
    obtain ⟨hs, hv⟩ := N e E
    have hF := F e E
    have v0 : 0 < e.v := by
      rcases Nat.eq_zero_or_pos e.v with z | z
      · have a1 := I.lo e.v hv
        have a2 := I.hi e.s hs
        rw [z] at hF c a1
        omega
      · exact z
    have nr : ¬ Reach sp e.s e.v := fun r => by
      have := reach_slack F N I r hs
      omega
    have nsv : e.s ≠ e.v := fun z => nr (by rw [z]; exact .refl _)
    have vl : e.v < far.length := by rw [I.fl]; exact hv
    have gf : ∀ i, (far.set e.v (far.getD e.s 0 + e.g)).getD i 0 = if i = e.v then far.getD e.s 0 + e.g else far.getD i 0 := fun i => getD_setI vl
    have vs : e.v < sp.length := Nat.lt_of_lt_of_le hv I.sl
    refine ⟨fun x => if Reach sp x e.v then rk x + rk e.s + 1 else rk x, ?_, ?_, fun x hx => ?_, fun x hx => ?_, ?_, fun x hx0 hx => ?_⟩
    · rw [List.length_set]
      exact I.fl
    · rw [List.length_set]
      exact I.sl
    · rw [gf]
      have := I.lo e.v hv
      have := I.lo x hx
      split <;> omega
    · rw [gf]
      have := I.hi e.s hs
      have := I.hi x hx
      split
      · rename_i z
        rw [z]
        omega
      · omega
    · rw [List.getElem?_set_ne (by omega)]
      exact I.z
    · by_cases z : x = e.v
      · subst z
        refine ⟨e, E, rfl, by rw [List.getElem?_set_self vs], ?_, ?_⟩
        · rw [gf, gf, if_pos rfl, if_neg nsv]
          omega
        · show (if Reach sp e.s e.v then rk e.s + rk e.s + 1 else rk e.s) < (if Reach sp e.v e.v then rk e.v + rk e.s + 1 else rk e.v)
          rw [if_neg nr, if_pos (Reach.refl _)]
          omega
      · obtain ⟨e2, E2, ev2, hs2, hf2, hr2⟩ := I.pt x hx0 hx
        refine ⟨e2, E2, ev2, by rw [List.getElem?_set_ne (Ne.symm z)]; exact hs2, ?_, ?_⟩
        · rw [gf, gf, if_neg z]
          split
          · rename_i y
            rw [y] at hf2
            omega
          · exact hf2
        · show (if Reach sp e2.s e.v then rk e2.s + rk e.s + 1 else rk e2.s) < (if Reach sp x e.v then rk x + rk e.s + 1 else rk x)
          by_cases r2 : Reach sp e2.s e.v
          · rw [if_pos r2, if_pos (Reach.step hs2 r2)]
            omega
          · rw [if_neg r2]
            split <;> omega
theorem li_fold {D : Net} {n : Nat} {p : Nat → Int} (F : Feas D p) (N : Nodes D n) (h0 : p 0 = 0) : ∀ (es : List Ed) (st : LSt) (rk : Nat → Nat), (∀ e ∈ es, Edge D e) → LI D n p st.2.1 st.2.2 rk → ∃ rk', LI D n p (es.foldl leadE st).2.1 (es.foldl leadE st).2.2 rk'
  | [], st, rk, _, I => ⟨rk, I⟩
  | e :: es, st, rk, h, I => by
    obtain ⟨b, far, sp⟩ := st
    obtain ⟨rk1, I1⟩ := li_lead F N h0 I b (h e List.mem_cons_self)
    exact li_fold F N h0 es _ rk1 (fun x hx => h x (List.mem_cons_of_mem _ hx)) I1
theorem fold_true : ∀ (es : List Ed) (st : LSt), st.1 = true → (es.foldl leadE st).1 = true
  | [], st, h => h
  | e :: es, st, h => fold_true es _ (by
    unfold leadE
    split
    · exact h
    · rfl)
theorem fold_false : ∀ (es : List Ed) (st : LSt), (es.foldl leadE st).1 = false → es.foldl leadE st = st ∧ ∀ e ∈ es, st.2.1.getD e.s 0 + e.g ≤ st.2.1.getD e.v 0
  | [], st, h => ⟨rfl, fun _ h => (List.not_mem_nil h).elim⟩
  | e :: es, st, h => by
    rw [List.foldl_cons] at h ⊢
    by_cases c : st.2.1.getD e.s 0 + e.g ≤ st.2.1.getD e.v 0
    · have e1 : leadE st e = st := if_pos c
      rw [e1] at h ⊢
      obtain ⟨a, b⟩ := fold_false es st h
      refine ⟨a, fun x hx => ?_⟩
      rcases List.mem_cons.mp hx with z | z
      · rw [z]
        exact c
      · exact b x z
    · have e1 : (leadE st e).1 = true := by
        unfold leadE
        rw [if_neg c]
      rw [fold_true es _ e1] at h
      cases h
theorem sum_set {x : Int} : ∀ {l : List Int} {k : Nat}, k < l.length → (l.set k x).sum = l.sum - l.getD k 0 + x
  | [], k, h => absurd h (Nat.not_lt_zero k)
  | y :: l, 0, _ => by
    simp only [List.set_cons_zero, List.sum_cons, List.getD_cons_zero]
    omega
  | y :: l, k + 1, h => by
    have := sum_set (x := x) (l := l) (k := k) (by simpa using h)
    simp only [List.set_cons_succ, List.sum_cons, List.getD_cons_succ, this]
    omega
theorem fold_sum : ∀ (es : List Ed) (st : LSt), (∀ e ∈ es, e.v < st.2.1.length) → st.2.1.sum ≤ (es.foldl leadE st).2.1.sum ∧ (st.1 = false → (es.foldl leadE st).1 = true → st.2.1.sum < (es.foldl leadE st).2.1.sum) ∧ (es.foldl leadE st).2.1.length = st.2.1.length
  | [], st, _ => by
    refine ⟨Int.le_refl _, fun a b => ?_, rfl⟩
    rw [List.foldl_nil, a] at b
    cases b
  | e :: es, st, h => by
    rw [List.foldl_cons]
    by_cases c : st.2.1.getD e.s 0 + e.g ≤ st.2.1.getD e.v 0
    · have e1 : leadE st e = st := if_pos c
      rw [e1]
      exact fold_sum es st fun x hx => h x (List.mem_cons_of_mem _ hx)
    · have e1 : leadE st e = (true, st.2.1.set e.v (st.2.1.getD e.s 0 + e.g), st.2.2.set e.v (some (e.s, e.kd, e.j))) := if_neg c
      obtain ⟨a, _, d⟩ := fold_sum es (leadE st e) fun x hx => by
        rw [e1, List.length_set]
        exact h x (List.mem_cons_of_mem _ hx)
      have e2 : (leadE st e).2.1.sum = st.2.1.sum - st.2.1.getD e.v 0 + (st.2.1.getD e.s 0 + e.g) := by
        rw [e1]
        exact sum_set (h e List.mem_cons_self)
      refine ⟨by omega, fun _ _ => by omega, ?_⟩
      rw [d, e1]
      exact List.length_set
theorem sum_le : ∀ {l : List Int} {p : Nat → Int} (k : Nat), (∀ v, v < l.length → l.getD v 0 ≤ p (k + v)) → l.sum ≤ ((List.range l.length).map fun v => p (k + v)).sum
  | [], _, _, _ => Int.le_refl _
  | x :: l, p, k, h => by
    have a := h 0 (by simp)
    have b := sum_le (l := l) (p := p) (k + 1) fun v hv => by
      have := h (v + 1) (by simpa using hv)
      rw [List.getD_cons_succ] at this
      rw [show k + 1 + v = k + (v + 1) by omega]
      exact this
    rw [List.length_cons, List.range_succ_eq_map, List.map_cons, List.sum_cons, List.sum_cons, List.map_map]
    have e : (List.range l.length).map ((fun v => p (k + v)) ∘ Nat.succ) = (List.range l.length).map fun v => p (k + 1 + v) := List.map_congr_left fun v _ => by
      show p (k + (v + 1)) = _
      rw [show k + (v + 1) = k + 1 + v by omega]
    rw [e]
    rw [List.getD_cons_zero] at a
    omega
def psum (n : Nat) (p : Nat → Int) : Int := ((List.range n).map p).sum
theorem LI.sum {D : Net} {n : Nat} {p : Nat → Int} {far : List Int} {sp : Sps} {rk : Nat → Nat} (I : LI D n p far sp rk) : far.sum ≤ psum n p := by
  have := sum_le (l := far) (p := p) 0 fun v hv => by
    rw [Nat.zero_add]
    exact I.hi v (by rw [← I.fl]; exact hv)
  simp only [Nat.zero_add] at this
  rw [I.fl] at this
  exact this
/-- what look leaves -/
structure Seen (D : Net) (n : Nat) (far : List Int) (sp : Sps) (rk : Nat → Nat) : Prop where
  fl : far.length = n
  sl : n ≤ sp.length
  feas : Feas D fun v => far.getD v 0
  z0 : 0 < n → far.getD 0 0 = 0
  pt : ∀ v, 0 < v → v < n → ∃ e, Edge D e ∧ e.v = v ∧ sp[v]? = some (some (e.s, e.kd, e.j)) ∧ far.getD v 0 = far.getD e.s 0 + e.g ∧ rk e.s < rk v
theorem seen_of {D : Net} {n : Nat} {p : Nat → Int} {far : List Int} {sp : Sps} {rk : Nat → Nat} {b : Bool} (h0 : p 0 = 0) (I : LI D n p far sp rk) (h : ((edsOf D).foldl leadE (b, far, sp)).1 = false) : Seen D n far sp rk := by
  obtain ⟨_, h2⟩ := fold_false _ _ h
  have fe : Feas D fun v => far.getD v 0 := fun e E => h2 e (eds_all E)
  refine ⟨I.fl, I.sl, fe, fun hn => ?_, fun v hv0 hv => ?_⟩
  · have a := I.lo 0 hn
    have b := I.hi 0 hn
    omega
  · obtain ⟨e, E, ev, hs, hf, hr⟩ := I.pt v hv0 hv
    refine ⟨e, E, ev, hs, ?_, hr⟩
    have h3 := fe e E
    simp only at h3
    rw [ev] at h3
    omega
/-- before: all zero, each node from the one ahead -/
def step0 (m : Nat) : Sps := none :: (List.range m).map fun c => some (c, Kd.idle, c)
theorem li_start {D : Net} {n : Nat} {p : Nat → Int} (hn : n ≤ D.m + 1) (F : Feas D p) (h0 : p 0 = 0) : LI D n p (List.replicate n 0) (step0 D.m) id := by
  have g : ∀ v, (List.replicate n (0 : Int)).getD v 0 = 0 := fun v => by
    rw [List.getD_eq_getElem?_getD, List.getElem?_replicate]
    split <;> rfl
  have mono : ∀ v, v < n → 0 ≤ p v := fun v => by
    induction v with
    | zero => exact fun _ => by omega
    | succ v ih =>
      intro hv
      have := F ⟨v, v + 1, 0, .idle, v⟩ ⟨by show v < D.m; omega, rfl, rfl, rfl⟩
      simp only at this
      have := ih (by omega)
      omega
  refine ⟨List.length_replicate, ?_, fun v _ => by rw [g]; exact Int.le_refl _, fun v hv => by rw [g]; exact mono v hv, rfl, fun v hv0 hv => ?_⟩
  · unfold step0
    rw [List.length_cons, List.length_map, List.length_range]
    exact hn
  · obtain ⟨c, rfl⟩ : ∃ c, v = c + 1 := ⟨v - 1, by omega⟩
    refine ⟨⟨c, c + 1, 0, .idle, c⟩, ⟨by show c < D.m; omega, rfl, rfl, rfl⟩, rfl, ?_, by rw [g, g]; exact Int.le_refl _, Nat.lt_succ_self c⟩
    unfold step0
    rw [List.getElem?_cons_succ, List.getElem?_map, List.getElem?_range (by omega)]
    rfl
/-! ### a lane is taken -/
def arcOver (x : Nat × Nat × Int) (c : Nat) : Bool := decide (x.1 ≤ c ∧ c < x.2.1)
def overB (arcs : List (Nat × Nat × Int)) (i c : Nat) : Bool := match arcs[i]? with
  | some x => arcOver x c
  | none => false
/-- how many of the taken lie over a cell -/
def cov (arcs : List (Nat × Nat × Int)) (tk : Nat → Bool) (c : Nat) : Nat := cnt arcs.length fun i => tk i && overB arcs i c
abbrev tkF (taken : List Bool) (i : Nat) : Bool := taken.getD i false
structure TI (D : Net) (n : Nat) (far : List Int) (rk : Nat → Nat) (u : Nat) (idle : List Int) (taken : List Bool) : Prop where
  hu : u < n
  il : idle.length = D.m
  tl : taken.length = D.arcs.length
  tot : ∀ c, c < D.m → idle.getD c 0 + (cov D.arcs (tkF taken) c : Int) = D.idle.getD c 0 + (cov D.arcs (tkF D.taken) c : Int) + (if u ≤ c then 1 else 0)
  f2 : ∀ c, c < D.m → 0 < idle.getD c 0 → far.getD (c + 1) 0 ≤ far.getD c 0
  f3 : ∀ (i a b : Nat) (w : Int), D.arcs[i]? = some (a, b, w) → if tkF taken i = true then far.getD b 0 ≤ far.getD a 0 + w else far.getD a 0 + w ≤ far.getD b 0
  nn : ∀ c, c < D.m → 0 ≤ idle.getD c 0 ∧ (D.idle.getD c 0 ≤ idle.getD c 0 ∨ rk u < rk c)
  tk : ∀ (i a b : Nat) (w : Int), D.arcs[i]? = some (a, b, w) → tkF taken i = tkF D.taken i ∨ rk u < rk (if tkF D.taken i = true then a else b)
structure NetOk (D : Net) (n : Nat) : Prop where
  nm : n = D.m + 1
  il : D.idle.length = D.m
  tl : D.taken.length = D.arcs.length
  arc : ∀ (i a b : Nat) (w : Int), D.arcs[i]? = some (a, b, w) → a < b ∧ b ≤ D.m
  nn : ∀ c, c < D.m → 0 ≤ D.idle.getD c 0
theorem netNodes {D : Net} {n : Nat} (O : NetOk D n) : Nodes D n := fun e E => by
  have nm := O.nm
  obtain ⟨s, v, g, kd, j⟩ := e
  cases kd with
  | idle =>
    obtain ⟨h1, h2, h3, h4⟩ := E
    simp only at h1 h2 h3 h4 ⊢
    omega
  | back =>
    obtain ⟨h1, _, h2, h3, h4⟩ := E
    simp only at h1 h2 h3 h4 ⊢
    omega
  | on =>
    obtain ⟨a, b, w, h1, h0, h2, h3, h4⟩ := E
    have := O.arc _ _ _ _ h1
    simp only at h2 h3 ⊢
    omega
  | off =>
    obtain ⟨a, b, w, h1, h0, h2, h3, h4⟩ := E
    have := O.arc _ _ _ _ h1
    simp only at h2 h3 ⊢
    omega
theorem ti_start {D : Net} {n : Nat} {far : List Int} {sp : Sps} {rk : Nat → Nat} (O : NetOk D n) (S : Seen D n far sp rk) : TI D n far rk (n - 1) D.idle D.taken where
  hu := by have := O.nm; omega
  il := O.il
  tl := O.tl
  tot := fun c hc => by
    rw [if_neg (by have := O.nm; omega)]
    omega
  f2 := fun c hc hp => by
    have := S.feas ⟨c + 1, c, 0, .back, c⟩ ⟨hc, hp, rfl, rfl, rfl⟩
    simp only at this
    omega
  f3 := fun i a b w h => by
    by_cases t : tkF D.taken i = true
    · rw [if_pos t]
      have := S.feas ⟨b, a, 0 - w, .off, i⟩ ⟨a, b, w, h, t, rfl, rfl, rfl⟩
      simp only at this
      omega
    · rw [if_neg t]
      exact S.feas ⟨a, b, w, .on, i⟩ ⟨a, b, w, h, by simpa using t, rfl, rfl, rfl⟩
  nn := fun c hc => ⟨O.nn c hc, .inl (Int.le_refl _)⟩
  tk := fun i a b w h => .inl rfl
theorem getD_setB {f : List Bool} {k i : Nat} {x : Bool} (hk : k < f.length) : (f.set k x).getD i false = if i = k then x else f.getD i false := by
  rw [List.getD_eq_getElem?_getD, List.getD_eq_getElem?_getD]
  by_cases e : i = k
  · subst e
    rw [List.getElem?_set_self hk, if_pos rfl, Option.getD_some]
  · rw [List.getElem?_set_ne (Ne.symm e), if_neg e]
/-- one more is counted -/
theorem cnt_flip {n j : Nat} {P Q : Nat → Bool} (hj : j < n) (hp : P j = false) (hq : Q j = true) (h : ∀ i, i ≠ j → Q i = P i) : cnt n Q = cnt n P + 1 := by
  have a := cnt_split n Q fun i => decide (i = j)
  have b : cnt n (fun i => Q i && decide (i = j)) = 1 := cnt_list (l := [j]) (by simp) fun x => by
    rw [List.mem_singleton, Bool.and_eq_true_iff, decide_eq_true_iff]
    exact ⟨fun e => by rw [e]; exact ⟨hj, hq, rfl⟩, fun e => e.2.2⟩
  have d : cnt n (fun i => Q i && !decide (i = j)) = cnt n P := cnt_congr fun i _ => by
    by_cases e : i = j
    · subst e
      simp [hp]
    · simp [e, h i e]
  omega
theorem overB_at {arcs : List (Nat × Nat × Int)} {j a b c : Nat} {w : Int} (h : arcs[j]? = some (a, b, w)) : overB arcs j c = decide (a ≤ c ∧ c < b) := by
  unfold overB
  rw [h]
  rfl
theorem cov_on {arcs : List (Nat × Nat × Int)} {taken : List Bool} {j a b c : Nat} {w : Int} (tl : taken.length = arcs.length) (h : arcs[j]? = some (a, b, w)) (t : tkF taken j = false) : cov arcs (tkF (taken.set j true)) c = cov arcs (tkF taken) c + (if a ≤ c ∧ c < b then 1 else 0) := by
  have hj : j < arcs.length := (List.getElem?_eq_some_iff.mp h).1
  have g : ∀ i, tkF (taken.set j true) i = if i = j then true else tkF taken i := fun i => getD_setB (by omega)
  unfold cov
  by_cases o : a ≤ c ∧ c < b
  · rw [if_pos o]
    refine cnt_flip hj (by rw [t]; rfl) (by rw [g, if_pos rfl, overB_at h, decide_eq_true o]; rfl) fun i hi => by rw [g, if_neg hi]
  · rw [if_neg o]
    refine cnt_congr fun i _ => ?_
    rw [g]
    by_cases e : i = j
    · subst e
      rw [overB_at h, decide_eq_false o, Bool.and_false, Bool.and_false]
    · rw [if_neg e]
theorem cov_off {arcs : List (Nat × Nat × Int)} {taken : List Bool} {j a b c : Nat} {w : Int} (tl : taken.length = arcs.length) (h : arcs[j]? = some (a, b, w)) (t : tkF taken j = true) : cov arcs (tkF taken) c = cov arcs (tkF (taken.set j false)) c + (if a ≤ c ∧ c < b then 1 else 0) := by
  have hj : j < arcs.length := (List.getElem?_eq_some_iff.mp h).1
  have g : ∀ i, tkF (taken.set j false) i = if i = j then false else tkF taken i := fun i => getD_setB (by omega)
  unfold cov
  by_cases o : a ≤ c ∧ c < b
  · rw [if_pos o]
    refine cnt_flip hj (by rw [g, if_pos rfl]; rfl) (by rw [t, overB_at h, decide_eq_true o]; rfl) fun i hi => by rw [g, if_neg hi]
  · rw [if_neg o]
    refine cnt_congr fun i _ => ?_
    rw [g]
    by_cases e : i = j
    · subst e
      rw [overB_at h, decide_eq_false o, Bool.and_false, Bool.and_false]
    · rw [if_neg e]
end Sh
end

section
/-! lanes: taking one, and that the end is best -/
namespace Sh
def takeI (idle : List Int) (kd : Kd) (j : Nat) : List Int :=
  match kd with
  | .idle => idle.set j (idle.getD j 0 + 1)
  | .back => idle.set j (idle.getD j 0 - 1)
  | _ => idle
def takeT (taken : List Bool) (kd : Kd) (j : Nat) : List Bool :=
  match kd with
  | .on => taken.set j true
  | .off => taken.set j false
  | _ => taken
theorem ti_step {D : Net} {n : Nat} {far : List Int} {sp : Sps} {rk : Nat → Nat} {u : Nat} {idle : List Int} {taken : List Bool} (O : NetOk D n) (S : Seen D n far sp rk) (I : TI D n far rk u idle taken) {e : Ed} (E : Edge D e) (ev : e.v = u)
    (hf : far.getD u 0 = far.getD e.s 0 + e.g) (hr : rk e.s < rk u) : TI D n far rk e.s (takeI idle e.kd e.j) (takeT taken e.kd e.j) := by
  have hs := (netNodes O e E).1
  obtain ⟨s, v, g, kd, j⟩ := e
  simp only at ev hf hr hs ⊢
  subst ev
  have nn2 : ∀ c, c < D.m → D.idle.getD c 0 ≤ idle.getD c 0 ∨ rk s < rk c := fun c hc => (I.nn c hc).2.elim .inl fun h => .inr (by omega)
  have tk2 : ∀ (i a b : Nat) (w : Int), D.arcs[i]? = some (a, b, w) → tkF taken i = tkF D.taken i ∨ rk s < rk (if tkF D.taken i = true then a else b) := fun i a b w h => (I.tk i a b w h).elim .inl fun h => .inr (by omega)
  cases kd with
  | idle =>
    obtain ⟨h1, h2, h3, h4⟩ := E
    simp only at h1 h2 h3 h4
    subst h2 h3 h4
    have hj : s < idle.length := by rw [I.il]; exact h1
    have gi : ∀ c, (idle.set s (idle.getD s 0 + 1)).getD c 0 = if c = s then idle.getD s 0 + 1 else idle.getD c 0 := fun c => getD_set hj
    refine ⟨hs, by show (idle.set _ _).length = _; rw [List.length_set]; exact I.il, I.tl, fun c hc => ?_, fun c hc hp => ?_, I.f3, fun c hc => ?_, tk2⟩
    · show (idle.set s (idle.getD s 0 + 1)).getD c 0 + (cov D.arcs (tkF taken) c : Int) = _
      have := I.tot c hc
      rw [gi]
      by_cases e1 : c = s
      · subst e1
        rw [if_neg (by omega)] at this
        rw [if_pos rfl, if_pos (Nat.le_refl _)]
        omega
      · rw [if_neg e1]
        by_cases e2 : s ≤ c
        · rw [if_pos (by omega)] at this
          rw [if_pos e2]
          exact this
        · rw [if_neg (by omega)] at this
          rw [if_neg e2]
          exact this
    · have hp : 0 < (idle.set s (idle.getD s 0 + 1)).getD c 0 := hp
      rw [gi] at hp
      by_cases e1 : c = s
      · subst e1
        omega
      · rw [if_neg e1] at hp
        exact I.f2 c hc hp
    · show 0 ≤ (idle.set s (idle.getD s 0 + 1)).getD c 0 ∧ (D.idle.getD c 0 ≤ (idle.set s (idle.getD s 0 + 1)).getD c 0 ∨ _)
      rw [gi]
      have a1 := (I.nn c hc).1
      have a2 := nn2 c hc
      by_cases e1 : c = s
      · subst e1
        rw [if_pos rfl]
        exact ⟨by omega, a2.elim (fun h => .inl (by omega)) .inr⟩
      · rw [if_neg e1]
        exact ⟨a1, a2⟩
  | back =>
    obtain ⟨h1, h0, h2, h3, h4⟩ := E
    simp only at h1 h0 h2 h3 h4
    subst h2 h3 h4
    have hj : v < idle.length := by rw [I.il]; exact h1
    have gi : ∀ c, (idle.set v (idle.getD v 0 - 1)).getD c 0 = if c = v then idle.getD v 0 - 1 else idle.getD c 0 := fun c => getD_set hj
    have big : D.idle.getD v 0 ≤ idle.getD v 0 := (I.nn v h1).2.elim id fun h => absurd h (Nat.lt_irrefl _)
    refine ⟨hs, by show (idle.set _ _).length = _; rw [List.length_set]; exact I.il, I.tl, fun c hc => ?_, fun c hc hp => ?_, I.f3, fun c hc => ?_, tk2⟩
    · show (idle.set v (idle.getD v 0 - 1)).getD c 0 + (cov D.arcs (tkF taken) c : Int) = _
      have := I.tot c hc
      rw [gi]
      by_cases e1 : c = v
      · subst e1
        rw [if_pos (Nat.le_refl _)] at this
        rw [if_pos rfl, if_neg (by omega)]
        omega
      · rw [if_neg e1]
        by_cases e2 : v + 1 ≤ c
        · rw [if_pos (by omega)] at this
          rw [if_pos e2]
          exact this
        · rw [if_neg (by omega)] at this
          rw [if_neg e2]
          exact this
    · have hp : 0 < (idle.set v (idle.getD v 0 - 1)).getD c 0 := hp
      rw [gi] at hp
      by_cases e1 : c = v
      · subst e1
        omega
      · rw [if_neg e1] at hp
        exact I.f2 c hc hp
    · show 0 ≤ (idle.set v (idle.getD v 0 - 1)).getD c 0 ∧ (D.idle.getD c 0 ≤ (idle.set v (idle.getD v 0 - 1)).getD c 0 ∨ _)
      rw [gi]
      have a1 := (I.nn c hc).1
      have a2 := nn2 c hc
      by_cases e1 : c = v
      · subst e1
        rw [if_pos rfl]
        exact ⟨by omega, .inr hr⟩
      · rw [if_neg e1]
        exact ⟨a1, a2⟩
  | on =>
    obtain ⟨a, b, w, h1, h0, h2, h3, h4⟩ := E
    simp only at h1 h0 h2 h3 h4
    subst h2 h3 h4
    have hj : j < taken.length := by
      rw [I.tl]
      exact (List.getElem?_eq_some_iff.mp h1).1
    have ht : tkF taken j = false := by
      rcases I.tk j _ _ _ h1 with e1 | e1
      · rw [e1]
        exact h0
      · have h0 : tkF D.taken j = false := h0
        rw [if_neg (by rw [h0]; decide)] at e1
        exact absurd e1 (Nat.lt_irrefl _)
    have gt : ∀ i, tkF (taken.set j true) i = if i = j then true else tkF taken i := fun i => getD_setB hj
    refine ⟨hs, I.il, by show (taken.set _ _).length = _; rw [List.length_set]; exact I.tl, fun c hc => ?_, I.f2, fun i a b w h => ?_, fun c hc => ⟨(I.nn c hc).1, nn2 c hc⟩, fun i a b w h => ?_⟩
    · show _ + (cov D.arcs (tkF (taken.set j true)) c : Int) = _
      have h5 := cov_on (c := c) I.tl h1 ht
      have := I.tot c hc
      have hab := O.arc _ _ _ _ h1
      by_cases e1 : s ≤ c
      · by_cases e2 : v ≤ c
        · rw [if_neg (by omega)] at h5
          rw [if_pos e2] at this
          rw [if_pos e1]
          show idle.getD c 0 + _ = _
          omega
        · rw [if_pos (by omega)] at h5
          rw [if_neg e2] at this
          rw [if_pos e1]
          show idle.getD c 0 + _ = _
          omega
      · rw [if_neg (by omega)] at h5
        rw [if_neg (by omega)] at this
        rw [if_neg e1]
        show idle.getD c 0 + _ = _
        omega
    · show if tkF (taken.set j true) i = true then _ else _
      rw [gt]
      by_cases e1 : i = j
      · subst e1
        rw [h1] at h
        obtain ⟨rfl, hq⟩ := Prod.mk.inj (Option.some.inj h)
        obtain ⟨rfl, rfl⟩ := Prod.mk.inj hq
        rw [if_pos rfl, if_pos rfl]
        omega
      · rw [if_neg e1]
        exact I.f3 i a b w h
    · show tkF (taken.set j true) i = _ ∨ _
      rw [gt]
      by_cases e1 : i = j
      · subst e1
        rw [h1] at h
        obtain ⟨rfl, hq⟩ := Prod.mk.inj (Option.some.inj h)
        obtain ⟨rfl, rfl⟩ := Prod.mk.inj hq
        refine .inr ?_
        have h0 : tkF D.taken i = false := h0
        rw [if_neg (by rw [h0]; decide)]
        exact hr
      · rw [if_neg e1]
        exact tk2 i a b w h
  | off =>
    obtain ⟨a, b, w, h1, h0, h2, h3, h4⟩ := E
    simp only at h1 h0 h2 h3 h4
    subst h2 h3 h4
    have hj : j < taken.length := by
      rw [I.tl]
      exact (List.getElem?_eq_some_iff.mp h1).1
    have ht : tkF taken j = true := by
      rcases I.tk j _ _ _ h1 with e1 | e1
      · rw [e1]
        exact h0
      · have h0 : tkF D.taken j = true := h0
        rw [if_pos h0] at e1
        exact absurd e1 (Nat.lt_irrefl _)
    have gt : ∀ i, tkF (taken.set j false) i = if i = j then false else tkF taken i := fun i => getD_setB hj
    refine ⟨hs, I.il, by show (taken.set _ _).length = _; rw [List.length_set]; exact I.tl, fun c hc => ?_, I.f2, fun i a b w h => ?_, fun c hc => ⟨(I.nn c hc).1, nn2 c hc⟩, fun i a b w h => ?_⟩
    · show _ + (cov D.arcs (tkF (taken.set j false)) c : Int) = _
      have h5 := cov_off (c := c) I.tl h1 ht
      have := I.tot c hc
      have hab := O.arc _ _ _ _ h1
      by_cases e1 : v ≤ c
      · by_cases e2 : s ≤ c
        · rw [if_neg (by omega)] at h5
          rw [if_pos e1] at this
          rw [if_pos e2]
          show idle.getD c 0 + _ = _
          omega
        · rw [if_pos (by omega)] at h5
          rw [if_pos e1] at this
          rw [if_neg e2]
          show idle.getD c 0 + _ = _
          omega
      · rw [if_neg (by omega)] at h5
        rw [if_neg e1] at this
        rw [if_neg (by omega)]
        show idle.getD c 0 + _ = _
        omega
    · show if tkF (taken.set j false) i = true then _ else _
      rw [gt]
      by_cases e1 : i = j
      · subst e1
        rw [h1] at h
        obtain ⟨rfl, hq⟩ := Prod.mk.inj (Option.some.inj h)
        obtain ⟨rfl, rfl⟩ := Prod.mk.inj hq
        rw [if_pos rfl, if_neg (by decide)]
        omega
      · rw [if_neg e1]
        exact I.f3 i a b w h
    · show tkF (taken.set j false) i = _ ∨ _
      rw [gt]
      by_cases e1 : i = j
      · subst e1
        rw [h1] at h
        obtain ⟨rfl, hq⟩ := Prod.mk.inj (Option.some.inj h)
        obtain ⟨rfl, rfl⟩ := Prod.mk.inj hq
        refine .inr ?_
        have h0 : tkF D.taken i = true := h0
        rw [if_pos h0]
        exact hr
      · rw [if_neg e1]
        exact tk2 i a b w h
/-- as many over each cell, idle or taken -/
def Flow (D : Net) (many : Int) : Prop := ∀ c, c < D.m → D.idle.getD c 0 + (cov D.arcs (tkF D.taken) c : Int) = many
def Net.next (D : Net) (idle : List Int) (taken : List Bool) : Net := ⟨D.m, D.arcs, idle, taken⟩
theorem ti_end {D : Net} {n : Nat} {far : List Int} {rk : Nat → Nat} {idle : List Int} {taken : List Bool} {many : Int} (O : NetOk D n) (f : Flow D many) (I : TI D n far rk 0 idle taken) (fm : ∀ c, c < D.m → far.getD c 0 ≤ far.getD (c + 1) 0) :
    NetOk (D.next idle taken) n ∧ Flow (D.next idle taken) (many + 1) ∧ Feas (D.next idle taken) fun v => far.getD v 0 := by
  refine ⟨⟨O.nm, I.il, I.tl, O.arc, fun c hc => (I.nn c hc).1⟩, fun c hc => ?_, fun e E => ?_⟩
  · have a := I.tot c hc
    have b := f c hc
    rw [if_pos (Nat.zero_le _)] at a
    show idle.getD c 0 + (cov D.arcs (tkF taken) c : Int) = many + 1
    omega
  · obtain ⟨s, v, g, kd, j⟩ := e
    cases kd with
    | idle =>
      obtain ⟨h1, h2, h3, h4⟩ := E
      simp only at h1 h2 h3 h4 ⊢
      subst h2 h3 h4
      have := fm s h1
      omega
    | back =>
      obtain ⟨h1, h0, h2, h3, h4⟩ := E
      simp only at h1 h0 h2 h3 h4 ⊢
      subst h2 h3 h4
      have := I.f2 v h1 h0
      omega
    | on =>
      obtain ⟨a, b, w, h1, h0, h2, h3, h4⟩ := E
      simp only at h1 h0 h2 h3 h4 ⊢
      subst h2 h3 h4
      have := I.f3 j s v g h1
      have h0 : tkF taken j = false := h0
      rw [if_neg (by rw [h0]; decide)] at this
      exact this
    | off =>
      obtain ⟨a, b, w, h1, h0, h2, h3, h4⟩ := E
      simp only at h1 h0 h2 h3 h4 ⊢
      subst h2 h3 h4
      have := I.f3 j v s w h1
      have h0 : tkF taken j = true := h0
      rw [if_pos h0] at this
      omega
/-! ### sums -/
def isum (l : List Nat) (P : Nat → Bool) (g : Nat → Int) : Int := ((l.filter P).map g).sum
theorem isum_cons (x : Nat) (l : List Nat) (P : Nat → Bool) (g : Nat → Int) : isum (x :: l) P g = (if P x = true then g x else 0) + isum l P g := by
  unfold isum
  rw [List.filter_cons]
  by_cases h : P x = true
  · rw [if_pos h, if_pos h, List.map_cons, List.sum_cons]
  · rw [if_neg h, if_neg h, Int.zero_add]
theorem psum_succ (n : Nat) (p : Nat → Int) : psum (n + 1) p = psum n p + p n := by
  unfold psum
  rw [List.range_succ, List.map_append, List.sum_append]
  simp
theorem psum_congr {n : Nat} {p q : Nat → Int} (h : ∀ c, c < n → p c = q c) : psum n p = psum n q := by
  induction n with
  | zero => rfl
  | succ n ih =>
    rw [psum_succ, psum_succ, ih fun c hc => h c (by omega), h n (by omega)]
theorem psum_le {n : Nat} {p q : Nat → Int} (h : ∀ c, c < n → p c ≤ q c) : psum n p ≤ psum n q := by
  induction n with
  | zero => exact Int.le_refl _
  | succ n ih =>
    have a := ih fun c hc => h c (by omega)
    have b := h n (by omega)
    rw [psum_succ, psum_succ]
    omega
theorem psum_add (n : Nat) (p q : Nat → Int) : psum n (fun c => p c + q c) = psum n p + psum n q := by
  induction n with
  | zero => rfl
  | succ n ih =>
    rw [psum_succ, psum_succ, psum_succ, ih]
    omega
theorem psum_zero (n : Nat) : psum n (fun _ => 0) = 0 := by
  induction n with
  | zero => rfl
  | succ n ih => rw [psum_succ, ih]; rfl
theorem psum_tele (f : Nat → Int) {a b : Nat} : ∀ {m : Nat}, a ≤ b → b ≤ m → psum m (fun c => if a ≤ c ∧ c < b then f (c + 1) - f c else 0) = f b - f a
  | 0, h1, h2 => by
    have e1 : a = 0 := by omega
    have e2 : b = 0 := by omega
    subst e1 e2
    show (0 : Int) = _
    omega
  | m + 1, h1, h2 => by
    rw [psum_succ]
    by_cases e : b = m + 1
    · subst e
      by_cases e2 : a = m + 1
      · subst e2
        rw [if_neg (by omega), psum_congr (q := fun _ => 0) fun c hc => if_neg (by omega), psum_zero]
        omega
      · have := psum_tele f (a := a) (b := m) (m := m) (by omega) (Nat.le_refl _)
        rw [if_pos (by omega), psum_congr (q := fun c => if a ≤ c ∧ c < m then f (c + 1) - f c else 0) fun c hc => by
          by_cases h : a ≤ c
          · rw [if_pos (by omega), if_pos (by omega)]
          · rw [if_neg (by omega), if_neg (by omega)], this]
        omega
    · have := psum_tele f (a := a) (b := b) (m := m) h1 (by omega)
      rw [if_neg (by omega), this]
      omega
def covL (arcs : List (Nat × Nat × Int)) (l : List Nat) (P : Nat → Bool) (c : Nat) : Nat := (l.filter fun i => P i && overB arcs i c).length
theorem covL_cons (arcs : List (Nat × Nat × Int)) (x : Nat) (l : List Nat) (P : Nat → Bool) (c : Nat) : (covL arcs (x :: l) P c : Int) = (if P x = true ∧ overB arcs x c = true then 1 else 0) + (covL arcs l P c : Int) := by
  unfold covL
  rw [List.filter_cons]
  by_cases h : P x = true ∧ overB arcs x c = true
  · rw [if_pos h, if_pos (Bool.and_eq_true_iff.mpr h), List.length_cons]
    omega
  · rw [if_neg h, if_neg (fun z => h (Bool.and_eq_true_iff.mp z))]
    omega
/-- the weights, by the cells they lie over and what is left -/
theorem sum_cells {D : Net} {n : Nat} (O : NetOk D n) (f : Nat → Int) (P : Nat → Bool) (l : List Nat) (hl : ∀ i ∈ l, i < D.arcs.length) :
    isum l P (fun i => f (D.arcs.getD i (0, 0, 0)).2.1 - f (D.arcs.getD i (0, 0, 0)).1) = psum D.m fun c => (f (c + 1) - f c) * (covL D.arcs l P c : Int) := by
  induction l with
  | nil =>
    rw [psum_congr (q := fun _ => 0) fun c _ => by show _ * ((0 : Nat) : Int) = 0; rw [Int.natCast_zero, Int.mul_zero], psum_zero]
    rfl
  | cons i l ih =>
    rw [isum_cons, ih fun j hj => hl j (List.mem_cons_of_mem _ hj)]
    have hi := hl i List.mem_cons_self
    obtain ⟨⟨a, b, w⟩, he⟩ : ∃ x, D.arcs[i]? = some x := ⟨_, List.getElem?_eq_getElem hi⟩
    have hab := O.arc i a b w he
    have eg : D.arcs.getD i (0, 0, 0) = (a, b, w) := by rw [List.getD_eq_getElem?_getD, he, Option.getD_some]
    rw [eg]
    by_cases hp : P i = true
    · rw [if_pos hp, ← psum_tele f (m := D.m) (Nat.le_of_lt hab.1) hab.2, ← psum_add]
      refine psum_congr fun c _ => ?_
      rw [covL_cons, overB_at he]
      by_cases h : a ≤ c ∧ c < b
      · rw [if_pos h, if_pos ⟨hp, decide_eq_true h⟩, Int.mul_add, Int.mul_one]
      · rw [if_neg h, if_neg (fun z => h (of_decide_eq_true z.2)), Int.zero_add, Int.zero_add]
    · rw [if_neg hp, Int.zero_add]
      refine psum_congr fun c _ => ?_
      rw [covL_cons, if_neg (fun z => hp z.1), Int.zero_add]
theorem isum_add (l : List Nat) (P : Nat → Bool) (g h : Nat → Int) : isum l P (fun i => g i + h i) = isum l P g + isum l P h := by
  induction l with
  | nil => rfl
  | cons i l ih =>
    rw [isum_cons, isum_cons, isum_cons, ih]
    by_cases c : P i = true
    · rw [if_pos c, if_pos c, if_pos c]
      omega
    · rw [if_neg c, if_neg c, if_neg c]
      omega
theorem isum_congr {l : List Nat} {P : Nat → Bool} {g h : Nat → Int} (e : ∀ i ∈ l, g i = h i) : isum l P g = isum l P h := by
  unfold isum
  congr 1
  exact List.map_congr_left fun i hi => e i (List.mem_filter.mp hi).1
theorem isum_best {l : List Nat} {P T : Nat → Bool} {r : Nat → Int} (h1 : ∀ i ∈ l, T i = true → 0 ≤ r i) (h2 : ∀ i ∈ l, T i = false → r i ≤ 0) : isum l P r ≤ isum l T r := by
  induction l with
  | nil => exact Int.le_refl _
  | cons i l ih =>
    have := ih (fun j hj => h1 j (List.mem_cons_of_mem _ hj)) (fun j hj => h2 j (List.mem_cons_of_mem _ hj))
    have a := h1 i List.mem_cons_self
    have b := h2 i List.mem_cons_self
    rw [isum_cons, isum_cons]
    cases hT : T i with
    | true =>
      have := a hT
      rw [if_pos rfl]
      split <;> omega
    | false =>
      have := b hT
      rw [if_neg (c := false = true) (by decide)]
      split <;> omega
abbrev wOf (arcs : List (Nat × Nat × Int)) (P : Nat → Bool) : Int := isum (List.range arcs.length) P fun i => (arcs.getD i (0, 0, 0)).2.2
theorem lanes_best {D : Net} {n : Nat} {far : List Int} {sp : Sps} {rk : Nat → Nat} {many k : Int} (O : NetOk D n) (S : Seen D n far sp rk) (f : Flow D many) (hk : many ≤ k) (he : many = k ∨ far.getD D.m 0 ≤ 0) :
    (∀ c, c < D.m → (cov D.arcs (tkF D.taken) c : Int) ≤ k) ∧ ∀ P : Nat → Bool, (∀ c, c < D.m → (cov D.arcs P c : Int) ≤ k) → wOf D.arcs P ≤ wOf D.arcs (tkF D.taken) := by
  refine ⟨fun c hc => by have := f c hc; have := O.nn c hc; omega, fun P hP => ?_⟩
  let F : Nat → Int := fun v => far.getD v 0
  have up : ∀ c, c < D.m → F c ≤ F (c + 1) := fun c hc => by
    have := S.feas ⟨c, c + 1, 0, .idle, c⟩ ⟨hc, rfl, rfl, rfl⟩
    simp only at this
    show far.getD c 0 ≤ far.getD (c + 1) 0
    omega
  let r : Nat → Int := fun i => (D.arcs.getD i (0, 0, 0)).2.2 - (F (D.arcs.getD i (0, 0, 0)).2.1 - F (D.arcs.getD i (0, 0, 0)).1)
  have dec : ∀ P : Nat → Bool, wOf D.arcs P = (psum D.m fun c => (F (c + 1) - F c) * (cov D.arcs P c : Int)) + isum (List.range D.arcs.length) P r := fun P => by
    have h := sum_cells O F P (List.range D.arcs.length) fun i hi => List.mem_range.mp hi
    show isum _ P _ = _
    rw [show (psum D.m fun c => (F (c + 1) - F c) * (cov D.arcs P c : Int)) = _ from h.symm, ← isum_add]
    exact isum_congr fun i _ => by show _ = _ + (_ - _); omega
  have ti := ti_start O S
  have h1 : isum (List.range D.arcs.length) P r ≤ isum (List.range D.arcs.length) (tkF D.taken) r := isum_best (fun i hi t => by
    obtain ⟨⟨a, b, w⟩, e⟩ : ∃ x, D.arcs[i]? = some x := ⟨_, List.getElem?_eq_getElem (List.mem_range.mp hi)⟩
    have eg : D.arcs.getD i (0, 0, 0) = (a, b, w) := by rw [List.getD_eq_getElem?_getD, e, Option.getD_some]
    have h3 := ti.f3 i a b w e
    rw [if_pos t] at h3
    show 0 ≤ (D.arcs.getD i (0, 0, 0)).2.2 - (F (D.arcs.getD i (0, 0, 0)).2.1 - F (D.arcs.getD i (0, 0, 0)).1)
    rw [eg]
    show 0 ≤ w - (far.getD b 0 - far.getD a 0)
    omega) fun i hi t => by
    obtain ⟨⟨a, b, w⟩, e⟩ : ∃ x, D.arcs[i]? = some x := ⟨_, List.getElem?_eq_getElem (List.mem_range.mp hi)⟩
    have eg : D.arcs.getD i (0, 0, 0) = (a, b, w) := by rw [List.getD_eq_getElem?_getD, e, Option.getD_some]
    have h3 := ti.f3 i a b w e
    rw [if_neg (by rw [t]; decide)] at h3
    show (D.arcs.getD i (0, 0, 0)).2.2 - (F (D.arcs.getD i (0, 0, 0)).2.1 - F (D.arcs.getD i (0, 0, 0)).1) ≤ 0
    rw [eg]
    show w - (far.getD b 0 - far.getD a 0) ≤ 0
    omega
  have h2 : (psum D.m fun c => (F (c + 1) - F c) * (cov D.arcs P c : Int)) ≤ psum D.m fun c => (F (c + 1) - F c) * (cov D.arcs (tkF D.taken) c : Int) := psum_le fun c hc => by
    have u := up c hc
    by_cases z : F (c + 1) - F c = 0
    · rw [z, Int.zero_mul, Int.zero_mul]
      exact Int.le_refl _
    · refine Int.mul_le_mul_of_nonneg_left ?_ (by omega)
      have i0 : D.idle.getD c 0 ≤ 0 := by
        by_cases h : 0 < D.idle.getD c 0
        · have := ti.f2 c hc h
          have : F (c + 1) ≤ F c := this
          omega
        · omega
      have fl := f c hc
      have pk := hP c hc
      rcases he with e | e
      · omega
      · -- all flat then
        have mono : ∀ d v, v + d ≤ D.m → F v ≤ F (v + d) := fun d => by
          induction d with
          | zero => exact fun v _ => Int.le_refl _
          | succ d ih =>
            intro v hv
            have a1 := ih v (by omega)
            have a2 := up (v + d) (by omega)
            show F v ≤ F (v + d + 1)
            omega
        have a1 := mono c 0 (by omega)
        have a2 := mono (D.m - (c + 1)) (c + 1) (by omega)
        have z0 : F 0 = 0 := S.z0 (by have := O.nm; omega)
        have e : F D.m ≤ 0 := e
        rw [show c + 1 + (D.m - (c + 1)) = D.m by omega] at a2
        rw [Nat.zero_add] at a1
        omega
  rw [dec P, dec (tkF D.taken)]
  omega
/-! ### as the spans say it -/
def okDepth (ss : List Spn) (k : Int) (P : Nat → Bool) : Prop := ∀ p : Int, (cnt ss.length (fun i => P i && holdsB (ss.getD i (0, 0)) p) : Int) ≤ k
def wSum (ws : List Int) (n : Nat) (P : Nat → Bool) : Int := isum (List.range n) P fun i => ws.getD i 0
/-- the greatest weight of spans of which at most k lie over a place -/
def IsHv (ss : List Spn) (ws : List Int) (k v : Int) : Prop := (∃ P, okDepth ss k P ∧ wSum ws ss.length P = v) ∧ ∀ P, okDepth ss k P → wSum ws ss.length P ≤ v
theorem hv_unique {ss : List Spn} {ws : List Int} {k v u : Int} (a : IsHv ss ws k v) (b : IsHv ss ws k u) : v = u := by
  obtain ⟨⟨P, hP, eP⟩, h1⟩ := a
  obtain ⟨⟨Q, hQ, eQ⟩, h2⟩ := b
  have := h1 Q hQ
  have := h2 P hP
  omega
/-- the arcs are the spans, by their ends' numbers -/
structure ArcsOf (es : List Int) (ss : List Spn) (ws : List Int) (arcs : List (Nat × Nat × Int)) : Prop where
  len : arcs.length = ss.length
  srt : es.Pairwise (· < ·)
  arc : ∀ (i : Nat) (s : Spn), ss[i]? = some s → ∃ a b, arcs[i]? = some (a, b, ws.getD i 0) ∧ es[a]? = some s.1 ∧ es[b]? = some s.2
theorem srt_lt {es : List Int} (h : es.Pairwise (· < ·)) {a b : Nat} {x y : Int} (ha : es[a]? = some x) (hb : es[b]? = some y) : a < b ↔ x < y := by
  rw [List.pairwise_iff_getElem] at h
  obtain ⟨h1, e1⟩ := List.getElem?_eq_some_iff.mp ha
  obtain ⟨h2, e2⟩ := List.getElem?_eq_some_iff.mp hb
  constructor
  · intro l
    have := h a b h1 h2 l
    rw [e1, e2] at this
    exact this
  · intro l
    rcases Nat.lt_trichotomy a b with c | c | c
    · exact c
    · subst c
      rw [ha] at hb
      have := Option.some.inj hb
      omega
    · have := h b a h2 h1 c
      rw [e1, e2] at this
      omega
theorem greatest {P : Nat → Prop} : ∀ {n : Nat}, (∃ a, a < n ∧ P a) → ∃ c, c < n ∧ P c ∧ ∀ j, j < n → P j → j ≤ c
  | 0, h => by
    obtain ⟨a, h, _⟩ := h
    exact absurd h (Nat.not_lt_zero a)
  | n + 1, h => by
    by_cases c : P n
    · exact ⟨n, Nat.lt_succ_self n, c, fun j hj _ => by omega⟩
    · obtain ⟨a, ha, pa⟩ := h
      have : a ≠ n := fun e => c (by rw [← e]; exact pa)
      obtain ⟨d, h1, h2, h3⟩ := greatest (P := P) (n := n) ⟨a, by omega, pa⟩
      exact ⟨d, by omega, h2, fun j hj pj => by
        have : j ≠ n := fun e => c (by rw [← e]; exact pj)
        exact h3 j (by omega) pj⟩
theorem hv_of {D : Net} {n : Nat} {far : List Int} {sp : Sps} {rk : Nat → Nat} {many k : Int} {es : List Int} {ss : List Spn} {ws : List Int} (O : NetOk D n) (S : Seen D n far sp rk) (f : Flow D many) (hk : many ≤ k) (he : many = k ∨ far.getD D.m 0 ≤ 0) (hn : es.length = n)
    (A : ArcsOf es ss ws D.arcs) (k0 : 0 ≤ k) : IsHv ss ws k (wSum ws ss.length (tkF D.taken)) := by
  obtain ⟨h1, h2⟩ := lanes_best O S f hk he
  have nm := O.nm
  have over : ∀ (c i : Nat) (p : Int), es[c]? = some p → i < ss.length → overB D.arcs i c = holdsB (ss.getD i (0, 0)) p := fun c i p hc hi => by
    obtain ⟨s, hs⟩ : ∃ s, ss[i]? = some s := ⟨_, List.getElem?_eq_getElem hi⟩
    obtain ⟨a, b, e1, e2, e3⟩ := A.arc i s hs
    rw [overB_at e1, getD_of hs]
    unfold holdsB
    have l1 := srt_lt A.srt hc e2
    have l2 := srt_lt A.srt hc e3
    exact decide_eq_decide.mpr ⟨fun z => ⟨by omega, l2.mp z.2⟩, fun z => ⟨by omega, l2.mpr z.2⟩⟩
  have eW : ∀ P : Nat → Bool, wOf D.arcs P = wSum ws ss.length P := fun P => by
    unfold wOf wSum
    rw [A.len]
    refine isum_congr fun i hi => ?_
    obtain ⟨s, hs⟩ : ∃ s, ss[i]? = some s := ⟨_, List.getElem?_eq_getElem (List.mem_range.mp hi)⟩
    obtain ⟨a, b, e1, e2, e3⟩ := A.arc i s hs
    rw [List.getD_eq_getElem?_getD, e1, Option.getD_some]
  have eC : ∀ (P : Nat → Bool) (c : Nat) (p : Int), es[c]? = some p → cov D.arcs P c = cnt ss.length fun i => P i && holdsB (ss.getD i (0, 0)) p := fun P c p hc => by
    unfold cov
    rw [A.len]
    exact cnt_congr fun i hi => by rw [over c i p hc hi]
  refine ⟨⟨_, fun p => ?_, rfl⟩, fun P hP => ?_⟩
  · by_cases z : cnt ss.length (fun i => tkF D.taken i && holdsB (ss.getD i (0, 0)) p) = 0
    · rw [z]
      exact k0
    · obtain ⟨i, hi⟩ := List.exists_mem_of_length_pos (Nat.pos_of_ne_zero z)
      obtain ⟨hi, hh⟩ := cnt_mem.mp hi
      have hh := (Bool.and_eq_true_iff.mp hh).2
      obtain ⟨s, hs⟩ : ∃ s, ss[i]? = some s := ⟨_, List.getElem?_eq_getElem hi⟩
      obtain ⟨a, b, e1, e2, e3⟩ := A.arc i s hs
      rw [getD_of hs] at hh
      have hh : s.1 ≤ p ∧ p < s.2 := of_decide_eq_true hh
      obtain ⟨c, c1, c2, c3⟩ := greatest (P := fun j => ∃ x, es[j]? = some x ∧ x ≤ p) (n := es.length) ⟨a, (List.getElem?_eq_some_iff.mp e2).1, s.1, e2, hh.1⟩
      obtain ⟨q, hq, hqp⟩ := c2
      have cb : c < b := (srt_lt A.srt hq e3).mpr (by omega)
      have bn := (List.getElem?_eq_some_iff.mp e3).1
      have hc : c < D.m := by omega
      have e5 : cnt ss.length (fun i => tkF D.taken i && holdsB (ss.getD i (0, 0)) p) = cov D.arcs (tkF D.taken) c := by
        rw [eC _ c q hq]
        refine cnt_congr fun j hj => ?_
        congr 1
        obtain ⟨t, ht⟩ : ∃ t, ss[j]? = some t := ⟨_, List.getElem?_eq_getElem hj⟩
        obtain ⟨a2, b2, d1, d2, d3⟩ := A.arc j t ht
        rw [getD_of ht]
        unfold holdsB
        refine decide_eq_decide.mpr ⟨fun y => ⟨?_, by omega⟩, fun y => ⟨by omega, ?_⟩⟩
        · have := c3 a2 (List.getElem?_eq_some_iff.mp d2).1 ⟨_, d2, y.1⟩
          have l := srt_lt A.srt hq d2
          omega
        · by_cases g : t.2 ≤ p
          · have := c3 b2 (List.getElem?_eq_some_iff.mp d3).1 ⟨_, d3, g⟩
            have l := srt_lt A.srt hq d3
            omega
          · omega
      rw [e5]
      exact h1 c hc
  · rw [← eW, ← eW]
    refine h2 P fun c hc => ?_
    obtain ⟨q, hq⟩ : ∃ q, es[c]? = some q := ⟨_, List.getElem?_eq_getElem (by omega)⟩
    rw [eC P c q hq]
    exact hP q
end Sh
end

section
/-! places given, the soonest end first: how many get one -/
namespace Sh
def pOf (left : List Spn) (wt : List Int) (p : Int) : Int := if wt = [] then (left.headD (0, 0)).1 else p
def wOf2 (left : List Spn) (wt : List Int) (p : Int) : List Int := (isort le1 (wt ++ (left.filter fun s => decide (s.1 ≤ p)).map (·.2))).filter fun h => decide (p < h)
def lOf (left : List Spn) (p : Int) : List Spn := left.filter fun s => decide (p < s.1)
/-- k of them are given a place -/
inductive Run : List Spn → List Int → Int → Nat → Prop where
  | done (p : Int) : Run [] [] p 0
  | no {left : List Spn} {wt : List Int} {p : Int} {k : Nat} (h : left ≠ [] ∨ wt ≠ []) (e : wOf2 left wt (pOf left wt p) = []) (r : Run (lOf left (pOf left wt p)) [] (pOf left wt p + 1) k) : Run left wt p k
  | yes {left : List Spn} {wt : List Int} {p : Int} {k : Nat} {h0 : Int} {w : List Int} (h : left ≠ [] ∨ wt ≠ []) (e : wOf2 left wt (pOf left wt p) = h0 :: w) (r : Run (lOf left (pOf left wt p)) w (pOf left wt p + 1) k) : Run left wt p (k + 1)
theorem run_unique {left : List Spn} {wt : List Int} {p : Int} {k : Nat} (a : Run left wt p k) : ∀ {l : Nat}, Run left wt p l → k = l := by
  induction a with
  | done p =>
    intro l b
    cases b with
    | done => rfl
    | no h _ _ => exact (h.elim (fun h => h rfl) fun h => h rfl).elim
    | yes h _ _ => exact (h.elim (fun h => h rfl) fun h => h rfl).elim
  | no h e r ih =>
    intro l b
    cases b with
    | done => exact (h.elim (fun h => h rfl) fun h => h rfl).elim
    | no h2 e2 r2 => exact ih r2
    | yes h2 e2 r2 =>
      rw [e] at e2
      cases e2
  | yes h e r ih =>
    intro l b
    cases b with
    | done => exact (h.elim (fun h => h rfl) fun h => h rfl).elim
    | no h2 e2 r2 =>
      rw [e] at e2
      cases e2
    | yes h2 e2 r2 =>
      rw [e] at e2
      obtain ⟨rfl, rfl⟩ := List.cons.inj e2
      rw [ih r2]
/-- with none waiting the place does not matter -/
theorem run_any {left : List Spn} {p q : Int} {k : Nat} (a : Run left [] p k) : Run left [] q k := by
  have e : pOf left [] p = pOf left [] q := rfl
  cases a with
  | done => exact .done q
  | no h e2 r => exact .no h (by rw [← e]; exact e2) (by rw [← e]; exact r)
  | yes h e2 r => exact .yes h (by rw [← e]; exact e2) (by rw [← e]; exact r)
theorem filter_len_add {α : Type} (l : List α) (f g : α → Bool) (h : ∀ x, g x = !f x) : (l.filter f).length + (l.filter g).length = l.length := by
  induction l with
  | nil => rfl
  | cons x l ih =>
    rw [List.filter_cons, List.filter_cons, h x]
    cases f x <;> simp <;> omega
theorem wOf2_len (left : List Spn) (wt : List Int) (p : Int) : (wOf2 left wt p).length + (lOf left p).length ≤ left.length + wt.length := by
  have a := filter_len_add left (fun s => decide (s.1 ≤ p)) (fun s => decide (p < s.1)) fun s => by
    by_cases h : s.1 ≤ p
    · rw [decide_eq_true h, decide_eq_false (by omega)]
      rfl
    · rw [decide_eq_false h, decide_eq_true (by omega)]
      rfl
  have b := List.length_filter_le (fun h => decide (p < h)) (isort le1 (wt ++ (left.filter fun s => decide (s.1 ≤ p)).map (·.2)))
  rw [isort_len, List.length_append, List.length_map] at b
  unfold wOf2 lOf
  omega
theorem run_le {left : List Spn} {wt : List Int} {p : Int} {k : Nat} (a : Run left wt p k) : k ≤ left.length + wt.length := by
  induction a with
  | done => exact Nat.le_refl _
  | no h e r ih =>
    rename_i left wt p k
    have := wOf2_len left wt (pOf left wt p)
    rw [e] at this
    simp only [List.length_nil] at this ih
    omega
  | yes h e r ih =>
    rename_i left wt p k h0 w
    have := wOf2_len left wt (pOf left wt p)
    rw [e] at this
    simp only [List.length_cons] at this ih
    omega
/-- a filter of what is sorted -/
theorem filter_isort {le : Int → Int → Bool} (O : Ord le) (q : Int → Bool) (x y : List Int) (h : ∀ z ∈ x, q z = false) : (isort le (x ++ y)).filter q = (isort le y).filter q := by
  have e1 : (isort le (x ++ y)).filter q = isort le (y.filter q) := by
    refine eq_isort O ?_ ?_
    · refine ((isort_perm (x ++ y)).filter q).trans ?_
      rw [List.filter_append, List.filter_eq_nil_iff.mpr (fun z hz => by rw [h z hz]; decide), List.nil_append]
    · exact List.Pairwise.filter q (isort_sorted O (x ++ y))
  have e2 : (isort le y).filter q = isort le (y.filter q) := eq_isort O ((isort_perm y).filter q) (List.Pairwise.filter q (isort_sorted O y))
  rw [e1, e2]
/-- two lists one behind the other -/
theorem run_two {s : Int} {LB : List Spn} {kB : Nat} (hB : ∀ x ∈ LB, s ≤ x.1) (sB : LB.Pairwise fun x y => x.1 ≤ y.1) (rB : Run LB [] 0 kB) {LA : List Spn} {wt : List Int} {p : Int} {kA : Nat} (rA : Run LA wt p kA) :
    (∀ x ∈ LA, x.1 < x.2 ∧ x.2 ≤ s) → (∀ h ∈ wt, h ≤ s) → (wt ≠ [] → p ≤ s) → Run (LA ++ LB) wt p (kA + kB) := by
  -- the step, what it does below the seam
  have low : ∀ (LA : List Spn) (wt : List Int) (p : Int), p < s → wOf2 (LA ++ LB) wt p = wOf2 LA wt p ∧ lOf (LA ++ LB) p = lOf LA p ++ LB := fun LA wt p hp => by
    have a : LB.filter (fun s => decide (s.1 ≤ p)) = [] := List.filter_eq_nil_iff.mpr fun x hx => by
      have := hB x hx
      rw [decide_eq_true_iff]
      omega
    have b : LB.filter (fun s => decide (p < s.1)) = LB := List.filter_eq_self.mpr fun x hx => by
      have := hB x hx
      exact decide_eq_true (by omega)
    unfold wOf2 lOf
    rw [List.filter_append, a, List.append_nil, List.filter_append, b]
    exact ⟨rfl, rfl⟩
  have subL : ∀ (LA : List Spn) (p : Int) (x : Spn), x ∈ lOf LA p → x ∈ LA := fun LA p x h => (List.mem_filter.mp h).1
  have subW : ∀ (LA : List Spn) (wt : List Int) (p : Int), (∀ x ∈ LA, x.1 < x.2 ∧ x.2 ≤ s) → (∀ h ∈ wt, h ≤ s) → ∀ h ∈ wOf2 LA wt p, h ≤ s := fun LA wt p h1 h2 h hh => by
    have := isort_mem.mp (List.mem_filter.mp hh).1
    rcases List.mem_append.mp this with e | e
    · exact h2 h e
    · obtain ⟨x, hx, rfl⟩ := List.mem_map.mp e
      exact (h1 x (List.mem_filter.mp hx).1).2
  -- at the seam all of A goes
  have seam : ∀ (LA : List Spn) (wt : List Int), (∀ x ∈ LA, x.1 < x.2 ∧ x.2 ≤ s) → (∀ h ∈ wt, h ≤ s) → wOf2 (LA ++ LB) wt s = wOf2 LB [] s ∧ lOf (LA ++ LB) s = lOf LB s ∧ wOf2 LA wt s = [] ∧ lOf LA s = [] := fun LA wt h1 h2 => by
    have a : LA.filter (fun x => decide (s < x.1)) = [] := List.filter_eq_nil_iff.mpr fun x hx => by
      have := h1 x hx
      rw [decide_eq_true_iff]
      omega
    refine ⟨?_, ?_, ?_, a⟩
    · unfold wOf2
      rw [List.filter_append, List.map_append, ← List.append_assoc, List.nil_append]
      refine filter_isort ord1 _ _ _ fun z hz => decide_eq_false ?_
      rcases List.mem_append.mp hz with e | e
      · have := h2 z e
        omega
      · obtain ⟨x, hx, rfl⟩ := List.mem_map.mp e
        have := h1 x (List.mem_filter.mp hx).1
        omega
    · unfold lOf
      rw [List.filter_append, a, List.nil_append]
    · refine List.filter_eq_nil_iff.mpr fun z hz => ?_
      rw [decide_eq_true_iff]
      rcases List.mem_append.mp (isort_mem.mp hz) with e | e
      · have := h2 z e
        omega
      · obtain ⟨x, hx, rfl⟩ := List.mem_map.mp e
        have := h1 x (List.mem_filter.mp hx).1
        omega
  have atSeam : ∀ (LA : List Spn) (wt : List Int), wt ≠ [] → (∀ x ∈ LA, x.1 < x.2 ∧ x.2 ≤ s) → (∀ h ∈ wt, h ≤ s) → Run (LA ++ LB) wt s kB := fun LA wt hw h1 h2 => by
    obtain ⟨e1, e2, _, _⟩ := seam LA wt h1 h2
    have ep : pOf (LA ++ LB) wt s = s := if_neg hw
    have hne : LA ++ LB ≠ [] ∨ wt ≠ [] := .inr hw
    by_cases hj : LB.filter (fun x => decide (x.1 ≤ s)) = []
    · have e3 : wOf2 LB [] s = [] := by
        unfold wOf2
        rw [hj]
        rfl
      have e4 : lOf LB s = LB := List.filter_eq_self.mpr fun x hx => by
        have := List.filter_eq_nil_iff.mp hj x hx
        rw [decide_eq_true_iff] at this
        exact decide_eq_true (by omega)
      refine .no hne (by rw [ep, e1, e3]) ?_
      rw [ep, e2, e4]
      exact run_any rB
    · cases hLB : LB with
      | nil =>
        rw [hLB] at hj
        exact (hj rfl).elim
      | cons x r =>
        have hx : x.1 = s := by
          obtain ⟨y, hy⟩ := List.exists_mem_of_ne_nil _ hj
          obtain ⟨hy, hys⟩ := List.mem_filter.mp hy
          have hys := of_decide_eq_true hys
          have h3 := hB x (by rw [hLB]; exact List.mem_cons_self)
          rw [hLB] at hy sB
          rcases List.mem_cons.mp hy with e | e
          · rw [← e]
            have := hB y (by rw [hLB]; exact hy)
            omega
          · have := (List.pairwise_cons.mp sB).1 y e
            omega
        have epB : pOf LB [] 0 = s := by
          unfold pOf
          rw [if_pos rfl, hLB]
          exact hx
        rw [← hLB]
        cases rB with
        | done => cases hLB
        | no h e r =>
          rw [epB] at e r
          exact .no hne (by rw [ep, e1, e]) (by rw [ep, e2]; exact r)
        | yes h e r =>
          rw [epB] at e r
          exact .yes hne (by rw [ep, e1, e]) (by rw [ep, e2]; exact r)
  induction rA with
  | done p =>
    intro _ _ _
    rw [List.nil_append, Nat.zero_add]
    exact run_any rB
  | no h e r ih =>
    rename_i LA wt p k
    intro h1 h2 h3
    have epA : pOf (LA ++ LB) wt p = pOf LA wt p := by
      unfold pOf
      by_cases hw : wt = []
      · rw [if_pos hw, if_pos hw]
        cases LA with
        | nil => exact (h.elim (fun h => h rfl) fun h => h hw).elim
        | cons x l => rfl
      · rw [if_neg hw, if_neg hw]
    have hle : pOf LA wt p ≤ s := by
      unfold pOf
      by_cases hw : wt = []
      · rw [if_pos hw]
        cases LA with
        | nil => exact (h.elim (fun h => h rfl) fun h => h hw).elim
        | cons x l =>
          have := h1 x List.mem_cons_self
          show x.1 ≤ s
          omega
      · rw [if_neg hw]
        exact h3 hw
    have hne : LA ++ LB ≠ [] ∨ wt ≠ [] := h.elim (fun h => .inl fun e => h (List.append_eq_nil_iff.mp e).1) .inr
    by_cases hlt : pOf LA wt p < s
    · obtain ⟨a, b⟩ := low LA wt _ hlt
      refine .no hne (by rw [epA, a, e]) ?_
      rw [epA, b]
      exact ih (fun x hx => h1 x (subL _ _ x hx)) (fun _ h => (List.not_mem_nil h).elim) fun h => (h rfl).elim
    · have hw : wt ≠ [] := fun hw => by
        unfold pOf at hlt
        rw [if_pos hw] at hlt
        cases LA with
        | nil => exact (h.elim (fun h => h rfl) fun h => h hw).elim
        | cons x l =>
          have := h1 x List.mem_cons_self
          exact hlt (by show x.1 < s; omega)
      have hps : p = s := by
        unfold pOf at hlt
        rw [if_neg hw] at hlt
        have := h3 hw
        omega
      subst hps
      have ep : pOf LA wt p = p := if_neg hw
      obtain ⟨_, _, _, e4⟩ := seam LA wt h1 h2
      rw [ep, e4] at r
      have := run_unique r (.done _)
      subst this
      rw [Nat.zero_add]
      exact atSeam LA wt hw h1 h2
  | yes h e r ih =>
    rename_i LA wt p k h0 w
    intro h1 h2 h3
    have epA : pOf (LA ++ LB) wt p = pOf LA wt p := by
      unfold pOf
      by_cases hw : wt = []
      · rw [if_pos hw, if_pos hw]
        cases LA with
        | nil => exact (h.elim (fun h => h rfl) fun h => h hw).elim
        | cons x l => rfl
      · rw [if_neg hw, if_neg hw]
    have hne : LA ++ LB ≠ [] ∨ wt ≠ [] := h.elim (fun h => .inl fun e => h (List.append_eq_nil_iff.mp e).1) .inr
    have hw2 : h0 ∈ wOf2 LA wt (pOf LA wt p) := by
      rw [e]
      exact List.mem_cons_self
    have hlt : pOf LA wt p < s := by
      have a := subW LA wt _ h1 h2 h0 hw2
      have b := of_decide_eq_true (List.mem_filter.mp hw2).2
      omega
    obtain ⟨a, b⟩ := low LA wt _ hlt
    rw [Nat.add_right_comm]
    refine .yes hne (by rw [epA, a, e]) ?_
    rw [epA, b]
    refine ih (fun x hx => h1 x (subL _ _ x hx)) (fun x hx => subW LA wt (pOf LA wt p) h1 h2 x ?_) fun _ => by omega
    rw [e]
    exact List.mem_cons_of_mem _ hx
/-- of the spans k are given a place -/
def IsPl (ss : List Spn) (k : Nat) : Prop := Run (isort le2 ss) [] 0 k
end Sh
end

section
/-! what given_places keeps, turn by turn -/
namespace Sh
def pairOf (x : Int × Int × Int) : Spn := (x.1, x.2.1)
def joinOf (x : Int × Int × Int) : Spn := (x.2.1, x.2.2)
theorem keys_pairs (ss : List Spn) : (isort le3 (rowKeys ss)).map pairOf = isort le2 ss := by
  refine eq_isort ord2 ?_ ?_
  · refine ((isort_perm _).map _).trans ?_
    unfold rowKeys
    rw [List.map_map]
    have : (ss.zipIdx.map (pairOf ∘ fun s => (s.1.1, s.1.2, (s.2 : Int)))) = ss := by
      rw [show (pairOf ∘ fun s : Spn × Nat => (s.1.1, s.1.2, (s.2 : Int))) = fun s => s.1 from rfl]
      exact List.zipIdx_map_fst _ _
    rw [this]
  · refine List.pairwise_map.mpr (List.Pairwise.imp (fun {x y} h => ?_) (isort_sorted ord3 (rowKeys ss)))
    have h := of_decide_eq_true h
    refine decide_eq_true ?_
    show x.1 < y.1 ∨ (x.1 = y.1 ∧ x.2.1 ≤ y.2.1)
    omega
theorem isort_fst (X : List Spn) : (isort le2 X).map (·.1) = isort le1 (X.map (·.1)) := by
  refine eq_isort ord1 ((isort_perm _).map _) ?_
  refine List.pairwise_map.mpr (List.Pairwise.imp (fun {x y} h => ?_) (isort_sorted ord2 X))
  have h := of_decide_eq_true h
  exact decide_eq_true (by omega)
def pG (L : List (Int × Int × Int)) (Wt : List Spn) (p : Int) : Int := if Wt = [] then (L.headD (0, 0, 0)).1 else p
def wG1 (L : List (Int × Int × Int)) (Wt : List Spn) (p : Int) : List Spn := isort le2 (Wt ++ (L.filter fun x => decide (x.1 ≤ p)).map joinOf)
def wG2 (L : List (Int × Int × Int)) (Wt : List Spn) (p : Int) : List Spn := (wG1 L Wt p).filter fun x => decide (p < x.1)
def lG (L : List (Int × Int × Int)) (p : Int) : List (Int × Int × Int) := L.filter fun x => decide (p < x.1)
theorem pG_eq (L : List (Int × Int × Int)) (Wt : List Spn) (p : Int) : pOf (L.map pairOf) (Wt.map (·.1)) p = pG L Wt p := by
  unfold pOf pG
  by_cases h : Wt = []
  · rw [if_pos h, if_pos (by rw [h]; rfl)]
    cases L <;> rfl
  · rw [if_neg h, if_neg (fun e => h (List.map_eq_nil_iff.mp e))]
theorem lG_eq (L : List (Int × Int × Int)) (p : Int) : lOf (L.map pairOf) p = (lG L p).map pairOf := by
  unfold lOf lG
  rw [List.filter_map]
  rfl
theorem wG_eq (L : List (Int × Int × Int)) (Wt : List Spn) (p : Int) : wOf2 (L.map pairOf) (Wt.map (·.1)) p = (wG2 L Wt p).map (·.1) := by
  unfold wOf2 wG2 wG1
  rw [show (fun x : Spn => decide (p < x.1)) = ((fun h => decide (p < h)) ∘ fun x : Spn => x.1) from rfl, ← List.filter_map, isort_fst, List.map_append, List.filter_map, List.map_map, List.map_map]
  rfl
abbrev numsG (L : List (Int × Int × Int)) (Wt : List Spn) : List Int := L.map (·.2.2) ++ Wt.map (·.2)
theorem split_perm {α : Type} (l : List α) (f g : α → Bool) (h : ∀ x, g x = !f x) : (l.filter g ++ l.filter f).Perm l := by
  induction l with
  | nil => exact List.Perm.refl _
  | cons x l ih =>
    rw [List.filter_cons, List.filter_cons, h x]
    cases f x with
    | true => exact List.perm_middle.trans (ih.cons x)
    | false => exact ih.cons x
theorem nums_sub {L : List (Int × Int × Int)} {Wt : List Spn} {p : Int} (nd : (numsG L Wt).Nodup) : (numsG (lG L p) (wG2 L Wt p)).Nodup ∧ ∀ x ∈ numsG (lG L p) (wG2 L Wt p), x ∈ numsG L Wt := by
  have pm : (numsG (lG L p) (wG1 L Wt p)).Perm (numsG L Wt) := by
    unfold numsG
    have a : ((wG1 L Wt p).map (·.2)).Perm (Wt.map (·.2) ++ (L.filter fun x => decide (x.1 ≤ p)).map (·.2.2)) := by
      refine ((isort_perm _).map _).trans ?_
      rw [List.map_append, List.map_map]
      exact List.Perm.refl _
    have b : ((lG L p).map (·.2.2) ++ (L.filter fun x => decide (x.1 ≤ p)).map (·.2.2)).Perm (L.map (·.2.2)) := by
      rw [← List.map_append]
      refine (split_perm L (fun x => decide (x.1 ≤ p)) (fun x => decide (p < x.1)) fun x => ?_).map _
      by_cases h : x.1 ≤ p
      · rw [decide_eq_true h, decide_eq_false (by omega)]
        rfl
      · rw [decide_eq_false h, decide_eq_true (by omega)]
        rfl
    refine ((List.Perm.refl _).append (a.trans List.perm_append_comm)).trans ?_
    rw [← List.append_assoc]
    exact b.append (List.Perm.refl _)
  have sl : (numsG (lG L p) (wG2 L Wt p)).Sublist (numsG (lG L p) (wG1 L Wt p)) := List.Sublist.append (List.Sublist.refl _) ((List.filter_sublist).map _)
  exact ⟨sl.nodup (pm.nodup_iff.mpr nd), fun x hx => pm.mem_iff.mp (sl.subset hx)⟩
theorem less_len {L : List (Int × Int × Int)} {Wt : List Spn} {p : Int} (h : L ≠ [] ∨ Wt ≠ []) : (lG L (pG L Wt p)).length < L.length + Wt.length ∧ (wG2 L Wt (pG L Wt p)).length + (lG L (pG L Wt p)).length ≤ L.length + Wt.length := by
  have a := wOf2_len (L.map pairOf) (Wt.map (·.1)) (pG L Wt p)
  rw [wG_eq, lG_eq, List.length_map, List.length_map, List.length_map, List.length_map] at a
  refine ⟨?_, a⟩
  have b : (lG L (pG L Wt p)).length ≤ L.length := List.length_filter_le _ _
  by_cases hw : Wt = []
  · cases L with
    | nil => exact (h.elim (fun h => h rfl) fun h => h hw).elim
    | cons x l =>
      have e : pG (x :: l) Wt p = x.1 := if_pos hw
      have c : (lG (x :: l) x.1).length ≤ l.length := by
        unfold lG
        rw [List.filter_cons, if_neg (by simp)]
        exact List.length_filter_le _ _
      rw [e, List.length_cons]
      omega
  · have := List.length_pos_iff.mpr hw
    omega
def nones (G : List (Option Int)) : Nat := (G.filter fun x => x.isNone).length
theorem nones_set {p : Int} : ∀ {G : List (Option Int)} {k : Nat}, G[k]? = some none → nones (G.set k (some p)) + 1 = nones G
  | [], k, h => by simp at h
  | x :: G, 0, h => by
    have : x = none := by simpa using h
    subst this
    rfl
  | x :: G, k + 1, h => by
    have ih := nones_set (p := p) (G := G) (k := k) (by simpa using h)
    unfold nones at ih ⊢
    rw [List.set_cons_succ, List.filter_cons, List.filter_cons]
    split
    · rw [List.length_cons, List.length_cons]
      omega
    · exact ih
/-- what holds ahead of each turn -/
structure GS (ss : List Spn) (L : List (Int × Int × Int)) (Wt : List Spn) (G : List (Option Int)) (p : Int) (d : Nat) : Prop where
  gl : G.length = ss.length
  nd : (numsG L Wt).Nodup
  num : ∀ x ∈ numsG L Wt, ∃ k : Nat, x = (k : Int) ∧ G[k]? = some none
  cn : nones G + d = ss.length
  run : ∀ k, Run (L.map pairOf) (Wt.map (·.1)) p k → IsPl ss (k + d)
theorem gs_start (ss : List Spn) : GS ss (isort le3 (rowKeys ss)) [] (List.replicate ss.length none) 0 0 := by
  have pm : ((isort le3 (rowKeys ss)).map (·.2.2)).Perm ((List.range ss.length).map Int.ofNat) := by
    refine ((isort_perm _).map _).trans ?_
    unfold rowKeys
    rw [List.map_map]
    have : ss.zipIdx.map ((fun x : Int × Int × Int => x.2.2) ∘ fun s => (s.1.1, s.1.2, (s.2 : Int))) = (ss.zipIdx.map Prod.snd).map Int.ofNat := by
      rw [List.map_map]
      rfl
    rw [this, List.zipIdx_map_snd, List.range_eq_range']
  refine ⟨List.length_replicate, ?_, fun x hx => ?_, ?_, fun k r => ?_⟩
  · unfold numsG
    rw [List.map_nil, List.append_nil]
    exact pm.nodup_iff.mpr (nodup_mapOn (range_nodup _) fun a _ b _ e => Int.ofNat.inj e)
  · unfold numsG at hx
    rw [List.map_nil, List.append_nil] at hx
    obtain ⟨k, hk, e⟩ := List.mem_map.mp (pm.mem_iff.mp hx)
    refine ⟨k, e.symm, ?_⟩
    rw [List.getElem?_replicate, if_pos (List.mem_range.mp hk)]
  · unfold nones
    rw [List.filter_replicate]
    simp
  · rw [keys_pairs] at r
    exact r
theorem gs_no {ss : List Spn} {L : List (Int × Int × Int)} {Wt : List Spn} {G : List (Option Int)} {p : Int} {d : Nat} (g : GS ss L Wt G p d) (h : L ≠ [] ∨ Wt ≠ []) (e : wG2 L Wt (pG L Wt p) = []) : GS ss (lG L (pG L Wt p)) [] G (pG L Wt p + 1) d := by
  obtain ⟨n1, n2⟩ := nums_sub (p := pG L Wt p) g.nd
  rw [e] at n1 n2
  refine ⟨g.gl, n1, fun x hx => g.num x (n2 x hx), g.cn, fun k r => g.run k (.no ?_ ?_ ?_)⟩
  · exact h.elim (fun h => .inl fun z => h (List.map_eq_nil_iff.mp z)) fun h => .inr fun z => h (List.map_eq_nil_iff.mp z)
  · rw [pG_eq, wG_eq, e]
    rfl
  · rw [pG_eq, lG_eq]
    exact r
theorem gs_yes {ss : List Spn} {L : List (Int × Int × Int)} {Wt W3 : List Spn} {G : List (Option Int)} {p h0 : Int} {k : Nat} {d : Nat} (g : GS ss L Wt G p d) (h : L ≠ [] ∨ Wt ≠ []) (e : wG2 L Wt (pG L Wt p) = (h0, (k : Int)) :: W3) :
    G[k]? = some none ∧ GS ss (lG L (pG L Wt p)) W3 (G.set k (some (pG L Wt p))) (pG L Wt p + 1) (d + 1) := by
  obtain ⟨n1, n2⟩ := nums_sub (p := pG L Wt p) g.nd
  rw [e] at n1 n2
  have hk : G[k]? = some none := by
    obtain ⟨k', ek, hk'⟩ := g.num _ (n2 (k : Int) (by simp))
    have : k = k' := by omega
    rw [this]
    exact hk'
  have pm : (numsG (lG L (pG L Wt p)) ((h0, (k : Int)) :: W3)).Perm ((k : Int) :: numsG (lG L (pG L Wt p)) W3) := by
    unfold numsG
    rw [List.map_cons]
    exact List.perm_middle
  obtain ⟨m1, m2⟩ := List.nodup_cons.mp (pm.nodup_iff.mp n1)
  refine ⟨hk, by rw [List.length_set]; exact g.gl, m2, fun x hx => ?_, ?_, fun j r => ?_⟩
  · obtain ⟨k', ek, hk'⟩ := g.num x (n2 x (pm.mem_iff.mpr (List.mem_cons_of_mem _ hx)))
    refine ⟨k', ek, ?_⟩
    rw [List.getElem?_set_ne (fun z => m1 (by rw [z, ← ek]; exact hx))]
    exact hk'
  · have := nones_set (p := pG L Wt p) hk
    have := g.cn
    omega
  · have := g.run (j + 1) (.yes (h0 := h0) (w := W3.map (·.1)) ?_ ?_ ?_)
    · rw [show j + (d + 1) = j + 1 + d by omega]
      exact this
    · exact h.elim (fun h => .inl fun z => h (List.map_eq_nil_iff.mp z)) fun h => .inr fun z => h (List.map_eq_nil_iff.mp z)
    · rw [pG_eq, wG_eq, e]
      rfl
    · rw [pG_eq, lG_eq]
      exact r
end Sh
end

section
/-! the heaviest with places: taken in turn, the heaviest first -/
namespace Sh
def hgKeys (ws : List Int) (n : Nat) : List Spn := (List.range n).map fun k => (0 - ws.getD k 0, (k : Int))
def hgOrder (ws : List Int) (n : Nat) : List Spn := isort le2 (hgKeys ws n)
open Classical in
noncomputable def hgStep (ss : List Spn) (kept : List Nat) (x : Spn) : List Nat := if IsPl ((kept ++ [x.2.toNat]).map fun k => ss.getD k (0, 0)) (kept.length + 1) then kept ++ [x.2.toNat] else kept
noncomputable def hgKept (ss : List Spn) (ws : List Int) : List Nat := (hgOrder ws ss.length).foldl (hgStep ss) []
noncomputable def hgVal (ss : List Spn) (ws : List Int) : Int := ((hgKept ss ws).map fun k => ws.getD k 0).sum
theorem hgOrder_mem {ws : List Int} {n : Nat} {x : Spn} (h : x ∈ hgOrder ws n) : ∃ k : Nat, k < n ∧ x = (0 - ws.getD k 0, (k : Int)) := by
  obtain ⟨k, hk, e⟩ := List.mem_map.mp (isort_mem.mp h)
  exact ⟨k, List.mem_range.mp hk, e.symm⟩
theorem hgOrder_len (ws : List Int) (n : Nat) : (hgOrder ws n).length = n := by
  unfold hgOrder hgKeys
  rw [isort_len, List.length_map, List.length_range]
theorem pl_nil : IsPl [] 0 := .done 0
theorem hg_pl {ss : List Spn} : ∀ (l : List Spn) (kept : List Nat), IsPl (kept.map fun k => ss.getD k (0, 0)) kept.length → IsPl ((l.foldl (hgStep ss) kept).map fun k => ss.getD k (0, 0)) (l.foldl (hgStep ss) kept).length
  | [], kept, h => h
  | x :: l, kept, h => by
    rw [List.foldl_cons]
    refine hg_pl l _ ?_
    unfold hgStep
    by_cases c : IsPl ((kept ++ [x.2.toNat]).map fun k => ss.getD k (0, 0)) (kept.length + 1)
    · rw [if_pos c, List.length_append, List.length_singleton]
      exact c
    · rw [if_neg c]
      exact h
theorem hg_lt {ss : List Spn} {n : Nat} : ∀ (l : List Spn) (kept : List Nat), (∀ x ∈ l, ∃ k : Nat, k < n ∧ x.2 = (k : Int)) → (∀ k ∈ kept, k < n) → (∀ k ∈ l.foldl (hgStep ss) kept, k < n) ∧ (l.foldl (hgStep ss) kept).length ≤ kept.length + l.length
  | [], kept, _, h => ⟨h, Nat.le_refl _⟩
  | x :: l, kept, hl, h => by
    rw [List.foldl_cons]
    obtain ⟨k, hk, e⟩ := hl x List.mem_cons_self
    have h2 : (∀ j ∈ hgStep ss kept x, j < n) ∧ (hgStep ss kept x).length ≤ kept.length + 1 := by
      unfold hgStep
      by_cases c : IsPl ((kept ++ [x.2.toNat]).map fun k => ss.getD k (0, 0)) (kept.length + 1)
      · rw [if_pos c]
        refine ⟨fun j hj => ?_, by rw [List.length_append, List.length_singleton]; exact Nat.le_refl _⟩
        rcases List.mem_append.mp hj with q | q
        · exact h j q
        · have : j = x.2.toNat := by simpa using q
          rw [this, e, Int.toNat_natCast]
          exact hk
      · rw [if_neg c]
        exact ⟨h, Nat.le_succ _⟩
    obtain ⟨a, b⟩ := hg_lt l (hgStep ss kept x) (fun y hy => hl y (List.mem_cons_of_mem _ hy)) h2.1
    rw [List.length_cons]
    exact ⟨a, by omega⟩
theorem nones_pos {G : List (Option Int)} : none ∈ G ↔ nones G ≠ 0 := by
  unfold nones
  constructor
  · intro h e
    have := List.eq_nil_of_length_eq_zero e
    have h2 : none ∈ G.filter fun x => x.isNone := List.mem_filter.mpr ⟨h, rfl⟩
    rw [this] at h2
    exact List.not_mem_nil h2
  · intro h
    obtain ⟨x, hx⟩ := List.exists_mem_of_length_pos (Nat.pos_of_ne_zero h)
    obtain ⟨h1, h2⟩ := List.mem_filter.mp hx
    cases x with
    | none => exact h1
    | some i => cases h2
end Sh
end

section
/-! covers: poured together -/
namespace Sh
def pourFrom : Int → List Spn → Int × List Spn
  | y, [] => (y, [])
  | y, s :: l => if s.1 ≤ y then pourFrom (max s.2 y) l else (y, (s.1, (pourFrom s.2 l).1) :: (pourFrom s.2 l).2)
theorem pour_from (c : Int) : ∀ (l : List Spn) (m : List Spn) (c y : Int), l.foldl pourStep (m ++ [(c, y)]) = m ++ (c, (pourFrom y l).1) :: (pourFrom y l).2
  | [], m, c, y => rfl
  | s :: l, m, c, y => by
    rw [List.foldl_cons]
    have e : pourStep (m ++ [(c, y)]) s = if s.1 ≤ y then m ++ [(c, max s.2 y)] else m ++ [(c, y)] ++ [s] := by
      unfold pourStep
      rw [List.getLast?_concat]
      simp only
      by_cases h : s.1 ≤ y
      · rw [if_pos h, if_pos h, List.dropLast_concat]
      · rw [if_neg h, if_neg h]
    rw [e, pourFrom]
    by_cases h : s.1 ≤ y
    · rw [if_pos h, if_pos h, pour_from c l m c (max s.2 y)]
    · rw [if_neg h, if_neg h, show [s] = [(s.1, s.2)] from rfl, pour_from c l (m ++ [(c, y)]) s.1 s.2, List.append_assoc]
      rfl
theorem fold_cons (s : Spn) (l : List Spn) : (s :: l).foldl pourStep [] = (s.1, (pourFrom s.2 l).1) :: (pourFrom s.2 l).2 := by
  rw [List.foldl_cons, show pourStep [] s = [] ++ [(s.1, s.2)] from rfl, pour_from 0 l [] s.1 s.2, List.nil_append]
def GapsL : List Spn → Prop
  | [] => True
  | [_] => True
  | s :: t :: l => s.2 < t.1 ∧ GapsL (t :: l)
theorem pf_ok : ∀ (l : List Spn) (y : Int), (∀ s ∈ l, okS s) → y ≤ (pourFrom y l).1 ∧ ((pourFrom y l).1 = y ∨ ∃ s ∈ l, (pourFrom y l).1 = s.2) ∧ (∀ t ∈ (pourFrom y l).2, okS t ∧ (∃ s ∈ l, t.1 = s.1) ∧ ∃ s ∈ l, t.2 = s.2) ∧ ∀ c, GapsL ((c, (pourFrom y l).1) :: (pourFrom y l).2)
  | [], y, _ => ⟨Int.le_refl _, .inl rfl, fun t h => (List.not_mem_nil h).elim, fun c => trivial⟩
  | s :: l, y, h => by
    have hl : ∀ t ∈ l, okS t := fun t ht => h t (List.mem_cons_of_mem _ ht)
    have hs := h s List.mem_cons_self
    rw [pourFrom]
    by_cases c : s.1 ≤ y
    · rw [if_pos c]
      obtain ⟨a1, a2, a3, a4⟩ := pf_ok l (max s.2 y) hl
      refine ⟨by omega, ?_, fun t ht => ?_, a4⟩
      · rcases a2 with e | ⟨t, ht, e⟩
        · by_cases c2 : s.2 ≤ y
          · exact .inl (by rw [e]; omega)
          · exact .inr ⟨s, List.mem_cons_self, by rw [e]; omega⟩
        · exact .inr ⟨t, List.mem_cons_of_mem _ ht, e⟩
      · obtain ⟨b1, ⟨s1, h1, e1⟩, ⟨s2, h2, e2⟩⟩ := a3 t ht
        exact ⟨b1, ⟨s1, List.mem_cons_of_mem _ h1, e1⟩, ⟨s2, List.mem_cons_of_mem _ h2, e2⟩⟩
    · rw [if_neg c]
      obtain ⟨a1, a2, a3, a4⟩ := pf_ok l s.2 hl
      have ax : (pourFrom s.2 l).1 < 1000000000000 := by
        rcases a2 with e | ⟨t, ht, e⟩
        · rw [e]
          exact hs.2.2
        · rw [e]
          exact (hl t ht).2.2
      refine ⟨Int.le_refl _, .inl rfl, fun t ht => ?_, fun c2 => ⟨by show y < s.1; omega, a4 s.1⟩⟩
      rcases List.mem_cons.mp ht with e | ht
      · subst e
        refine ⟨⟨hs.1, by show s.1 < (pourFrom s.2 l).1; have := hs.2.1; omega, ax⟩, ⟨s, List.mem_cons_self, rfl⟩, ?_⟩
        rcases a2 with e | ⟨t, ht, e⟩
        · exact ⟨s, List.mem_cons_self, e⟩
        · exact ⟨t, List.mem_cons_of_mem _ ht, e⟩
      · obtain ⟨b1, ⟨s1, h1, e1⟩, ⟨s2, h2, e2⟩⟩ := a3 t ht
        exact ⟨b1, ⟨s1, List.mem_cons_of_mem _ h1, e1⟩, ⟨s2, List.mem_cons_of_mem _ h2, e2⟩⟩
/-- what pouring gives: spans, apart from one another, their ends among the ends -/
theorem pour_ok {ss : List Spn} (h : ∀ s ∈ ss, okS s) : GapsL (pour ss) ∧ ∀ t ∈ pour ss, okS t ∧ (∃ s ∈ ss, t.1 = s.1) ∧ ∃ s ∈ ss, t.2 = s.2 := by
  unfold pour
  have hm : ∀ s, s ∈ isort le2 ss ↔ s ∈ ss := fun s => isort_mem
  cases e : isort le2 ss with
  | nil => exact ⟨trivial, fun t ht => (List.not_mem_nil ht).elim⟩
  | cons s l =>
    rw [fold_cons]
    rw [e] at hm
    have hs : s ∈ ss := (hm s).mp List.mem_cons_self
    have hl : ∀ t ∈ l, t ∈ ss := fun t ht => (hm t).mp (List.mem_cons_of_mem _ ht)
    obtain ⟨a1, a2, a3, a4⟩ := pf_ok l s.2 fun t ht => h t (hl t ht)
    refine ⟨a4 s.1, fun t ht => ?_⟩
    rcases List.mem_cons.mp ht with e | ht
    · subst e
      have ho := h s hs
      refine ⟨⟨ho.1, ?_, ?_⟩, ⟨s, hs, rfl⟩, ?_⟩
      · show s.1 < (pourFrom s.2 l).1
        have := ho.2.1
        omega
      · show (pourFrom s.2 l).1 < _
        rcases a2 with e | ⟨t, ht, e⟩
        · rw [e]
          exact ho.2.2
        · rw [e]
          exact (h t (hl t ht)).2.2
      · rcases a2 with e | ⟨t, ht, e⟩
        · exact ⟨s, hs, e⟩
        · exact ⟨t, hl t ht, e⟩
    · obtain ⟨b1, ⟨s1, h1, e1⟩, ⟨s2, h2, e2⟩⟩ := a3 t ht
      exact ⟨b1, ⟨s1, hl s1 h1, e1⟩, ⟨s2, hl s2 h2, e2⟩⟩
theorem gaps_pair : ∀ {l : List Spn}, GapsL l → (∀ s ∈ l, s.1 < s.2) → l.Pairwise fun s t => s.2 < t.1
  | [], _, _ => List.Pairwise.nil
  | [s], _, _ => List.pairwise_singleton _ _
  | s :: t :: l, h, ho => by
    have ih := gaps_pair h.2 fun x hx => ho x (List.mem_cons_of_mem _ hx)
    refine List.pairwise_cons.mpr ⟨fun x hx => ?_, ih⟩
    have h1 := h.1
    rcases List.mem_cons.mp hx with e | e
    · rw [e]
      exact h1
    · have h2 := (List.pairwise_cons.mp ih).1 x e
      have h3 := ho t (by simp)
      omega
theorem pf_gaps : ∀ (l : List Spn) (c y : Int), GapsL ((c, y) :: l) → pourFrom y l = (y, l)
  | [], c, y, _ => rfl
  | s :: l, c, y, h => by
    rw [pourFrom, if_neg (by have := h.1; show ¬ s.1 ≤ y; have h2 : y < s.1 := this; omega), pf_gaps l s.1 s.2 h.2]
/-- pouring what is poured -/
theorem pour_idem {l : List Spn} (h : GapsL l) (ho : ∀ s ∈ l, s.1 < s.2) : pour l = l := by
  have e : isort le2 l = l := (eq_isort ord2 (List.Perm.refl l) ((gaps_pair h ho).imp_of_mem fun {s t} hs _ hlt => by
    have := ho s hs
    exact decide_eq_true (.inl (by omega)))).symm
  unfold pour
  rw [e]
  cases l with
  | nil => rfl
  | cons s l => rw [fold_cons, pf_gaps l s.1 s.2 h]
def heldL (ss : List Spn) : Int := (ss.map fun s => s.2 - s.1).sum
theorem heldL_cons (s : Spn) (l : List Spn) : heldL (s :: l) = (s.2 - s.1) + heldL l := by
  unfold heldL
  rw [List.map_cons, List.sum_cons]
theorem heldL_app (a b : List Spn) : heldL (a ++ b) = heldL a + heldL b := by
  unfold heldL
  rw [List.map_append, List.sum_append]
/-- two lists, one behind the other: how their covers join -/
theorem pour_two {A B W : List Spn} {s : Int} (hA : ∀ x ∈ A, x.1 < x.2 ∧ x.2 ≤ s) (hB : ∀ x ∈ B, s ≤ x.1 ∧ x.1 < x.2) (oA : ∀ x ∈ A, okS x) (p : W.Perm (A ++ B)) :
    (pour A = [] ∧ pour W = pour B) ∨ (pour B = [] ∧ pour W = pour A) ∨ ∃ m c y b x R, pour A = m ++ [(c, y)] ∧ pour B = (b, x) :: R ∧ y ≤ b ∧ pour W = if b ≤ y then m ++ (c, x) :: R else pour A ++ pour B := by
  have e : isort le2 W = isort le2 A ++ isort le2 B := isort_two ord2 p fun a ha b hb => by
    have := hA a ha
    have := hB b hb
    exact decide_eq_true (.inl (by omega))
  have eW : pour W = (isort le2 B).foldl pourStep (pour A) := by
    unfold pour
    rw [e, List.foldl_append]
  rcases hA0 : pour A with _ | ⟨p0, pr⟩
  · exact .inl ⟨rfl, by rw [eW, hA0]; rfl⟩
  · refine .inr ?_
    obtain ⟨m, l, hl⟩ : ∃ m l, pour A = m ++ [l] := by
      rcases List.eq_nil_or_concat (pour A) with e0 | ⟨m, l, e0⟩
      · rw [hA0] at e0
        cases e0
      · exact ⟨m, l, by rw [e0, List.concat_eq_append]⟩
    obtain ⟨c, y⟩ := l
    have hy : y ≤ s := by
      obtain ⟨_, _, t, ht, e2⟩ := (pour_ok oA).2 (c, y) (by rw [hl]; simp)
      have := hA t ht
      have e2 : y = t.2 := e2
      omega
    cases hB0 : isort le2 B with
    | nil => exact .inl ⟨by unfold pour; rw [hB0]; rfl, by rw [eW, hB0, ← hA0]; rfl⟩
    | cons b lB =>
      refine .inr ⟨m, c, y, b.1, (pourFrom b.2 lB).1, (pourFrom b.2 lB).2, by rw [← hA0]; exact hl, by unfold pour; rw [hB0, fold_cons], ?_, ?_⟩
      · have := hB b (isort_mem.mp (by rw [hB0]; exact List.mem_cons_self))
        omega
      · have hb := hB b (isort_mem.mp (by rw [hB0]; exact List.mem_cons_self))
        rw [eW, hB0, hl, pour_from 0, pourFrom, ← hA0, hl]
        by_cases c0 : b.1 ≤ y
        · rw [if_pos c0, if_pos c0, show max b.2 y = b.2 by omega]
        · rw [if_neg c0, if_neg c0]
          unfold pour
          rw [hB0, fold_cons, List.append_assoc]
          rfl
theorem held_two {A B W : List Spn} {s : Int} (hA : ∀ x ∈ A, x.1 < x.2 ∧ x.2 ≤ s) (hB : ∀ x ∈ B, s ≤ x.1 ∧ x.1 < x.2) (oA : ∀ x ∈ A, okS x) (p : W.Perm (A ++ B)) : heldL (pour W) = heldL (pour A) + heldL (pour B) := by
  rcases pour_two hA hB oA p with ⟨e1, e2⟩ | ⟨e1, e2⟩ | ⟨m, c, y, b, x, R, e1, e2, hy, e3⟩
  · rw [e1, e2]
    show _ = 0 + _
    omega
  · rw [e1, e2]
    show _ = _ + 0
    omega
  · rw [e3]
    by_cases h : b ≤ y
    · rw [if_pos h, e1, e2, heldL_app, heldL_app, heldL_cons, heldL_cons, heldL_cons]
      show _ + ((x - c) + _) = _ + ((y - c) + heldL []) + ((x - b) + _)
      show _ + ((x - c) + _) = _ + ((y - c) + 0) + ((x - b) + _)
      omega
    · rw [if_neg h, heldL_app]
theorem cover_two {A B W : List Spn} {s : Int} (hA : ∀ x ∈ A, x.1 < x.2 ∧ x.2 ≤ s) (hB : ∀ x ∈ B, s ≤ x.1 ∧ x.1 < x.2) (oA : ∀ x ∈ A, okS x) (oB : ∀ x ∈ B, okS x) (p : W.Perm (A ++ B)) : pour W = pour (pour A ++ pour B) := by
  obtain ⟨gA, pA⟩ := pour_ok oA
  obtain ⟨gB, pB⟩ := pour_ok oB
  have iA : pour (pour A) = pour A := pour_idem gA fun t ht => (pA t ht).1.2.1
  have iB : pour (pour B) = pour B := pour_idem gB fun t ht => (pB t ht).1.2.1
  have h2 := pour_two (A := pour A) (B := pour B) (W := pour A ++ pour B) (s := s) (fun x hx => by
    obtain ⟨o, _, t, ht, e⟩ := pA x hx
    exact ⟨o.2.1, by rw [e]; exact (hA t ht).2⟩) (fun x hx => by
    obtain ⟨o, ⟨t, ht, e⟩, _⟩ := pB x hx
    exact ⟨by rw [e]; exact (hB t ht).1, o.2.1⟩) (fun x hx => (pA x hx).1) (List.Perm.refl _)
  rw [iA, iB] at h2
  rcases pour_two hA hB oA p with ⟨e1, e2⟩ | ⟨e1, e2⟩ | ⟨m, c, y, b, x, R, e1, e2, hy, e3⟩
  · rw [e2, e1, List.nil_append, iB]
  · rw [e2, e1, List.append_nil, iA]
  · rcases h2 with ⟨f1, _⟩ | ⟨f1, _⟩ | ⟨m', c', y', b', x', R', f1, f2, _, f3⟩
    · rw [e1] at f1
      simp at f1
    · rw [e2] at f1
      cases f1
    · rw [e3, f3]
      rw [e1] at f1
      rw [e2] at f2
      obtain ⟨rfl, h3⟩ := List.append_inj' f1 rfl
      obtain ⟨h4, rfl⟩ := List.cons.inj f2
      obtain ⟨rfl, rfl⟩ := Prod.mk.inj h4
      obtain ⟨rfl, rfl⟩ := Prod.mk.inj (List.cons.inj h3).1
      rfl
end Sh
end

section
/-! the deepest: the greatest number over a place; rows; those held apart -/
namespace Sh
theorem piece_step (dep : Int → Nat) (f : List (Int × Int × Int)) (s : Spn) : (∀ t ∈ pieceStep dep f s, (∃ u ∈ f, u.2.2 = t.2.2) ∨ (t.2.2 = dep s.1 ∧ 0 < dep s.1)) ∧ (∀ t ∈ f, ∃ u ∈ pieceStep dep f s, u.2.2 = t.2.2) ∧ (0 < dep s.1 → ∃ u ∈ pieceStep dep f s, u.2.2 = dep s.1) := by
  unfold pieceStep
  rcases List.eq_nil_or_concat f with e | ⟨m, l, e⟩
  · subst e
    simp only [List.getLast?_nil]
    by_cases h : (0 : Int) < dep s.1
    · rw [if_pos h]
      exact ⟨fun t ht => .inr (by rw [List.nil_append, List.mem_singleton] at ht; subst ht; exact ⟨rfl, by omega⟩), fun t ht => (List.not_mem_nil ht).elim, fun _ => ⟨(s.1, s.2, (dep s.1 : Int)), by simp, rfl⟩⟩
    · rw [if_neg h]
      exact ⟨fun t ht => (List.not_mem_nil ht).elim, fun t ht => (List.not_mem_nil ht).elim, fun h2 => absurd (by omega) h⟩
  · rw [List.concat_eq_append] at e
    subst e
    rw [List.getLast?_concat]
    simp only
    by_cases c : l.2.1 = s.1 ∧ l.2.2 = (dep s.1 : Int)
    · rw [if_pos c, List.dropLast_concat]
      refine ⟨fun t ht => ?_, fun t ht => ?_, fun _ => ⟨(l.1, s.2, (dep s.1 : Int)), by simp, rfl⟩⟩
      · rcases List.mem_append.mp ht with h | h
        · exact .inl ⟨t, List.mem_append_left _ h, rfl⟩
        · rw [List.mem_singleton] at h
          subst h
          exact .inl ⟨l, by simp, c.2⟩
      · rcases List.mem_append.mp ht with h | h
        · exact ⟨t, List.mem_append_left _ h, rfl⟩
        · rw [List.mem_singleton] at h
          subst h
          exact ⟨(t.1, s.2, (dep s.1 : Int)), by simp, c.2.symm⟩
    · rw [if_neg c]
      by_cases h : (0 : Int) < dep s.1
      · rw [if_pos h]
        refine ⟨fun t ht => ?_, fun t ht => ⟨t, List.mem_append_left _ ht, rfl⟩, fun _ => ⟨(s.1, s.2, (dep s.1 : Int)), by simp, rfl⟩⟩
        rcases List.mem_append.mp ht with h2 | h2
        · exact .inl ⟨t, h2, rfl⟩
        · rw [List.mem_singleton] at h2
          subst h2
          exact .inr ⟨rfl, by omega⟩
      · rw [if_neg h]
        exact ⟨fun t ht => .inl ⟨t, ht, rfl⟩, fun t ht => ⟨t, ht, rfl⟩, fun h2 => absurd (by omega) h⟩
theorem piece_fold (dep : Int → Nat) : ∀ (l : List Spn) (f : List (Int × Int × Int)), (∀ t ∈ l.foldl (pieceStep dep) f, (∃ u ∈ f, u.2.2 = t.2.2) ∨ ∃ s ∈ l, t.2.2 = dep s.1 ∧ 0 < dep s.1) ∧ (∀ t ∈ f, ∃ u ∈ l.foldl (pieceStep dep) f, u.2.2 = t.2.2) ∧ ∀ s ∈ l, 0 < dep s.1 → ∃ u ∈ l.foldl (pieceStep dep) f, u.2.2 = dep s.1
  | [], f => ⟨fun t ht => .inl ⟨t, ht, rfl⟩, fun t ht => ⟨t, ht, rfl⟩, fun s h => (List.not_mem_nil h).elim⟩
  | s :: l, f => by
    obtain ⟨a1, a2, a3⟩ := piece_step dep f s
    obtain ⟨b1, b2, b3⟩ := piece_fold dep l (pieceStep dep f s)
    rw [List.foldl_cons]
    refine ⟨fun t ht => ?_, fun t ht => ?_, fun x hx hp => ?_⟩
    · rcases b1 t ht with ⟨u, hu, e⟩ | ⟨x, hx, h⟩
      · rcases a1 u hu with ⟨v, hv, e2⟩ | ⟨e2, h2⟩
        · exact .inl ⟨v, hv, e2.trans e⟩
        · exact .inr ⟨s, List.mem_cons_self, e.symm.trans e2, h2⟩
      · exact .inr ⟨x, List.mem_cons_of_mem _ hx, h⟩
    · obtain ⟨u, hu, e⟩ := a2 t ht
      obtain ⟨v, hv, e2⟩ := b2 u hu
      exact ⟨v, hv, e2.trans e⟩
    · rcases List.mem_cons.mp hx with e | e
      · subst e
        obtain ⟨u, hu, e⟩ := a3 hp
        obtain ⟨v, hv, e2⟩ := b2 u hu
        exact ⟨v, hv, e2.trans e⟩
      · exact b3 x e hp
theorem deep_some (x : Int × Int × Int) (o : Option Spn) : ∃ b, deepStep o x = some b ∧ (∀ c, o = some c → c.1 ≤ b.1) ∧ x.2.2 ≤ b.1 ∧ (b.1 = x.2.2 ∨ ∃ c, o = some c ∧ b.1 = c.1) := by
  unfold deepStep
  cases o with
  | none => exact ⟨_, rfl, (fun c h => nomatch h), Int.le_refl _, .inl rfl⟩
  | some c =>
    simp only
    by_cases h : c.1 < x.2.2
    · rw [if_pos h]
      exact ⟨_, rfl, (fun d e => by cases e; exact Int.le_of_lt h), Int.le_refl _, .inl rfl⟩
    · rw [if_neg h]
      exact ⟨_, rfl, (fun d e => by cases e; exact Int.le_refl _), by omega, .inr ⟨c, rfl, rfl⟩⟩
theorem deep_fold : ∀ (l : List (Int × Int × Int)) (o : Option Spn), (∀ c, o = some c → ∃ b, l.foldl deepStep o = some b ∧ c.1 ≤ b.1) ∧ (∀ x ∈ l, ∃ b, l.foldl deepStep o = some b ∧ x.2.2 ≤ b.1) ∧ ∀ b, l.foldl deepStep o = some b → (o = some b ∨ (∃ c, o = some c ∧ b.1 = c.1)) ∨ ∃ x ∈ l, b.1 = x.2.2
  | [], o => ⟨fun c e => ⟨c, e, Int.le_refl _⟩, fun x h => (List.not_mem_nil h).elim, fun b e => .inl (.inl e)⟩
  | x :: l, o => by
    obtain ⟨b0, e0, h1, h2, h3⟩ := deep_some x o
    obtain ⟨a1, a2, a3⟩ := deep_fold l (deepStep o x)
    rw [List.foldl_cons]
    obtain ⟨b1, e1, l1⟩ := a1 b0 e0
    refine ⟨fun c e => ⟨b1, e1, Int.le_trans (h1 c e) l1⟩, fun y hy => ?_, fun b e => ?_⟩
    · rcases List.mem_cons.mp hy with q | q
      · rw [q]
        exact ⟨b1, e1, by omega⟩
      · exact a2 y q
    · rcases a3 b e with (q | ⟨c, q, e2⟩) | ⟨y, hy, e2⟩
      · rw [e0] at q
        have := Option.some.inj q
        subst this
        rcases h3 with h | ⟨c, h, e3⟩
        · exact .inr ⟨x, List.mem_cons_self, h⟩
        · exact .inl (.inr ⟨c, h, e3⟩)
      · rw [e0] at q
        have := Option.some.inj q
        subst this
        rcases h3 with h | ⟨c, h, e3⟩
        · exact .inr ⟨x, List.mem_cons_self, e2.trans h⟩
        · exact .inl (.inr ⟨c, h, e2.trans e3⟩)
      · exact .inr ⟨y, List.mem_cons_of_mem _ hy, e2⟩
def deepV (ss : List Spn) : Int := match deepOf ss (depthN ss) with
  | some b => b.1
  | none => 0
theorem mem_endsL {ss : List Spn} {s : Spn} (h : s ∈ ss) : s.1 ∈ ends ss ∧ s.2 ∈ ends ss := by
  unfold ends
  rw [mem_sortU, mem_sortU]
  exact ⟨List.mem_append_left _ (List.mem_map.mpr ⟨s, h, rfl⟩), List.mem_append_right _ (List.mem_map.mpr ⟨s, h, rfl⟩)⟩
/-- over a place lie as many as over the greatest end not behind it -/
theorem depth_at {ss : List Spn} {p : Int} (h : 0 < depthN ss p) : ∃ s ∈ (ends ss).zip ((ends ss).drop 1), depthN ss s.1 = depthN ss p := by
  have srt : (ends ss).Pairwise (· < ·) := sortU_lt _
  obtain ⟨t, ht⟩ := List.exists_mem_of_length_pos h
  obtain ⟨ht, hh⟩ := List.mem_filter.mp ht
  have hh : t.1 ≤ p ∧ p < t.2 := of_decide_eq_true hh
  obtain ⟨m1, m2⟩ := mem_endsL ht
  obtain ⟨a, ea⟩ := List.mem_iff_getElem?.mp m1
  obtain ⟨b, eb⟩ := List.mem_iff_getElem?.mp m2
  obtain ⟨c, c1, ⟨q, hq, hqp⟩, c3⟩ := greatest (P := fun j => ∃ x, (ends ss)[j]? = some x ∧ x ≤ p) (n := (ends ss).length) ⟨a, (List.getElem?_eq_some_iff.mp ea).1, t.1, ea, hh.1⟩
  have cb : c < b := (srt_lt srt hq eb).mpr (by omega)
  have bn := (List.getElem?_eq_some_iff.mp eb).1
  obtain ⟨q2, hq2⟩ : ∃ q2, (ends ss)[c + 1]? = some q2 := ⟨_, List.getElem?_eq_getElem (by omega)⟩
  refine ⟨(q, q2), ?_, ?_⟩
  · refine List.mem_of_getElem? (i := c) ?_
    exact List.getElem?_zip_eq_some.mpr ⟨hq, by rw [List.getElem?_drop, Nat.add_comm]; exact hq2⟩
  · show depthN ss q = depthN ss p
    unfold depthN
    congr 1
    refine List.filter_congr fun u hu => ?_
    obtain ⟨u1, u2⟩ := mem_endsL hu
    obtain ⟨a', ea'⟩ := List.mem_iff_getElem?.mp u1
    obtain ⟨b', eb'⟩ := List.mem_iff_getElem?.mp u2
    unfold holdsB
    refine decide_eq_decide.mpr ⟨fun z => ⟨by omega, ?_⟩, fun z => ⟨?_, by omega⟩⟩
    · by_cases g : u.2 ≤ p
      · have := c3 b' (List.getElem?_eq_some_iff.mp eb').1 ⟨_, eb', g⟩
        have l := srt_lt srt hq eb'
        omega
      · omega
    · have := c3 a' (List.getElem?_eq_some_iff.mp ea').1 ⟨_, ea', z.1⟩
      have l := srt_lt srt hq ea'
      omega
theorem deep_spec (ss : List Spn) : (∀ p, (depthN ss p : Int) ≤ deepV ss) ∧ (deepV ss = 0 ∨ ∃ p, (depthN ss p : Int) = deepV ss) ∧ ∀ p, 0 < depthN ss p → deepOf ss (depthN ss) ≠ none := by
  obtain ⟨a1, _, a3⟩ := piece_fold (depthN ss) ((ends ss).zip ((ends ss).drop 1)) []
  obtain ⟨_, b2, b3⟩ := deep_fold (piecesOf ss (depthN ss)) none
  have key : ∀ p, 0 < depthN ss p → ∃ b, deepOf ss (depthN ss) = some b ∧ (depthN ss p : Int) ≤ b.1 := fun p hp => by
    obtain ⟨s, hs, e⟩ := depth_at hp
    obtain ⟨u, hu, e2⟩ := a3 s hs (by rw [e]; exact hp)
    obtain ⟨b, e3, l⟩ := b2 u hu
    refine ⟨b, e3, ?_⟩
    rw [e2, e] at l
    exact l
  refine ⟨fun p => ?_, ?_, fun p hp => ?_⟩
  · rcases Nat.eq_zero_or_pos (depthN ss p) with h | h
    · rw [h]
      unfold deepV
      cases e : deepOf ss (depthN ss) with
      | none => exact Int.le_refl _
      | some b =>
        rcases b3 b e with (q | ⟨c, q, _⟩) | ⟨x, hx, e2⟩
        · cases q
        · cases q
        · rcases a1 x hx with ⟨u, hu, _⟩ | ⟨s, _, e3, h3⟩
          · exact (List.not_mem_nil hu).elim
          · show ((0 : Nat) : Int) ≤ b.1
            omega
    · obtain ⟨b, e, l⟩ := key p h
      unfold deepV
      rw [e]
      exact l
  · unfold deepV
    cases e : deepOf ss (depthN ss) with
    | none => exact .inl rfl
    | some b =>
      rcases b3 b e with (q | ⟨c, q, _⟩) | ⟨x, hx, e2⟩
      · cases q
      · cases q
      · rcases a1 x hx with ⟨u, hu, _⟩ | ⟨s, _, e3, h3⟩
        · exact (List.not_mem_nil hu).elim
        · exact .inr ⟨s.1, by show _ = b.1; omega⟩
  · obtain ⟨b, e, _⟩ := key p hp
    rw [e]
    exact fun h => by cases h
/-- at the seam nothing is deeper -/
theorem deep_two {A B W : List Spn} {s : Int} (hA : ∀ x ∈ A, x.1 < x.2 ∧ x.2 ≤ s) (hB : ∀ x ∈ B, s ≤ x.1 ∧ x.1 < x.2) (p : W.Perm (A ++ B)) : deepV W = max (deepV A) (deepV B) := by
  have dW : ∀ q, depthN W q = depthN A q + depthN B q := fun q => by
    unfold depthN
    rw [(p.filter _).length_eq, List.filter_append, List.length_append]
  have one : ∀ q, depthN A q = 0 ∨ depthN B q = 0 := fun q => by
    by_cases h : q < s
    · refine .inr (List.length_eq_zero_iff.mpr (List.filter_eq_nil_iff.mpr fun x hx => ?_))
      have := hB x hx
      unfold holdsB
      rw [decide_eq_true_iff]
      omega
    · refine .inl (List.length_eq_zero_iff.mpr (List.filter_eq_nil_iff.mpr fun x hx => ?_))
      have := hA x hx
      unfold holdsB
      rw [decide_eq_true_iff]
      omega
  obtain ⟨w1, w2, _⟩ := deep_spec W
  obtain ⟨a1, a2, _⟩ := deep_spec A
  obtain ⟨b1, b2, _⟩ := deep_spec B
  have a0 := a1 0
  have b0 := b1 0
  have w0 := w1 0
  have g1 : deepV A ≤ deepV W := by
    rcases a2 with e | ⟨q, e⟩
    · omega
    · have := w1 q
      have := dW q
      omega
  have g2 : deepV B ≤ deepV W := by
    rcases b2 with e | ⟨q, e⟩
    · omega
    · have := w1 q
      have := dW q
      omega
  have g3 : deepV W ≤ max (deepV A) (deepV B) := by
    rcases w2 with e | ⟨q, e⟩
    · omega
    · have := dW q
      have := a1 q
      have := b1 q
      rcases one q with h | h <;> omega
  omega
end Sh
end

section
/-! held apart, rows, places: two lists one behind the other -/
namespace Sh
/-- A ends where B begins -/
structure Seam (A B : List Spn) (s : Int) : Prop where
  a : ∀ x ∈ A, x.1 < x.2 ∧ x.2 ≤ s
  b : ∀ x ∈ B, s ≤ x.1 ∧ x.1 < x.2
/-! ### apart -/
def apStep2 (pins : List Int) (x : Spn) : List Int := match pins.getLast? with
  | some l => if l < x.2 then pins ++ [x.1 - 1] else pins
  | none => pins ++ [x.1 - 1]
def swp (x : Spn) : Spn := (x.2, x.1)
theorem ap_len : ∀ (l : List (Int × Int × Int)) (st : List Int × List Int), st.1.length = st.2.length → (l.foldl apartStep st).1.length = (l.foldl apartStep st).2.length ∧ (l.foldl apartStep st).2 = (l.map pairOf).foldl apStep2 st.2
  | [], st, h => ⟨h, rfl⟩
  | x :: l, st, h => by
    rw [List.foldl_cons, List.map_cons, List.foldl_cons]
    have e : (apartStep st x).1.length = (apartStep st x).2.length ∧ (apartStep st x).2 = apStep2 st.2 (pairOf x) := by
      unfold apartStep apStep2 pairOf
      cases st.2.getLast? with
      | none => exact ⟨by simp [h], rfl⟩
      | some y =>
        simp only
        by_cases c : y < x.2.1
        · rw [if_pos c, if_pos c]
          exact ⟨by simp [h], rfl⟩
        · rw [if_neg c, if_neg c]
          exact ⟨h, rfl⟩
    obtain ⟨a, b⟩ := ap_len l (apartStep st x) e.1
    rw [e.2] at b
    exact ⟨a, b⟩
theorem apart_pairs (ss : List Spn) : (isort le3 (apartKeys ss)).map pairOf = isort le2 (ss.map swp) := by
  refine eq_isort ord2 ?_ ?_
  · refine ((isort_perm _).map _).trans ?_
    unfold apartKeys
    rw [List.map_map]
    have : (ss.zipIdx.map (pairOf ∘ fun s => (s.1.2, s.1.1, (s.2 : Int)))) = ss.map swp := by
      rw [show (pairOf ∘ fun s : Spn × Nat => (s.1.2, s.1.1, (s.2 : Int))) = swp ∘ Prod.fst from rfl, ← List.map_map, List.zipIdx_map_fst]
    rw [this]
  · refine List.pairwise_map.mpr (List.Pairwise.imp (fun {x y} h => ?_) (isort_sorted ord3 (apartKeys ss)))
    have h := of_decide_eq_true h
    refine decide_eq_true ?_
    show x.1 < y.1 ∨ (x.1 = y.1 ∧ x.2.1 ≤ y.2.1)
    omega
theorem apart_eq (ss : List Spn) : (apart ss).1.length = ((isort le2 (ss.map swp)).foldl apStep2 []).length := by
  obtain ⟨a, b⟩ := ap_len (isort le3 (apartKeys ss)) ([], []) rfl
  unfold apart
  rw [a, b, apart_pairs]
theorem ap_pre : ∀ (l : List Spn) (P Q : List Int), Q ≠ [] → l.foldl apStep2 (P ++ Q) = P ++ l.foldl apStep2 Q
  | [], P, Q, _ => rfl
  | x :: l, P, Q, h => by
    rw [List.foldl_cons, List.foldl_cons]
    obtain ⟨m, y, e⟩ : ∃ m y, Q = m ++ [y] := by
      rcases List.eq_nil_or_concat Q with e | ⟨m, y, e⟩
      · exact (h e).elim
      · exact ⟨m, y, by rw [e, List.concat_eq_append]⟩
    have e1 : apStep2 (P ++ Q) x = P ++ apStep2 Q x := by
      unfold apStep2
      rw [e, ← List.append_assoc, List.getLast?_concat, List.getLast?_concat]
      simp only
      by_cases c : y < x.2
      · rw [if_pos c, if_pos c]
        simp
      · rw [if_neg c, if_neg c, List.append_assoc]
    have e2 : apStep2 Q x ≠ [] := by
      unfold apStep2
      rw [e, List.getLast?_concat]
      simp only
      split <;> simp
    rw [e1, ap_pre l P _ e2]
theorem ap_last : ∀ (l : List Spn) (P : List Int) (s : Int), (∀ x ∈ l, x.1 ≤ s) → (∀ y ∈ P, y < s) → ∀ y ∈ l.foldl apStep2 P, y < s
  | [], P, s, _, h => h
  | x :: l, P, s, hl, h => by
    rw [List.foldl_cons]
    refine ap_last l _ s (fun y hy => hl y (List.mem_cons_of_mem _ hy)) fun y hy => ?_
    have hx := hl x List.mem_cons_self
    have g : ∀ z ∈ P ++ [x.1 - 1], z < s := fun z hz => by
      rcases List.mem_append.mp hz with q | q
      · exact h z q
      · rw [List.mem_singleton.mp q]
        omega
    unfold apStep2 at hy
    split at hy
    · split at hy
      · exact g y hy
      · exact h y hy
    · exact g y hy
theorem apart_two {A B W : List Spn} {s : Int} (S : Seam A B s) (p : W.Perm (A ++ B)) : (apart W).1.length = (apart A).1.length + (apart B).1.length := by
  rw [apart_eq, apart_eq, apart_eq]
  have e : isort le2 (W.map swp) = isort le2 (A.map swp) ++ isort le2 (B.map swp) := isort_two ord2 (by rw [← List.map_append]; exact p.map _) fun a ha b hb => by
    obtain ⟨x, hx, rfl⟩ := List.mem_map.mp ha
    obtain ⟨y, hy, rfl⟩ := List.mem_map.mp hb
    have := S.a x hx
    have := S.b y hy
    refine decide_eq_true (.inl ?_)
    show x.2 < y.2
    omega
  rw [e, List.foldl_append]
  have hp := ap_last (isort le2 (A.map swp)) [] s (fun x hx => by
    obtain ⟨z, hz, rfl⟩ := List.mem_map.mp (isort_mem.mp hx)
    exact (S.a z hz).2) (fun y hy => (List.not_mem_nil hy).elim)
  generalize (isort le2 (A.map swp)).foldl apStep2 [] = P at hp
  have hb : ∀ x ∈ isort le2 (B.map swp), s ≤ x.2 := fun x hx => by
    obtain ⟨z, hz, rfl⟩ := List.mem_map.mp (isort_mem.mp hx)
    exact (S.b z hz).1
  cases h : isort le2 (B.map swp) with
  | nil => rfl
  | cons x l =>
    rw [h] at hb
    have hx := hb x List.mem_cons_self
    rw [List.foldl_cons, List.foldl_cons]
    have e1 : apStep2 P x = P ++ [x.1 - 1] := by
      unfold apStep2
      cases g : P.getLast? with
      | none => rfl
      | some y =>
        have hy := hp y (List.mem_of_getLast? g)
        exact if_pos (by omega)
    have e2 : apStep2 [] x = [x.1 - 1] := rfl
    rw [e1, e2, ap_pre l P [x.1 - 1] (by simp), List.length_append]
/-! ### rows -/
def rowEnd (es : List Int) (x : Spn) : List Int := if firstFree es x.1 = es.length then es ++ [x.2] else es.set (firstFree es x.1) x.2
theorem row_ends (l : List (Int × Int × Int)) (st : List Int × List Int) : (l.foldl rowStep st).2 = (l.map pairOf).foldl rowEnd st.2 := by
  induction l generalizing st with
  | nil => rfl
  | cons x l ih =>
    rw [List.foldl_cons, List.map_cons, List.foldl_cons, ih]
    rfl
def IsTop (l : List Int) (m : Int) : Prop := m ∈ l ∧ ∀ y ∈ l, y ≤ m
theorem top_unique {l : List Int} {m k : Int} (a : IsTop l m) (b : IsTop l k) : m = k := by
  have := a.2 k b.1
  have := b.2 m a.1
  omega
theorem rows_go : ∀ (l : List (Int × Int × Int)) (st : List Int × List Int) (seen : List Int), (l.map (·.2.2)).Nodup → (∀ x ∈ l, ∃ k : Nat, x.2.2 = (k : Int) ∧ k < st.1.length) → (∀ x ∈ l, x.2.2 ∉ seen) →
    (∀ y ∈ st.1, y ≤ 0 ∨ y ≤ (st.2.length : Int) - 1) → (st.2 ≠ [] → ∃ k : Nat, (k : Int) ∈ seen ∧ st.1[k]? = some ((st.2.length : Int) - 1)) →
    (∀ y ∈ (l.foldl rowStep st).1, y ≤ 0 ∨ y ≤ ((l.foldl rowStep st).2.length : Int) - 1) ∧ ((l.foldl rowStep st).2 ≠ [] → ((l.foldl rowStep st).2.length : Int) - 1 ∈ (l.foldl rowStep st).1)
  | [], st, seen, _, _, _, h1, h2 => ⟨h1, fun h => let ⟨k, _, e⟩ := h2 h; List.mem_of_getElem? e⟩
  | x :: l, st, seen, nd, hk, hs, h1, h2 => by
    rw [List.foldl_cons]
    obtain ⟨n1, n2⟩ := List.nodup_cons.mp (show (x.2.2 :: l.map (·.2.2)).Nodup from nd)
    obtain ⟨k, ek, hkl⟩ := hk x List.mem_cons_self
    have hff := ff_le st.2 x.1
    have e1 : (rowStep st x).1 = st.1.set k (firstFree st.2 x.1 : Int) := by
      show st.1.set x.2.2.toNat _ = _
      rw [ek, Int.toNat_natCast]
    have e2 : (rowStep st x).2.length = if firstFree st.2 x.1 = st.2.length then st.2.length + 1 else st.2.length := by
      show (if firstFree st.2 x.1 = st.2.length then st.2 ++ [x.2.1] else st.2.set (firstFree st.2 x.1) x.2.1).length = _
      split
      · rw [List.length_append, List.length_singleton]
      · rw [List.length_set]
    refine rows_go l (rowStep st x) (x.2.2 :: seen) n2 (fun y hy => ?_) (fun y hy hm => ?_) (fun y hy => ?_) fun hne => ?_
    · obtain ⟨j, ej, hj⟩ := hk y (List.mem_cons_of_mem _ hy)
      exact ⟨j, ej, by rw [e1, List.length_set]; exact hj⟩
    · rcases List.mem_cons.mp hm with q | q
      · exact n1 (List.mem_map.mpr ⟨y, hy, q⟩)
      · exact hs y (List.mem_cons_of_mem _ hy) q
    · rw [e1] at hy
      rw [e2]
      rcases List.mem_or_eq_of_mem_set hy with q | q
      · have := h1 y q
        split <;> omega
      · rw [q]
        split <;> omega
    · rw [e2, e1]
      by_cases c : firstFree st.2 x.1 = st.2.length
      · refine ⟨k, by rw [← ek]; exact List.mem_cons_self, ?_⟩
        rw [List.getElem?_set_self hkl, if_pos c, c]
        congr 1
        omega
      · rw [if_neg c]
        have hne2 : st.2 ≠ [] := fun e => c (by
          have : firstFree st.2 x.1 ≤ 0 := by rw [e] at hff ⊢; exact hff
          rw [e] at this ⊢
          exact Nat.le_zero.mp this)
        obtain ⟨j, hj, ej⟩ := h2 hne2
        refine ⟨j, List.mem_cons_of_mem _ hj, ?_⟩
        rw [List.getElem?_set_ne (fun e => hs x List.mem_cons_self (by rw [ek, e]; exact hj))]
        exact ej
theorem rows_top (ss : List Spn) : IsTop ((rowsOf ss).1 ++ [-1]) (((rowsOf ss).2.length : Int) - 1) := by
  have g := gs_start ss
  have nd : ((isort le3 (rowKeys ss)).map (·.2.2)).Nodup := by
    have := g.nd
    unfold numsG at this
    rw [List.map_nil, List.append_nil] at this
    exact this
  obtain ⟨a, b⟩ := rows_go (isort le3 (rowKeys ss)) (List.replicate ss.length 0, []) [] nd (fun x hx => by
    obtain ⟨k, s, hk, e⟩ := rowKey hx
    exact ⟨k, by rw [e], by rw [List.length_replicate]; exact (List.getElem?_eq_some_iff.mp hk).1⟩) (fun _ _ h => (List.not_mem_nil h).elim) (fun y hy => by
    rw [(List.mem_replicate.mp hy).2]
    exact .inl (Int.le_refl _)) (fun h => (h rfl).elim)
  have a : ∀ y ∈ (rowsOf ss).1, y ≤ 0 ∨ y ≤ ((rowsOf ss).2.length : Int) - 1 := a
  have b : (rowsOf ss).2 ≠ [] → ((rowsOf ss).2.length : Int) - 1 ∈ (rowsOf ss).1 := b
  have hl : (rowsOf ss).1.length = ss.length := by
    have := (row_len (isort le3 (rowKeys ss)) (List.replicate ss.length 0, [])).1
    rw [List.length_replicate] at this
    exact this
  have he : (rowsOf ss).2 = (isort le2 ss).foldl rowEnd [] := by
    show ((isort le3 (rowKeys ss)).foldl rowStep _).2 = _
    rw [row_ends, keys_pairs]
  by_cases hn : (rowsOf ss).2 = []
  · have hs : ss = [] := by
      cases hss : isort le2 ss with
      | nil =>
        have := isort_len (le := le2) ss
        rw [hss] at this
        exact List.eq_nil_of_length_eq_zero this.symm
      | cons x l =>
        exfalso
        rw [he, hss, List.foldl_cons] at hn
        have grow : ∀ (l : List Spn) (es : List Int), es ≠ [] → l.foldl rowEnd es ≠ [] := fun l => by
          induction l with
          | nil => exact fun es h => h
          | cons y l ih =>
            intro es h
            rw [List.foldl_cons]
            refine ih _ fun e => h ?_
            unfold rowEnd at e
            split at e
            · simp at e
            · have := congrArg List.length e
              rw [List.length_set] at this
              exact List.eq_nil_of_length_eq_zero this
        exact grow l _ (by show rowEnd [] x ≠ []; unfold rowEnd; simp [firstFree]) hn
    have : (rowsOf ss).1 = [] := List.eq_nil_of_length_eq_zero (by rw [hl, hs]; rfl)
    rw [this, hn]
    exact ⟨by simp, fun y hy => by simp at hy; rw [hy]; simp⟩
  · have hpos := List.length_pos_iff.mpr hn
    refine ⟨List.mem_append_left _ (b hn), fun y hy => ?_⟩
    rcases List.mem_append.mp hy with h | h
    · have := a y h
      omega
    · rw [List.mem_singleton.mp h]
      omega
theorem ff_app (F E : List Int) (low : Int) (h : ∀ e ∈ E, e ≤ low) : firstFree (F ++ E) low = firstFree F low := by
  induction F with
  | nil =>
    cases E with
    | nil => rfl
    | cons e E => exact if_pos (h e List.mem_cons_self)
  | cons f F ih =>
    rw [List.cons_append, firstFree, firstFree, ih]
theorem rows_rel {s : Int} : ∀ (l : List Spn) (E F : List Int), (∀ x ∈ l, s ≤ x.1) → (∀ e ∈ E, e ≤ s) → l.foldl rowEnd (F ++ E.drop F.length) = (l.foldl rowEnd F) ++ E.drop (l.foldl rowEnd F).length
  | [], E, F, _, _ => rfl
  | x :: l, E, F, hl, hE => by
    rw [List.foldl_cons, List.foldl_cons]
    have hx := hl x List.mem_cons_self
    have hd : ∀ e ∈ E.drop F.length, e ≤ x.1 := fun e he => by
      have := hE e (List.mem_of_mem_drop he)
      omega
    have e1 : rowEnd (F ++ E.drop F.length) x = rowEnd F x ++ E.drop (rowEnd F x).length := by
      unfold rowEnd
      rw [ff_app F _ x.1 hd]
      have hff := ff_le F x.1
      by_cases c : firstFree F x.1 = F.length
      · have eL : (F ++ [x.2]).length = F.length + 1 := by simp
        rw [if_pos c, eL]
        by_cases c2 : E.drop F.length = []
        · rw [c2, List.append_nil, if_pos c]
          have : E.drop (F.length + 1) = [] := by
            rw [List.drop_eq_nil_iff] at c2 ⊢
            omega
          rw [this, List.append_nil]
        · obtain ⟨e0, r, he⟩ := List.exists_cons_of_ne_nil c2
          have hr : r = E.drop (F.length + 1) := by
            rw [← List.tail_drop, he]
            rfl
          rw [if_neg (by rw [c, List.length_append, he, List.length_cons]; omega), c, he, List.set_append_right _ _ (Nat.le_refl _), Nat.sub_self, List.set_cons_zero, ← hr]
          simp
      · rw [if_neg c, if_neg (by rw [List.length_append]; omega), List.set_append_left _ _ (by omega), List.length_set]
    rw [e1]
    exact rows_rel l E (rowEnd F x) (fun y hy => hl y (List.mem_cons_of_mem _ hy)) hE
theorem rows_le {s : Int} : ∀ (l : List Spn) (E : List Int), (∀ x ∈ l, x.2 ≤ s) → (∀ e ∈ E, e ≤ s) → ∀ e ∈ l.foldl rowEnd E, e ≤ s
  | [], E, _, h => h
  | x :: l, E, hl, h => by
    rw [List.foldl_cons]
    refine rows_le l _ (fun y hy => hl y (List.mem_cons_of_mem _ hy)) fun e he => ?_
    have hx := hl x List.mem_cons_self
    unfold rowEnd at he
    split at he
    · rcases List.mem_append.mp he with q | q
      · exact h e q
      · rw [List.mem_singleton.mp q]
        exact hx
    · rcases List.mem_or_eq_of_mem_set he with q | q
      · exact h e q
      · rw [q]
        exact hx
theorem rows_two {A B W : List Spn} {s : Int} (S : Seam A B s) (p : W.Perm (A ++ B)) : (rowsOf W).2.length = max (rowsOf A).2.length (rowsOf B).2.length := by
  have e : isort le2 W = isort le2 A ++ isort le2 B := isort_two ord2 p fun a ha b hb => by
    have := S.a a ha
    have := S.b b hb
    exact decide_eq_true (.inl (by omega))
  have he : ∀ ss : List Spn, (rowsOf ss).2 = (isort le2 ss).foldl rowEnd [] := fun ss => by
    show ((isort le3 (rowKeys ss)).foldl rowStep _).2 = _
    rw [row_ends, keys_pairs]
  rw [he, he, he, e, List.foldl_append]
  have hE := rows_le (s := s) (isort le2 A) [] (fun x hx => (S.a x (isort_mem.mp hx)).2) (fun e h => (List.not_mem_nil h).elim)
  have := rows_rel (s := s) (isort le2 B) ((isort le2 A).foldl rowEnd []) [] (fun x hx => (S.b x (isort_mem.mp hx)).1) hE
  rw [List.length_nil, List.drop_zero, List.nil_append] at this
  rw [this, List.length_append, List.length_drop]
  omega
/-! ### places -/
theorem pl_two {A B W : List Spn} {s : Int} {kA kB : Nat} (S : Seam A B s) (p : W.Perm (A ++ B)) (hA : IsPl A kA) (hB : IsPl B kB) : IsPl W (kA + kB) := by
  have e : isort le2 W = isort le2 A ++ isort le2 B := isort_two ord2 p fun a ha b hb => by
    have := S.a a ha
    have := S.b b hb
    exact decide_eq_true (.inl (by omega))
  unfold IsPl
  rw [e]
  refine run_two (s := s) (fun x hx => (S.b x (isort_mem.mp hx)).1) ?_ hB hA (fun x hx => S.a x (isort_mem.mp hx)) (fun _ h => (List.not_mem_nil h).elim) fun h => (h rfl).elim
  exact (isort_sorted ord2 B).imp fun {x y} h => by
    have := of_decide_eq_true h
    omega
theorem pl_perm {A B : List Spn} {k : Nat} (p : A.Perm B) (h : IsPl A k) : IsPl B k := by
  unfold IsPl at h ⊢
  rw [← isort_congr ord2 p]
  exact h
theorem run_some : ∀ (n : Nat) (left : List Spn) (wt : List Int) (p : Int), left.length + wt.length ≤ n → ∃ k, Run left wt p k
  | n, left, wt, p, hn => by
    by_cases h : left ≠ [] ∨ wt ≠ []
    · have hpos : 0 < left.length + wt.length := h.elim (fun h => by have := List.length_pos_iff.mpr h; omega) fun h => by have := List.length_pos_iff.mpr h; omega
      cases n with
      | zero => omega
      | succ n =>
        have b := wOf2_len left wt (pOf left wt p)
        cases e : wOf2 left wt (pOf left wt p) with
        | nil =>
          have c : (lOf left (pOf left wt p)).length < left.length + wt.length := by
            by_cases hw : wt = []
            · cases left with
              | nil => exact (h.elim (fun h => h rfl) fun h => h hw).elim
              | cons x l =>
                have e : pOf (x :: l) wt p = x.1 := if_pos hw
                have c : (lOf (x :: l) x.1).length ≤ l.length := by
                  unfold lOf
                  rw [List.filter_cons, if_neg (by simp)]
                  exact List.length_filter_le _ _
                rw [e, List.length_cons]
                omega
            · have := List.length_pos_iff.mpr hw
              have : (lOf left (pOf left wt p)).length ≤ left.length := List.length_filter_le _ _
              omega
          obtain ⟨k, r⟩ := run_some n (lOf left (pOf left wt p)) [] (pOf left wt p + 1) (by rw [List.length_nil]; omega)
          exact ⟨k, .no h e r⟩
        | cons h0 w =>
          rw [e, List.length_cons] at b
          obtain ⟨k, r⟩ := run_some n (lOf left (pOf left wt p)) w (pOf left wt p + 1) (by omega)
          exact ⟨k + 1, .yes h e r⟩
    · have e1 : left = [] := by
        cases left with
        | nil => rfl
        | cons x l => exact (h (.inl (by simp))).elim
      have e2 : wt = [] := by
        cases wt with
        | nil => rfl
        | cons x l => exact (h (.inr (by simp))).elim
      subst e1 e2
      exact ⟨0, .done p⟩
theorem pl_some (ss : List Spn) : ∃ k, IsPl ss k := run_some _ _ _ _ (Nat.le_refl _)
theorem pl_le {ss : List Spn} {k : Nat} (h : IsPl ss k) : k ≤ ss.length := by
  have := run_le h
  rw [isort_len, List.length_nil] at this
  omega
end Sh
end

section
/-! two lists woven into one: where each stands -/
namespace Sh
inductive Wv {α : Type} : List α → List α → List α → Prop where
  | nil : Wv [] [] []
  | left {A B W : List α} (a : α) (h : Wv A B W) : Wv (a :: A) B (a :: W)
  | right {A B W : List α} (b : α) (h : Wv A B W) : Wv A (b :: B) (b :: W)
theorem Wv.perm {α : Type} {A B W : List α} (h : Wv A B W) : W.Perm (A ++ B) := by
  induction h with
  | nil => exact List.Perm.refl _
  | left a h ih => exact ih.cons a
  | right b h ih => exact (ih.cons b).trans List.perm_middle.symm
theorem Wv.map {α β : Type} (f : α → β) {A B W : List α} (h : Wv A B W) : Wv (A.map f) (B.map f) (W.map f) := by
  induction h with
  | nil => exact .nil
  | left a h ih => exact .left _ ih
  | right b h ih => exact .right _ ih
theorem Wv.split {α : Type} (q : α → Bool) : ∀ l : List α, Wv (l.filter q) (l.filter fun x => !q x) l
  | [] => .nil
  | x :: l => by
    rw [List.filter_cons, List.filter_cons]
    cases h : q x with
    | true => exact .left x (Wv.split q l)
    | false => exact .right x (Wv.split q l)
structure Emb {α : Type} (A B W : List α) (eA eB : Nat → Nat) : Prop where
  a : ∀ i, i < A.length → W[eA i]? = A[i]?
  b : ∀ i, i < B.length → W[eB i]? = B[i]?
  ma : ∀ i j, i < j → j < A.length → eA i < eA j
  mb : ∀ i j, i < j → j < B.length → eB i < eB j
  perm : (List.range W.length).Perm ((List.range A.length).map eA ++ (List.range B.length).map eB)
theorem range_map_succ (n : Nat) (f : Nat → Nat) (h0 : f 0 = 0) (g : Nat → Nat) (h : ∀ i, f (i + 1) = g i + 1) : (List.range (n + 1)).map f = 0 :: ((List.range n).map g).map Nat.succ := by
  rw [List.range_succ_eq_map, List.map_cons, h0, List.map_map, List.map_map]
  congr 1
  exact List.map_congr_left fun i _ => h i
theorem emb {α : Type} {A B W : List α} (h : Wv A B W) : ∃ eA eB, Emb A B W eA eB := by
  induction h with
  | nil => exact ⟨id, id, fun i h => absurd h (Nat.not_lt_zero i), fun i h => absurd h (Nat.not_lt_zero i), fun i j _ h => absurd h (Nat.not_lt_zero j), fun i j _ h => absurd h (Nat.not_lt_zero j), List.Perm.refl _⟩
  | left a h ih =>
    rename_i A B W
    obtain ⟨eA, eB, E⟩ := ih
    refine ⟨fun i => match i with
      | 0 => 0
      | i + 1 => eA i + 1, fun i => eB i + 1, fun i hi => ?_, fun i hi => ?_, fun i j hij hj => ?_, fun i j hij hj => ?_, ?_⟩
    · cases i with
      | zero => rfl
      | succ i => exact E.a i (by simpa using hi)
    · exact E.b i hi
    · cases j with
      | zero => omega
      | succ j =>
        cases i with
        | zero => exact Nat.succ_pos _
        | succ i => exact Nat.succ_lt_succ (E.ma i j (by omega) (by simpa using hj))
    · exact Nat.succ_lt_succ (E.mb i j hij hj)
    · rw [List.length_cons, List.length_cons, range_map_succ A.length _ rfl eA fun _ => rfl, List.range_succ_eq_map]
      refine List.Perm.cons 0 ?_
      have := E.perm.map Nat.succ
      rw [List.map_append] at this
      refine this.trans ?_
      rw [List.map_map, List.map_map]
      exact List.Perm.refl _
  | right b h ih =>
    rename_i A B W
    obtain ⟨eA, eB, E⟩ := ih
    refine ⟨fun i => eA i + 1, fun i => match i with
      | 0 => 0
      | i + 1 => eB i + 1, fun i hi => ?_, fun i hi => ?_, fun i j hij hj => ?_, fun i j hij hj => ?_, ?_⟩
    · exact E.a i hi
    · cases i with
      | zero => rfl
      | succ i => exact E.b i (by simpa using hi)
    · exact Nat.succ_lt_succ (E.ma i j hij hj)
    · cases j with
      | zero => omega
      | succ j =>
        cases i with
        | zero => exact Nat.succ_pos _
        | succ i => exact Nat.succ_lt_succ (E.mb i j (by omega) (by simpa using hj))
    · rw [List.length_cons, List.length_cons, range_map_succ B.length _ rfl eB fun _ => rfl, List.range_succ_eq_map]
      refine (List.Perm.cons 0 ?_).trans List.perm_middle.symm
      have := E.perm.map Nat.succ
      rw [List.map_append] at this
      refine this.trans ?_
      rw [List.map_map, List.map_map]
      exact List.Perm.refl _
section
variable {A B W : List Spn} {eA eB : Nat → Nat} {s : Int}
theorem Emb.mapped {α β : Type} {A B W : List α} {eA eB : Nat → Nat} (f : α → β) (E : Emb A B W eA eB) : Emb (A.map f) (B.map f) (W.map f) eA eB where
  a := fun i hi => by
    rw [List.length_map] at hi
    rw [List.getElem?_map, List.getElem?_map, E.a i hi]
  b := fun i hi => by
    rw [List.length_map] at hi
    rw [List.getElem?_map, List.getElem?_map, E.b i hi]
  ma := fun i j h hj => E.ma i j h (by rw [List.length_map] at hj; exact hj)
  mb := fun i j h hj => E.mb i j h (by rw [List.length_map] at hj; exact hj)
  perm := by
    rw [List.length_map, List.length_map, List.length_map]
    exact E.perm
theorem Emb.cnt {α : Type} {A B W : List α} {eA eB : Nat → Nat} (E : Emb A B W eA eB) (P : Nat → Bool) : cnt W.length P = cnt A.length (fun i => P (eA i)) + cnt B.length (fun i => P (eB i)) := by
  unfold Sh.cnt
  rw [(E.perm.filter P).length_eq, List.filter_append, List.length_append, List.filter_map, List.filter_map, List.length_map, List.length_map]
  rfl
theorem sum_perm {l m : List Int} (h : l.Perm m) : l.sum = m.sum := by
  induction h with
  | nil => rfl
  | cons x _ ih => rw [List.sum_cons, List.sum_cons, ih]
  | swap x y l => rw [List.sum_cons, List.sum_cons, List.sum_cons, List.sum_cons]; omega
  | trans _ _ a b => exact a.trans b
theorem Emb.isum {α : Type} {A B W : List α} {eA eB : Nat → Nat} (E : Emb A B W eA eB) (P : Nat → Bool) (g : Nat → Int) : isum (List.range W.length) P g = isum (List.range A.length) (fun i => P (eA i)) (fun i => g (eA i)) + isum (List.range B.length) (fun i => P (eB i)) (fun i => g (eB i)) := by
  unfold Sh.isum
  rw [sum_perm ((E.perm.filter P).map g), List.filter_append, List.map_append, List.sum_append, List.filter_map, List.filter_map, List.map_map, List.map_map]
  rfl
theorem Emb.mem {α : Type} {A B W : List α} {eA eB : Nat → Nat} (E : Emb A B W eA eB) {k : Nat} : k < W.length ↔ (∃ i, i < A.length ∧ eA i = k) ∨ ∃ i, i < B.length ∧ eB i = k := by
  rw [← List.mem_range, E.perm.mem_iff, List.mem_append, List.mem_map, List.mem_map]
  constructor
  · rintro (⟨i, hi, e⟩ | ⟨i, hi, e⟩)
    · exact .inl ⟨i, List.mem_range.mp hi, e⟩
    · exact .inr ⟨i, List.mem_range.mp hi, e⟩
  · rintro (⟨i, hi, e⟩ | ⟨i, hi, e⟩)
    · exact .inl ⟨i, List.mem_range.mpr hi, e⟩
    · exact .inr ⟨i, List.mem_range.mpr hi, e⟩
theorem Emb.la {α : Type} {A B W : List α} {eA eB : Nat → Nat} (E : Emb A B W eA eB) {i : Nat} (h : i < A.length) : eA i < W.length := E.mem.mpr (.inl ⟨i, h, rfl⟩)
theorem Emb.lb {α : Type} {A B W : List α} {eA eB : Nat → Nat} (E : Emb A B W eA eB) {i : Nat} (h : i < B.length) : eB i < W.length := E.mem.mpr (.inr ⟨i, h, rfl⟩)
theorem Emb.nd {α : Type} {A B W : List α} {eA eB : Nat → Nat} (E : Emb A B W eA eB) : ((List.range A.length).map eA ++ (List.range B.length).map eB).Nodup := E.perm.nodup_iff.mp (range_nodup _)
theorem Emb.ne {α : Type} {A B W : List α} {eA eB : Nat → Nat} (E : Emb A B W eA eB) {i j : Nat} (hi : i < A.length) (hj : j < B.length) : eA i ≠ eB j :=
  (List.nodup_append.mp E.nd).2.2 _ (List.mem_map.mpr ⟨i, List.mem_range.mpr hi, rfl⟩) _ (List.mem_map.mpr ⟨j, List.mem_range.mpr hj, rfl⟩)
theorem mono_inj {n : Nat} {e : Nat → Nat} (m : ∀ i j, i < j → j < n → e i < e j) {i j : Nat} (hi : i < n) (hj : j < n) (h : e i = e j) : i = j := by
  rcases Nat.lt_trichotomy i j with c | c | c
  · have := m i j c hj
    omega
  · exact c
  · have := m j i c hi
    omega
theorem mono_lt {n : Nat} {e : Nat → Nat} (m : ∀ i j, i < j → j < n → e i < e j) {i j : Nat} (hi : i < n) (hj : j < n) : e i < e j ↔ i < j := by
  constructor
  · intro h
    rcases Nat.lt_trichotomy i j with c | c | c
    · exact c
    · subst c
      omega
    · have := m j i c hi
      omega
  · exact fun h => m i j h hj
theorem getD_eq {α : Type} {l m : List α} {i j : Nat} {d : α} (h : l[i]? = m[j]?) : l.getD i d = m.getD j d := by
  rw [List.getD_eq_getElem?_getD, List.getD_eq_getElem?_getD, h]
theorem under_same {ss tt : List Spn} {i j i' j' : Nat} (h1 : ss.getD i (0, 0) = tt.getD i' (0, 0)) (h2 : ss.getD j (0, 0) = tt.getD j' (0, 0)) (h3 : i < j ↔ i' < j') : underB ss i j = underB tt i' j' := by
  unfold underB
  simp only [h1, h2]
  split
  · exact decide_eq_decide.mpr h3
  · rfl
theorem Emb.uA (E : Emb A B W eA eB) {i j : Nat} (hi : i < A.length) (hj : j < A.length) : underB W (eA i) (eA j) = underB A i j := under_same (getD_eq (E.a i hi)) (getD_eq (E.a j hj)) (mono_lt E.ma hi hj)
theorem Emb.uB (E : Emb A B W eA eB) {i j : Nat} (hi : i < B.length) (hj : j < B.length) : underB W (eB i) (eB j) = underB B i j := under_same (getD_eq (E.b i hi)) (getD_eq (E.b j hj)) (mono_lt E.mb hi hj)
theorem at_get {ss : List Spn} {i : Nat} (hi : i < ss.length) : ss.getD i (0, 0) ∈ ss := by
  rw [List.getD_eq_getElem?_getD, List.getElem?_eq_getElem hi]
  exact List.getElem_mem hi
theorem Emb.uAB (E : Emb A B W eA eB) (S : Seam A B s) {i j : Nat} (hi : i < A.length) (hj : j < B.length) : underB W (eA i) (eB j) = false ∧ underB W (eB j) (eA i) = false := by
  have a := S.a _ (at_get hi)
  have b := S.b _ (at_get hj)
  have h1 : W.getD (eA i) (0, 0) = A.getD i (0, 0) := getD_eq (E.a i hi)
  have h2 : W.getD (eB j) (0, 0) = B.getD j (0, 0) := getD_eq (E.b j hj)
  unfold underB
  simp only [h1, h2]
  generalize A.getD i (0, 0) = x at a
  generalize B.getD j (0, 0) = y at b
  have ne : x ≠ y := fun e => by
    subst e
    omega
  rw [if_neg ne, if_neg (Ne.symm ne)]
  unfold insideB
  exact ⟨decide_eq_false (by omega), decide_eq_false (by omega)⟩
/-! ### loose -/
theorem Emb.dA (E : Emb A B W eA eB) (S : Seam A B s) (X : Nat → Bool) {j : Nat} (hj : j < A.length) : dN W X (eA j) = dN A (fun i => X (eA i)) j := by
  rw [Bool.eq_iff_iff, dN_iff, dN_iff]
  constructor
  · rintro ⟨k, hk, hx, hu⟩
    rcases E.mem.mp hk with ⟨i, hi, rfl⟩ | ⟨i, hi, rfl⟩
    · rw [E.uA hi hj] at hu
      exact ⟨i, hi, hx, hu⟩
    · rw [(E.uAB S hj hi).2] at hu
      cases hu
  · rintro ⟨i, hi, hx, hu⟩
    exact ⟨eA i, E.la hi, hx, by rw [E.uA hi hj]; exact hu⟩
theorem Emb.dB (E : Emb A B W eA eB) (S : Seam A B s) (X : Nat → Bool) {j : Nat} (hj : j < B.length) : dN W X (eB j) = dN B (fun i => X (eB i)) j := by
  rw [Bool.eq_iff_iff, dN_iff, dN_iff]
  constructor
  · rintro ⟨k, hk, hx, hu⟩
    rcases E.mem.mp hk with ⟨i, hi, rfl⟩ | ⟨i, hi, rfl⟩
    · rw [(E.uAB S hi hj).1] at hu
      cases hu
    · rw [E.uB hi hj] at hu
      exact ⟨i, hi, hx, hu⟩
  · rintro ⟨i, hi, hx, hu⟩
    exact ⟨eB i, E.lb hi, hx, by rw [E.uB hi hj]; exact hu⟩
/-- a choice of each makes one of both -/
theorem Emb.glue {α : Type} {A B W : List α} (E : Emb A B W eA eB) (XA XB : Nat → Bool) : ∃ X : Nat → Bool, (∀ i, i < A.length → X (eA i) = XA i) ∧ ∀ i, i < B.length → X (eB i) = XB i := by
  refine ⟨fun k => ((List.range A.length).any fun i => decide (eA i = k) && XA i) || ((List.range B.length).any fun i => decide (eB i = k) && XB i), fun i hi => ?_, fun i hi => ?_⟩
  · rw [Bool.eq_iff_iff, Bool.or_eq_true, List.any_eq_true, List.any_eq_true]
    constructor
    · rintro (⟨j, hj, h⟩ | ⟨j, hj, h⟩)
      · obtain ⟨h1, h2⟩ := Bool.and_eq_true_iff.mp h
        have := mono_inj E.ma (List.mem_range.mp hj) hi (of_decide_eq_true h1)
        rw [← this]
        exact h2
      · obtain ⟨h1, _⟩ := Bool.and_eq_true_iff.mp h
        exact (E.ne hi (List.mem_range.mp hj) (of_decide_eq_true h1).symm).elim
    · exact fun h => .inl ⟨i, List.mem_range.mpr hi, Bool.and_eq_true_iff.mpr ⟨decide_eq_true rfl, h⟩⟩
  · rw [Bool.eq_iff_iff, Bool.or_eq_true, List.any_eq_true, List.any_eq_true]
    constructor
    · rintro (⟨j, hj, h⟩ | ⟨j, hj, h⟩)
      · obtain ⟨h1, _⟩ := Bool.and_eq_true_iff.mp h
        exact (E.ne (List.mem_range.mp hj) hi (of_decide_eq_true h1)).elim
      · obtain ⟨h1, h2⟩ := Bool.and_eq_true_iff.mp h
        have := mono_inj E.mb (List.mem_range.mp hj) hi (of_decide_eq_true h1)
        rw [← this]
        exact h2
    · exact fun h => .inr ⟨i, List.mem_range.mpr hi, Bool.and_eq_true_iff.mpr ⟨decide_eq_true rfl, h⟩⟩
theorem def_two {kA kB : Nat} (E : Emb A B W eA eB) (S : Seam A B s) (hA : IsDef A kA) (hB : IsDef B kB) : IsDef W (kA + kB) := by
  have parts : ∀ X : Nat → Bool, cnt W.length (dN W X) = cnt A.length (dN A fun i => X (eA i)) + cnt B.length (dN B fun i => X (eB i)) := fun X => by
    rw [E.cnt, cnt_congr fun i hi => E.dA S X hi, cnt_congr fun i hi => E.dB S X hi]
  have dcong : ∀ {ss : List Spn} {X Y : Nat → Bool}, (∀ i, i < ss.length → X i = Y i) → cnt ss.length (dN ss X) = cnt ss.length (dN ss Y) := fun {ss X Y} h => cnt_congr fun j _ => by
    rw [Bool.eq_iff_iff, dN_iff, dN_iff]
    constructor
    · rintro ⟨i, hi, hx, hu⟩
      exact ⟨i, hi, by rw [← h i hi]; exact hx, hu⟩
    · rintro ⟨i, hi, hx, hu⟩
      exact ⟨i, hi, by rw [h i hi]; exact hx, hu⟩
  obtain ⟨⟨XA, eXA⟩, uA⟩ := hA
  obtain ⟨⟨XB, eXB⟩, uB⟩ := hB
  refine ⟨?_, fun X => ?_⟩
  · obtain ⟨X, h1, h2⟩ := E.glue XA XB
    refine ⟨X, ?_⟩
    rw [parts, E.cnt, cnt_congr h1, cnt_congr h2, dcong h1, dcong h2]
    omega
  · rw [parts, E.cnt]
    have := uA fun i => X (eA i)
    have := uB fun i => X (eB i)
    omega
/-! ### heaviest -/
theorem hv_two {wA wB wW : List Int} {k vA vB : Int} (E : Emb A B W eA eB) (Ew : Emb wA wB wW eA eB) (lA : wA.length = A.length) (lB : wB.length = B.length) (S : Seam A B s) (hA : IsHv A wA k vA) (hB : IsHv B wB k vB) : IsHv W wW k (vA + vB) := by
  have one : ∀ p, (∀ i, i < A.length → holdsB (A.getD i (0, 0)) p = false) ∨ ∀ i, i < B.length → holdsB (B.getD i (0, 0)) p = false := fun p => by
    by_cases h : p < s
    · refine .inr fun i hi => decide_eq_false ?_
      have := S.b _ (at_get hi)
      omega
    · refine .inl fun i hi => decide_eq_false ?_
      have := S.a _ (at_get hi)
      omega
  have dep : ∀ (P : Nat → Bool) (p : Int), cnt W.length (fun i => P i && holdsB (W.getD i (0, 0)) p) = cnt A.length (fun i => P (eA i) && holdsB (A.getD i (0, 0)) p) + cnt B.length (fun i => P (eB i) && holdsB (B.getD i (0, 0)) p) := fun P p => by
    rw [E.cnt]
    congr 1
    · exact cnt_congr fun i hi => by rw [getD_eq (E.a i hi)]
    · exact cnt_congr fun i hi => by rw [getD_eq (E.b i hi)]
  have ok : ∀ P : Nat → Bool, okDepth W k P ↔ okDepth A k (fun i => P (eA i)) ∧ okDepth B k (fun i => P (eB i)) := fun P => by
    constructor
    · intro h
      refine ⟨fun p => ?_, fun p => ?_⟩
      · have := h p
        rw [dep] at this
        show (cnt A.length (fun i => P (eA i) && holdsB (A.getD i (0, 0)) p) : Int) ≤ k
        omega
      · have := h p
        rw [dep] at this
        show (cnt B.length (fun i => P (eB i) && holdsB (B.getD i (0, 0)) p) : Int) ≤ k
        omega
    · rintro ⟨h1, h2⟩ p
      have a : (cnt A.length (fun i => P (eA i) && holdsB (A.getD i (0, 0)) p) : Int) ≤ k := h1 p
      have b : (cnt B.length (fun i => P (eB i) && holdsB (B.getD i (0, 0)) p) : Int) ≤ k := h2 p
      rw [dep]
      rcases one p with z | z
      · have : cnt A.length (fun i => P (eA i) && holdsB (A.getD i (0, 0)) p) = 0 := List.length_eq_zero_iff.mpr (List.filter_eq_nil_iff.mpr fun i hi => by rw [z i (List.mem_range.mp hi), Bool.and_false]; decide)
        omega
      · have : cnt B.length (fun i => P (eB i) && holdsB (B.getD i (0, 0)) p) = 0 := List.length_eq_zero_iff.mpr (List.filter_eq_nil_iff.mpr fun i hi => by rw [z i (List.mem_range.mp hi), Bool.and_false]; decide)
        omega
  have ws : ∀ P : Nat → Bool, wSum wW W.length P = wSum wA A.length (fun i => P (eA i)) + wSum wB B.length (fun i => P (eB i)) := fun P => by
    unfold wSum
    rw [E.isum]
    congr 1
    · exact isum_congr fun i hi => getD_eq (Ew.a i (by rw [lA]; exact List.mem_range.mp hi))
    · exact isum_congr fun i hi => getD_eq (Ew.b i (by rw [lB]; exact List.mem_range.mp hi))
  have wcong : ∀ {n : Nat} {w : List Int} {X Y : Nat → Bool}, (∀ i, i < n → X i = Y i) → wSum w n X = wSum w n Y := fun {n w X Y} h => by
    unfold wSum Sh.isum
    rw [List.filter_congr fun i hi => h i (List.mem_range.mp hi)]
  have ocong : ∀ {ss : List Spn} {X Y : Nat → Bool}, (∀ i, i < ss.length → X i = Y i) → okDepth ss k Y → okDepth ss k X := fun {ss X Y} h o p => by
    rw [cnt_congr fun i hi => by rw [h i hi]]
    exact o p
  obtain ⟨⟨PA, oA, eA1⟩, uA⟩ := hA
  obtain ⟨⟨PB, oB, eB1⟩, uB⟩ := hB
  refine ⟨?_, fun P hP => ?_⟩
  · obtain ⟨P, h1, h2⟩ := E.glue PA PB
    exact ⟨P, (ok P).mpr ⟨ocong h1 oA, ocong h2 oB⟩, by rw [ws, wcong h1, wcong h2, eA1, eB1]⟩
  · obtain ⟨h1, h2⟩ := (ok P).mp hP
    have := uA _ h1
    have := uB _ h2
    rw [ws]
    omega
/-! ### nests -/
theorem lev_unique {ss : List Spn} {f g : List Int} (hf : ∀ k, k < ss.length → IsLev ss f k) (hg : ∀ k, k < ss.length → IsLev ss g k) : ∀ (n k : Nat), k < ss.length → cnt ss.length (fun j => underB ss j k) ≤ n → f.getD k 0 = g.getD k 0 := by
  intro n
  induction n with
  | zero =>
    intro k hk hc
    have no : ∀ j, j < ss.length → underB ss j k = false := fun j hj => by
      cases e : underB ss j k with
      | false => rfl
      | true =>
        have := List.length_pos_of_mem (cnt_mem.mpr ⟨hj, e⟩ : j ∈ (List.range ss.length).filter fun j => underB ss j k)
        have h2 : cnt ss.length (fun j => underB ss j k) = ((List.range ss.length).filter fun j => underB ss j k).length := rfl
        omega
    have z : ∀ h : List Int, IsLev ss h k → h.getD k 0 = 0 := fun h ⟨_, _, c⟩ => by
      rcases c with c | ⟨j, hj, hu, _⟩
      · exact c
      · rw [no j hj] at hu
        cases hu
    rw [z f (hf k hk), z g (hg k hk)]
  | succ n ih =>
    intro k hk hc
    have lower : ∀ j, j < ss.length → underB ss j k = true → f.getD j 0 = g.getD j 0 := fun j hj hu => ih j hj (by
      have := cnt_lt (n := ss.length) (P := fun i => underB ss i j) (Q := fun i => underB ss i k) (fun i _ h => under_trans h hu) hj hu under_irr
      omega)
    obtain ⟨f0, f1, f2⟩ := hf k hk
    obtain ⟨g0, g1, g2⟩ := hg k hk
    rcases f2 with e | ⟨j, hj, hu, e⟩
    · rcases g2 with e2 | ⟨j, hj, hu, e2⟩
      · rw [e, e2]
      · have := f1 j hj hu
        have := lower j hj hu
        omega
    · have a := g1 j hj hu
      have b := lower j hj hu
      rcases g2 with e2 | ⟨j2, hj2, hu2, e2⟩
      · omega
      · have c := f1 j2 hj2 hu2
        have d := lower j2 hj2 hu2
        omega
theorem map_getD {n : Nat} (f : Nat → Int) {i : Nat} (h : i < n) : ((List.range n).map f).getD i 0 = f i := by
  rw [List.getD_eq_getElem?_getD, List.getElem?_map, List.getElem?_range h]
  rfl
theorem levels_part (E : Emb A B W eA eB) (S : Seam A B s) : (∀ i, i < A.length → (levelsOf W).getD (eA i) 0 = (levelsOf A).getD i 0) ∧ ∀ i, i < B.length → (levelsOf W).getD (eB i) 0 = (levelsOf B).getD i 0 := by
  refine ⟨fun i hi => ?_, fun i hi => ?_⟩
  · have hf : ∀ k, k < A.length → IsLev A ((List.range A.length).map fun i => (levelsOf W).getD (eA i) 0) k := fun k hk => by
      obtain ⟨a, b, c⟩ := levels_spec W (eA k) (E.la hk)
      refine ⟨by rw [map_getD _ hk]; exact a, fun j hj hu => ?_, ?_⟩
      · rw [map_getD _ hk, map_getD _ hj]
        exact b (eA j) (E.la hj) (by rw [E.uA hj hk]; exact hu)
      · rw [map_getD _ hk]
        rcases c with c | ⟨j, hj, hu, e⟩
        · exact .inl c
        · rcases E.mem.mp hj with ⟨j', hj', rfl⟩ | ⟨j', hj', rfl⟩
          · rw [E.uA hj' hk] at hu
            exact .inr ⟨j', hj', hu, by rw [map_getD _ hj']; exact e⟩
          · rw [(E.uAB S hk hj').2] at hu
            cases hu
    have := lev_unique hf (fun k hk => levels_spec A k hk) _ i hi (Nat.le_refl _)
    rw [map_getD _ hi] at this
    exact this
  · have hf : ∀ k, k < B.length → IsLev B ((List.range B.length).map fun i => (levelsOf W).getD (eB i) 0) k := fun k hk => by
      obtain ⟨a, b, c⟩ := levels_spec W (eB k) (E.lb hk)
      refine ⟨by rw [map_getD _ hk]; exact a, fun j hj hu => ?_, ?_⟩
      · rw [map_getD _ hk, map_getD _ hj]
        exact b (eB j) (E.lb hj) (by rw [E.uB hj hk]; exact hu)
      · rw [map_getD _ hk]
        rcases c with c | ⟨j, hj, hu, e⟩
        · exact .inl c
        · rcases E.mem.mp hj with ⟨j', hj', rfl⟩ | ⟨j', hj', rfl⟩
          · rw [(E.uAB S hj' hk).1] at hu
            cases hu
          · rw [E.uB hj' hk] at hu
            exact .inr ⟨j', hj', hu, by rw [map_getD _ hj']; exact e⟩
    have := lev_unique hf (fun k hk => levels_spec B k hk) _ i hi (Nat.le_refl _)
    rw [map_getD _ hi] at this
    exact this
theorem lev_le (ss : List Spn) {k : Nat} (hk : k < ss.length) : (levelsOf ss).getD k 0 ≤ maxOr (levelsOf ss) := by
  have hl := levels_len ss
  refine (maxOr_go (levelsOf ss) (-1)).2.1 _ ?_
  rw [List.getD_eq_getElem?_getD, List.getElem?_eq_getElem (by omega)]
  exact List.getElem_mem _
theorem nest_two (E : Emb A B W eA eB) (S : Seam A B s) : maxOr (levelsOf W) = max (maxOr (levelsOf A)) (maxOr (levelsOf B)) := by
  obtain ⟨pA, pB⟩ := levels_part E S
  have lo : ∀ ss : List Spn, -1 ≤ maxOr (levelsOf ss) := fun ss => (maxOr_le ss).1
  have g1 : maxOr (levelsOf A) ≤ maxOr (levelsOf W) := by
    by_cases h : 0 ≤ maxOr (levelsOf A)
    · obtain ⟨k, hk, e⟩ := level_top A h
      rw [← e, ← pA k hk]
      exact lev_le W (E.la hk)
    · have := lo A
      have := lo W
      omega
  have g2 : maxOr (levelsOf B) ≤ maxOr (levelsOf W) := by
    by_cases h : 0 ≤ maxOr (levelsOf B)
    · obtain ⟨k, hk, e⟩ := level_top B h
      rw [← e, ← pB k hk]
      exact lev_le W (E.lb hk)
    · have := lo B
      have := lo W
      omega
  have g3 : maxOr (levelsOf W) ≤ max (maxOr (levelsOf A)) (maxOr (levelsOf B)) := by
    by_cases h : 0 ≤ maxOr (levelsOf W)
    · obtain ⟨k, hk, e⟩ := level_top W h
      rcases E.mem.mp hk with ⟨i, hi, rfl⟩ | ⟨i, hi, rfl⟩
      · have := lev_le A hi
        rw [pA i hi] at e
        omega
      · have := lev_le B hi
        rw [pB i hi] at e
        omega
    · have := lo A
      have := lo W
      omega
  omega
end
end Sh
end

section
/-! the heaviest with places, of two lists -/
namespace Sh
def mvA (e : Nat → Nat) (x : Spn) : Spn := (x.1, (e x.2.toNat : Int))
abbrev gS (ss : List Spn) (k : Nat) : Spn := ss.getD k (0, 0)
structure HgI (A B W : List Spn) (eA eB : Nat → Nat) (kA kB kW : List Nat) : Prop where
  pm : kW.Perm (kA.map eA ++ kB.map eB)
  pA : IsPl (kA.map (gS A)) kA.length
  pB : IsPl (kB.map (gS B)) kB.length
  lA : ∀ k ∈ kA, k < A.length
  lB : ∀ k ∈ kB, k < B.length
section
variable {A B W : List Spn} {eA eB : Nat → Nat} {s : Int}
theorem hg_spans (E : Emb A B W eA eB) {kA kB kW : List Nat} (pm : kW.Perm (kA.map eA ++ kB.map eB)) (lA : ∀ k ∈ kA, k < A.length) (lB : ∀ k ∈ kB, k < B.length) : (kW.map (gS W)).Perm (kA.map (gS A) ++ kB.map (gS B)) := by
  have := pm.map (gS W)
  rw [List.map_append, List.map_map, List.map_map] at this
  have e1 : kA.map (gS W ∘ eA) = kA.map (gS A) := List.map_congr_left fun k hk => getD_eq (E.a k (lA k hk))
  have e2 : kB.map (gS W ∘ eB) = kB.map (gS B) := List.map_congr_left fun k hk => getD_eq (E.b k (lB k hk))
  rw [e1, e2] at this
  exact this
theorem seam_part (S : Seam A B s) {kA kB : List Nat} (lA : ∀ k ∈ kA, k < A.length) (lB : ∀ k ∈ kB, k < B.length) : Seam (kA.map (gS A)) (kB.map (gS B)) s where
  a := fun x hx => by
    obtain ⟨k, hk, rfl⟩ := List.mem_map.mp hx
    exact S.a _ (at_get (lA k hk))
  b := fun x hx => by
    obtain ⟨k, hk, rfl⟩ := List.mem_map.mp hx
    exact S.b _ (at_get (lB k hk))
theorem hg_left (E : Emb A B W eA eB) (S : Seam A B s) {kA kB kW : List Nat} (I : HgI A B W eA eB kA kB kW) {i : Nat} (hi : i < A.length) (w : Int) : HgI A B W eA eB (hgStep A kA (w, (i : Int))) kB (hgStep W kW (w, (eA i : Int))) := by
  have lA' : ∀ k ∈ kA ++ [i], k < A.length := fun k hk => by
    rcases List.mem_append.mp hk with h | h
    · exact I.lA k h
    · rw [List.mem_singleton.mp h]
      exact hi
  have pm' : (kW ++ [eA i]).Perm ((kA ++ [i]).map eA ++ kB.map eB) := by
    rw [List.map_append, List.append_assoc]
    refine (I.pm.append (List.Perm.refl [eA i])).trans ?_
    rw [List.append_assoc]
    exact (List.Perm.refl _).append List.perm_append_comm
  have lenW : kW.length = kA.length + kB.length := by
    rw [I.pm.length_eq, List.length_append, List.length_map, List.length_map]
  have sp := hg_spans E pm' lA' I.lB
  have iff : IsPl ((kW ++ [eA i]).map (gS W)) (kW.length + 1) ↔ IsPl ((kA ++ [i]).map (gS A)) (kA.length + 1) := by
    constructor
    · intro h
      obtain ⟨k1, h1⟩ := pl_some ((kA ++ [i]).map (gS A))
      have h2 := pl_two (seam_part S lA' I.lB) (List.Perm.refl _) h1 I.pB
      have := run_unique (pl_perm sp h) h2
      rw [show kA.length + 1 = k1 by omega]
      exact h1
    · intro h
      have h2 := pl_two (seam_part S lA' I.lB) (List.Perm.refl _) h I.pB
      rw [show kW.length + 1 = kA.length + 1 + kB.length by omega]
      exact pl_perm sp.symm h2
  unfold hgStep
  simp only [Int.toNat_natCast]
  by_cases c : IsPl ((kA ++ [i]).map (gS A)) (kA.length + 1)
  · rw [if_pos c, if_pos (iff.mpr c)]
    exact ⟨pm', by rw [List.length_append, List.length_singleton]; exact c, I.pB, lA', I.lB⟩
  · rw [if_neg c, if_neg fun h => c (iff.mp h)]
    exact I
theorem hg_right (E : Emb A B W eA eB) (S : Seam A B s) {kA kB kW : List Nat} (I : HgI A B W eA eB kA kB kW) {i : Nat} (hi : i < B.length) (w : Int) : HgI A B W eA eB kA (hgStep B kB (w, (i : Int))) (hgStep W kW (w, (eB i : Int))) := by
  have lB' : ∀ k ∈ kB ++ [i], k < B.length := fun k hk => by
    rcases List.mem_append.mp hk with h | h
    · exact I.lB k h
    · rw [List.mem_singleton.mp h]
      exact hi
  have pm' : (kW ++ [eB i]).Perm (kA.map eA ++ (kB ++ [i]).map eB) := by
    rw [List.map_append, ← List.append_assoc]
    exact I.pm.append (List.Perm.refl [eB i])
  have lenW : kW.length = kA.length + kB.length := by
    rw [I.pm.length_eq, List.length_append, List.length_map, List.length_map]
  have sp := hg_spans E pm' I.lA lB'
  have iff : IsPl ((kW ++ [eB i]).map (gS W)) (kW.length + 1) ↔ IsPl ((kB ++ [i]).map (gS B)) (kB.length + 1) := by
    constructor
    · intro h
      obtain ⟨k1, h1⟩ := pl_some ((kB ++ [i]).map (gS B))
      have h2 := pl_two (seam_part S I.lA lB') (List.Perm.refl _) I.pA h1
      have := run_unique (pl_perm sp h) h2
      rw [show kB.length + 1 = k1 by omega]
      exact h1
    · intro h
      have h2 := pl_two (seam_part S I.lA lB') (List.Perm.refl _) I.pA h
      rw [show kW.length + 1 = kA.length + (kB.length + 1) by omega]
      exact pl_perm sp.symm h2
  unfold hgStep
  simp only [Int.toNat_natCast]
  by_cases c : IsPl ((kB ++ [i]).map (gS B)) (kB.length + 1)
  · rw [if_pos c, if_pos (iff.mpr c)]
    exact ⟨pm', I.pA, by rw [List.length_append, List.length_singleton]; exact c, I.lA, lB'⟩
  · rw [if_neg c, if_neg fun h => c (iff.mp h)]
    exact I
theorem hg_fold (E : Emb A B W eA eB) (S : Seam A B s) {LA' LB' l : List Spn} (v : Wv LA' LB' l) : ∀ (LA LB : List Spn), LA' = LA.map (mvA eA) → LB' = LB.map (mvA eB) → (∀ x ∈ LA, ∃ i : Nat, i < A.length ∧ x.2 = (i : Int)) → (∀ x ∈ LB, ∃ i : Nat, i < B.length ∧ x.2 = (i : Int)) →
    ∀ (kA kB kW : List Nat), HgI A B W eA eB kA kB kW → HgI A B W eA eB (LA.foldl (hgStep A) kA) (LB.foldl (hgStep B) kB) (l.foldl (hgStep W) kW) := by
  induction v with
  | nil =>
    intro LA LB e1 e2 _ _ kA kB kW I
    have e1 := (List.map_eq_nil_iff.mp e1.symm)
    have e2 := (List.map_eq_nil_iff.mp e2.symm)
    subst e1 e2
    exact I
  | left a v ih =>
    intro LA LB e1 e2 h1 h2 kA kB kW I
    cases LA with
    | nil => cases e1
    | cons x LA =>
      obtain ⟨ea, e1⟩ := List.cons.inj e1
      obtain ⟨i, hi, ei⟩ := h1 x List.mem_cons_self
      have ex : x = (x.1, (i : Int)) := Prod.ext rfl ei
      have ea2 : a = (x.1, (eA i : Int)) := by
        rw [ea]
        unfold mvA
        rw [ei, Int.toNat_natCast]
      rw [List.foldl_cons, List.foldl_cons, ea2]
      refine ih LA LB e1 e2 (fun y hy => h1 y (List.mem_cons_of_mem _ hy)) h2 _ kB _ ?_
      rw [ex]
      exact hg_left E S I hi x.1
  | right b v ih =>
    intro LA LB e1 e2 h1 h2 kA kB kW I
    cases LB with
    | nil => cases e2
    | cons x LB =>
      obtain ⟨ea, e2⟩ := List.cons.inj e2
      obtain ⟨i, hi, ei⟩ := h2 x List.mem_cons_self
      have ex : x = (x.1, (i : Int)) := Prod.ext rfl ei
      have ea2 : b = (x.1, (eB i : Int)) := by
        rw [ea]
        unfold mvA
        rw [ei, Int.toNat_natCast]
      rw [List.foldl_cons, List.foldl_cons, ea2]
      refine ih LA LB e1 e2 h1 (fun y hy => h2 y (List.mem_cons_of_mem _ hy)) kA _ _ ?_
      rw [ex]
      exact hg_right E S I hi x.1
theorem hg_sorted {n : Nat} {e : Nat → Nat} (m : ∀ i j, i < j → j < n → e i < e j) (ws : List Int) : (hgOrder ws n).map (mvA e) = isort le2 ((hgKeys ws n).map (mvA e)) := by
  refine eq_isort ord2 ((isort_perm _).map _) ?_
  refine List.pairwise_map.mpr (List.Pairwise.imp_of_mem (fun {x y} hx hy h => ?_) (isort_sorted ord2 (hgKeys ws n)))
  obtain ⟨i, hi, rfl⟩ := hgOrder_mem hx
  obtain ⟨j, hj, rfl⟩ := hgOrder_mem hy
  have h := of_decide_eq_true h
  simp only at h
  refine decide_eq_true ?_
  unfold mvA
  simp only [Int.toNat_natCast]
  rcases h with h | ⟨h1, h2⟩
  · exact .inl h
  · refine .inr ⟨h1, ?_⟩
    rcases Nat.lt_or_ge i j with c | c
    · have := m i j c hj
      omega
    · have : i = j := by omega
      subst this
      exact Int.le_refl _
theorem hg_two {wA wB wW : List Int} (E : Emb A B W eA eB) (Ew : Emb wA wB wW eA eB) (lA : wA.length = A.length) (lB : wB.length = B.length) (S : Seam A B s) : hgVal W wW = hgVal A wA + hgVal B wB := by
  have keyA : ∀ i, i < A.length → wW.getD (eA i) 0 = wA.getD i 0 := fun i hi => getD_eq (Ew.a i (by omega))
  have keyB : ∀ i, i < B.length → wW.getD (eB i) 0 = wB.getD i 0 := fun i hi => getD_eq (Ew.b i (by omega))
  have pmK : (hgKeys wW W.length).Perm ((hgKeys wA A.length).map (mvA eA) ++ (hgKeys wB B.length).map (mvA eB)) := by
    unfold hgKeys
    refine (E.perm.map _).trans ?_
    rw [List.map_append, List.map_map, List.map_map, List.map_map, List.map_map]
    have e1 : (List.range A.length).map ((fun k => (0 - wW.getD k 0, (k : Int))) ∘ eA) = (List.range A.length).map (mvA eA ∘ fun k => (0 - wA.getD k 0, (k : Int))) := List.map_congr_left fun i hi => by
      show (0 - wW.getD (eA i) 0, (eA i : Int)) = (0 - wA.getD i 0, (eA ((i : Int).toNat) : Int))
      rw [keyA i (List.mem_range.mp hi), Int.toNat_natCast]
    have e2 : (List.range B.length).map ((fun k => (0 - wW.getD k 0, (k : Int))) ∘ eB) = (List.range B.length).map (mvA eB ∘ fun k => (0 - wB.getD k 0, (k : Int))) := List.map_congr_left fun i hi => by
      show (0 - wW.getD (eB i) 0, (eB i : Int)) = (0 - wB.getD i 0, (eB ((i : Int).toNat) : Int))
      rw [keyB i (List.mem_range.mp hi), Int.toNat_natCast]
    rw [e1, e2]
  let q : Spn → Bool := fun x => (List.range A.length).any fun i => decide (eA i = x.2.toNat)
  have qA : ∀ x ∈ (hgKeys wA A.length).map (mvA eA), q x = true := fun x hx => by
    obtain ⟨y, hy, rfl⟩ := List.mem_map.mp hx
    obtain ⟨k, hk, rfl⟩ := List.mem_map.mp hy
    refine List.any_eq_true.mpr ⟨k, hk, decide_eq_true ?_⟩
    show eA k = ((eA ((k : Int).toNat) : Int)).toNat
    rw [Int.toNat_natCast, Int.toNat_natCast]
  have qB : ∀ x ∈ (hgKeys wB B.length).map (mvA eB), q x = false := fun x hx => by
    obtain ⟨y, hy, rfl⟩ := List.mem_map.mp hx
    obtain ⟨k, hk, rfl⟩ := List.mem_map.mp hy
    rw [← Bool.not_eq_true]
    intro h
    obtain ⟨i, hi, e⟩ := List.any_eq_true.mp h
    have e : eA i = ((eB ((k : Int).toNat) : Int)).toNat := of_decide_eq_true e
    rw [Int.toNat_natCast, Int.toNat_natCast] at e
    exact E.ne (List.mem_range.mp hi) (List.mem_range.mp hk) e
  have oA : (hgOrder wW W.length).filter q = (hgOrder wA A.length).map (mvA eA) := by
    rw [hg_sorted E.ma]
    refine eq_isort ord2 ?_ (List.Pairwise.filter q (isort_sorted ord2 _))
    refine ((((isort_perm _).trans pmK).filter q)).trans ?_
    rw [List.filter_append, List.filter_eq_self.mpr qA, List.filter_eq_nil_iff.mpr (fun x hx => by rw [qB x hx]; decide), List.append_nil]
  have oB : (hgOrder wW W.length).filter (fun x => !q x) = (hgOrder wB B.length).map (mvA eB) := by
    rw [hg_sorted E.mb]
    refine eq_isort ord2 ?_ (List.Pairwise.filter (fun x => !q x) (isort_sorted ord2 _))
    refine ((((isort_perm _).trans pmK).filter fun x => !q x)).trans ?_
    rw [List.filter_append, List.filter_eq_nil_iff.mpr (fun x hx => by rw [qA x hx]; decide), List.filter_eq_self.mpr (fun x hx => by rw [qB x hx]; rfl), List.nil_append]
  have v := Wv.split q (hgOrder wW W.length)
  rw [oA, oB] at v
  have I := hg_fold E S v (hgOrder wA A.length) (hgOrder wB B.length) rfl rfl (fun x hx => by
    obtain ⟨k, hk, rfl⟩ := hgOrder_mem hx
    exact ⟨k, hk, rfl⟩) (fun x hx => by
    obtain ⟨k, hk, rfl⟩ := hgOrder_mem hx
    exact ⟨k, hk, rfl⟩) [] [] [] ⟨List.Perm.refl _, pl_nil, pl_nil, fun k h => (List.not_mem_nil h).elim, fun k h => (List.not_mem_nil h).elim⟩
  show ((hgKept W wW).map fun k => wW.getD k 0).sum = ((hgKept A wA).map fun k => wA.getD k 0).sum + ((hgKept B wB).map fun k => wB.getD k 0).sum
  have pm : (hgKept W wW).Perm ((hgKept A wA).map eA ++ (hgKept B wB).map eB) := I.pm
  rw [sum_perm (pm.map fun k => wW.getD k 0), List.map_append, List.sum_append, List.map_map, List.map_map]
  congr 2
  · exact List.map_congr_left fun k hk => keyA k (I.lA k hk)
  · exact List.map_congr_left fun k hk => keyB k (I.lB k hk)
end
end Sh
end

namespace Sh
open PySem PySem.Spec PyProof.Rows L2 SpR
def sp_is_place : Sp := fun vs H Q _ => ∃ n : Int, vs = [.int n] ∧ Q (.bl (decide (-1000000000000 < n ∧ n < 1000000000000))) H
def sp_is_span : Sp := fun vs H Q _ => ∃ (v : V) (s : Int × Int), vs = [v] ∧ Pr H v s ∧ okS s ∧ Q (.bl true) H
def sp_must_span : Sp := fun vs H Q _ => ∃ (v : V) (s : Int × Int), vs = [v] ∧ Pr H v s ∧ okS s ∧ Q .non H
def sp_must_spans : Sp := fun vs H Q _ => ∃ (a : Addr) (ss : List (Int × Int)), vs = [.ref a] ∧ LsP H a ss ∧ (∀ s ∈ ss, okS s) ∧ Q .non H
def sp_holds : Sp := fun vs H Q _ => ∃ (v : V) (s : Int × Int) (p : Int), vs = [v, .int p] ∧ Pr H v s ∧ Q (.bl (holdsB s p)) H
def sp_is_inside : Sp := fun vs H Q _ => ∃ (u v : V) (s t : Int × Int), vs = [u, v] ∧ Pr H u s ∧ Pr H v t ∧ Q (.bl (insideB s t)) H
local macro_rules | `(tactic| walk_at "hp") => `(tactic| first | assumption | exact upd_same | exact up_old (by assumption) (by walk_at "hp") | exact sm_at (by assumption) (by walk_at "hp"))
local macro_rules | `(tactic| walk_at "st") => `(tactic| first
  | refine ⟨_, rfl, ?_⟩
  | refine ⟨_, _, rfl, rfl, ?_⟩
  | (refine' ⟨_, _, _, _, rfl, rfl, SqT.of ?hh, ?gg, ?_⟩; (case hh => walk_at "hp"); (case gg => exact rfl))
  | (refine' ⟨_, _, _, _, rfl, rfl, SqL.of ?hh, ?gg, ?_⟩; (case hh => walk_at "hp"); (case gg => first | exact atI_last _ _ | exact rfl | assumption | exact atI_nat (by assumption)))
  | (refine' ⟨_, _, rfl, .inl (SqL.of ?hh), ?_⟩; (case hh => walk_at "hp"))
  | refine ⟨rfl, ?_⟩
  | refine ⟨_, _, rfl, ?_⟩
  | refine iteT ?_
  | refine iteF ?_)
local macro_rules | `(tactic| walk_at "n") => `(tactic| dsimp only [tNil, tCons, tC, tOp, tCB, tUn, tCall, tTest, tB])
local macro_rules | `(tactic| walk_at "go") => `(tactic| repeat walk_at "st")
def sp_depth_in : Sp := fun vs H Q _ => ∃ (a : Addr) (ss : List (Int × Int)) (p : Int), vs = [.ref a, .int p] ∧ LsP H a ss ∧ ss.length ≤ 100 ∧ ∀ H', Same H H' → Q (.int (depthN ss p : Nat)) H'
def sp_must_weight : Sp := fun vs H Q _ => ∃ n : Int, vs = [.int n] ∧ (0 ≤ n ∧ n ≤ 1000000000) ∧ Q .non H
def sp_must_weights : Sp := fun vs H Q _ => ∃ (a : Addr) (ns : List Int) (n : Int), vs = [.ref a, .int n] ∧ LsI H a ns ∧ (ns.length : Int) = n ∧ (∀ x ∈ ns, 0 ≤ x ∧ x ≤ 1000000000) ∧ Q .non H
def sp_must_count : Sp := fun vs H Q _ => ∃ n : Int, vs = [.int n] ∧ (1 ≤ n ∧ n ≤ 20) ∧ Q .non H
def sp_under : Sp := fun vs H Q _ => ∃ (a : Addr) (ss : List (Int × Int)) (i j : Nat), vs = [.ref a, .int (i : Int), .int (j : Int)] ∧ LsP H a ss ∧ i < ss.length ∧ j < ss.length ∧ Q (.bl (underB ss i j)) H
section
variable {P : Program} {w : World} {K : PySem.W.Frag} {mg : Str → Option Value} {base : Heap}
theorem ok_is_place (T : Txt K mg) : FnOk P w K mg base CX0 1 T.is_place.f T.is_place.fd ["number"] sp_is_place := by
  refine T.is_place.F.ok sc_is_place (fun vs H Q E h => ?_) (fun cdv A outer s H vs Q E hr h => ?_)
  · first | (obtain ⟨_, rfl, _⟩ := h; rfl) | (obtain ⟨_, _, rfl, _⟩ := h; rfl) | (obtain ⟨_, _, _, rfl, _⟩ := h; rfl) | (obtain ⟨_, _, _, _, rfl, _⟩ := h; rfl) | (obtain ⟨_, _, _, _, _, rfl, _⟩ := h; rfl) | (obtain ⟨_, _, _, _, _, _, rfl, _⟩ := h; rfl) | (obtain ⟨_, _, _, _, _, _, _, rfl, _⟩ := h; rfl) | (obtain ⟨_, _, _, _, _, _, _, _, rfl, _⟩ := h; rfl) | (obtain ⟨_, _, _, _, _, _, _, _, _, rfl, _⟩ := h; rfl) | (obtain ⟨_, _, _, _, _, _, _, _, _, _, rfl, _⟩ := h; rfl) | (obtain ⟨_, _, _, _, _, _, _, _, _, _, _, rfl, _⟩ := h; rfl)
  refine ⟨_, (pss_one (ps_ret (pe_chain op_lt op_lt (pe_op op_sub pe_int (pe_glob (v := .int 1000000000000) rfl T.c_BEYOND.choose_spec ⟨_, rfl⟩)) (pv 0) (pe_glob (v := .int 1000000000000) rfl T.c_BEYOND.choose_spec ⟨_, rfl⟩)))), ?_⟩
  try dsimp only [cx_K]
  obtain ⟨n, rfl, q⟩ := h
  walk_at "go"
  refine ifD (fun e => ?_) (fun e => ?_)
  · walk_at "go"
    exact k_bl (decide_eq_decide.mpr ⟨fun z => z.2, fun z => ⟨by omega, z⟩⟩) q
  · exact k_bl (decide_eq_false fun z => e (by omega)) q
theorem ok_is_span (T : Txt K mg) : FnOk P w K mg base CX0 2 T.is_span.f T.is_span.fd ["span"] sp_is_span := by
  refine T.is_span.F.ok sc_is_span (fun vs H Q E h => ?_) (fun cdv A outer s H vs Q E hr h => ?_)
  · first | (obtain ⟨_, rfl, _⟩ := h; rfl) | (obtain ⟨_, _, rfl, _⟩ := h; rfl) | (obtain ⟨_, _, _, rfl, _⟩ := h; rfl) | (obtain ⟨_, _, _, _, rfl, _⟩ := h; rfl) | (obtain ⟨_, _, _, _, _, rfl, _⟩ := h; rfl) | (obtain ⟨_, _, _, _, _, _, rfl, _⟩ := h; rfl) | (obtain ⟨_, _, _, _, _, _, _, rfl, _⟩ := h; rfl) | (obtain ⟨_, _, _, _, _, _, _, _, rfl, _⟩ := h; rfl) | (obtain ⟨_, _, _, _, _, _, _, _, _, rfl, _⟩ := h; rfl) | (obtain ⟨_, _, _, _, _, _, _, _, _, _, rfl, _⟩ := h; rfl) | (obtain ⟨_, _, _, _, _, _, _, _, _, _, _, rfl, _⟩ := h; rfl)
  refine ⟨_, (pss_one (ps_ret (pe_and (pe_call (ok_is_place T) (hr.mono (by decide)) (by rfl) T.is_place.g T.is_place.F.kp T.is_place.b .nil pass0 (pa_cons (pe_ix (ix_tupK (K := K) rfl) (pv 0) pe_int (fun _ _ => rfl)) pa_nil)) (pe_and (pe_call (ok_is_place T) (hr.mono (by decide)) (by rfl) T.is_place.g T.is_place.F.kp T.is_place.b .nil pass0 (pa_cons (pe_ix (ix_tupK (K := K) rfl) (pv 0) pe_int (fun _ _ => rfl)) pa_nil)) (pe_one (pe_cmpR op_lt (pe_ix (ix_tupK (K := K) rfl) (pv 0) pe_int (fun _ _ => rfl)) (pe_ix (ix_tupK (K := K) rfl) (pv 0) pe_int (fun _ _ => rfl)) (nomark _))))))), ?_⟩
  try dsimp only [cx_K]
  obtain ⟨v, s, rfl, ⟨p, rfl, hp⟩, ⟨o1, o2, o3⟩, q⟩ := h
  walk_at "go"
  refine ifY ⟨by omega, by omega⟩ ?_
  walk_at "go"
  refine ifY ⟨by omega, by omega⟩ ?_
  walk_at "go"
  exact k_bl (decide_eq_true o2).symm q
theorem ok_must_span (T : Txt K mg) : FnOk P w K mg base CX0 3 T.must_span.f T.must_span.fd ["span"] sp_must_span := by
  refine T.must_span.F.ok sc_must_span (fun vs H Q E h => ?_) (fun cdv A outer s H vs Q E hr h => ?_)
  · first | (obtain ⟨_, rfl, _⟩ := h; rfl) | (obtain ⟨_, _, rfl, _⟩ := h; rfl) | (obtain ⟨_, _, _, rfl, _⟩ := h; rfl) | (obtain ⟨_, _, _, _, rfl, _⟩ := h; rfl) | (obtain ⟨_, _, _, _, _, rfl, _⟩ := h; rfl) | (obtain ⟨_, _, _, _, _, _, rfl, _⟩ := h; rfl) | (obtain ⟨_, _, _, _, _, _, _, rfl, _⟩ := h; rfl) | (obtain ⟨_, _, _, _, _, _, _, _, rfl, _⟩ := h; rfl) | (obtain ⟨_, _, _, _, _, _, _, _, _, rfl, _⟩ := h; rfl) | (obtain ⟨_, _, _, _, _, _, _, _, _, _, rfl, _⟩ := h; rfl) | (obtain ⟨_, _, _, _, _, _, _, _, _, _, _, rfl, _⟩ := h; rfl)
  refine ⟨_, (pss_one (ps_if (pt_not (pt_val (pe_call (ok_is_span T) (hr.mono (by decide)) (by rfl) T.is_span.g T.is_span.F.kp T.is_span.b .nil pass0 (pa_cons (pv 0) pa_nil))))
  (pss_one ps_never)
  pss_nil)), ?_⟩
  try dsimp only [cx_K]
  obtain ⟨v, s, rfl, hp, hs, q⟩ := h
  exact ⟨_, rfl, v, s, rfl, hp, hs, _, rfl, q⟩
theorem ok_must_spans (T : Txt K mg) : FnOk P w K mg base CX0 4 T.must_spans.f T.must_spans.fd ["spans"] sp_must_spans := by
  refine T.must_spans.F.ok sc_must_spans (fun vs H Q E h => ?_) (fun cdv A outer s H vs Q E hr h => ?_)
  · first | (obtain ⟨_, rfl, _⟩ := h; rfl) | (obtain ⟨_, _, rfl, _⟩ := h; rfl) | (obtain ⟨_, _, _, rfl, _⟩ := h; rfl) | (obtain ⟨_, _, _, _, rfl, _⟩ := h; rfl) | (obtain ⟨_, _, _, _, _, rfl, _⟩ := h; rfl) | (obtain ⟨_, _, _, _, _, _, rfl, _⟩ := h; rfl) | (obtain ⟨_, _, _, _, _, _, _, rfl, _⟩ := h; rfl) | (obtain ⟨_, _, _, _, _, _, _, _, rfl, _⟩ := h; rfl) | (obtain ⟨_, _, _, _, _, _, _, _, _, rfl, _⟩ := h; rfl) | (obtain ⟨_, _, _, _, _, _, _, _, _, _, rfl, _⟩ := h; rfl) | (obtain ⟨_, _, _, _, _, _, _, _, _, _, _, rfl, _⟩ := h; rfl)
  refine ⟨_, (pss_one (ps_for PassesOwn.never rfl (pi_list (pv 0)) (pg_name (i := 1) sc_must_spans.nd rfl (.inl rfl))
  (pss_one (ps_expr (pe_call (ok_must_span T) (hr.mono (by decide)) (by rfl) T.must_span.g T.must_span.F.kp T.must_span.b .nil pass0 (pa_cons (pv 1) pa_nil)))))), ?_⟩
  try dsimp only [cx_K]
  obtain ⟨a, ss, rfl, hl, hs, q⟩ := h
  obtain ⟨us, hu, ru⟩ := id hl
  refine ⟨_, rfl, a, rfl, ⟨us, SqL.of hu⟩, for_it (walk_list (xs := us)) (fun i σ H' => ∃ y, σ = [some (.ref a), y] ∧ H' = H) ⟨none, rfl, rfl⟩ ?_ ?_ ?_⟩
  · rintro i σ H' hi ⟨y, rfl, rfl⟩
    exact SqL.of hu
  · rintro i x σ H1 H' hi ⟨y, rfl, rfl⟩ ⟨rfl, hx⟩
    obtain ⟨s, es, rs⟩ := ru.get hx
    exact ⟨_, rfl, x, s, rfl, rs, hs s (List.mem_of_getElem? es), some x, rfl, rfl⟩
  · rintro σ H' ⟨y, rfl, rfl⟩
    exact q
theorem ok_holds (T : Txt K mg) : FnOk P w K mg base CX0 1 T.holds.f T.holds.fd ["span", "place"] sp_holds := by
  refine T.holds.F.ok sc_holds (fun vs H Q E h => ?_) (fun cdv A outer s H vs Q E hr h => ?_)
  · first | (obtain ⟨_, rfl, _⟩ := h; rfl) | (obtain ⟨_, _, rfl, _⟩ := h; rfl) | (obtain ⟨_, _, _, rfl, _⟩ := h; rfl) | (obtain ⟨_, _, _, _, rfl, _⟩ := h; rfl) | (obtain ⟨_, _, _, _, _, rfl, _⟩ := h; rfl) | (obtain ⟨_, _, _, _, _, _, rfl, _⟩ := h; rfl) | (obtain ⟨_, _, _, _, _, _, _, rfl, _⟩ := h; rfl) | (obtain ⟨_, _, _, _, _, _, _, _, rfl, _⟩ := h; rfl) | (obtain ⟨_, _, _, _, _, _, _, _, _, rfl, _⟩ := h; rfl) | (obtain ⟨_, _, _, _, _, _, _, _, _, _, rfl, _⟩ := h; rfl) | (obtain ⟨_, _, _, _, _, _, _, _, _, _, _, rfl, _⟩ := h; rfl)
  refine ⟨_, (pss_one (ps_ret (pe_chain op_le op_lt (pe_ix (ix_tupK (K := K) rfl) (pv 0) pe_int (fun _ _ => rfl)) (pv 1) (pe_ix (ix_tupK (K := K) rfl) (pv 0) pe_int (fun _ _ => rfl))))), ?_⟩
  try dsimp only [cx_K]
  obtain ⟨v, s, p, rfl, ⟨a, rfl, ha⟩, q⟩ := h
  walk_at "go"
  refine ifD (fun e => ?_) (fun e => ?_)
  · walk_at "go"
    exact k_bl (decide_eq_decide.mpr ⟨fun z => z.2, fun z => ⟨e, z⟩⟩) q
  · exact k_bl (decide_eq_false fun z => e z.1) q
theorem ok_is_inside (T : Txt K mg) : FnOk P w K mg base CX0 1 T.is_inside.f T.is_inside.fd ["one", "other"] sp_is_inside := by
  refine T.is_inside.F.ok sc_is_inside (fun vs H Q E h => ?_) (fun cdv A outer s H vs Q E hr h => ?_)
  · first | (obtain ⟨_, rfl, _⟩ := h; rfl) | (obtain ⟨_, _, rfl, _⟩ := h; rfl) | (obtain ⟨_, _, _, rfl, _⟩ := h; rfl) | (obtain ⟨_, _, _, _, rfl, _⟩ := h; rfl) | (obtain ⟨_, _, _, _, _, rfl, _⟩ := h; rfl) | (obtain ⟨_, _, _, _, _, _, rfl, _⟩ := h; rfl) | (obtain ⟨_, _, _, _, _, _, _, rfl, _⟩ := h; rfl) | (obtain ⟨_, _, _, _, _, _, _, _, rfl, _⟩ := h; rfl) | (obtain ⟨_, _, _, _, _, _, _, _, _, rfl, _⟩ := h; rfl) | (obtain ⟨_, _, _, _, _, _, _, _, _, _, rfl, _⟩ := h; rfl) | (obtain ⟨_, _, _, _, _, _, _, _, _, _, _, rfl, _⟩ := h; rfl)
  refine ⟨_, (pss_one (ps_ret (pe_and (pe_cmpR op_le (pe_ix (ix_tupK (K := K) rfl) (pv 1) pe_int (fun _ _ => rfl)) (pe_ix (ix_tupK (K := K) rfl) (pv 0) pe_int (fun _ _ => rfl)) (nomark _)) (pe_one (pe_cmpR op_le (pe_ix (ix_tupK (K := K) rfl) (pv 0) pe_int (fun _ _ => rfl)) (pe_ix (ix_tupK (K := K) rfl) (pv 1) pe_int (fun _ _ => rfl)) (nomark _)))))), ?_⟩
  try dsimp only [cx_K]
  obtain ⟨u, v, s, t, rfl, ⟨a, rfl, ha⟩, ⟨b, rfl, hb⟩, q⟩ := h
  walk_at "go"
  refine ifD (fun e => ?_) (fun e => ?_)
  · walk_at "go"
    exact k_bl (decide_eq_decide.mpr ⟨fun z => z.2, fun z => ⟨e, z⟩⟩) q
  · exact k_bl (decide_eq_false fun z => e z.1) q
theorem ok_depth_in (T : Txt K mg) : FnOk P w K mg base CX0 2 T.depth_in.f T.depth_in.fd ["spans", "place"] sp_depth_in := by
  refine T.depth_in.F.ok sc_depth_in (fun vs H Q E h => ?_) (fun cdv A outer s H vs Q E hr h => ?_)
  · first | (obtain ⟨_, rfl, _⟩ := h; rfl) | (obtain ⟨_, _, rfl, _⟩ := h; rfl) | (obtain ⟨_, _, _, rfl, _⟩ := h; rfl) | (obtain ⟨_, _, _, _, rfl, _⟩ := h; rfl) | (obtain ⟨_, _, _, _, _, rfl, _⟩ := h; rfl) | (obtain ⟨_, _, _, _, _, _, rfl, _⟩ := h; rfl) | (obtain ⟨_, _, _, _, _, _, _, rfl, _⟩ := h; rfl) | (obtain ⟨_, _, _, _, _, _, _, _, rfl, _⟩ := h; rfl) | (obtain ⟨_, _, _, _, _, _, _, _, _, rfl, _⟩ := h; rfl) | (obtain ⟨_, _, _, _, _, _, _, _, _, _, rfl, _⟩ := h; rfl) | (obtain ⟨_, _, _, _, _, _, _, _, _, _, _, rfl, _⟩ := h; rfl)
  refine ⟨_, (pss_one (ps_ret (pe_callB call_len_seq (by rfl) T.b_len PySem.boot_len (pa_cons (pe_lc (own := [("span", 2)]) rfl sc_depth_in.nd (pi_list (pv 0)) (blkOk_by (N := ["spans", "place", "span"]) (sc := defScope s_depth_in) (by decide +kernel)) (fun _ _ _ _ _ => (pg_name (i := 2) sc_depth_in.nd rfl (.inl rfl))) (fun _ _ _ _ _ => (pts_one (pt_val (pe_call (ok_holds T) (hr.mono (by decide)) (by rfl) T.holds.g T.holds.F.kp T.holds.b .nil pass0 (pa_cons (pv 2) (pa_cons (pv 1) pa_nil)))))) (fun _ _ _ _ _ => (pv 2))) pa_nil)))), ?_⟩
  try dsimp only [cx_K]
  obtain ⟨a, ss, p, rfl, ⟨us, hu, ru⟩, hn, q⟩ := h
  refine ⟨_, rfl, a, rfl, ⟨us, SqL.of hu⟩, fun D hD => lc_map (walk_list (xs := us)) Pr (fun t k => k.tp t) (fun i => (ss[i]?).bind fun s => if holdsB s p = true then some s else none) (by have := ru.len; omega) hD (fun H' e => SqL.of (e _ _ hu)) (fun i x H0 H' hi s0 ⟨e, hx⟩ Kt Kf ht hf => ?_) (fun H' e hl => ?_)⟩
  · subst e
    obtain ⟨s, es, rs⟩ := ru.get hx
    have rs0 := rs.tp (tp_of s0)
    refine ⟨rfl, _, rfl, _, rfl, x, s, p, rfl, rs0, _, rfl, ifB (fun hb => ?_) (fun hb => ?_)⟩
    · exact ⟨_, rfl, ht x s _ (Same.refl _) (by rw [es, Option.bind_some, if_pos hb]) rs0⟩
    · exact hf _ (Same.refl _) (by rw [es, Option.bind_some, if_neg (by rw [hb]; decide)])
  · obtain ⟨ds, hd, rd⟩ := hl
    refine ⟨_, _, rfl, .inl (SqL.of hd), ?_⟩
    have e1 : (List.range us.length).filterMap (fun i => (ss[i]?).bind fun s => if holdsB s p = true then some s else none) = ss.filter fun s => holdsB s p := by
      rw [ru.len, range_fm ss (fun s => if holdsB s p = true then some s else none) _ (fun i x hx => by rw [hx, Option.bind_some])]
      rw [← List.filterMap_eq_filter]
      rfl
    rw [rd.len, e1]
    exact q H' e
theorem ok_must_weight (T : Txt K mg) : FnOk P w K mg base CX0 1 T.must_weight.f T.must_weight.fd ["weight"] sp_must_weight := by
  refine T.must_weight.F.ok sc_must_weight (fun vs H Q E h => ?_) (fun cdv A outer s H vs Q E hr h => ?_)
  · first | (obtain ⟨_, rfl, _⟩ := h; rfl) | (obtain ⟨_, _, rfl, _⟩ := h; rfl) | (obtain ⟨_, _, _, rfl, _⟩ := h; rfl) | (obtain ⟨_, _, _, _, rfl, _⟩ := h; rfl) | (obtain ⟨_, _, _, _, _, rfl, _⟩ := h; rfl) | (obtain ⟨_, _, _, _, _, _, rfl, _⟩ := h; rfl) | (obtain ⟨_, _, _, _, _, _, _, rfl, _⟩ := h; rfl) | (obtain ⟨_, _, _, _, _, _, _, _, rfl, _⟩ := h; rfl) | (obtain ⟨_, _, _, _, _, _, _, _, _, rfl, _⟩ := h; rfl) | (obtain ⟨_, _, _, _, _, _, _, _, _, _, rfl, _⟩ := h; rfl) | (obtain ⟨_, _, _, _, _, _, _, _, _, _, _, rfl, _⟩ := h; rfl)
  refine ⟨_, (pss_one (ps_if (pt_not (pt_chain op_le op_le pe_int (pv 0) (pe_glob (v := .int 1000000000) rfl T.c_MOST_WEIGHT.choose_spec ⟨_, rfl⟩)))
  (pss_one ps_never)
  pss_nil)), ?_⟩
  try dsimp only [cx_K]
  obtain ⟨n, rfl, ⟨h1, h2⟩, q⟩ := h
  walk_at "go"
  refine ifY h1 ?_
  walk_at "go"
  rw [decide_eq_true h2]
  walk_at "go"
  exact q
theorem ok_must_weights (T : Txt K mg) : FnOk P w K mg base CX0 2 T.must_weights.f T.must_weights.fd ["weights", "many"] sp_must_weights := by
  refine T.must_weights.F.ok sc_must_weights (fun vs H Q E h => ?_) (fun cdv A outer s H vs Q E hr h => ?_)
  · first | (obtain ⟨_, rfl, _⟩ := h; rfl) | (obtain ⟨_, _, rfl, _⟩ := h; rfl) | (obtain ⟨_, _, _, rfl, _⟩ := h; rfl) | (obtain ⟨_, _, _, _, rfl, _⟩ := h; rfl) | (obtain ⟨_, _, _, _, _, rfl, _⟩ := h; rfl) | (obtain ⟨_, _, _, _, _, _, rfl, _⟩ := h; rfl) | (obtain ⟨_, _, _, _, _, _, _, rfl, _⟩ := h; rfl) | (obtain ⟨_, _, _, _, _, _, _, _, rfl, _⟩ := h; rfl) | (obtain ⟨_, _, _, _, _, _, _, _, _, rfl, _⟩ := h; rfl) | (obtain ⟨_, _, _, _, _, _, _, _, _, _, rfl, _⟩ := h; rfl) | (obtain ⟨_, _, _, _, _, _, _, _, _, _, _, rfl, _⟩ := h; rfl)
  refine ⟨_, (pss_cons (ps_if (pt_cmpR op_ne (pe_callB call_len_seq (by rfl) T.b_len PySem.boot_len (pa_cons (pv 0) pa_nil)) (pv 1) (nomark _))
  (pss_one ps_never)
  pss_nil)
  (pss_one (ps_for PassesOwn.never rfl (pi_list (pv 0)) (pg_name (i := 2) sc_must_weights.nd rfl (.inl rfl))
  (pss_one (ps_expr (pe_call (ok_must_weight T) (hr.mono (by decide)) (by rfl) T.must_weight.g T.must_weight.F.kp T.must_weight.b .nil pass0 (pa_cons (pv 2) pa_nil))))))), ?_⟩
  try dsimp only [cx_K]
  obtain ⟨a, ns, n, rfl, hu, hn, hs, q⟩ := h
  walk_at "go"
  rw [List.length_map, hn, decide_eq_true rfl]
  show if (!true) = true then _ else _
  refine iteF ?_
  refine ⟨_, rfl, a, rfl, ⟨_, SqL.of hu⟩, for_it (walk_list (xs := ns.map V.int)) (fun i σ H' => ∃ y, σ = [some (.ref a), some (.int n), y] ∧ H' = H) ⟨none, rfl, rfl⟩ ?_ ?_ ?_⟩
  · rintro i σ H' hi ⟨y, rfl, rfl⟩
    exact SqL.of hu
  · rintro i x σ H1 H' hi ⟨y, rfl, rfl⟩ ⟨rfl, hx⟩
    obtain ⟨m, em, rfl⟩ := (int_rows (H := fun _ => none) ns).get hx
    exact ⟨_, rfl, m, rfl, hs m (List.mem_of_getElem? em), _, rfl, rfl⟩
  · rintro σ H' ⟨y, rfl, rfl⟩
    exact q
theorem ok_must_count (T : Txt K mg) : FnOk P w K mg base CX0 1 T.must_count.f T.must_count.fd ["k"] sp_must_count := by
  refine T.must_count.F.ok sc_must_count (fun vs H Q E h => ?_) (fun cdv A outer s H vs Q E hr h => ?_)
  · first | (obtain ⟨_, rfl, _⟩ := h; rfl) | (obtain ⟨_, _, rfl, _⟩ := h; rfl) | (obtain ⟨_, _, _, rfl, _⟩ := h; rfl) | (obtain ⟨_, _, _, _, rfl, _⟩ := h; rfl) | (obtain ⟨_, _, _, _, _, rfl, _⟩ := h; rfl) | (obtain ⟨_, _, _, _, _, _, rfl, _⟩ := h; rfl) | (obtain ⟨_, _, _, _, _, _, _, rfl, _⟩ := h; rfl) | (obtain ⟨_, _, _, _, _, _, _, _, rfl, _⟩ := h; rfl) | (obtain ⟨_, _, _, _, _, _, _, _, _, rfl, _⟩ := h; rfl) | (obtain ⟨_, _, _, _, _, _, _, _, _, _, rfl, _⟩ := h; rfl) | (obtain ⟨_, _, _, _, _, _, _, _, _, _, _, rfl, _⟩ := h; rfl)
  refine ⟨_, (pss_one (ps_if (pt_not (pt_chain op_le op_le pe_int (pv 0) (pe_glob (v := .int 20) rfl T.c_MOST_COUNT.choose_spec ⟨_, rfl⟩)))
  (pss_one ps_never)
  pss_nil)), ?_⟩
  try dsimp only [cx_K]
  obtain ⟨n, rfl, ⟨h1, h2⟩, q⟩ := h
  walk_at "go"
  refine ifY h1 ?_
  walk_at "go"
  rw [decide_eq_true h2]
  walk_at "go"
  exact q
theorem ok_under (T : Txt K mg) : FnOk P w K mg base CX0 2 T.under.f T.under.fd ["spans", "one", "other"] sp_under := by
  refine T.under.F.ok sc_under (fun vs H Q E h => ?_) (fun cdv A outer s H vs Q E hr h => ?_)
  · first | (obtain ⟨_, rfl, _⟩ := h; rfl) | (obtain ⟨_, _, rfl, _⟩ := h; rfl) | (obtain ⟨_, _, _, rfl, _⟩ := h; rfl) | (obtain ⟨_, _, _, _, rfl, _⟩ := h; rfl) | (obtain ⟨_, _, _, _, _, rfl, _⟩ := h; rfl) | (obtain ⟨_, _, _, _, _, _, rfl, _⟩ := h; rfl) | (obtain ⟨_, _, _, _, _, _, _, rfl, _⟩ := h; rfl) | (obtain ⟨_, _, _, _, _, _, _, _, rfl, _⟩ := h; rfl) | (obtain ⟨_, _, _, _, _, _, _, _, _, rfl, _⟩ := h; rfl) | (obtain ⟨_, _, _, _, _, _, _, _, _, _, rfl, _⟩ := h; rfl) | (obtain ⟨_, _, _, _, _, _, _, _, _, _, _, rfl, _⟩ := h; rfl)
  refine ⟨_, (pss_cons (ps_if (pt_cmpR (op_eqDK (K := K) rfl hr.units) (pe_ix (ix_listK (K := K) rfl) (pv 0) (pv 1) (fun _ _ => rfl)) (pe_ix (ix_listK (K := K) rfl) (pv 0) (pv 2) (fun _ _ => rfl)) (nomark _))
  (pss_one (ps_ret (pe_cmpR op_lt (pv 1) (pv 2) (nomark _))))
  pss_nil)
  (pss_one (ps_ret (pe_call (ok_is_inside T) (hr.mono (by decide)) (by rfl) T.is_inside.g T.is_inside.F.kp T.is_inside.b .nil pass0 (pa_cons (pe_ix (ix_listK (K := K) rfl) (pv 0) (pv 1) (fun _ _ => rfl)) (pa_cons (pe_ix (ix_listK (K := K) rfl) (pv 0) (pv 2) (fun _ _ => rfl)) pa_nil)))))), ?_⟩
  try dsimp only [cx_K]
  obtain ⟨a, ss, i, j, rfl, ⟨us, hu, ru⟩, hi, hj, q⟩ := h
  obtain ⟨vi, gi, ri⟩ := ru.at (List.getElem?_eq_getElem hi)
  obtain ⟨vj, gj, rj⟩ := ru.at (List.getElem?_eq_getElem hj)
  walk_at "go"
  refine k_eq dtP ri rj ?_
  walk_at "go"
  have ei : ss.getD i (0, 0) = ss[i] := by rw [List.getD_eq_getElem?_getD, List.getElem?_eq_getElem hi, Option.getD_some]
  have ej : ss.getD j (0, 0) = ss[j] := by rw [List.getD_eq_getElem?_getD, List.getElem?_eq_getElem hj, Option.getD_some]
  refine ifD (fun e => ?_) (fun e => ?_)
  · walk_at "go"
    refine k_bl (a := underB ss i j) ?_ q
    unfold underB
    rw [ei, ej]
    show (if ss[i] = ss[j] then _ else _) = _
    rw [if_pos e]
    exact decide_eq_decide.mpr (by omega)
  · walk_at "go"
    refine ⟨vi, vj, ss[i], ss[j], rfl, ri, rj, k_bl (a := underB ss i j) ?_ q⟩
    unfold underB
    rw [ei, ej]
    show (if ss[i] = ss[j] then _ else _) = _
    rw [if_neg e]
end

/-- what a def hands back: a list of these -/
def RetI (xs : List Int) (H : Hp) (Q : VK) : Prop := ∀ H' p, Same H H' → H p = none → LsI H' p xs → Q (.ref p) H'
def RetP (xs : List Spn) (H : Hp) (Q : VK) : Prop := ∀ H' p, Same H H' → H p = none → LsP H' p xs → Q (.ref p) H'
def RetT (xs : List (Int × Int × Int)) (H : Hp) (Q : VK) : Prop := ∀ H' p, Same H H' → H p = none → LsT H' p xs → Q (.ref p) H'
def sp_ends_of : Sp := fun vs H Q _ => ∃ (a : Addr) (ss : List Spn), vs = [.ref a] ∧ LsP H a ss ∧ ss.length ≤ 20 ∧ RetI (ends ss) H Q
def sp_poured : Sp := fun vs H Q _ => ∃ (a : Addr) (ss : List Spn), vs = [.ref a] ∧ LsP H a ss ∧ ss.length ≤ 300 ∧ RetP (pour ss) H Q
/-- (high, low, number) or (low, high, number) of each, numbered -/
def sp_cover_of : Sp := fun vs H Q _ => ∃ (a : Addr) (ss : List Spn), vs = [.ref a] ∧ LsP H a ss ∧ ss.length ≤ 300 ∧ (∀ s ∈ ss, okS s) ∧ RetP (pour ss) H Q
/-- spans that rise, with places between -/
def Gaps (ss : List Spn) : Prop := ∀ (i : Nat) (s t : Spn), ss[i]? = some s → ss[i + 1]? = some t → s.2 < t.1
def sp_must_cover : Sp := fun vs H Q _ => ∃ (a : Addr) (ss : List Spn), vs = [.ref a] ∧ LsP H a ss ∧ ss.length ≤ 200 ∧ (∀ s ∈ ss, okS s) ∧ Gaps ss ∧ ∀ H', Same H H' → Q .non H'
def sp_either : Sp := fun vs H Q _ => ∃ (a b : Addr) (ss ts : List Spn), vs = [.ref a, .ref b] ∧ LsP H a ss ∧ ss.length ≤ 100 ∧ (∀ s ∈ ss, okS s) ∧ Gaps ss ∧ LsP H b ts ∧ ts.length ≤ 100 ∧ (∀ s ∈ ts, okS s) ∧ Gaps ts ∧ RetP (pour (ss ++ ts)) H Q
def heldOf (ss : List Spn) : Int := (ss.map fun s => s.2 - s.1).sum
def sp_held : Sp := fun vs H Q _ => ∃ (a : Addr) (ss : List Spn), vs = [.ref a] ∧ LsP H a ss ∧ ss.length ≤ 200 ∧ (∀ s ∈ ss, okS s) ∧ Gaps ss ∧ ∀ H', Same H H' → Q (.int (heldOf ss)) H'
section
variable {P : Program} {w : World} {K : PySem.W.Frag} {mg : Str → Option Value} {base : Heap}
theorem ok_ends_of (T : Txt K mg) : FnOk P w K mg base CX0 1 T.ends_of.f T.ends_of.fd ["spans"] sp_ends_of := by
  refine T.ends_of.F.ok sc_ends_of (fun vs H Q E h => ?_) (fun cdv A outer s H vs Q E hr h => ?_)
  · first | (obtain ⟨_, rfl, _⟩ := h; rfl) | (obtain ⟨_, _, rfl, _⟩ := h; rfl) | (obtain ⟨_, _, _, rfl, _⟩ := h; rfl) | (obtain ⟨_, _, _, _, rfl, _⟩ := h; rfl) | (obtain ⟨_, _, _, _, _, rfl, _⟩ := h; rfl) | (obtain ⟨_, _, _, _, _, _, rfl, _⟩ := h; rfl) | (obtain ⟨_, _, _, _, _, _, _, rfl, _⟩ := h; rfl) | (obtain ⟨_, _, _, _, _, _, _, _, rfl, _⟩ := h; rfl) | (obtain ⟨_, _, _, _, _, _, _, _, _, rfl, _⟩ := h; rfl) | (obtain ⟨_, _, _, _, _, _, _, _, _, _, rfl, _⟩ := h; rfl) | (obtain ⟨_, _, _, _, _, _, _, _, _, _, _, rfl, _⟩ := h; rfl)
  refine ⟨_, (pss_one (ps_ret (pe_callB (cr_sortSJ (w := w) rfl rfl) (by rfl) T.b_sorted (by decide +kernel) (pa_cons (pe_callTy (cr_setJ (K := K) (w := w) rfl rfl rfl) (by rfl) T.b_set (by decide +kernel) (pa_cons (pe_op op_catJ (pe_lc (own := [("span", 1)]) (tt := tYes) rfl sc_ends_of.nd (pi_list (pv 0)) (blkOk_by (N := ["spans", "span"]) (sc := defScope s_ends_of) (by decide +kernel)) (fun _ _ _ _ _ => (pg_name (i := 1) sc_ends_of.nd rfl (.inl rfl))) (fun _ _ _ _ _ => pts_nil) (fun _ _ _ _ _ => (pe_ix (ix_tupK (K := K) rfl) (pv 1) pe_int (fun _ _ => rfl)))) (pe_lc (own := [("span", 1)]) (tt := tYes) rfl sc_ends_of.nd (pi_list (pv 0)) (blkOk_by (N := ["spans", "span"]) (sc := defScope s_ends_of) (by decide +kernel)) (fun _ _ _ _ _ => (pg_name (i := 1) sc_ends_of.nd rfl (.inl rfl))) (fun _ _ _ _ _ => pts_nil) (fun _ _ _ _ _ => (pe_ix (ix_tupK (K := K) rfl) (pv 1) pe_int (fun _ _ => rfl))))) pa_nil)) pa_nil)))), ?_⟩
  try dsimp only [cx_K]
  obtain ⟨a, ss, rfl, hl, hn, q⟩ := h
  obtain ⟨us, hu, ru⟩ := id hl
  refine ⟨_, rfl, a, rfl, ⟨us, SqL.of hu⟩, fun D hD => lc_eachM Pr (fun t k => k.tp t) In (fun t k => k.tp t) (fun s => s.1) hu ru (by omega) hD (fun v s H0 _ s0 ⟨p, ev, hp⟩ Kt ht => ?_) (fun H1 s1 h1 => ?_)⟩
  · subst ev
    refine ⟨rfl, ?_⟩
    walk_at "go"
    exact ht _ _ (Same.refl _) rfl
  have h1 := ls_int h1
  refine ⟨_, rfl, a, rfl, ⟨us, SqL.of (s1 _ _ hu)⟩, fun D2 hD2 => lc_eachM Pr (fun t k => k.tp t) In (fun t k => k.tp t) (fun s => s.2) (s1 _ _ hu) (ru.mono fun _ _ k => k.tp (tp_of s1)) (by omega) hD2 (fun v s H0 _ s0 ⟨p, ev, hp⟩ Kt ht => ?_) (fun H2 s2 h2 => ?_)⟩
  · subst ev
    refine ⟨rfl, ?_⟩
    walk_at "go"
    exact ht _ _ (Same.refl _) rfl
  have h2 := ls_int h2
  refine k_cat (s2 _ _ h1) h2 (by simp only [List.length_map]; omega) fun p H3 s3 n3 h3 => ?_
  rw [← List.map_append] at h3
  refine k_setOf h3 (by simp only [List.length_append, List.length_map]; omega) fun H4 r c s4 n4 hc h4 => ?_
  refine k_sortU h4 hc fun H5 r2 s5 n5 h5 => ?_
  exact q H5 r2 ((((s1.trans s2).trans s3).trans s4).trans s5) ((((s1.trans s2).trans s3).trans s4).free n5) h5
theorem ok_poured (T : Txt K mg) : FnOk P w K mg base CX0 1 T.poured.f T.poured.fd ["spans"] sp_poured := by
  refine T.poured.F.ok sc_poured (fun vs H Q E h => ?_) (fun cdv A outer s H vs Q E hr h => ?_)
  · first | (obtain ⟨_, rfl, _⟩ := h; rfl) | (obtain ⟨_, _, rfl, _⟩ := h; rfl) | (obtain ⟨_, _, _, rfl, _⟩ := h; rfl) | (obtain ⟨_, _, _, _, rfl, _⟩ := h; rfl) | (obtain ⟨_, _, _, _, _, rfl, _⟩ := h; rfl) | (obtain ⟨_, _, _, _, _, _, rfl, _⟩ := h; rfl) | (obtain ⟨_, _, _, _, _, _, _, rfl, _⟩ := h; rfl) | (obtain ⟨_, _, _, _, _, _, _, _, rfl, _⟩ := h; rfl) | (obtain ⟨_, _, _, _, _, _, _, _, _, rfl, _⟩ := h; rfl) | (obtain ⟨_, _, _, _, _, _, _, _, _, _, rfl, _⟩ := h; rfl) | (obtain ⟨_, _, _, _, _, _, _, _, _, _, _, rfl, _⟩ := h; rfl)
  refine ⟨_, (pss_cons (ps_set (i := 1) sc_poured.nd rfl (.inl rfl) (pe_lst pa_nil))
  (pss_cons (ps_for PassesOwn.never rfl (pi_list (pe_callB (cr_sortJ (K := K) (d := 2) rfl (by decide)) (by rfl) T.b_sorted (by decide +kernel) (pa_cons (pv 0) pa_nil))) (pg_tupK (K := K) (n := 2) rfl rfl (pgs_cons (pg_name (i := 2) sc_poured.nd rfl (.inl rfl)) (pgs_cons (pg_name (i := 3) sc_poured.nd rfl (.inl rfl)) pgs_nil)))
  (pss_one (ps_if (PW.pt (pw_and (pt_cmpR (op_neDK (K := K) rfl hr.units) (pv 1) (pe_lst pa_nil) (nomark _)) (pw_and1 (pt_cmpR op_le (pv 2) (pe_ix (ix_tupK (K := K) rfl) (pe_ix (ix_listK (K := K) rfl) (pv 1) (pe_un un_neg pe_int) (fun _ _ => rfl)) pe_int (fun _ _ => rfl)) (nomark _)))))
  (pss_one (ps_asg (pe_tup (pa_cons (pe_ix (ix_tupK (K := K) rfl) (pe_ix (ix_listK (K := K) rfl) (pv 1) (pe_un un_neg pe_int) (fun _ _ => rfl)) pe_int (fun _ _ => rfl)) (pa_cons (pe_callB (call_max2 rfl) (by rfl) T.b_max (by decide +kernel) (pa_cons (pv 3) (pa_cons (pe_ix (ix_tupK (K := K) rfl) (pe_ix (ix_listK (K := K) rfl) (pv 1) (pe_un un_neg pe_int) (fun _ _ => rfl)) pe_int (fun _ _ => rfl)) pa_nil))) pa_nil))) (pg_sub (pv 1) (pe_un un_neg pe_int) set_list)))
  (pss_one (ps_expr (pe_bm PySem.F.plainAttrs_list PySem.F.slot_list_append PySem.F.type_list_append mt_append (pv 1) (pa_cons (pe_tup (pa_cons (pv 2) (pa_cons (pv 3) pa_nil))) pa_nil)))))))
  (pss_one (ps_ret (pv 1))))), ?_⟩
  try dsimp only [cx_K]
  obtain ⟨a, ss, rfl, hl, hn, q⟩ := h
  refine ⟨Nat.zero_le _, fun fo n1 => ?_⟩
  obtain ⟨s1, h1⟩ := newF (o := .lst []) n1
  generalize upd H fo (.lst []) = H1 at s1 h1 ⊢
  refine ⟨_, rfl, ?_⟩
  refine k_sort2 (lsP_same s1 hl) fun H2 p s2 n2 ⟨us, hu, ru⟩ => ?_
  have nfp : fo ≠ p := fun e => by
    rw [e, n2] at h1
    cases h1
  refine ⟨p, rfl, ⟨us, SqL.of hu⟩, for_it (walk_list (xs := us)) (fun i σ H' => ∃ y2 y3, σ = [some (.ref a), some (.ref fo), y2, y3] ∧ Same H H' ∧ H' p = some (.lst us) ∧ Tp H2 H' ∧ LsP H' fo (((isort le2 ss).take i).foldl pourStep [])) ?_ ?_ ?_ ?_⟩
  · exact ⟨none, none, rfl, s1.trans s2, hu, Tp.refl _, [], s2 _ _ h1, Rows.nil⟩
  · rintro i σ H' hi ⟨y2, y3, rfl, _, hp, _⟩
    exact SqL.of hp
  · rintro i x σ _ H3 hi ⟨y2, y3, rfl, s3, hp, tp, ho⟩ ⟨rfl, hx⟩
    obtain ⟨s, es, rs⟩ := ru.get hx
    obtain ⟨t, rfl, ht⟩ := rs.tp tp
    obtain ⟨fs, hf, rf⟩ := id ho
    rw [show us.length = ss.length by rw [ru.len, isort_len]] at hi
    have e1 := fold_take (f := pourStep) (b := []) es
    generalize efl : ((isort le2 ss).take i).foldl pourStep [] = fl at ho hf rf e1 ⊢
    refine g_two ht ⟨_, rfl, k_neN dtP ho fun p2 n3 => ⟨_, rfl, ?_⟩⟩
    obtain ⟨s4, h4⟩ := newF (o := .lst []) n3
    generalize upd H3 p2 (.lst []) = H4 at s4 h4 ⊢
    have hf4 := s4 _ _ hf
    have hlen : fs.length ≤ 300 := by
      rw [rf.len, ← efl]
      exact Nat.le_trans (pour_len _ _) (by simp only [List.length_take, List.length_nil]; omega)
    have done : ∀ (H5 : Hp) (fs' : List V), Same H4 H5 → Rows (Pr (upd H5 fo (.lst fs'))) fs' (pourStep fl s) → ∃ y2 y3, [some (V.ref a), some (V.ref fo), some (V.int s.1), some (V.int s.2)] = [some (V.ref a), some (V.ref fo), y2, y3] ∧ Same H (upd H5 fo (.lst fs')) ∧ (upd H5 fo (.lst fs')) p = some (.lst us) ∧ Tp H2 (upd H5 fo (.lst fs')) ∧ LsP (upd H5 fo (.lst fs')) fo (((isort le2 ss).take (i + 1)).foldl pourStep []) := fun H5 fs' s5 rf' => by
      refine ⟨_, _, rfl, sm_mut ((s3.trans s4).trans s5) n1, up_far nfp.symm (s5 _ _ (s4 _ _ hp)), (tp.trans (tp_of (s4.trans s5))).trans (tp_lst (s5 _ _ hf4)), fs', upd_same, ?_⟩
      rw [e1]
      exact rf'
    have addOne : pourStep fl s = fl ++ [s] → tDrop (tBM K "list" rAppend (tVar 1) (tCons (tTup (tCons (tVar 2) (tCons (tVar 3) tNil))) tNil)) { nx := fun σ' H' => ∃ y2 y3, σ' = [some (V.ref a), some (V.ref fo), y2, y3] ∧ Same H H' ∧ H' p = some (.lst us) ∧ Tp H2 H' ∧ LsP H' fo (((isort le2 ss).take (i + 1)).foldl pourStep []), rt := Q } [some (V.ref a), some (V.ref fo), some (V.int s.1), some (V.int s.2)] H4 := fun ep => by
      refine ⟨_, rfl, .inl ⟨rfl, _, SqL.of hf4⟩, _, rfl, _, rfl, by show 2 ≤ sizeLine; decide, fun r n5 => ?_⟩
      obtain ⟨s5, h5⟩ := newF (o := .tup [.int s.1, .int s.2]) n5
      generalize upd H4 r (.tup [.int s.1, .int s.2]) = H5 at s5 h5 ⊢
      refine ⟨fo, fs, .ref r, rfl, rfl, s5 _ _ hf4, szt (by omega), done H5 _ s5 ?_⟩
      rw [ep]
      exact ((rf.mono fun _ _ k => k.tp ((tp_of (s4.trans s5)).trans (tp_lst (s5 _ _ hf4)))).snoc ⟨r, rfl, tp_lst (s5 _ _ hf4) _ _ h5⟩)
    rcases nil_or_snoc fl with e | ⟨m, l, e⟩
    · subst e
      rw [decide_eq_true rfl]
      exact iteF (iteF (addOne rfl))
    · subst e
      rw [decide_eq_false (by simp)]
      refine iteT ?_
      obtain ⟨ws, v, rfl, rw1, rl⟩ := rf.last
      obtain ⟨z, rfl, hz⟩ := rl.tp (tp_of s4)
      walk_at "go"
      have e3 : pourStep (m ++ [l]) s = if s.1 ≤ l.2 then m ++ [(l.1, max s.2 l.2)] else (m ++ [l]) ++ [s] := by
        unfold pourStep
        rw [List.getLast?_concat]
        simp only [List.dropLast_concat]
      refine ifD (fun hle => ?_) (fun hle => ?_)
      · walk_at "go"
        refine ⟨by show 2 ≤ sizeLine; decide, fun r n5 => ?_⟩
        have em : (if l.2 > s.2 then l.2 else s.2) = max s.2 l.2 := by
          rw [Int.max_def]
          by_cases h : s.2 ≤ l.2
          · rw [if_pos h]
            split <;> omega
          · rw [if_neg h, if_neg (by omega)]
        rw [em]
        obtain ⟨s5, h5⟩ := newF (o := .tup [.int l.1, .int (max s.2 l.2)]) n5
        generalize upd H4 r (.tup [.int l.1, .int (max s.2 l.2)]) = H5 at s5 h5 ⊢
        refine ⟨_, rfl, _, rfl, fo, _, -1, ws.length, rfl, rfl, s5 _ _ hf4, by rw [List.length_append]; exact ixN_last _, ?_⟩
        rw [set_last]
        refine done H5 _ s5 ?_
        rw [e3, if_pos hle]
        have t5 : Tp H5 (upd H5 fo (.lst (ws ++ [.ref r]))) := tp_lst (s5 _ _ hf4)
        exact (rw1.mono fun _ _ k => k.tp ((tp_of (s4.trans s5)).trans t5)).snoc ⟨r, rfl, t5 _ _ h5⟩
      · exact addOne (e3.trans (if_neg hle))
  · rintro σ H' ⟨y2, y3, rfl, s3, hp, tp, ho⟩
    rw [ru.len, List.take_length] at ho
    exact ⟨_, rfl, q H' fo s3 n1 ho⟩
theorem ok_cover_of (T : Txt K mg) : FnOk P w K mg base CX0 5 T.cover_of.f T.cover_of.fd ["spans"] sp_cover_of := by
  refine T.cover_of.F.ok sc_cover_of (fun vs H Q E h => ?_) (fun cdv A outer s H vs Q E hr h => ?_)
  · first | (obtain ⟨_, rfl, _⟩ := h; rfl) | (obtain ⟨_, _, rfl, _⟩ := h; rfl) | (obtain ⟨_, _, _, rfl, _⟩ := h; rfl) | (obtain ⟨_, _, _, _, rfl, _⟩ := h; rfl) | (obtain ⟨_, _, _, _, _, rfl, _⟩ := h; rfl) | (obtain ⟨_, _, _, _, _, _, rfl, _⟩ := h; rfl) | (obtain ⟨_, _, _, _, _, _, _, rfl, _⟩ := h; rfl) | (obtain ⟨_, _, _, _, _, _, _, _, rfl, _⟩ := h; rfl) | (obtain ⟨_, _, _, _, _, _, _, _, _, rfl, _⟩ := h; rfl) | (obtain ⟨_, _, _, _, _, _, _, _, _, _, rfl, _⟩ := h; rfl) | (obtain ⟨_, _, _, _, _, _, _, _, _, _, _, rfl, _⟩ := h; rfl)
  refine ⟨_, (pss_cons (ps_expr (pe_call (ok_must_spans T) (hr.mono (by decide)) (by rfl) T.must_spans.g T.must_spans.F.kp T.must_spans.b .nil pass0 (pa_cons (pv 0) pa_nil)))
  (pss_one (ps_ret (pe_call (ok_poured T) (hr.mono (by decide)) (by rfl) T.poured.g T.poured.F.kp T.poured.b .nil pass0 (pa_cons (pv 0) pa_nil))))), ?_⟩
  try dsimp only [cx_K]
  obtain ⟨a, ss, rfl, hl, hn, hok, q⟩ := h
  exact ⟨_, rfl, a, ss, rfl, hl, hok, _, rfl, a, ss, rfl, hl, hn, q⟩
theorem ok_must_cover (T : Txt K mg) : FnOk P w K mg base CX0 5 T.must_cover.f T.must_cover.fd ["cover"] sp_must_cover := by
  refine T.must_cover.F.ok sc_must_cover (fun vs H Q E h => ?_) (fun cdv A outer s H vs Q E hr h => ?_)
  · first | (obtain ⟨_, rfl, _⟩ := h; rfl) | (obtain ⟨_, _, rfl, _⟩ := h; rfl) | (obtain ⟨_, _, _, rfl, _⟩ := h; rfl) | (obtain ⟨_, _, _, _, rfl, _⟩ := h; rfl) | (obtain ⟨_, _, _, _, _, rfl, _⟩ := h; rfl) | (obtain ⟨_, _, _, _, _, _, rfl, _⟩ := h; rfl) | (obtain ⟨_, _, _, _, _, _, _, rfl, _⟩ := h; rfl) | (obtain ⟨_, _, _, _, _, _, _, _, rfl, _⟩ := h; rfl) | (obtain ⟨_, _, _, _, _, _, _, _, _, rfl, _⟩ := h; rfl) | (obtain ⟨_, _, _, _, _, _, _, _, _, _, rfl, _⟩ := h; rfl) | (obtain ⟨_, _, _, _, _, _, _, _, _, _, _, rfl, _⟩ := h; rfl)
  refine ⟨_, (pss_cons (ps_expr (pe_call (ok_must_spans T) (hr.mono (by decide)) (by rfl) T.must_spans.g T.must_spans.F.kp T.must_spans.b .nil pass0 (pa_cons (pv 0) pa_nil)))
  (pss_cons (ps_if (pt_cmpR op_gt (pe_callB call_len_seq (by rfl) T.b_len PySem.boot_len (pa_cons (pv 0) pa_nil)) (pe_glob (v := .int 200) rfl T.c_MOST_SPANS.choose_spec ⟨_, rfl⟩) (nomark _))
  (pss_one ps_never)
  pss_nil)
  (pss_one (ps_for PassesOwn.never rfl (pi_zip (by rfl) T.b_zip (pa_cons (pv 0) (pa_cons (pe_slice sl_list (pv 0) (po_some pe_int) po_none) pa_nil))) (pg_tupK (K := K) (n := 2) rfl rfl (pgs_cons (pg_name (i := 1) sc_must_cover.nd rfl (.inl rfl)) (pgs_cons (pg_name (i := 2) sc_must_cover.nd rfl (.inl rfl)) pgs_nil)))
  (pss_one (ps_if (pt_cmpR op_le (pe_ix (ix_tupK (K := K) rfl) (pv 2) pe_int (fun _ _ => rfl)) (pe_ix (ix_tupK (K := K) rfl) (pv 1) pe_int (fun _ _ => rfl)) (nomark _))
  (pss_one ps_never)
  pss_nil)))))), ?_⟩
  try dsimp only [cx_K]
  obtain ⟨a, ss, rfl, hl, hn, hok, hg, q⟩ := h
  obtain ⟨us, hu, ru⟩ := id hl
  refine ⟨_, rfl, a, ss, rfl, hl, hok, ?_⟩
  refine ⟨_, rfl, a, us, rfl, .inl (SqL.of hu), _, _, rfl, rfl, _, rfl, ifN (by rw [ru.len]; omega) ?_⟩
  refine ⟨_, rfl, _, rfl, _, rfl, a, us, rfl, SqL.of hu, fun c n1 => ?_⟩
  obtain ⟨s1, h1⟩ := newF (o := .lst (cutV us (some 1) none)) n1
  generalize upd H c (.lst (cutV us (some 1) none)) = H1 at s1 h1 ⊢
  rw [cut_one] at h1
  refine ⟨a, c, us, us.drop 1, rfl, SqL.of (s1 _ _ hu), SqL.of h1, for_it (walk_zip (xs := us) (ys := us.drop 1) rfl) (fun i σ H' => ∃ y2 y3, σ = [some (.ref a), y2, y3] ∧ Same H1 H') ⟨none, none, rfl, Same.refl _⟩ ?_ ?_ ?_⟩
  · rintro i σ H' hi ⟨y2, y3, rfl, s2⟩
    exact ⟨SqL.of (s2 _ _ (s1 _ _ hu)), SqL.of (s2 _ _ h1)⟩
  · rintro i x σ H2 H3 hi ⟨y2, y3, rfl, s2⟩ ⟨T1, x, y, rfl, nT, rfl, hx, hy⟩
    have hy : (us.drop 1)[i]? = some y := hy
    rw [List.getElem?_drop, Nat.add_comm] at hy
    obtain ⟨s, es, rs⟩ := ru.get hx
    obtain ⟨t, et, rt⟩ := ru.get hy
    have s3 := s1.trans s2
    obtain ⟨s4, h4⟩ := newF (o := .tup [x, y]) nT
    generalize upd H2 T1 (.tup [x, y]) = H4 at s4 h4 ⊢
    obtain ⟨p1, rfl, g1⟩ := rs.tp (tp_of (s3.trans s4))
    obtain ⟨p2, rfl, g2⟩ := rt.tp (tp_of (s3.trans s4))
    have hlt := hg i s t es et
    refine g_two h4 ?_
    walk_at "go"
    exact ifN (by omega) ⟨_, _, rfl, s2.trans s4⟩
  · rintro σ H' ⟨y2, y3, rfl, s2⟩
    exact q H' (s1.trans s2)
theorem ok_either (T : Txt K mg) : FnOk P w K mg base CX0 6 T.either.f T.either.fd ["one", "other"] sp_either := by
  refine T.either.F.ok sc_either (fun vs H Q E h => ?_) (fun cdv A outer s H vs Q E hr h => ?_)
  · first | (obtain ⟨_, rfl, _⟩ := h; rfl) | (obtain ⟨_, _, rfl, _⟩ := h; rfl) | (obtain ⟨_, _, _, rfl, _⟩ := h; rfl) | (obtain ⟨_, _, _, _, rfl, _⟩ := h; rfl) | (obtain ⟨_, _, _, _, _, rfl, _⟩ := h; rfl) | (obtain ⟨_, _, _, _, _, _, rfl, _⟩ := h; rfl) | (obtain ⟨_, _, _, _, _, _, _, rfl, _⟩ := h; rfl) | (obtain ⟨_, _, _, _, _, _, _, _, rfl, _⟩ := h; rfl) | (obtain ⟨_, _, _, _, _, _, _, _, _, rfl, _⟩ := h; rfl) | (obtain ⟨_, _, _, _, _, _, _, _, _, _, rfl, _⟩ := h; rfl) | (obtain ⟨_, _, _, _, _, _, _, _, _, _, _, rfl, _⟩ := h; rfl)
  refine ⟨_, (pss_cons (ps_expr (pe_call (ok_must_cover T) (hr.mono (by decide)) (by rfl) T.must_cover.g T.must_cover.F.kp T.must_cover.b .nil pass0 (pa_cons (pv 0) pa_nil)))
  (pss_cons (ps_expr (pe_call (ok_must_cover T) (hr.mono (by decide)) (by rfl) T.must_cover.g T.must_cover.F.kp T.must_cover.b .nil pass0 (pa_cons (pv 1) pa_nil)))
  (pss_one (ps_ret (pe_call (ok_poured T) (hr.mono (by decide)) (by rfl) T.poured.g T.poured.F.kp T.poured.b .nil pass0 (pa_cons (pe_op op_catJ (pe_callTy call_list_of (by rfl) T.b_list (by decide +kernel) (pa_cons (pv 0) pa_nil)) (pe_callTy call_list_of (by rfl) T.b_list (by decide +kernel) (pa_cons (pv 1) pa_nil))) pa_nil)))))), ?_⟩
  try dsimp only [cx_K]
  obtain ⟨a, b, ss, ts, rfl, hl, hn, hok, hg, hl2, hn2, hok2, hg2, q⟩ := h
  refine ⟨_, rfl, a, ss, rfl, hl, by omega, hok, hg, fun H1 s1 => ?_⟩
  refine ⟨_, rfl, b, ts, rfl, lsP_same s1 hl2, by omega, hok2, hg2, fun H2 s2 => ?_⟩
  obtain ⟨us, hu, ru⟩ := lsP_same (s1.trans s2) hl
  obtain ⟨vs, hv, rv⟩ := lsP_same (s1.trans s2) hl2
  refine ⟨_, rfl, a, us, rfl, .inl (SqL.of hu), fun c n3 => ?_⟩
  obtain ⟨s3, h3⟩ := newF (o := .lst us) n3
  generalize upd H2 c (.lst us) = H3 at s3 h3 ⊢
  refine ⟨_, rfl, b, vs, rfl, .inl (SqL.of (s3 _ _ hv)), fun d n4 => ?_⟩
  obtain ⟨s4, h4⟩ := newF (o := .lst vs) n4
  generalize upd H3 d (.lst vs) = H4 at s4 h4 ⊢
  refine k_cat (s4 _ _ h3) h4 (by rw [ru.len, rv.len]; omega) fun e H5 s5 n5 h5 => ?_
  have sA := (((s1.trans s2).trans s3).trans s4).trans s5
  have r5 : LsP H5 e (ss ++ ts) := ⟨_, h5, (ru.mono fun _ _ k => k.tp (tp_of ((s3.trans s4).trans s5))).append (rv.mono fun _ _ k => k.tp (tp_of ((s3.trans s4).trans s5)))⟩
  exact ⟨e, ss ++ ts, rfl, r5, by rw [List.length_append]; omega, fun H6 p s6 n6 h6 => q H6 p (sA.trans s6) (sA.free n6) h6⟩
theorem ok_held (T : Txt K mg) : FnOk P w K mg base CX0 6 T.held.f T.held.fd ["cover"] sp_held := by
  refine T.held.F.ok sc_held (fun vs H Q E h => ?_) (fun cdv A outer s H vs Q E hr h => ?_)
  · first | (obtain ⟨_, rfl, _⟩ := h; rfl) | (obtain ⟨_, _, rfl, _⟩ := h; rfl) | (obtain ⟨_, _, _, rfl, _⟩ := h; rfl) | (obtain ⟨_, _, _, _, rfl, _⟩ := h; rfl) | (obtain ⟨_, _, _, _, _, rfl, _⟩ := h; rfl) | (obtain ⟨_, _, _, _, _, _, rfl, _⟩ := h; rfl) | (obtain ⟨_, _, _, _, _, _, _, rfl, _⟩ := h; rfl) | (obtain ⟨_, _, _, _, _, _, _, _, rfl, _⟩ := h; rfl) | (obtain ⟨_, _, _, _, _, _, _, _, _, rfl, _⟩ := h; rfl) | (obtain ⟨_, _, _, _, _, _, _, _, _, _, rfl, _⟩ := h; rfl) | (obtain ⟨_, _, _, _, _, _, _, _, _, _, _, rfl, _⟩ := h; rfl)
  refine ⟨_, (pss_cons (ps_expr (pe_call (ok_must_cover T) (hr.mono (by decide)) (by rfl) T.must_cover.g T.must_cover.F.kp T.must_cover.b .nil pass0 (pa_cons (pv 0) pa_nil)))
  (pss_one (ps_ret (pe_callB (cr_sum rfl) (by rfl) T.b_sum (by decide +kernel) (pa_cons (pe_lc (own := [("low", 1), ("high", 2)]) (tt := tYes) rfl sc_held.nd (pi_list (pv 0)) (blkOk_by (N := ["cover", "low", "high"]) (sc := defScope s_held) (by decide +kernel)) (fun _ _ _ _ _ => (pg_tupK (K := K) (n := 2) rfl rfl (pgs_cons (pg_name (i := 1) sc_held.nd rfl (.inl rfl)) (pgs_cons (pg_name (i := 2) sc_held.nd rfl (.inl rfl)) pgs_nil)))) (fun _ _ _ _ _ => pts_nil) (fun _ _ _ _ _ => (pe_op op_sub (pv 2) (pv 1)))) pa_nil))))), ?_⟩
  try dsimp only [cx_K]
  obtain ⟨a, ss, rfl, hl, hn, hok, hg, q⟩ := h
  refine ⟨_, rfl, a, ss, rfl, hl, hn, hok, hg, fun H1 s1 => ?_⟩
  obtain ⟨us, hu, ru⟩ := lsP_same s1 hl
  refine ⟨_, rfl, a, rfl, ⟨us, SqL.of hu⟩, fun D hD => lc_eachM Pr (fun t k => k.tp t) In (fun t k => k.tp t) (fun s => s.2 - s.1) hu ru (by omega) hD (fun v s H0 _ s0 ⟨p, ev, hp⟩ Kt ht => ?_) (fun H2 s2 h2 => ?_)⟩
  · subst ev
    refine g_two hp ⟨rfl, ?_⟩
    walk_at "go"
    exact ht _ _ (Same.refl _) rfl
  · exact ⟨D, _, rfl, SqL.of (ls_int h2), q H2 (s1.trans s2)⟩
end

def sp_pieces : Sp := fun vs H Q _ => ∃ (a : Addr) (ss : List Spn), vs = [.ref a] ∧ LsP H a ss ∧ ss.length ≤ 20 ∧ RetT (piecesOf ss (depthN ss)) H Q
/-- None, or a new pair -/
def OptP (H : Hp) (v : V) : Option Spn → Prop
  | none => v = V.non
  | some b => Pr H v b
def RetO (o : Option Spn) (H : Hp) (Q : VK) : Prop := ∀ H' v, Same H H' → OptP H' v o → Q v H'
def sp_deepest_in : Sp := fun vs H Q _ => ∃ (a : Addr) (ss : List Spn), vs = [.ref a] ∧ LsP H a ss ∧ ss.length ≤ 20 ∧ RetO (deepOf ss (depthN ss)) H Q
def sp_deepest : Sp := fun vs H Q _ => ∃ (a : Addr) (ss : List Spn), vs = [.ref a] ∧ LsP H a ss ∧ ss.length ≤ 20 ∧ (∀ s ∈ ss, okS s) ∧ RetO (deepOf ss (depthN ss)) H Q
/-- a new pair of a list of ints and something -/
def RetIx (xs : List Int) (H : Hp) (Q : VK) : Prop := ∀ H' t p v, Same H H' → H t = none → H' t = some (.tup [.ref p, v]) → LsI H' p xs → Q (.ref t) H'
def sp_most_told : Sp := fun vs H Q _ => ∃ (a : Addr) (ss : List Spn), vs = [.ref a] ∧ LsP H a ss ∧ ss.length ≤ 20 ∧ RetIx (isort le1 (apart ss).1) H Q
def sp_most_apart : Sp := fun vs H Q _ => ∃ (a : Addr) (ss : List Spn), vs = [.ref a] ∧ LsP H a ss ∧ ss.length ≤ 20 ∧ (∀ s ∈ ss, okS s) ∧ RetIx (isort le1 (apart ss).1) H Q
def sp_first_free : Sp := fun vs H Q _ => ∃ (a : Addr) (es : List Int) (low : Int), vs = [.ref a, .int low] ∧ LsI H a es ∧ es.length ≤ 1000 ∧ ∀ H', Same H H' → Q (.int (firstFree es low : Nat)) H'
def sp_rows_of : Sp := fun vs H Q _ => ∃ (a : Addr) (ss : List Spn), vs = [.ref a] ∧ LsP H a ss ∧ ss.length ≤ 20 ∧ (∀ s ∈ ss, okS s) ∧ RetIx (rowsOf ss).1 H Q
section
variable {P : Program} {w : World} {K : PySem.W.Frag} {mg : Str → Option Value} {base : Heap}
theorem ok_pieces (T : Txt K mg) : FnOk P w K mg base CX0 3 T.pieces.f T.pieces.fd ["spans"] sp_pieces := by
  refine T.pieces.F.ok sc_pieces (fun vs H Q E h => ?_) (fun cdv A outer s H vs Q E hr h => ?_)
  · first | (obtain ⟨_, rfl, _⟩ := h; rfl) | (obtain ⟨_, _, rfl, _⟩ := h; rfl) | (obtain ⟨_, _, _, rfl, _⟩ := h; rfl) | (obtain ⟨_, _, _, _, rfl, _⟩ := h; rfl) | (obtain ⟨_, _, _, _, _, rfl, _⟩ := h; rfl) | (obtain ⟨_, _, _, _, _, _, rfl, _⟩ := h; rfl) | (obtain ⟨_, _, _, _, _, _, _, rfl, _⟩ := h; rfl) | (obtain ⟨_, _, _, _, _, _, _, _, rfl, _⟩ := h; rfl) | (obtain ⟨_, _, _, _, _, _, _, _, _, rfl, _⟩ := h; rfl) | (obtain ⟨_, _, _, _, _, _, _, _, _, _, rfl, _⟩ := h; rfl) | (obtain ⟨_, _, _, _, _, _, _, _, _, _, _, rfl, _⟩ := h; rfl)
  refine ⟨_, (pss_cons (ps_set (i := 1) sc_pieces.nd rfl (.inl rfl) (pe_call (ok_ends_of T) (hr.mono (by decide)) (by rfl) T.ends_of.g T.ends_of.F.kp T.ends_of.b .nil pass0 (pa_cons (pv 0) pa_nil)))
  (pss_cons (ps_set (i := 2) sc_pieces.nd rfl (.inl rfl) (pe_lst pa_nil))
  (pss_cons (ps_for PassesOwn.never rfl (pi_zip (by rfl) T.b_zip (pa_cons (pv 1) (pa_cons (pe_slice sl_list (pv 1) (po_some pe_int) po_none) pa_nil))) (pg_tupK (K := K) (n := 2) rfl rfl (pgs_cons (pg_name (i := 3) sc_pieces.nd rfl (.inl rfl)) (pgs_cons (pg_name (i := 4) sc_pieces.nd rfl (.inl rfl)) pgs_nil)))
  (pss_cons (ps_set (i := 5) sc_pieces.nd rfl (.inl rfl) (pe_call (ok_depth_in T) (hr.mono (by decide)) (by rfl) T.depth_in.g T.depth_in.F.kp T.depth_in.b .nil pass0 (pa_cons (pv 0) (pa_cons (pv 3) pa_nil))))
  (pss_one (ps_if (PW.pt (pw_and (pt_cmpR (op_neDK (K := K) rfl hr.units) (pv 2) (pe_lst pa_nil) (nomark _)) (pw_and (pt_cmpR op_eq (pe_ix (ix_tupK (K := K) rfl) (pe_ix (ix_listK (K := K) rfl) (pv 2) (pe_un un_neg pe_int) (fun _ _ => rfl)) pe_int (fun _ _ => rfl)) (pv 3) (nomark _)) (pw_and1 (pt_cmpR op_eq (pe_ix (ix_tupK (K := K) rfl) (pe_ix (ix_listK (K := K) rfl) (pv 2) (pe_un un_neg pe_int) (fun _ _ => rfl)) pe_int (fun _ _ => rfl)) (pv 5) (nomark _))))))
  (pss_one (ps_asg (pe_tup (pa_cons (pe_ix (ix_tupK (K := K) rfl) (pe_ix (ix_listK (K := K) rfl) (pv 2) (pe_un un_neg pe_int) (fun _ _ => rfl)) pe_int (fun _ _ => rfl)) (pa_cons (pv 4) (pa_cons (pv 5) pa_nil)))) (pg_sub (pv 2) (pe_un un_neg pe_int) set_list)))
  (pss_one (ps_if (pt_cmpR op_gt (pv 5) pe_int (nomark _))
  (pss_one (ps_expr (pe_bm PySem.F.plainAttrs_list PySem.F.slot_list_append PySem.F.type_list_append mt_append (pv 2) (pa_cons (pe_tup (pa_cons (pv 3) (pa_cons (pv 4) (pa_cons (pv 5) pa_nil)))) pa_nil))))
  pss_nil))))))
  (pss_one (ps_ret (pv 2)))))), ?_⟩
  try dsimp only [cx_K]
  obtain ⟨a, ss, rfl, hl, hn, q⟩ := h
  refine ⟨_, rfl, a, ss, rfl, hl, hn, fun H1 e s1 n1 h1 => ?_⟩
  refine ⟨Nat.zero_le _, fun fo n2 => ?_⟩
  obtain ⟨s2, h2⟩ := newF (o := .lst []) n2
  generalize upd H1 fo (.lst []) = H2 at s2 h2 ⊢
  refine ⟨_, rfl, _, rfl, _, rfl, e, _, rfl, SqL.of (s2 _ _ h1), fun c n3 => ?_⟩
  obtain ⟨s3, h3⟩ := newF (o := .lst (cutV ((ends ss).map V.int) (some 1) none)) n3
  generalize upd H2 c (.lst (cutV ((ends ss).map V.int) (some 1) none)) = H3 at s3 h3 ⊢
  rw [cut_one, ← List.map_drop] at h3
  have sA := (s1.trans s2).trans s3
  have nfe : e ≠ fo := ne_of_none h1 n2
  have nfc : c ≠ fo := (ne_of_none h2 n3).symm
  have n2H : H fo = none := s1.free n2
  refine ⟨e, c, _, _, rfl, SqL.of (s3 _ _ (s2 _ _ h1)), SqL.of h3, for_it (walk_zip (xs := (ends ss).map V.int) (ys := ((ends ss).drop 1).map V.int) rfl)
    (fun i σ H' => ∃ y3 y4 y5, σ = [some (.ref a), some (.ref e), some (.ref fo), y3, y4, y5] ∧ Same H H' ∧ LsI H' e (ends ss) ∧ LsI H' c ((ends ss).drop 1) ∧ LsT H' fo ((((ends ss).zip ((ends ss).drop 1)).take i).foldl (pieceStep (depthN ss)) [])) ?_ ?_ ?_ ?_⟩
  · exact ⟨none, none, none, rfl, sA, s3 _ _ (s2 _ _ h1), h3, [], s3 _ _ h2, Rows.nil⟩
  · rintro i σ H' hi ⟨y3, y4, y5, rfl, _, he, hc, _⟩
    exact ⟨SqL.of he, SqL.of hc⟩
  · rintro i x σ H4 _ hi ⟨y3, y4, y5, rfl, s4, he, hc, ho⟩ ⟨T1, x1, x2, rfl, nT, rfl, hx, hy⟩
    obtain ⟨lo, elo, r1⟩ := (int_rows (H := fun _ => none) (ends ss)).get hx
    obtain ⟨hi', ehi, r2⟩ := (int_rows (H := fun _ => none) ((ends ss).drop 1)).get hy
    have r1 : x1 = .int lo := r1
    have r2 : x2 = .int hi' := r2
    subst r1 r2
    have es : ((ends ss).zip ((ends ss).drop 1))[i]? = some (lo, hi') := List.getElem?_zip_eq_some.mpr ⟨elo, ehi⟩
    have e1 := fold_take (f := pieceStep (depthN ss)) (b := []) es
    generalize efl : (((ends ss).zip ((ends ss).drop 1)).take i).foldl (pieceStep (depthN ss)) [] = fl at ho e1 ⊢
    obtain ⟨fs, hf, rf⟩ := id ho
    have hlen : fs.length ≤ 300 := by
      rw [rf.len, ← efl]
      have h1 := piece_len (depthN ss) (((ends ss).zip ((ends ss).drop 1)).take i) []
      have h2 := sub_ends ss
      simp only [List.length_take, List.length_nil, List.length_zip, List.length_drop] at h1
      omega
    obtain ⟨s5, h5⟩ := newF (o := .tup [.int lo, .int hi']) nT
    generalize upd H4 T1 (.tup [.int lo, .int hi']) = H5 at s5 h5 ⊢
    refine g_two h5 ?_
    refine ⟨_, rfl, _, rfl, a, ss, lo, rfl, lsP_same (s4.trans s5) hl, by omega, fun H6 s6 => ?_⟩
    have s56 := s5.trans s6
    refine ⟨_, rfl, k_neN dtT (dtT.same s56 ho) fun p2 n7 => ⟨_, rfl, ?_⟩⟩
    obtain ⟨s7, h7⟩ := newF (o := .lst []) n7
    generalize upd H6 p2 (.lst []) = H7 at s7 h7 ⊢
    have s57 := s56.trans s7
    have hf7 := s57 _ _ hf
    have done : ∀ (H8 : Hp) (fs' : List V) (y3 y4 y5 : Option V), Same H7 H8 → Rows (Tr (upd H8 fo (.lst fs'))) fs' (pieceStep (depthN ss) fl (lo, hi')) → ∃ y3' y4' y5', [some (V.ref a), some (V.ref e), some (V.ref fo), y3, y4, y5] = [some (V.ref a), some (V.ref e), some (V.ref fo), y3', y4', y5'] ∧ Same H (upd H8 fo (.lst fs')) ∧ LsI (upd H8 fo (.lst fs')) e (ends ss) ∧ LsI (upd H8 fo (.lst fs')) c ((ends ss).drop 1) ∧
        LsT (upd H8 fo (.lst fs')) fo ((((ends ss).zip ((ends ss).drop 1)).take (i + 1)).foldl (pieceStep (depthN ss)) []) := fun H8 fs' y3 y4 y5 s8 rf' => by
      refine ⟨_, _, _, rfl, sm_mut ((s4.trans s57).trans s8) n2H, up_far nfe (s8 _ _ (s57 _ _ he)), up_far nfc (s8 _ _ (s57 _ _ hc)), fs', upd_same, ?_⟩
      rw [e1]
      exact rf'
    have same7 : ∀ (y3 y4 y5 : Option V), pieceStep (depthN ss) fl (lo, hi') = fl → ∃ y3' y4' y5', [some (V.ref a), some (V.ref e), some (V.ref fo), y3, y4, y5] = [some (V.ref a), some (V.ref e), some (V.ref fo), y3', y4', y5'] ∧ Same H H7 ∧ LsI H7 e (ends ss) ∧ LsI H7 c ((ends ss).drop 1) ∧
        LsT H7 fo ((((ends ss).zip ((ends ss).drop 1)).take (i + 1)).foldl (pieceStep (depthN ss)) []) := fun y3 y4 y5 ef => by
      refine ⟨_, _, _, rfl, s4.trans s57, s57 _ _ he, s57 _ _ hc, ?_⟩
      rw [e1, ef]
      exact lsT_same s57 ho
    have addOne : ∀ D : Ends, (D.nx = fun σ' H' => ∃ y3 y4 y5, σ' = [some (V.ref a), some (V.ref e), some (V.ref fo), y3, y4, y5] ∧ Same H H' ∧ LsI H' e (ends ss) ∧ LsI H' c ((ends ss).drop 1) ∧ LsT H' fo ((((ends ss).zip ((ends ss).drop 1)).take (i + 1)).foldl (pieceStep (depthN ss)) [])) →
        (pieceStep (depthN ss) fl (lo, hi') = if (0 : Int) < (depthN ss lo : Nat) then fl ++ [(lo, hi', ((depthN ss lo : Nat) : Int))] else fl) → tIfS (tTest (tOp (rI0 fun i j => V.bl (decide (j < i))) (tVar 5) (tC (V.int 0))))
          (tDrop (tBM K "list" rAppend (tVar 2) (tCons (tTup (tCons (tVar 3) (tCons (tVar 4) (tCons (tVar 5) tNil)))) tNil))) tNext D [some (.ref a), some (.ref e), some (.ref fo), some (.int lo), some (.int hi'), some (.int (depthN ss lo : Nat))] H7 := fun D eD ep => by
      walk_at "go"
      refine ifD (fun h0 => ?_) (fun h0 => ?_)
      · refine ⟨_, rfl, .inl ⟨rfl, _, SqL.of hf7⟩, ?_⟩
        walk_at "go"
        refine ⟨by show 3 ≤ sizeLine; decide, fun r n8 => ?_⟩
        obtain ⟨s8, h8⟩ := newF (o := .tup [.int lo, .int hi', .int (depthN ss lo : Nat)]) n8
        generalize upd H7 r (.tup [.int lo, .int hi', .int (depthN ss lo : Nat)]) = H8 at s8 h8 ⊢
        refine ⟨fo, fs, .ref r, rfl, rfl, s8 _ _ hf7, szt (by omega), ?_⟩
        show D.nx _ _
        rw [eD]
        refine done H8 _ _ _ _ s8 ?_
        rw [ep, if_pos h0]
        have t8 : Tp H8 (upd H8 fo (.lst (fs ++ [.ref r]))) := tp_lst (s8 _ _ hf7)
        exact (rf.mono fun _ _ k => k.tp ((tp_of (s57.trans s8)).trans t8)).snoc ⟨r, rfl, t8 _ _ h8⟩
      · show D.nx _ _
        rw [eD]
        exact same7 _ _ _ (by rw [ep, if_neg h0])
    rcases nil_or_snoc fl with e0 | ⟨m, l, e0⟩
    · subst e0
      rw [decide_eq_true rfl]
      exact iteF (iteF (addOne _ rfl rfl))
    · subst e0
      rw [decide_eq_false (by simp)]
      refine iteT ?_
      obtain ⟨ws, v, rfl, rw1, rl⟩ := rf.last
      obtain ⟨z, rfl, hz⟩ := rl.tp (tp_of s57)
      walk_at "go"
      have e3 : pieceStep (depthN ss) (m ++ [l]) (lo, hi') = if l.2.1 = lo ∧ l.2.2 = ((depthN ss lo : Nat) : Int) then m ++ [(l.1, hi', ((depthN ss lo : Nat) : Int))] else if (0 : Int) < (depthN ss lo : Nat) then (m ++ [l]) ++ [(lo, hi', ((depthN ss lo : Nat) : Int))] else m ++ [l] := by
        unfold pieceStep
        rw [List.getLast?_concat]
        simp only [List.dropLast_concat]
      refine ifD (fun g1 => ?_) (fun g1 => ?_)
      · walk_at "go"
        refine ifD (fun g2 => ?_) (fun g2 => ?_)
        · walk_at "go"
          refine ⟨by show 3 ≤ sizeLine; decide, fun r n8 => ?_⟩
          obtain ⟨s8, h8⟩ := newF (o := .tup [.int l.1, .int hi', .int (depthN ss lo : Nat)]) n8
          generalize upd H7 r (.tup [.int l.1, .int hi', .int (depthN ss lo : Nat)]) = H8 at s8 h8 ⊢
          refine ⟨_, rfl, _, rfl, fo, _, -1, ws.length, rfl, rfl, s8 _ _ hf7, by rw [List.length_append]; exact ixN_last _, ?_⟩
          rw [set_last]
          refine done H8 _ _ _ _ s8 ?_
          rw [e3, if_pos ⟨V.int.inj g1, V.int.inj g2⟩]
          have t8 : Tp H8 (upd H8 fo (.lst (ws ++ [.ref r]))) := tp_lst (s8 _ _ hf7)
          exact (rw1.mono fun _ _ k => k.tp ((tp_of (s57.trans s8)).trans t8)).snoc ⟨r, rfl, t8 _ _ h8⟩
        · exact addOne _ rfl (by rw [e3, if_neg fun z => g2 (by rw [z.2])])
      · exact iteF (addOne _ rfl (by rw [e3, if_neg fun z => g1 (by rw [z.1])]))
  · rintro σ H' ⟨y3, y4, y5, rfl, s4, he, hc, ho⟩
    rw [List.take_of_length_le (by simp)] at ho
    exact ⟨_, rfl, q H' fo s4 n2H ho⟩
theorem ok_deepest_in (T : Txt K mg) : FnOk P w K mg base CX0 4 T.deepest_in.f T.deepest_in.fd ["spans"] sp_deepest_in := by
  refine T.deepest_in.F.ok sc_deepest_in (fun vs H Q E h => ?_) (fun cdv A outer s H vs Q E hr h => ?_)
  · first | (obtain ⟨_, rfl, _⟩ := h; rfl) | (obtain ⟨_, _, rfl, _⟩ := h; rfl) | (obtain ⟨_, _, _, rfl, _⟩ := h; rfl) | (obtain ⟨_, _, _, _, rfl, _⟩ := h; rfl) | (obtain ⟨_, _, _, _, _, rfl, _⟩ := h; rfl) | (obtain ⟨_, _, _, _, _, _, rfl, _⟩ := h; rfl) | (obtain ⟨_, _, _, _, _, _, _, rfl, _⟩ := h; rfl) | (obtain ⟨_, _, _, _, _, _, _, _, rfl, _⟩ := h; rfl) | (obtain ⟨_, _, _, _, _, _, _, _, _, rfl, _⟩ := h; rfl) | (obtain ⟨_, _, _, _, _, _, _, _, _, _, rfl, _⟩ := h; rfl) | (obtain ⟨_, _, _, _, _, _, _, _, _, _, _, rfl, _⟩ := h; rfl)
  refine ⟨_, (pss_cons (ps_set (i := 1) sc_deepest_in.nd rfl (.inl rfl) pe_non)
  (pss_cons (ps_for PassesOwn.never rfl (pi_list (pe_call (ok_pieces T) (hr.mono (by decide)) (by rfl) T.pieces.g T.pieces.F.kp T.pieces.b .nil pass0 (pa_cons (pv 0) pa_nil))) (pg_tupK (K := K) (n := 3) rfl rfl (pgs_cons (pg_name (i := 2) sc_deepest_in.nd rfl (.inl rfl)) (pgs_cons (pg_name (i := 3) sc_deepest_in.nd rfl (.inl rfl)) (pgs_cons (pg_name (i := 4) sc_deepest_in.nd rfl (.inl rfl)) pgs_nil))))
  (pss_one (ps_if (PW.pt (pw_or (pt_cmpR op_isN (pv 1) pe_non (nomark _)) (pw_or1 (pt_cmpR op_gt (pv 4) (pe_ix (ix_tupK (K := K) rfl) (pv 1) pe_int (fun _ _ => rfl)) (nomark _)))))
  (pss_one (ps_set (i := 1) sc_deepest_in.nd rfl (.inl rfl) (pe_tup (pa_cons (pv 4) (pa_cons (pv 2) pa_nil)))))
  pss_nil)))
  (pss_one (ps_ret (pv 1))))), ?_⟩
  try dsimp only [cx_K]
  obtain ⟨a, ss, rfl, hl, hn, q⟩ := h
  refine ⟨_, rfl, a, ss, rfl, hl, hn, fun H1 p s1 n1 ⟨us, hu, ru⟩ => ?_⟩
  refine ⟨p, rfl, ⟨us, SqL.of hu⟩, for_it (walk_list (xs := us)) (fun i σ H' => ∃ v y2 y3 y4, σ = [some (.ref a), some v, y2, y3, y4] ∧ Same H1 H' ∧ OptP H' v (((piecesOf ss (depthN ss)).take i).foldl deepStep none)) ⟨.non, none, none, none, rfl, Same.refl _, rfl⟩ ?_ ?_ ?_⟩
  · rintro i σ H' hi ⟨v, y2, y3, y4, rfl, s2, _⟩
    exact SqL.of (s2 _ _ hu)
  · rintro i x σ _ H2 hi ⟨v, y2, y3, y4, rfl, s2, hv⟩ ⟨rfl, hx⟩
    obtain ⟨s, es, rs⟩ := ru.get hx
    obtain ⟨t, rfl, ht⟩ := rs.tp (tp_of s2)
    have e1 := fold_take (f := deepStep) (b := none) es
    rw [e1]
    generalize ((piecesOf ss (depthN ss)).take i).foldl deepStep none = o at hv ⊢
    refine g_three ht ?_
    have fin : ∀ D : Ends, (D.nx = fun σ' H' => ∃ v y2 y3 y4, σ' = [some (.ref a), some v, y2, y3, y4] ∧ Same H1 H' ∧ OptP H' v (deepStep o s)) → deepStep o s = some (s.2.2, s.1) → tAsg (tTup (tCons (tVar 4) (tCons (tVar 2) tNil))) (gName 1) D [some (.ref a), some v, some (.int s.1), some (.int s.2.1), some (.int s.2.2)] H2 := fun D eD ed => by
      refine ⟨_, rfl, _, rfl, by show 2 ≤ sizeLine; decide, fun r n3 => ?_⟩
      obtain ⟨s3, h3⟩ := newF (o := .tup [.int s.2.2, .int s.1]) n3
      generalize upd H2 r (.tup [.int s.2.2, .int s.1]) = H3 at s3 h3 ⊢
      show D.nx _ _
      rw [eD]
      refine ⟨_, _, _, _, rfl, s2.trans s3, ?_⟩
      rw [ed]
      exact ⟨r, rfl, h3⟩
    cases o with
    | none =>
      have hv : v = .non := hv
      subst hv
      exact ⟨_, rfl, rfl, _, rfl, iteT (iteT (fin _ rfl rfl))⟩
    | some b =>
      obtain ⟨z, rfl, hz⟩ := hv
      refine ⟨_, rfl, rfl, _, rfl, iteF ?_⟩
      walk_at "go"
      have ed : deepStep (some b) s = if b.1 < s.2.2 then some (s.2.2, s.1) else some b := rfl
      refine ifD (fun hlt => ?_) (fun hlt => ?_)
      · exact fin _ rfl (by rw [ed, if_pos hlt])
      · refine ⟨_, _, _, _, rfl, s2, ?_⟩
        rw [ed, if_neg hlt]
        exact ⟨z, rfl, hz⟩
  · rintro σ H' ⟨v, y2, y3, y4, rfl, s2, hv⟩
    rw [ru.len, List.take_length] at hv
    exact ⟨_, rfl, q H' v (s1.trans s2) hv⟩
theorem ok_deepest (T : Txt K mg) : FnOk P w K mg base CX0 5 T.deepest.f T.deepest.fd ["spans"] sp_deepest := by
  refine T.deepest.F.ok sc_deepest (fun vs H Q E h => ?_) (fun cdv A outer s H vs Q E hr h => ?_)
  · first | (obtain ⟨_, rfl, _⟩ := h; rfl) | (obtain ⟨_, _, rfl, _⟩ := h; rfl) | (obtain ⟨_, _, _, rfl, _⟩ := h; rfl) | (obtain ⟨_, _, _, _, rfl, _⟩ := h; rfl) | (obtain ⟨_, _, _, _, _, rfl, _⟩ := h; rfl) | (obtain ⟨_, _, _, _, _, _, rfl, _⟩ := h; rfl) | (obtain ⟨_, _, _, _, _, _, _, rfl, _⟩ := h; rfl) | (obtain ⟨_, _, _, _, _, _, _, _, rfl, _⟩ := h; rfl) | (obtain ⟨_, _, _, _, _, _, _, _, _, rfl, _⟩ := h; rfl) | (obtain ⟨_, _, _, _, _, _, _, _, _, _, rfl, _⟩ := h; rfl) | (obtain ⟨_, _, _, _, _, _, _, _, _, _, _, rfl, _⟩ := h; rfl)
  refine ⟨_, (pss_cons (ps_expr (pe_call (ok_must_spans T) (hr.mono (by decide)) (by rfl) T.must_spans.g T.must_spans.F.kp T.must_spans.b .nil pass0 (pa_cons (pv 0) pa_nil)))
  (pss_one (ps_ret (pe_call (ok_deepest_in T) (hr.mono (by decide)) (by rfl) T.deepest_in.g T.deepest_in.F.kp T.deepest_in.b .nil pass0 (pa_cons (pv 0) pa_nil))))), ?_⟩
  try dsimp only [cx_K]
  obtain ⟨a, ss, rfl, hl, hn, hok, q⟩ := h
  exact ⟨_, rfl, a, ss, rfl, hl, hok, _, rfl, a, ss, rfl, hl, hn, q⟩
theorem ok_most_told (T : Txt K mg) : FnOk P w K mg base CX0 1 T.most_told.f T.most_told.fd ["spans"] sp_most_told := by
  refine T.most_told.F.ok sc_most_told (fun vs H Q E h => ?_) (fun cdv A outer s H vs Q E hr h => ?_)
  · first | (obtain ⟨_, rfl, _⟩ := h; rfl) | (obtain ⟨_, _, rfl, _⟩ := h; rfl) | (obtain ⟨_, _, _, rfl, _⟩ := h; rfl) | (obtain ⟨_, _, _, _, rfl, _⟩ := h; rfl) | (obtain ⟨_, _, _, _, _, rfl, _⟩ := h; rfl) | (obtain ⟨_, _, _, _, _, _, rfl, _⟩ := h; rfl) | (obtain ⟨_, _, _, _, _, _, _, rfl, _⟩ := h; rfl) | (obtain ⟨_, _, _, _, _, _, _, _, rfl, _⟩ := h; rfl) | (obtain ⟨_, _, _, _, _, _, _, _, _, rfl, _⟩ := h; rfl) | (obtain ⟨_, _, _, _, _, _, _, _, _, _, rfl, _⟩ := h; rfl) | (obtain ⟨_, _, _, _, _, _, _, _, _, _, _, rfl, _⟩ := h; rfl)
  refine ⟨_, (pss_cons (ps_set (i := 1) sc_most_told.nd rfl (.inl rfl) (pe_lst pa_nil))
  (pss_cons (ps_set (i := 2) sc_most_told.nd rfl (.inl rfl) (pe_lst pa_nil))
  (pss_cons (ps_for PassesOwn.never rfl (pi_list (pe_callB (cr_sortJ (K := K) (d := 3) rfl (by decide)) (by rfl) T.b_sorted (by decide +kernel) (pa_cons (pe_lc (own := [("at", 6), ("span", 7)]) (tt := tYes) rfl sc_most_told.nd (pi_enum (by rfl) T.b_enumerate (pa_cons (pv 0) pa_nil)) (blkOk_by (N := ["spans", "chosen", "pins", "high", "low", "number", "at", "span"]) (sc := defScope s_most_told) (by decide +kernel)) (fun _ _ _ _ _ => (pg_tupK (K := K) (n := 2) rfl rfl (pgs_cons (pg_name (i := 6) sc_most_told.nd rfl (.inl rfl)) (pgs_cons (pg_name (i := 7) sc_most_told.nd rfl (.inl rfl)) pgs_nil)))) (fun _ _ _ _ _ => pts_nil) (fun _ _ _ _ _ => (pe_tup (pa_cons (pe_ix (ix_tupK (K := K) rfl) (pv 7) pe_int (fun _ _ => rfl)) (pa_cons (pe_ix (ix_tupK (K := K) rfl) (pv 7) pe_int (fun _ _ => rfl)) (pa_cons (pv 6) pa_nil)))))) pa_nil))) (pg_tupK (K := K) (n := 3) rfl rfl (pgs_cons (pg_name (i := 3) sc_most_told.nd rfl (.inl rfl)) (pgs_cons (pg_name (i := 4) sc_most_told.nd rfl (.inl rfl)) (pgs_cons (pg_name (i := 5) sc_most_told.nd rfl (.inl rfl)) pgs_nil))))
  (pss_one (ps_if (PW.pt (pw_or (pt_cmpR (op_eqDK (K := K) rfl hr.units) (pv 2) (pe_lst pa_nil) (nomark _)) (pw_or1 (pt_cmpR op_lt (pe_ix (ix_listK (K := K) rfl) (pv 2) (pe_un un_neg pe_int) (fun _ _ => rfl)) (pv 4) (nomark _)))))
  (pss_cons (ps_expr (pe_bm PySem.F.plainAttrs_list PySem.F.slot_list_append PySem.F.type_list_append mt_append (pv 1) (pa_cons (pv 5) pa_nil)))
  (pss_one (ps_expr (pe_bm PySem.F.plainAttrs_list PySem.F.slot_list_append PySem.F.type_list_append mt_append (pv 2) (pa_cons (pe_op op_sub (pv 3) pe_int) pa_nil)))))
  pss_nil)))
  (pss_one (ps_ret (pe_tup (pa_cons (pe_callB (cr_sortIJ (K := K) rfl) (by rfl) T.b_sorted (by decide +kernel) (pa_cons (pv 1) pa_nil)) (pa_cons (pv 2) pa_nil)))))))), ?_⟩
  try dsimp only [cx_K]
  obtain ⟨a, ss, rfl, hl, hn, q⟩ := h
  refine ⟨Nat.zero_le _, fun co nc => ?_⟩
  obtain ⟨s1, hco⟩ := newF (o := .lst []) nc
  generalize upd H co (.lst []) = H1 at s1 hco ⊢
  refine ⟨Nat.zero_le _, fun po np => ?_⟩
  obtain ⟨s2, hpo⟩ := newF (o := .lst []) np
  generalize upd H1 po (.lst []) = H2 at s2 hpo ⊢
  have hco2 := s2 _ _ hco
  have ncp : co ≠ po := ne_of_none hco np
  obtain ⟨us, hu, ru⟩ := lsP_same (s1.trans s2) hl
  refine ⟨_, rfl, a, us, rfl, SqL.of hu, fun D hD => lc_enumM Pr (fun t k => k.tp t) Tr (fun t k => k.tp t) (fun s => (s.1.2, s.1.1, (s.2 : Int))) hu ru (by omega) hD (fun v s i H3 T1 H4 hi s3 r s4 hT Kt ht => ?_) (fun H3 s3 h3 => ?_)⟩
  · obtain ⟨p, rfl, hp⟩ := r
    refine g_two hT ⟨rfl, ?_⟩
    walk_at "go"
    refine ⟨by show 3 ≤ sizeLine; decide, fun r n5 => ?_⟩
    obtain ⟨s5, h5⟩ := newF (o := .tup [.int s.2, .int s.1, .int (i : Int)]) n5
    exact ht _ _ s5 ⟨r, rfl, h5⟩
  refine k_sort3 h3 fun H4 p s4 n4 ⟨ks, hk, rk⟩ => ?_
  have s24 := s3.trans s4
  have hco4 := s24 _ _ hco2
  have hpo4 := s24 _ _ hpo
  have e0 : (ss.zipIdx.map fun s => (s.1.2, s.1.1, (s.2 : Int))) = apartKeys ss := rfl
  rw [e0] at rk
  have npc : p ≠ co := (ne_of_none (s3 _ _ hco2) n4).symm
  have npp : p ≠ po := (ne_of_none (s3 _ _ hpo) n4).symm
  refine ⟨p, rfl, ⟨ks, SqL.of hk⟩, for_it (walk_list (xs := ks)) (fun i σ H' => ∃ y3 y4 y5 y6 y7, σ = [some (.ref a), some (.ref co), some (.ref po), y3, y4, y5, y6, y7] ∧ Same H H' ∧ H' p = some (.lst ks) ∧ Tp H4 H' ∧
    LsI H' co ((((isort le3 (apartKeys ss)).take i).foldl apartStep ([], [])).1) ∧ LsI H' po ((((isort le3 (apartKeys ss)).take i).foldl apartStep ([], [])).2)) ?_ ?_ ?_ ?_⟩
  · exact ⟨none, none, none, none, none, rfl, (s1.trans s2).trans s24, hk, Tp.refl _, hco4, hpo4⟩
  · rintro i σ H' hi ⟨y3, y4, y5, y6, y7, rfl, _, hp, _⟩
    exact SqL.of hp
  · rintro i x σ _ H5 hi ⟨y3, y4, y5, y6, y7, rfl, s5, hp, tp, hc, hpn⟩ ⟨rfl, hx⟩
    obtain ⟨s, es, rs⟩ := rk.get hx
    obtain ⟨t, rfl, ht⟩ := rs.tp tp
    have e1 := fold_take (f := apartStep) (b := ([], [])) es
    have hlen := apart_len ((isort le3 (apartKeys ss)).take i) ([], [])
    rw [List.length_take, isort_len, akeys_len] at hlen
    rw [e1]
    generalize ((isort le3 (apartKeys ss)).take i).foldl apartStep ([], []) = st at hc hpn hlen ⊢
    obtain ⟨cs, ps⟩ := st
    simp only [List.length_nil] at hlen
    refine g_three ht ?_
    refine ⟨_, rfl, k_eqN dtI (int_ls hpn) fun z nz => ⟨_, rfl, ?_⟩⟩
    obtain ⟨s6, h6⟩ := newF (o := .lst []) nz
    generalize upd H5 z (.lst []) = H6 at s6 h6 ⊢
    have hc6 := s6 _ _ hc
    have hp6 := s6 _ _ hpn
    have fin : ∀ D : Ends, (D.nx = fun σ' H' => ∃ y3 y4 y5 y6 y7, σ' = [some (V.ref a), some (V.ref co), some (V.ref po), y3, y4, y5, y6, y7] ∧ Same H H' ∧ H' p = some (.lst ks) ∧ Tp H4 H' ∧ LsI H' co (apartStep (cs, ps) s).1 ∧ LsI H' po (apartStep (cs, ps) s).2) →
        apartStep (cs, ps) s = (cs ++ [s.2.2], ps ++ [s.1 - 1]) → tSeq (tDrop (tBM K "list" rAppend (tVar 1) (tCons (tVar 5) tNil))) (tDrop (tBM K "list" rAppend (tVar 2) (tCons (tOp (rI0 fun i j => V.int (i - j)) (tVar 3) (tC (V.int 1))) tNil))) D
          [some (.ref a), some (.ref co), some (.ref po), some (.int s.1), some (.int s.2.1), some (.int s.2.2), y6, y7] H6 := fun D eD ea => by
      refine ⟨_, rfl, .inl ⟨rfl, _, SqL.of hc6⟩, _, rfl, co, _, _, rfl, rfl, hc6, szt (by rw [List.length_map]; show cs.length ≤ 1000; omega), ?_⟩
      have hp7 := up_far (o := .lst (cs.map V.int ++ [.int s.2.2])) ncp.symm hp6
      have hc7 : upd H6 co (.lst (cs.map V.int ++ [.int s.2.2])) co = some _ := upd_same
      have sH7 := sm_mut (o := .lst (cs.map V.int ++ [.int s.2.2])) (s5.trans s6) nc
      have hk7 := up_far (o := .lst (cs.map V.int ++ [.int s.2.2])) npc (s6 _ _ hp)
      have t7 : Tp H6 (upd H6 co (.lst (cs.map V.int ++ [.int s.2.2]))) := tp_lst hc6
      generalize upd H6 co (.lst (cs.map V.int ++ [.int s.2.2])) = H7 at hp7 hc7 sH7 hk7 t7 ⊢
      refine ⟨_, rfl, .inl ⟨rfl, _, SqL.of hp7⟩, ?_⟩
      walk_at "go"
      refine ⟨po, _, _, rfl, rfl, hp7, szt (by rw [List.length_map]; show ps.length ≤ 1000; omega), ?_⟩
      show D.nx _ _
      rw [eD]
      refine ⟨_, _, _, _, _, rfl, sm_mut sH7 (s1.free np), up_far npp hk7, (tp.trans (tp_of s6)).trans (t7.trans (tp_lst hp7)), ?_, ?_⟩
      · rw [ea]
        show _ = some (HO.lst ((cs ++ [s.2.2]).map V.int))
        rw [List.map_append]
        exact up_far ncp hc7
      · rw [ea]
        show _ = some (HO.lst ((ps ++ [s.1 - 1]).map V.int))
        rw [List.map_append]
        exact upd_same
    rcases nil_or_snoc ps with e0 | ⟨m, l, e0⟩
    · subst e0
      rw [decide_eq_true rfl]
      exact iteT (iteT (fin _ rfl rfl))
    · subst e0
      rw [decide_eq_false (by simp)]
      refine iteF ?_
      have e2 : apartStep (cs, m ++ [l]) s = if l < s.2.1 then (cs ++ [s.2.2], (m ++ [l]) ++ [s.1 - 1]) else (cs, m ++ [l]) := by
        unfold apartStep
        rw [List.getLast?_concat]
      have hp6' : H6 po = some (.lst (m.map V.int ++ [.int l])) := by
        rw [hp6, List.map_append]
        rfl
      walk_at "go"
      refine ifD (fun hlt => ?_) (fun hlt => ?_)
      · exact fin _ rfl (by rw [e2, if_pos hlt])
      · refine ⟨_, _, _, _, _, rfl, s5.trans s6, s6 _ _ hp, tp.trans (tp_of s6), ?_, ?_⟩
        · rw [e2, if_neg hlt]
          exact hc6
        · rw [e2, if_neg hlt]
          exact hp6
  · rintro σ H' ⟨y3, y4, y5, y6, y7, rfl, s5, hp, tp, hc, hpn⟩
    rw [rk.len, List.take_length] at hc hpn
    refine ⟨_, rfl, k_sort1 hc ?_ fun H6 r s6 n6 h6 => ?_⟩
    · have hlen := apart_len (isort le3 (apartKeys ss)) ([], [])
      rw [isort_len, akeys_len] at hlen
      simp only [List.length_nil] at hlen
      omega
    refine ⟨_, rfl, by show 2 ≤ sizeLine; decide, fun t n7 => ?_⟩
    obtain ⟨s7, h7⟩ := newF (o := .tup [.ref r, .ref po]) n7
    exact q _ t r (.ref po) ((s5.trans s6).trans s7) ((s5.trans s6).free n7) h7 (s7 _ _ h6)
theorem ok_most_apart (T : Txt K mg) : FnOk P w K mg base CX0 5 T.most_apart.f T.most_apart.fd ["spans"] sp_most_apart := by
  refine T.most_apart.F.ok sc_most_apart (fun vs H Q E h => ?_) (fun cdv A outer s H vs Q E hr h => ?_)
  · first | (obtain ⟨_, rfl, _⟩ := h; rfl) | (obtain ⟨_, _, rfl, _⟩ := h; rfl) | (obtain ⟨_, _, _, rfl, _⟩ := h; rfl) | (obtain ⟨_, _, _, _, rfl, _⟩ := h; rfl) | (obtain ⟨_, _, _, _, _, rfl, _⟩ := h; rfl) | (obtain ⟨_, _, _, _, _, _, rfl, _⟩ := h; rfl) | (obtain ⟨_, _, _, _, _, _, _, rfl, _⟩ := h; rfl) | (obtain ⟨_, _, _, _, _, _, _, _, rfl, _⟩ := h; rfl) | (obtain ⟨_, _, _, _, _, _, _, _, _, rfl, _⟩ := h; rfl) | (obtain ⟨_, _, _, _, _, _, _, _, _, _, rfl, _⟩ := h; rfl) | (obtain ⟨_, _, _, _, _, _, _, _, _, _, _, rfl, _⟩ := h; rfl)
  refine ⟨_, (pss_cons (ps_expr (pe_call (ok_must_spans T) (hr.mono (by decide)) (by rfl) T.must_spans.g T.must_spans.F.kp T.must_spans.b .nil pass0 (pa_cons (pv 0) pa_nil)))
  (pss_one (ps_ret (pe_call (ok_most_told T) (hr.mono (by decide)) (by rfl) T.most_told.g T.most_told.F.kp T.most_told.b .nil pass0 (pa_cons (pv 0) pa_nil))))), ?_⟩
  try dsimp only [cx_K]
  obtain ⟨a, ss, rfl, hl, hn, hok, q⟩ := h
  exact ⟨_, rfl, a, ss, rfl, hl, hok, _, rfl, a, ss, rfl, hl, hn, q⟩
theorem ok_first_free (T : Txt K mg) : FnOk P w K mg base CX0 1 T.first_free.f T.first_free.fd ["ends", "low"] sp_first_free := by
  refine T.first_free.F.ok sc_first_free (fun vs H Q E h => ?_) (fun cdv A outer s H vs Q E hr h => ?_)
  · first | (obtain ⟨_, rfl, _⟩ := h; rfl) | (obtain ⟨_, _, rfl, _⟩ := h; rfl) | (obtain ⟨_, _, _, rfl, _⟩ := h; rfl) | (obtain ⟨_, _, _, _, rfl, _⟩ := h; rfl) | (obtain ⟨_, _, _, _, _, rfl, _⟩ := h; rfl) | (obtain ⟨_, _, _, _, _, _, rfl, _⟩ := h; rfl) | (obtain ⟨_, _, _, _, _, _, _, rfl, _⟩ := h; rfl) | (obtain ⟨_, _, _, _, _, _, _, _, rfl, _⟩ := h; rfl) | (obtain ⟨_, _, _, _, _, _, _, _, _, rfl, _⟩ := h; rfl) | (obtain ⟨_, _, _, _, _, _, _, _, _, _, rfl, _⟩ := h; rfl) | (obtain ⟨_, _, _, _, _, _, _, _, _, _, _, rfl, _⟩ := h; rfl)
  refine ⟨_, (pss_cons (ps_for PassesOwn.never rfl (pi_enum (by rfl) T.b_enumerate (pa_cons (pv 0) pa_nil)) (pg_tupK (K := K) (n := 2) rfl rfl (pgs_cons (pg_name (i := 2) sc_first_free.nd rfl (.inl rfl)) (pgs_cons (pg_name (i := 3) sc_first_free.nd rfl (.inl rfl)) pgs_nil)))
  (pss_one (ps_if (pt_cmpR op_le (pv 3) (pv 1) (nomark _))
  (pss_one (ps_ret (pv 2)))
  pss_nil)))
  (pss_one (ps_ret (pe_callB call_len_seq (by rfl) T.b_len PySem.boot_len (pa_cons (pv 0) pa_nil))))), ?_⟩
  try dsimp only [cx_K]
  obtain ⟨a, es, low, rfl, hu, hn, q⟩ := h
  refine ⟨_, rfl, a, _, rfl, SqL.of hu, for_it (walk_enum (xs := es.map V.int)) (fun i σ H' => ∃ y2 y3, σ = [some (.ref a), some (.int low), y2, y3] ∧ Same H H' ∧ firstFree (es.drop i) low + i = firstFree es low) ⟨none, none, rfl, Same.refl _, rfl⟩ ?_ ?_ ?_⟩
  · rintro i σ H' hi ⟨y2, y3, rfl, s2, _⟩
    exact SqL.of (s2 _ _ hu)
  · rintro i x σ H1 _ hi ⟨y2, y3, rfl, s1, hf⟩ ⟨T1, x1, x2, rfl, nT, rfl, hx, hy⟩
    obtain ⟨m, em, r2⟩ := (int_rows (H := fun _ => none) es).get hy
    have r2 : x2 = .int m := r2
    have r1 : V.int (i : Int) = x1 := Option.some.inj hx
    subst r1 r2
    obtain ⟨s2, h2⟩ := newF (o := .tup [.int (i : Int), .int m]) nT
    generalize upd H1 T1 (.tup [.int (i : Int), .int m]) = H2 at s2 h2 ⊢
    have ed : es.drop i = m :: es.drop (i + 1) := by
      rw [List.drop_eq_getElem_cons (List.getElem?_eq_some_iff.mp em).1, (List.getElem?_eq_some_iff.mp em).2]
    rw [ed, firstFree] at hf
    refine g_two h2 ?_
    walk_at "go"
    refine ifD (fun hle => ?_) (fun hle => ?_)
    · rw [if_pos hle] at hf
      refine ⟨_, rfl, ?_⟩
      have := q H2 (s1.trans s2)
      rw [← hf, Nat.zero_add] at this
      exact this
    · rw [if_neg hle] at hf
      exact ⟨_, _, rfl, s1.trans s2, by omega⟩
  · rintro σ H' ⟨y2, y3, rfl, s2, hf⟩
    rw [List.length_map, List.drop_length, firstFree] at hf
    refine ⟨_, rfl, a, _, rfl, .inl (SqL.of (s2 _ _ hu)), ?_⟩
    have := q H' s2
    rw [← hf, Nat.zero_add] at this
    rw [List.length_map]
    exact this
theorem ok_rows_of (T : Txt K mg) : FnOk P w K mg base CX0 5 T.rows_of.f T.rows_of.fd ["spans"] sp_rows_of := by
  refine T.rows_of.F.ok sc_rows_of (fun vs H Q E h => ?_) (fun cdv A outer s H vs Q E hr h => ?_)
  · first | (obtain ⟨_, rfl, _⟩ := h; rfl) | (obtain ⟨_, _, rfl, _⟩ := h; rfl) | (obtain ⟨_, _, _, rfl, _⟩ := h; rfl) | (obtain ⟨_, _, _, _, rfl, _⟩ := h; rfl) | (obtain ⟨_, _, _, _, _, rfl, _⟩ := h; rfl) | (obtain ⟨_, _, _, _, _, _, rfl, _⟩ := h; rfl) | (obtain ⟨_, _, _, _, _, _, _, rfl, _⟩ := h; rfl) | (obtain ⟨_, _, _, _, _, _, _, _, rfl, _⟩ := h; rfl) | (obtain ⟨_, _, _, _, _, _, _, _, _, rfl, _⟩ := h; rfl) | (obtain ⟨_, _, _, _, _, _, _, _, _, _, rfl, _⟩ := h; rfl) | (obtain ⟨_, _, _, _, _, _, _, _, _, _, _, rfl, _⟩ := h; rfl)
  refine ⟨_, (pss_cons (ps_expr (pe_call (ok_must_spans T) (hr.mono (by decide)) (by rfl) T.must_spans.g T.must_spans.F.kp T.must_spans.b .nil pass0 (pa_cons (pv 0) pa_nil)))
  (pss_cons (ps_set (i := 1) sc_rows_of.nd rfl (.inl rfl) (pe_op op_repJ (pe_lst (pa_cons pe_int pa_nil)) (pe_callB call_len_seq (by rfl) T.b_len PySem.boot_len (pa_cons (pv 0) pa_nil))))
  (pss_cons (ps_set (i := 2) sc_rows_of.nd rfl (.inl rfl) (pe_lst pa_nil))
  (pss_cons (ps_set (i := 3) sc_rows_of.nd rfl (.inl rfl) pe_non)
  (pss_cons (ps_for PassesOwn.never rfl (pi_list (pe_callB (cr_sortJ (K := K) (d := 3) rfl (by decide)) (by rfl) T.b_sorted (by decide +kernel) (pa_cons (pe_lc (own := [("at", 8), ("span", 9)]) (tt := tYes) rfl sc_rows_of.nd (pi_enum (by rfl) T.b_enumerate (pa_cons (pv 0) pa_nil)) (blkOk_by (N := ["spans", "rows", "ends", "place", "low", "high", "number", "row", "at", "span"]) (sc := defScope s_rows_of) (by decide +kernel)) (fun _ _ _ _ _ => (pg_tupK (K := K) (n := 2) rfl rfl (pgs_cons (pg_name (i := 8) sc_rows_of.nd rfl (.inl rfl)) (pgs_cons (pg_name (i := 9) sc_rows_of.nd rfl (.inl rfl)) pgs_nil)))) (fun _ _ _ _ _ => pts_nil) (fun _ _ _ _ _ => (pe_tup (pa_cons (pe_ix (ix_tupK (K := K) rfl) (pv 9) pe_int (fun _ _ => rfl)) (pa_cons (pe_ix (ix_tupK (K := K) rfl) (pv 9) pe_int (fun _ _ => rfl)) (pa_cons (pv 8) pa_nil)))))) pa_nil))) (pg_tupK (K := K) (n := 3) rfl rfl (pgs_cons (pg_name (i := 4) sc_rows_of.nd rfl (.inl rfl)) (pgs_cons (pg_name (i := 5) sc_rows_of.nd rfl (.inl rfl)) (pgs_cons (pg_name (i := 6) sc_rows_of.nd rfl (.inl rfl)) pgs_nil))))
  (pss_cons (ps_set (i := 7) sc_rows_of.nd rfl (.inl rfl) (pe_call (ok_first_free T) (hr.mono (by decide)) (by rfl) T.first_free.g T.first_free.F.kp T.first_free.b .nil pass0 (pa_cons (pv 2) (pa_cons (pv 4) pa_nil))))
  (pss_cons (ps_asg (pv 7) (pg_sub (pv 1) (pv 6) set_list))
  (pss_one (ps_if (pt_cmpR op_eq (pv 7) (pe_callB call_len_seq (by rfl) T.b_len PySem.boot_len (pa_cons (pv 2) pa_nil)) (nomark _))
  (pss_cons (ps_expr (pe_bm PySem.F.plainAttrs_list PySem.F.slot_list_append PySem.F.type_list_append mt_append (pv 2) (pa_cons (pv 5) pa_nil)))
  (pss_one (ps_set (i := 3) sc_rows_of.nd rfl (.inl rfl) (pv 4))))
  (pss_one (ps_asg (pv 5) (pg_sub (pv 2) (pv 7) set_list))))))))
  (pss_one (ps_ret (pe_tup (pa_cons (pv 1) (pa_cons (pv 3) pa_nil)))))))))), ?_⟩
  try dsimp only [cx_K]
  obtain ⟨a, ss, rfl, hl, hn, hok, q⟩ := h
  refine ⟨_, rfl, a, ss, rfl, hl, hok, ?_⟩
  obtain ⟨us, hu, ru⟩ := id hl
  refine ⟨by show 1 ≤ sizeLine; decide, fun z nz => ?_⟩
  obtain ⟨s1, h1⟩ := newF (o := .lst [.int 0]) nz
  generalize upd H z (.lst [.int 0]) = H1 at s1 h1 ⊢
  refine ⟨_, rfl, a, us, rfl, .inl (SqL.of (s1 _ _ hu)), ?_⟩
  refine k_rep h1 (by omega) (by rw [ru.len]; omega) fun ro H2 s2 nr hro => ?_
  rw [ru.len, Int.toNat_natCast, ← List.map_replicate] at hro
  refine ⟨Nat.zero_le _, fun eo ne => ?_⟩
  obtain ⟨s3, heo⟩ := newF (o := .lst []) ne
  generalize upd H2 eo (.lst []) = H3 at s3 heo ⊢
  have nrH : H ro = none := s1.free nr
  have neH : H eo = none := (s1.trans s2).free ne
  have nre : ro ≠ eo := ne_of_none hro ne
  have s13 := (s1.trans s2).trans s3
  have hro3 := s3 _ _ hro
  refine ⟨_, rfl, a, us, rfl, SqL.of (s13 _ _ hu), fun D hD => lc_enumM Pr (fun t k => k.tp t) Tr (fun t k => k.tp t) (fun s => (s.1.1, s.1.2, (s.2 : Int))) (s13 _ _ hu) (ru.mono fun _ _ k => k.tp (tp_of s13)) (by omega) hD (fun v s i H4 T1 H5 hi s4 r s5 hT Kt ht => ?_) (fun H4 s4 h4 => ?_)⟩
  · obtain ⟨p, rfl, hp⟩ := r
    refine g_two hT ⟨rfl, ?_⟩
    walk_at "go"
    refine ⟨by show 3 ≤ sizeLine; decide, fun r n5 => ?_⟩
    obtain ⟨s5, h5⟩ := newF (o := .tup [.int s.1, .int s.2, .int (i : Int)]) n5
    exact ht _ _ s5 ⟨r, rfl, h5⟩
  refine k_sort3 h4 fun H5 p s5 n5 ⟨ks, hk, rk⟩ => ?_
  have s45 := s4.trans s5
  have hro5 := s45 _ _ hro3
  have heo5 := s45 _ _ heo
  have e0 : (ss.zipIdx.map fun s => (s.1.1, s.1.2, (s.2 : Int))) = rowKeys ss := rfl
  rw [e0] at rk
  have npr : p ≠ ro := (ne_of_none (s4 _ _ hro3) n5).symm
  have npe : p ≠ eo := (ne_of_none (s4 _ _ heo) n5).symm
  refine ⟨p, rfl, ⟨ks, SqL.of hk⟩, for_it (walk_list (xs := ks)) (fun i σ H' => ∃ y3 y4 y5 y6 y7 y8 y9, σ = [some (.ref a), some (.ref ro), some (.ref eo), some y3, y4, y5, y6, y7, y8, y9] ∧ Same H H' ∧ H' p = some (.lst ks) ∧ Tp H5 H' ∧
    LsI H' ro ((((isort le3 (rowKeys ss)).take i).foldl rowStep (List.replicate ss.length 0, [])).1) ∧ LsI H' eo ((((isort le3 (rowKeys ss)).take i).foldl rowStep (List.replicate ss.length 0, [])).2)) ?_ ?_ ?_ ?_⟩
  · exact ⟨.non, none, none, none, none, none, none, rfl, s13.trans s45, hk, Tp.refl _, hro5, heo5⟩
  · rintro i σ H' hi ⟨y3, y4, y5, y6, y7, y8, y9, rfl, _, hp, _⟩
    exact SqL.of hp
  · rintro i x σ _ H6 hi ⟨y3, y4, y5, y6, y7, y8, y9, rfl, s6, hp, tp, hr6, he6⟩ ⟨rfl, hx⟩
    obtain ⟨s, es, rs⟩ := rk.get hx
    obtain ⟨t, rfl, ht⟩ := rs.tp tp
    obtain ⟨kk, sp, hkk, rfl⟩ := rowKey (List.mem_of_getElem? es)
    have hkl : kk < ss.length := (List.getElem?_eq_some_iff.mp hkk).1
    have e1 := fold_take (f := rowStep) (b := (List.replicate ss.length 0, [])) es
    have hlen := row_len ((isort le3 (rowKeys ss)).take i) (List.replicate ss.length 0, [])
    rw [List.length_take, isort_len, keys_len] at hlen
    rw [e1]
    generalize ((isort le3 (rowKeys ss)).take i).foldl rowStep (List.replicate ss.length 0, []) = st at hr6 he6 hlen ⊢
    obtain ⟨rs', es'⟩ := st
    simp only [List.length_nil, List.length_replicate] at hlen
    have hle : es'.length ≤ 100 := by omega
    refine g_three ht ?_
    refine ⟨_, rfl, _, rfl, eo, es', sp.1, rfl, he6, by omega, fun H7 s7 => ?_⟩
    have hr7 := s7 _ _ hr6
    have he7 := s7 _ _ he6
    have ff := ff_le es' sp.1
    refine ⟨_, rfl, _, rfl, _, rfl, ro, _, _, kk, rfl, rfl, hr7, ixN_nat (by rw [List.length_map]; show kk < rs'.length; omega), ?_⟩
    rw [← List.map_set]
    have hro8 : upd H7 ro (.lst ((rs'.set kk ((firstFree es' sp.1 : Nat) : Int)).map V.int)) ro = some _ := upd_same
    have heo8 := up_far (o := .lst ((rs'.set kk ((firstFree es' sp.1 : Nat) : Int)).map V.int)) nre.symm he7
    have sH8 := sm_mut (o := .lst ((rs'.set kk ((firstFree es' sp.1 : Nat) : Int)).map V.int)) (s6.trans s7) nrH
    have hk8 := up_far (o := .lst ((rs'.set kk ((firstFree es' sp.1 : Nat) : Int)).map V.int)) npr (s7 _ _ hp)
    have t8 : Tp H7 (upd H7 ro (.lst ((rs'.set kk ((firstFree es' sp.1 : Nat) : Int)).map V.int))) := tp_lst hr7
    generalize upd H7 ro (.lst ((rs'.set kk ((firstFree es' sp.1 : Nat) : Int)).map V.int)) = H8 at hro8 heo8 sH8 hk8 t8 ⊢
    have t58 := (tp.trans (tp_of s7)).trans t8
    have hrow : rowStep (rs', es') (sp.1, sp.2, (kk : Int)) = (rs'.set kk ((firstFree es' sp.1 : Nat) : Int), if firstFree es' sp.1 = es'.length then es' ++ [sp.2] else es'.set (firstFree es' sp.1) sp.2) := by
      unfold rowStep
      simp only [Int.toNat_natCast]
    rw [hrow]
    refine ⟨_, rfl, _, rfl, eo, _, rfl, .inl (SqL.of heo8), rfl, _, rfl, ?_⟩
    refine ifD (fun g => ?_) (fun g => ?_)
    · have g2 : firstFree es' sp.1 = es'.length := by
        have := V.int.inj g
        rw [List.length_map] at this
        exact Int.ofNat.inj this
      refine ⟨_, rfl, .inl ⟨rfl, _, SqL.of heo8⟩, _, rfl, eo, _, _, rfl, rfl, heo8, szt (by rw [List.length_map]; show es'.length ≤ 1000; omega), ?_⟩
      refine ⟨_, rfl, _, _, _, _, _, _, _, rfl, sm_mut sH8 neH, up_far npe hk8, t58.trans (tp_lst heo8), up_far nre hro8, ?_⟩
      rw [if_pos g2]
      show _ = some (HO.lst ((es' ++ [sp.2]).map V.int))
      rw [List.map_append]
      exact upd_same
    · have g2 : firstFree es' sp.1 ≠ es'.length := fun e => g (by rw [List.length_map, e])
      refine ⟨_, rfl, _, rfl, _, rfl, eo, _, _, firstFree es' sp.1, rfl, rfl, heo8, ixN_nat (by rw [List.length_map]; show firstFree es' sp.1 < es'.length; omega), ?_⟩
      refine ⟨_, _, _, _, _, _, _, rfl, sm_mut sH8 neH, up_far npe hk8, t58.trans (tp_lst heo8), up_far nre hro8, ?_⟩
      rw [if_neg g2]
      show _ = some (HO.lst ((es'.set (firstFree es' sp.1) sp.2).map V.int))
      rw [List.map_set]
      exact upd_same
  · rintro σ H' ⟨y3, y4, y5, y6, y7, y8, y9, rfl, s6, hp, tp, hr6, he6⟩
    rw [rk.len, List.take_length] at hr6
    refine ⟨_, rfl, _, rfl, by show 2 ≤ sizeLine; decide, fun t n7 => ?_⟩
    obtain ⟨s7, h7⟩ := newF (o := .tup [.ref ro, y3]) n7
    exact q _ t ro y3 (s6.trans s7) (s6.free n7) h7 (s7 _ _ hr6)
end

def sp_upward : Sp := fun vs H Q _ => ∃ (a : Addr) (ss : List Spn), vs = [.ref a] ∧ LsP H a ss ∧ ss.length ≤ 20 ∧ RetI (upwardOf ss) H Q
def sp_levels_of : Sp := fun vs H Q _ => ∃ (a : Addr) (ss : List Spn), vs = [.ref a] ∧ LsP H a ss ∧ ss.length ≤ 20 ∧ RetI (levelsOf ss) H Q
/-- a new pair of a list with so many ints and something -/
def RetNx (n : Int) (H : Hp) (Q : VK) : Prop := ∀ H' t p v (ns : List Int), Same H H' → H t = none → H' t = some (.tup [.ref p, v]) → LsI H' p ns → (ns.length : Int) = n → Q (.ref t) H'
def sp_nest : Sp := fun vs H Q _ => ∃ (a : Addr) (ss : List Spn), vs = [.ref a] ∧ LsP H a ss ∧ ss.length ≤ 20 ∧ (∀ s ∈ ss, okS s) ∧ RetNx (maxOr (levelsOf ss) + 1) H Q
section
variable {P : Program} {w : World} {K : PySem.W.Frag} {mg : Str → Option Value} {base : Heap}
theorem ok_upward (T : Txt K mg) : FnOk P w K mg base CX0 1 T.upward.f T.upward.fd ["spans"] sp_upward := by
  refine T.upward.F.ok sc_upward (fun vs H Q E h => ?_) (fun cdv A outer s H vs Q E hr h => ?_)
  · first | (obtain ⟨_, rfl, _⟩ := h; rfl) | (obtain ⟨_, _, rfl, _⟩ := h; rfl) | (obtain ⟨_, _, _, rfl, _⟩ := h; rfl) | (obtain ⟨_, _, _, _, rfl, _⟩ := h; rfl) | (obtain ⟨_, _, _, _, _, rfl, _⟩ := h; rfl) | (obtain ⟨_, _, _, _, _, _, rfl, _⟩ := h; rfl) | (obtain ⟨_, _, _, _, _, _, _, rfl, _⟩ := h; rfl) | (obtain ⟨_, _, _, _, _, _, _, _, rfl, _⟩ := h; rfl) | (obtain ⟨_, _, _, _, _, _, _, _, _, rfl, _⟩ := h; rfl) | (obtain ⟨_, _, _, _, _, _, _, _, _, _, rfl, _⟩ := h; rfl) | (obtain ⟨_, _, _, _, _, _, _, _, _, _, _, rfl, _⟩ := h; rfl)
  refine ⟨_, (pss_one (ps_ret (pe_lc (own := [("long", 1), ("number", 2)]) (tt := tYes) rfl sc_upward.nd (pi_list (pe_callB (cr_sortJ (K := K) (d := 2) rfl (by decide)) (by rfl) T.b_sorted (by decide +kernel) (pa_cons (pe_lc (own := [("number", 2), ("span", 3)]) (tt := tYes) rfl sc_upward.nd (pi_enum (by rfl) T.b_enumerate (pa_cons (pv 0) pa_nil)) (blkOk_by (N := ["spans", "long", "number", "span"]) (sc := defScope s_upward) (by decide +kernel)) (fun _ _ _ _ _ => (pg_tupK (K := K) (n := 2) rfl rfl (pgs_cons (pg_name (i := 2) sc_upward.nd rfl (.inl rfl)) (pgs_cons (pg_name (i := 3) sc_upward.nd rfl (.inl rfl)) pgs_nil)))) (fun _ _ _ _ _ => pts_nil) (fun _ _ _ _ _ => (pe_tup (pa_cons (pe_op op_sub (pe_ix (ix_tupK (K := K) rfl) (pv 3) pe_int (fun _ _ => rfl)) (pe_ix (ix_tupK (K := K) rfl) (pv 3) pe_int (fun _ _ => rfl))) (pa_cons (pv 2) pa_nil))))) pa_nil))) (blkOk_by (N := ["spans", "long", "number", "span"]) (sc := defScope s_upward) (by decide +kernel)) (fun _ _ _ _ _ => (pg_tupK (K := K) (n := 2) rfl rfl (pgs_cons (pg_name (i := 1) sc_upward.nd rfl (.inl rfl)) (pgs_cons (pg_name (i := 2) sc_upward.nd rfl (.inl rfl)) pgs_nil)))) (fun _ _ _ _ _ => pts_nil) (fun _ _ _ _ _ => (pv 2))))), ?_⟩
  try dsimp only [cx_K]
  obtain ⟨a, ss, rfl, ⟨us, hu, ru⟩, hn, q⟩ := h
  refine ⟨_, rfl, a, us, rfl, SqL.of hu, fun D hD => lc_enumM Pr (fun t k => k.tp t) Pr (fun t k => k.tp t) (fun s => (s.1.2 - s.1.1, (s.2 : Int))) hu ru (by omega) hD (fun v s i H4 T1 H5 hi s4 r s5 hT Kt ht => ?_) (fun H4 s4 h4 => ?_)⟩
  · obtain ⟨p, rfl, hp⟩ := r
    refine g_two hT ⟨rfl, ?_⟩
    walk_at "go"
    refine ⟨by show 2 ≤ sizeLine; decide, fun r n5 => ?_⟩
    obtain ⟨s5, h5⟩ := newF (o := .tup [.int (s.2 - s.1), .int (i : Int)]) n5
    exact ht _ _ s5 ⟨r, rfl, h5⟩
  refine k_sort2 h4 fun H5 p s5 n5 ⟨ks, hk, rk⟩ => ?_
  have e0 : (ss.zipIdx.map fun s => (s.1.2 - s.1.1, (s.2 : Int))) = longKeys ss := rfl
  rw [e0] at rk
  refine ⟨p, rfl, ⟨ks, SqL.of hk⟩, fun D2 hD2 => lc_eachM Pr (fun t k => k.tp t) In (fun t k => k.tp t) (fun x => x.2) hk rk (by rw [isort_len]; unfold longKeys; rw [List.length_map, List.length_zipIdx]; omega) hD2 (fun v x H6 _ s6 ⟨r, ev, hr⟩ Kt ht => ?_) (fun H6 s6 h6 => ?_)⟩
  · subst ev
    refine g_two hr ⟨rfl, ?_⟩
    walk_at "go"
    exact ht _ _ (Same.refl _) rfl
  · exact q H6 D2 ((s4.trans s5).trans s6) ((s4.trans s5).free hD2) (ls_int h6)
theorem ok_levels_of (T : Txt K mg) : FnOk P w K mg base CX0 3 T.levels_of.f T.levels_of.fd ["spans"] sp_levels_of := by
  refine T.levels_of.F.ok sc_levels_of (fun vs H Q E h => ?_) (fun cdv A outer s H vs Q E hr h => ?_)
  · first | (obtain ⟨_, rfl, _⟩ := h; rfl) | (obtain ⟨_, _, rfl, _⟩ := h; rfl) | (obtain ⟨_, _, _, rfl, _⟩ := h; rfl) | (obtain ⟨_, _, _, _, rfl, _⟩ := h; rfl) | (obtain ⟨_, _, _, _, _, rfl, _⟩ := h; rfl) | (obtain ⟨_, _, _, _, _, _, rfl, _⟩ := h; rfl) | (obtain ⟨_, _, _, _, _, _, _, rfl, _⟩ := h; rfl) | (obtain ⟨_, _, _, _, _, _, _, _, rfl, _⟩ := h; rfl) | (obtain ⟨_, _, _, _, _, _, _, _, _, rfl, _⟩ := h; rfl) | (obtain ⟨_, _, _, _, _, _, _, _, _, _, rfl, _⟩ := h; rfl) | (obtain ⟨_, _, _, _, _, _, _, _, _, _, _, rfl, _⟩ := h; rfl)
  refine ⟨_, (pss_cons (ps_set (i := 1) sc_levels_of.nd rfl (.inl rfl) (pe_op op_repJ (pe_lst (pa_cons pe_int pa_nil)) (pe_callB call_len_seq (by rfl) T.b_len PySem.boot_len (pa_cons (pv 0) pa_nil))))
  (pss_cons (ps_for PassesOwn.never rfl (pi_list (pe_call (ok_upward T) (hr.mono (by decide)) (by rfl) T.upward.g T.upward.F.kp T.upward.b .nil pass0 (pa_cons (pv 0) pa_nil))) (pg_name (i := 2) sc_levels_of.nd rfl (.inl rfl))
  (pss_one (ps_for PassesOwn.never rfl (pi_range1 (by rfl) T.b_range (pa_cons (pe_callB call_len_seq (by rfl) T.b_len PySem.boot_len (pa_cons (pv 0) pa_nil)) pa_nil)) (pg_name (i := 3) sc_levels_of.nd rfl (.inl rfl))
  (pss_one (ps_if (pt_val (pe_call (ok_under T) (hr.mono (by decide)) (by rfl) T.under.g T.under.F.kp T.under.b .nil pass0 (pa_cons (pv 0) (pa_cons (pv 3) (pa_cons (pv 2) pa_nil)))))
  (pss_one (ps_asg (pe_callB (call_max2 rfl) (by rfl) T.b_max (by decide +kernel) (pa_cons (pe_ix (ix_listK (K := K) rfl) (pv 1) (pv 2) (fun _ _ => rfl)) (pa_cons (pe_op op_add (pe_ix (ix_listK (K := K) rfl) (pv 1) (pv 3) (fun _ _ => rfl)) pe_int) pa_nil))) (pg_sub (pv 1) (pv 2) set_list)))
  pss_nil)))))
  (pss_one (ps_ret (pv 1))))), ?_⟩
  try dsimp only [cx_K]
  obtain ⟨a, ss, rfl, hl, hn, q⟩ := h
  obtain ⟨us, hu, ru⟩ := id hl
  refine ⟨by show 1 ≤ sizeLine; decide, fun z nz => ?_⟩
  obtain ⟨s1, h1⟩ := newF (o := .lst [.int 0]) nz
  generalize upd H z (.lst [.int 0]) = H1 at s1 h1 ⊢
  refine ⟨_, rfl, a, us, rfl, .inl (SqL.of (s1 _ _ hu)), ?_⟩
  refine k_rep h1 (by omega) (by rw [ru.len]; omega) fun fo H2 s2 nf h2 => ?_
  rw [ru.len, Int.toNat_natCast, ← List.map_replicate] at h2
  have nfH : H fo = none := s1.free nf
  refine ⟨_, rfl, a, ss, rfl, lsP_same (s1.trans s2) hl, hn, fun H3 p s3 n3 hp => ?_⟩
  have nfp : p ≠ fo := (ne_of_none h2 n3).symm
  refine ⟨p, rfl, ⟨_, SqL.of hp⟩, for_it (walk_list (xs := (upwardOf ss).map V.int)) (fun i σ H' => ∃ y2 y3, σ = [some (.ref a), some (.ref fo), y2, y3] ∧ Same H H' ∧ LsI H' p (upwardOf ss) ∧ LsI H' fo (((upwardOf ss).take i).foldl (levStep ss) (List.replicate ss.length 0))) ?_ ?_ ?_ ?_⟩
  · exact ⟨none, none, rfl, (s1.trans s2).trans s3, hp, s3 _ _ h2⟩
  · rintro i σ H' hi ⟨y2, y3, rfl, _, hp, _⟩
    exact SqL.of hp
  · rintro i x σ _ H4 hi ⟨y2, y3, rfl, s4, hp4, hf4⟩ ⟨rfl, hx⟩
    obtain ⟨k0, ek, r1⟩ := (int_rows (H := fun _ => none) (upwardOf ss)).get hx
    have r1 : x = .int k0 := r1
    subst r1
    obtain ⟨k, hk, rfl⟩ := up_mem (List.mem_of_getElem? ek)
    have e1 := fold_take (f := levStep ss) (b := List.replicate ss.length 0) ek
    rw [e1]
    have hlen := levs_len ss ((upwardOf ss).take i) (List.replicate ss.length 0)
    rw [List.length_replicate] at hlen
    generalize ((upwardOf ss).take i).foldl (levStep ss) (List.replicate ss.length 0) = f at hf4 hlen ⊢
    refine ⟨_, rfl, a, us, rfl, .inl (SqL.of (s4 _ _ hu)), (us.length : Int), rfl, by omega, by rw [ru.len]; omega, ?_⟩
    rw [Int.toNat_natCast]
    refine for_it (walk_rg (n := us.length)) (fun j σ H' => ∃ y3, σ = [some (.ref a), some (.ref fo), some (.int (k : Int)), y3] ∧ Same H H' ∧ LsI H' p (upwardOf ss) ∧ LsI H' fo (((List.range ss.length).take j).foldl (levIn ss k) f)) ⟨y3, rfl, s4, hp4, hf4⟩ (fun _ _ _ _ _ => trivial) ?_ ?_
    · rintro j x σ _ H5 hj ⟨y3, rfl, s5, hp5, hf5⟩ ⟨rfl, rfl⟩
      rw [ru.len] at hj
      have ej : (List.range ss.length)[j]? = some j := by rw [List.getElem?_range hj]
      rw [fold_take (f := levIn ss k) (b := f) ej]
      have hlen5 := levIns_len ss k ((List.range ss.length).take j) f
      rw [hlen] at hlen5
      generalize ((List.range ss.length).take j).foldl (levIn ss k) f = g at hf5 hlen5 ⊢
      refine ⟨_, rfl, _, rfl, _, rfl, a, ss, j, k, rfl, lsP_same s5 hl, hj, hk, _, rfl, ?_⟩
      have ejg : (g.map V.int)[j]? = some (.int (g.getD j 0)) := by
        rw [List.getElem?_map, List.getD_eq_getElem?_getD, List.getElem?_eq_getElem (by omega)]
        rfl
      have ekg : (g.map V.int)[k]? = some (.int (g.getD k 0)) := by
        rw [List.getElem?_map, List.getD_eq_getElem?_getD, List.getElem?_eq_getElem (by omega)]
        rfl
      refine ifB (fun hb => ?_) (fun hb => ?_)
      · walk_at "go"
        refine ⟨fo, _, _, k, rfl, rfl, hf5, ixN_nat (by rw [List.length_map]; omega), ?_⟩
        refine ⟨_, rfl, sm_mut s5 nfH, up_far nfp hp5, ?_⟩
        have e2 : levIn ss k g j = g.set k (max (g.getD k 0) (g.getD j 0 + 1)) := if_pos hb
        rw [e2]
        have e3 : (if g.getD j 0 + 1 > g.getD k 0 then g.getD j 0 + 1 else g.getD k 0) = max (g.getD k 0) (g.getD j 0 + 1) := by
          rw [Int.max_def]
          by_cases h : g.getD k 0 ≤ g.getD j 0 + 1
          · rw [if_pos h]
            split <;> omega
          · rw [if_neg h, if_neg (by omega)]
        rw [e3]
        show _ = some (HO.lst _)
        rw [List.map_set]
        exact upd_same
      · refine ⟨_, rfl, s5, hp5, ?_⟩
        have e2 : levIn ss k g j = g := if_neg (by rw [hb]; decide)
        rw [e2]
        exact hf5
    · rintro σ H' ⟨y3, rfl, s5, hp5, hf5⟩
      rw [ru.len, List.take_of_length_le (by rw [List.length_range]; omega)] at hf5
      refine ⟨_, _, rfl, s5, hp5, ?_⟩
      show LsI H' fo (levStep ss f (k : Int))
      unfold levStep
      rw [Int.toNat_natCast]
      exact hf5
  · rintro σ H' ⟨y2, y3, rfl, s4, hp4, hf4⟩
    rw [List.length_map, List.take_length] at hf4
    exact ⟨_, rfl, q H' fo s4 nfH hf4⟩
theorem ok_nest (T : Txt K mg) : FnOk P w K mg base CX0 5 T.nest.f T.nest.fd ["spans"] sp_nest := by
  refine T.nest.F.ok sc_nest (fun vs H Q E h => ?_) (fun cdv A outer s H vs Q E hr h => ?_)
  · first | (obtain ⟨_, rfl, _⟩ := h; rfl) | (obtain ⟨_, _, rfl, _⟩ := h; rfl) | (obtain ⟨_, _, _, rfl, _⟩ := h; rfl) | (obtain ⟨_, _, _, _, rfl, _⟩ := h; rfl) | (obtain ⟨_, _, _, _, _, rfl, _⟩ := h; rfl) | (obtain ⟨_, _, _, _, _, _, rfl, _⟩ := h; rfl) | (obtain ⟨_, _, _, _, _, _, _, rfl, _⟩ := h; rfl) | (obtain ⟨_, _, _, _, _, _, _, _, rfl, _⟩ := h; rfl) | (obtain ⟨_, _, _, _, _, _, _, _, _, rfl, _⟩ := h; rfl) | (obtain ⟨_, _, _, _, _, _, _, _, _, _, rfl, _⟩ := h; rfl) | (obtain ⟨_, _, _, _, _, _, _, _, _, _, _, rfl, _⟩ := h; rfl)
  refine ⟨_, (pss_cons (ps_expr (pe_call (ok_must_spans T) (hr.mono (by decide)) (by rfl) T.must_spans.g T.must_spans.F.kp T.must_spans.b .nil pass0 (pa_cons (pv 0) pa_nil)))
  (pss_cons (ps_set (i := 1) sc_nest.nd rfl (.inr rfl) (pe_call (ok_levels_of T) (hr.mono (by decide)) (by rfl) T.levels_of.g T.levels_of.F.kp T.levels_of.b .nil pass0 (pa_cons (pv 0) pa_nil)))
  (pss_cons (ps_set (i := 2) sc_nest.nd rfl (.inr rfl) (pe_lst pa_nil))
  (pss_cons (ps_for PassesOwn.never rfl (pi_range3 (by rfl) T.b_range (pa_cons (pe_callBK (cr_maxDefJ (K := K) rfl rfl hr.units) (by rfl) T.b_max (by decide +kernel) (pa_cons (pv 1) pa_nil) (pk_cons (pe_un un_neg pe_int) pk_nil)) (pa_cons (pe_un un_neg pe_int) (pa_cons (pe_un un_neg pe_int) pa_nil)))) (pg_name (i := 3) sc_nest.nd rfl (.inr rfl))
  (pss_cons (ps_setLc (i := 4) (own := [("number", 5)]) rfl sc_nest.nd rfl rfl (sw_true rfl rfl rfl (by decide +kernel)) (pi_range1 (by rfl) T.b_range (pa_cons (pe_callB call_len_seq (by rfl) T.b_len PySem.boot_len (pa_cons (pv 0) pa_nil)) pa_nil)) (blkOk_by (N := ["spans", "levels", "found", "level", "some", "number"]) (sc := defScope s_nest) (by decide +kernel)) (fun _ _ _ _ _ => (pg_name (i := 5) sc_nest.nd rfl (.inl rfl))) (fun _ _ _ _ _ => (pts_one (pt_cmpR op_eq (pe_ix (ix_listK (K := K) rfl) (pv 1) (pv 5) (fun _ _ => rfl)) (pv 3) (nomark _)))) (fun _ _ _ _ _ => (pv 5)))
  (pss_cons (ps_if (pt_cmpR (op_neDK (K := K) rfl hr.units) (pv 2) (pe_lst pa_nil) (nomark _))
  (pss_one (ps_setLc (i := 4) (own := [("number", 5)]) rfl sc_nest.nd rfl rfl (sw_true rfl rfl rfl (by decide +kernel)) (pi_list (pv 4)) (blkOk_by (N := ["spans", "levels", "found", "level", "some", "number"]) (sc := defScope s_nest) (by decide +kernel)) (fun _ _ _ _ _ => (pg_name (i := 5) sc_nest.nd rfl (.inl rfl))) (fun _ _ _ _ _ => (pts_one (pt_val (pe_call (ok_under T) (hr.mono (by decide)) (by rfl) T.under.g T.under.F.kp T.under.b .nil pass0 (pa_cons (pv 0) (pa_cons (pv 5) (pa_cons (pe_ix (ix_listK (K := K) rfl) (pv 2) pe_int (fun _ _ => rfl)) pa_nil))))))) (fun _ _ _ _ _ => (pv 5))))
  pss_nil)
  (pss_one (ps_set (i := 2) sc_nest.nd rfl (.inr rfl) (pe_op op_catJ (pe_lst (pa_cons (pe_ix (ix_listK (K := K) rfl) (pv 4) pe_int (fun _ _ => rfl)) pa_nil)) (pv 2)))))))
  (pss_one (ps_ret (pe_tup (pa_cons (pv 2) (pa_cons (pv 1) pa_nil))))))))), ?_⟩
  try dsimp only [cx_K]
  obtain ⟨a, ss, rfl, hl, hn, hok, q⟩ := h
  refine ⟨_, rfl, a, ss, rfl, hl, hok, ?_⟩
  refine ⟨_, rfl, a, ss, rfl, hl, hn, fun H1 lo s1 n1 h1 => ?_⟩
  refine ⟨Nat.zero_le _, fun fo nf => ?_⟩
  obtain ⟨s2, h2⟩ := newF (o := .lst []) nf
  generalize upd H1 fo (.lst []) = H2 at s2 h2 ⊢
  have nfH : H fo = none := s1.free nf
  refine ⟨_, rfl, _, rfl, k_maxDef (d := -1) (m := maxOr (levelsOf ss)) (s2 _ _ h1) (fun e => by rw [e]; rfl) (fun z hz hy => (maxOr_eq hz (levels_nonneg ss) hy).symm) ?_⟩
  obtain ⟨b1, b2⟩ := maxOr_le ss
  generalize em : maxOr (levelsOf ss) = M at b1 b2 q ⊢
  obtain ⟨us, hu, ru⟩ := lsP_same (s1.trans s2) hl
  have h12 := s2 _ _ h1
  refine ⟨_, rfl, _, rfl, M, -1, -1, (M - -1).toNat, rfl, RgC.neg (by omega) (by omega) (by omega) (by omega), for_it (walk_rangeC (lo := M) (c := -1) (n := (M - -1).toNat))
    (fun i σ H' => ∃ (f : Addr) (ks : List Nat) (y3 y4 y5 : Option V), σ = [some (.ref a), some (.ref lo), some (.ref f), y3, y4, y5] ∧ Same H2 H' ∧ (f = fo ∨ H2 f = none) ∧ LsI H' f (natsI ks) ∧ ks.length = i ∧ ∀ k r, ks = k :: r → k < ss.length ∧ (levelsOf ss).getD k 0 = M - i + 1) ?_ (fun _ _ _ _ _ => trivial) ?_ ?_⟩
  · exact ⟨fo, [], none, none, none, rfl, Same.refl _, .inl rfl, h2, rfl, fun k r e => by cases e⟩
  · rintro i x σ _ H3 hi ⟨f, ks, y3, y4, y5, rfl, s3, hff, hf, hlk, hks⟩ ⟨rfl, rfl⟩
    have eM : M + (i : Int) * -1 = M - i := by omega
    show gName 3 (.int (M + (i : Int) * -1)) _ _ _
    rw [eM]
    have hM0 : 0 ≤ M - (i : Int) := by omega
    have hu3 := s3 _ _ hu
    have hlo3 := s3 _ _ h12
    have hl3 : LsP H3 a ss := ⟨us, hu3, ru.mono fun _ _ k => k.tp (tp_of s3)⟩
    have rest : ∀ (D : Ends) (H5 : Hp) (d : Addr) (l : List Nat) (y5 : Option V), (D.nx = fun σ H' => ∃ (f : Addr) (ks : List Nat) (y3 y4 y5 : Option V), σ = [some (.ref a), some (.ref lo), some (.ref f), y3, y4, y5] ∧ Same H2 H' ∧ (f = fo ∨ H2 f = none) ∧ LsI H' f (natsI ks) ∧ ks.length = i + 1 ∧ ∀ k r, ks = k :: r → k < ss.length ∧ (levelsOf ss).getD k 0 = M - ((i + 1 : Nat) : Int) + 1) →
        Same H3 H5 → LsI H5 d (natsI l) → l ≠ [] → (∀ k ∈ l, k < ss.length ∧ (levelsOf ss).getD k 0 = M - i) →
        tAsg (tOp jCat (tLst (tCons (tOp (rIxL K) (tVar 4) (tC (V.int 0))) tNil)) (tVar 2)) (gName 2) D [some (.ref a), some (.ref lo), some (.ref f), some (.int (M - i)), some (.ref d), y5] H5 := fun D H5 d l y5 eD s5 hd hl0 hlv => by
      obtain ⟨k0, r0, el⟩ := List.exists_cons_of_ne_nil hl0
      have e0 : ((natsI l).map V.int)[0]? = some (.int (k0 : Int)) := by rw [el]; rfl
      refine ⟨_, rfl, d, _, 0, _, rfl, rfl, SqL.of hd, atI_nat (j := 0) e0, by show 1 ≤ sizeLine; decide, fun z nz => ?_⟩
      obtain ⟨s6, h6⟩ := newF (o := .lst [.int (k0 : Int)]) nz
      generalize upd H5 z (.lst [.int (k0 : Int)]) = H6 at s6 h6 ⊢
      have hf6 := s6 _ _ (s5 _ _ hf)
      refine ⟨_, rfl, k_cat h6 hf6 (by simp only [List.length_singleton, List.length_map, nats_len]; omega) fun g H7 s7 n7 h7 => ?_⟩
      show D.nx _ _
      rw [eD]
      have s37 := (s5.trans s6).trans s7
      refine ⟨g, k0 :: ks, _, _, _, rfl, s3.trans s37, .inr ((s3.trans (s5.trans s6)).free n7), h7, by rw [List.length_cons, hlk], fun k r e => ?_⟩
      have e1 : k0 = k := (List.cons.inj e).1
      have := hlv k0 (by rw [el]; exact List.mem_cons_self)
      rw [← e1]
      refine ⟨this.1, this.2.trans (by omega)⟩
    refine ⟨_, rfl, a, us, rfl, .inl (SqL.of hu3), (us.length : Int), rfl, by omega, by rw [ru.len]; omega, ?_⟩
    rw [Int.toNat_natCast]
    intro D hD
    refine lc_rngF (fun j => decide ((levelsOf ss).getD j 0 = M - i)) (by rw [ru.len]; omega) hD (fun _ => rfl) (show 5 < 6 by decide) (fun j H4 hj s4 Kb hb => ?_) (fun H4 s4 h4 => ?_)
    · rw [ru.len] at hj
      have ej : ((levelsOf ss).map V.int)[j]? = some (.int ((levelsOf ss).getD j 0)) := by
        rw [List.getElem?_map, List.getD_eq_getElem?_getD, List.getElem?_eq_getElem (by rw [levels_len]; exact hj)]
        rfl
      have hlo4 := s4 _ _ hlo3
      refine ⟨_, rfl, _, rfl, lo, _, _, _, rfl, rfl, SqL.of hlo4, atI_nat ej, _, rfl, rfl, _, ?_, hb H4 (Same.refl _)⟩
      exact congrArg V.bl (decide_eq_decide.mpr ⟨fun z => V.int.inj z, fun z => by rw [z]⟩)
    · rw [ru.len] at h4
      have hf4 := s4 _ _ hf
      have hn4 : natsI ks = [] ↔ ks = [] := by
        unfold natsI
        exact List.map_eq_nil_iff
      refine ⟨_, rfl, k_neN dtI (int_ls hf4) fun p np => ⟨_, rfl, ?_⟩⟩
      obtain ⟨s5, h5⟩ := newF (o := .lst []) np
      generalize upd H4 p (.lst []) = H5 at s5 h5 ⊢
      have lv : ∀ k ∈ (List.range ss.length).filter (fun j => decide ((levelsOf ss).getD j 0 = M - i)), k < ss.length ∧ (levelsOf ss).getD k 0 = M - i := fun k hk => by
        obtain ⟨k1, k2⟩ := List.mem_filter.mp hk
        exact ⟨List.mem_range.mp k1, of_decide_eq_true k2⟩
      cases ks with
      | nil =>
        rw [decide_eq_true (hn4.mpr rfl)]
        refine iteF (rest _ H5 D _ _ rfl (s4.trans s5) (s5 _ _ h4) ?_ lv)
        obtain ⟨k, hk, ek⟩ := level_top ss (by rw [em]; omega)
        have : i = 0 := by simpa using hlk.symm
        subst this
        exact List.ne_nil_of_mem (List.mem_filter.mpr ⟨List.mem_range.mpr hk, decide_eq_true (by rw [ek, em]; simp)⟩)
      | cons k0 r0 =>
        rw [decide_eq_false (fun z => by have := hn4.mp z; cases this)]
        refine iteT ?_
        obtain ⟨hk0, hlv0⟩ := hks k0 r0 rfl
        have s45 := s4.trans s5
        refine ⟨_, rfl, D, rfl, ⟨_, SqL.of (s5 _ _ h4)⟩, fun D2 hD2 => lc_eachF In (fun _ h => h) (fun x => underB ss x.toNat k0) (s5 _ _ h4) (int_rows _) (by rw [nats_len]; have := List.length_filter_le (fun j => decide ((levelsOf ss).getD j 0 = M - i)) (List.range ss.length); rw [List.length_range] at this; omega) hD2 (fun _ => rfl) (show 5 < 6 by decide) (fun v x H6 hx s6 r Kb hb => ?_) (fun H6 s6 h6 => ?_)⟩
        · obtain ⟨k, hk, rfl⟩ := nats_mem hx
          have r : v = .int (k : Int) := r
          subst r
          have hf6 := s6 _ _ (s5 _ _ hf4)
          refine ⟨_, rfl, _, rfl, _, rfl, f, _, 0, _, rfl, rfl, SqL.of hf6, atI_nat (j := 0) rfl, a, ss, k, k0, rfl, lsP_same (s45.trans s6) hl3, (lv k hk).1, hk0, _, rfl, ?_⟩
          have := hb H6 (Same.refl _)
          rw [Int.toNat_natCast] at this
          exact this
        · have h6 := ls_int h6
          rw [nats_filter] at h6
          refine rest _ H6 D2 _ _ rfl (s45.trans s6) h6 ?_ (fun k hk => lv k (List.mem_filter.mp hk).1)
          obtain ⟨j, hj, hu, ej⟩ := level_down ss hk0 hlv0 hM0
          exact List.ne_nil_of_mem (List.mem_filter.mpr ⟨List.mem_filter.mpr ⟨List.mem_range.mpr hj, decide_eq_true ej⟩, by rw [Int.toNat_natCast]; exact hu⟩)
  · rintro σ H' ⟨f, ks, y3, y4, y5, rfl, s3, hff, hf, hlk, hks⟩
    refine ⟨_, rfl, _, rfl, by show 2 ≤ sizeLine; decide, fun t n7 => ?_⟩
    obtain ⟨s7, h7⟩ := newF (o := .tup [.ref f, .ref lo]) n7
    have sA := ((s1.trans s2).trans s3)
    exact q _ t f (.ref lo) (natsI ks) (sA.trans s7) (sA.free n7) h7 (s7 _ _ hf) (by rw [nats_len, hlk]; omega)
end

theorem k_in {K : PySem.W.Frag} {H : Hp} {a : Addr} {ns : List Int} {n : Int} {neg : Bool} {Q : VK} (h : LsI H a ns) (q : Q (.bl (if neg then !decide (n ∈ ns) else decide (n ∈ ns))) H) : jIn K neg (.int n) (.ref a) H Q := by
  have e : inV (.int n) (ns.map V.int) = decide (n ∈ ns) := by
    unfold inV
    rw [List.any_map]
    rw [Bool.eq_iff_iff, List.any_eq_true, decide_eq_true_iff]
    constructor
    · rintro ⟨x, hx, ex⟩
      have ex : (x == n) = true := ex
      rw [← eq_of_beq ex]
      exact hx
    · intro hx
      exact ⟨n, hx, (beq_self_eq_true n : _)⟩
  have f : (ns.map V.int).all flatV = true := by
    rw [List.all_map, List.all_eq_true]
    exact fun _ _ => rfl
  unfold jIn
  exact ⟨a, _, rfl, .inl (SqL.of h), rfl, f, by rw [e]; exact q⟩
theorem nats_in {l : List Nat} {x : Nat} : decide ((x : Int) ∈ natsI l) = decide (x ∈ l) := by
  refine decide_eq_decide.mpr ⟨fun h => ?_, fun h => List.mem_map.mpr ⟨x, h, rfl⟩⟩
  obtain ⟨k, hk, e⟩ := nats_mem h
  have : x = k := by omega
  rw [this]
  exact hk
def kvM (M : Mt) : List (Key × V) := M.map fun p => (Sum.inl (p.1 : Int), V.int (p.2 : Int))
theorem valM_some {M : Mt} (nd : (M.map (·.1)).Nodup) {r u : Nat} (h : (r, u) ∈ M) : valV (kvM M) (Sum.inl (r : Int)) = some (.int (u : Int)) := by
  induction M with
  | nil => exact (List.not_mem_nil h).elim
  | cons p M ih =>
    show valV ((Sum.inl (p.1 : Int), V.int (p.2 : Int)) :: kvM M) _ = _
    by_cases e : p.1 = r
    · have : p.2 = u := key_fun nd (List.mem_cons_self) (by rw [e]; exact h)
      rw [valV_pos (by show Sum.inl (p.1 : Int) = _; rw [e]), this]
    · rw [valV_neg (fun c => e (by have := Sum.inl.inj c; omega))]
      refine ih (List.nodup_cons.mp nd).2 ?_
      rcases List.mem_cons.mp h with c | c
      · exact (e (by rw [← c])).elim
      · exact c
theorem valM_none {M : Mt} {r : Nat} (h : ¬ ∃ x, (r, x) ∈ M) : valV (kvM M) (Sum.inl (r : Int)) = none := by
  induction M with
  | nil => rfl
  | cons p M ih =>
    show valV ((Sum.inl (p.1 : Int), V.int (p.2 : Int)) :: kvM M) _ = _
    rw [valV_neg (fun c => h ⟨p.2, by
      have : p.1 = r := by have := Sum.inl.inj c; omega
      rw [← this]
      exact List.mem_cons_self⟩)]
    exact ih fun ⟨x, hx⟩ => h ⟨x, List.mem_cons_of_mem _ hx⟩
theorem putM (M : Mt) (r l : Nat) : putK (kvM M) (Sum.inl (r : Int)) (.int (l : Int)) = kvM (mput M r l) := by
  have e : ((kvM M).any fun kv => decide (kv.1 = (Sum.inl (r : Int) : Key))) = M.any fun p => decide (p.1 = r) := by
    unfold kvM
    rw [List.any_map]
    congr 1
    funext p
    exact decide_eq_decide.mpr ⟨fun c => by have := Sum.inl.inj c; omega, fun c => by show Sum.inl (p.1 : Int) = _; rw [c]⟩
  unfold putK mput
  rw [e]
  by_cases c : (M.any fun p => decide (p.1 = r)) = true
  · rw [if_pos c, if_pos c]
    unfold kvM
    rw [List.map_map, List.map_map]
    refine List.map_congr_left fun p _ => ?_
    show (if (Sum.inl (p.1 : Int) : Key) = Sum.inl (r : Int) then _ else _) = _
    by_cases h : p.1 = r
    · rw [if_pos (by rw [h])]
      show _ = ((Sum.inl ((if p.1 = r then (p.1, l) else p).1 : Int), V.int ((if p.1 = r then (p.1, l) else p).2 : Int)) : Key × V)
      rw [if_pos h]
    · rw [if_neg fun c => h (by have := Sum.inl.inj c; omega)]
      show _ = ((Sum.inl ((if p.1 = r then (p.1, l) else p).1 : Int), V.int ((if p.1 = r then (p.1, l) else p).2 : Int)) : Key × V)
      rw [if_neg h]
  · rw [if_neg c, if_neg c]
    unfold kvM
    rw [List.map_append]
    rfl
theorem MOk.len {ss : List Spn} {M : Mt} (h : MOk ss M) : M.length ≤ ss.length := by
  have := len_sub (m := List.range ss.length) h.nd fun x hx => by
    obtain ⟨⟨r, l⟩, hm, e⟩ := List.mem_map.mp hx
    exact List.mem_range.mpr (by rw [← e]; exact (h.ed r l hm).1)
  rw [List.length_range, List.length_map] at this
  exact this
/-- all but two stand -/
def KeepB (H H' : Hp) (t d : Addr) : Prop := ∀ b o, b ≠ t → b ≠ d → H b = some o → H' b = some o
theorem KeepB.refl (H : Hp) (t d : Addr) : KeepB H H t d := fun _ _ _ _ h => h
theorem KeepB.trans {H H1 H2 : Hp} {t d : Addr} (a : KeepB H H1 t d) (b : KeepB H1 H2 t d) : KeepB H H2 t d := fun x o h1 h2 h => b x o h1 h2 (a x o h1 h2 h)
theorem KeepB.updT {H H1 : Hp} {t d : Addr} (a : KeepB H H1 t d) (o : HO) : KeepB H (upd H1 t o) t d := fun x u h1 h2 h => by
  rw [upd_ne h1]
  exact a x u h1 h2 h
theorem KeepB.updD {H H1 : Hp} {t d : Addr} (a : KeepB H H1 t d) (o : HO) : KeepB H (upd H1 d o) t d := fun x u h1 h2 h => by
  rw [upd_ne h2]
  exact a x u h1 h2 h
theorem KeepB.lsP {H H' : Hp} {t d a : Addr} {ss : List Spn} {xs : List V} {kvs : List (Key × V)} (k : KeepB H H' t d) (ht : H t = some (.lst xs)) (hd : H d = some (.dK kvs)) (ne : a ≠ t) (h : LsP H a ss) : LsP H' a ss := by
  obtain ⟨us, hu, ru⟩ := h
  refine ⟨us, k a _ ne (fun e => by rw [e, hd] at hu; cases hu) hu, ru.mono fun v x ⟨p, e, hp⟩ => ⟨p, e, k p _ (fun e => by rw [e, ht] at hp; cases hp) (fun e => by rw [e, hd] at hp; cases hp) hp⟩⟩
def sp_mf (f : Nat) : Sp := fun vs H Q _ => ∃ (a t d : Addr) (ss : List Spn) (T : List Nat) (M : Mt) (v : Nat), vs = [.ref a, .ref t, .ref d, .int (v : Int)] ∧ LsP H a ss ∧ a ≠ t ∧ LsI H t (natsI T) ∧ H d = some (.dK (kvM M)) ∧ MOk ss M ∧ T.Nodup ∧ (∀ x ∈ T, x < ss.length) ∧ v < ss.length ∧
  ss.length < T.length + f ∧ ss.length ≤ 16 ∧ (∀ H' T' M', KeepB H H' t d → LsI H' t (natsI T') → H' d = some (.dK (kvM M')) → MFt ss M M' T v → TExt ss T T' → Q (.bl true) H') ∧
  ∀ H' T', KeepB H H' t d → LsI H' t (natsI T') → H' d = some (.dK (kvM M)) → MFl ss M T T' v ss.length → Q (.bl false) H'
section
variable {P : Program} {w : World} {K : PySem.W.Frag} {mg : Str → Option Value} {base : Heap}
theorem ok_mf (T : Txt K mg) : ∀ f : Nat, FnOk P w K mg base CX0 (f + 3) T.may_follow.f T.may_follow.fd ["spans", "tried", "led", "number"] (sp_mf f)
  | 0 => T.may_follow.F.ok sc_may_follow (fun vs H Q E h => by obtain ⟨_, _, _, _, _, _, _, rfl, _⟩ := h; rfl) fun cdv A outer s H vs Q E hr h => by
    obtain ⟨a, t, d, ss, Td, M, v, rfl, _, _, _, _, ok, nd, lt, _, hf, _⟩ := h
    have := len_sub (m := List.range ss.length) nd fun x hx => List.mem_range.mpr (lt x hx)
    rw [List.length_range] at this
    omega
  | f + 1 => by
    have IH := ok_mf T f
    refine T.may_follow.F.ok sc_may_follow (fun vs H Q E h => by obtain ⟨_, _, _, _, _, _, _, rfl, _⟩ := h; rfl) fun cdv A outer s H vs Q E hr h => ?_
    refine ⟨_,
(pss_cons (ps_for PassesOwn.never rfl (pi_range1 (by rfl) T.b_range (pa_cons (pe_callB call_len_seq (by rfl) T.b_len PySem.boot_len (pa_cons (pv 0) pa_nil)) pa_nil)) (pg_name (i := 4) sc_may_follow.nd rfl (.inl rfl))
  (pss_one (ps_if (PW.pt (pw_and (pt_val (pe_call (ok_under T) (hr.mono (by omega)) (by rfl) T.under.g T.under.F.kp T.under.b .nil pass0 (pa_cons (pv 0) (pa_cons (pv 3) (pa_cons (pv 4) pa_nil))))) (pw_and1 (pt_cmpR (op_notInK (K := K) rfl) (pv 4) (pv 1) (by rfl)))))
  (pss_cons (ps_expr (pe_bm PySem.F.plainAttrs_list PySem.F.slot_list_append PySem.F.type_list_append mt_append (pv 1) (pa_cons (pv 4) pa_nil)))
  (pss_one (ps_if (PW.pt (pw_or (pt_cmp (pc_dnotin (hu_of hr) (pv 4) (pv 2))) (pw_or1 (pt_val (pe_call IH (hr.mono (by omega)) (by rfl) T.may_follow.g T.may_follow.F.kp T.may_follow.b .nil pass0 (pa_cons (pv 0) (pa_cons (pv 1) (pa_cons (pv 2) (pa_cons (pe_dget (hu_of hr) (pv 2) (pv 4) (fun _ _ => rfl)) pa_nil)))))))))
  (pss_cons (ps_dput (hu_of hr) (pv 2) (pv 4) (pv 3) rfl)
  (pss_one (ps_ret pe_bl)))
  pss_nil)))
  pss_nil)))
  (pss_one (ps_ret pe_bl)))
      , ?_⟩
    try dsimp only [cx_K]
    obtain ⟨a, t, d, ss, Td, M, v, rfl, hl, nat, ht, hd, ok, nd, lt, hv, hf, h16, qt, qf⟩ := h
    obtain ⟨us, hu, ru⟩ := id hl
    have ntd : t ≠ d := fun e => by
      have h1 : H t = some (.lst _) := ht
      rw [e, hd] at h1
      cases h1
    have hle : M.length ≤ ss.length := ok.len
    refine ⟨_, rfl, a, us, rfl, .inl (SqL.of hu), (us.length : Int), rfl, by omega, by rw [ru.len]; omega, ?_⟩
    rw [Int.toNat_natCast]
    refine for_it (walk_rg (n := us.length)) (fun j σ H' => ∃ y4 T1, σ = [some (.ref a), some (.ref t), some (.ref d), some (.int (v : Int)), y4] ∧ KeepB H H' t d ∧ LsI H' t (natsI T1) ∧ H' d = some (.dK (kvM M)) ∧ MFl ss M Td T1 v j) ⟨none, Td, rfl, KeepB.refl _ _ _, ht, hd, mfl_start nd lt⟩ (fun _ _ _ _ _ => trivial) ?_ ?_
    · rintro j x σ _ H1 hj ⟨y4, T1, rfl, k1, ht1, hd1, ml⟩ ⟨rfl, rfl⟩
      rw [ru.len] at hj
      have hl1 := k1.lsP ht hd nat hl
      refine ⟨_, rfl, _, rfl, _, rfl, a, ss, v, j, rfl, hl1, hv, hj, _, rfl, ?_⟩
      refine ifB (fun hb => ?_) (fun hb => ?_)
      · refine ⟨_, rfl, _, rfl, k_in ht1 ⟨_, rfl, ?_⟩⟩
        rw [nats_in]
        refine ifB (fun hn => ?_) (fun hn => ?_)
        · have hnj : j ∉ T1 := of_decide_eq_true (by simpa using hn)
          have hm0 : (T1.map Int.ofNat).map V.int = (natsI T1).map V.int := rfl
          refine ⟨_, rfl, .inl ⟨rfl, _, SqL.of ht1⟩, _, rfl, t, _, _, rfl, rfl, ht1, szt (by rw [List.length_map, nats_len]; have := ml.ext.len; omega), ?_⟩
          have ht2 : LsI (upd H1 t (.lst ((natsI T1).map V.int ++ [.int (j : Int)]))) t (natsI (T1 ++ [j])) := by
            show _ = some (HO.lst _)
            unfold natsI
            rw [List.map_append, List.map_append]
            exact upd_same
          have hd2 : (upd H1 t (.lst ((natsI T1).map V.int ++ [.int (j : Int)]))) d = _ := up_far ntd.symm hd1
          have k2 : KeepB H1 (upd H1 t (.lst ((natsI T1).map V.int ++ [.int (j : Int)]))) t d := (KeepB.refl H1 t d).updT _
          generalize upd H1 t (.lst ((natsI T1).map V.int ++ [.int (j : Int)])) = H2 at ht2 hd2 k2 ⊢
          have ext2 := ml.ext.push hj hnj
          by_cases hk : ∃ x, (j, x) ∈ M
          · obtain ⟨u, hu⟩ := hk
            have hv2 := valM_some ok.nd hu
            refine ⟨_, rfl, _, rfl, d, _, rfl, DGet.k (k := Sum.inl (j : Int)) hd2, _, rfl, ?_⟩
            rw [hv2]
            refine iteF ?_
            refine ⟨_, rfl, _, rfl, _, rfl, _, rfl, _, rfl, d, _, rfl, (by have := DGet.k (k := Sum.inl (j : Int)) hd2; rw [hv2] at this; exact this), ?_⟩
            have elen : (T1 ++ [j]).length = T1.length + 1 := by simp
            have := len_sub nd ml.ext.sub
            refine ⟨a, t, d, ss, T1 ++ [j], M, u, rfl, k2.lsP ht1 hd1 nat hl1, nat, ht2, hd2, ok, ext2.nd, ext2.lt, (ok.ed j u hu).2.1, by omega, h16, fun H3 T3 M3 k3 ht3 hd3 mt te => ⟨_, rfl, ?_⟩, fun H3 T3 k3 ht3 hd3 mf => ⟨_, rfl, ?_⟩⟩
            · refine iteT ?_
              have hle3 : M3.length ≤ ss.length := mt.ok.len
              refine ⟨_, rfl, _, rfl, _, rfl, d, _, rfl, DPut.k (k := Sum.inl (j : Int)) hd3 (szt (by unfold kvM; rw [List.length_map]; omega)), ?_⟩
              rw [putM]
              refine qt _ T3 (mput M3 j v) (((k1.trans k2).trans k3).updD _) (up_far ntd ht3) upd_same ((mf_rec ok hv hj hb hu hnj mt).down ml.ext.sub) (ext2.trans te)
            · refine iteF ?_
              exact ⟨_, T3, rfl, (k1.trans k2).trans k3, ht3, hd3, mfl_rec ml hj hnj hu mf⟩
          · have hv2 := valM_none hk
            refine ⟨_, rfl, _, rfl, d, _, rfl, DGet.k (k := Sum.inl (j : Int)) hd2, _, rfl, ?_⟩
            rw [hv2]
            refine iteT (iteT ?_)
            refine ⟨_, rfl, _, rfl, _, rfl, d, _, rfl, DPut.k (k := Sum.inl (j : Int)) hd2 (szt (by unfold kvM; rw [List.length_map]; omega)), ?_⟩
            rw [putM]
            exact qt _ (T1 ++ [j]) (mput M j v) ((k1.trans k2).updD _) (up_far ntd ht2) upd_same ((mf_new ok hv hj hb hk hnj).down ml.ext.sub) ext2
        · refine ⟨_, T1, rfl, k1, ht1, hd1, mfl_skip ml fun _ => ?_⟩
          by_cases c : j ∈ T1
          · exact c
          · rw [decide_eq_false c] at hn
            cases hn
      · refine ⟨_, _, rfl, k1, ht1, hd1, mfl_skip ml fun c => ?_⟩
        rw [hb] at c
        cases c
    · rintro σ H' ⟨y4, T1, rfl, k1, ht1, hd1, ml⟩
      rw [ru.len] at ml
      exact qf H' T1 k1 ht1 hd1 ml
def sp_may_follow : Sp := sp_mf 17
theorem ok_may_follow (T : Txt K mg) : FnOk P w K mg base CX0 20 T.may_follow.f T.may_follow.fd ["spans", "tried", "led", "number"] sp_may_follow := ok_mf T 17
def sp_followers : Sp := fun vs H Q _ => ∃ (a : Addr) (ss : List Spn), vs = [.ref a] ∧ LsP H a ss ∧ ss.length ≤ 16 ∧ ∀ H' p M, Same H H' → H p = none → H' p = some (.dK (kvM M)) → FM ss M ss.length → Q (.ref p) H'
theorem ok_followers (T : Txt K mg) : FnOk P w K mg base CX0 21 T.followers.f T.followers.fd ["spans"] sp_followers := by
  refine T.followers.F.ok sc_followers (fun vs H Q E h => ?_) (fun cdv A outer s H vs Q E hr h => ?_)
  · first | (obtain ⟨_, rfl, _⟩ := h; rfl) | (obtain ⟨_, _, rfl, _⟩ := h; rfl) | (obtain ⟨_, _, _, rfl, _⟩ := h; rfl) | (obtain ⟨_, _, _, _, rfl, _⟩ := h; rfl) | (obtain ⟨_, _, _, _, _, rfl, _⟩ := h; rfl) | (obtain ⟨_, _, _, _, _, _, rfl, _⟩ := h; rfl) | (obtain ⟨_, _, _, _, _, _, _, rfl, _⟩ := h; rfl) | (obtain ⟨_, _, _, _, _, _, _, _, rfl, _⟩ := h; rfl) | (obtain ⟨_, _, _, _, _, _, _, _, _, rfl, _⟩ := h; rfl) | (obtain ⟨_, _, _, _, _, _, _, _, _, _, rfl, _⟩ := h; rfl) | (obtain ⟨_, _, _, _, _, _, _, _, _, _, _, rfl, _⟩ := h; rfl)
  refine ⟨_, (pss_cons (ps_set (i := 1) sc_followers.nd rfl (.inl rfl) pe_dnewK)
  (pss_cons (ps_for PassesOwn.never rfl (pi_range1 (by rfl) T.b_range (pa_cons (pe_callB call_len_seq (by rfl) T.b_len PySem.boot_len (pa_cons (pv 0) pa_nil)) pa_nil)) (pg_name (i := 2) sc_followers.nd rfl (.inl rfl))
  (pss_one (ps_expr (pe_call (ok_may_follow T) (hr.mono (by decide)) (by rfl) T.may_follow.g T.may_follow.F.kp T.may_follow.b .nil pass0 (pa_cons (pv 0) (pa_cons (pe_lst pa_nil) (pa_cons (pv 1) (pa_cons (pv 2) pa_nil))))))))
  (pss_one (ps_ret (pv 1))))), ?_⟩
  try dsimp only [cx_K]
  obtain ⟨a, ss, rfl, hl, hn, q⟩ := h
  intro p np
  obtain ⟨s1, hp⟩ := newF (o := .dK []) np
  generalize upd H p (.dK []) = H1 at s1 hp ⊢
  obtain ⟨us, hu, ru⟩ := id hl
  refine ⟨_, rfl, a, us, rfl, .inl (SqL.of (s1 _ _ hu)), (us.length : Int), rfl, by omega, by rw [ru.len]; omega, ?_⟩
  rw [Int.toNat_natCast]
  refine for_it (walk_rg (n := us.length)) (fun i σ H' => ∃ y2 M, σ = [some (.ref a), some (.ref p), y2] ∧ Same H H' ∧ H' p = some (.dK (kvM M)) ∧ FM ss M i) ⟨none, [], rfl, s1, hp, fm_start ss⟩ (fun _ _ _ _ _ => trivial) ?_ ?_
  · rintro i x σ _ H3 hi ⟨y2, M, rfl, s3, hp3, fm⟩ ⟨rfl, rfl⟩
    rw [ru.len] at hi
    refine ⟨_, rfl, Nat.zero_le _, fun t nt => ?_⟩
    obtain ⟨s4, ht⟩ := newF (o := .lst []) nt
    generalize upd H3 t (.lst []) = H4 at s4 ht ⊢
    have hl4 := lsP_same (s3.trans s4) hl
    have ht4 : LsI H4 t (natsI []) := ht
    have nat : a ≠ t := ne_of_none (s3 _ _ hu) nt
    have ext : ∀ H', KeepB H4 H' t p → Same H H' := fun H' k b o hb => k b o (ne_of_none (s3 _ _ hb) nt) (ne_of_none hb np) ((s3.trans s4) _ _ hb)
    refine ⟨_, rfl, _, rfl, a, t, p, ss, [], M, i, rfl, hl4, nat, ht4, s4 _ _ hp3, fm.ok, List.nodup_nil, fun x h => (List.not_mem_nil h).elim, hi, by show ss.length < 0 + 17; omega, hn, fun H' T' M' k _ hd mt _ => ?_, fun H' T' k _ hd mf => ?_⟩
    · exact ⟨_, M', rfl, ext H' k, hd, fm_true fm mt⟩
    · exact ⟨_, M, rfl, ext H' k, hd, fm_false fm mf⟩
  · rintro σ H' ⟨y2, M, rfl, s3, hp3, fm⟩
    rw [ru.len] at fm
    exact ⟨_, rfl, q H' p M s3 np hp3 fm⟩
def sp_come_to : Sp := fun vs H Q _ => ∃ (a p : Addr) (ss : List Spn) (M : Mt), vs = [.ref a, .ref p] ∧ LsP H a ss ∧ ss.length ≤ 16 ∧ H p = some (.dK (kvM M)) ∧ FM ss M ss.length ∧
  ∀ H' t f r F R C i j, Same H H' → H t = none → H' t = some (.tup [.ref f, .ref r]) → LsI H' f (natsI F) → LsI H' r (natsI R) → CT ss M C F R i j → Closed ss M C → F.length ≤ i → Q (.ref t) H'
theorem kvM_vals (M : Mt) : (kvM M).map (·.2) = (natsI (M.map (·.2))).map V.int := by
  unfold kvM natsI
  rw [List.map_map, List.map_map, List.map_map]
  rfl
theorem nats_at {l : List Nat} {i k : Nat} (h : l[i]? = some k) : ((natsI l).map V.int)[i]? = some (.int (k : Int)) := by
  unfold natsI
  rw [List.getElem?_map, List.getElem?_map, h]
  rfl
theorem nats_snoc (l : List Nat) (k : Nat) : (natsI (l ++ [k])).map V.int = (natsI l).map V.int ++ [.int (k : Int)] := by
  unfold natsI
  rw [List.map_append, List.map_append]
  rfl
theorem ok_come_to (T : Txt K mg) : FnOk P w K mg base CX0 3 T.come_to.f T.come_to.fd ["spans", "led"] sp_come_to := by
  refine T.come_to.F.ok sc_come_to (fun vs H Q E h => ?_) (fun cdv A outer s H vs Q E hr h => ?_)
  · first | (obtain ⟨_, rfl, _⟩ := h; rfl) | (obtain ⟨_, _, rfl, _⟩ := h; rfl) | (obtain ⟨_, _, _, rfl, _⟩ := h; rfl) | (obtain ⟨_, _, _, _, rfl, _⟩ := h; rfl) | (obtain ⟨_, _, _, _, _, rfl, _⟩ := h; rfl) | (obtain ⟨_, _, _, _, _, _, rfl, _⟩ := h; rfl) | (obtain ⟨_, _, _, _, _, _, _, rfl, _⟩ := h; rfl) | (obtain ⟨_, _, _, _, _, _, _, _, rfl, _⟩ := h; rfl) | (obtain ⟨_, _, _, _, _, _, _, _, _, rfl, _⟩ := h; rfl) | (obtain ⟨_, _, _, _, _, _, _, _, _, _, rfl, _⟩ := h; rfl) | (obtain ⟨_, _, _, _, _, _, _, _, _, _, _, rfl, _⟩ := h; rfl)
  refine ⟨_, (pss_cons (ps_set (i := 2) sc_come_to.nd rfl (.inr rfl) (pe_callTy (call_list_values rfl) (by rfl) T.b_list (by decide +kernel) (pa_cons (pe_values (pv 1)) pa_nil)))
  (pss_cons (ps_setLc (i := 3) (own := [("number", 7)]) rfl sc_come_to.nd rfl rfl (sw_true rfl rfl rfl (by decide +kernel)) (pi_range1 (by rfl) T.b_range (pa_cons (pe_callB call_len_seq (by rfl) T.b_len PySem.boot_len (pa_cons (pv 0) pa_nil)) pa_nil)) (blkOk_by (N := ["spans", "led", "going", "found", "reached", "at", "other", "number"]) (sc := defScope s_come_to) (by decide +kernel)) (fun _ _ _ _ _ => (pg_name (i := 7) sc_come_to.nd rfl (.inl rfl))) (fun _ _ _ _ _ => (pts_one (pt_cmpR (op_notInK (K := K) rfl) (pv 7) (pv 2) (by rfl)))) (fun _ _ _ _ _ => (pv 7)))
  (pss_cons (ps_set (i := 4) sc_come_to.nd rfl (.inl rfl) (pe_lst pa_nil))
  (pss_cons (ps_set (i := 5) sc_come_to.nd rfl (.inl rfl) pe_int)
  (pss_cons (ps_while PassesOwn.never (pt_cmpR op_lt (pv 5) (pe_callB call_len_seq (by rfl) T.b_len PySem.boot_len (pa_cons (pv 3) pa_nil)) (nomark _))
  (pss_cons (ps_for PassesOwn.never rfl (pi_range1 (by rfl) T.b_range (pa_cons (pe_callB call_len_seq (by rfl) T.b_len PySem.boot_len (pa_cons (pv 0) pa_nil)) pa_nil)) (pg_name (i := 6) sc_come_to.nd rfl (.inl rfl))
  (pss_one (ps_if (PW.pt (pw_and (pt_val (pe_call (ok_under T) (hr.mono (by decide)) (by rfl) T.under.g T.under.F.kp T.under.b .nil pass0 (pa_cons (pv 0) (pa_cons (pe_ix (ix_listK (K := K) rfl) (pv 3) (pv 5) (fun _ _ => rfl)) (pa_cons (pv 6) pa_nil))))) (pw_and1 (pt_cmpR (op_notInK (K := K) rfl) (pv 6) (pv 4) (by rfl)))))
  (pss_cons (ps_expr (pe_bm PySem.F.plainAttrs_list PySem.F.slot_list_append PySem.F.type_list_append mt_append (pv 4) (pa_cons (pv 6) pa_nil)))
  (pss_one (ps_if (pt_cmpR (op_notInK (K := K) rfl) (pe_dget (hu_of hr) (pv 1) (pv 6) (fun _ _ => rfl)) (pv 3) (by rfl))
  (pss_one (ps_expr (pe_bm PySem.F.plainAttrs_list PySem.F.slot_list_append PySem.F.type_list_append mt_append (pv 3) (pa_cons (pe_dget (hu_of hr) (pv 1) (pv 6) (fun _ _ => rfl)) pa_nil))))
  pss_nil)))
  pss_nil)))
  (pss_one (ps_aug (i := 5) sc_come_to.nd rfl (.inl rfl) pe_int ip_add))))
  (pss_one (ps_ret (pe_tup (pa_cons (pv 3) (pa_cons (pv 4) pa_nil)))))))))), ?_⟩
  try dsimp only [cx_K]
  obtain ⟨a, p, ss, M, rfl, hl, hn, hp, fm, q⟩ := h
  obtain ⟨us, hu, ru⟩ := id hl
  obtain ⟨C, hC, hf⟩ := fm.cl
  have hM := fm.len (Nat.le_refl _)
  refine ⟨_, rfl, p, _, rfl, hp, fun w1 n1 => ⟨w1, p, _, rfl, upd_same, up_old n1 hp, fun g ng => ?_⟩⟩
  have s1 : Same H (upd H w1 (viewV w1 p)) := sm_new n1
  obtain ⟨s2, hg⟩ := newF (o := .lst ((kvM M).map (·.2))) ng
  rw [kvM_vals] at hg s2 ⊢
  generalize upd (upd H w1 (viewV w1 p)) g (.lst ((natsI (M.map (·.2))).map V.int)) = H2 at s2 hg ⊢
  have s02 := s1.trans s2
  clear s1 s2 ng n1
  have hg : LsI H2 g (natsI (M.map (·.2))) := hg
  refine ⟨_, rfl, a, us, rfl, .inl (SqL.of (s02 _ _ hu)), (us.length : Int), rfl, by omega, by rw [ru.len]; omega, ?_⟩
  rw [Int.toNat_natCast]
  intro D hD
  refine lc_rngF (isFree M) (by rw [ru.len]; omega) hD (fun _ => rfl) (show 7 < 8 by decide) (fun j H4 hj s4 Kb hb => ?_) (fun H4 s4 h4 => ?_)
  · refine ⟨_, rfl, _, rfl, k_in (s4 _ _ hg) ⟨_, rfl, ?_⟩⟩
    rw [nats_in]
    have e : (if true = true then !decide (j ∈ M.map (·.2)) else decide (j ∈ M.map (·.2))) = isFree M j := by
      unfold isFree
      rw [if_pos rfl]
      by_cases c : j ∈ M.map (·.2) <;> simp [c]
    rw [e]
    exact hb H4 (Same.refl _)
  rw [ru.len] at h4
  have h4 : LsI H4 D (natsI (free ss M)) := h4
  have s04 := s02.trans s4
  have nfD : H D = none := s02.free hD
  refine ⟨Nat.zero_le _, fun r nr => ?_⟩
  obtain ⟨s5, hr5⟩ := newF (o := .lst []) nr
  have nDr : D ≠ r := ne_of_none h4 nr
  have nfr : H r = none := s04.free nr
  generalize upd H4 r (.lst []) = H5 at s5 hr5 ⊢
  have flen : (free ss M).length ≤ ss.length := cnt_le _ _
  refine ⟨fun m σ H' => ∃ i F R y6 y7, m + i = (free ss M).length + ss.length ∧ σ = [some (.ref a), some (.ref p), some (.ref g), some (.ref D), some (.ref r), some (.int (i : Int)), y6, y7] ∧ Same H H' ∧ LsI H' D (natsI F) ∧ LsI H' r (natsI R) ∧ CT ss M C F R i 0, ⟨(free ss M).length + ss.length, 0, free ss M, [], none, none, rfl, rfl, s04.trans s5, s5 _ _ h4, hr5, ct_start ss M C⟩, ?_⟩
  rintro m σ H6 ⟨i, F, R, y6, y7, hm, rfl, s6, hF, hR, ct⟩
  have lF := ct.len
  have lR := ct.lenR
  refine ⟨_, rfl, _, rfl, D, _, rfl, .inl (SqL.of hF), _, _, rfl, rfl, _, rfl, ?_⟩
  rw [List.length_map, nats_len]
  refine ifD (fun hlt => ?_) (fun hge => ?_)
  · have hi : i < F.length := by omega
    obtain ⟨x, hx⟩ : ∃ x, F[i]? = some x := ⟨_, List.getElem?_eq_getElem hi⟩
    have hxn : x < ss.length := by
      rcases (ct.mem x).mp (List.mem_of_getElem? hx) with h | ⟨o, _, h⟩
      · exact (mem_free.mp h).1
      · exact (fm.ok.ed o x h).2.1
    refine ⟨_, fun σ' H' h => ⟨m - 1, by omega, h⟩, ?_⟩
    refine ⟨_, rfl, a, us, rfl, .inl (SqL.of (s6 _ _ hu)), (us.length : Int), rfl, by omega, by rw [ru.len]; omega, ?_⟩
    rw [Int.toNat_natCast]
    refine for_it (walk_rg (n := us.length)) (fun j σ H' => ∃ F R y6, σ = [some (.ref a), some (.ref p), some (.ref g), some (.ref D), some (.ref r), some (.int (i : Int)), y6, y7] ∧ F[i]? = some x ∧ Same H H' ∧ LsI H' D (natsI F) ∧ LsI H' r (natsI R) ∧ CT ss M C F R i j) ⟨F, R, y6, rfl, hx, s6, hF, hR, ct⟩ (fun _ _ _ _ _ => trivial) ?_ ?_
    · clear hF hR ct lF lR hi hlt hx F R
      rintro j x0 σ _ H7 hj ⟨F, R, y6, rfl, hx, s7, hF, hR, ct⟩ ⟨rfl, rfl⟩
      rw [ru.len] at hj
      have lF := ct.len
      have lR := ct.lenR
      refine ⟨_, rfl, _, rfl, _, rfl, D, _, _, _, rfl, rfl, SqL.of hF, atI_nat (nats_at hx), _, rfl, a, ss, x, j, rfl, lsP_same s7 hl, hxn, hj, _, rfl, ?_⟩
      refine ifB (fun hb => ?_) (fun hb => ?_)
      · refine ⟨_, rfl, _, rfl, k_in hR ⟨_, rfl, ?_⟩⟩
        rw [nats_in]
        refine ifB (fun hnn => ?_) (fun hnn => ?_)
        · have hnj : j ∉ R := of_decide_eq_true (by simpa using hnn)
          have cj := ct_in fm ct (List.mem_of_getElem? hx) hC hf hj hb
          obtain ⟨y, hy, _⟩ := hC j cj
          refine ⟨_, rfl, .inl ⟨rfl, _, SqL.of hR⟩, _, rfl, r, _, _, rfl, rfl, hR, szt (by rw [List.length_map, nats_len]; omega), ?_⟩
          rw [← nats_snoc]
          have hR8 : LsI (upd H7 r (.lst ((natsI (R ++ [j])).map V.int))) r (natsI (R ++ [j])) := upd_same
          have hF8 : LsI (upd H7 r (.lst ((natsI (R ++ [j])).map V.int))) D (natsI F) := up_far nDr hF
          have s8 := sm_mut (o := .lst ((natsI (R ++ [j])).map V.int)) s7 nfr
          generalize upd H7 r (.lst ((natsI (R ++ [j])).map V.int)) = H8 at hR8 hF8 s8 ⊢
          have hv := valM_some fm.ok.nd hy
          have dg : ∀ H', Same H H' → DGet H' p (.int (j : Int)) (some (.int (y : Int))) := fun H' s => by
            have := DGet.k (k := Sum.inl (j : Int)) (s _ _ hp)
            rw [hv] at this
            exact this
          refine ⟨_, rfl, _, rfl, p, _, rfl, dg _ s8, _, rfl, k_in hF8 ⟨_, rfl, ?_⟩⟩
          rw [nats_in, if_pos rfl, decide_eq_false (ct.fresh fm hnj hy)]
          refine iteT ?_
          refine ⟨_, rfl, .inl ⟨rfl, _, SqL.of hF8⟩, _, rfl, _, rfl, p, _, rfl, dg _ s8, D, _, _, rfl, rfl, hF8, szt (by rw [List.length_map, nats_len]; omega), ?_⟩
          rw [← nats_snoc]
          exact ⟨F ++ [y], R ++ [j], _, rfl, by rw [List.getElem?_append_left (List.getElem?_eq_some_iff.mp hx).1]; exact hx, sm_mut s8 nfD, upd_same, up_far nDr.symm hR8, ct.add hj hx hb hnj hy fm.ok.nd cj⟩
        · refine ⟨F, R, _, rfl, hx, s7, hF, hR, ct.skip hx fun _ => ?_⟩
          by_cases c : j ∈ R
          · exact c
          · rw [decide_eq_false c] at hnn
            cases hnn
      · refine ⟨F, R, _, rfl, hx, s7, hF, hR, ct.skip hx fun c => ?_⟩
        rw [hb] at c
        cases c
    · rintro σ H' ⟨F', R', y6, rfl, hx', s7, hF', hR', ct'⟩
      rw [ru.len] at ct'
      refine ⟨_, rfl, _, _, rfl, rfl, i + 1, F', R', y6, y7, by omega, rfl, s7, hF', hR', ct'.all (Nat.le_refl _)⟩
  · refine ⟨_, rfl, _, rfl, by show 2 ≤ sizeLine; decide, fun t n7 => ?_⟩
    obtain ⟨s7, h7⟩ := newF (o := .tup [.ref D, .ref r]) n7
    exact q _ t D r F R C i 0 (s6.trans s7) (s6.free n7) h7 (s7 _ _ hF) (s7 _ _ hR) ct hC (by omega)
def sp_nests_of : Sp := fun vs H Q _ => ∃ (a p : Addr) (ss : List Spn) (M : Mt), vs = [.ref a, .ref p] ∧ LsP H a ss ∧ ss.length ≤ 16 ∧ H p = some (.dK (kvM M)) ∧ FM ss M ss.length ∧ ∀ H' t, Same H H' → H t = none → Q (.ref t) H'
/-- a new pair of a list of as many as are loose, and something -/
def sp_loose : Sp := fun vs H Q _ => ∃ (a : Addr) (ss : List Spn), vs = [.ref a] ∧ LsP H a ss ∧ ss.length ≤ 16 ∧ (∀ s ∈ ss, okS s) ∧ ∀ H' t p v ns, Same H H' → H t = none → H' t = some (.tup [.ref p, v]) → LsI H' p ns → IsDef ss ns.length → Q (.ref t) H'
/-- the rows of nests as they grow: each its own list, a climbing chain -/
def NRow (ss : List Spn) (H : Hp) (p : Addr) : Prop := ∃ (m : List Nat) (x : Nat), LsI H p (natsI (m ++ [x])) ∧ x < ss.length ∧ m.length + rank ss x ≤ ss.length
theorem NRow.same {ss : List Spn} {H H' : Hp} {p : Addr} (s : Same H H') (h : NRow ss H p) : NRow ss H' p := let ⟨m, x, a, b, c⟩ := h; ⟨m, x, s _ _ a, b, c⟩
theorem NRow.at {ss : List Spn} {H H' : Hp} {p : Addr} (s : H' p = H p) (h : NRow ss H p) : NRow ss H' p := let ⟨m, x, a, b, c⟩ := h; ⟨m, x, s.trans a, b, c⟩
theorem ok_nests_of (T : Txt K mg) : FnOk P w K mg base CX0 1 T.nests_of.f T.nests_of.fd ["spans", "led"] sp_nests_of := by
  refine T.nests_of.F.ok sc_nests_of (fun vs H Q E h => ?_) (fun cdv A outer s H vs Q E hr h => ?_)
  · first | (obtain ⟨_, rfl, _⟩ := h; rfl) | (obtain ⟨_, _, rfl, _⟩ := h; rfl) | (obtain ⟨_, _, _, rfl, _⟩ := h; rfl) | (obtain ⟨_, _, _, _, rfl, _⟩ := h; rfl) | (obtain ⟨_, _, _, _, _, rfl, _⟩ := h; rfl) | (obtain ⟨_, _, _, _, _, _, rfl, _⟩ := h; rfl) | (obtain ⟨_, _, _, _, _, _, _, rfl, _⟩ := h; rfl) | (obtain ⟨_, _, _, _, _, _, _, _, rfl, _⟩ := h; rfl) | (obtain ⟨_, _, _, _, _, _, _, _, _, rfl, _⟩ := h; rfl) | (obtain ⟨_, _, _, _, _, _, _, _, _, _, rfl, _⟩ := h; rfl) | (obtain ⟨_, _, _, _, _, _, _, _, _, _, _, rfl, _⟩ := h; rfl)
  refine ⟨_, (pss_cons (ps_set (i := 2) sc_nests_of.nd rfl (.inl rfl) (pe_lst pa_nil))
  (pss_cons (ps_for PassesOwn.never rfl (pi_range1 (by rfl) T.b_range (pa_cons (pe_callB call_len_seq (by rfl) T.b_len PySem.boot_len (pa_cons (pv 0) pa_nil)) pa_nil)) (pg_name (i := 3) sc_nests_of.nd rfl (.inl rfl))
  (pss_one (ps_if (pt_cmp (pc_dnotin (hu_of hr) (pv 3) (pv 1)))
  (pss_one (ps_expr (pe_bm PySem.F.plainAttrs_list PySem.F.slot_list_append PySem.F.type_list_append mt_append (pv 2) (pa_cons (pe_lst (pa_cons (pv 3) pa_nil)) pa_nil))))
  pss_nil)))
  (pss_cons (ps_set (i := 4) sc_nests_of.nd rfl (.inl rfl) pe_dnewK)
  (pss_cons (ps_lock (ps_for PassesOwn.never rfl (pi_keys (pv 1)) (pg_name (i := 5) sc_nests_of.nd rfl (.inl rfl))
  (pss_one (ps_dput (hu_of hr) (pv 4) (pe_dget (hu_of hr) (pv 1) (pv 5) (fun _ _ => rfl)) (pv 5) rfl))))
  (pss_cons (ps_for PassesOwn.never rfl (pi_list (pv 2)) (pg_name (i := 6) sc_nests_of.nd rfl (.inl rfl))
  (pss_one (ps_while PassesOwn.never (pt_cmp (pc_din (hu_of hr) (pe_ix (ix_listK (K := K) rfl) (pv 6) (pe_un un_neg pe_int) (fun _ _ => rfl)) (pv 4)))
  (pss_one (ps_expr (pe_bm PySem.F.plainAttrs_list PySem.F.slot_list_append PySem.F.type_list_append mt_append (pv 6) (pa_cons (pe_dget (hu_of hr) (pv 4) (pe_ix (ix_listK (K := K) rfl) (pv 6) (pe_un un_neg pe_int) (fun _ _ => rfl)) (fun _ _ => rfl)) pa_nil)))))))
  (pss_one (ps_ret (pv 2)))))))), ?_⟩
  try dsimp only [cx_K]
  obtain ⟨a, p, ss, M, rfl, hl, hn, hp, fm, q⟩ := h
  obtain ⟨us, hu, ru⟩ := id hl
  have hM := fm.len (Nat.le_refl _)
  refine ⟨Nat.zero_le _, fun f nf => ?_⟩
  obtain ⟨s1, h1⟩ := newF (o := .lst []) nf
  generalize upd H f (.lst []) = H1 at s1 h1 ⊢
  refine ⟨_, rfl, a, us, rfl, .inl (SqL.of (s1 _ _ hu)), (us.length : Int), rfl, by omega, by rw [ru.len]; omega, ?_⟩
  rw [Int.toNat_natCast]
  refine for_it (walk_rg (n := us.length)) (fun i σ H' => ∃ y3 bs, σ = [some (.ref a), some (.ref p), some (.ref f), y3, none, none, none] ∧ Same H H' ∧ H' f = some (.lst (bs.map V.ref)) ∧ bs.length ≤ i ∧ ∀ b ∈ bs, H b = none ∧ b ≠ f ∧ NRow ss H' b) ⟨none, [], rfl, s1, h1, Nat.le_refl _, fun b h => (List.not_mem_nil h).elim⟩ (fun _ _ _ _ _ => trivial) ?_ ?_
  · rintro i x σ _ H3 hi ⟨y3, bs, rfl, s3, h3, la, ha⟩ ⟨rfl, rfl⟩
    rw [ru.len] at hi
    refine ⟨_, rfl, _, rfl, p, _, rfl, DGet.k (k := Sum.inl (i : Int)) (s3 _ _ hp), _, rfl, ?_⟩
    by_cases hk : ∃ x, (i, x) ∈ M
    · obtain ⟨u, hu⟩ := hk
      rw [valM_some fm.ok.nd hu]
      exact iteF ⟨_, bs, rfl, s3, h3, by omega, ha⟩
    · rw [valM_none hk]
      refine iteT ?_
      refine ⟨_, rfl, .inl ⟨rfl, _, SqL.of h3⟩, _, rfl, by show 1 ≤ sizeLine; decide, fun z nz => ?_⟩
      obtain ⟨s4, h4⟩ := newF (o := .lst [.int (i : Int)]) nz
      generalize upd H3 z (.lst [.int (i : Int)]) = H4 at s4 h4 ⊢
      have nzf : z ≠ f := (ne_of_none h3 nz).symm
      refine ⟨f, _, _, rfl, rfl, s4 _ _ h3, szt (by rw [List.length_map]; omega), ?_⟩
      have sf := sm_mut (o := .lst (bs.map V.ref ++ [.ref z])) (s3.trans s4) nf
      refine ⟨_, bs ++ [z], rfl, sf, by rw [List.map_append]; exact upd_same, by rw [List.length_append, List.length_singleton]; omega, fun b hb => ?_⟩
      rcases List.mem_append.mp hb with h | h
      · obtain ⟨x1, x2, x3⟩ := ha b h
        exact ⟨x1, x2, (x3.same s4).at (upd_ne x2)⟩
      · have : b = z := by simpa using h
        subst this
        refine ⟨s3.free nz, nzf, NRow.at (upd_ne nzf) ⟨[], i, h4, hi, ?_⟩⟩
        rw [List.length_nil, Nat.zero_add]
        exact cnt_le _ _
  · rintro σ H3 ⟨y3, bs, rfl, s3, h3, la, ha⟩
    intro g ng
    obtain ⟨s4, h4⟩ := newF (o := .dK []) ng
    have h4 : upd H3 g (.dK []) g = some (.dK (kvM [])) := h4
    have ngp : g ≠ p := (ne_of_none (s3 _ _ hp) ng).symm
    have ngf : g ≠ f := (ne_of_none h3 ng).symm
    have ngH := s3.free ng
    have ngb : ∀ b ∈ bs, b ≠ g := fun b hb => by
      obtain ⟨_, _, m, x, e, _⟩ := ha b hb
      exact ne_of_none e ng
    replace ha : ∀ b ∈ bs, H b = none ∧ b ≠ f ∧ b ≠ g ∧ NRow ss (upd H3 g (.dK [])) b := fun b hb => ⟨(ha b hb).1, (ha b hb).2.1, ngb b hb, (ha b hb).2.2.same s4⟩
    generalize upd H3 g (.dK []) = H4 at s4 h4 ha ⊢
    have hp4 := (s3.trans s4) _ _ hp
    have h34 := s4 _ _ h3
    refine ⟨p, _, hp4, trivial, fun od => ?_⟩
    have nbp : ∀ b, H b = none → b ≠ p := fun b hb e => by rw [e, hp] at hb; cases hb
    have hfr : upd H4 p (.frz od (.dK (kvM M))) p = some (.frz od (.dK (kvM M))) := upd_same
    have kp : ∀ b, b ≠ p → upd H4 p (.frz od (.dK (kvM M))) b = H4 b := fun b hb => upd_ne hb
    generalize upd H4 p (.frz od (.dK (kvM M))) = H5 at hfr kp ⊢
    refine ⟨_, rfl, p, od, rfl, .inl ⟨kvM M, hfr, for_it walk_keys (fun i σ H' => ∃ y3 y5 G, σ = [some (.ref a), some (.ref p), some (.ref f), y3, some (.ref g), y5, none] ∧ H' p = some (.frz od (.dK (kvM M))) ∧ H' g = some (.dK (kvM G)) ∧ (∀ b, b ≠ p → b ≠ g → H' b = H4 b) ∧ G.length ≤ i ∧ (G.map (·.1)).Nodup ∧ ∀ x y, (x, y) ∈ G → x < ss.length ∧ y < ss.length ∧ underB ss x y = true)
      ⟨y3, none, [], rfl, hfr, (kp g ngp).trans h4, fun b h _ => kp b h, Nat.le_refl _, List.nodup_nil, fun x y h => (List.not_mem_nil h).elim⟩ (fun i σ H' _ h => let ⟨_, _, _, _, h, _⟩ := h; h) ?_ ?_⟩⟩
    · rintro i x σ _ H6 hi ⟨y3, y5, G, rfl, hp6, hg6, k6, lg, nG, hG⟩ ⟨rfl, k, v, hk, rfl⟩
      have hkl : (kvM M).length = M.length := List.length_map _
      obtain ⟨e, he⟩ : ∃ e, M[i]? = some e := ⟨_, List.getElem?_eq_getElem (by omega)⟩
      have hk' : (kvM M)[i]? = some (Sum.inl (e.1 : Int), V.int (e.2 : Int)) := by
        unfold kvM
        rw [List.getElem?_map, he]
        rfl
      rw [hk] at hk'
      obtain ⟨rfl, rfl⟩ := Prod.mk.inj (Option.some.inj hk')
      obtain ⟨r, l⟩ := e
      have hm := List.mem_of_getElem? he
      have hv := valM_some fm.ok.nd hm
      have ed := fm.ok.ed r l hm
      refine ⟨_, rfl, _, rfl, _, rfl, _, rfl, p, _, rfl, .inl ⟨kvM M, Sum.inl (r : Int), .inr ⟨od, hp6⟩, rfl, hv.symm⟩, g, _, rfl, DPut.k (k := Sum.inl (l : Int)) hg6 (szt (by unfold kvM; rw [List.length_map]; omega)), ?_⟩
      have eP : putK (kvM G) (Sum.inl (l : Int)) (kV (Sum.inl (r : Int))) = kvM (mput G l r) := putM G l r
      rw [eP]
      refine ⟨y3, _, mput G l r, rfl, up_far ngp.symm hp6, upd_same, fun b h1 h2 => (upd_ne h2).trans (k6 b h1 h2), Nat.le_trans (mput_len _ _ _) (by omega), mput_nd nG, fun x y h => ?_⟩
      rcases mem_mput.mp h with ⟨rfl, rfl⟩ | ⟨_, h⟩
      · exact ⟨ed.2.1, ed.1, ed.2.2⟩
      · exact hG x y h
    · rintro σ H6 ⟨y3, y5, G, rfl, hp6, hg6, k6, lg, nG, hG⟩
      refine ⟨hp6, ?_⟩
      have hkl : (kvM M).length = M.length := List.length_map _
      have hg7 : upd H6 p (.dK (kvM M)) g = some (.dK (kvM G)) := up_far ngp hg6
      have k7 : ∀ b, b ≠ g → upd H6 p (.dK (kvM M)) b = H4 b := fun b hb => by
        by_cases e : b = p
        · subst e
          rw [upd_same, hp4]
        · rw [upd_ne e]
          exact k6 b e hb
      generalize upd H6 p (.dK (kvM M)) = H7 at hg7 k7 ⊢
      have s7 : Same H H7 := fun b o hb => (k7 b (ne_of_none hb ngH)).trans ((s3.trans s4) b o hb)
      have hf7 : H7 f = some (.lst (bs.map V.ref)) := (k7 f ngf.symm).trans h34
      refine ⟨_, rfl, f, rfl, ⟨_, SqL.of hf7⟩, for_it (walk_list (xs := bs.map V.ref)) (fun i σ H' => ∃ y5 y6, σ = [some (.ref a), some (.ref p), some (.ref f), y3, some (.ref g), y5, y6] ∧ Same H H' ∧ H' f = some (.lst (bs.map V.ref)) ∧ H' g = some (.dK (kvM G)) ∧ ∀ b ∈ bs, NRow ss H' b) ?_ ?_ ?_ ?_⟩
      · exact ⟨_, _, rfl, s7, hf7, hg7, fun b hb => (ha b hb).2.2.2.at (k7 b (ha b hb).2.2.1)⟩
      · rintro i σ H' hi ⟨y5, y6, rfl, _, h, _⟩
        exact SqL.of h
      · rintro i x σ _ H8 hi ⟨y5, y6, rfl, s8, hf8, hg8, ha8⟩ ⟨rfl, hx⟩
        obtain ⟨b, hb, rfl⟩ : ∃ b, b ∈ bs ∧ x = .ref b := by
          rw [List.getElem?_map] at hx
          cases e : bs[i]? with
          | none =>
            rw [e] at hx
            cases hx
          | some b =>
            rw [e] at hx
            exact ⟨b, List.mem_of_getElem? e, (Option.some.inj hx).symm⟩
        obtain ⟨hbH, hbf, hbg, _⟩ := ha b hb
        obtain ⟨m0, x0, hb8, hx0, hr0⟩ := ha8 b hb
        refine ⟨fun k σ H' => ∃ (m : List Nat) (x : Nat), σ = [some (.ref a), some (.ref p), some (.ref f), y3, some (.ref g), y5, some (.ref b)] ∧ Same H H' ∧ H' f = some (.lst (bs.map V.ref)) ∧ H' g = some (.dK (kvM G)) ∧ (∀ b ∈ bs, NRow ss H' b) ∧ LsI H' b (natsI (m ++ [x])) ∧ x < ss.length ∧ m.length + rank ss x ≤ ss.length ∧ rank ss x ≤ k, ⟨rank ss x0, m0, x0, rfl, s8, hf8, hg8, ha8, hb8, hx0, hr0, Nat.le_refl _⟩, ?_⟩
        clear hf8 hg8 ha8 hb8 hx0 hr0 s8
        rintro k σ H9 ⟨m, x, rfl, s9, hf9, hg9, ha9, hb9, hx9, hr9, hk9⟩
        have hb9' : H9 b = some (.lst ((natsI m).map V.int ++ [.int (x : Int)])) := by
          rw [← nats_snoc]
          exact hb9
        refine ⟨_, rfl, _, rfl, b, _, _, _, rfl, rfl, SqL.of hb9', atI_last _ _, _, rfl, g, _, rfl, DGet.k (k := Sum.inl (x : Int)) hg9, _, rfl, ?_⟩
        by_cases hk : ∃ y, (x, y) ∈ G
        · obtain ⟨y, hy⟩ := hk
          have hv := valM_some nG hy
          obtain ⟨_, hyn, hxy⟩ := hG x y hy
          have hrk := rank_lt hyn hxy
          rw [hv]
          refine iteT ⟨_, fun σ' H' h => ⟨k - 1, by omega, h⟩, ?_⟩
          refine ⟨_, rfl, .inl ⟨rfl, _, SqL.of hb9'⟩, _, rfl, _, rfl, _, rfl, b, _, _, _, rfl, rfl, SqL.of hb9', atI_last _ _, g, _, rfl, (by have := DGet.k (k := Sum.inl (x : Int)) hg9; rw [hv] at this; exact this), b, _, _, rfl, rfl, hb9', szt (by rw [List.length_append, List.length_singleton, List.length_map, nats_len]; omega), ?_⟩
          have e9 : (natsI m).map V.int ++ [.int (x : Int)] ++ [.int (y : Int)] = (natsI ((m ++ [x]) ++ [y])).map V.int := by rw [nats_snoc, nats_snoc]
          rw [e9]
          have lm : (m ++ [x]).length = m.length + 1 := by simp
          refine ⟨m ++ [x], y, rfl, sm_mut s9 hbH, up_far hbf.symm hf9, up_far hbg.symm hg9, fun c hc => ?_, upd_same, hyn, by omega, by omega⟩
          by_cases e : c = b
          · subst e
            exact ⟨m ++ [x], y, upd_same, hyn, by omega⟩
          · exact (ha9 c hc).at (upd_ne e)
        · rw [valM_none hk]
          exact iteF ⟨_, _, rfl, s9, hf9, hg9, ha9⟩
      · rintro σ H' ⟨y5, y6, rfl, s8, _⟩
        exact ⟨_, rfl, q H' f s8 nf⟩
theorem ok_loose (T : Txt K mg) : FnOk P w K mg base CX0 22 T.loose.f T.loose.fd ["spans"] sp_loose := by
  refine T.loose.F.ok sc_loose (fun vs H Q E h => ?_) (fun cdv A outer s H vs Q E hr h => ?_)
  · first | (obtain ⟨_, rfl, _⟩ := h; rfl) | (obtain ⟨_, _, rfl, _⟩ := h; rfl) | (obtain ⟨_, _, _, rfl, _⟩ := h; rfl) | (obtain ⟨_, _, _, _, rfl, _⟩ := h; rfl) | (obtain ⟨_, _, _, _, _, rfl, _⟩ := h; rfl) | (obtain ⟨_, _, _, _, _, _, rfl, _⟩ := h; rfl) | (obtain ⟨_, _, _, _, _, _, _, rfl, _⟩ := h; rfl) | (obtain ⟨_, _, _, _, _, _, _, _, rfl, _⟩ := h; rfl) | (obtain ⟨_, _, _, _, _, _, _, _, _, rfl, _⟩ := h; rfl) | (obtain ⟨_, _, _, _, _, _, _, _, _, _, rfl, _⟩ := h; rfl) | (obtain ⟨_, _, _, _, _, _, _, _, _, _, _, rfl, _⟩ := h; rfl)
  refine ⟨_, (pss_cons (ps_expr (pe_call (ok_must_spans T) (hr.mono (by decide)) (by rfl) T.must_spans.g T.must_spans.F.kp T.must_spans.b .nil pass0 (pa_cons (pv 0) pa_nil)))
  (pss_cons (ps_set (i := 1) sc_loose.nd rfl (.inl rfl) (pe_call (ok_followers T) (hr.mono (by decide)) (by rfl) T.followers.g T.followers.F.kp T.followers.b .nil pass0 (pa_cons (pv 0) pa_nil)))
  (pss_cons (ps_asg (pe_call (ok_come_to T) (hr.mono (by decide)) (by rfl) T.come_to.g T.come_to.F.kp T.come_to.b .nil pass0 (pa_cons (pv 0) (pa_cons (pv 1) pa_nil))) (pg_tupK (K := K) (n := 2) rfl rfl (pgs_cons (pg_name (i := 2) sc_loose.nd rfl (.inr rfl)) (pgs_cons (pg_name (i := 3) sc_loose.nd rfl (.inr rfl)) pgs_nil))))
  (pss_cons (ps_setLc (i := 4) (own := [("number", 5)]) rfl sc_loose.nd rfl rfl (sw_true rfl rfl rfl (by decide +kernel)) (pi_range1 (by rfl) T.b_range (pa_cons (pe_callB call_len_seq (by rfl) T.b_len PySem.boot_len (pa_cons (pv 0) pa_nil)) pa_nil)) (blkOk_by (N := ["spans", "led", "starts", "reached", "found", "number"]) (sc := defScope s_loose) (by decide +kernel)) (fun _ _ _ _ _ => (pg_name (i := 5) sc_loose.nd rfl (.inl rfl))) (fun _ _ _ _ _ => (pts_one (PW.pt (pw_and (pt_cmpR (op_inK (K := K) rfl) (pv 5) (pv 2) (by rfl)) (pw_and1 (pt_cmpR (op_notInK (K := K) rfl) (pv 5) (pv 3) (by rfl))))))) (fun _ _ _ _ _ => (pv 5)))
  (pss_one (ps_ret (pe_tup (pa_cons (pv 4) (pa_cons (pe_call (ok_nests_of T) (hr.mono (by decide)) (by rfl) T.nests_of.g T.nests_of.F.kp T.nests_of.b .nil pass0 (pa_cons (pv 0) (pa_cons (pv 1) pa_nil))) pa_nil))))))))), ?_⟩
  try dsimp only [cx_K]
  obtain ⟨a, ss, rfl, hl, hn, hok, q⟩ := h
  obtain ⟨us, hu, ru⟩ := id hl
  refine ⟨_, rfl, a, ss, rfl, hl, hok, ?_⟩
  refine ⟨_, rfl, a, ss, rfl, hl, hn, fun H1 p M s1 n1 hp fm => ?_⟩
  refine ⟨_, rfl, _, rfl, a, p, ss, M, rfl, lsP_same s1 hl, hn, hp, fm, fun H2 t f r F R C i j s2 n2 ht hF hR ct hC hi => ?_⟩
  refine g_two ht ?_
  have s02 := s1.trans s2
  refine ⟨_, rfl, a, us, rfl, .inl (SqL.of (s02 _ _ hu)), (us.length : Int), rfl, by omega, by rw [ru.len]; omega, ?_⟩
  rw [Int.toNat_natCast]
  intro D hD
  refine lc_rngF (fun x => decide (x ∈ F) && !decide (x ∈ R)) (by rw [ru.len]; omega) hD (fun _ => rfl) (show 5 < 6 by decide) (fun j H4 hj s4 Kb hb => ?_) (fun H4 s4 h4 => ?_)
  · refine ⟨_, rfl, _, rfl, k_in (s4 _ _ hF) ⟨_, rfl, ?_⟩⟩
    rw [nats_in]
    have hb := hb H4 (Same.refl _)
    refine ifB (fun e => ?_) (fun e => ?_)
    · have e : decide (j ∈ F) = true := e
      refine ⟨_, rfl, _, rfl, k_in (s4 _ _ hR) ⟨_, rfl, ?_⟩⟩
      rw [nats_in, if_pos rfl]
      rw [e] at hb
      exact hb
    · have e : decide (j ∈ F) = false := e
      rw [e] at hb
      exact hb
  · rw [ru.len] at h4
    have s04 := s02.trans s4
    refine ⟨_, rfl, _, rfl, _, rfl, a, p, ss, M, rfl, lsP_same s04 hl, hn, (s2.trans s4) _ _ hp, fm, fun H5 v s5 n5 => ⟨by show 2 ≤ sizeLine; decide, fun t' n7 => ?_⟩⟩
    obtain ⟨s7, h7⟩ := newF (o := .tup [.ref D, .ref v]) n7
    have h4 : LsI H4 D (natsI (looseL ss F R)) := h4
    exact q _ t' D (.ref v) _ ((s04.trans s5).trans s7) ((s04.trans s5).free n7) h7 ((s5.trans s7) _ _ h4) (by rw [nats_len]; exact loose_def fm ct hC hi)
end

/-- all but some stand -/
def KeepL (l : List Addr) (H H' : Hp) : Prop := ∀ b o, b ∉ l → H b = some o → H' b = some o
theorem KeepL.refl (l : List Addr) (H : Hp) : KeepL l H H := fun _ _ _ h => h
theorem KeepL.trans {l : List Addr} {H H1 H2 : Hp} (a : KeepL l H H1) (b : KeepL l H1 H2) : KeepL l H H2 := fun x o hx h => b x o hx (a x o hx h)
theorem KeepL.of {l : List Addr} {H H' : Hp} (s : Same H H') : KeepL l H H' := fun b o _ h => s b o h
theorem KeepL.upd {l : List Addr} {H H1 : Hp} {p : Addr} (a : KeepL l H H1) (o : HO) (hp : p ∈ l) : KeepL l H (upd H1 p o) := fun b u hb h => by
  rw [upd_ne (fun e => hb (by rw [e]; exact hp))]
  exact a b u hb h
theorem KeepL.same {l : List Addr} {H H1 H' : Hp} (s : Same H H1) (h : ∀ p ∈ l, H p = none) (k : KeepL l H1 H') : Same H H' := fun b o hb => k b o (fun hm => by
  rw [h b hm] at hb
  cases hb) (s b o hb)
theorem KeepL.mono {l m : List Addr} {H H' : Hp} (k : KeepL l H H') (h : ∀ p ∈ l, p ∈ m) : KeepL m H H' := fun b o hb => k b o fun hm => hb (h b hm)
def kS : Kd → String
  | .idle => "idle"
  | .back => "back"
  | .on => "on"
  | .off => "off"
def Ar (H : Hp) (v : V) (x : Nat × Nat × Int) : Prop := ∃ p, v = .ref p ∧ H p = some (.tup [.int (x.1 : Int), .int (x.2.1 : Int), .int x.2.2])
theorem Ar.tp {H H' : Hp} {v : V} {x : Nat × Nat × Int} (t : Tp H H') (h : Ar H v x) : Ar H' v x := let ⟨p, e, q⟩ := h; ⟨p, e, t p _ q⟩
def St1 (H : Hp) (v : V) (x : Option (Nat × Kd × Nat)) : Prop := match x with
  | none => v = .non
  | some y => ∃ p r, v = .ref p ∧ H p = some (.tup [.int (y.1 : Int), .ref r]) ∧ H r = some (.tup [.str (Str.ofString (kS y.2.1)), .int (y.2.2 : Int)])
theorem St1.tp {H H' : Hp} {v : V} {x : Option (Nat × Kd × Nat)} (t : Tp H H') (h : St1 H v x) : St1 H' v x := by
  cases x with
  | none => exact h
  | some y =>
    obtain ⟨p, r, e, a, b⟩ := h
    exact ⟨p, r, e, t p _ a, t r _ b⟩
structure LnA where
  L : Addr
  dx : Addr
  e : Addr
  a : Addr
  t : Addr
  i : Addr
  f : Addr
  s : Addr
def fsOf (A : LnA) : List (Str × V) := [(Str.ofString "ends", .ref A.e), (Str.ofString "arcs", .ref A.a), (Str.ofString "taken", .ref A.t), (Str.ofString "idle", .ref A.i), (Str.ofString "far", .ref A.f), (Str.ofString "steps", .ref A.s)]
structure Lan (C : Addr) (H : Hp) (A : LnA) (es : List Int) (D : Net) (far : List Int) (sp : Sps) : Prop where
  ins : H A.L = some (.ins C A.dx (fsOf A))
  e : LsI H A.e es
  a : Ls Ar H A.a D.arcs
  t : H A.t = some (.lst (D.taken.map V.bl))
  i : LsI H A.i D.idle
  f : LsI H A.f far
  s : Ls St1 H A.s sp
  nd : [A.e, A.a, A.t, A.i, A.f, A.s].Nodup
theorem Lan.same {C : Addr} {H H' : Hp} {A : LnA} {es : List Int} {D : Net} {far : List Int} {sp : Sps} (s : Same H H') (h : Lan C H A es D far sp) : Lan C H' A es D far sp :=
  ⟨s _ _ h.ins, s _ _ h.e, Ls.same (fun t k => k.tp t) s h.a, s _ _ h.t, s _ _ h.i, s _ _ h.f, Ls.same (fun t k => k.tp t) s h.s, h.nd⟩
theorem Lan.nds {C : Addr} {H : Hp} {A : LnA} {es : List Int} {D : Net} {far : List Int} {sp : Sps} (h : Lan C H A es D far sp) : (A.f ≠ A.e ∧ A.f ≠ A.a ∧ A.f ≠ A.t ∧ A.f ≠ A.i ∧ A.f ≠ A.s) ∧ (A.s ≠ A.e ∧ A.s ≠ A.a ∧ A.s ≠ A.t ∧ A.s ≠ A.i) ∧ (A.i ≠ A.e ∧ A.i ≠ A.a ∧ A.i ≠ A.t) ∧ (A.t ≠ A.e ∧ A.t ≠ A.a) ∧ A.a ≠ A.e := by
  have h := h.nd
  simp only [List.nodup_cons, List.mem_cons, List.not_mem_nil, not_or, or_false, not_false_eq_true] at h
  obtain ⟨⟨h1, h2, h3, h4, h5⟩, ⟨h6, h7, h8, h9⟩, ⟨h10, h11, h12⟩, ⟨h13, h14⟩, h15, _⟩ := h
  exact ⟨⟨Ne.symm h4, Ne.symm h8, Ne.symm h11, Ne.symm h13, h15⟩, ⟨Ne.symm h5, Ne.symm h9, Ne.symm h12, Ne.symm h14⟩, ⟨Ne.symm h3, Ne.symm h7, Ne.symm h10⟩, ⟨Ne.symm h2, Ne.symm h6⟩, Ne.symm h1⟩
/-- far and steps have changed -/
theorem Lan.led {C : Addr} {H H' : Hp} {A : LnA} {es : List Int} {D : Net} {far far' : List Int} {sp sp' : Sps} (h : Lan C H A es D far sp) (k : KeepL [A.f, A.s] H H') (hf : LsI H' A.f far') (hs : Ls St1 H' A.s sp') : Lan C H' A es D far' sp' := by
  obtain ⟨⟨a1, a2, a3, a4, a5⟩, ⟨b1, b2, b3, b4⟩, _⟩ := h.nds
  obtain ⟨vs, hv, rv⟩ := h.a
  obtain ⟨ws, hw, rw'⟩ := h.s
  have g : ∀ b o, b ≠ A.f → b ≠ A.s → H b = some o → H' b = some o := fun b o h1 h2 hb => k b o (by simp [h1, h2]) hb
  have tp : Tp H H' := fun p xs hp => g p _ (fun e => by
    have := h.f
    rw [e] at hp
    have this : H A.f = some (.lst _) := this
    rw [hp] at this
    cases this) (fun e => by
    rw [e, hw] at hp
    cases hp) hp
  refine ⟨g _ _ (fun e => ?_) (fun e => ?_) h.ins, g _ _ a1.symm b1.symm h.e, ⟨vs, g _ _ a2.symm b2.symm hv, rv.mono fun _ _ q => q.tp tp⟩, g _ _ a3.symm b3.symm h.t, g _ _ a4.symm b4.symm h.i, hf, hs, h.nd⟩
  · have h1 : H A.f = some (.lst _) := h.f
    rw [← e, h.ins] at h1
    cases h1
  · rw [← e, h.ins] at hw
    cases hw
def sp_Lanes_lead (C : Addr) : Sp := fun vs H Q _ => ∃ (A : LnA) (es : List Int) (D : Net) (far : List Int) (sp : Sps) (e : Ed) (r : Addr), vs = [.ref A.L, .int (e.s : Int), .int (e.v : Int), .int e.g, .ref r] ∧ Lan C H A es D far sp ∧ H r = some (.tup [.str (Str.ofString (kS e.kd)), .int (e.j : Int)]) ∧
  e.s < far.length ∧ e.v < far.length ∧ far.length ≤ sp.length ∧ ∀ H', KeepL [A.f, A.s] H H' → Lan C H' A es D (leadE (false, far, sp) e).2.1 (leadE (false, far, sp) e).2.2 → Q (.bl (leadE (false, far, sp) e).1) H'
section
variable {P : Program} {w : World} {K : PySem.W.Frag} {mg : Str → Option Value} {base : Heap}
theorem ok_Lanes_lead (T : Txt K mg) : FnOk P w K mg base CX0 1 T.Lanes_lead.f T.Lanes_lead.fd ["self", "start", "goal", "gain", "step"] (sp_Lanes_lead T.C) := by
  refine T.Lanes_lead.F.ok sc_Lanes_lead (fun vs H Q E h => ?_) (fun cdv A outer s H vs Q E hr h => ?_)
  · first | (obtain ⟨_, rfl, _⟩ := h; rfl) | (obtain ⟨_, _, rfl, _⟩ := h; rfl) | (obtain ⟨_, _, _, rfl, _⟩ := h; rfl) | (obtain ⟨_, _, _, _, rfl, _⟩ := h; rfl) | (obtain ⟨_, _, _, _, _, rfl, _⟩ := h; rfl) | (obtain ⟨_, _, _, _, _, _, rfl, _⟩ := h; rfl) | (obtain ⟨_, _, _, _, _, _, _, rfl, _⟩ := h; rfl) | (obtain ⟨_, _, _, _, _, _, _, _, rfl, _⟩ := h; rfl) | (obtain ⟨_, _, _, _, _, _, _, _, _, rfl, _⟩ := h; rfl) | (obtain ⟨_, _, _, _, _, _, _, _, _, _, rfl, _⟩ := h; rfl) | (obtain ⟨_, _, _, _, _, _, _, _, _, _, _, rfl, _⟩ := h; rfl)
  refine ⟨_, (pss_cons (ps_if (pt_cmpR op_le (pe_op op_add (pe_ix (ix_listK (K := K) rfl) (pe_fld (pv 0) rfl) (pv 1) (fun _ _ => rfl)) (pv 3)) (pe_ix (ix_listK (K := K) rfl) (pe_fld (pv 0) rfl) (pv 2) (fun _ _ => rfl)) (nomark _))
  (pss_one (ps_ret pe_bl))
  pss_nil)
  (pss_cons (ps_asg (pe_op op_add (pe_ix (ix_listK (K := K) rfl) (pe_fld (pv 0) rfl) (pv 1) (fun _ _ => rfl)) (pv 3)) (pg_sub (pe_fld (pv 0) rfl) (pv 2) set_list))
  (pss_cons (ps_asg (pe_tup (pa_cons (pv 1) (pa_cons (pv 4) pa_nil))) (pg_sub (pe_fld (pv 0) rfl) (pv 2) set_list))
  (pss_one (ps_ret pe_bl))))), ?_⟩
  try dsimp only [cx_K]
  obtain ⟨A, es, D, far, sp, e, r, rfl, hl, hr1, h1, h2, h3, q⟩ := h
  have g : ∀ j, j < far.length → (far.map V.int)[j]? = some (.int (far.getD j 0)) := fun j hj => by
    rw [List.getElem?_map, List.getD_eq_getElem?_getD, List.getElem?_eq_getElem hj]
    rfl
  refine ⟨_, rfl, A.L, T.C, A.dx, _, .ref A.f, rfl, hl.ins, T.cl, T.n_far, rfl, _, rfl, A.f, _, _, _, rfl, rfl, SqL.of hl.f, atI_nat (g _ h1), _, rfl, _, _, rfl, rfl, ?_⟩
  refine ⟨_, rfl, A.L, T.C, A.dx, _, .ref A.f, rfl, hl.ins, T.cl, T.n_far, rfl, _, rfl, A.f, _, _, _, rfl, rfl, SqL.of hl.f, atI_nat (g _ h2), _, _, rfl, rfl, _, rfl, ?_⟩
  unfold leadE at q
  refine ifD (fun hle => ?_) (fun hle => ?_)
  · rw [if_pos hle] at q
    exact q H (KeepL.refl _ _) hl
  · rw [if_neg hle] at q
    obtain ⟨⟨a1, a2, a3, a4, a5⟩, ⟨b1, b2, b3, b4⟩, _⟩ := hl.nds
    refine ⟨_, rfl, A.L, T.C, A.dx, _, .ref A.f, rfl, hl.ins, T.cl, T.n_far, rfl, _, rfl, A.f, _, _, _, rfl, rfl, SqL.of hl.f, atI_nat (g _ h1), _, rfl, _, _, rfl, rfl, ?_⟩
    refine ⟨_, rfl, A.L, T.C, A.dx, _, .ref A.f, rfl, hl.ins, T.cl, T.n_far, rfl, _, rfl, A.f, _, _, e.v, rfl, rfl, hl.f, ixN_nat (by rw [List.length_map]; exact h2), ?_⟩
    rw [← List.map_set]
    have k1 : KeepL [A.f, A.s] H (upd H A.f (.lst ((far.set e.v (far.getD e.s 0 + e.g)).map V.int))) := (KeepL.refl _ H).upd _ (by simp)
    obtain ⟨ws, hw, rw1⟩ := hl.s
    have hf1 : LsI (upd H A.f (.lst ((far.set e.v (far.getD e.s 0 + e.g)).map V.int))) A.f (far.set e.v (far.getD e.s 0 + e.g)) := upd_same
    have t1 : Tp H (upd H A.f (.lst ((far.set e.v (far.getD e.s 0 + e.g)).map V.int))) := tp_lst hl.f
    have hw1 : upd H A.f (.lst ((far.set e.v (far.getD e.s 0 + e.g)).map V.int)) A.s = some (.lst ws) := up_far a5.symm hw
    have hl1 := hl.led k1 hf1 ⟨ws, hw1, rw1.mono fun _ _ z => z.tp t1⟩
    generalize upd H A.f (.lst ((far.set e.v (far.getD e.s 0 + e.g)).map V.int)) = H1 at k1 hf1 t1 hw1 hl1 ⊢
    refine ⟨_, rfl, _, rfl, by show 2 ≤ sizeLine; decide, fun p np => ?_⟩
    obtain ⟨s2, hp2⟩ := newF (o := .tup [.int (e.s : Int), .ref r]) np
    generalize upd H1 p (.tup [.int (e.s : Int), .ref r]) = H2 at s2 hp2 ⊢
    have hl2 := hl1.same s2
    refine ⟨_, rfl, A.L, T.C, A.dx, _, .ref A.s, rfl, hl2.ins, T.cl, T.n_steps, rfl, _, rfl, A.s, _, _, e.v, rfl, rfl, s2 _ _ hw1, ixN_nat (by rw [rw1.len]; omega), ?_⟩
    refine q _ ((k1.trans (KeepL.of s2)).upd _ (by simp)) ?_
    refine hl2.led ((KeepL.refl _ H2).upd _ (by simp)) (up_far a5 hl2.f) ⟨_, upd_same, ?_⟩
    have t2 : Tp H2 (upd H2 A.s (.lst (ws.set e.v (.ref p)))) := tp_lst (s2 _ _ hw1)
    refine (rw1.mono fun _ _ z => z.tp ((t1.trans (tp_of s2)).trans t2)).set e.v ?_
    exact ⟨p, r, rfl, t2 _ _ hp2, t2 _ _ (tp_of s2 _ _ (t1 _ _ hr1))⟩
def sp_Lanes_lead_all (C : Addr) : Sp := fun vs H Q _ => ∃ (A : LnA) (es : List Int) (D : Net) (far : List Int) (sp : Sps), vs = [.ref A.L] ∧ Lan C H A es D far sp ∧ D.idle.length = D.m ∧ D.taken.length = D.arcs.length ∧ D.m ≤ 1000 ∧
  (∀ e, Edge D e → e.s < far.length ∧ e.v < far.length) ∧ far.length ≤ sp.length ∧
  ∀ H', KeepL [A.f, A.s] H H' → Lan C H' A es D ((edsOf D).foldl leadE (false, far, sp)).2.1 ((edsOf D).foldl leadE (false, far, sp)).2.2 → Q (.bl ((edsOf D).foldl leadE (false, far, sp)).1) H'
theorem leadE_len (st : LSt) (e : Ed) : (leadE st e).2.1.length = st.2.1.length ∧ (leadE st e).2.2.length = st.2.2.length := by
  unfold leadE
  split
  · exact ⟨rfl, rfl⟩
  · exact ⟨List.length_set, List.length_set⟩
theorem leadEs_len (l : List Ed) (st : LSt) : (l.foldl leadE st).2.1.length = st.2.1.length ∧ (l.foldl leadE st).2.2.length = st.2.2.length := by
  induction l generalizing st with
  | nil => exact ⟨rfl, rfl⟩
  | cons e l ih =>
    obtain ⟨a, b⟩ := ih (leadE st e)
    obtain ⟨c, d⟩ := leadE_len st e
    exact ⟨a.trans c, b.trans d⟩
/-- better comes last -/
theorem leadE_or (b : Bool) (far : List Int) (sp : Sps) (e : Ed) : leadE (b, far, sp) e = ((leadE (false, far, sp) e).1 || b, (leadE (false, far, sp) e).2) := by
  unfold leadE
  by_cases c : far.getD e.s 0 + e.g ≤ far.getD e.v 0
  · rw [if_pos c, if_pos c]
    cases b <;> rfl
  · rw [if_neg c, if_neg c]
    rfl
theorem or_step {c b : Bool} {Q : VK} {H : Hp} {i : Nat} {σ : L2.St} (hσ : σ[i]? = some (some (.bl b))) (q : Q (.bl (c || b)) H) : ∃ c', V.bl c = .bl c' ∧ if c' = true then Q (.bl true) H else tVar i σ H Q := by
  refine ⟨c, rfl, ?_⟩
  cases c with
  | true => exact q
  | false => exact ⟨_, hσ, q⟩
theorem ok_Lanes_lead_all (T : Txt K mg) : FnOk P w K mg base CX0 2 T.Lanes_lead_all.f T.Lanes_lead_all.fd ["self"] (sp_Lanes_lead_all T.C) := by
  refine T.Lanes_lead_all.F.ok sc_Lanes_lead_all (fun vs H Q E h => ?_) (fun cdv A outer s H vs Q E hr h => ?_)
  · first | (obtain ⟨_, rfl, _⟩ := h; rfl) | (obtain ⟨_, _, rfl, _⟩ := h; rfl) | (obtain ⟨_, _, _, rfl, _⟩ := h; rfl) | (obtain ⟨_, _, _, _, rfl, _⟩ := h; rfl) | (obtain ⟨_, _, _, _, _, rfl, _⟩ := h; rfl) | (obtain ⟨_, _, _, _, _, _, rfl, _⟩ := h; rfl) | (obtain ⟨_, _, _, _, _, _, _, rfl, _⟩ := h; rfl) | (obtain ⟨_, _, _, _, _, _, _, _, rfl, _⟩ := h; rfl) | (obtain ⟨_, _, _, _, _, _, _, _, _, rfl, _⟩ := h; rfl) | (obtain ⟨_, _, _, _, _, _, _, _, _, _, rfl, _⟩ := h; rfl) | (obtain ⟨_, _, _, _, _, _, _, _, _, _, _, rfl, _⟩ := h; rfl)
  refine ⟨_, (pss_cons (ps_set (i := 1) sc_Lanes_lead_all.nd rfl (.inl rfl) pe_bl)
  (pss_cons (ps_for PassesOwn.never rfl (pi_range1 (by rfl) T.b_range (pa_cons (pe_callB call_len_seq (by rfl) T.b_len PySem.boot_len (pa_cons (pe_fld (pv 0) rfl) pa_nil)) pa_nil)) (pg_name (i := 2) sc_Lanes_lead_all.nd rfl (.inl rfl))
  (pss_cons (ps_set (i := 1) sc_Lanes_lead_all.nd rfl (.inl rfl) (pe_or (pe_meth (pv 0) T.cl T.m_lead (ok_Lanes_lead T) (hr.mono (by decide)) T.Lanes_lead.b .nil pass0 (pa_cons (pv 2) (pa_cons (pe_op op_add (pv 2) pe_int) (pa_cons pe_int (pa_cons (pe_tup (pa_cons pe_str (pa_cons (pv 2) pa_nil))) pa_nil))))) (pe_one (pv 1))))
  (pss_one (ps_if (pt_cmpR op_gt (pe_ix (ix_listK (K := K) rfl) (pe_fld (pv 0) rfl) (pv 2) (fun _ _ => rfl)) pe_int (nomark _))
  (pss_one (ps_set (i := 1) sc_Lanes_lead_all.nd rfl (.inl rfl) (pe_or (pe_meth (pv 0) T.cl T.m_lead (ok_Lanes_lead T) (hr.mono (by decide)) T.Lanes_lead.b .nil pass0 (pa_cons (pe_op op_add (pv 2) pe_int) (pa_cons (pv 2) (pa_cons pe_int (pa_cons (pe_tup (pa_cons pe_str (pa_cons (pv 2) pa_nil))) pa_nil))))) (pe_one (pv 1)))))
  pss_nil))))
  (pss_cons (ps_for PassesOwn.never rfl (pi_enum (by rfl) T.b_enumerate (pa_cons (pe_fld (pv 0) rfl) pa_nil)) (pg_tupK (K := K) (n := 2) rfl rfl (pgs_cons (pg_name (i := 3) sc_Lanes_lead_all.nd rfl (.inl rfl)) (pgs_cons (pg_name (i := 4) sc_Lanes_lead_all.nd rfl (.inl rfl)) pgs_nil)))
  (pss_one (ps_if (pt_val (pe_ix (ix_listK (K := K) rfl) (pe_fld (pv 0) rfl) (pv 3) (fun _ _ => rfl)))
  (pss_one (ps_set (i := 1) sc_Lanes_lead_all.nd rfl (.inl rfl) (pe_or (pe_meth (pv 0) T.cl T.m_lead (ok_Lanes_lead T) (hr.mono (by decide)) T.Lanes_lead.b .nil pass0 (pa_cons (pe_ix (ix_tupK (K := K) rfl) (pv 4) pe_int (fun _ _ => rfl)) (pa_cons (pe_ix (ix_tupK (K := K) rfl) (pv 4) pe_int (fun _ _ => rfl)) (pa_cons (pe_op op_sub pe_int (pe_ix (ix_tupK (K := K) rfl) (pv 4) pe_int (fun _ _ => rfl))) (pa_cons (pe_tup (pa_cons pe_str (pa_cons (pv 3) pa_nil))) pa_nil))))) (pe_one (pv 1)))))
  (pss_one (ps_set (i := 1) sc_Lanes_lead_all.nd rfl (.inl rfl) (pe_or (pe_meth (pv 0) T.cl T.m_lead (ok_Lanes_lead T) (hr.mono (by decide)) T.Lanes_lead.b .nil pass0 (pa_cons (pe_ix (ix_tupK (K := K) rfl) (pv 4) pe_int (fun _ _ => rfl)) (pa_cons (pe_ix (ix_tupK (K := K) rfl) (pv 4) pe_int (fun _ _ => rfl)) (pa_cons (pe_ix (ix_tupK (K := K) rfl) (pv 4) pe_int (fun _ _ => rfl)) (pa_cons (pe_tup (pa_cons pe_str (pa_cons (pv 3) pa_nil))) pa_nil))))) (pe_one (pv 1))))))))
  (pss_one (ps_ret (pv 1)))))), ?_⟩
  try dsimp only [cx_K]
  obtain ⟨A, es, D, far, sp, rfl, hl, il, tl, hm, nds, ls, q⟩ := h
  refine ⟨_, rfl, A.L, T.C, A.dx, _, .ref A.i, rfl, hl.ins, T.cl, T.n_idle, rfl, A.i, _, rfl, .inl (SqL.of hl.i), _, rfl, by rw [List.length_map]; omega, by rw [List.length_map]; omega, ?_⟩
  rw [List.length_map, il, Int.toNat_natCast]
  have lenr : ∀ l : List Ed, (l.foldl leadE (false, far, sp)).2.1.length ≤ (l.foldl leadE (false, far, sp)).2.2.length ∧ (l.foldl leadE (false, far, sp)).2.1.length = far.length := fun l => by
    obtain ⟨a, b⟩ := leadEs_len l (false, far, sp)
    rw [a, b]
    exact ⟨ls, rfl⟩
  refine for_it (walk_rg (n := D.m)) (fun i σ H' => ∃ y2 y3 y4 st, st = (((List.range D.m).take i).flatMap (cellEds D)).foldl leadE (false, far, sp) ∧ σ = [some (.ref A.L), some (.bl st.1), y2, y3, y4] ∧ KeepL [A.f, A.s] H H' ∧ Lan T.C H' A es D st.2.1 st.2.2) ⟨none, none, none, _, rfl, rfl, KeepL.refl _ _, hl⟩ (fun _ _ _ _ _ => trivial) ?_ ?_
  · rintro i x σ _ H1 hi ⟨y2, y3, y4, st, est, rfl, k1, hl1⟩ ⟨rfl, rfl⟩
    have l1 := lenr (((List.range D.m).take i).flatMap (cellEds D))
    rw [← est] at l1
    have en : (((List.range D.m).take (i + 1)).flatMap (cellEds D)).foldl leadE (false, far, sp) = (cellEds D i).foldl leadE st := by
      rw [List.take_add_one, List.getElem?_range hi, List.flatMap_append, List.foldl_append, ← est]
      show (List.flatMap (cellEds D) [i]).foldl leadE st = _
      simp
    have E1 : Edge D ⟨i, i + 1, 0, .idle, i⟩ := ⟨hi, rfl, rfl, rfl⟩
    obtain ⟨e1, e2⟩ := nds _ E1
    simp only at e1 e2
    obtain ⟨b, f1, p1⟩ := st
    simp only at l1
    refine ⟨_, rfl, A.L, A.dx, _, rfl, hl1.ins, rfl, _, rfl, _, rfl, _, _, rfl, rfl, _, rfl, by show 2 ≤ sizeLine; decide, fun r nr => ?_⟩
    obtain ⟨s2, hr2⟩ := newF (o := .tup [.str (Str.ofString "idle"), .int (i : Int)]) nr
    generalize upd H1 r (.tup [.str (Str.ofString "idle"), .int (i : Int)]) = H2 at s2 hr2 ⊢
    refine ⟨A, es, D, f1, p1, ⟨i, i + 1, 0, .idle, i⟩, r, rfl, hl1.same s2, hr2, by show i < f1.length; omega, by show i + 1 < f1.length; omega, by omega, fun H3 k3 hl3 => or_step rfl ?_⟩
    have k13 := (k1.trans (KeepL.of s2)).trans k3
    have l3 := leadE_len (false, f1, p1) ⟨i, i + 1, 0, .idle, i⟩
    have eo := leadE_or b f1 p1 ⟨i, i + 1, 0, .idle, i⟩
    generalize leadE (false, f1, p1) ⟨i, i + 1, 0, .idle, i⟩ = s3 at hl3 l3 eo ⊢
    obtain ⟨b3, f3, p3⟩ := s3
    simp only at hl3 l3 eo
    have gi : (D.idle.map V.int)[i]? = some (.int (D.idle.getD i 0)) := by
      rw [List.getElem?_map, List.getD_eq_getElem?_getD, List.getElem?_eq_getElem (by omega)]
      rfl
    refine ⟨_, rfl, A.L, T.C, A.dx, _, .ref A.i, rfl, hl3.ins, T.cl, T.n_idle, rfl, _, rfl, A.i, _, _, _, rfl, rfl, SqL.of hl3.i, atI_nat gi, _, _, rfl, rfl, _, rfl, ?_⟩
    refine ifD (fun hp => ?_) (fun hp => ?_)
    · have E2 : Edge D ⟨i + 1, i, 0, .back, i⟩ := ⟨hi, hp, rfl, rfl, rfl⟩
      refine ⟨_, rfl, A.L, A.dx, _, rfl, hl3.ins, rfl, _, rfl, _, _, rfl, rfl, _, rfl, _, rfl, by show 2 ≤ sizeLine; decide, fun r4 n4 => ?_⟩
      obtain ⟨s4, h4⟩ := newF (o := .tup [.str (Str.ofString "back"), .int (i : Int)]) n4
      generalize upd H3 r4 (.tup [.str (Str.ofString "back"), .int (i : Int)]) = H4 at s4 h4 ⊢
      refine ⟨A, es, D, f3, p3, ⟨i + 1, i, 0, .back, i⟩, r4, rfl, hl3.same s4, h4, by show i + 1 < f3.length; omega, by show i < f3.length; omega, by omega, fun H5 k5 hl5 => or_step rfl ?_⟩
      refine ⟨some (.int (i : Int)), y3, y4, _, rfl, ?_, (k13.trans (KeepL.of s4)).trans k5, ?_⟩
      · rw [en]
        unfold cellEds
        rw [if_pos hp]
        show _ = [some (V.ref A.L), some (V.bl (leadE (leadE (b, f1, p1) ⟨i, i + 1, 0, .idle, i⟩) ⟨i + 1, i, 0, .back, i⟩).1), _, _, _]
        rw [eo, leadE_or (b3 || b) f3 p3]
        rfl
      · rw [en]
        unfold cellEds
        rw [if_pos hp]
        show Lan T.C H5 A es D (leadE (leadE (b, f1, p1) ⟨i, i + 1, 0, .idle, i⟩) ⟨i + 1, i, 0, .back, i⟩).2.1 (leadE (leadE (b, f1, p1) ⟨i, i + 1, 0, .idle, i⟩) ⟨i + 1, i, 0, .back, i⟩).2.2
        rw [eo, leadE_or (b3 || b) f3 p3]
        exact hl5
    · refine ⟨some (.int (i : Int)), y3, y4, _, rfl, ?_, k13, ?_⟩
      · rw [en]
        unfold cellEds
        rw [if_neg hp]
        show _ = [some (V.ref A.L), some (V.bl (leadE (b, f1, p1) ⟨i, i + 1, 0, .idle, i⟩).1), _, _, _]
        rw [eo]
        rfl
      · rw [en]
        unfold cellEds
        rw [if_neg hp]
        show Lan T.C H3 A es D (leadE (b, f1, p1) ⟨i, i + 1, 0, .idle, i⟩).2.1 (leadE (b, f1, p1) ⟨i, i + 1, 0, .idle, i⟩).2.2
        rw [eo]
        exact hl3
  · rintro σ H1 ⟨y2, y3, y4, st, est, rfl, k1, hl1⟩
    rw [List.take_of_length_le (by rw [List.length_range]; omega)] at est
    obtain ⟨vs, hv, rv⟩ := id hl1.a
    refine ⟨_, rfl, A.L, T.C, A.dx, _, .ref A.a, rfl, hl1.ins, T.cl, T.n_arcs, rfl, A.a, _, rfl, SqL.of hv, for_it (walk_enum (xs := vs)) (fun i σ H' => ∃ y2 y3 y4 st', st' = ((D.arcs.zipIdx.take i).map (arcEd D)).foldl leadE st ∧ σ = [some (.ref A.L), some (.bl st'.1), y2, y3, y4] ∧ KeepL [A.f, A.s] H H' ∧ Lan T.C H' A es D st'.2.1 st'.2.2 ∧ H' A.a = some (.lst vs) ∧ Tp H1 H') ?_ ?_ ?_ ?_⟩
    · exact ⟨y2, y3, y4, st, rfl, rfl, k1, hl1, hv, Tp.refl _⟩
    · rintro i σ H' hi ⟨y2, y3, y4, st', _, rfl, _, _, h, _⟩
      exact SqL.of h
    · clear y2 y3 y4
      rintro i x σ H2 _ hi ⟨y2, y3, y4, st', est', rfl, k2, hl2, hv2, tp2⟩ ⟨T1, x1, x2, rfl, nT, rfl, hx, hy⟩
      obtain ⟨arc, ea, ra⟩ := rv.get hy
      have r1 : V.int (i : Int) = x1 := Option.some.inj hx
      subst r1
      obtain ⟨s3, h3⟩ := newF (o := .tup [.int (i : Int), x2]) nT
      generalize upd H2 T1 (.tup [.int (i : Int), x2]) = H3 at s3 h3 ⊢
      obtain ⟨p, rfl, hp⟩ := ra.tp (tp2.trans (tp_of s3))
      have hl3 := hl2.same s3
      have hi' : i < D.arcs.length := (List.getElem?_eq_some_iff.mp ea).1
      have en : ((D.arcs.zipIdx.take (i + 1)).map (arcEd D)).foldl leadE st = leadE st' (arcEd D (arc, i)) := by
        rw [List.take_add_one, show D.arcs.zipIdx[i]? = some (arc, i) by simp [List.getElem?_zipIdx, ea], List.map_append, List.foldl_append, ← est']
        rfl
      have l1 := lenr (((List.range D.m)).flatMap (cellEds D) ++ (D.arcs.zipIdx.take i).map (arcEd D))
      rw [List.foldl_append, ← est, ← est'] at l1
      obtain ⟨b, f1, p1⟩ := st'
      simp only at l1 hl2 hl3
      have gt : (D.taken.map V.bl)[i]? = some (.bl (D.taken.getD i false)) := by
        rw [List.getElem?_map, List.getD_eq_getElem?_getD, List.getElem?_eq_getElem (by omega)]
        rfl
      have EE := nds _ (eds_ok (List.mem_append_right _ (List.mem_map.mpr ⟨(arc, i), List.mem_zipIdx_iff_getElem?.mpr ea, rfl⟩)) : Edge D (arcEd D (arc, i)))
      have la : H3 A.a = some (.lst vs) := s3 _ _ hv2
      have tp3 := tp2.trans (tp_of s3)
      have keepA : ∀ H', KeepL [A.f, A.s] H3 H' → H' A.a = some (.lst vs) ∧ Tp H3 H' := fun H' k => by
        obtain ⟨⟨a1, a2, a3, a4, a5⟩, ⟨b1, b2, b3, b4⟩, _⟩ := hl3.nds
        refine ⟨k _ _ (by simp [a2.symm, b2.symm]) la, fun q us hq => k _ _ (fun hm => ?_) hq⟩
        rcases List.mem_cons.mp hm with e | e
        · have := hl3.f
          rw [e] at hq
          have this : H3 A.f = some (.lst _) := this
          rw [hq] at this
          cases this
        · have e : q = A.s := by simpa using e
          obtain ⟨ws, hw, _⟩ := hl3.s
          rw [e, hw] at hq
          cases hq
      refine g_two h3 ?_
      refine ⟨_, rfl, A.L, T.C, A.dx, _, .ref A.t, rfl, hl3.ins, T.cl, T.n_taken, rfl, _, rfl, A.t, _, _, _, rfl, rfl, SqL.of hl3.t, atI_nat gt, _, rfl, ?_⟩
      refine ifB (fun hb => ?_) (fun hb => ?_)
      · have ee : arcEd D (arc, i) = ⟨arc.2.1, arc.1, 0 - arc.2.2, .off, i⟩ := if_pos hb
        rw [ee] at EE en
        refine ⟨_, rfl, A.L, A.dx, _, rfl, hl3.ins, rfl, ?_⟩
        walk_at "go"
        refine ⟨by show 2 ≤ sizeLine; decide, fun r nr => ?_⟩
        obtain ⟨s4, h4⟩ := newF (o := .tup [.str (Str.ofString "off"), .int (i : Int)]) nr
        generalize upd H3 r (.tup [.str (Str.ofString "off"), .int (i : Int)]) = H4 at s4 h4 ⊢
        refine ⟨A, es, D, f1, p1, ⟨arc.2.1, arc.1, 0 - arc.2.2, .off, i⟩, r, rfl, hl3.same s4, h4, by have := EE.1; show arc.2.1 < f1.length; rw [l1.2]; exact this, by have := EE.2; show arc.1 < f1.length; rw [l1.2]; exact this, l1.1, fun H5 k5 hl5 => or_step rfl ?_⟩
        have k35 := (KeepL.of s4).trans k5
        obtain ⟨ka, kt⟩ := keepA H5 k35
        refine ⟨y2, some (.int (i : Int)), some (.ref p), _, rfl, ?_, (k2.trans (KeepL.of s3)).trans k35, ?_, ka, tp3.trans kt⟩
        · rw [en, leadE_or b f1 p1]
          rfl
        · rw [en, leadE_or b f1 p1]
          exact hl5
      · have ee : arcEd D (arc, i) = ⟨arc.1, arc.2.1, arc.2.2, .on, i⟩ := if_neg (by rw [hb]; decide)
        rw [ee] at EE en
        refine ⟨_, rfl, A.L, A.dx, _, rfl, hl3.ins, rfl, ?_⟩
        walk_at "go"
        refine ⟨by show 2 ≤ sizeLine; decide, fun r nr => ?_⟩
        obtain ⟨s4, h4⟩ := newF (o := .tup [.str (Str.ofString "on"), .int (i : Int)]) nr
        generalize upd H3 r (.tup [.str (Str.ofString "on"), .int (i : Int)]) = H4 at s4 h4 ⊢
        refine ⟨A, es, D, f1, p1, ⟨arc.1, arc.2.1, arc.2.2, .on, i⟩, r, rfl, hl3.same s4, h4, by have := EE.1; show arc.1 < f1.length; rw [l1.2]; exact this, by have := EE.2; show arc.2.1 < f1.length; rw [l1.2]; exact this, l1.1, fun H5 k5 hl5 => or_step rfl ?_⟩
        have k35 := (KeepL.of s4).trans k5
        obtain ⟨ka, kt⟩ := keepA H5 k35
        refine ⟨y2, some (.int (i : Int)), some (.ref p), _, rfl, ?_, (k2.trans (KeepL.of s3)).trans k35, ?_, ka, tp3.trans kt⟩
        · rw [en, leadE_or b f1 p1]
          rfl
        · rw [en, leadE_or b f1 p1]
          exact hl5
    · rintro σ H2 ⟨y2, y3, y4, st', est', rfl, k2, hl2, _⟩
      rw [rv.len, List.take_of_length_le (by rw [List.length_zipIdx]; omega)] at est'
      have en : (edsOf D).foldl leadE (false, far, sp) = st' := by
        unfold edsOf
        rw [List.foldl_append, ← est, est']
      rw [en] at q
      exact ⟨_, rfl, q H2 k2 hl2⟩
end

theorem KeepL.chain {l m : List Addr} {H H1 H' : Hp} (k1 : KeepL l H H1) (h : ∀ p ∈ m, H p = none ∨ p ∈ l) (k : KeepL m H1 H') : KeepL l H H' := fun b o hb ho => k b o (fun hm => by
  rcases h b hm with e | e
  · rw [e] at ho
    cases ho
  · exact hb e) (k1 b o hb ho)
theorem Lan.notL {C : Addr} {H : Hp} {A : LnA} {es : List Int} {D : Net} {far : List Int} {sp : Sps} (h : Lan C H A es D far sp) : A.e ≠ A.L ∧ A.a ≠ A.L ∧ A.t ≠ A.L ∧ A.i ≠ A.L ∧ A.f ≠ A.L ∧ A.s ≠ A.L := by
  obtain ⟨vs, hv, _⟩ := h.a
  obtain ⟨ws, hw, _⟩ := h.s
  have he : H A.e = some (.lst _) := h.e
  have hi : H A.i = some (.lst _) := h.i
  have hf : H A.f = some (.lst _) := h.f
  refine ⟨fun e => ?_, fun e => ?_, fun e => ?_, fun e => ?_, fun e => ?_, fun e => ?_⟩
  · rw [e, h.ins] at he
    cases he
  · rw [e, h.ins] at hv
    cases hv
  · have := h.t
    rw [e, h.ins] at this
    cases this
  · rw [e, h.ins] at hi
    cases hi
  · rw [e, h.ins] at hf
    cases hf
  · rw [e, h.ins] at hw
    cases hw
theorem tp_ins {H : Hp} {l C dx : Addr} {fs : List (Str × V)} {o : HO} (h : H l = some (.ins C dx fs)) : Tp H (upd H l o) := tp_mut h fun xs e => by cases e
/-- far is a new list -/
theorem Lan.newFar {C : Addr} {H0 H : Hp} {A : LnA} {es : List Int} {D : Net} {far far' : List Int} {sp : Sps} {f : Addr} (h : Lan C H0 A es D far sp) (s : Same H0 H) (n : H0 f = none) (hf : LsI H f far') :
    Lan C (upd H A.L (.ins C A.dx (fsOf { A with f := f }))) { A with f := f } es D far' sp := by
  obtain ⟨l1, l2, l3, l4, l5, l6⟩ := h.notL
  obtain ⟨vs, hv, rv⟩ := h.a
  obtain ⟨ws, hw, rw'⟩ := h.s
  have h2 := h.same s
  have tp : Tp H (upd H A.L (.ins C A.dx (fsOf { A with f := f }))) := tp_ins h2.ins
  have e1 := ne_of_none h.e n
  have e2 := ne_of_none hv n
  have e3 := ne_of_none h.t n
  have e4 := ne_of_none h.i n
  have e6 := ne_of_none hw n
  have e7 := ne_of_none h.ins n
  obtain ⟨_, ⟨b1, b2, b3, b4⟩, ⟨c1, c2, c3⟩, ⟨d1, d2⟩, d3⟩ := h.nds
  exact ⟨upd_same, up_far l1 h2.e, ⟨vs, up_far l2 (s _ _ hv), rv.mono fun _ _ z => z.tp ((tp_of s).trans tp)⟩, up_far l3 h2.t, up_far l4 h2.i, up_far e7.symm hf, ⟨ws, up_far l6 (s _ _ hw), rw'.mono fun _ _ z => z.tp ((tp_of s).trans tp)⟩,
    by simp only [List.nodup_cons, List.mem_cons, List.not_mem_nil, not_or, or_false, not_false_eq_true]
       exact ⟨⟨d3.symm, d1.symm, c1.symm, e1, b1.symm⟩, ⟨d2.symm, c2.symm, e2, b2.symm⟩, ⟨c3.symm, e3, b3.symm⟩, ⟨e4, b4.symm⟩, e6.symm, trivial, List.nodup_nil⟩⟩
/-- steps is a new list -/
theorem Lan.newSteps {C : Addr} {H0 H : Hp} {A : LnA} {es : List Int} {D : Net} {far : List Int} {sp sp' : Sps} {t : Addr} (h : Lan C H0 A es D far sp) (s : Same H0 H) (n : H0 t = none) (hf : Ls St1 H t sp') :
    Lan C (upd H A.L (.ins C A.dx (fsOf { A with s := t }))) { A with s := t } es D far sp' := by
  obtain ⟨l1, l2, l3, l4, l5, l6⟩ := h.notL
  obtain ⟨vs, hv, rv⟩ := h.a
  obtain ⟨ws, hw, rw'⟩ := hf
  have h2 := h.same s
  have tp : Tp H (upd H A.L (.ins C A.dx (fsOf { A with s := t }))) := tp_ins h2.ins
  have e1 := ne_of_none h.e n
  have e2 := ne_of_none hv n
  have e3 := ne_of_none h.t n
  have e4 := ne_of_none h.i n
  have e6 := ne_of_none h.f n
  have e7 := ne_of_none h.ins n
  obtain ⟨⟨a1, a2, a3, a4, _⟩, _, ⟨c1, c2, c3⟩, ⟨d1, d2⟩, d3⟩ := h.nds
  exact ⟨upd_same, up_far l1 h2.e, ⟨vs, up_far l2 (s _ _ hv), rv.mono fun _ _ z => z.tp ((tp_of s).trans tp)⟩, up_far l3 h2.t, up_far l4 h2.i, up_far l5 h2.f, ⟨ws, up_far e7.symm hw, rw'.mono fun _ _ z => z.tp tp⟩,
    by simp only [List.nodup_cons, List.mem_cons, List.not_mem_nil, not_or, or_false, not_false_eq_true]
       exact ⟨⟨d3.symm, d1.symm, c1.symm, a1.symm, e1⟩, ⟨d2.symm, c2.symm, a2.symm, e2⟩, ⟨c3.symm, a3.symm, e3⟩, ⟨a4.symm, e4⟩, e6, trivial, List.nodup_nil⟩⟩
def sp_Lanes_look (C : Addr) : Sp := fun vs H Q _ => ∃ (A : LnA) (es : List Int) (D : Net) (far : List Int) (sp : Sps) (p : Nat → Int), vs = [.ref A.L] ∧ Lan C H A es D far sp ∧ D.idle.length = D.m ∧ D.taken.length = D.arcs.length ∧ es.length ≤ D.m + 1 ∧ D.m ≤ 500 ∧
  (∀ e, Edge D e → e.s < es.length ∧ e.v < es.length) ∧ Feas D p ∧ p 0 = 0 ∧
  ∀ H' f s far' sp' rk, KeepL [A.L] H H' → H f = none → H s = none → Lan C H' { A with f := f, s := s } es D far' sp' → Seen D es.length far' sp' rk → Q .non H'
section
variable {P : Program} {w : World} {K : PySem.W.Frag} {mg : Str → Option Value} {base : Heap}
theorem ok_Lanes_look (T : Txt K mg) : FnOk P w K mg base CX0 3 T.Lanes_look.f T.Lanes_look.fd ["self"] (sp_Lanes_look T.C) := by
  refine T.Lanes_look.F.ok sc_Lanes_look (fun vs H Q E h => ?_) (fun cdv A outer s H vs Q E hr h => ?_)
  · first | (obtain ⟨_, rfl, _⟩ := h; rfl) | (obtain ⟨_, _, rfl, _⟩ := h; rfl) | (obtain ⟨_, _, _, rfl, _⟩ := h; rfl) | (obtain ⟨_, _, _, _, rfl, _⟩ := h; rfl) | (obtain ⟨_, _, _, _, _, rfl, _⟩ := h; rfl) | (obtain ⟨_, _, _, _, _, _, rfl, _⟩ := h; rfl) | (obtain ⟨_, _, _, _, _, _, _, rfl, _⟩ := h; rfl) | (obtain ⟨_, _, _, _, _, _, _, _, rfl, _⟩ := h; rfl) | (obtain ⟨_, _, _, _, _, _, _, _, _, rfl, _⟩ := h; rfl) | (obtain ⟨_, _, _, _, _, _, _, _, _, _, rfl, _⟩ := h; rfl) | (obtain ⟨_, _, _, _, _, _, _, _, _, _, _, rfl, _⟩ := h; rfl)
  refine ⟨_, (pss_cons (ps_fld (pv 0) (pe_op op_repJ (pe_lst (pa_cons pe_int pa_nil)) (pe_callB call_len_seq (by rfl) T.b_len PySem.boot_len (pa_cons (pe_fld (pv 0) rfl) pa_nil))) rfl)
  (pss_cons (ps_fld (pv 0) (pe_lst (pa_cons pe_non pa_nil)) rfl)
  (pss_cons (ps_for PassesOwn.never rfl (pi_range1 (by rfl) T.b_range (pa_cons (pe_callB call_len_seq (by rfl) T.b_len PySem.boot_len (pa_cons (pe_fld (pv 0) rfl) pa_nil)) pa_nil)) (pg_name (i := 1) sc_Lanes_look.nd rfl (.inl rfl))
  (pss_one (ps_expr (pe_bm PySem.F.plainAttrs_list PySem.F.slot_list_append PySem.F.type_list_append mt_append (pe_fld (pv 0) rfl) (pa_cons (pe_tup (pa_cons (pv 1) (pa_cons (pe_tup (pa_cons pe_str (pa_cons (pv 1) pa_nil))) pa_nil))) pa_nil)))))
  (pss_one (ps_while PassesOwn.never (pt_val (pe_meth0 (pv 0) T.cl T.m_lead_all (ok_Lanes_lead_all T) (hr.mono (by decide)) T.Lanes_lead_all.b .nil pass0))
  (pss_one (ps_set (i := 2) sc_Lanes_look.nd rfl (.inl rfl) pe_bl))))))), ?_⟩
  try dsimp only [cx_K]
  obtain ⟨A, es, D, far, sp, p, rfl, hl, il, tl, hn, hm, nds, F, p0, q⟩ := h
  refine ⟨by show 1 ≤ sizeLine; decide, fun z nz => ?_⟩
  obtain ⟨s1, h1⟩ := newF (o := .lst [.int 0]) nz
  generalize upd H z (.lst [.int 0]) = H1 at s1 h1 ⊢
  have hl1 := hl.same s1
  refine ⟨_, rfl, A.L, T.C, A.dx, _, .ref A.e, rfl, hl1.ins, T.cl, T.n_ends, rfl, A.e, _, rfl, .inl (SqL.of hl1.e), ?_⟩
  rw [List.length_map]
  refine k_rep h1 (by omega) (by omega) fun f H2 s2 nf h2 => ?_
  rw [Int.toNat_natCast, ← List.map_replicate] at h2
  refine ⟨_, rfl, A.L, T.C, A.dx, _, rfl, (hl1.same s2).ins, T.cl, T.n_far, by show 6 < 1000; decide, ?_⟩
  have nfH := s1.free nf
  have hl3 := hl.newFar (s1.trans s2) nfH h2
  have e3 : putF (Str.ofString "far") (V.ref f) (fsOf A) = fsOf { A with f := f } := rfl
  rw [e3]
  have k3 : KeepL [A.L] H (upd H2 A.L (.ins T.C A.dx (fsOf { A with f := f }))) := (KeepL.of (s1.trans s2)).upd _ (by simp)
  generalize upd H2 A.L (.ins T.C A.dx (fsOf { A with f := f })) = H3 at hl3 k3 ⊢
  refine ⟨by show 1 ≤ sizeLine; decide, fun s ns => ?_⟩
  obtain ⟨s4, h4⟩ := newF (o := .lst [.non]) ns
  generalize upd H3 s (.lst [.non]) = H4 at s4 h4 ⊢
  refine ⟨_, rfl, A.L, T.C, A.dx, _, rfl, (hl3.same s4).ins, T.cl, T.n_steps, by show 6 < 1000; decide, ?_⟩
  have hl5 := hl3.newSteps (sp' := [none]) s4 ns ⟨_, h4, Rows.one rfl⟩
  have hne : s ≠ A.L := fun e => by rw [e, hl3.ins] at ns; cases ns
  have nsH : H s = none := by
    cases e : H s with
    | none => rfl
    | some o =>
      have := k3 s o (by simp [hne]) e
      rw [ns] at this
      cases this
  have e5 : putF (Str.ofString "steps") (V.ref s) (fsOf { A with f := f }) = fsOf { A with f := f, s := s } := rfl
  rw [e5]
  have hl5 : Lan T.C (upd H4 A.L (.ins T.C A.dx (fsOf { A with f := f, s := s }))) { A with f := f, s := s } es D (List.replicate es.length 0) [none] := hl5
  have k5 : KeepL [A.L] H (upd H4 A.L (.ins T.C A.dx (fsOf { A with f := f, s := s }))) := (k3.trans (KeepL.of s4)).upd _ (by simp)
  generalize upd H4 A.L (.ins T.C A.dx (fsOf { A with f := f, s := s })) = H5 at hl5 k5 ⊢
  have nd5 := hl5.nds
  refine ⟨_, rfl, A.L, T.C, A.dx, _, .ref A.i, rfl, hl5.ins, T.cl, T.n_idle, rfl, A.i, _, rfl, .inl (SqL.of hl5.i), _, rfl, by rw [List.length_map]; omega, by rw [List.length_map]; omega, ?_⟩
  rw [List.length_map, il, Int.toNat_natCast]
  have e0 : ∀ i, i < D.m → (step0 D.m)[i + 1]? = some (some (i, Kd.idle, i)) := fun i hi => by
    unfold step0
    rw [List.getElem?_cons_succ, List.getElem?_map, List.getElem?_range hi]
    rfl
  have el : (step0 D.m).length = D.m + 1 := by
    unfold step0
    rw [List.length_cons, List.length_map, List.length_range]
  refine for_it (walk_rg (n := D.m)) (fun i σ H' => ∃ y1, σ = [some (.ref A.L), y1, none] ∧ KeepL [A.L] H H' ∧ Lan T.C H' { A with f := f, s := s } es D (List.replicate es.length 0) ((step0 D.m).take (i + 1))) ⟨none, rfl, k5, hl5⟩ (fun _ _ _ _ _ => trivial) ?_ ?_
  · rintro i x σ _ H6 hi ⟨y1, rfl, k6, hl6⟩ ⟨rfl, rfl⟩
    obtain ⟨ws, hw, rw1⟩ := id hl6.s
    have lw := rw1.len
    rw [List.length_take] at lw
    refine ⟨_, rfl, A.L, T.C, A.dx, _, .ref s, rfl, hl6.ins, T.cl, T.n_steps, rfl, .inl ⟨rfl, _, SqL.of hw⟩, _, rfl, _, rfl, by show 2 ≤ sizeLine; decide, fun r nr => ?_⟩
    obtain ⟨s7, h7⟩ := newF (o := .tup [.str (Str.ofString "idle"), .int (i : Int)]) nr
    generalize upd H6 r (.tup [.str (Str.ofString "idle"), .int (i : Int)]) = H7 at s7 h7 ⊢
    refine ⟨by show 2 ≤ sizeLine; decide, fun t nt => ?_⟩
    obtain ⟨s8, h8⟩ := newF (o := .tup [.int (i : Int), .ref r]) nt
    generalize upd H7 t (.tup [.int (i : Int), .ref r]) = H8 at s8 h8 ⊢
    have s68 := s7.trans s8
    refine ⟨s, _, _, rfl, rfl, s68 _ _ hw, szt (by omega), ?_⟩
    have hl8 := hl6.same s68
    have tp8 : Tp H8 (upd H8 s (.lst (ws ++ [.ref t]))) := tp_lst (s68 _ _ hw)
    refine ⟨_, rfl, (k6.trans (KeepL.of s68)).chain (m := [s]) (fun p hp => .inl (by rw [List.mem_singleton.mp hp]; exact nsH)) ((KeepL.refl _ _).upd _ (by simp)), ?_⟩
    refine hl8.led ((KeepL.refl _ H8).upd _ (by simp)) (up_far nd5.1.2.2.2.2 hl8.f) ⟨_, upd_same, ?_⟩
    rw [List.take_add_one, e0 i hi]
    exact (rw1.mono fun _ _ z => z.tp ((tp_of s68).trans tp8)).snoc ⟨t, r, rfl, tp8 _ _ h8, tp8 _ _ (s8 _ _ h7)⟩
  · rintro σ H6 ⟨y1, rfl, k6, hl6⟩
    rw [List.take_of_length_le (by omega)] at hl6
    refine ⟨fun m σ H' => ∃ far sp rk y2, σ = [some (.ref A.L), y1, y2] ∧ KeepL [A.L] H H' ∧ Lan T.C H' { A with f := f, s := s } es D far sp ∧ LI D es.length p far sp rk ∧ psum es.length p - far.sum ≤ (m : Int), ⟨(psum es.length p - (List.replicate es.length (0 : Int)).sum).toNat, _, _, _, _, rfl, k6, hl6, li_start hn F p0, Int.self_le_toNat _⟩, ?_⟩
    rintro m σ H7 ⟨far, sp, rk, y2, rfl, k7, hl7, li, hm7⟩
    have fl := li.fl
    refine ⟨_, rfl, A.L, A.dx, _, rfl, hl7.ins, rfl, { A with f := f, s := s }, es, D, far, sp, rfl, hl7, il, tl, by omega, fun e E => by rw [fl]; exact nds e E, by rw [fl]; exact li.sl, fun H8 k8 hl8 => ⟨_, rfl, ?_⟩⟩
    have k78 := k7.chain (m := [f, s]) (fun p hp => .inl (by
      rcases List.mem_cons.mp hp with e | e
      · rw [e]
        exact nfH
      · rw [List.mem_singleton.mp e]
        exact nsH)) k8
    obtain ⟨rk', li'⟩ := li_fold F nds p0 (edsOf D) (false, far, sp) rk (fun e he => eds_ok he) li
    obtain ⟨g1, g2, g3⟩ := fold_sum (edsOf D) (false, far, sp) fun e he => by
      show e.v < far.length
      rw [fl]
      exact (nds e (eds_ok he)).2
    have hs := li'.sum
    refine ifB (fun hb => ?_) (fun hb => ?_)
    · have := g2 rfl hb
      have : far.sum < _ := this
      exact ⟨_, fun σ' H' h => ⟨m - 1, by omega, h⟩, _, _, rk', _, rfl, k78, hl8, li', by omega⟩
    · obtain ⟨ee, _⟩ := fold_false _ _ hb
      rw [ee] at hl8
      exact q H8 f s far sp rk k78 nfH nsH hl8 (seen_of p0 li hb)
def sp_Lanes_take (C : Addr) : Sp := fun vs H Q _ => ∃ (A : LnA) (es : List Int) (D : Net) (far : List Int) (sp : Sps) (rk : Nat → Nat) (many : Int), vs = [.ref A.L] ∧ Lan C H A es D far sp ∧ NetOk D es.length ∧ Seen D es.length far sp rk ∧ Flow D many ∧
  ∀ H' idle taken, KeepL [A.i, A.t] H H' → Lan C H' A es (D.next idle taken) far sp → NetOk (D.next idle taken) es.length → Flow (D.next idle taken) (many + 1) → (Feas (D.next idle taken) fun v => far.getD v 0) → Q .non H'
/-- idle and taken have changed -/
theorem Lan.took {C : Addr} {H H' : Hp} {A : LnA} {es : List Int} {D : Net} {far : List Int} {sp : Sps} {idle : List Int} {taken : List Bool} (h : Lan C H A es D far sp) (k : KeepL [A.i, A.t] H H') (hi : LsI H' A.i idle) (ht : H' A.t = some (.lst (taken.map V.bl))) : Lan C H' A es (D.next idle taken) far sp := by
  obtain ⟨⟨a1, a2, a3, a4, a5⟩, ⟨b1, b2, b3, b4⟩, ⟨c1, c2, c3⟩, ⟨d1, d2⟩, d3⟩ := h.nds
  obtain ⟨l1, l2, l3, l4, l5, l6⟩ := h.notL
  obtain ⟨vs, hv, rv⟩ := h.a
  obtain ⟨ws, hw, rw'⟩ := h.s
  have g : ∀ b o, b ≠ A.i → b ≠ A.t → H b = some o → H' b = some o := fun b o h1 h2 hb => k b o (by simp [h1, h2]) hb
  have tp : Tp H H' := fun p xs hp => g p _ (fun e => by
    have this : H A.i = some (.lst _) := h.i
    rw [e, this] at hp
    cases hp) (fun e => by
    rw [e, h.t] at hp
    cases hp) hp
  exact ⟨g _ _ l4.symm l3.symm h.ins, g _ _ c1.symm d1.symm h.e, ⟨vs, g _ _ c2.symm d2.symm hv, rv.mono fun _ _ q => q.tp tp⟩, ht, hi, g _ _ a4 a3 h.f, ⟨ws, g _ _ b4 b3 hw, rw'.mono fun _ _ q => q.tp tp⟩, h.nd⟩
theorem ok_Lanes_take (T : Txt K mg) : FnOk P w K mg base CX0 1 T.Lanes_take.f T.Lanes_take.fd ["self"] (sp_Lanes_take T.C) := by
  refine T.Lanes_take.F.ok sc_Lanes_take (fun vs H Q E h => ?_) (fun cdv A outer s H vs Q E hr h => ?_)
  · first | (obtain ⟨_, rfl, _⟩ := h; rfl) | (obtain ⟨_, _, rfl, _⟩ := h; rfl) | (obtain ⟨_, _, _, rfl, _⟩ := h; rfl) | (obtain ⟨_, _, _, _, rfl, _⟩ := h; rfl) | (obtain ⟨_, _, _, _, _, rfl, _⟩ := h; rfl) | (obtain ⟨_, _, _, _, _, _, rfl, _⟩ := h; rfl) | (obtain ⟨_, _, _, _, _, _, _, rfl, _⟩ := h; rfl) | (obtain ⟨_, _, _, _, _, _, _, _, rfl, _⟩ := h; rfl) | (obtain ⟨_, _, _, _, _, _, _, _, _, rfl, _⟩ := h; rfl) | (obtain ⟨_, _, _, _, _, _, _, _, _, _, rfl, _⟩ := h; rfl) | (obtain ⟨_, _, _, _, _, _, _, _, _, _, _, rfl, _⟩ := h; rfl)
  refine ⟨_, (pss_cons (ps_set (i := 1) sc_Lanes_take.nd rfl (.inl rfl) (pe_op op_sub (pe_callB call_len_seq (by rfl) T.b_len PySem.boot_len (pa_cons (pe_fld (pv 0) rfl) pa_nil)) pe_int))
  (pss_one (ps_while PassesOwn.never (pt_cmpR op_gt (pv 1) pe_int (nomark _))
  (pss_cons (ps_asg (pe_ix (ix_listK (K := K) rfl) (pe_fld (pv 0) rfl) (pv 1) (fun _ _ => rfl)) (pg_tupK (K := K) (n := 2) rfl rfl (pgs_cons (pg_name (i := 2) sc_Lanes_take.nd rfl (.inl rfl)) (pgs_cons (pg_name (i := 3) sc_Lanes_take.nd rfl (.inl rfl)) pgs_nil))))
  (pss_cons (ps_if (pt_cmpR op_eq (pe_ix (ix_tupK (K := K) rfl) (pv 3) pe_int (fun _ _ => rfl)) pe_str (nomark _))
  (pss_one (ps_augS (pe_fld (pv 0) rfl) (pe_ix (ix_tupK (K := K) rfl) (pv 3) pe_int (fun _ _ => rfl)) get_list pe_int ip_add set_list))
  (pss_one (ps_if (pt_cmpR op_eq (pe_ix (ix_tupK (K := K) rfl) (pv 3) pe_int (fun _ _ => rfl)) pe_str (nomark _))
  (pss_one (ps_augS (pe_fld (pv 0) rfl) (pe_ix (ix_tupK (K := K) rfl) (pv 3) pe_int (fun _ _ => rfl)) get_list pe_int ip_sub set_list))
  (pss_one (ps_asg (pe_cmpR op_eq (pe_ix (ix_tupK (K := K) rfl) (pv 3) pe_int (fun _ _ => rfl)) pe_str (nomark _)) (pg_sub (pe_fld (pv 0) rfl) (pe_ix (ix_tupK (K := K) rfl) (pv 3) pe_int (fun _ _ => rfl)) set_list))))))
  (pss_one (ps_set (i := 1) sc_Lanes_take.nd rfl (.inl rfl) (pv 2)))))))), ?_⟩
  try dsimp only [cx_K]
  obtain ⟨A, es, D, far, sp, rk, many, rfl, hl, O, S, fl, q⟩ := h
  have nm := O.nm
  refine ⟨_, rfl, A.L, T.C, A.dx, _, .ref A.e, rfl, hl.ins, T.cl, T.n_ends, rfl, A.e, _, rfl, .inl (SqL.of hl.e), _, _, rfl, rfl, ?_⟩
  rw [List.length_map]
  have e0 : (es.length : Int) - 1 = ((es.length - 1 : Nat) : Int) := by omega
  show gName 1 (.int ((es.length : Int) - 1)) _ _ _
  rw [e0]
  refine ⟨fun m σ H' => ∃ (u : Nat) (idle : List Int) (taken : List Bool) (y2 y3 : Option V), σ = [some (.ref A.L), some (.int (u : Int)), y2, y3] ∧ KeepL [A.i, A.t] H H' ∧ Lan T.C H' A es (D.next idle taken) far sp ∧ TI D es.length far rk u idle taken ∧ rk u ≤ m, ⟨rk (es.length - 1), es.length - 1, D.idle, D.taken, none, none, rfl, KeepL.refl _ _, hl, ti_start O S, Nat.le_refl _⟩, ?_⟩
  rintro m σ H1 ⟨u, idle, taken, y2, y3, rfl, k1, hl1, ti, hm⟩
  refine ⟨_, rfl, _, _, rfl, rfl, _, rfl, ?_⟩
  refine ifD (fun hu => ?_) (fun hu => ?_)
  · have hu : 0 < u := by omega
    obtain ⟨e, E, ev, hs, hf, hr⟩ := S.pt u hu ti.hu
    refine ⟨_, fun σ' H' h => ⟨m - 1, by omega, h⟩, ?_⟩
    obtain ⟨ws, hw, rw1⟩ := id hl1.s
    obtain ⟨v, hv, p, r, rfl, hp, hr1⟩ := rw1.at hs
    refine ⟨_, rfl, A.L, T.C, A.dx, _, .ref A.s, rfl, hl1.ins, T.cl, T.n_steps, rfl, _, rfl, A.s, _, _, _, rfl, rfl, SqL.of hw, atI_nat hv, ?_⟩
    refine g_two hp ?_
    have ts := ti_step O S ti E ev hf hr
    have hj : match e.kd with
      | .idle => e.j < idle.length
      | .back => e.j < idle.length
      | _ => e.j < taken.length := by
      have il := ti.il
      have tl := ti.tl
      obtain ⟨es', ev', g, kd, j⟩ := e
      cases kd with
      | idle => exact (by rw [il]; exact E.1 : j < idle.length)
      | back => exact (by rw [il]; exact E.1 : j < idle.length)
      | on =>
        obtain ⟨_, _, _, h1, _⟩ := E
        exact (by rw [tl]; exact (List.getElem?_eq_some_iff.mp h1).1 : j < taken.length)
      | off =>
        obtain ⟨_, _, _, h1, _⟩ := E
        exact (by rw [tl]; exact (List.getElem?_eq_some_iff.mp h1).1 : j < taken.length)
    clear E ev hf hs
    obtain ⟨u2, v2, g, kd, j⟩ := e
    simp only at ts hj hr hr1 hp hv ⊢
    have hi1 : H1 A.i = some (.lst (idle.map V.int)) := hl1.i
    have ht1 : H1 A.t = some (.lst (taken.map V.bl)) := hl1.t
    obtain ⟨_, _, ⟨c1, c2, c3⟩, _⟩ := hl1.nds
    have n1 : ¬ V.str (Str.ofString "back") = V.str (Str.ofString "idle") := by decide
    have n2 : ¬ V.str (Str.ofString "on") = V.str (Str.ofString "idle") := by decide
    have n3 : ¬ V.str (Str.ofString "off") = V.str (Str.ofString "idle") := by decide
    have n4 : ¬ V.str (Str.ofString "on") = V.str (Str.ofString "back") := by decide
    have n5 : ¬ V.str (Str.ofString "off") = V.str (Str.ofString "back") := by decide
    have n6 : ¬ V.str (Str.ofString "off") = V.str (Str.ofString "on") := by decide
    have gi : j < idle.length → (idle.map V.int)[j]? = some (.int (idle.getD j 0)) := fun h => by
      rw [List.getElem?_map, List.getD_eq_getElem?_getD, List.getElem?_eq_getElem h]
      rfl
    refine ⟨_, rfl, r, _, 0, _, rfl, rfl, SqT.of hr1, rfl, rfl, _, rfl, ?_⟩
    cases kd with
    | idle =>
      refine ifY rfl ?_
      have hj : j < idle.length := hj
      refine ⟨_, rfl, A.L, T.C, A.dx, _, .ref A.i, rfl, hl1.ins, T.cl, T.n_idle, rfl, _, rfl, r, _, 1, _, rfl, rfl, SqT.of hr1, rfl, A.i, _, _, _, rfl, rfl, by omega, SqL.of hi1, atI_nat (gi hj), _, _, rfl, rfl, A.i, _, _, j, rfl, rfl, hi1, ixN_nat (by rw [List.length_map]; exact hj), ?_⟩
      rw [← List.map_set]
      have k2 : KeepL [A.i, A.t] H1 (upd H1 A.i (.lst ((idle.set j (idle.getD j 0 + 1)).map V.int))) := (KeepL.refl _ _).upd _ (by simp)
      exact ⟨_, rfl, u2, _, _, _, _, rfl, k1.trans k2, hl1.took k2 upd_same (up_far c3.symm ht1), ts, by omega⟩
    | back =>
      refine ifN n1 ?_
      have hj : j < idle.length := hj
      refine ⟨_, rfl, r, _, 0, _, rfl, rfl, SqT.of hr1, rfl, rfl, _, rfl, ?_⟩
      refine ifY rfl ?_
      refine ⟨_, rfl, A.L, T.C, A.dx, _, .ref A.i, rfl, hl1.ins, T.cl, T.n_idle, rfl, _, rfl, r, _, 1, _, rfl, rfl, SqT.of hr1, rfl, A.i, _, _, _, rfl, rfl, by omega, SqL.of hi1, atI_nat (gi hj), _, _, rfl, rfl, A.i, _, _, j, rfl, rfl, hi1, ixN_nat (by rw [List.length_map]; exact hj), ?_⟩
      rw [← List.map_set]
      have k2 : KeepL [A.i, A.t] H1 (upd H1 A.i (.lst ((idle.set j (idle.getD j 0 - 1)).map V.int))) := (KeepL.refl _ _).upd _ (by simp)
      exact ⟨_, rfl, u2, _, _, _, _, rfl, k1.trans k2, hl1.took k2 upd_same (up_far c3.symm ht1), ts, by omega⟩
    | on =>
      refine ifN n2 ?_
      have hj : j < taken.length := hj
      refine ⟨_, rfl, r, _, 0, _, rfl, rfl, SqT.of hr1, rfl, rfl, _, rfl, ?_⟩
      refine ifN n4 ?_
      refine ⟨_, rfl, r, _, 0, _, rfl, rfl, SqT.of hr1, rfl, rfl, ?_⟩
      refine ⟨_, rfl, A.L, T.C, A.dx, _, .ref A.t, rfl, hl1.ins, T.cl, T.n_taken, rfl, _, rfl, r, _, 1, _, rfl, rfl, SqT.of hr1, rfl, A.t, _, _, j, rfl, rfl, ht1, ixN_nat (by rw [List.length_map]; exact hj), ?_⟩
      have ed : decide (V.str (Str.ofString (kS Kd.on)) = V.str (Str.ofString "on")) = true := decide_eq_true rfl
      rw [ed, ← List.map_set]
      have k2 : KeepL [A.i, A.t] H1 (upd H1 A.t (.lst ((taken.set j true).map V.bl))) := (KeepL.refl _ _).upd _ (by simp)
      exact ⟨_, rfl, u2, _, _, _, _, rfl, k1.trans k2, hl1.took k2 (up_far c3 hi1) upd_same, ts, by omega⟩
    | off =>
      refine ifN n3 ?_
      have hj : j < taken.length := hj
      refine ⟨_, rfl, r, _, 0, _, rfl, rfl, SqT.of hr1, rfl, rfl, _, rfl, ?_⟩
      refine ifN n5 ?_
      refine ⟨_, rfl, r, _, 0, _, rfl, rfl, SqT.of hr1, rfl, rfl, ?_⟩
      refine ⟨_, rfl, A.L, T.C, A.dx, _, .ref A.t, rfl, hl1.ins, T.cl, T.n_taken, rfl, _, rfl, r, _, 1, _, rfl, rfl, SqT.of hr1, rfl, A.t, _, _, j, rfl, rfl, ht1, ixN_nat (by rw [List.length_map]; exact hj), ?_⟩
      have ed : decide (V.str (Str.ofString (kS Kd.off)) = V.str (Str.ofString "on")) = false := decide_eq_false n6
      rw [ed, ← List.map_set]
      have k2 : KeepL [A.i, A.t] H1 (upd H1 A.t (.lst ((taken.set j false).map V.bl))) := (KeepL.refl _ _).upd _ (by simp)
      exact ⟨_, rfl, u2, _, _, _, _, rfl, k1.trans k2, hl1.took k2 (up_far c3 hi1) upd_same, ts, by omega⟩
  · have hu : u = 0 := by omega
    subst hu
    obtain ⟨O', F', fe⟩ := ti_end O fl ti fun c hc => by
      have := S.feas ⟨c, c + 1, 0, .idle, c⟩ ⟨hc, rfl, rfl, rfl⟩
      simp only at this
      omega
    exact q H1 idle taken k1 hl1 O' F' fe
theorem k_index {K : PySem.W.Frag} {H : Hp} {a : Addr} {ns : List Int} {y : Int} {j : Nat} {Q : VK} (h : LsI H a ns) (hs : ns.Pairwise (· < ·)) (e : ns[j]? = some y) (q : Q (.int (j : Int)) H) : jIndex K (.ref a) [.int y] H Q := by
  unfold jIndex
  refine ⟨a, _, _, j, .int y, rfl, rfl, SqL.of h, rfl, ?_, by rw [List.getElem?_map, e]; rfl, beq_self_eq_true y, fun m z hm hz => ?_, q⟩
  · rw [List.all_map, List.all_eq_true]
    exact fun _ _ => rfl
  · rw [List.getElem?_map] at hz
    cases ez : ns[m]? with
    | none =>
      rw [ez] at hz
      cases hz
    | some x =>
      rw [ez] at hz
      have hz : V.int x = z := Option.some.inj hz
      subst hz
      have := (srt_lt hs ez e).mp hm
      show (x == y) = false
      exact beq_eq_false_iff_ne.mpr (by omega)
theorem mem_ends {ss : List Spn} {s : Spn} (h : s ∈ ss) : s.1 ∈ ends ss ∧ s.2 ∈ ends ss := by
  unfold ends
  rw [mem_sortU, mem_sortU]
  exact ⟨List.mem_append_left _ (List.mem_map.mpr ⟨s, h, rfl⟩), List.mem_append_right _ (List.mem_map.mpr ⟨s, h, rfl⟩)⟩
/-- the arcs so far -/
structure ArcsTo (es : List Int) (ss : List Spn) (ws : List Int) (n : Nat) (arcs : List (Nat × Nat × Int)) : Prop where
  len : arcs.length = n
  arc : ∀ (i : Nat) (s : Spn), i < n → ss[i]? = some s → ∃ a b, arcs[i]? = some (a, b, ws.getD i 0) ∧ es[a]? = some s.1 ∧ es[b]? = some s.2
def sp_Lanes_init (C : Addr) : Sp := fun vs H Q _ => ∃ (x a b dx : Addr) (ss : List Spn) (ws : List Int), vs = [.ref x, .ref a, .ref b] ∧ H x = some (.ins C dx []) ∧ LsP H a ss ∧ LsI H b ws ∧ ws.length = ss.length ∧ ss.length ≤ 20 ∧
  ∀ H' A arcs, KeepL [x] H H' → A.L = x → Lan C H' A (ends ss) ⟨(ends ss).length - 1, arcs, List.replicate ((ends ss).length - 1) 0, List.replicate ss.length false⟩ [] [] → ArcsOf (ends ss) ss ws arcs → (∀ p ∈ [A.t, A.i, A.f, A.s], H p = none) → Q .non H'
theorem keep_none {l : List Addr} {H H' : Hp} {p : Addr} (k : KeepL l H H') (hn : p ∉ l) (h : H' p = none) : H p = none := by
  cases e : H p with
  | none => rfl
  | some o =>
    have := k p o hn e
    rw [h] at this
    cases this
theorem fld_step {C dx x p : Addr} {H H1 H2 : Hp} {fs fs' : List (Str × V)} {o : HO} (k : KeepL [x] H H1) (hx : H1 x = some (.ins C dx fs)) (s : Same H1 H2) (n : H1 p = none) (hp : H2 p = some o) :
    KeepL [x] H (upd H2 x (.ins C dx fs')) ∧ KeepL [x] H1 (upd H2 x (.ins C dx fs')) ∧ upd H2 x (.ins C dx fs') p = some o ∧ upd H2 x (.ins C dx fs') x = some (.ins C dx fs') ∧ p ≠ x ∧ H p = none := by
  have nx : p ≠ x := (ne_of_none hx n).symm
  have k2 : KeepL [x] H1 (upd H2 x (.ins C dx fs')) := (KeepL.of s).upd _ (by simp)
  exact ⟨k.trans k2, k2, up_far nx hp, upd_same, nx, keep_none k (by simp [nx]) n⟩
theorem keep_tp {C dx x : Addr} {H H' : Hp} {fs : List (Str × V)} (k : KeepL [x] H H') (hx : H x = some (.ins C dx fs)) : Tp H H' := fun p xs h => k p _ (fun hm => by
  rw [List.mem_singleton.mp hm, hx] at h
  cases h) h
theorem keep_tpL {x : Addr} {H H' : Hp} {xs : List V} (k : KeepL [x] H H') (hx : H x = some (.lst xs)) : Tp H H' := fun p xs h => k p _ (fun hm => by
  rw [List.mem_singleton.mp hm, hx] at h
  cases h) h
theorem keep_P {C dx x a : Addr} {H H' : Hp} {fs : List (Str × V)} {ss : List Spn} (k : KeepL [x] H H') (hx : H x = some (.ins C dx fs)) (h : LsP H a ss) : LsP H' a ss := by
  obtain ⟨us, hu, ru⟩ := h
  refine ⟨us, k a _ (fun hm => ?_) hu, ru.mono fun _ _ z => z.tp (keep_tp k hx)⟩
  rw [List.mem_singleton.mp hm, hx] at hu
  cases hu
theorem ok_Lanes_init (T : Txt K mg) : FnOk P w K mg base CX0 2 T.Lanes_init.f T.Lanes_init.fd ["self", "spans", "weights"] (sp_Lanes_init T.C) := by
  refine T.Lanes_init.F.ok sc_Lanes_init (fun vs H Q E h => ?_) (fun cdv A outer s H vs Q E hr h => ?_)
  · first | (obtain ⟨_, rfl, _⟩ := h; rfl) | (obtain ⟨_, _, rfl, _⟩ := h; rfl) | (obtain ⟨_, _, _, rfl, _⟩ := h; rfl) | (obtain ⟨_, _, _, _, rfl, _⟩ := h; rfl) | (obtain ⟨_, _, _, _, _, rfl, _⟩ := h; rfl) | (obtain ⟨_, _, _, _, _, _, rfl, _⟩ := h; rfl) | (obtain ⟨_, _, _, _, _, _, _, rfl, _⟩ := h; rfl) | (obtain ⟨_, _, _, _, _, _, _, _, rfl, _⟩ := h; rfl) | (obtain ⟨_, _, _, _, _, _, _, _, _, rfl, _⟩ := h; rfl) | (obtain ⟨_, _, _, _, _, _, _, _, _, _, rfl, _⟩ := h; rfl) | (obtain ⟨_, _, _, _, _, _, _, _, _, _, _, rfl, _⟩ := h; rfl)
  refine ⟨_, (pss_cons (ps_fld (pv 0) (pe_call (ok_ends_of T) (hr.mono (by decide)) (by rfl) T.ends_of.g T.ends_of.F.kp T.ends_of.b .nil pass0 (pa_cons (pv 1) pa_nil)) rfl)
  (pss_cons (ps_fld (pv 0) (pe_lst pa_nil) rfl)
  (pss_cons (ps_for PassesOwn.never rfl (pi_zip (by rfl) T.b_zip (pa_cons (pv 1) (pa_cons (pv 2) pa_nil))) (pg_tupK (K := K) (n := 2) rfl rfl (pgs_cons (pg_name (i := 3) sc_Lanes_init.nd rfl (.inl rfl)) (pgs_cons (pg_name (i := 4) sc_Lanes_init.nd rfl (.inl rfl)) pgs_nil)))
  (pss_one (ps_expr (pe_bm PySem.F.plainAttrs_list PySem.F.slot_list_append PySem.F.type_list_append mt_append (pe_fld (pv 0) rfl) (pa_cons (pe_tup (pa_cons (pe_bm PySem.F.plainAttrs_list PySem.F.slot_list_index PySem.F.type_list_index (mt_indexJ (K := K) rfl) (pe_fld (pv 0) rfl) (pa_cons (pe_ix (ix_tupK (K := K) rfl) (pv 3) pe_int (fun _ _ => rfl)) pa_nil)) (pa_cons (pe_bm PySem.F.plainAttrs_list PySem.F.slot_list_index PySem.F.type_list_index (mt_indexJ (K := K) rfl) (pe_fld (pv 0) rfl) (pa_cons (pe_ix (ix_tupK (K := K) rfl) (pv 3) pe_int (fun _ _ => rfl)) pa_nil)) (pa_cons (pv 4) pa_nil)))) pa_nil)))))
  (pss_cons (ps_fld (pv 0) (pe_op op_repJ (pe_lst (pa_cons pe_bl pa_nil)) (pe_callB call_len_seq (by rfl) T.b_len PySem.boot_len (pa_cons (pv 1) pa_nil))) rfl)
  (pss_cons (ps_fld (pv 0) (pe_op op_repJ (pe_lst (pa_cons pe_int pa_nil)) (pe_callB (call_max2 rfl) (by rfl) T.b_max (by decide +kernel) (pa_cons pe_int (pa_cons (pe_op op_sub (pe_callB call_len_seq (by rfl) T.b_len PySem.boot_len (pa_cons (pe_fld (pv 0) rfl) pa_nil)) pe_int) pa_nil)))) rfl)
  (pss_cons (ps_fld (pv 0) (pe_lst pa_nil) rfl)
  (pss_one (ps_fld (pv 0) (pe_lst pa_nil) rfl)))))))), ?_⟩
  try dsimp only [cx_K]
  obtain ⟨x, a, b, dx, ss, ws, rfl, hx, hl, hw, hlw, hn, q⟩ := h
  have hb : H b = some (.lst (ws.map V.int)) := hw
  have xb : b ≠ x := fun e => by rw [e, hx] at hb; cases hb
  refine ⟨_, rfl, a, ss, rfl, hl, hn, fun H1 e s1 n1 h1 => ?_⟩
  have h1 : H1 e = some (.lst ((ends ss).map V.int)) := h1
  have lE := sub_ends ss
  refine ⟨_, rfl, x, T.C, dx, [], rfl, s1 _ _ hx, T.cl, T.n_ends, by show 0 < 1000; decide, ?_⟩
  obtain ⟨k2, _, he2, hx2, nex, neH⟩ := fld_step (fs' := [(Str.ofString "ends", .ref e)]) (KeepL.refl [x] H) hx s1 n1 h1
  show tSeq _ _ _ _ (upd H1 x (.ins T.C dx [(Str.ofString "ends", .ref e)]))
  generalize upd H1 x (.ins T.C dx [(Str.ofString "ends", .ref e)]) = H2 at k2 he2 hx2 ⊢
  refine ⟨Nat.zero_le _, fun ar nar => ?_⟩
  obtain ⟨s3, h3⟩ := newF (o := .lst []) nar
  generalize upd H2 ar (.lst []) = H3 at s3 h3 ⊢
  refine ⟨_, rfl, x, T.C, dx, _, rfl, s3 _ _ hx2, T.cl, T.n_arcs, by show 1 < 1000; decide, ?_⟩
  obtain ⟨k4, kk4, ha4, hx4, nax, naH⟩ := fld_step (fs' := [(Str.ofString "ends", .ref e), (Str.ofString "arcs", .ref ar)]) k2 hx2 s3 nar h3
  have he4 := kk4 _ _ (by simp [nex]) he2
  have nae : ar ≠ e := (ne_of_none he2 nar).symm
  show tSeq _ _ _ _ (upd H3 x (.ins T.C dx [(Str.ofString "ends", .ref e), (Str.ofString "arcs", .ref ar)]))
  generalize upd H3 x (.ins T.C dx [(Str.ofString "ends", .ref e), (Str.ofString "arcs", .ref ar)]) = H4 at k4 ha4 hx4 he4 ⊢
  clear s1 n1 h1 s3 h3 nar hx2 he2 k2 kk4
  obtain ⟨us, hu, ru⟩ := keep_P k4 hx hl
  have nra : ar ≠ a := by
    obtain ⟨us0, hu0, _⟩ := hl
    exact (ne_of_none hu0 naH).symm
  have nrb : ar ≠ b := (ne_of_none hb naH).symm
  have hb4 := k4 _ _ (by simp [xb]) hb
  refine ⟨_, rfl, _, rfl, a, b, _, _, rfl, SqL.of hu, SqL.of hb4, for_it (walk_zip (n := ss.length) (xs := us) (ys := ws.map V.int) (by rw [ru.len, List.length_map, hlw, Nat.min_self]))
    (fun i σ H' => ∃ (y3 y4 : Option V) (arcs : List (Nat × Nat × Int)), σ = [some (.ref x), some (.ref a), some (.ref b), y3, y4] ∧ KeepL [x] H H' ∧ KeepL [ar] H4 H' ∧ Ls Ar H' ar arcs ∧ ArcsTo (ends ss) ss ws i arcs) ?_ ?_ ?_ ?_⟩
  · exact ⟨none, none, [], rfl, k4, KeepL.refl _ _, ⟨[], ha4, Rows.nil⟩, rfl, fun i s h => absurd h (Nat.not_lt_zero i)⟩
  · rintro i σ H' hi ⟨y3, y4, arcs, rfl, k, k', _⟩
    exact ⟨SqL.of (k' _ _ (by simp [nra.symm]) hu), SqL.of (k' _ _ (by simp [nrb.symm]) hb4)⟩
  · rintro i y σ H5 _ hi ⟨y3, y4, arcs, rfl, k5, k45, ha5, at5⟩ ⟨T1, x1, x2, rfl, nT, rfl, hx1, hy1⟩
    obtain ⟨s, es, rs⟩ := ru.get hx1
    obtain ⟨wt, ew, r2⟩ := (int_rows (H := fun _ => none) ws).get hy1
    have r2 : x2 = .int wt := r2
    subst r2
    obtain ⟨p, rfl, hp⟩ := rs
    obtain ⟨s6, h6⟩ := newF (o := .tup [.ref p, .int wt]) nT
    generalize upd H5 T1 (.tup [.ref p, .int wt]) = H6 at s6 h6 ⊢
    have k46 := k45.trans (KeepL.of s6)
    have hp6 := keep_tpL k46 ha4 _ _ hp
    have hx6 := k46 _ _ (by simp [nax.symm]) hx4
    have he6 : LsI H6 e (ends ss) := k46 _ _ (by simp [nae.symm]) he4
    obtain ⟨as, hva, rva⟩ := Ls.same (fun t k => k.tp t) s6 ha5
    have hsm := List.mem_of_getElem? es
    obtain ⟨m1, m2⟩ := mem_ends hsm
    obtain ⟨ja, ea⟩ := List.mem_iff_getElem?.mp m1
    obtain ⟨jb, eb⟩ := List.mem_iff_getElem?.mp m2
    have srt : (ends ss).Pairwise (· < ·) := sortU_lt _
    have ewd : ws.getD i 0 = wt := by rw [List.getD_eq_getElem?_getD, ew, Option.getD_some]
    refine g_two h6 ?_
    refine ⟨_, rfl, x, T.C, dx, _, .ref ar, rfl, hx6, T.cl, T.n_arcs, rfl, .inl ⟨rfl, _, SqL.of hva⟩, ?_⟩
    refine ⟨_, rfl, x, T.C, dx, _, .ref e, rfl, hx6, T.cl, T.n_ends, rfl, .inl ⟨rfl, _, SqL.of he6⟩, _, rfl, p, _, 0, _, rfl, rfl, SqT.of hp6, rfl, k_index he6 srt ea ?_⟩
    refine ⟨_, rfl, x, T.C, dx, _, .ref e, rfl, hx6, T.cl, T.n_ends, rfl, .inl ⟨rfl, _, SqL.of he6⟩, _, rfl, p, _, 1, _, rfl, rfl, SqT.of hp6, rfl, k_index he6 srt eb ?_⟩
    refine ⟨_, rfl, by show 3 ≤ sizeLine; decide, fun r nr => ?_⟩
    obtain ⟨s7, h7⟩ := newF (o := .tup [.int (ja : Int), .int (jb : Int), .int wt]) nr
    generalize upd H6 r (.tup [.int (ja : Int), .int (jb : Int), .int wt]) = H7 at s7 h7 ⊢
    refine ⟨ar, _, _, rfl, rfl, s7 _ _ hva, szt (by rw [rva.len, at5.len]; omega), ?_⟩
    have k57 := KeepL.of (l := [x]) (s6.trans s7)
    have t8 : Tp H7 (upd H7 ar (.lst (as ++ [.ref r]))) := tp_lst (s7 _ _ hva)
    refine ⟨_, _, arcs ++ [(ja, jb, wt)], rfl, (k5.trans k57).chain (m := [ar]) (fun q hq => .inl (by rw [List.mem_singleton.mp hq]; exact naH)) ((KeepL.refl _ _).upd _ (by simp)), (k46.trans (KeepL.of s7)).upd _ (by simp), ⟨_, upd_same, (rva.mono fun _ _ z => z.tp ((tp_of s7).trans t8)).snoc ⟨r, rfl, t8 _ _ h7⟩⟩, by rw [List.length_append, at5.len, List.length_singleton], fun j t hj ht => ?_⟩
    by_cases ej : j = i
    · subst ej
      rw [es] at ht
      have ht := Option.some.inj ht
      subst ht
      refine ⟨ja, jb, ?_, ea, eb⟩
      rw [ewd, ← at5.len, List.getElem?_concat_length]
    · obtain ⟨a', b', g1, g2, g3⟩ := at5.arc j t (by omega) ht
      exact ⟨a', b', by rw [List.getElem?_append_left (by rw [at5.len]; omega)]; exact g1, g2, g3⟩
  · rintro σ H5 ⟨y3, y4, arcs, rfl, k5, k45, ha5, at5⟩
    have hx5 := k45 _ _ (by simp [nax.symm]) hx4
    have he5 := k45 _ _ (by simp [nae.symm]) he4
    have hu5 := k45 _ _ (by simp [nra.symm]) hu
    obtain ⟨as, hva, rva⟩ := ha5
    have k5x : KeepL [x] H H5 := k5
    refine ⟨by show 1 ≤ sizeLine; decide, fun z nz => ?_⟩
    obtain ⟨s6, h6⟩ := newF (o := .lst [.bl false]) nz
    generalize upd H5 z (.lst [.bl false]) = H6 at s6 h6 ⊢
    refine ⟨_, rfl, a, us, rfl, .inl (SqL.of (s6 _ _ hu5)), ?_⟩
    refine k_rep h6 (by omega) (by rw [ru.len]; omega) fun tk H7 s7 nt h7 => ?_
    rw [ru.len, Int.toNat_natCast, ← List.map_replicate] at h7
    refine ⟨_, rfl, x, T.C, dx, _, rfl, (s6.trans s7) _ _ hx5, T.cl, T.n_taken, by show 2 < 1000; decide, ?_⟩
    obtain ⟨k8, kk8, ht8, hx8, ntx, ntH⟩ := fld_step (fs' := [(Str.ofString "ends", .ref e), (Str.ofString "arcs", .ref ar), (Str.ofString "taken", .ref tk)]) k5x hx5 (s6.trans s7) (s6.free nt) h7
    have he8 := kk8 _ _ (by simp [nex]) he5
    have ha8 := kk8 _ _ (by simp [nax]) hva
    have ra8 := rva.mono fun _ _ z => z.tp (keep_tp kk8 hx5)
    have nte : tk ≠ e := (ne_of_none he5 (s6.free nt)).symm
    have nta : tk ≠ ar := (ne_of_none hva (s6.free nt)).symm
    show tSeq _ _ _ _ (upd H7 x (.ins T.C dx [(Str.ofString "ends", .ref e), (Str.ofString "arcs", .ref ar), (Str.ofString "taken", .ref tk)]))
    generalize upd H7 x (.ins T.C dx [(Str.ofString "ends", .ref e), (Str.ofString "arcs", .ref ar), (Str.ofString "taken", .ref tk)]) = H8 at k8 ht8 hx8 he8 ha8 ra8 ⊢
    clear kk8 s6 s7 nt h7 h6 nz k5x k5 k45 hx5 he5 hu5 rva hva
    refine ⟨by show 1 ≤ sizeLine; decide, fun z nz => ?_⟩
    obtain ⟨s6, h6⟩ := newF (o := .lst [.int 0]) nz
    generalize upd H8 z (.lst [.int 0]) = H9 at s6 h6 ⊢
    refine ⟨_, rfl, x, T.C, dx, _, .ref e, rfl, s6 _ _ hx8, T.cl, T.n_ends, rfl, e, _, rfl, .inl (SqL.of (s6 _ _ he8)), _, _, rfl, rfl, _, _, rfl, ?_⟩
    rw [List.length_map]
    have em : (if ((ends ss).length : Int) - 1 > 0 then ((ends ss).length : Int) - 1 else 0) = (((ends ss).length - 1 : Nat) : Int) := by split <;> omega
    show jRep _ (.int (if ((ends ss).length : Int) - 1 > 0 then ((ends ss).length : Int) - 1 else 0)) _ _
    rw [em]
    refine k_rep h6 (by omega) (by omega) fun il H10 s10 ni h10 => ?_
    rw [Int.toNat_natCast, ← List.map_replicate] at h10
    refine ⟨_, rfl, x, T.C, dx, _, rfl, (s6.trans s10) _ _ hx8, T.cl, T.n_idle, by show 3 < 1000; decide, ?_⟩
    obtain ⟨k11, kk11, hi11, hx11, nix, niH⟩ := fld_step (fs' := [(Str.ofString "ends", .ref e), (Str.ofString "arcs", .ref ar), (Str.ofString "taken", .ref tk), (Str.ofString "idle", .ref il)]) k8 hx8 (s6.trans s10) (s6.free ni) h10
    have he11 := kk11 _ _ (by simp [nex]) he8
    have ha11 := kk11 _ _ (by simp [nax]) ha8
    have ht11 := kk11 _ _ (by simp [ntx]) ht8
    have ra11 := ra8.mono fun _ _ z => z.tp (keep_tp kk11 hx8)
    have nie : il ≠ e := (ne_of_none he8 (s6.free ni)).symm
    have nia : il ≠ ar := (ne_of_none ha8 (s6.free ni)).symm
    have nit : il ≠ tk := (ne_of_none ht8 (s6.free ni)).symm
    show tSeq _ _ _ _ (upd H10 x (.ins T.C dx [(Str.ofString "ends", .ref e), (Str.ofString "arcs", .ref ar), (Str.ofString "taken", .ref tk), (Str.ofString "idle", .ref il)]))
    generalize upd H10 x (.ins T.C dx [(Str.ofString "ends", .ref e), (Str.ofString "arcs", .ref ar), (Str.ofString "taken", .ref tk), (Str.ofString "idle", .ref il)]) = H11 at k11 hi11 hx11 he11 ha11 ht11 ra11 ⊢
    clear kk11 s6 s10 ni h10 h6 nz k8 hx8 he8 ha8 ht8 ra8
    refine ⟨Nat.zero_le _, fun f nf => ?_⟩
    obtain ⟨s12, h12⟩ := newF (o := .lst []) nf
    generalize upd H11 f (.lst []) = H12 at s12 h12 ⊢
    refine ⟨_, rfl, x, T.C, dx, _, rfl, s12 _ _ hx11, T.cl, T.n_far, by show 4 < 1000; decide, ?_⟩
    obtain ⟨k13, kk13, hf13, hx13, nfx, nfH⟩ := fld_step (fs' := [(Str.ofString "ends", .ref e), (Str.ofString "arcs", .ref ar), (Str.ofString "taken", .ref tk), (Str.ofString "idle", .ref il), (Str.ofString "far", .ref f)]) k11 hx11 s12 nf h12
    have he13 := kk13 _ _ (by simp [nex]) he11
    have ha13 := kk13 _ _ (by simp [nax]) ha11
    have ht13 := kk13 _ _ (by simp [ntx]) ht11
    have hi13 := kk13 _ _ (by simp [nix]) hi11
    have ra13 := ra11.mono fun _ _ z => z.tp (keep_tp kk13 hx11)
    have nfe : f ≠ e := (ne_of_none he11 nf).symm
    have nfa : f ≠ ar := (ne_of_none ha11 nf).symm
    have nft : f ≠ tk := (ne_of_none ht11 nf).symm
    have nfi : f ≠ il := (ne_of_none hi11 nf).symm
    have ef : putF (Str.ofString "far") (V.ref f) [(Str.ofString "ends", V.ref e), (Str.ofString "arcs", V.ref ar), (Str.ofString "taken", V.ref tk), (Str.ofString "idle", V.ref il)] = [(Str.ofString "ends", .ref e), (Str.ofString "arcs", .ref ar), (Str.ofString "taken", .ref tk), (Str.ofString "idle", .ref il), (Str.ofString "far", .ref f)] := rfl
    rw [ef]
    generalize upd H12 x (.ins T.C dx [(Str.ofString "ends", .ref e), (Str.ofString "arcs", .ref ar), (Str.ofString "taken", .ref tk), (Str.ofString "idle", .ref il), (Str.ofString "far", .ref f)]) = H13 at k13 hf13 hx13 he13 ha13 ht13 hi13 ra13 ⊢
    clear kk13 s12 nf h12 k11 hx11 he11 ha11 ht11 hi11 ra11
    refine ⟨Nat.zero_le _, fun st nf => ?_⟩
    obtain ⟨s14, h14⟩ := newF (o := .lst []) nf
    generalize upd H13 st (.lst []) = H14 at s14 h14 ⊢
    refine ⟨_, rfl, x, T.C, dx, _, rfl, s14 _ _ hx13, T.cl, T.n_steps, by show 5 < 1000; decide, ?_⟩
    obtain ⟨k15, kk15, hs15, hx15, nsx, nsH⟩ := fld_step (fs' := fsOf ⟨x, dx, e, ar, tk, il, f, st⟩) k13 hx13 s14 nf h14
    have nse : st ≠ e := (ne_of_none he13 nf).symm
    have nsa : st ≠ ar := (ne_of_none ha13 nf).symm
    have nst : st ≠ tk := (ne_of_none ht13 nf).symm
    have nsi : st ≠ il := (ne_of_none hi13 nf).symm
    have nsf : st ≠ f := (ne_of_none hf13 nf).symm
    refine q _ ⟨x, dx, e, ar, tk, il, f, st⟩ arcs k15 rfl ⟨hx15, kk15 _ _ (by simp [nex]) he13, ⟨as, kk15 _ _ (by simp [nax]) ha13, ra13.mono fun _ _ z => z.tp (keep_tp kk15 hx13)⟩, kk15 _ _ (by simp [ntx]) ht13, kk15 _ _ (by simp [nix]) hi13, kk15 _ _ (by simp [nfx]) hf13, ⟨[], hs15, Rows.nil⟩, ?_⟩ ⟨at5.len, sortU_lt _, fun i s hs => at5.arc i s (List.getElem?_eq_some_iff.mp hs).1 hs⟩ ?_
    · simp only [List.nodup_cons, List.mem_cons, List.not_mem_nil, not_or, or_false, not_false_eq_true]
      exact ⟨⟨nae.symm, nte.symm, nie.symm, nfe.symm, nse.symm⟩, ⟨nta.symm, nia.symm, nfa.symm, nsa.symm⟩, ⟨nit.symm, nft.symm, nst.symm⟩, ⟨nfi.symm, nsi.symm⟩, nsf.symm, trivial, List.nodup_nil⟩
    · intro p hp
      simp only [List.mem_cons, List.not_mem_nil, or_false] at hp
      rcases hp with rfl | rfl | rfl | rfl
      · exact ntH
      · exact niH
      · exact nfH
      · exact nsH
end

theorem hv_nil (ws : List Int) {k : Int} (h : 0 ≤ k) (P : Nat → Bool) : IsHv [] ws k (wSum ws ([] : List Spn).length P) :=
  ⟨⟨P, fun p => h, rfl⟩, fun Q _ => Int.le_refl _⟩
theorem feas0 {es : List Int} {ss : List Spn} {ws : List Int} {arcs : List (Nat × Nat × Int)} (A : ArcsOf es ss ws arcs) (hw : ∀ x ∈ ws, 0 ≤ x ∧ x ≤ 1000000000) (hl : ws.length = ss.length) (hok : ∀ s ∈ ss, okS s) :
    (Feas ⟨es.length - 1, arcs, List.replicate (es.length - 1) 0, List.replicate ss.length false⟩ fun v => (v : Int) * 1000000000) ∧
    (∀ e, Edge ⟨es.length - 1, arcs, List.replicate (es.length - 1) 0, List.replicate ss.length false⟩ e → e.s < es.length ∧ e.v < es.length) ∧
    ∀ (i a b : Nat) (w : Int), arcs[i]? = some (a, b, w) → a < b ∧ b < es.length ∧ w ≤ 1000000000 := by
  have g0 : ∀ (n c : Nat), (List.replicate n (0 : Int)).getD c 0 = 0 := fun n c => by
    rw [List.getD_eq_getElem?_getD, List.getElem?_replicate]
    split <;> rfl
  have gf : ∀ (n c : Nat), (List.replicate n false).getD c false = false := fun n c => by
    rw [List.getD_eq_getElem?_getD, List.getElem?_replicate]
    split <;> rfl
  have arc : ∀ (i a b : Nat) (w : Int), arcs[i]? = some (a, b, w) → a < b ∧ b < es.length ∧ w ≤ 1000000000 := fun i a b w h => by
    have hi : i < ss.length := by
      rw [← A.len]
      exact (List.getElem?_eq_some_iff.mp h).1
    obtain ⟨s, hs⟩ : ∃ s, ss[i]? = some s := ⟨_, List.getElem?_eq_getElem hi⟩
    obtain ⟨a', b', e1, e2, e3⟩ := A.arc i s hs
    rw [h] at e1
    obtain ⟨rfl, hq⟩ := Prod.mk.inj (Option.some.inj e1)
    obtain ⟨rfl, rfl⟩ := Prod.mk.inj hq
    have ho := hok s (List.mem_of_getElem? hs)
    refine ⟨(srt_lt A.srt e2 e3).mpr ho.2.1, (List.getElem?_eq_some_iff.mp e3).1, ?_⟩
    have : ws[i]? = some (ws.getD i 0) := by rw [List.getD_eq_getElem?_getD, List.getElem?_eq_getElem (by omega), Option.getD_some]
    exact (hw _ (List.mem_of_getElem? this)).2
  refine ⟨fun e E => ?_, fun e E => ?_, arc⟩
  · obtain ⟨s, v, g, kd, j⟩ := e
    cases kd with
    | idle =>
      obtain ⟨h1, h2, h3, h4⟩ := E
      simp only at h1 h2 h3 h4 ⊢
      subst h2 h3 h4
      omega
    | back =>
      obtain ⟨_, h, _⟩ := E
      simp only [g0] at h
      omega
    | on =>
      obtain ⟨a, b, w, h1, _, h2, h3, h4⟩ := E
      simp only at h1 h2 h3 h4 ⊢
      subst h2 h3 h4
      have := arc _ _ _ _ h1
      omega
    | off =>
      obtain ⟨a, b, w, h1, h0, h2, h3, h4⟩ := E
      simp only [gf] at h0
      cases h0
  · obtain ⟨s, v, g, kd, j⟩ := e
    cases kd with
    | idle =>
      obtain ⟨h1, h2, h3, h4⟩ := E
      simp only at h1 h2 h3 h4 ⊢
      omega
    | back =>
      obtain ⟨_, h, _⟩ := E
      simp only [g0] at h
      omega
    | on =>
      obtain ⟨a, b, w, h1, _, h2, h3, h4⟩ := E
      simp only at h1 h2 h3 h4 ⊢
      have := arc _ _ _ _ h1
      omega
    | off =>
      obtain ⟨a, b, w, h1, h0, h2, h3, h4⟩ := E
      simp only [gf] at h0
      cases h0
def Bl (_ : Hp) (v : V) (x : Bool) : Prop := v = .bl x
theorem bl_rows {H : Hp} : ∀ (xs : List Bool), Rows (Bl H) (xs.map V.bl) xs
  | [] => Rows.nil
  | x :: xs => Rows.cons rfl (bl_rows xs)
theorem taken_nums (taken : List Bool) : taken.zipIdx.filterMap (fun x => if x.1 = true then some (x.2 : Int) else none) = natsI ((List.range taken.length).filter (tkF taken)) := by
  have h := range_fm taken.zipIdx (fun x => if x.1 = true then some (x.2 : Int) else none) (fun i => if tkF taken i = true then some (i : Int) else none) fun i x hx => by
    obtain ⟨b, j⟩ := x
    rw [List.getElem?_zipIdx] at hx
    cases e : taken[i]? with
    | none =>
      rw [e] at hx
      cases hx
    | some c =>
      rw [e] at hx
      obtain ⟨rfl, hj⟩ := Prod.mk.inj (Option.some.inj hx)
      have : tkF taken i = c := by
        show taken.getD i false = c
        rw [List.getD_eq_getElem?_getD, e, Option.getD_some]
      simp only [this]
      split
      · congr 1
        omega
      · rfl
  rw [← h, List.length_zipIdx]
  unfold natsI
  generalize List.range taken.length = l
  induction l with
  | nil => rfl
  | cons x l ih =>
    rw [List.filterMap_cons, List.filter_cons]
    by_cases h : tkF taken x = true
    · rw [if_pos h, if_pos h, ih, List.map_cons]
      rfl
    · rw [if_neg h, if_neg h, ih]
def sp_heaviest : Sp := fun vs H Q _ => ∃ (a b : Addr) (ss : List Spn) (ws : List Int) (k : Int), vs = [.ref a, .ref b, .int k] ∧ LsP H a ss ∧ LsI H b ws ∧ ws.length = ss.length ∧ ss.length ≤ 20 ∧ (∀ s ∈ ss, okS s) ∧ (∀ x ∈ ws, 0 ≤ x ∧ x ≤ 1000000000) ∧ (1 ≤ k ∧ k ≤ 20) ∧
  ∀ H' t c v T, Same H H' → H t = none → H' t = some (.tup [.ref c, v]) → LsI H' c (natsI ((List.range ss.length).filter T)) → IsHv ss ws k (wSum ws ss.length T) → Q (.ref t) H'
structure HvS (C : Addr) (H H' : Hp) (A : LnA) (ss : List Spn) (arcs : List (Nat × Nat × Int)) (D : Net) (far : List Int) (sp : Sps) (rk : Nat → Nat) (many : Nat) : Prop where
  sm : Same H H'
  nL : H A.L = none
  ni : H A.i = none
  nt : H A.t = none
  lan : Lan C H' A (ends ss) D far sp
  m : D.m = (ends ss).length - 1
  ar : D.arcs = arcs
  il : D.idle.length = D.m
  tl : D.taken.length = D.arcs.length
  seen : Seen D (ends ss).length far sp rk
  net : ss ≠ [] → NetOk D (ends ss).length ∧ Flow D many
theorem ends_pos {ss : List Spn} (h : ss ≠ []) : 0 < (ends ss).length := by
  obtain ⟨s, l, rfl⟩ := List.exists_cons_of_ne_nil h
  exact List.length_pos_of_mem (mem_ends (List.mem_cons_self)).1
theorem net0 {ss : List Spn} {arcs : List (Nat × Nat × Int)} (arc : ∀ (i a b : Nat) (w : Int), arcs[i]? = some (a, b, w) → a < b ∧ b < (ends ss).length ∧ w ≤ 1000000000) (la : arcs.length = ss.length) (h : ss ≠ []) :
    NetOk ⟨(ends ss).length - 1, arcs, List.replicate ((ends ss).length - 1) 0, List.replicate ss.length false⟩ (ends ss).length ∧ Flow ⟨(ends ss).length - 1, arcs, List.replicate ((ends ss).length - 1) 0, List.replicate ss.length false⟩ 0 := by
  have hp := ends_pos h
  have g0 : ∀ (n c : Nat), (List.replicate n (0 : Int)).getD c 0 = 0 := fun n c => by
    rw [List.getD_eq_getElem?_getD, List.getElem?_replicate]
    split <;> rfl
  have gf : ∀ (n c : Nat), (List.replicate n false).getD c false = false := fun n c => by
    rw [List.getD_eq_getElem?_getD, List.getElem?_replicate]
    split <;> rfl
  refine ⟨⟨by show _ = (ends ss).length - 1 + 1; omega, List.length_replicate, by show (List.replicate _ _).length = _; rw [List.length_replicate, la], fun i a b w h => ?_, fun c _ => by show 0 ≤ (List.replicate _ _).getD c 0; rw [g0]; exact Int.le_refl _⟩, fun c hc => ?_⟩
  · have := arc i a b w h
    exact ⟨this.1, by show b ≤ (ends ss).length - 1; omega⟩
  · show (List.replicate _ _).getD c 0 + _ = _
    have : cov arcs (tkF (List.replicate ss.length false)) c = 0 := by
      unfold cov
      refine List.length_eq_zero_iff.mpr (List.filter_eq_nil_iff.mpr fun i _ => ?_)
      rw [show tkF (List.replicate ss.length false) i = false from gf _ _, Bool.false_and]
      decide
    show (List.replicate _ _).getD c 0 + (cov arcs (tkF (List.replicate ss.length false)) c : Int) = _
    rw [g0, this]
    rfl
section
variable {P : Program} {w : World} {K : PySem.W.Frag} {mg : Str → Option Value} {base : Heap}
theorem ok_heaviest (T : Txt K mg) : FnOk P w K mg base CX0 5 T.heaviest.f T.heaviest.fd ["spans", "weights", "k"] sp_heaviest := by
  refine T.heaviest.F.ok sc_heaviest (fun vs H Q E h => ?_) (fun cdv A outer s H vs Q E hr h => ?_)
  · first | (obtain ⟨_, rfl, _⟩ := h; rfl) | (obtain ⟨_, _, rfl, _⟩ := h; rfl) | (obtain ⟨_, _, _, rfl, _⟩ := h; rfl) | (obtain ⟨_, _, _, _, rfl, _⟩ := h; rfl) | (obtain ⟨_, _, _, _, _, rfl, _⟩ := h; rfl) | (obtain ⟨_, _, _, _, _, _, rfl, _⟩ := h; rfl) | (obtain ⟨_, _, _, _, _, _, _, rfl, _⟩ := h; rfl) | (obtain ⟨_, _, _, _, _, _, _, _, rfl, _⟩ := h; rfl) | (obtain ⟨_, _, _, _, _, _, _, _, _, rfl, _⟩ := h; rfl) | (obtain ⟨_, _, _, _, _, _, _, _, _, _, rfl, _⟩ := h; rfl) | (obtain ⟨_, _, _, _, _, _, _, _, _, _, _, rfl, _⟩ := h; rfl)
  refine ⟨_, (pss_cons (ps_expr (pe_call (ok_must_spans T) (hr.mono (by decide)) (by rfl) T.must_spans.g T.must_spans.F.kp T.must_spans.b .nil pass0 (pa_cons (pv 0) pa_nil)))
  (pss_cons (ps_expr (pe_call (ok_must_weights T) (hr.mono (by decide)) (by rfl) T.must_weights.g T.must_weights.F.kp T.must_weights.b .nil pass0 (pa_cons (pv 1) (pa_cons (pe_callB call_len_seq (by rfl) T.b_len PySem.boot_len (pa_cons (pv 0) pa_nil)) pa_nil))))
  (pss_cons (ps_expr (pe_call (ok_must_count T) (hr.mono (by decide)) (by rfl) T.must_count.g T.must_count.F.kp T.must_count.b .nil pass0 (pa_cons (pv 2) pa_nil)))
  (pss_cons (ps_set (i := 3) sc_heaviest.nd rfl (.inl rfl) (pe_make T.mkL (ok_Lanes_init T) (hr.mono (by decide)) (by rfl) T.mgC T.Lanes_init.b .nil pass0 (pa_cons (pv 0) (pa_cons (pv 1) pa_nil))))
  (pss_cons (ps_expr (pe_meth0 (pv 3) T.cl T.m_look (ok_Lanes_look T) (hr.mono (by decide)) T.Lanes_look.b .nil pass0))
  (pss_cons (ps_set (i := 4) sc_heaviest.nd rfl (.inl rfl) pe_int)
  (pss_cons (ps_while PassesOwn.never (PW.pt (pw_and (pt_cmpR op_lt (pv 4) (pv 2) (nomark _)) (pw_and (pt_cmpR op_gt (pe_callB call_len_seq (by rfl) T.b_len PySem.boot_len (pa_cons (pv 0) pa_nil)) pe_int (nomark _)) (pw_and1 (pt_cmpR op_gt (pe_ix (ix_listK (K := K) rfl) (pe_fld (pv 3) rfl) (pe_un un_neg pe_int) (fun _ _ => rfl)) pe_int (nomark _))))))
  (pss_cons (ps_expr (pe_meth0 (pv 3) T.cl T.m_take (ok_Lanes_take T) (hr.mono (by decide)) T.Lanes_take.b .nil pass0))
  (pss_cons (ps_expr (pe_meth0 (pv 3) T.cl T.m_look (ok_Lanes_look T) (hr.mono (by decide)) T.Lanes_look.b .nil pass0))
  (pss_one (ps_aug (i := 4) sc_heaviest.nd rfl (.inl rfl) pe_int ip_add)))))
  (pss_cons (ps_setLc (i := 5) (own := [("number", 8), ("on", 9)]) rfl sc_heaviest.nd rfl rfl (sw_true rfl rfl rfl (by decide +kernel)) (pi_enum (by rfl) T.b_enumerate (pa_cons (pe_fld (pv 3) rfl) pa_nil)) (blkOk_by (N := ["spans", "weights", "k", "lanes", "many", "chosen", "prices", "at", "number", "on", "tag"]) (sc := defScope s_heaviest) (by decide +kernel)) (fun _ _ _ _ _ => (pg_tupK (K := K) (n := 2) rfl rfl (pgs_cons (pg_name (i := 8) sc_heaviest.nd rfl (.inl rfl)) (pgs_cons (pg_name (i := 9) sc_heaviest.nd rfl (.inl rfl)) pgs_nil)))) (fun _ _ _ _ _ => (pts_one (pt_val (pv 9)))) (fun _ _ _ _ _ => (pv 8)))
  (pss_cons (ps_set (i := 6) sc_heaviest.nd rfl (.inl rfl) (pe_lst pa_nil))
  (pss_cons (ps_if (pt_cmpR op_eq (pv 4) (pv 2) (nomark _))
  (pss_one (ps_for PassesOwn.never rfl (pi_range1 (by rfl) T.b_range (pa_cons (pe_callB call_len_seq (by rfl) T.b_len PySem.boot_len (pa_cons (pe_fld (pv 3) rfl) pa_nil)) pa_nil)) (pg_name (i := 7) sc_heaviest.nd rfl (.inl rfl))
  (pss_one (ps_expr (pe_bm PySem.F.plainAttrs_list PySem.F.slot_list_append PySem.F.type_list_append mt_append (pv 6) (pa_cons (pe_tup (pa_cons (pe_ix (ix_listK (K := K) rfl) (pe_fld (pv 3) rfl) (pv 7) (fun _ _ => rfl)) (pa_cons (pe_op op_sub (pe_ix (ix_listK (K := K) rfl) (pe_fld (pv 3) rfl) (pe_op op_add (pv 7) pe_int) (fun _ _ => rfl)) (pe_ix (ix_listK (K := K) rfl) (pe_fld (pv 3) rfl) (pv 7) (fun _ _ => rfl))) pa_nil))) pa_nil))))))
  pss_nil)
  (pss_one (ps_ret (pe_tup (pa_cons (pv 5) (pa_cons (pe_lc (own := [("tag", 10)]) rfl sc_heaviest.nd (pi_list (pv 6)) (blkOk_by (N := ["spans", "weights", "k", "lanes", "many", "chosen", "prices", "at", "number", "on", "tag"]) (sc := defScope s_heaviest) (by decide +kernel)) (fun _ _ _ _ _ => (pg_name (i := 10) sc_heaviest.nd rfl (.inl rfl))) (fun _ _ _ _ _ => (pts_one (pt_cmpR op_gt (pe_ix (ix_tupK (K := K) rfl) (pv 10) pe_int (fun _ _ => rfl)) pe_int (nomark _)))) (fun _ _ _ _ _ => (pv 10))) pa_nil))))))))))))))), ?_⟩
  try dsimp only [cx_K]
  obtain ⟨a, b, ss, ws, k, rfl, hl, hw, hlw, hn, hok, hws, hk, q⟩ := h
  obtain ⟨us, hu, ru⟩ := id hl
  refine ⟨_, rfl, a, ss, rfl, hl, hok, ?_⟩
  refine ⟨_, rfl, _, rfl, a, us, rfl, .inl (SqL.of hu), b, ws, (us.length : Int), rfl, hw, by rw [ru.len]; omega, hws, ?_⟩
  refine ⟨_, rfl, k, rfl, hk, ?_⟩
  refine ⟨_, rfl, _, rfl, fun x dx nx ndx hdx => ?_⟩
  have s1 : Same H (upd H dx (.own x)) := sm_new ndx
  have nx1 : upd H dx (.own x) x = none := (upd_ne hdx.symm).trans nx
  have s2 : Same H (upd (upd H dx (.own x)) x (.ins T.C dx [])) := s1.trans (sm_new nx1)
  have hx2 : upd (upd H dx (.own x)) x (.ins T.C dx []) x = some (.ins T.C dx []) := upd_same
  generalize upd (upd H dx (.own x)) x (.ins T.C dx []) = H2 at s2 hx2 ⊢
  refine ⟨x, a, b, dx, ss, ws, rfl, hx2, lsP_same s2 hl, s2 _ _ hw, hlw, hn, fun H3 A arcs k3 eA hl3 ao nw => ⟨rfl, ?_⟩⟩
  obtain ⟨F, nds, arc⟩ := feas0 ao hws hlw hok
  have lE := sub_ends ss
  subst eA
  have s3 : Same H H3 := KeepL.same s2 (fun p hp => by rw [List.mem_singleton.mp hp]; exact nx) k3
  refine ⟨_, rfl, A.L, A.dx, _, rfl, hl3.ins, rfl, A, ends ss, _, [], [], fun v => (v : Int) * 1000000000, rfl, hl3, List.length_replicate, by show (List.replicate _ _).length = _; rw [List.length_replicate]; exact ao.len.symm, by show _ ≤ (ends ss).length - 1 + 1; omega, by show (ends ss).length - 1 ≤ 500; omega, nds, F, rfl, fun H4 f st far sp rk k4 nf nst hl4 seen => ?_⟩
  have s4 : Same H H4 := KeepL.same s3 (fun p hp => by rw [List.mem_singleton.mp hp]; exact nx) k4
  have st0 : HvS T.C H H4 { A with f := f, s := st } ss arcs _ far sp rk 0 := ⟨s4, nx, s2.free (nw _ (by simp)), s2.free (nw _ (by simp)), hl4, rfl, rfl, List.length_replicate, by show (List.replicate _ _).length = _; rw [List.length_replicate]; exact ao.len.symm, seen, net0 arc ao.len⟩
  refine ⟨fun m σ H' => ∃ (A' : LnA) (D : Net) (far : List Int) (sp : Sps) (rk : Nat → Nat) (many : Nat), σ = [some (.ref a), some (.ref b), some (.int k), some (.ref A.L), some (.int (many : Int)), none, none, none, none, none, none] ∧ A'.L = A.L ∧ HvS T.C H H' A' ss arcs D far sp rk many ∧ (many : Int) ≤ k ∧ k - many ≤ (m : Int), ⟨k.toNat, { A with f := f, s := st }, _, far, sp, rk, 0, rfl, rfl, st0, by omega, by omega⟩, ?_⟩
  clear st0 seen hl4 nf nst k4 s4 far sp rk f st F nds hl3 k3 hx2 nx1 s1 hdx nw s3 s2 ndx
  rintro m σ H5 ⟨A', D, far, sp, rk, many, rfl, eA, S, hmk, hmm⟩
  rw [← eA]
  have finish : ∀ (H5 : Hp) (E1 : Ends), E1.rt = Q → ((many : Int) = k ∨ ss = [] ∨ far.getD D.m 0 ≤ 0) → HvS T.C H H5 A' ss arcs D far sp rk many →
      tSeq (tAsg (tLc (iEnum K (tCons (tFld K (tVar 3) (Str.ofString "taken")) tNil)) (gTup K 2 (gCons (gName 8) (gCons (gName 9) gNil))) (tB (tVar 9)) (tVar 8) (List.map (fun x => x.snd) [(Str.ofString "number", 8), (Str.ofString "on", 9)])) (gName 5))
        (tSeq (tAsg (tLst tNil) (gName 6)) (tSeq (tIfS (tTest (tOp rEq (tVar 4) (tVar 2)))
          (tFor (iRng1 (tCons (tCB (fun xs H Q => ∃ p ys, xs = [V.ref p] ∧ (SqL K H p ys ∨ SqT K H p ys) ∧ Q (V.int ↑ys.length) H) (tCons (tFld K (tVar 3) (Str.ofString "idle")) tNil)) tNil)) (gName 7)
            (tDrop (tBM K "list" rAppend (tVar 6) (tCons (tTup (tCons (tOp (rIxL K) (tFld K (tVar 3) (Str.ofString "ends")) (tVar 7)) (tCons (tOp (rI0 fun i j => V.int (i - j)) (tOp (rIxL K) (tFld K (tVar 3) (Str.ofString "far")) (tOp (rI0 fun i j => V.int (i + j)) (tVar 7) (tC (V.int 1))))
              (tOp (rIxL K) (tFld K (tVar 3) (Str.ofString "far")) (tVar 7))) tNil))) tNil)))) tNext)
        (tRet (tTup (tCons (tVar 5) (tCons (tLc (iList K (tVar 6)) (gName 10) (tTest (tOp (rI0 fun i j => V.bl (decide (j < i))) (tOp (rIxT K) (tVar 10) (tC (V.int 1))) (tC (V.int 0)))) (tVar 10) (List.map (fun x => x.snd) [(Str.ofString "tag", 10)])) tNil))))))
        E1 [some (.ref a), some (.ref b), some (.int k), some (.ref A'.L), some (.int (many : Int)), none, none, none, none, none, none] H5 := fun H5 E1 eE hd S => by
    have hl5 := S.lan
    have ffl := S.seen.fl
    have best : IsHv ss ws k (wSum ws ss.length (tkF D.taken)) := by
      by_cases hss : ss = []
      · subst hss
        exact hv_nil ws (by omega) _
      · obtain ⟨O, fl⟩ := S.net hss
        exact hv_of O S.seen fl hmk (hd.elim .inl fun h => h.elim (fun e => (hss e).elim) .inr) rfl (by rw [S.ar]; exact ao) (by omega)
    have tlen : D.taken.length = ss.length := by rw [S.tl, S.ar, ao.len]
    refine ⟨_, rfl, A'.L, T.C, A'.dx, _, .ref A'.t, rfl, hl5.ins, T.cl, T.n_taken, rfl, A'.t, _, rfl, SqL.of hl5.t, fun c hc => lc_enum Bl (fun _ h => h) In (fun _ h => h) (fun x => if x.1 = true then some (x.2 : Int) else none) hl5.t (bl_rows _) (by omega) hc (fun v x i H6 T1 H7 hi s6 r s7 hT Kt Kf ht hf => ?_) (fun H6 s6 h6 => ?_)⟩
    · have r : v = .bl x := r
      subst r
      refine g_two hT ⟨rfl, ?_⟩
      refine ⟨_, rfl, _, rfl, ?_⟩
      refine ifB (fun hb => ?_) (fun hb => ?_)
      · exact ⟨_, rfl, ht _ _ H7 (Same.refl _) (if_pos hb) rfl⟩
      · exact hf H7 (Same.refl _) (if_neg (by show ¬ x = true; rw [hb]; decide))
    have h6 := ls_int h6
    rw [taken_nums, tlen] at h6
    refine ⟨Nat.zero_le _, fun pr npr => ?_⟩
    obtain ⟨s7, h7⟩ := newF (o := .lst []) npr
    generalize upd H6 pr (.lst []) = H7 at s7 h7 ⊢
    have s07 := (S.sm.trans s6).trans s7
    have nprH : H pr = none := (S.sm.trans s6).free npr
    have ncp : c ≠ pr := ne_of_none h6 npr
    have hc7 := s7 _ _ h6
    have last : ∀ (E2 : Ends) (H8 : Hp) (rs : List Spn) (y7 : Option V), E2.rt = Q → Same H H8 → LsP H8 pr rs → rs.length ≤ 1000 → LsI H8 c (natsI ((List.range ss.length).filter (tkF D.taken))) →
        tRet (tTup (tCons (tVar 5) (tCons (tLc (iList K (tVar 6)) (gName 10) (tTest (tOp (rI0 fun i j => V.bl (decide (j < i))) (tOp (rIxT K) (tVar 10) (tC (V.int 1))) (tC (V.int 0)))) (tVar 10) (List.map (fun x => x.snd) [(Str.ofString "tag", 10)])) tNil)))
        E2 [some (.ref a), some (.ref b), some (.int k), some (.ref A'.L), some (.int (many : Int)), some (.ref c), some (.ref pr), y7, none, none, none] H8 := fun E2 H8 rs y7 eE2 s8 hrs lrs hc8 => by
      obtain ⟨vs, hv, rv⟩ := hrs
      refine ⟨_, rfl, _, rfl, pr, rfl, ⟨_, SqL.of hv⟩, fun d hd => lc_eachF Pr (fun t k => k.tp t) (fun x => decide (0 < x.2)) hv rv lrs hd (fun _ => rfl) (show 10 < 11 by decide) (fun v x H9 hx s9 r Kb hb => ?_) (fun H9 s9 h9 => ?_)⟩
      · obtain ⟨p, rfl, hp⟩ := r
        refine ⟨_, rfl, p, _, 1, _, rfl, rfl, SqT.of hp, rfl, _, _, rfl, rfl, _, rfl, hb H9 (Same.refl _)⟩
      · refine ⟨by show 2 ≤ sizeLine; decide, fun t nt => ?_⟩
        obtain ⟨s10, h10⟩ := newF (o := .tup [.ref c, .ref d]) nt
        show E2.rt _ _
        rw [eE2]
        exact q _ t c (.ref d) _ ((s8.trans s9).trans s10) ((s8.trans s9).free nt) h10 ((s9.trans s10) _ _ hc8) best
    refine ⟨_, rfl, _, rfl, rfl, _, rfl, ?_⟩
    by_cases hmk2 : (many : Int) = k
    · rw [decide_eq_true (congrArg V.int hmk2)]
      refine iteT ?_
      have hl7 := hl5.same (s6.trans s7)
      have il := S.il
      refine ⟨_, rfl, A'.L, T.C, A'.dx, _, .ref A'.i, rfl, hl7.ins, T.cl, T.n_idle, rfl, A'.i, _, rfl, .inl (SqL.of hl7.i), _, rfl, by rw [List.length_map]; omega, by rw [List.length_map, il, S.m]; omega, ?_⟩
      rw [List.length_map, il, Int.toNat_natCast]
      refine for_it (walk_rg (n := D.m)) (fun i σ H' => ∃ (y7 : Option V) (rs : List Spn), σ = [some (.ref a), some (.ref b), some (.int k), some (.ref A'.L), some (.int (many : Int)), some (.ref c), some (.ref pr), y7, none, none, none] ∧ Same H H' ∧ KeepL [pr] H7 H' ∧ LsP H' pr rs ∧ rs.length = i) ⟨none, [], rfl, s07, KeepL.refl _ _, ⟨[], h7, Rows.nil⟩, rfl⟩ (fun _ _ _ _ _ => trivial) ?_ ?_
      · rintro i x σ _ H8 hi ⟨y7, rs, rfl, s8, k8, hrs, lrs⟩ ⟨rfl, rfl⟩
        have hl6 := hl5.same s6
        have nm := S.m
        have i8 := k8 _ _ (by simp [ne_of_none hl6.ins npr]) hl7.ins
        have e8 : LsI H8 A'.e (ends ss) := k8 _ _ (by simp [ne_of_none hl6.e npr]) hl7.e
        have f8 : LsI H8 A'.f far := k8 _ _ (by simp [ne_of_none hl6.f npr]) hl7.f
        have ge : ((ends ss).map V.int)[i]? = some (.int ((ends ss).getD i 0)) := by
          rw [List.getElem?_map, List.getD_eq_getElem?_getD, List.getElem?_eq_getElem (by omega)]
          rfl
        have gf : ∀ j, j < far.length → (far.map V.int)[j]? = some (.int (far.getD j 0)) := fun j hj => by
          rw [List.getElem?_map, List.getD_eq_getElem?_getD, List.getElem?_eq_getElem hj]
          rfl
        obtain ⟨vs, hv, rv⟩ := hrs
        refine ⟨_, rfl, .inl ⟨rfl, _, SqL.of hv⟩, ?_⟩
        refine ⟨_, rfl, A'.L, T.C, A'.dx, _, .ref A'.e, rfl, i8, T.cl, T.n_ends, rfl, _, rfl, A'.e, _, _, _, rfl, rfl, SqL.of e8, atI_nat ge, ?_⟩
        refine ⟨_, rfl, A'.L, T.C, A'.dx, _, .ref A'.f, rfl, i8, T.cl, T.n_far, rfl, _, rfl, _, _, rfl, rfl, A'.f, _, _, _, rfl, rfl, SqL.of f8, atI_nat (j := i + 1) (gf (i + 1) (by omega)), ?_⟩
        refine ⟨_, rfl, A'.L, T.C, A'.dx, _, .ref A'.f, rfl, i8, T.cl, T.n_far, rfl, _, rfl, A'.f, _, _, _, rfl, rfl, SqL.of f8, atI_nat (gf i (by omega)), _, _, rfl, rfl, ?_⟩
        refine ⟨by show 2 ≤ sizeLine; decide, fun t nt => ?_⟩
        obtain ⟨s9, h9⟩ := newF (o := .tup [.int ((ends ss).getD i 0), .int (far.getD (i + 1) 0 - far.getD i 0)]) nt
        generalize upd H8 t (.tup [.int ((ends ss).getD i 0), .int (far.getD (i + 1) 0 - far.getD i 0)]) = H9 at s9 h9 ⊢
        refine ⟨pr, _, _, rfl, rfl, s9 _ _ hv, szt (by rw [rv.len, lrs]; omega), ?_⟩
        have t10 : Tp H9 (upd H9 pr (.lst (vs ++ [.ref t]))) := tp_lst (s9 _ _ hv)
        exact ⟨_, rs ++ [((ends ss).getD i 0, far.getD (i + 1) 0 - far.getD i 0)], rfl, sm_mut (s8.trans s9) nprH, (k8.trans (KeepL.of s9)).upd _ (by simp), ⟨_, upd_same, (rv.mono fun _ _ z => z.tp ((tp_of s9).trans t10)).snoc ⟨t, rfl, t10 _ _ h9⟩⟩, by rw [List.length_append, lrs, List.length_singleton]⟩
      · rintro σ H8 ⟨y7, rs, rfl, s8, k8, hrs, lrs⟩
        exact last E1 H8 rs y7 eE s8 hrs (by rw [lrs, S.m]; omega) (k8 _ _ (by simp [ncp]) hc7)
    · rw [decide_eq_false (fun z => hmk2 (V.int.inj z))]
      refine iteF ?_
      exact last E1 H7 [] none eE s07 ⟨[], h7, Rows.nil⟩ (Nat.zero_le _) hc7
  refine ⟨_, rfl, _, rfl, _, _, rfl, rfl, _, rfl, ?_⟩
  refine ifD (fun h1 => ?_) (fun h1 => ?_)
  · refine ⟨_, rfl, a, us, rfl, .inl (SqL.of (S.sm _ _ hu)), _, _, rfl, rfl, _, rfl, ?_⟩
    refine ifD (fun h2 => ?_) (fun h2 => ?_)
    · have hss : ss ≠ [] := fun e => by
        have := ru.len
        rw [e] at this
        simp only [List.length_nil] at this
        omega
      obtain ⟨O, fl⟩ := S.net hss
      have ffl := S.seen.fl
      rcases nil_or_snoc far with e0 | ⟨f0, l, e0⟩
      · have := ends_pos hss
        rw [e0] at ffl
        simp only [List.length_nil] at ffl
        omega
      have hl5 := S.lan
      have hf5 : H5 A'.f = some (.lst (f0.map V.int ++ [.int l])) := by
        have : H5 A'.f = some (.lst _) := hl5.f
        rw [this, e0, List.map_append]
        rfl
      have el : far.getD D.m 0 = l := by
        rw [e0, List.getD_eq_getElem?_getD, S.m, ← ffl, e0, List.length_append, List.length_singleton, Nat.add_sub_cancel, List.getElem?_concat_length]
        rfl
      refine ⟨_, rfl, A'.L, T.C, A'.dx, _, .ref A'.f, rfl, hl5.ins, T.cl, T.n_far, rfl, _, rfl, A'.f, _, _, _, rfl, rfl, SqL.of hf5, atI_last _ _, _, _, rfl, rfl, _, rfl, ?_⟩
      refine ifD (fun h3 => ?_) (fun h3 => ?_)
      · refine ⟨_, fun σ' H' h => ⟨m - 1, by omega, h⟩, ?_⟩
        refine ⟨_, rfl, A'.L, A'.dx, _, rfl, hl5.ins, rfl, A', ends ss, D, far, sp, rk, many, rfl, hl5, O, S.seen, fl, fun H6 idle taken k6 hl6 O6 f6 fe6 => ?_⟩
        have s6 : Same H H6 := KeepL.same S.sm (fun p hp => by
          simp only [List.mem_cons, List.not_mem_nil, or_false] at hp
          rcases hp with rfl | rfl
          · exact S.ni
          · exact S.nt) k6
        have z0 := S.seen.z0 (ends_pos hss)
        have hm := O6.nm
        have hm : (ends ss).length = D.m + 1 := hm
        refine ⟨_, rfl, A'.L, A'.dx, _, rfl, hl6.ins, rfl, A', ends ss, D.next idle taken, far, sp, fun v => far.getD v 0, rfl, hl6, O6.il, O6.tl, Nat.le_of_eq O6.nm, by show D.m ≤ 500; omega, netNodes O6, fe6, z0, fun H7 f' s' far' sp' rk' k7 nf' ns' hl7 seen' => ?_⟩
        have s7 : Same H H7 := KeepL.same s6 (fun p hp => by rw [List.mem_singleton.mp hp]; exact S.nL) k7
        refine ⟨_, rfl, _, _, rfl, rfl, { A' with f := f', s := s' }, D.next idle taken, far', sp', rk', many + 1, rfl, rfl, ⟨s7, S.nL, S.ni, S.nt, hl7, S.m, S.ar, O6.il, O6.tl, seen', fun _ => ⟨O6, f6⟩⟩, by omega, by omega⟩
      · exact finish H5 _ rfl (.inr (.inr (by omega))) S
    · refine finish H5 _ rfl (.inr (.inl ?_)) S
      refine List.eq_nil_of_length_eq_zero ?_
      have := ru.len
      omega
  · exact finish H5 _ rfl (.inl (by omega)) S
end

def On (_ : Hp) (v : V) (x : Option Int) : Prop := v = match x with
  | none => .non
  | some i => .int i
theorem On.tp {H H' : Hp} {v : V} {x : Option Int} (_ : Tp H H') (h : On H v x) : On H' v x := h
theorem fm_join (L : List (Int × Int × Int)) (p : Int) : L.filterMap (fun x => if x.1 ≤ p then some (joinOf x) else none) = (L.filter fun x => decide (x.1 ≤ p)).map joinOf := by
  induction L with
  | nil => rfl
  | cons x L ih =>
    rw [List.filterMap_cons, List.filter_cons]
    by_cases h : x.1 ≤ p
    · rw [if_pos h, if_pos (decide_eq_true h), ih, List.map_cons]
    · rw [if_neg h, if_neg (by rw [decide_eq_false h]; decide), ih]
def sp_given_places : Sp := fun vs H Q _ => ∃ (a : Addr) (ss : List Spn), vs = [.ref a] ∧ LsP H a ss ∧ ss.length ≤ 20 ∧ ∀ H' g G k, Same H H' → H g = none → Ls On H' g G → G.length = ss.length → nones G + k = ss.length → IsPl ss k → Q (.ref g) H'
section
variable {P : Program} {w : World} {K : PySem.W.Frag} {mg : Str → Option Value} {base : Heap}
theorem ok_given_places (T : Txt K mg) : FnOk P w K mg base CX0 1 T.given_places.f T.given_places.fd ["spans"] sp_given_places := by
  refine T.given_places.F.ok sc_given_places (fun vs H Q E h => ?_) (fun cdv A outer s H vs Q E hr h => ?_)
  · first | (obtain ⟨_, rfl, _⟩ := h; rfl) | (obtain ⟨_, _, rfl, _⟩ := h; rfl) | (obtain ⟨_, _, _, rfl, _⟩ := h; rfl) | (obtain ⟨_, _, _, _, rfl, _⟩ := h; rfl) | (obtain ⟨_, _, _, _, _, rfl, _⟩ := h; rfl) | (obtain ⟨_, _, _, _, _, _, rfl, _⟩ := h; rfl) | (obtain ⟨_, _, _, _, _, _, _, rfl, _⟩ := h; rfl) | (obtain ⟨_, _, _, _, _, _, _, _, rfl, _⟩ := h; rfl) | (obtain ⟨_, _, _, _, _, _, _, _, _, rfl, _⟩ := h; rfl) | (obtain ⟨_, _, _, _, _, _, _, _, _, _, rfl, _⟩ := h; rfl) | (obtain ⟨_, _, _, _, _, _, _, _, _, _, _, rfl, _⟩ := h; rfl)
  refine ⟨_, (pss_cons (ps_set (i := 1) sc_given_places.nd rfl (.inl rfl) (pe_op op_repJ (pe_lst (pa_cons pe_non pa_nil)) (pe_callB call_len_seq (by rfl) T.b_len PySem.boot_len (pa_cons (pv 0) pa_nil))))
  (pss_cons (ps_set (i := 2) sc_given_places.nd rfl (.inl rfl) (pe_callB (cr_sortJ (K := K) (d := 3) rfl (by decide)) (by rfl) T.b_sorted (by decide +kernel) (pa_cons (pe_lc (own := [("number", 5), ("span", 6)]) (tt := tYes) rfl sc_given_places.nd (pi_enum (by rfl) T.b_enumerate (pa_cons (pv 0) pa_nil)) (blkOk_by (N := ["spans", "given", "left", "waiting", "place", "number", "span", "one", "low", "high"]) (sc := defScope s_given_places) (by decide +kernel)) (fun _ _ _ _ _ => (pg_tupK (K := K) (n := 2) rfl rfl (pgs_cons (pg_name (i := 5) sc_given_places.nd rfl (.inl rfl)) (pgs_cons (pg_name (i := 6) sc_given_places.nd rfl (.inl rfl)) pgs_nil)))) (fun _ _ _ _ _ => pts_nil) (fun _ _ _ _ _ => (pe_tup (pa_cons (pe_ix (ix_tupK (K := K) rfl) (pv 6) pe_int (fun _ _ => rfl)) (pa_cons (pe_ix (ix_tupK (K := K) rfl) (pv 6) pe_int (fun _ _ => rfl)) (pa_cons (pv 5) pa_nil)))))) pa_nil)))
  (pss_cons (ps_set (i := 3) sc_given_places.nd rfl (.inl rfl) (pe_lst pa_nil))
  (pss_cons (ps_set (i := 4) sc_given_places.nd rfl (.inr rfl) pe_int)
  (pss_cons (ps_while PassesOwn.never (PW.pt (pw_or (pt_cmpR (op_neDK (K := K) rfl hr.units) (pv 2) (pe_lst pa_nil) (nomark _)) (pw_or1 (pt_cmpR (op_neDK (K := K) rfl hr.units) (pv 3) (pe_lst pa_nil) (nomark _)))))
  (pss_cons (ps_if (pt_cmpR (op_eqDK (K := K) rfl hr.units) (pv 3) (pe_lst pa_nil) (nomark _))
  (pss_one (ps_set (i := 4) sc_given_places.nd rfl (.inr rfl) (pe_ix (ix_tupK (K := K) rfl) (pe_ix (ix_listK (K := K) rfl) (pv 2) pe_int (fun _ _ => rfl)) pe_int (fun _ _ => rfl))))
  pss_nil)
  (pss_cons (ps_set (i := 3) sc_given_places.nd rfl (.inl rfl) (pe_callB (cr_sortJ (K := K) (d := 2) rfl (by decide)) (by rfl) T.b_sorted (by decide +kernel) (pa_cons (pe_op op_catJ (pv 3) (pe_lc (own := [("low", 8), ("high", 9), ("number", 5)]) rfl sc_given_places.nd (pi_list (pv 2)) (blkOk_by (N := ["spans", "given", "left", "waiting", "place", "number", "span", "one", "low", "high"]) (sc := defScope s_given_places) (by decide +kernel)) (fun _ _ _ _ _ => (pg_tupK (K := K) (n := 3) rfl rfl (pgs_cons (pg_name (i := 8) sc_given_places.nd rfl (.inl rfl)) (pgs_cons (pg_name (i := 9) sc_given_places.nd rfl (.inl rfl)) (pgs_cons (pg_name (i := 5) sc_given_places.nd rfl (.inl rfl)) pgs_nil))))) (fun _ _ _ _ _ => (pts_one (pt_cmpR op_le (pv 8) (pv 4) (nomark _)))) (fun _ _ _ _ _ => (pe_tup (pa_cons (pv 9) (pa_cons (pv 5) pa_nil)))))) pa_nil)))
  (pss_cons (ps_setLc (i := 2) (own := [("one", 7)]) rfl sc_given_places.nd rfl rfl (sw_true rfl rfl rfl (by decide +kernel)) (pi_list (pv 2)) (blkOk_by (N := ["spans", "given", "left", "waiting", "place", "number", "span", "one", "low", "high"]) (sc := defScope s_given_places) (by decide +kernel)) (fun _ _ _ _ _ => (pg_name (i := 7) sc_given_places.nd rfl (.inl rfl))) (fun _ _ _ _ _ => (pts_one (pt_cmpR op_gt (pe_ix (ix_tupK (K := K) rfl) (pv 7) pe_int (fun _ _ => rfl)) (pv 4) (nomark _)))) (fun _ _ _ _ _ => (pv 7)))
  (pss_cons (ps_setLc (i := 3) (own := [("one", 7)]) rfl sc_given_places.nd rfl rfl (sw_true rfl rfl rfl (by decide +kernel)) (pi_list (pv 3)) (blkOk_by (N := ["spans", "given", "left", "waiting", "place", "number", "span", "one", "low", "high"]) (sc := defScope s_given_places) (by decide +kernel)) (fun _ _ _ _ _ => (pg_name (i := 7) sc_given_places.nd rfl (.inl rfl))) (fun _ _ _ _ _ => (pts_one (pt_cmpR op_gt (pe_ix (ix_tupK (K := K) rfl) (pv 7) pe_int (fun _ _ => rfl)) (pv 4) (nomark _)))) (fun _ _ _ _ _ => (pv 7)))
  (pss_cons (ps_if (pt_cmpR (op_neDK (K := K) rfl hr.units) (pv 3) (pe_lst pa_nil) (nomark _))
  (pss_cons (ps_asg (pv 4) (pg_sub (pv 1) (pe_ix (ix_tupK (K := K) rfl) (pe_ix (ix_listK (K := K) rfl) (pv 3) pe_int (fun _ _ => rfl)) pe_int (fun _ _ => rfl)) set_list))
  (pss_one (ps_set (i := 3) sc_given_places.nd rfl (.inl rfl) (pe_slice sl_list (pv 3) (po_some pe_int) po_none))))
  pss_nil)
  (pss_one (ps_aug (i := 4) sc_given_places.nd rfl (.inr rfl) pe_int ip_add))))))))
  (pss_one (ps_ret (pv 1)))))))), ?_⟩
  try dsimp only [cx_K]
  obtain ⟨a, ss, rfl, hl, hn, q⟩ := h
  obtain ⟨us, hu, ru⟩ := id hl
  refine ⟨by show 1 ≤ sizeLine; decide, fun z nz => ?_⟩
  obtain ⟨s1, h1⟩ := newF (o := .lst [.non]) nz
  generalize upd H z (.lst [.non]) = H1 at s1 h1 ⊢
  refine ⟨_, rfl, a, us, rfl, .inl (SqL.of (s1 _ _ hu)), ?_⟩
  refine k_rep h1 (by omega) (by rw [ru.len]; omega) fun g H2 s2 ng h2 => ?_
  rw [ru.len, Int.toNat_natCast] at h2
  have ngH := s1.free ng
  have hg2 : Ls On H2 g (List.replicate ss.length none) := ⟨_, h2, by rw [List.length_replicate, List.length_replicate], fun i v x hv hx => by
    rw [List.getElem?_replicate] at hv hx
    by_cases c : i < ss.length
    · rw [if_pos c] at hv hx
      rw [← Option.some.inj hv, ← Option.some.inj hx]
      rfl
    · rw [if_neg c] at hv
      cases hv⟩
  obtain ⟨us2, hu2, ru2⟩ := lsP_same (s1.trans s2) hl
  refine ⟨_, rfl, a, us2, rfl, SqL.of hu2, fun D hD => lc_enumM Pr (fun t k => k.tp t) Tr (fun t k => k.tp t) (fun s => (s.1.1, s.1.2, (s.2 : Int))) hu2 ru2 (by omega) hD (fun v s i H3 T1 H4 hi s3 r s4 hT Kt ht => ?_) (fun H3 s3 h3 => ?_)⟩
  · obtain ⟨p, rfl, hp⟩ := r
    refine g_two hT ⟨rfl, ?_⟩
    walk_at "go"
    refine ⟨by show 3 ≤ sizeLine; decide, fun r n5 => ?_⟩
    obtain ⟨s5, h5⟩ := newF (o := .tup [.int s.1, .int s.2, .int (i : Int)]) n5
    exact ht _ _ s5 ⟨r, rfl, h5⟩
  refine k_sort3 h3 fun H4 l s4 n4 hl4 => ?_
  have e0 : (ss.zipIdx.map fun s => (s.1.1, s.1.2, (s.2 : Int))) = rowKeys ss := rfl
  rw [e0] at hl4
  have s24 := s3.trans s4
  have nlg : l ≠ g := (ne_of_none (s3 _ _ h2) n4).symm
  refine ⟨Nat.zero_le _, fun w0 nw => ?_⟩
  obtain ⟨s5, h5⟩ := newF (o := .lst []) nw
  have nwg : w0 ≠ g := (ne_of_none (s24 _ _ h2) nw).symm
  generalize upd H4 w0 (.lst []) = H5 at s5 h5 ⊢
  have s05 := ((s1.trans s2).trans s24).trans s5
  refine ⟨fun m σ H' => ∃ (l w0 : Addr) (L : List (Int × Int × Int)) (Wt : List Spn) (G : List (Option Int)) (p : Int) (d : Nat) (y5 y6 y7 y8 y9 : Option V), σ = [some (.ref a), some (.ref g), some (.ref l), some (.ref w0), some (.int p), y5, y6, y7, y8, y9] ∧ Same H H' ∧ l ≠ g ∧ w0 ≠ g ∧ LsT H' l L ∧ LsP H' w0 Wt ∧ Ls On H' g G ∧ GS ss L Wt G p d ∧ L.length + Wt.length ≤ m ∧ L.length + Wt.length ≤ 20,
    ⟨(isort le3 (rowKeys ss)).length, l, w0, _, [], _, 0, 0, none, none, none, none, none, rfl, s05, nlg, nwg, lsT_same s5 hl4, ⟨[], h5, Rows.nil⟩, Ls.same (fun t k => k.tp t) (s24.trans s5) hg2, gs_start ss, Nat.le_refl _, by rw [isort_len, keys_len]; exact hn⟩, ?_⟩
  clear hg2 hl4 h5 h2 h1 s5 s24 s4 s3 s05 nlg nwg n4 nw hu2 ru2 s1 s2 ng nz e0 us2 l w0
  rintro m σ H6 ⟨l, w0, L, Wt, G, p, d, y5, y6, y7, y8, y9, rfl, s6, nlg, nwg, hL, hW, hG, gs, hm, h20⟩
  have stay : ∀ (E : Ends) (H7 : Hp) (p1 : Int) (y5 y6 y7 y8 y9 : Option V), (E.nx = fun σ H' => ∃ (l w0 : Addr) (L : List (Int × Int × Int)) (Wt : List Spn) (G : List (Option Int)) (p : Int) (d : Nat) (y5 y6 y7 y8 y9 : Option V), σ = [some (.ref a), some (.ref g), some (.ref l), some (.ref w0), some (.int p), y5, y6, y7, y8, y9] ∧ Same H H' ∧ l ≠ g ∧ w0 ≠ g ∧ LsT H' l L ∧ LsP H' w0 Wt ∧ Ls On H' g G ∧ GS ss L Wt G p d ∧ L.length + Wt.length ≤ m - 1 ∧ L.length + Wt.length ≤ 20) →
      (L ≠ [] ∨ Wt ≠ []) → Same H6 H7 → p1 = pG L Wt p → tSeq (tAsg (tCB (jSort K 2) (tCons (tOp jCat (tVar 3) (tLc (iList K (tVar 2)) (gTup K 3 (gCons (gName 8) (gCons (gName 9) (gCons (gName 5) gNil)))) (tTest (tOp (rI0 fun i j => V.bl (decide (i ≤ j))) (tVar 8) (tVar 4))) (tTup (tCons (tVar 9) (tCons (tVar 5) tNil)))
          (List.map (fun x => x.snd) [(Str.ofString "low", 8), (Str.ofString "high", 9), (Str.ofString "number", 5)]))) tNil)) (gName 3))
        (tSeq (tAsg (tLc (iList K (tVar 2)) (gName 7) (tTest (tOp (rI0 fun i j => V.bl (decide (j < i))) (tOp (rIxT K) (tVar 7) (tC (V.int 0))) (tVar 4))) (tVar 7) (List.map (fun x => x.snd) [(Str.ofString "one", 7)])) (gName 2))
        (tSeq (tAsg (tLc (iList K (tVar 3)) (gName 7) (tTest (tOp (rI0 fun i j => V.bl (decide (j < i))) (tOp (rIxT K) (tVar 7) (tC (V.int 0))) (tVar 4))) (tVar 7) (List.map (fun x => x.snd) [(Str.ofString "one", 7)])) (gName 3))
        (tSeq (tIfS (tTest (tOp (jNe K) (tVar 3) (tLst tNil))) (tSeq (tAsg (tVar 4) (gSub (tVar 1) (tOp (rIxT K) (tOp (rIxL K) (tVar 3) (tC (V.int 0))) (tC (V.int 1))) rSetL)) (tAsg (tSl (rSlL K) (tVar 3) (tPart (tC (V.int 1))) tNoPart) (gName 3))) tNext)
          (tAug 4 (tC (V.int 1)) (ipI fun i j => i + j)))))
        E [some (.ref a), some (.ref g), some (.ref l), some (.ref w0), some (.int p1), y5, y6, y7, y8, y9] H7 := fun E H7 p1 y5 y6 y7 y8 y9 eE hne s7 ep => by
    subst ep
    obtain ⟨ls, hl7, rl7⟩ := lsT_same s7 hL
    obtain ⟨wu, hw7, rw7⟩ := lsP_same s7 hW
    have lenG : (wG2 L Wt (pG L Wt p)).length + (lG L (pG L Wt p)).length ≤ 20 := by have := (less_len (p := p) hne).2; omega
    refine ⟨_, rfl, _, rfl, l, rfl, ⟨_, SqL.of hl7⟩, fun D hD => lc_each Tr (fun t k => k.tp t) Pr (fun t k => k.tp t) (fun x => if x.1 ≤ pG L Wt p then some (joinOf x) else none) hl7 rl7 (by omega) hD (fun v x H8 hx s8 r Kt Kf ht hf => ?_) (fun H8 s8 h8 => ?_)⟩
    · obtain ⟨t, rfl, htt⟩ := r
      refine g_three htt ⟨rfl, ?_⟩
      refine ⟨_, rfl, _, rfl, _, _, rfl, rfl, _, rfl, ?_⟩
      refine ifD (fun hle => ?_) (fun hle => ?_)
      · refine ⟨_, rfl, _, rfl, by show 2 ≤ sizeLine; decide, fun r nr => ?_⟩
        obtain ⟨s9, h9⟩ := newF (o := .tup [.int x.2.1, .int x.2.2]) nr
        exact ht _ _ _ s9 (if_pos hle) ⟨r, rfl, h9⟩
      · exact hf H8 (Same.refl _) (if_neg hle)
    rw [fm_join] at h8
    obtain ⟨js, hj8, rj8⟩ := h8
    have jl := rj8.len
    have jle := List.length_filter_le (fun x => decide (x.1 ≤ pG L Wt p)) L
    rw [List.length_map] at jl
    refine k_cat (s8 _ _ hw7) hj8 (by rw [rw7.len]; omega) fun c H9 s9 nc h9 => ?_
    have hc : LsP H9 c (Wt ++ (L.filter fun x => decide (x.1 ≤ pG L Wt p)).map joinOf) := ⟨_, h9, (rw7.mono fun _ _ z => z.tp (tp_of (s8.trans s9))).append (rj8.mono fun _ _ z => z.tp (tp_of s9))⟩
    refine k_sort2 hc fun H10 w1 s10 n10 hw10 => ?_
    have s710 := (s8.trans s9).trans s10
    obtain ⟨ls, hl10, rl10⟩ := lsT_same (s7.trans s710) hL
    refine ⟨_, rfl, l, rfl, ⟨_, SqL.of hl10⟩, fun D2 hD2 => lc_eachF Tr (fun t k => k.tp t) (fun x => decide (pG L Wt p < x.1)) hl10 rl10 (by omega) hD2 (fun _ => rfl) (show 7 < 10 by decide) (fun v x H11 hx s11 r Kb hb => ?_) (fun H11 s11 h11 => ?_)⟩
    · obtain ⟨t, rfl, htt⟩ := r
      exact ⟨_, rfl, t, _, 0, _, rfl, rfl, SqT.of htt, rfl, _, rfl, _, _, rfl, rfl, _, rfl, hb H11 (Same.refl _)⟩
    have h11 : LsT H11 D2 (lG L (pG L Wt p)) := h11
    obtain ⟨wv, hw11, rw11⟩ := lsP_same s11 hw10
    have lw1 : (wG1 L Wt (pG L Wt p)).length ≤ 1000 := by
      unfold wG1
      rw [isort_len, List.length_append, List.length_map]
      omega
    refine ⟨_, rfl, w1, rfl, ⟨_, SqL.of hw11⟩, fun D3 hD3 => lc_eachF Pr (fun t k => k.tp t) (fun x => decide (pG L Wt p < x.1)) hw11 rw11 lw1 hD3 (fun _ => rfl) (show 7 < 10 by decide) (fun v x H12 hx s12 r Kb hb => ?_) (fun H12 s12 h12 => ?_)⟩
    · obtain ⟨t, rfl, htt⟩ := r
      exact ⟨_, rfl, t, _, 0, _, rfl, rfl, SqT.of htt, rfl, _, rfl, _, _, rfl, rfl, _, rfl, hb H12 (Same.refl _)⟩
    have h12 : LsP H12 D3 (wG2 L Wt (pG L Wt p)) := h12
    have s12' := ((s6.trans s7).trans s710).trans (s11.trans s12)
    have h12L := lsT_same s12 h11
    obtain ⟨gv, hg6, rg6⟩ := id hG
    have s612 := (s7.trans s710).trans (s11.trans s12)
    have nD2g : D2 ≠ g := (ne_of_none ((s7.trans s710) _ _ hg6) hD2).symm
    have nD3g : D3 ≠ g := (ne_of_none (((s7.trans s710).trans s11) _ _ hg6) hD3).symm
    refine ⟨_, rfl, k_neN dtP h12 fun z nz => ⟨_, rfl, ?_⟩⟩
    obtain ⟨s13, h13⟩ := newF (o := .lst []) nz
    generalize upd H12 z (.lst []) = H13 at s13 h13 ⊢
    have s613 := s612.trans s13
    have s013 := s12'.trans s13
    have hL13 := lsT_same s13 h12L
    have hW13 := lsP_same s13 h12
    have hg13 := s613 _ _ hg6
    have rg13 := rg6.mono fun _ _ z => On.tp (tp_of s613) z
    rcases hw2 : wG2 L Wt (pG L Wt p) with _ | ⟨⟨h0, kz⟩, W3⟩
    · rw [hw2] at hW13
      rw [decide_eq_true rfl]
      refine iteF ?_
      refine ⟨_, rfl, _, _, rfl, rfl, ?_⟩
      rw [eE]
      have := (less_len (p := p) hne).1
      exact ⟨D2, D3, _, [], G, _, d, _, _, _, _, _, rfl, s013, nD2g, nD3g, hL13, hW13, ⟨gv, hg13, rg13⟩, gs_no gs hne hw2, by show _ + 0 ≤ _; omega, by show _ + 0 ≤ _; omega⟩
    · rw [hw2] at hW13
      rw [decide_eq_false (by simp)]
      refine iteT ?_
      obtain ⟨k, hkz, _⟩ := gs.num kz ((nums_sub gs.nd).2 kz (by rw [hw2]; simp))
      subst hkz
      obtain ⟨hk, gs'⟩ := gs_yes gs hne hw2
      obtain ⟨wx, hwx, rwx⟩ := hW13
      obtain ⟨x0, hx0, t0, rfl, ht0⟩ := rwx.at (i := 0) (x := (h0, (k : Int))) rfl
      have hkl := (List.getElem?_eq_some_iff.mp hk).1
      refine ⟨_, rfl, _, rfl, _, rfl, D3, _, _, _, rfl, rfl, SqL.of hwx, atI_nat (j := 0) hx0, t0, _, 1, _, rfl, rfl, SqT.of ht0, rfl, g, _, _, k, rfl, rfl, hg13, ixN_nat (by rw [rg13.len]; exact hkl), ?_⟩
      have s14 := sm_mut (o := .lst (gv.set k (.int (pG L Wt p)))) s013 ngH
      have tp14 : Tp H13 (upd H13 g (.lst (gv.set k (.int (pG L Wt p))))) := tp_lst hg13
      have hg14 : Ls On (upd H13 g (.lst (gv.set k (.int (pG L Wt p))))) g (G.set k (some (pG L Wt p))) := ⟨_, upd_same, (rg13.mono fun _ _ z => z).set k rfl⟩
      have hw14 : upd H13 g (.lst (gv.set k (.int (pG L Wt p)))) D3 = some (.lst wx) := up_far nD3g hwx
      have hL14 : LsT (upd H13 g (.lst (gv.set k (.int (pG L Wt p))))) D2 (lG L (pG L Wt p)) := by
        obtain ⟨lx, hlx, rlx⟩ := hL13
        exact ⟨lx, up_far nD2g hlx, rlx.mono fun _ _ z => z.tp tp14⟩
      have rw14 := rwx.mono fun _ _ z => z.tp tp14
      generalize upd H13 g (.lst (gv.set k (.int (pG L Wt p)))) = H14 at s14 hg14 hw14 hL14 rw14 ⊢
      refine ⟨_, rfl, _, rfl, D3, _, rfl, SqL.of hw14, fun w4 n15 => ?_⟩
      obtain ⟨s15, h15⟩ := newF (o := .lst (cutV wx (some 1) none)) n15
      generalize upd H14 w4 (.lst (cutV wx (some 1) none)) = H15 at s15 h15 ⊢
      rw [cut_one] at h15
      obtain ⟨gw, hgw, _⟩ := id hg14
      have n4g : w4 ≠ g := (ne_of_none hgw n15).symm
      refine ⟨_, rfl, _, _, rfl, rfl, ?_⟩
      rw [eE]
      have := (less_len (p := p) hne).2
      rw [hw2, List.length_cons] at this
      exact ⟨D2, w4, _, W3, _, _, d + 1, _, _, _, _, _, rfl, s14.trans s15, nD2g, n4g, lsT_same s15 hL14, ⟨_, h15, (rw14.drop 1).mono fun _ _ z => z.tp (tp_of s15)⟩, Ls.same (fun t k => k.tp t) s15 hg14, gs', by omega, by omega⟩
  refine ⟨_, rfl, k_neN dtT hL fun z nz => ⟨_, rfl, ?_⟩⟩
  obtain ⟨s7, h7⟩ := newF (o := .lst []) nz
  generalize upd H6 z (.lst []) = H7 at s7 h7 ⊢
  by_cases hLn : L = []
  · rw [decide_eq_true hLn]
    refine iteF ?_
    refine ⟨_, rfl, k_neN dtP (lsP_same s7 hW) fun z8 nz8 => ⟨_, rfl, ?_⟩⟩
    obtain ⟨s8, h8⟩ := newF (o := .lst []) nz8
    generalize upd H7 z8 (.lst []) = H8 at s8 h8 ⊢
    by_cases hWn : Wt = []
    · rw [decide_eq_true hWn]
      refine iteF ?_
      refine ⟨_, rfl, ?_⟩
      have r0 := gs.run 0 (by rw [hLn, hWn]; exact .done p)
      rw [Nat.zero_add] at r0
      exact q H8 g G d ((s6.trans s7).trans s8) ngH (Ls.same (fun t k => k.tp t) (s7.trans s8) hG) gs.gl gs.cn r0
    · rw [decide_eq_false hWn]
      refine iteT ?_
      have hne : L ≠ [] ∨ Wt ≠ [] := .inr hWn
      have := List.length_pos_iff.mpr hWn
      refine ⟨_, fun σ' H' h => ⟨m - 1, by omega, h⟩, ?_⟩
      refine ⟨_, rfl, k_eqN dtP (lsP_same (s7.trans s8) hW) fun zb nzb => ⟨_, rfl, ?_⟩⟩
      obtain ⟨s9, h9⟩ := newF (o := .lst []) nzb
      generalize upd H8 zb (.lst []) = H9 at s9 h9 ⊢
      by_cases hw : Wt = []
      · rw [decide_eq_true hw]
        obtain ⟨x, r, hx⟩ : ∃ x r, L = x :: r := by
          cases L with
          | nil => exact (hne.elim (fun h => h rfl) fun h => h hw).elim
          | cons x r => exact ⟨x, r, rfl⟩
        have e1 : pG L Wt p = x.1 := by
          unfold pG
          rw [if_pos hw, hx]
          rfl
        obtain ⟨ls, hl9, rl9⟩ := lsT_same ((s7.trans s8).trans s9) hL
        obtain ⟨v, hv, t, rfl, htt⟩ := rl9.at (i := 0) (x := x) (by rw [hx]; rfl)
        refine iteT ⟨_, rfl, l, _, _, _, rfl, rfl, SqL.of hl9, atI_nat (j := 0) hv, t, _, 0, _, rfl, rfl, SqT.of htt, rfl, ?_⟩
        exact stay _ H9 x.1 y5 y6 y7 y8 y9 rfl hne ((s7.trans s8).trans s9) e1.symm
      · rw [decide_eq_false hw]
        refine iteF ?_
        exact stay _ H9 p y5 y6 y7 y8 y9 rfl hne ((s7.trans s8).trans s9) (if_neg hw).symm
  · rw [decide_eq_false hLn]
    refine iteT (iteT ?_)
    have hne : L ≠ [] ∨ Wt ≠ [] := .inl hLn
    have := List.length_pos_iff.mpr hLn
    refine ⟨_, fun σ' H' h => ⟨m - 1, by omega, h⟩, ?_⟩
    refine ⟨_, rfl, k_eqN dtP (lsP_same s7 hW) fun zb nzb => ⟨_, rfl, ?_⟩⟩
    obtain ⟨s9, h9⟩ := newF (o := .lst []) nzb
    generalize upd H7 zb (.lst []) = H9 at s9 h9 ⊢
    by_cases hw : Wt = []
    · rw [decide_eq_true hw]
      obtain ⟨x, r, hx⟩ : ∃ x r, L = x :: r := by
        cases L with
        | nil => exact (hne.elim (fun h => h rfl) fun h => h hw).elim
        | cons x r => exact ⟨x, r, rfl⟩
      have e1 : pG L Wt p = x.1 := by
        unfold pG
        rw [if_pos hw, hx]
        rfl
      obtain ⟨ls, hl9, rl9⟩ := lsT_same (s7.trans s9) hL
      obtain ⟨v, hv, t, rfl, htt⟩ := rl9.at (i := 0) (x := x) (by rw [hx]; rfl)
      refine iteT ⟨_, rfl, l, _, _, _, rfl, rfl, SqL.of hl9, atI_nat (j := 0) hv, t, _, 0, _, rfl, rfl, SqT.of htt, rfl, ?_⟩
      exact stay _ H9 x.1 y5 y6 y7 y8 y9 rfl hne (s7.trans s9) e1.symm
    · rw [decide_eq_false hw]
      refine iteF ?_
      exact stay _ H9 p y5 y6 y7 y8 y9 rfl hne (s7.trans s9) (if_neg hw).symm
end

def sp_pressed : Sp := fun vs H Q _ => ∃ (a : Addr) (v : V) (ss : List Spn) (t : Spn), vs = [.ref a, v] ∧ LsP H a ss ∧ Pr H v t ∧ ss.length ≤ 20 ∧ ∀ H' n, Same H H' → Q (.int n) H'
/-- a sum with its windows -/
def Wn (c : Nat) (H : Hp) (v : V) : Prop := ∃ p q n ys, v = .ref p ∧ H p = some (.tup [.int n, .ref q]) ∧ LsP H q ys ∧ ys.length ≤ c
theorem Wn.same {c : Nat} {H H' : Hp} {v : V} (s : Same H H') (h : Wn c H v) : Wn c H' v := let ⟨p, q, n, ys, a, b, d, e⟩ := h; ⟨p, q, n, ys, a, s _ _ b, lsP_same s d, e⟩
theorem Wn.mono {c d : Nat} {H : Hp} {v : V} (s : c ≤ d) (h : Wn c H v) : Wn d H v := let ⟨p, q, n, ys, a, b, d, e⟩ := h; ⟨p, q, n, ys, a, b, d, Nat.le_trans e s⟩
def sp_best_before : Sp := fun vs H Q _ => ∃ (d b : Addr) (low : Int) (kvs : List (Key × V)) (hs : List Int) (c : Nat), vs = [.ref d, .ref b, .int low] ∧ H d = some (.dK kvs) ∧ LsI H b hs ∧ (∀ h ∈ hs, h ≤ low → ∃ v, valV kvs (Sum.inl h) = some v ∧ Wn c H v) ∧ ∀ H' v, Same H H' → Wn c H' v → Q v H'
def sp_best_windows : Sp := fun vs H Q _ => ∃ (a : Addr) (ss : List Spn), vs = [.ref a] ∧ LsP H a ss ∧ ss.length ≤ 20 ∧ ∀ H' w, Same H H' → Q (.ref w) H'
def sp_giving : Sp := fun vs H Q _ => ∃ (a : Addr) (ss : List Spn), vs = [.ref a] ∧ LsP H a ss ∧ ss.length ≤ 20 ∧ (∀ s ∈ ss, okS s) ∧ ∀ H' t g v G k, Same H H' → H t = none → H' t = some (.tup [.ref g, v]) → Ls On H' g G → G.length = ss.length → nones G + k = ss.length → IsPl ss k → Q (.ref t) H'
section
variable {P : Program} {w : World} {K : PySem.W.Frag} {mg : Str → Option Value} {base : Heap}
theorem ok_pressed (T : Txt K mg) : FnOk P w K mg base CX0 2 T.pressed.f T.pressed.fd ["spans", "window"] sp_pressed := by
  refine T.pressed.F.ok sc_pressed (fun vs H Q E h => ?_) (fun cdv A outer s H vs Q E hr h => ?_)
  · first | (obtain ⟨_, rfl, _⟩ := h; rfl) | (obtain ⟨_, _, rfl, _⟩ := h; rfl) | (obtain ⟨_, _, _, rfl, _⟩ := h; rfl) | (obtain ⟨_, _, _, _, rfl, _⟩ := h; rfl) | (obtain ⟨_, _, _, _, _, rfl, _⟩ := h; rfl) | (obtain ⟨_, _, _, _, _, _, rfl, _⟩ := h; rfl) | (obtain ⟨_, _, _, _, _, _, _, rfl, _⟩ := h; rfl) | (obtain ⟨_, _, _, _, _, _, _, _, rfl, _⟩ := h; rfl) | (obtain ⟨_, _, _, _, _, _, _, _, _, rfl, _⟩ := h; rfl) | (obtain ⟨_, _, _, _, _, _, _, _, _, _, rfl, _⟩ := h; rfl) | (obtain ⟨_, _, _, _, _, _, _, _, _, _, _, rfl, _⟩ := h; rfl)
  refine ⟨_, (pss_one (ps_ret (pe_op op_sub (pe_callB call_len_seq (by rfl) T.b_len PySem.boot_len (pa_cons (pe_lc (own := [("span", 2)]) rfl sc_pressed.nd (pi_list (pv 0)) (blkOk_by (N := ["spans", "window", "span"]) (sc := defScope s_pressed) (by decide +kernel)) (fun _ _ _ _ _ => (pg_name (i := 2) sc_pressed.nd rfl (.inl rfl))) (fun _ _ _ _ _ => (pts_one (pt_val (pe_call (ok_is_inside T) (hr.mono (by decide)) (by rfl) T.is_inside.g T.is_inside.F.kp T.is_inside.b .nil pass0 (pa_cons (pv 2) (pa_cons (pv 1) pa_nil)))))) (fun _ _ _ _ _ => (pv 2))) pa_nil)) (pe_op op_sub (pe_ix (ix_tupK (K := K) rfl) (pv 1) pe_int (fun _ _ => rfl)) (pe_ix (ix_tupK (K := K) rfl) (pv 1) pe_int (fun _ _ => rfl)))))), ?_⟩
  try dsimp only [cx_K]
  obtain ⟨a, v, ss, t, rfl, hl, hv, hn, q⟩ := h
  obtain ⟨us, hu, ru⟩ := id hl
  refine ⟨_, rfl, a, rfl, ⟨_, SqL.of hu⟩, fun D hD => lc_eachF Pr (fun t k => k.tp t) (fun x => insideB x t) hu ru (by omega) hD (fun _ => rfl) (show 2 < 3 by decide) (fun v2 x H1 hx s1 r Kb hb => ?_) (fun H1 s1 h1 => ?_)⟩
  · exact ⟨_, rfl, _, rfl, v2, v, x, t, rfl, r, hv.tp (tp_of s1), _, rfl, hb H1 (Same.refl _)⟩
  · obtain ⟨ws, hw, rw1⟩ := h1
    obtain ⟨p, rfl, hp⟩ := hv
    have hp1 := s1 _ _ hp
    refine ⟨D, _, rfl, .inl (SqL.of hw), ?_⟩
    walk_at "go"
    exact q H1 _ s1
theorem ok_best_before (T : Txt K mg) : FnOk P w K mg base CX0 1 T.best_before.f T.best_before.fd ["best", "highs", "low"] sp_best_before := by
  refine T.best_before.F.ok sc_best_before (fun vs H Q E h => ?_) (fun cdv A outer s H vs Q E hr h => ?_)
  · first | (obtain ⟨_, rfl, _⟩ := h; rfl) | (obtain ⟨_, _, rfl, _⟩ := h; rfl) | (obtain ⟨_, _, _, rfl, _⟩ := h; rfl) | (obtain ⟨_, _, _, _, rfl, _⟩ := h; rfl) | (obtain ⟨_, _, _, _, _, rfl, _⟩ := h; rfl) | (obtain ⟨_, _, _, _, _, _, rfl, _⟩ := h; rfl) | (obtain ⟨_, _, _, _, _, _, _, rfl, _⟩ := h; rfl) | (obtain ⟨_, _, _, _, _, _, _, _, rfl, _⟩ := h; rfl) | (obtain ⟨_, _, _, _, _, _, _, _, _, rfl, _⟩ := h; rfl) | (obtain ⟨_, _, _, _, _, _, _, _, _, _, rfl, _⟩ := h; rfl) | (obtain ⟨_, _, _, _, _, _, _, _, _, _, _, rfl, _⟩ := h; rfl)
  refine ⟨_, (pss_cons (ps_set (i := 3) sc_best_before.nd rfl (.inl rfl) (pe_tup (pa_cons pe_int (pa_cons (pe_lst pa_nil) pa_nil))))
  (pss_cons (ps_for PassesOwn.never rfl (pi_list (pv 1)) (pg_name (i := 4) sc_best_before.nd rfl (.inl rfl))
  (pss_one (ps_if (PW.pt (pw_and (pt_cmpR op_le (pv 4) (pv 2) (nomark _)) (pw_and1 (pt_cmpR op_gt (pe_ix (ix_tupK (K := K) rfl) (pe_dget (hu_of hr) (pv 0) (pv 4) (fun _ _ => rfl)) pe_int (fun _ _ => rfl)) (pe_ix (ix_tupK (K := K) rfl) (pv 3) pe_int (fun _ _ => rfl)) (nomark _)))))
  (pss_one (ps_set (i := 3) sc_best_before.nd rfl (.inl rfl) (pe_dget (hu_of hr) (pv 0) (pv 4) (fun _ _ => rfl))))
  pss_nil)))
  (pss_one (ps_ret (pv 3))))), ?_⟩
  try dsimp only [cx_K]
  obtain ⟨d, b, low, kvs, hs, c, rfl, hd, hb, hk, q⟩ := h
  refine ⟨Nat.zero_le _, fun e ne => ?_⟩
  obtain ⟨s1, h1⟩ := newF (o := .lst []) ne
  generalize upd H e (.lst []) = H1 at s1 h1 ⊢
  refine ⟨by show 2 ≤ sizeLine; decide, fun t nt => ?_⟩
  obtain ⟨s2, h2⟩ := newF (o := .tup [.int 0, .ref e]) nt
  generalize upd H1 t (.tup [.int 0, .ref e]) = H2 at s2 h2 ⊢
  have s02 := s1.trans s2
  refine ⟨_, rfl, b, rfl, ⟨_, SqL.of (s02 _ _ hb)⟩, for_it (walk_list (xs := hs.map V.int)) (fun i σ H' => ∃ v y4, σ = [some (.ref d), some (.ref b), some (.int low), some v, y4] ∧ Same H H' ∧ Wn c H' v) ?_ ?_ ?_ ?_⟩
  · exact ⟨_, _, rfl, s02, t, e, 0, [], rfl, h2, ⟨[], s2 _ _ h1, Rows.nil⟩, Nat.zero_le _⟩
  · rintro i σ H' hi ⟨v, y4, rfl, s3, _⟩
    exact SqL.of (s3 _ _ hb)
  · rintro i x σ _ H3 hi ⟨v, y4, rfl, s3, hv⟩ ⟨rfl, hx⟩
    obtain ⟨m, em, r1⟩ := (int_rows (H := fun _ => none) hs).get hx
    have r1 : x = .int m := r1
    subst r1
    refine ⟨_, rfl, _, rfl, _, _, rfl, rfl, _, rfl, ?_⟩
    refine ifD (fun hle => ?_) (fun hle => ?_)
    · obtain ⟨v2, ev, hv2⟩ := hk m (List.mem_of_getElem? em) hle
      have dg : DGet H3 d (.int m) (some v2) := by
        have := DGet.k (k := Sum.inl m) (s3 _ _ hd)
        rw [ev] at this
        exact this
      have hv2' := hv2.same s3
      obtain ⟨p2, q2, n2, ys2, rfl, hp2, hq2, l2⟩ := id hv2'
      obtain ⟨p1, q1, n1, ys1, rfl, hp1, hq1, l1⟩ := id hv
      refine ⟨_, rfl, _, rfl, d, _, rfl, dg, p2, _, 0, _, rfl, rfl, SqT.of hp2, rfl, _, rfl, p1, _, 0, _, rfl, rfl, SqT.of hp1, rfl, _, _, rfl, rfl, _, rfl, ?_⟩
      refine ifD (fun hlt => ?_) (fun hlt => ?_)
      · exact ⟨_, rfl, _, rfl, d, _, rfl, dg, _, _, rfl, s3, hv2'⟩
      · exact ⟨_, _, rfl, s3, hv⟩
    · exact ⟨_, _, rfl, s3, hv⟩
  · rintro σ H' ⟨v, y4, rfl, s3, hv⟩
    exact ⟨_, rfl, q H' v s3 hv⟩
theorem ok_best_windows (T : Txt K mg) : FnOk P w K mg base CX0 3 T.best_windows.f T.best_windows.fd ["spans"] sp_best_windows := by
  refine T.best_windows.F.ok sc_best_windows (fun vs H Q E h => ?_) (fun cdv A outer s H vs Q E hr h => ?_)
  · first | (obtain ⟨_, rfl, _⟩ := h; rfl) | (obtain ⟨_, _, rfl, _⟩ := h; rfl) | (obtain ⟨_, _, _, rfl, _⟩ := h; rfl) | (obtain ⟨_, _, _, _, rfl, _⟩ := h; rfl) | (obtain ⟨_, _, _, _, _, rfl, _⟩ := h; rfl) | (obtain ⟨_, _, _, _, _, _, rfl, _⟩ := h; rfl) | (obtain ⟨_, _, _, _, _, _, _, rfl, _⟩ := h; rfl) | (obtain ⟨_, _, _, _, _, _, _, _, rfl, _⟩ := h; rfl) | (obtain ⟨_, _, _, _, _, _, _, _, _, rfl, _⟩ := h; rfl) | (obtain ⟨_, _, _, _, _, _, _, _, _, _, rfl, _⟩ := h; rfl) | (obtain ⟨_, _, _, _, _, _, _, _, _, _, _, rfl, _⟩ := h; rfl)
  refine ⟨_, (pss_cons (ps_set (i := 1) sc_best_windows.nd rfl (.inl rfl) (pe_callB (cr_sortSJ (w := w) rfl rfl) (by rfl) T.b_sorted (by decide +kernel) (pa_cons (pe_callTy (cr_setJ (K := K) (w := w) rfl rfl rfl) (by rfl) T.b_set (by decide +kernel) (pa_cons (pe_lc (own := [("span", 11)]) (tt := tYes) rfl sc_best_windows.nd (pi_list (pv 0)) (blkOk_by (N := ["spans", "lows", "highs", "best", "ahead", "high", "found", "low", "many", "before", "one", "span"]) (sc := defScope s_best_windows) (by decide +kernel)) (fun _ _ _ _ _ => (pg_name (i := 11) sc_best_windows.nd rfl (.inl rfl))) (fun _ _ _ _ _ => pts_nil) (fun _ _ _ _ _ => (pe_ix (ix_tupK (K := K) rfl) (pv 11) pe_int (fun _ _ => rfl)))) pa_nil)) pa_nil)))
  (pss_cons (ps_set (i := 2) sc_best_windows.nd rfl (.inl rfl) (pe_callB (cr_sortSJ (w := w) rfl rfl) (by rfl) T.b_sorted (by decide +kernel) (pa_cons (pe_callTy (cr_setJ (K := K) (w := w) rfl rfl rfl) (by rfl) T.b_set (by decide +kernel) (pa_cons (pe_lc (own := [("span", 11)]) (tt := tYes) rfl sc_best_windows.nd (pi_list (pv 0)) (blkOk_by (N := ["spans", "lows", "highs", "best", "ahead", "high", "found", "low", "many", "before", "one", "span"]) (sc := defScope s_best_windows) (by decide +kernel)) (fun _ _ _ _ _ => (pg_name (i := 11) sc_best_windows.nd rfl (.inl rfl))) (fun _ _ _ _ _ => pts_nil) (fun _ _ _ _ _ => (pe_ix (ix_tupK (K := K) rfl) (pv 11) pe_int (fun _ _ => rfl)))) pa_nil)) pa_nil)))
  (pss_cons (ps_set (i := 3) sc_best_windows.nd rfl (.inl rfl) pe_dnewK)
  (pss_cons (ps_set (i := 4) sc_best_windows.nd rfl (.inl rfl) (pe_tup (pa_cons pe_int (pa_cons (pe_lst pa_nil) pa_nil))))
  (pss_cons (ps_for PassesOwn.never rfl (pi_list (pv 2)) (pg_name (i := 5) sc_best_windows.nd rfl (.inr rfl))
  (pss_cons (ps_set (i := 6) sc_best_windows.nd rfl (.inl rfl) (pv 4))
  (pss_cons (ps_for PassesOwn.never rfl (pi_list (pe_lc (own := [("one", 10)]) rfl sc_best_windows.nd (pi_list (pv 1)) (blkOk_by (N := ["spans", "lows", "highs", "best", "ahead", "high", "found", "low", "many", "before", "one", "span"]) (sc := defScope s_best_windows) (by decide +kernel)) (fun _ _ _ _ _ => (pg_name (i := 10) sc_best_windows.nd rfl (.inl rfl))) (fun _ _ _ _ _ => (pts_one (pt_cmpR op_lt (pv 10) (pv 5) (nomark _)))) (fun _ _ _ _ _ => (pv 10)))) (pg_name (i := 7) sc_best_windows.nd rfl (.inl rfl))
  (pss_cons (ps_set (i := 8) sc_best_windows.nd rfl (.inl rfl) (pe_call (ok_pressed T) (hr.mono (by decide)) (by rfl) T.pressed.g T.pressed.F.kp T.pressed.b .nil pass0 (pa_cons (pv 0) (pa_cons (pe_tup (pa_cons (pv 7) (pa_cons (pv 5) pa_nil))) pa_nil))))
  (pss_cons (ps_set (i := 9) sc_best_windows.nd rfl (.inl rfl) (pe_call (ok_best_before T) (hr.mono (by decide)) (by rfl) T.best_before.g T.best_before.F.kp T.best_before.b .nil pass0 (pa_cons (pv 3) (pa_cons (pv 2) (pa_cons (pv 7) pa_nil)))))
  (pss_one (ps_if (PW.pt (pw_and (pt_cmpR op_gt (pv 8) pe_int (nomark _)) (pw_and1 (pt_cmpR op_gt (pe_op op_add (pe_ix (ix_tupK (K := K) rfl) (pv 9) pe_int (fun _ _ => rfl)) (pv 8)) (pe_ix (ix_tupK (K := K) rfl) (pv 6) pe_int (fun _ _ => rfl)) (nomark _)))))
  (pss_one (ps_set (i := 6) sc_best_windows.nd rfl (.inl rfl) (pe_tup (pa_cons (pe_op op_add (pe_ix (ix_tupK (K := K) rfl) (pv 9) pe_int (fun _ _ => rfl)) (pv 8)) (pa_cons (pe_op op_catJ (pe_ix (ix_tupK (K := K) rfl) (pv 9) pe_int (fun _ _ => rfl)) (pe_lst (pa_cons (pe_tup (pa_cons (pv 7) (pa_cons (pv 5) pa_nil))) pa_nil))) pa_nil)))))
  pss_nil)))))
  (pss_cons (ps_dput (hu_of hr) (pv 3) (pv 5) (pv 6) rfl)
  (pss_one (ps_set (i := 4) sc_best_windows.nd rfl (.inl rfl) (pv 6)))))))
  (pss_one (ps_ret (pe_ix (ix_tupK (K := K) rfl) (pv 4) pe_int (fun _ _ => rfl))))))))), ?_⟩
  try dsimp only [cx_K]
  obtain ⟨a, ss, rfl, hl, hn, q⟩ := h
  obtain ⟨us, hu, ru⟩ := id hl
  refine ⟨_, rfl, a, rfl, ⟨us, SqL.of hu⟩, fun D hD => lc_eachM Pr (fun t k => k.tp t) In (fun t k => k.tp t) (fun s => s.1) hu ru (by omega) hD (fun v s H0 _ s0 ⟨p, ev, hp⟩ Kt ht => ?_) (fun H1 s1 h1 => ?_)⟩
  · subst ev
    refine ⟨rfl, ?_⟩
    walk_at "go"
    exact ht _ _ (Same.refl _) rfl
  have h1 := ls_int h1
  refine k_setOf h1 (by rw [List.length_map]; omega) fun H2 r c s2 n2 hc h2 => ?_
  refine k_sortU h2 hc fun H3 lo s3 n3 hlo => ?_
  have s03 := (s1.trans s2).trans s3
  refine ⟨_, rfl, a, rfl, ⟨us, SqL.of (s03 _ _ hu)⟩, fun D2 hD2 => lc_eachM Pr (fun t k => k.tp t) In (fun t k => k.tp t) (fun s => s.2) (s03 _ _ hu) (ru.mono fun _ _ k => k.tp (tp_of s03)) (by omega) hD2 (fun v s H0 _ s0 ⟨p, ev, hp⟩ Kt ht => ?_) (fun H4 s4 h4 => ?_)⟩
  · subst ev
    refine ⟨rfl, ?_⟩
    walk_at "go"
    exact ht _ _ (Same.refl _) rfl
  have h4 := ls_int h4
  refine k_setOf h4 (by rw [List.length_map]; omega) fun H5 r2 c2 s5 n5 hc2 h5 => ?_
  refine k_sortU h5 hc2 fun H6 hi s6 n6 hhi => ?_
  have s36 := (s4.trans s5).trans s6
  have s06 := s03.trans s36
  have hlo := s36 _ _ hlo
  have lenlo : (sortU (ss.map (·.1))).length ≤ 1000 := by
    have := sub_ends ss
    have h := len_sub (m := ss.map (·.1)) (List.Pairwise.imp (fun {x y} h => Int.ne_of_lt h) (sortU_lt (ss.map (·.1)))) fun x hx => mem_sortU.mp hx
    rw [List.length_map] at h
    omega
  have lenhi : (sortU (ss.map (·.2))).length ≤ 100 := by
    have h := len_sub (m := ss.map (·.2)) (List.Pairwise.imp (fun {x y} h => Int.ne_of_lt h) (sortU_lt (ss.map (·.2)))) fun x hx => mem_sortU.mp hx
    rw [List.length_map] at h
    omega
  have srt := sortU_lt (ss.map (·.2))
  generalize sortU (ss.map (·.1)) = los at hlo lenlo ⊢
  generalize sortU (ss.map (·.2)) = his at hhi lenhi srt ⊢
  clear s36 n6 h5 n5 s6 s5 s4 h4 hD2 n3 h2 s3 s2 n2 s1 h1 hD s03 hc hc2
  intro d nd
  obtain ⟨s7, h7⟩ := newF (o := .dK []) nd
  generalize upd H6 d (.dK []) = H7 at s7 h7 ⊢
  refine ⟨Nat.zero_le _, fun e ne => ?_⟩
  obtain ⟨s8, h8⟩ := newF (o := .lst []) ne
  generalize upd H7 e (.lst []) = H8 at s8 h8 ⊢
  refine ⟨by show 2 ≤ sizeLine; decide, fun t nt => ?_⟩
  obtain ⟨s9, h9⟩ := newF (o := .tup [.int 0, .ref e]) nt
  generalize upd H8 t (.tup [.int 0, .ref e]) = H9 at s9 h9 ⊢
  have s79 := s8.trans s9
  have hd9 := s79 _ _ h7
  have s69 := s7.trans s79
  refine ⟨_, rfl, hi, rfl, ⟨_, SqL.of (s69 _ _ hhi)⟩, for_it (walk_list (xs := his.map V.int)) (fun i σ H' => ∃ (v : V) (kvs : List (Key × V)) (y5 y6 y7 y8 y9 y10 y11 : Option V), σ = [some (.ref a), some (.ref lo), some (.ref hi), some (.ref d), some v, y5, y6, y7, y8, y9, y10, y11] ∧ Same H6 H' ∧ H' d = some (.dK kvs) ∧ kvs.length ≤ i ∧ Wn i H' v ∧ ∀ (j : Nat) (h : Int), j < i → his[j]? = some h → ∃ v, valV kvs (Sum.inl h) = some v ∧ Wn i H' v) ?_ ?_ ?_ ?_⟩
  · exact ⟨_, [], none, none, none, none, none, none, none, rfl, s69, hd9, Nat.le_refl _, ⟨t, e, 0, [], rfl, h9, ⟨[], s9 _ _ h8, Rows.nil⟩, Nat.le_refl _⟩, fun j h hj => absurd hj (Nat.not_lt_zero j)⟩
  · rintro i σ H' _ ⟨v, kvs, y5, y6, y7, y8, y9, y10, y11, rfl, s10, _⟩
    exact SqL.of (s10 _ _ hhi)
  · rintro i x σ _ H10 hi' ⟨v, kvs, y5, y6, y7, y8, y9, y10, y11, rfl, s10, hd10, lk, hv, hk⟩ ⟨rfl, hx⟩
    obtain ⟨m, em, r1⟩ := (int_rows (H := fun _ => none) his).get hx
    have r1 : x = .int m := r1
    subst r1
    have il : i < his.length := (List.getElem?_eq_some_iff.mp em).1
    refine ⟨_, rfl, _, rfl, lo, rfl, ⟨_, SqL.of (s10 _ _ hlo)⟩, fun D hD => lc_eachF In (fun _ h => h) (fun x => decide (x < m)) (s10 _ _ hlo) (int_rows _) lenlo hD (fun _ => rfl) (show 10 < 12 by decide) (fun v x H11 hx s11 r Kb hb => ?_) (fun H11 s11 h11 => ?_)⟩
    · have r : v = .int x := r
      subst r
      exact ⟨_, rfl, _, rfl, _, _, rfl, rfl, _, rfl, hb H11 (Same.refl _)⟩
    have h11 := ls_int h11
    refine ⟨D, rfl, ⟨_, SqL.of h11⟩, for_it (walk_list (xs := (los.filter fun x => decide (x < m)).map V.int)) (fun _ σ H' => ∃ (vf : V) (y7 y8 y9 y10 y11 : Option V), σ = [some (.ref a), some (.ref lo), some (.ref hi), some (.ref d), some v, some (.int m), some vf, y7, y8, y9, y10, y11] ∧ Same H11 H' ∧ Wn (i + 1) H' vf) ?_ ?_ ?_ ?_⟩
    · exact ⟨v, _, _, _, _, _, rfl, Same.refl _, (hv.same s11).mono (Nat.le_succ _)⟩
    · rintro j σ H' _ ⟨vf, y7, y8, y9, y10, y11, rfl, s12, _⟩
      exact SqL.of (s12 _ _ h11)
    · clear y7 y8 y9 y10 y11
      rintro j x σ _ H12 hj ⟨vf, y7, y8, y9, y10, y11, rfl, s12, hvf⟩ ⟨rfl, hx⟩
      obtain ⟨lw, elw, r1⟩ := (int_rows (H := fun _ => none) (los.filter fun x => decide (x < m))).get hx
      have r1 : x = .int lw := r1
      subst r1
      have hlm : lw < m := of_decide_eq_true (List.mem_filter.mp (List.mem_of_getElem? elw)).2
      have s612 := (s10.trans s11).trans s12
      have s012 := s06.trans s612
      have s1012 := s11.trans s12
      refine ⟨_, rfl, _, rfl, _, rfl, by show 2 ≤ sizeLine; decide, fun tw ntw => ?_⟩
      obtain ⟨s13, h13⟩ := newF (o := .tup [.int lw, .int m]) ntw
      generalize upd H12 tw (.tup [.int lw, .int m]) = H13 at s13 h13 ⊢
      refine ⟨a, _, ss, (lw, m), rfl, lsP_same (s012.trans s13) hl, ⟨tw, rfl, h13⟩, hn, fun H14 mn s14 => ?_⟩
      have s14a := (s1012.trans s13).trans s14
      refine ⟨_, rfl, _, rfl, _, rfl, d, hi, lw, kvs, his, i, rfl, s14a _ _ hd10, (s10.trans s14a) _ _ hhi, fun h hh hle => ?_, fun H15 vb s15 hvb => ?_⟩
      · obtain ⟨j2, ej2⟩ := List.mem_iff_getElem?.mp hh
        have lt := (srt_lt srt ej2 em).mpr (by omega)
        obtain ⟨v3, e3, w3⟩ := hk j2 h lt ej2
        exact ⟨v3, e3, w3.same s14a⟩
      have s1215 := (s13.trans s14).trans s15
      have hvf15 := hvf.same s1215
      obtain ⟨pf, qf, nf, yf, rfl, hpf, hqf, lf⟩ := id hvf15
      obtain ⟨pb, qb, nb, yb, rfl, hpb, hqb, lb⟩ := id hvb
      refine ⟨_, rfl, _, _, rfl, rfl, _, rfl, ?_⟩
      refine ifD (fun h1 => ?_) (fun h1 => ?_)
      · refine ⟨_, rfl, pb, _, 0, _, rfl, rfl, SqT.of hpb, rfl, _, rfl, _, _, rfl, rfl, _, rfl, pf, _, 0, _, rfl, rfl, SqT.of hpf, rfl, _, _, rfl, rfl, _, rfl, ?_⟩
        refine ifD (fun h2 => ?_) (fun h2 => ?_)
        · refine ⟨_, rfl, pb, _, 0, _, rfl, rfl, SqT.of hpb, rfl, _, rfl, _, _, rfl, rfl, ?_⟩
          refine ⟨_, rfl, pb, _, 1, _, rfl, rfl, SqT.of hpb, rfl, _, rfl, _, rfl, by show 2 ≤ sizeLine; decide, fun t1 nt1 => ?_⟩
          obtain ⟨s16, h16⟩ := newF (o := .tup [.int lw, .int m]) nt1
          generalize upd H15 t1 (.tup [.int lw, .int m]) = H16 at s16 h16 ⊢
          refine ⟨by show 1 ≤ sizeLine; decide, fun t2 nt2 => ?_⟩
          obtain ⟨s17, h17⟩ := newF (o := .lst [.ref t1]) nt2
          generalize upd H16 t2 (.lst [.ref t1]) = H17 at s17 h17 ⊢
          obtain ⟨ub, hub, rub⟩ := lsP_same (s16.trans s17) hqb
          refine k_cat hub h17 (by rw [rub.len, List.length_singleton]; omega) fun t3 H18 s18 nt3 h18 => ?_
          refine ⟨by show 2 ≤ sizeLine; decide, fun t4 nt4 => ?_⟩
          obtain ⟨s19, h19⟩ := newF (o := .tup [.int (nb + mn), .ref t3]) nt4
          have tp := tp_of (s18.trans s19)
          have s1519 := ((s16.trans s17).trans s18).trans s19
          refine ⟨.ref t4, _, _, _, _, _, rfl, (s12.trans s1215).trans s1519, t4, t3, nb + mn, yb ++ [(lw, m)], rfl, h19, ⟨_, s19 _ _ h18, (rub.mono fun _ _ z => z.tp tp).snoc ⟨t1, rfl, ((s17.trans s18).trans s19) _ _ h16⟩⟩, by rw [List.length_append, List.length_singleton]; omega⟩
        · exact ⟨_, _, _, _, _, _, rfl, s12.trans s1215, hvf15⟩
      · exact ⟨_, _, _, _, _, _, rfl, s12.trans s1215, hvf15⟩
    · rintro σ H' ⟨vf, y7, y8, y9, y10, y11, rfl, s12, hvf⟩
      have s1012 := s11.trans s12
      refine ⟨_, rfl, _, rfl, _, rfl, d, _, rfl, DPut.k (k := Sum.inl m) (s1012 _ _ hd10) (szt (by omega)), ?_⟩
      have ndp : ∀ {b o}, H6 b = some o → b ≠ d := fun {b o} h => ne_of_none h nd
      have wn : ∀ v, Wn (i + 1) H' v → Wn (i + 1) (upd H' d (.dK (putK kvs (Sum.inl m) vf))) v := fun v ⟨p, qq, n, ys, e1, e2, ⟨ws, e3, e4⟩, e5⟩ => by
        have hdd := s1012 _ _ hd10
        refine ⟨p, qq, n, ys, e1, up_far (fun e => ?_) e2, ⟨ws, up_far (fun e => ?_) e3, e4.mono fun _ _ z => z.tp (tp_mut hdd fun xs e => by cases e)⟩, e5⟩
        · rw [e, hdd] at e2
          cases e2
        · rw [e, hdd] at e3
          cases e3
      refine ⟨_, rfl, vf, _, _, _, _, _, _, _, _, rfl, sm_mut (s10.trans s1012) nd, upd_same, Nat.le_trans (length_putK _ _ _) (by omega), wn _ hvf, fun j h hj eh => ?_⟩
      rw [valV_put]
      by_cases e : (Sum.inl h : Key) = Sum.inl m
      · rw [if_pos e]
        exact ⟨vf, rfl, wn _ hvf⟩
      · rw [if_neg e]
        have hji : j ≠ i := fun z => e (by
          rw [z, em] at eh
          rw [Option.some.inj eh])
        obtain ⟨v3, e3, w3⟩ := hk j h (by omega) eh
        exact ⟨v3, e3, wn _ ((w3.same s1012).mono (Nat.le_succ _))⟩
  · rintro σ H' ⟨v, kvs, y5, y6, y7, y8, y9, y10, y11, rfl, s10, _, _, hv, _⟩
    obtain ⟨p, qq, n, ys, rfl, hp, _⟩ := hv
    exact ⟨_, rfl, p, _, 1, _, rfl, rfl, SqT.of hp, rfl, q H' qq (s06.trans s10)⟩
theorem ok_giving (T : Txt K mg) : FnOk P w K mg base CX0 5 T.giving.f T.giving.fd ["spans"] sp_giving := by
  refine T.giving.F.ok sc_giving (fun vs H Q E h => ?_) (fun cdv A outer s H vs Q E hr h => ?_)
  · first | (obtain ⟨_, rfl, _⟩ := h; rfl) | (obtain ⟨_, _, rfl, _⟩ := h; rfl) | (obtain ⟨_, _, _, rfl, _⟩ := h; rfl) | (obtain ⟨_, _, _, _, rfl, _⟩ := h; rfl) | (obtain ⟨_, _, _, _, _, rfl, _⟩ := h; rfl) | (obtain ⟨_, _, _, _, _, _, rfl, _⟩ := h; rfl) | (obtain ⟨_, _, _, _, _, _, _, rfl, _⟩ := h; rfl) | (obtain ⟨_, _, _, _, _, _, _, _, rfl, _⟩ := h; rfl) | (obtain ⟨_, _, _, _, _, _, _, _, _, rfl, _⟩ := h; rfl) | (obtain ⟨_, _, _, _, _, _, _, _, _, _, rfl, _⟩ := h; rfl) | (obtain ⟨_, _, _, _, _, _, _, _, _, _, _, rfl, _⟩ := h; rfl)
  refine ⟨_, (pss_cons (ps_expr (pe_call (ok_must_spans T) (hr.mono (by decide)) (by rfl) T.must_spans.g T.must_spans.F.kp T.must_spans.b .nil pass0 (pa_cons (pv 0) pa_nil)))
  (pss_one (ps_ret (pe_tup (pa_cons (pe_call (ok_given_places T) (hr.mono (by decide)) (by rfl) T.given_places.g T.given_places.F.kp T.given_places.b .nil pass0 (pa_cons (pv 0) pa_nil)) (pa_cons (pe_call (ok_best_windows T) (hr.mono (by decide)) (by rfl) T.best_windows.g T.best_windows.F.kp T.best_windows.b .nil pass0 (pa_cons (pv 0) pa_nil)) pa_nil)))))), ?_⟩
  try dsimp only [cx_K]
  obtain ⟨a, ss, rfl, hl, hn, hok, q⟩ := h
  refine ⟨_, rfl, a, ss, rfl, hl, hok, ?_⟩
  refine ⟨_, rfl, a, ss, rfl, hl, hn, fun H1 g G k s1 ng hG lG cn pl => ?_⟩
  refine ⟨_, rfl, a, ss, rfl, lsP_same s1 hl, hn, fun H2 wd s2 => ?_⟩
  refine ⟨by show 2 ≤ sizeLine; decide, fun t nt => ?_⟩
  obtain ⟨s3, h3⟩ := newF (o := .tup [.ref g, .ref wd]) nt
  exact q _ t g (.ref wd) G k ((s1.trans s2).trans s3) ((s1.trans s2).free nt) h3 (Ls.same (fun t k => k.tp t) (s2.trans s3) hG) lG cn pl
end

theorem k_inN {K : PySem.W.Frag} {H : Hp} {a : Addr} {G : List (Option Int)} {Q : VK} (h : Ls On H a G) (q : Q (.bl (decide (none ∈ G))) H) : jIn K false .non (.ref a) H Q := by
  obtain ⟨vs, hv, rv⟩ := h
  have key : ∀ (vs : List V) (G : List (Option Int)), Rows (On H) vs G → inV .non vs = decide (none ∈ G) ∧ vs.all flatV = true := by
    intro vs G
    induction vs generalizing G with
    | nil =>
      intro r
      have : G = [] := List.eq_nil_of_length_eq_zero r.len.symm
      subst this
      exact ⟨rfl, rfl⟩
    | cons v vs ih =>
      intro r
      cases G with
      | nil => cases r.len
      | cons x G =>
        obtain ⟨a, b⟩ := r.uncons
        obtain ⟨c, d⟩ := ih G b
        cases x with
        | none =>
          have a : v = .non := a
          subst a
          exact ⟨by simp [inV, eqV], by simp [flatV, d]⟩
        | some i =>
          have a : v = .int i := a
          subst a
          refine ⟨?_, by simp [flatV, d]⟩
          unfold inV at c ⊢
          rw [List.any_cons, c]
          simp [eqV]
  obtain ⟨a1, a2⟩ := key vs G rv
  unfold jIn
  exact ⟨a, _, rfl, .inl (SqL.of hv), rfl, a2, by rw [a1]; exact q⟩
def sp_placed : Sp := fun vs H Q _ => ∃ (a b : Addr) (ss : List Spn) (ks : List Nat), vs = [.ref a, .ref b] ∧ LsP H a ss ∧ LsI H b (natsI ks) ∧ (∀ k ∈ ks, k < ss.length) ∧ ks.length ≤ 20 ∧
  (∀ H' g G, Same H H' → H g = none → Ls On H' g G → G.length = ks.length → IsPl (ks.map fun k => ss.getD k (0, 0)) ks.length → Q (.ref g) H') ∧ ∀ H', Same H H' → ¬ IsPl (ks.map fun k => ss.getD k (0, 0)) ks.length → Q .non H'
def sp_heaviest_giving : Sp := fun vs H Q _ => ∃ (a b : Addr) (ss : List Spn) (ws : List Int), vs = [.ref a, .ref b] ∧ LsP H a ss ∧ LsI H b ws ∧ ws.length = ss.length ∧ ss.length ≤ 20 ∧ (∀ s ∈ ss, okS s) ∧ (∀ x ∈ ws, 0 ≤ x ∧ x ≤ 1000000000) ∧
  ∀ H' t g, Same H H' → H t = none → H' t = some (.tup [.ref g, .int (hgVal ss ws)]) → Q (.ref t) H'
section
variable {P : Program} {w : World} {K : PySem.W.Frag} {mg : Str → Option Value} {base : Heap}
theorem ok_placed (T : Txt K mg) : FnOk P w K mg base CX0 2 T.placed.f T.placed.fd ["spans", "numbers"] sp_placed := by
  refine T.placed.F.ok sc_placed (fun vs H Q E h => ?_) (fun cdv A outer s H vs Q E hr h => ?_)
  · first | (obtain ⟨_, rfl, _⟩ := h; rfl) | (obtain ⟨_, _, rfl, _⟩ := h; rfl) | (obtain ⟨_, _, _, rfl, _⟩ := h; rfl) | (obtain ⟨_, _, _, _, rfl, _⟩ := h; rfl) | (obtain ⟨_, _, _, _, _, rfl, _⟩ := h; rfl) | (obtain ⟨_, _, _, _, _, _, rfl, _⟩ := h; rfl) | (obtain ⟨_, _, _, _, _, _, _, rfl, _⟩ := h; rfl) | (obtain ⟨_, _, _, _, _, _, _, _, rfl, _⟩ := h; rfl) | (obtain ⟨_, _, _, _, _, _, _, _, _, rfl, _⟩ := h; rfl) | (obtain ⟨_, _, _, _, _, _, _, _, _, _, rfl, _⟩ := h; rfl) | (obtain ⟨_, _, _, _, _, _, _, _, _, _, _, rfl, _⟩ := h; rfl)
  refine ⟨_, (pss_cons (ps_setLc (i := 2) (own := [("number", 4)]) (tt := tYes) rfl sc_placed.nd rfl rfl (sw_true rfl rfl rfl (by decide +kernel)) (pi_list (pv 1)) (blkOk_by (N := ["spans", "numbers", "some", "given", "number"]) (sc := defScope s_placed) (by decide +kernel)) (fun _ _ _ _ _ => (pg_name (i := 4) sc_placed.nd rfl (.inl rfl))) (fun _ _ _ _ _ => pts_nil) (fun _ _ _ _ _ => (pe_ix (ix_listK (K := K) rfl) (pv 0) (pv 4) (fun _ _ => rfl))))
  (pss_cons (ps_set (i := 3) sc_placed.nd rfl (.inl rfl) (pe_call (ok_given_places T) (hr.mono (by decide)) (by rfl) T.given_places.g T.given_places.F.kp T.given_places.b .nil pass0 (pa_cons (pv 2) pa_nil)))
  (pss_cons (ps_if (pt_cmpR (op_inK (K := K) rfl) pe_non (pv 3) (by rfl))
  (pss_one (ps_ret pe_non))
  pss_nil)
  (pss_one (ps_ret (pv 3)))))), ?_⟩
  try dsimp only [cx_K]
  obtain ⟨a, b, ss, ks, rfl, hl, hb, hks, hn, q1, q2⟩ := h
  obtain ⟨us, hu, ru⟩ := id hl
  refine ⟨_, rfl, b, rfl, ⟨_, SqL.of hb⟩, fun D hD => lc_eachM In (fun _ h => h) Pr (fun t k => k.tp t) (fun x => ss.getD x.toNat (0, 0)) hb (int_rows _) (by rw [nats_len]; omega) hD (fun v x H0 hx s0 r Kt ht => ?_) (fun H1 s1 h1 => ?_)⟩
  · have r : v = .int x := r
    subst r
    obtain ⟨k, hk, rfl⟩ := nats_mem hx
    obtain ⟨s, hs⟩ : ∃ s, ss[k]? = some s := ⟨_, List.getElem?_eq_getElem (hks k hk)⟩
    obtain ⟨us0, hu0, ru0⟩ := lsP_same s0 hl
    obtain ⟨v, hv, rv⟩ := ru0.at hs
    refine ⟨rfl, _, rfl, _, rfl, a, _, _, _, rfl, rfl, SqL.of hu0, atI_nat hv, ht _ _ (Same.refl _) ?_⟩
    rw [Int.toNat_natCast, getD_of hs]
    exact rv
  have e1 : (natsI ks).map (fun x => ss.getD x.toNat (0, 0)) = ks.map fun k => ss.getD k (0, 0) := by
    unfold natsI
    rw [List.map_map]
    exact List.map_congr_left fun k _ => rfl
  rw [e1] at h1
  have el : (ks.map fun k => ss.getD k (0, 0)).length = ks.length := List.length_map _
  refine ⟨_, rfl, D, _, rfl, h1, by rw [el]; exact hn, fun H2 g G k s2 ng hG lG cn pl => ?_⟩
  rw [el] at lG cn
  refine ⟨_, rfl, k_inN hG ⟨_, rfl, ?_⟩⟩
  by_cases c : none ∈ G
  · rw [decide_eq_true c]
    refine iteT (q2 H2 (s1.trans s2) fun h => ?_)
    have := run_unique pl h
    have := nones_pos.mp c
    omega
  · rw [decide_eq_false c]
    refine iteF ?_
    have z : nones G = 0 := by
      by_cases z : nones G = 0
      · exact z
      · exact (c (nones_pos.mpr z)).elim
    refine ⟨_, rfl, q1 H2 g G (s1.trans s2) (s1.free ng) hG lG ?_⟩
    rw [show ks.length = k by omega]
    exact pl
theorem ok_heaviest_giving (T : Txt K mg) : FnOk P w K mg base CX0 5 T.heaviest_giving.f T.heaviest_giving.fd ["spans", "weights"] sp_heaviest_giving := by
  refine T.heaviest_giving.F.ok sc_heaviest_giving (fun vs H Q E h => ?_) (fun cdv A outer s H vs Q E hr h => ?_)
  · first | (obtain ⟨_, rfl, _⟩ := h; rfl) | (obtain ⟨_, _, rfl, _⟩ := h; rfl) | (obtain ⟨_, _, _, rfl, _⟩ := h; rfl) | (obtain ⟨_, _, _, _, rfl, _⟩ := h; rfl) | (obtain ⟨_, _, _, _, _, rfl, _⟩ := h; rfl) | (obtain ⟨_, _, _, _, _, _, rfl, _⟩ := h; rfl) | (obtain ⟨_, _, _, _, _, _, _, rfl, _⟩ := h; rfl) | (obtain ⟨_, _, _, _, _, _, _, _, rfl, _⟩ := h; rfl) | (obtain ⟨_, _, _, _, _, _, _, _, _, rfl, _⟩ := h; rfl) | (obtain ⟨_, _, _, _, _, _, _, _, _, _, rfl, _⟩ := h; rfl) | (obtain ⟨_, _, _, _, _, _, _, _, _, _, _, rfl, _⟩ := h; rfl)
  refine ⟨_, (pss_cons (ps_expr (pe_call (ok_must_spans T) (hr.mono (by decide)) (by rfl) T.must_spans.g T.must_spans.F.kp T.must_spans.b .nil pass0 (pa_cons (pv 0) pa_nil)))
  (pss_cons (ps_expr (pe_call (ok_must_weights T) (hr.mono (by decide)) (by rfl) T.must_weights.g T.must_weights.F.kp T.must_weights.b .nil pass0 (pa_cons (pv 1) (pa_cons (pe_callB call_len_seq (by rfl) T.b_len PySem.boot_len (pa_cons (pv 0) pa_nil)) pa_nil))))
  (pss_cons (ps_set (i := 2) sc_heaviest_giving.nd rfl (.inl rfl) (pe_lst pa_nil))
  (pss_cons (ps_for PassesOwn.never rfl (pi_list (pe_callB (cr_sortJ (K := K) (d := 2) rfl (by decide)) (by rfl) T.b_sorted (by decide +kernel) (pa_cons (pe_lc (own := [("number", 3)]) (tt := tYes) rfl sc_heaviest_giving.nd (pi_range1 (by rfl) T.b_range (pa_cons (pe_callB call_len_seq (by rfl) T.b_len PySem.boot_len (pa_cons (pv 0) pa_nil)) pa_nil)) (blkOk_by (N := ["spans", "weights", "kept", "number", "weight", "given", "place"]) (sc := defScope s_heaviest_giving) (by decide +kernel)) (fun _ _ _ _ _ => (pg_name (i := 3) sc_heaviest_giving.nd rfl (.inl rfl))) (fun _ _ _ _ _ => pts_nil) (fun _ _ _ _ _ => (pe_tup (pa_cons (pe_op op_sub pe_int (pe_ix (ix_listK (K := K) rfl) (pv 1) (pv 3) (fun _ _ => rfl))) (pa_cons (pv 3) pa_nil))))) pa_nil))) (pg_tupK (K := K) (n := 2) rfl rfl (pgs_cons (pg_name (i := 4) sc_heaviest_giving.nd rfl (.inl rfl)) (pgs_cons (pg_name (i := 3) sc_heaviest_giving.nd rfl (.inl rfl)) pgs_nil)))
  (pss_one (ps_if (pt_cmpR op_notN (pe_call (ok_placed T) (hr.mono (by decide)) (by rfl) T.placed.g T.placed.F.kp T.placed.b .nil pass0 (pa_cons (pv 0) (pa_cons (pe_op op_catJ (pv 2) (pe_lst (pa_cons (pv 3) pa_nil))) pa_nil))) pe_non (nomark _))
  (pss_one (ps_expr (pe_bm PySem.F.plainAttrs_list PySem.F.slot_list_append PySem.F.type_list_append mt_append (pv 2) (pa_cons (pv 3) pa_nil))))
  pss_nil)))
  (pss_cons (ps_set (i := 5) sc_heaviest_giving.nd rfl (.inl rfl) (pe_op op_repJ (pe_lst (pa_cons pe_non pa_nil)) (pe_callB call_len_seq (by rfl) T.b_len PySem.boot_len (pa_cons (pv 0) pa_nil))))
  (pss_cons (ps_for PassesOwn.never rfl (pi_zip (by rfl) T.b_zip (pa_cons (pv 2) (pa_cons (pe_call (ok_placed T) (hr.mono (by decide)) (by rfl) T.placed.g T.placed.F.kp T.placed.b .nil pass0 (pa_cons (pv 0) (pa_cons (pv 2) pa_nil))) pa_nil))) (pg_tupK (K := K) (n := 2) rfl rfl (pgs_cons (pg_name (i := 3) sc_heaviest_giving.nd rfl (.inl rfl)) (pgs_cons (pg_name (i := 6) sc_heaviest_giving.nd rfl (.inl rfl)) pgs_nil)))
  (pss_one (ps_asg (pv 6) (pg_sub (pv 5) (pv 3) set_list))))
  (pss_one (ps_ret (pe_tup (pa_cons (pv 5) (pa_cons (pe_callB (cr_sum rfl) (by rfl) T.b_sum (by decide +kernel) (pa_cons (pe_lc (own := [("number", 3)]) (tt := tYes) rfl sc_heaviest_giving.nd (pi_list (pv 2)) (blkOk_by (N := ["spans", "weights", "kept", "number", "weight", "given", "place"]) (sc := defScope s_heaviest_giving) (by decide +kernel)) (fun _ _ _ _ _ => (pg_name (i := 3) sc_heaviest_giving.nd rfl (.inl rfl))) (fun _ _ _ _ _ => pts_nil) (fun _ _ _ _ _ => (pe_ix (ix_listK (K := K) rfl) (pv 1) (pv 3) (fun _ _ => rfl)))) pa_nil)) pa_nil))))))))))), ?_⟩
  try dsimp only [cx_K]
  obtain ⟨a, b, ss, ws, rfl, hl, hb, hlw, hn, hok, hws, q⟩ := h
  obtain ⟨us, hu, ru⟩ := id hl
  refine ⟨_, rfl, a, ss, rfl, hl, hok, ?_⟩
  refine ⟨_, rfl, _, rfl, a, us, rfl, .inl (SqL.of hu), b, ws, (us.length : Int), rfl, hb, by rw [ru.len]; omega, hws, ?_⟩
  refine ⟨Nat.zero_le _, fun f nf => ?_⟩
  obtain ⟨s1, h1⟩ := newF (o := .lst []) nf
  generalize upd H f (.lst []) = H1 at s1 h1 ⊢
  refine ⟨_, rfl, a, us, rfl, .inl (SqL.of (s1 _ _ hu)), (us.length : Int), rfl, by omega, by rw [ru.len]; omega, ?_⟩
  rw [Int.toNat_natCast]
  intro D hD
  have gw : ∀ k, k < ss.length → (ws.map V.int)[k]? = some (.int (ws.getD k 0)) := fun k hk => by
    rw [List.getElem?_map, List.getD_eq_getElem?_getD, List.getElem?_eq_getElem (by omega)]
    rfl
  refine lc_rng Pr (fun t k => k.tp t) (fun k => some (0 - ws.getD k 0, (k : Int))) (by rw [ru.len]; omega) hD (fun j H2 hj s2 Kt Kf ht hf => ?_) (fun H2 s2 h2 => ?_)
  · rw [ru.len] at hj
    refine ⟨rfl, iteT (B := Kf H2) ?_⟩
    refine ⟨_, rfl, _, rfl, b, _, _, _, rfl, rfl, SqL.of ((s1.trans s2) _ _ hb), atI_nat (gw j hj), _, _, rfl, rfl, _, rfl, by show 2 ≤ sizeLine; decide, fun r nr => ?_⟩
    obtain ⟨s3, h3⟩ := newF (o := .tup [.int (0 - ws.getD j 0), .int (j : Int)]) nr
    exact ht _ _ _ s3 rfl ⟨r, rfl, h3⟩
  rw [List.filterMap_eq_map', ru.len] at h2
  have h2 : LsP H2 D (hgKeys ws ss.length) := h2
  refine k_sort2 h2 fun H3 p s3 n3 hp => ?_
  have hp : LsP H3 p (hgOrder ws ss.length) := hp
  obtain ⟨os, ho, ro⟩ := hp
  have s13 := s2.trans s3
  have npf : p ≠ f := (ne_of_none (s2 _ _ h1) n3).symm
  refine ⟨p, rfl, ⟨os, SqL.of ho⟩, for_it (walk_list (xs := os)) (fun i σ H' => ∃ (y3 y4 : Option V) (kept : List Nat), kept = ((hgOrder ws ss.length).take i).foldl (hgStep ss) [] ∧ σ = [some (.ref a), some (.ref b), some (.ref f), y3, y4, none, none] ∧ Same H H' ∧ H' p = some (.lst os) ∧ Tp H3 H' ∧ LsI H' f (natsI kept)) ?_ ?_ ?_ ?_⟩
  · exact ⟨none, none, [], rfl, rfl, s1.trans s13, ho, Tp.refl _, s13 _ _ h1⟩
  · rintro i σ H' _ ⟨y3, y4, kept, _, rfl, _, h, _⟩
    exact SqL.of h
  · rintro i x σ _ H4 hi ⟨y3, y4, kept, ek, rfl, s4, hp4, tp4, hf4⟩ ⟨rfl, hx⟩
    obtain ⟨y, ey, ry⟩ := ro.get hx
    obtain ⟨t, rfl, ht⟩ := ry.tp tp4
    obtain ⟨k, hk, rfl⟩ := hgOrder_mem (List.mem_of_getElem? ey)
    have en : ((hgOrder ws ss.length).take (i + 1)).foldl (hgStep ss) [] = hgStep ss kept (0 - ws.getD k 0, (k : Int)) := by rw [ek, fold_take ey]
    obtain ⟨kl1, kl2⟩ := hg_lt (ss := ss) (n := ss.length) ((hgOrder ws ss.length).take i) [] (fun z hz => by
      obtain ⟨k, h1, h2⟩ := hgOrder_mem (List.mem_of_mem_take hz)
      exact ⟨k, h1, by rw [h2]⟩) (fun _ h => (List.not_mem_nil h).elim)
    rw [← ek, List.length_take, hgOrder_len] at kl2
    rw [← ek] at kl1
    have io : i < ss.length := by
      have := (List.getElem?_eq_some_iff.mp ey).1
      rw [hgOrder_len] at this
      exact this
    simp only [List.length_nil] at kl2
    refine g_two ht ?_
    refine ⟨_, rfl, _, rfl, _, rfl, by show 1 ≤ sizeLine; decide, fun z nz => ?_⟩
    obtain ⟨s5, h5⟩ := newF (o := .lst [.int (k : Int)]) nz
    generalize upd H4 z (.lst [.int (k : Int)]) = H5 at s5 h5 ⊢
    refine k_cat (s5 _ _ hf4) h5 (by rw [List.length_map, nats_len, List.length_singleton]; omega) fun c H6 s6 nc h6 => ?_
    rw [← nats_snoc] at h6
    have lk1 : (kept ++ [k]).length = kept.length + 1 := by rw [List.length_append, List.length_singleton]
    have s46 := s5.trans s6
    have rd : (kept ++ [k]).length = kept.length + 1 := lk1
    refine ⟨a, c, ss, kept ++ [k], rfl, lsP_same (s4.trans s46) hl, h6, fun j hj => ?_, by omega, fun H7 g G s7 ng hG lG pl => ?_, fun H7 s7 npl => ?_⟩
    · rcases List.mem_append.mp hj with h | h
      · exact kl1 j h
      · have : j = k := by simpa using h
        rw [this]
        exact hk
    · refine ⟨rfl, _, rfl, ?_⟩
      rw [decide_eq_false (fun z => by cases z)]
      refine iteT ?_
      have s47 := s46.trans s7
      have hf7 := s47 _ _ hf4
      refine ⟨_, rfl, .inl ⟨rfl, _, SqL.of hf7⟩, _, rfl, f, _, _, rfl, rfl, hf7, szt (by rw [List.length_map, nats_len]; omega), ?_⟩
      have hne : p ≠ f := npf
      rw [← nats_snoc]
      have es : hgStep ss kept (0 - ws.getD k 0, (k : Int)) = kept ++ [k] := by
        unfold hgStep
        have e1 : ((0 - ws.getD k 0, (k : Int)) : Spn).2.toNat = k := Int.toNat_natCast k
        rw [e1, if_pos (by rw [← lk1]; exact pl)]
      exact ⟨_, _, kept ++ [k], by rw [en, es], rfl, sm_mut (s4.trans s47) nf, up_far hne (s47 _ _ hp4), (tp4.trans (tp_of s47)).trans (tp_lst hf7), upd_same⟩
    · refine ⟨rfl, _, rfl, ?_⟩
      rw [decide_eq_true rfl]
      refine iteF ?_
      have s47 := s46.trans s7
      have es : hgStep ss kept (0 - ws.getD k 0, (k : Int)) = kept := by
        unfold hgStep
        have e1 : ((0 - ws.getD k 0, (k : Int)) : Spn).2.toNat = k := Int.toNat_natCast k
        rw [e1, if_neg (by rw [← lk1]; exact npl)]
      exact ⟨_, _, kept, by rw [en, es], rfl, s4.trans s47, s47 _ _ hp4, tp4.trans (tp_of s47), s47 _ _ hf4⟩
  · rintro σ H4 ⟨y3, y4, kept, ek, rfl, s4, hp4, tp4, hf4⟩
    rw [ro.len, List.take_length] at ek
    have ek : kept = hgKept ss ws := ek
    obtain ⟨kl1, kl2⟩ := hg_lt (ss := ss) (n := ss.length) (hgOrder ws ss.length) [] (fun z hz => by
      obtain ⟨k, h1, h2⟩ := hgOrder_mem hz
      exact ⟨k, h1, by rw [h2]⟩) (fun _ h => (List.not_mem_nil h).elim)
    have pl := hg_pl (ss := ss) (hgOrder ws ss.length) [] pl_nil
    rw [show (hgOrder ws ss.length).foldl (hgStep ss) [] = kept from ek.symm] at kl1 kl2 pl
    rw [hgOrder_len] at kl2
    simp only [List.length_nil] at kl2
    refine ⟨by show 1 ≤ sizeLine; decide, fun z nz => ?_⟩
    obtain ⟨s5, h5⟩ := newF (o := .lst [.non]) nz
    generalize upd H4 z (.lst [.non]) = H5 at s5 h5 ⊢
    refine ⟨_, rfl, a, us, rfl, .inl (SqL.of ((s4.trans s5) _ _ hu)), ?_⟩
    refine k_rep h5 (by omega) (by rw [ru.len]; omega) fun g H6 s6 ng h6 => ?_
    rw [ru.len, Int.toNat_natCast] at h6
    have s46 := s5.trans s6
    have ngH : H g = none := (s4.trans s5).free ng
    have nfg : f ≠ g := ne_of_none (s5 _ _ hf4) ng
    refine ⟨_, rfl, _, rfl, _, rfl, a, f, ss, kept, rfl, lsP_same (s4.trans s46) hl, s46 _ _ hf4, kl1, by omega, fun H7 pg G s7 npg hG lG _ => ?_, fun H7 s7 npl => (npl pl).elim⟩
    have s47 := s46.trans s7
    obtain ⟨gv, hgv, rgv⟩ := hG
    have hg7 := s7 _ _ h6
    have npgg : pg ≠ g := (ne_of_none h6 npg).symm
    have hf7 := s47 _ _ hf4
    have fin : ∀ (E : Ends) (H8 : Hp) (y3 y6 : Option V), E.rt = Q → Same H H8 → H8 f = some (.lst ((natsI kept).map V.int)) →
        tRet (tTup (tCons (tVar 5) (tCons (tCB (rSum K) (tCons (tLc (iList K (tVar 2)) (gName 3) tYes (tOp (rIxL K) (tVar 1) (tVar 3)) (List.map (fun x => x.snd) [(Str.ofString "number", 3)])) tNil)) tNil))) E
          [some (.ref a), some (.ref b), some (.ref f), y3, y4, some (.ref g), y6] H8 := fun E H8 y3 y6 eE s8 hf8 => by
      refine ⟨_, rfl, _, rfl, f, rfl, ⟨_, SqL.of hf8⟩, fun D2 hD2 => lc_eachM In (fun _ h => h) In (fun _ h => h) (fun x => ws.getD x.toNat 0) hf8 (int_rows _) (by rw [nats_len]; omega) hD2 (fun v x H9 hx s9 r Kt ht => ?_) (fun H9 s9 h9 => ?_)⟩
      · have r : v = .int x := r
        subst r
        obtain ⟨k, hk, rfl⟩ := nats_mem hx
        refine ⟨rfl, _, rfl, _, rfl, b, _, _, _, rfl, rfl, SqL.of ((s8.trans s9) _ _ hb), atI_nat (gw k (kl1 k hk)), ht _ _ (Same.refl _) rfl⟩
      · have h9 := ls_int h9
        refine ⟨D2, _, rfl, SqL.of h9, by show 2 ≤ sizeLine; decide, fun t nt => ?_⟩
        have ev : ((natsI kept).map fun x => ws.getD x.toNat 0).sum = hgVal ss ws := by
          unfold hgVal natsI
          rw [List.map_map, ← ek]
          rfl
        rw [ev]
        obtain ⟨s10, h10⟩ := newF (o := .tup [.ref g, .int (hgVal ss ws)]) nt
        show E.rt _ _
        rw [eE]
        exact q _ t g ((s8.trans s9).trans s10) ((s8.trans s9).free nt) h10
    refine ⟨f, pg, _, _, rfl, SqL.of hf7, SqL.of hgv, for_it (walk_zip (n := kept.length) (xs := (natsI kept).map V.int) (ys := gv) (by rw [List.length_map, nats_len, rgv.len, lG, Nat.min_self]))
      (fun i σ H' => ∃ (y3 y6 : Option V) (gs : List V), σ = [some (.ref a), some (.ref b), some (.ref f), y3, y4, some (.ref g), y6] ∧ Same H H' ∧ H' f = some (.lst ((natsI kept).map V.int)) ∧ H' pg = some (.lst gv) ∧ H' g = some (.lst gs) ∧ gs.length = ss.length) ?_ ?_ ?_ ?_⟩
    · exact ⟨y3, none, _, rfl, s4.trans s47, hf7, hgv, hg7, List.length_replicate⟩
    · rintro i σ H' _ ⟨y3, y6, gs, rfl, _, h1, h2, _⟩
      exact ⟨SqL.of h1, SqL.of h2⟩
    · rintro i y σ H8 _ hi ⟨y3, y6, gs, rfl, s8, hf8, hp8, hg8, lgs⟩ ⟨T1, x1, x2, rfl, nT, rfl, hx1, hy1⟩
      obtain ⟨k0, ek0, r1⟩ := (int_rows (H := fun _ => none) (natsI kept)).get hx1
      have r1 : x1 = .int k0 := r1
      subst r1
      obtain ⟨k, hk, rfl⟩ := nats_mem (List.mem_of_getElem? ek0)
      obtain ⟨s9, h9⟩ := newF (o := .tup [.int (k : Int), x2]) nT
      generalize upd H8 T1 (.tup [.int (k : Int), x2]) = H9 at s9 h9 ⊢
      refine g_two h9 ?_
      refine ⟨_, rfl, _, rfl, _, rfl, g, _, _, k, rfl, rfl, s9 _ _ hg8, ixN_nat (by rw [lgs]; exact kl1 k hk), ?_⟩
      exact ⟨_, _, _, rfl, sm_mut (s8.trans s9) ngH, up_far nfg (s9 _ _ hf8), up_far npgg (s9 _ _ hp8), upd_same, by rw [List.length_set]; exact lgs⟩
    · rintro σ H8 ⟨y3, y6, gs, rfl, s8, hf8, hp8, hg8, lgs⟩
      exact fin _ H8 y3 y6 rfl s8 hf8
end

/-- the purse: what is left of the number, a cell, a counter that has not gone beyond n -/
def PurseB (H : Hp) (p : Addr) (n : Int) : Prop := ∃ x c m : Int, LsI H p [x, c, m] ∧ 0 ≤ x ∧ (0 ≤ c ∧ c < 2147483647) ∧ (0 ≤ m ∧ m ≤ n)
theorem PurseB.mono {H : Hp} {p : Addr} {n m : Int} (h : PurseB H p n) (l : n ≤ m) : PurseB H p m := let ⟨x, c, k, a, b, d, e, f⟩ := h; ⟨x, c, k, a, b, d, e, Int.le_trans f l⟩
theorem PurseB.same {H H' : Hp} {p : Addr} {n : Int} (s : Same H H') (h : PurseB H p n) : PurseB H' p n := let ⟨x, c, k, a, b⟩ := h; ⟨x, c, k, s _ _ a, b⟩
theorem fm_bd (a : Int) {d : Int} (h : 0 < d) : 0 ≤ a.fmod d ∧ a.fmod d < d := by
  rw [Int.fmod_eq_emod_of_nonneg a (Int.le_of_lt h)]
  exact ⟨Int.emod_nonneg a (by omega), Int.emod_lt_of_pos a h⟩
theorem mulL {i j : Int} (h : -18446744073709551616 < i ∧ i < 18446744073709551616) : CMul i j := .inl ⟨by have := h.1; omega, by have := h.2; omega⟩
theorem mulR {i j : Int} (h : -18446744073709551616 < j ∧ j < 18446744073709551616) : CMul i j := .inr ⟨by have := h.1; omega, by have := h.2; omega⟩
def sp_law_at (K : PySem.W.Frag) : Sp := fun vs H Q _ => ∃ (a : Addr) (xs : List Int) (k : Nat), vs = [.ref a, .int (k : Int)] ∧ SqL K H a (xs.map V.int) ∧ Q (.int (xs.getD k 0)) H
def sp_law_mixed : Sp := fun vs H Q _ => ∃ c m : Int, vs = [.int c, .int m] ∧ (0 ≤ m ∧ m ≤ 1000000000) ∧ ∀ r, 0 ≤ r → Q (.int r) H
def sp_law_purse (K : PySem.W.Frag) : Sp := fun vs H Q _ => ∃ (a : Addr) (xs : List Int) (k : Nat), vs = [.ref a, .int (k : Int)] ∧ SqL K H a (xs.map V.int) ∧ k ≤ 10 ∧ ∀ H' p, Same H H' → H p = none → PurseB H' p 10000 → Q (.ref p) H'
def sp_law_draw : Sp := fun vs H Q _ => ∃ (p : Addr) (d n : Int), vs = [.ref p, .int d] ∧ (0 < d ∧ d ≤ 1000000000000) ∧ PurseB H p n ∧ n ≤ 100000000 ∧ ∀ H' r, KeepL [p] H H' → PurseB H' p (n + 3) → 0 ≤ r → r < d → Q (.int r) H'
section
variable {P : Program} {w : World} {K : PySem.W.Frag} {mg : Str → Option Value} {base : Heap}
theorem ok_law_at (T : Txt K mg) : FnOk P w K mg base CX0 1 T.law_at.f T.law_at.fd ["_law_script", "_law_k"] (sp_law_at K) := by
  refine T.law_at.F.ok sc_law_at (fun vs H Q E h => ?_) (fun cdv A outer s H vs Q E hr h => ?_)
  · first | (obtain ⟨_, rfl, _⟩ := h; rfl) | (obtain ⟨_, _, rfl, _⟩ := h; rfl) | (obtain ⟨_, _, _, rfl, _⟩ := h; rfl) | (obtain ⟨_, _, _, _, rfl, _⟩ := h; rfl) | (obtain ⟨_, _, _, _, _, rfl, _⟩ := h; rfl) | (obtain ⟨_, _, _, _, _, _, rfl, _⟩ := h; rfl) | (obtain ⟨_, _, _, _, _, _, _, rfl, _⟩ := h; rfl) | (obtain ⟨_, _, _, _, _, _, _, _, rfl, _⟩ := h; rfl) | (obtain ⟨_, _, _, _, _, _, _, _, _, rfl, _⟩ := h; rfl) | (obtain ⟨_, _, _, _, _, _, _, _, _, _, rfl, _⟩ := h; rfl) | (obtain ⟨_, _, _, _, _, _, _, _, _, _, _, rfl, _⟩ := h; rfl)
  refine ⟨_, (pss_cons (ps_if (pt_cmpR op_lt (pv 1) (pe_callB call_len_seq (by rfl) T.b_len PySem.boot_len (pa_cons (pv 0) pa_nil)) (nomark _))
  (pss_one (ps_ret (pe_ix (ix_listK (K := K) rfl) (pv 0) (pv 1) (fun _ _ => rfl))))
  pss_nil)
  (pss_one (ps_ret pe_int))), ?_⟩
  try dsimp only [cx_K]
  obtain ⟨a, xs, k, rfl, ha, q⟩ := h
  refine ⟨_, rfl, _, rfl, a, _, rfl, .inl (ha), _, _, rfl, rfl, _, rfl, ?_⟩
  rw [List.length_map]
  refine ifD (fun hk => ?_) (fun hk => ?_)
  · have hk : k < xs.length := by omega
    have e : (xs.map V.int)[k]? = some (.int (xs.getD k 0)) := by
      rw [List.getElem?_map, List.getD_eq_getElem?_getD, List.getElem?_eq_getElem hk]
      rfl
    exact ⟨_, rfl, _, rfl, a, _, _, _, rfl, rfl, ha, atI_nat e, q⟩
  · have e : xs.getD k 0 = 0 := by rw [List.getD_eq_getElem?_getD, List.getElem?_eq_none_iff.mpr (by omega)]; rfl
    rw [e] at q
    exact q
theorem ok_law_mixed (T : Txt K mg) : FnOk P w K mg base CX0 1 T.law_mixed.f T.law_mixed.fd ["_law_cell", "_law_k"] sp_law_mixed := by
  refine T.law_mixed.F.ok sc_law_mixed (fun vs H Q E h => ?_) (fun cdv A outer s H vs Q E hr h => ?_)
  · first | (obtain ⟨_, rfl, _⟩ := h; rfl) | (obtain ⟨_, _, rfl, _⟩ := h; rfl) | (obtain ⟨_, _, _, rfl, _⟩ := h; rfl) | (obtain ⟨_, _, _, _, rfl, _⟩ := h; rfl) | (obtain ⟨_, _, _, _, _, rfl, _⟩ := h; rfl) | (obtain ⟨_, _, _, _, _, _, rfl, _⟩ := h; rfl) | (obtain ⟨_, _, _, _, _, _, _, rfl, _⟩ := h; rfl) | (obtain ⟨_, _, _, _, _, _, _, _, rfl, _⟩ := h; rfl) | (obtain ⟨_, _, _, _, _, _, _, _, _, rfl, _⟩ := h; rfl) | (obtain ⟨_, _, _, _, _, _, _, _, _, _, rfl, _⟩ := h; rfl) | (obtain ⟨_, _, _, _, _, _, _, _, _, _, _, rfl, _⟩ := h; rfl)
  refine ⟨_, (pss_cons (ps_set (i := 2) sc_law_mixed.nd rfl (.inl rfl) (pe_op op_modN (pe_op op_add (pe_op op_add (pe_op op_add (pe_op op_mul (pv 0) pe_int) (pe_op op_mul (pe_op op_mul pe_int (pv 1)) (pv 1))) (pv 1)) pe_int) pe_int))
  (pss_cons (ps_set (i := 2) sc_law_mixed.nd rfl (.inl rfl) (pe_op op_modN (pe_op op_add (pe_op op_mul (pv 2) (pv 2)) pe_int) pe_int))
  (pss_one (ps_ret (pe_op op_modN (pe_op op_mul (pv 2) pe_int) pe_int))))), ?_⟩
  try dsimp only [cx_K]
  obtain ⟨c, m, rfl, hm, q⟩ := h
  refine ⟨_, rfl, _, _, rfl, rfl, mulR (by decide), _, rfl, _, _, rfl, rfl, mulL (by decide), _, rfl, _, _, rfl, rfl, mulR (by omega), _, _, rfl, rfl, _, rfl, _, _, rfl, rfl, _, _, rfl, rfl, _, _, rfl, rfl, by show (2147483647 : Int) ≠ 0; decide, ?_⟩
  refine ⟨_, rfl, _, rfl, _, _, rfl, rfl, mulL ?_, _, _, rfl, rfl, _, _, rfl, rfl, by show (2147483629 : Int) ≠ 0; decide, ?_⟩
  · have := fm_bd (c * 1103515245 + 7919 * m * m + m + 1) (d := 2147483647) (by decide)
    omega
  refine ⟨_, rfl, _, _, rfl, rfl, mulR (by decide), _, _, rfl, rfl, by show (2147483587 : Int) ≠ 0; decide, q _ (fm_bd _ (by decide)).1⟩
theorem ok_law_purse (T : Txt K mg) : FnOk P w K mg base CX0 2 T.law_purse.f T.law_purse.fd ["_law_script", "_law_at_here"] (sp_law_purse K) := by
  refine T.law_purse.F.ok sc_law_purse (fun vs H Q E h => ?_) (fun cdv A outer s H vs Q E hr h => ?_)
  · first | (obtain ⟨_, rfl, _⟩ := h; rfl) | (obtain ⟨_, _, rfl, _⟩ := h; rfl) | (obtain ⟨_, _, _, rfl, _⟩ := h; rfl) | (obtain ⟨_, _, _, _, rfl, _⟩ := h; rfl) | (obtain ⟨_, _, _, _, _, rfl, _⟩ := h; rfl) | (obtain ⟨_, _, _, _, _, _, rfl, _⟩ := h; rfl) | (obtain ⟨_, _, _, _, _, _, _, rfl, _⟩ := h; rfl) | (obtain ⟨_, _, _, _, _, _, _, _, rfl, _⟩ := h; rfl) | (obtain ⟨_, _, _, _, _, _, _, _, _, rfl, _⟩ := h; rfl) | (obtain ⟨_, _, _, _, _, _, _, _, _, _, rfl, _⟩ := h; rfl) | (obtain ⟨_, _, _, _, _, _, _, _, _, _, _, rfl, _⟩ := h; rfl)
  refine ⟨_, (pss_cons (ps_set (i := 2) sc_law_purse.nd rfl (.inl rfl) (pe_call (ok_law_at T) (hr.mono (by decide)) (by rfl) T.law_at.g T.law_at.F.kp T.law_at.b .nil pass0 (pa_cons (pv 0) (pa_cons (pv 1) pa_nil))))
  (pss_one (ps_ret (pe_lst (pa_cons (pe_callB (call_max2 rfl) (by rfl) T.b_max (by decide +kernel) (pa_cons (pe_op op_sub (pv 2) (pe_op op_pow pe_int pe_int)) (pa_cons pe_int pa_nil))) (pa_cons (pe_op op_modN (pv 2) pe_int) (pa_cons (pe_op op_mul pe_int (pv 1)) pa_nil))))))), ?_⟩
  try dsimp only [cx_K]
  obtain ⟨a, xs, k, rfl, ha, hk, q⟩ := h
  refine ⟨_, rfl, _, rfl, a, xs, k, rfl, ha, ?_⟩
  generalize xs.getD k 0 = c
  refine ⟨_, rfl, _, _, rfl, rfl, ⟨by decide, by decide, by decide⟩, _, _, rfl, rfl, _, _, rfl, _, rfl, _, _, rfl, rfl, by show (2147483647 : Int) ≠ 0; decide, _, rfl, _, _, rfl, rfl, mulL (by decide), by show 3 ≤ sizeLine; decide, fun p np => ?_⟩
  refine q _ p (sm_new np) np ⟨_, _, _, upd_same, ?_, fm_bd _ (by decide), by omega⟩
  split <;> omega
theorem ok_law_draw (T : Txt K mg) : FnOk P w K mg base CX0 2 T.law_draw.f T.law_draw.fd ["_law_purse_here", "_law_out_of"] sp_law_draw := by
  refine T.law_draw.F.ok sc_law_draw (fun vs H Q E h => ?_) (fun cdv A outer s H vs Q E hr h => ?_)
  · first | (obtain ⟨_, rfl, _⟩ := h; rfl) | (obtain ⟨_, _, rfl, _⟩ := h; rfl) | (obtain ⟨_, _, _, rfl, _⟩ := h; rfl) | (obtain ⟨_, _, _, _, rfl, _⟩ := h; rfl) | (obtain ⟨_, _, _, _, _, rfl, _⟩ := h; rfl) | (obtain ⟨_, _, _, _, _, _, rfl, _⟩ := h; rfl) | (obtain ⟨_, _, _, _, _, _, _, rfl, _⟩ := h; rfl) | (obtain ⟨_, _, _, _, _, _, _, _, rfl, _⟩ := h; rfl) | (obtain ⟨_, _, _, _, _, _, _, _, _, rfl, _⟩ := h; rfl) | (obtain ⟨_, _, _, _, _, _, _, _, _, _, rfl, _⟩ := h; rfl) | (obtain ⟨_, _, _, _, _, _, _, _, _, _, _, rfl, _⟩ := h; rfl)
  refine ⟨_, (pss_cons (ps_if (pt_cmpR op_gt (pe_ix (ix_listK (K := K) rfl) (pv 0) pe_int (fun _ _ => rfl)) pe_int (nomark _))
  (pss_cons (ps_set (i := 2) sc_law_draw.nd rfl (.inl rfl) (pe_op op_modN (pe_ix (ix_listK (K := K) rfl) (pv 0) pe_int (fun _ _ => rfl)) (pv 1)))
  (pss_cons (ps_asg (pe_op op_fdivW (pe_ix (ix_listK (K := K) rfl) (pv 0) pe_int (fun _ _ => rfl)) (pv 1)) (pg_sub (pv 0) pe_int set_list))
  (pss_one (ps_ret (pv 2)))))
  pss_nil)
  (pss_cons (ps_set (i := 3) sc_law_draw.nd rfl (.inl rfl) pe_int)
  (pss_cons (ps_for PassesOwn.never rfl (pi_range1 (by rfl) T.b_range (pa_cons (pe_op op_add pe_int (pe_op op_fdivW (pe_bits (pv 1)) pe_int)) pa_nil)) (pg_name (i := 4) sc_law_draw.nd rfl (.inl rfl))
  (pss_cons (ps_asg (pe_op op_add (pe_ix (ix_listK (K := K) rfl) (pv 0) pe_int (fun _ _ => rfl)) pe_int) (pg_sub (pv 0) pe_int set_list))
  (pss_one (ps_set (i := 3) sc_law_draw.nd rfl (.inl rfl) (pe_op op_add (pe_op op_mul (pv 3) pe_int) (pe_call (ok_law_mixed T) (hr.mono (by decide)) (by rfl) T.law_mixed.g T.law_mixed.F.kp T.law_mixed.b .nil pass0 (pa_cons (pe_ix (ix_listK (K := K) rfl) (pv 0) pe_int (fun _ _ => rfl)) (pa_cons (pe_ix (ix_listK (K := K) rfl) (pv 0) pe_int (fun _ _ => rfl)) pa_nil))))))))
  (pss_one (ps_ret (pe_op op_modN (pv 3) (pv 1))))))), ?_⟩
  try dsimp only [cx_K]
  obtain ⟨p, d, n, rfl, hd, ⟨x, c, m, hp, hx, hc, hm⟩, hn, q⟩ := h
  have hp : H p = some (.lst [.int x, .int c, .int m]) := hp
  have dz : d ≠ 0 := by omega
  refine ⟨_, rfl, p, _, 0, _, rfl, rfl, SqL.of hp, atI_nat (j := 0) rfl, _, _, rfl, rfl, _, rfl, ?_⟩
  refine ifD (fun hpos => ?_) (fun hpos => ?_)
  · refine ⟨_, rfl, p, _, 0, _, rfl, rfl, SqL.of hp, atI_nat (j := 0) rfl, _, rfl, _, _, rfl, rfl, dz, ?_⟩
    refine ⟨_, rfl, p, _, 0, _, rfl, rfl, SqL.of hp, atI_nat (j := 0) rfl, _, rfl, _, _, rfl, rfl, ⟨hd.1, ?_⟩, _, rfl, p, _, 0, 0, rfl, rfl, hp, rfl, ?_⟩
    · refine Nat.lt_of_lt_of_le (Nat.log2_lt (n := d.natAbs) (by omega) |>.mpr (show d.natAbs < 2 ^ 64 by omega)) (by decide)
    refine ⟨_, rfl, q _ _ ((KeepL.refl _ _).upd _ (by simp)) ⟨x / d, c, m, upd_same, Int.ediv_nonneg hx (by omega), hc, by omega⟩ (fm_bd _ hd.1).1 (fm_bd _ hd.1).2⟩
  · refine ⟨_, rfl, d, rfl, _, _, rfl, rfl, ⟨by decide, by decide⟩, _, _, rfl, rfl, _, rfl, ?_⟩
    have hb := intBits_le_64 (k := d) (by omega) (by omega)
    have hr : (1 : Int) + ((Builtin.Int.intBits d : Nat) : Int) / 30 ≤ 3 ∧ 0 ≤ (1 : Int) + ((Builtin.Int.intBits d : Nat) : Int) / 30 := by omega
    generalize (1 : Int) + ((Builtin.Int.intBits d : Nat) : Int) / 30 = rr at hr ⊢
    refine ⟨by omega, by omega, ?_⟩
    obtain ⟨r, rfl⟩ : ∃ r : Nat, rr = (r : Int) := ⟨rr.toNat, by omega⟩
    rw [Int.toNat_natCast]
    refine for_it (walk_rg (n := r)) (fun i σ H' => ∃ (v m : Int) (y4 : Option V), σ = [some (.ref p), some (.int d), none, some (.int v), y4] ∧ KeepL [p] H H' ∧ H' p = some (.lst [.int x, .int c, .int m]) ∧ 0 ≤ m ∧ m ≤ n + i) ⟨0, m, none, rfl, KeepL.refl _ _, hp, hm.1, by omega⟩ (fun _ _ _ _ _ => trivial) ?_ ?_
    · rintro i x2 σ _ H1 hi ⟨v, m, y4, rfl, k1, hp1, hm0, hm1⟩ ⟨rfl, rfl⟩
      refine ⟨_, rfl, p, _, 2, _, rfl, rfl, SqL.of hp1, atI_nat (j := 2) rfl, _, _, rfl, rfl, _, rfl, p, _, 2, 2, rfl, rfl, hp1, rfl, ?_⟩
      have hp2 : upd H1 p (.lst [.int x, .int c, .int (m + 1)]) p = some (.lst [.int x, .int c, .int (m + 1)]) := upd_same
      refine ⟨_, rfl, _, _, rfl, rfl, mulR (by decide), ?_⟩
      refine ⟨_, rfl, p, _, 1, _, rfl, rfl, SqL.of hp2, atI_nat (j := 1) rfl, _, rfl, p, _, 2, _, rfl, rfl, SqL.of hp2, atI_nat (j := 2) rfl, c, m + 1, rfl, by omega, fun mx _ => ?_⟩
      exact ⟨_, _, rfl, rfl, _, m + 1, _, rfl, k1.trans ((KeepL.refl _ _).upd _ (by simp)), hp2, by omega, by omega⟩
    · rintro σ H1 ⟨v, m, y4, rfl, k1, hp1, hm0, hm1⟩
      refine ⟨_, rfl, _, rfl, _, _, rfl, rfl, dz, q H1 _ k1 ⟨x, c, m, hp1, hx, hc, by omega⟩ (fm_bd _ hd.1).1 (fm_bd _ hd.1).2⟩
end

/-- a span as it is drawn -/
def drawn (s : Spn) : Prop := -10000000000 ≤ s.1 ∧ s.1 < s.2 ∧ s.2 ≤ 10000000000
def sp_law_number : Sp := fun vs H Q _ => ∃ (p : Addr) (n : Int), vs = [.ref p, .int 10000000000] ∧ PurseB H p n ∧ n ≤ 10000000 ∧ ∀ H' r, KeepL [p] H H' → PurseB H' p (n + 6) → -10000000000 ≤ r → r ≤ 10000000000 → Q (.int r) H'
def sp_law_end : Sp := fun vs H Q _ => ∃ (p e : Addr) (es : List Int) (n : Int), vs = [.ref p, .ref e, .int 10000000000] ∧ LsI H e es ∧ e ≠ p ∧ es.length ≤ 1000 ∧ PurseB H p n ∧ n ≤ 9000000 ∧ ∀ H' r, KeepL [p] H H' → PurseB H' p (n + 12) → -10000000000 ≤ r → r ≤ 10000000000 → Q (.int r) H'
def sp_law_span : Sp := fun vs H Q _ => ∃ (p e : Addr) (es : List Int) (n : Int), vs = [.ref p, .ref e, .int 10000000000] ∧ LsI H e es ∧ e ≠ p ∧ es.length ≤ 900 ∧ PurseB H p n ∧ n ≤ 1000000 ∧
  ∀ H' t s, KeepL [p, e] H H' → PurseB H' p (n + 24) → LsI H' e (es ++ [s.1, s.2]) → H' t = some (.tup [.int s.1, .int s.2]) → drawn s → Q (.ref t) H'
def sp_law_spans : Sp := fun vs H Q _ => ∃ (p : Addr) (many : Nat) (n : Int), vs = [.ref p, .int (many : Int), .int 10000000000] ∧ many ≤ 8 ∧ PurseB H p n ∧ n ≤ 100000 ∧
  ∀ H' r ss, KeepL [p] H H' → PurseB H' p (n + 600) → H r = none → LsP H' r ss → ss.length = many → (∀ s ∈ ss, drawn s) → Q (.ref r) H'
section
variable {P : Program} {w : World} {K : PySem.W.Frag} {mg : Str → Option Value} {base : Heap}
theorem ok_law_number (T : Txt K mg) : FnOk P w K mg base CX0 3 T.law_number.f T.law_number.fd ["_law_purse_here", "_law_most"] sp_law_number := by
  refine T.law_number.F.ok sc_law_number (fun vs H Q E h => ?_) (fun cdv A outer s H vs Q E hr h => ?_)
  · first | (obtain ⟨_, rfl, _⟩ := h; rfl) | (obtain ⟨_, _, rfl, _⟩ := h; rfl) | (obtain ⟨_, _, _, rfl, _⟩ := h; rfl) | (obtain ⟨_, _, _, _, rfl, _⟩ := h; rfl) | (obtain ⟨_, _, _, _, _, rfl, _⟩ := h; rfl) | (obtain ⟨_, _, _, _, _, _, rfl, _⟩ := h; rfl) | (obtain ⟨_, _, _, _, _, _, _, rfl, _⟩ := h; rfl) | (obtain ⟨_, _, _, _, _, _, _, _, rfl, _⟩ := h; rfl) | (obtain ⟨_, _, _, _, _, _, _, _, _, rfl, _⟩ := h; rfl) | (obtain ⟨_, _, _, _, _, _, _, _, _, _, rfl, _⟩ := h; rfl) | (obtain ⟨_, _, _, _, _, _, _, _, _, _, _, rfl, _⟩ := h; rfl)
  refine ⟨_, (pss_cons (ps_set (i := 2) sc_law_number.nd rfl (.inl rfl) (pe_ix (ix_listK (K := K) rfl) (pe_lst (pa_cons pe_int (pa_cons pe_int (pa_cons pe_int (pa_cons (pv 1) pa_nil))))) (pe_call (ok_law_draw T) (hr.mono (by decide)) (by rfl) T.law_draw.g T.law_draw.F.kp T.law_draw.b .nil pass0 (pa_cons (pv 0) (pa_cons pe_int pa_nil))) (fun _ _ => rfl)))
  (pss_one (ps_ret (pe_op op_sub (pe_call (ok_law_draw T) (hr.mono (by decide)) (by rfl) T.law_draw.g T.law_draw.F.kp T.law_draw.b .nil pass0 (pa_cons (pv 0) (pa_cons (pe_op op_add (pe_op op_mul pe_int (pv 2)) pe_int) pa_nil))) (pv 2))))), ?_⟩
  try dsimp only [cx_K]
  obtain ⟨p, n, rfl, pb, hn, q⟩ := h
  refine ⟨_, rfl, by show 4 ≤ sizeLine; decide, fun z nz => ?_⟩
  obtain ⟨s1, h1⟩ := newF (o := .lst [.int 1, .int 4, .int 30, .int 10000000000]) nz
  generalize upd H z (.lst [.int 1, .int 4, .int 30, .int 10000000000]) = H1 at s1 h1 ⊢
  have nzp : z ≠ p := by
    obtain ⟨_, _, _, hp, _⟩ := pb
    exact (ne_of_none hp nz).symm
  refine ⟨_, rfl, p, 4, n, rfl, by decide, pb.same s1, by omega, fun H2 r k2 pb2 r0 r1 => ?_⟩
  have h2 := k2 _ _ (by simp [nzp]) h1
  obtain ⟨f, hf, hf2⟩ : ∃ f : Int, atI [V.int 1, .int 4, .int 30, .int 10000000000] r = some (.int f) ∧ (0 < f ∧ f ≤ 10000000000) := by
    obtain ⟨k, rfl⟩ : ∃ k : Nat, r = (k : Int) := ⟨r.toNat, by omega⟩
    have hk : k = 0 ∨ k = 1 ∨ k = 2 ∨ k = 3 := by omega
    rcases hk with rfl | rfl | rfl | rfl
    · exact ⟨1, rfl, by decide⟩
    · exact ⟨4, rfl, by decide⟩
    · exact ⟨30, rfl, by decide⟩
    · exact ⟨10000000000, rfl, by decide⟩
  refine ⟨z, _, r, _, rfl, rfl, SqL.of h2, hf, ?_⟩
  refine ⟨_, rfl, _, rfl, _, _, rfl, rfl, mulL (by decide), _, _, rfl, rfl, p, _, n + 3, rfl, ⟨by omega, by omega⟩, pb2, by omega, fun H3 r2 k3 pb3 r20 r21 => ?_⟩
  refine ⟨_, rfl, _, _, rfl, rfl, q H3 _ (((KeepL.of s1).trans k2).trans k3) (by have := pb3; rw [Int.add_assoc] at this; exact this) (by omega) (by omega)⟩
theorem ok_law_end (T : Txt K mg) : FnOk P w K mg base CX0 4 T.law_end.f T.law_end.fd ["_law_purse_here", "_law_ends", "_law_most"] sp_law_end := by
  refine T.law_end.F.ok sc_law_end (fun vs H Q E h => ?_) (fun cdv A outer s H vs Q E hr h => ?_)
  · first | (obtain ⟨_, rfl, _⟩ := h; rfl) | (obtain ⟨_, _, rfl, _⟩ := h; rfl) | (obtain ⟨_, _, _, rfl, _⟩ := h; rfl) | (obtain ⟨_, _, _, _, rfl, _⟩ := h; rfl) | (obtain ⟨_, _, _, _, _, rfl, _⟩ := h; rfl) | (obtain ⟨_, _, _, _, _, _, rfl, _⟩ := h; rfl) | (obtain ⟨_, _, _, _, _, _, _, rfl, _⟩ := h; rfl) | (obtain ⟨_, _, _, _, _, _, _, _, rfl, _⟩ := h; rfl) | (obtain ⟨_, _, _, _, _, _, _, _, _, rfl, _⟩ := h; rfl) | (obtain ⟨_, _, _, _, _, _, _, _, _, _, rfl, _⟩ := h; rfl) | (obtain ⟨_, _, _, _, _, _, _, _, _, _, _, rfl, _⟩ := h; rfl)
  refine ⟨_, (pss_cons (ps_if (PW.pt (pw_and (pt_cmpR (op_neDK (K := K) rfl hr.units) (pv 1) (pe_lst pa_nil) (nomark _)) (pw_and1 (pt_cmpR op_gt (pe_call (ok_law_draw T) (hr.mono (by decide)) (by rfl) T.law_draw.g T.law_draw.F.kp T.law_draw.b .nil pass0 (pa_cons (pv 0) (pa_cons pe_int pa_nil))) pe_int (nomark _)))))
  (pss_cons (ps_set (i := 3) sc_law_end.nd rfl (.inl rfl) (pe_op op_sub (pe_op op_add (pe_ix (ix_listK (K := K) rfl) (pv 1) (pe_call (ok_law_draw T) (hr.mono (by decide)) (by rfl) T.law_draw.g T.law_draw.F.kp T.law_draw.b .nil pass0 (pa_cons (pv 0) (pa_cons (pe_callB call_len_seq (by rfl) T.b_len PySem.boot_len (pa_cons (pv 1) pa_nil)) pa_nil))) (fun _ _ => rfl)) (pe_call (ok_law_draw T) (hr.mono (by decide)) (by rfl) T.law_draw.g T.law_draw.F.kp T.law_draw.b .nil pass0 (pa_cons (pv 0) (pa_cons pe_int pa_nil)))) pe_int))
  (pss_one (ps_ret (pe_callB (call_max2 rfl) (by rfl) T.b_max (by decide +kernel) (pa_cons (pe_op op_sub pe_int (pv 2)) (pa_cons (pe_callB (call_min2 rfl) (by rfl) T.b_min (by decide +kernel) (pa_cons (pv 2) (pa_cons (pv 3) pa_nil))) pa_nil))))))
  pss_nil)
  (pss_one (ps_ret (pe_call (ok_law_number T) (hr.mono (by decide)) (by rfl) T.law_number.g T.law_number.F.kp T.law_number.b .nil pass0 (pa_cons (pv 0) (pa_cons (pv 2) pa_nil)))))), ?_⟩
  try dsimp only [cx_K]
  obtain ⟨p, e, es, n, rfl, he, nep, hle, pb, hn, q⟩ := h
  refine ⟨_, rfl, k_neN dtI (int_ls he) fun z nz => ⟨_, rfl, ?_⟩⟩
  obtain ⟨s1, h1⟩ := newF (o := .lst []) nz
  generalize upd H z (.lst []) = H1 at s1 h1 ⊢
  have last : ∀ (E : Ends) (H2 : Hp) (m : Int), E.rt = Q → KeepL [p] H H2 → PurseB H2 p m → m ≤ n + 6 → tRet (tCall sp_law_number [] E0 (tCons (tVar 0) (tCons (tVar 2) tNil))) E [some (.ref p), some (.ref e), some (.int 10000000000), none] H2 := fun E H2 m eE k2 pb2 hm => by
    refine ⟨_, rfl, _, rfl, p, m, rfl, pb2, by omega, fun H3 r k3 pb3 r0 r1 => ?_⟩
    show E.rt _ _
    rw [eE]
    exact q H3 r (k2.trans k3) (pb3.mono (by omega)) r0 r1
  by_cases hes : es = []
  · rw [decide_eq_true hes]
    refine iteF ?_
    exact last _ H1 n rfl (KeepL.of s1) (pb.same s1) (by omega)
  · rw [decide_eq_false hes]
    refine iteT ?_
    have hpos := List.length_pos_iff.mpr hes
    refine ⟨_, rfl, p, 3, n, rfl, by decide, pb.same s1, by omega, fun H2 r k2 pb2 r0 r1 => ?_⟩
    have k12 := (KeepL.of s1).trans k2
    refine ⟨_, _, rfl, rfl, _, rfl, ?_⟩
    refine ifD (fun hr => ?_) (fun hr => ?_)
    · have he2 : LsI H2 e es := k12 _ _ (by simp [nep]) he
      refine ⟨_, rfl, _, rfl, _, rfl, e, _, rfl, .inl (SqL.of he2), p, _, n + 3, rfl, by rw [List.length_map]; omega, pb2, by omega, fun H3 r3 k3 pb3 r30 r31 => ?_⟩
      rw [List.length_map] at r31
      have he3 : LsI H3 e es := k3 _ _ (by simp [nep]) he2
      obtain ⟨k, rfl⟩ : ∃ k : Nat, r3 = (k : Int) := ⟨r3.toNat, by omega⟩
      have gk : (es.map V.int)[k]? = some (.int (es.getD k 0)) := by
        rw [List.getElem?_map, List.getD_eq_getElem?_getD, List.getElem?_eq_getElem (by omega)]
        rfl
      refine ⟨e, _, _, _, rfl, rfl, SqL.of he3, atI_nat gk, _, rfl, p, 3, n + 3 + 3, rfl, by decide, pb3, by omega, fun H4 r4 k4 pb4 r40 r41 => ?_⟩
      refine ⟨_, _, rfl, rfl, _, _, rfl, rfl, ?_⟩
      refine ⟨_, rfl, _, _, rfl, rfl, _, rfl, _, rfl, _, _, rfl, _, _, rfl, ?_⟩
      refine q H4 _ ((k12.trans k3).trans k4) (pb4.mono (by omega)) ?_ ?_
      · split <;> split <;> omega
      · split <;> split <;> omega
    · exact last _ H2 (n + 3) rfl k12 pb2 (by omega)
theorem ok_law_span (T : Txt K mg) : FnOk P w K mg base CX0 5 T.law_span.f T.law_span.fd ["_law_purse_here", "_law_ends", "_law_most"] sp_law_span := by
  refine T.law_span.F.ok sc_law_span (fun vs H Q E h => ?_) (fun cdv A outer s H vs Q E hr h => ?_)
  · first | (obtain ⟨_, rfl, _⟩ := h; rfl) | (obtain ⟨_, _, rfl, _⟩ := h; rfl) | (obtain ⟨_, _, _, rfl, _⟩ := h; rfl) | (obtain ⟨_, _, _, _, rfl, _⟩ := h; rfl) | (obtain ⟨_, _, _, _, _, rfl, _⟩ := h; rfl) | (obtain ⟨_, _, _, _, _, _, rfl, _⟩ := h; rfl) | (obtain ⟨_, _, _, _, _, _, _, rfl, _⟩ := h; rfl) | (obtain ⟨_, _, _, _, _, _, _, _, rfl, _⟩ := h; rfl) | (obtain ⟨_, _, _, _, _, _, _, _, _, rfl, _⟩ := h; rfl) | (obtain ⟨_, _, _, _, _, _, _, _, _, _, rfl, _⟩ := h; rfl) | (obtain ⟨_, _, _, _, _, _, _, _, _, _, _, rfl, _⟩ := h; rfl)
  refine ⟨_, (pss_cons (ps_set (i := 3) sc_law_span.nd rfl (.inl rfl) (pe_call (ok_law_end T) (hr.mono (by decide)) (by rfl) T.law_end.g T.law_end.F.kp T.law_end.b .nil pass0 (pa_cons (pv 0) (pa_cons (pv 1) (pa_cons (pv 2) pa_nil)))))
  (pss_cons (ps_set (i := 4) sc_law_span.nd rfl (.inl rfl) (pe_call (ok_law_end T) (hr.mono (by decide)) (by rfl) T.law_end.g T.law_end.F.kp T.law_end.b .nil pass0 (pa_cons (pv 0) (pa_cons (pe_op op_catJ (pv 1) (pe_lst (pa_cons (pv 3) pa_nil))) (pa_cons (pv 2) pa_nil)))))
  (pss_cons (ps_set (i := 5) sc_law_span.nd rfl (.inl rfl) (pe_callB (call_min3i rfl) (by rfl) T.b_min (by decide +kernel) (pa_cons (pv 3) (pa_cons (pv 4) (pa_cons (pe_op op_sub (pv 2) pe_int) pa_nil)))))
  (pss_cons (ps_set (i := 6) sc_law_span.nd rfl (.inl rfl) (pe_callB (call_max3i rfl) (by rfl) T.b_max (by decide +kernel) (pa_cons (pv 3) (pa_cons (pv 4) (pa_cons (pe_op op_add (pv 5) pe_int) pa_nil)))))
  (pss_cons (ps_expr (pe_bm PySem.F.plainAttrs_list PySem.F.slot_list_append PySem.F.type_list_append mt_append (pv 1) (pa_cons (pv 5) pa_nil)))
  (pss_cons (ps_expr (pe_bm PySem.F.plainAttrs_list PySem.F.slot_list_append PySem.F.type_list_append mt_append (pv 1) (pa_cons (pv 6) pa_nil)))
  (pss_one (ps_ret (pe_tup (pa_cons (pv 5) (pa_cons (pv 6) pa_nil))))))))))), ?_⟩
  try dsimp only [cx_K]
  obtain ⟨p, e, es, n, rfl, he, nep, hle, pb, hn, q⟩ := h
  refine ⟨_, rfl, _, rfl, _, rfl, p, e, es, n, rfl, he, nep, by omega, pb, by omega, fun H1 o k1 pb1 o0 o1 => ?_⟩
  have he1 : LsI H1 e es := k1 _ _ (by simp [nep]) he
  refine ⟨_, rfl, _, rfl, _, rfl, by show 1 ≤ sizeLine; decide, fun z nz => ?_⟩
  obtain ⟨s2, h2⟩ := newF (o := .lst [.int o]) nz
  generalize upd H1 z (.lst [.int o]) = H2 at s2 h2 ⊢
  refine k_cat (s2 _ _ he1) h2 (by rw [List.length_map, List.length_singleton]; omega) fun c H3 s3 nc h3 => ?_
  have h3 : LsI H3 c (es ++ [o]) := by
    show _ = some (HO.lst _)
    rw [h3, List.map_append]
    rfl
  have pb3 := pb1.same (s2.trans s3)
  have ncp : c ≠ p := by
    obtain ⟨_, _, _, hp, _⟩ := pb1.same s2
    exact (ne_of_none hp nc).symm
  refine ⟨_, rfl, p, c, es ++ [o], n + 12, rfl, h3, ncp, by rw [List.length_append, List.length_singleton]; omega, pb3, by omega, fun H4 o2 k4 pb4 o20 o21 => ?_⟩
  have he4 : LsI H4 e es := k4 _ _ (by simp [nep]) ((s2.trans s3) _ _ he1)
  have he4' : H4 e = some (.lst (es.map V.int)) := he4
  refine ⟨_, rfl, _, rfl, _, rfl, _, _, rfl, rfl, _, _, _, rfl, ?_⟩
  refine ⟨_, rfl, _, rfl, _, rfl, _, _, rfl, rfl, _, _, _, rfl, ?_⟩
  generalize eL : (fun i j k : Int => min (min i j) k) o o2 (10000000000 - 1) = L
  have eL : min (min o o2) (10000000000 - 1) = L := eL
  generalize eU : (fun i j k : Int => max (max i j) k) o o2 (L + 1) = U
  have eU : max (max o o2) (L + 1) = U := eU
  have hL : -10000000000 ≤ L ∧ L ≤ 9999999999 := by omega
  have hU : L < U ∧ U ≤ 10000000000 := by omega
  have k14 := ((k1.trans (KeepL.of (s2.trans s3))).trans k4).mono (m := [p, e]) (by simp)
  refine ⟨_, rfl, .inl ⟨rfl, _, SqL.of he4⟩, _, rfl, e, _, _, rfl, rfl, he4', szt (by rw [List.length_map]; omega), ?_⟩
  have h5 : upd H4 e (.lst (es.map V.int ++ [.int L])) e = some (.lst (es.map V.int ++ [.int L])) := upd_same
  have p5 : PurseB (upd H4 e (.lst (es.map V.int ++ [.int L]))) p (n + 12 + 12) := by
    obtain ⟨x, cc, m, hp, r⟩ := pb4
    exact ⟨x, cc, m, up_far nep.symm hp, r⟩
  have k5 := k14.upd (.lst (es.map V.int ++ [.int L])) (p := e) (by simp)
  generalize upd H4 e (.lst (es.map V.int ++ [.int L])) = H5 at h5 p5 k5 ⊢
  refine ⟨_, rfl, .inl ⟨rfl, _, SqL.of h5⟩, _, rfl, e, _, _, rfl, rfl, h5, szt (by rw [List.length_append, List.length_map, List.length_singleton]; omega), ?_⟩
  have h6 : upd H5 e (.lst (es.map V.int ++ [.int L] ++ [.int U])) e = some (.lst (es.map V.int ++ [.int L] ++ [.int U])) := upd_same
  have p6 : PurseB (upd H5 e (.lst (es.map V.int ++ [.int L] ++ [.int U]))) p (n + 12 + 12) := by
    obtain ⟨x, cc, m, hp, r⟩ := p5
    exact ⟨x, cc, m, up_far nep.symm hp, r⟩
  have k6 := k5.upd (.lst (es.map V.int ++ [.int L] ++ [.int U])) (p := e) (by simp)
  generalize upd H5 e (.lst (es.map V.int ++ [.int L] ++ [.int U])) = H6 at h6 p6 k6 ⊢
  refine ⟨_, rfl, _, rfl, by show 2 ≤ sizeLine; decide, fun t nt => ?_⟩
  obtain ⟨s7, h7⟩ := newF (o := .tup [.int L, .int U]) nt
  refine q _ t (L, U) (k6.trans (KeepL.of s7)) ((p6.same s7).mono (by omega)) ?_ h7 ⟨hL.1, hU.1, hU.2⟩
  show _ = some (HO.lst _)
  rw [s7 _ _ h6, List.map_append, List.append_assoc]
  rfl
theorem ok_law_spans (T : Txt K mg) : FnOk P w K mg base CX0 6 T.law_spans.f T.law_spans.fd ["_law_purse_here", "_law_many", "_law_most"] sp_law_spans := by
  refine T.law_spans.F.ok sc_law_spans (fun vs H Q E h => ?_) (fun cdv A outer s H vs Q E hr h => ?_)
  · first | (obtain ⟨_, rfl, _⟩ := h; rfl) | (obtain ⟨_, _, rfl, _⟩ := h; rfl) | (obtain ⟨_, _, _, rfl, _⟩ := h; rfl) | (obtain ⟨_, _, _, _, rfl, _⟩ := h; rfl) | (obtain ⟨_, _, _, _, _, rfl, _⟩ := h; rfl) | (obtain ⟨_, _, _, _, _, _, rfl, _⟩ := h; rfl) | (obtain ⟨_, _, _, _, _, _, _, rfl, _⟩ := h; rfl) | (obtain ⟨_, _, _, _, _, _, _, _, rfl, _⟩ := h; rfl) | (obtain ⟨_, _, _, _, _, _, _, _, _, rfl, _⟩ := h; rfl) | (obtain ⟨_, _, _, _, _, _, _, _, _, _, rfl, _⟩ := h; rfl) | (obtain ⟨_, _, _, _, _, _, _, _, _, _, _, rfl, _⟩ := h; rfl)
  refine ⟨_, (pss_cons (ps_set (i := 3) sc_law_spans.nd rfl (.inl rfl) (pe_lst pa_nil))
  (pss_cons (ps_set (i := 4) sc_law_spans.nd rfl (.inl rfl) (pe_lst pa_nil))
  (pss_cons (ps_for PassesOwn.never rfl (pi_range1 (by rfl) T.b_range (pa_cons (pv 1) pa_nil)) (pg_name (i := 5) sc_law_spans.nd rfl (.inl rfl))
  (pss_one (ps_if (PW.pt (pw_and (pt_cmpR (op_neDK (K := K) rfl hr.units) (pv 4) (pe_lst pa_nil) (nomark _)) (pw_and1 (pt_cmpR op_eq (pe_call (ok_law_draw T) (hr.mono (by decide)) (by rfl) T.law_draw.g T.law_draw.F.kp T.law_draw.b .nil pass0 (pa_cons (pv 0) (pa_cons pe_int pa_nil))) pe_int (nomark _)))))
  (pss_one (ps_expr (pe_bm PySem.F.plainAttrs_list PySem.F.slot_list_append PySem.F.type_list_append mt_append (pv 4) (pa_cons (pe_ix (ix_listK (K := K) rfl) (pv 4) (pe_call (ok_law_draw T) (hr.mono (by decide)) (by rfl) T.law_draw.g T.law_draw.F.kp T.law_draw.b .nil pass0 (pa_cons (pv 0) (pa_cons (pe_callB call_len_seq (by rfl) T.b_len PySem.boot_len (pa_cons (pv 4) pa_nil)) pa_nil))) (fun _ _ => rfl)) pa_nil))))
  (pss_one (ps_expr (pe_bm PySem.F.plainAttrs_list PySem.F.slot_list_append PySem.F.type_list_append mt_append (pv 4) (pa_cons (pe_call (ok_law_span T) (hr.mono (by decide)) (by rfl) T.law_span.g T.law_span.F.kp T.law_span.b .nil pass0 (pa_cons (pv 0) (pa_cons (pv 3) (pa_cons (pv 2) pa_nil)))) pa_nil)))))))
  (pss_one (ps_ret (pv 4)))))), ?_⟩
  try dsimp only [cx_K]
  obtain ⟨p, many, n, rfl, hm, pb, hn, q⟩ := h
  refine ⟨Nat.zero_le _, fun e ne => ?_⟩
  obtain ⟨s1, h1⟩ := newF (o := .lst []) ne
  have nep : e ≠ p := by
    obtain ⟨_, _, _, hp, _⟩ := pb
    exact (ne_of_none hp ne).symm
  generalize upd H e (.lst []) = H1 at s1 h1 ⊢
  refine ⟨Nat.zero_le _, fun f nf => ?_⟩
  obtain ⟨s2, h2⟩ := newF (o := .lst []) nf
  have nfp : f ≠ p := by
    obtain ⟨_, _, _, hp, _⟩ := pb.same s1
    exact (ne_of_none hp nf).symm
  have nfe : f ≠ e := (ne_of_none h1 nf).symm
  generalize upd H1 f (.lst []) = H2 at s2 h2 ⊢
  have s02 := s1.trans s2
  have nfH := s1.free nf
  refine ⟨_, rfl, _, rfl, by omega, by omega, ?_⟩
  rw [Int.toNat_natCast]
  refine for_it (walk_rg (n := many)) (fun i σ H' => ∃ (y5 : Option V) (es : List Int) (ss : List Spn), σ = [some (.ref p), some (.int (many : Int)), some (.int 10000000000), some (.ref e), some (.ref f), y5] ∧ KeepL [p] H H' ∧ PurseB H' p (n + 60 * i) ∧ LsI H' e es ∧ es.length ≤ 2 * i ∧ LsP H' f ss ∧ ss.length = i ∧ ∀ s ∈ ss, drawn s)
    ⟨none, [], [], rfl, KeepL.of s02, by have := pb.same s02; simpa using this, s2 _ _ h1, Nat.zero_le _, ⟨[], h2, Rows.nil⟩, rfl, fun s h => (List.not_mem_nil h).elim⟩ (fun _ _ _ _ _ => trivial) ?_ ?_
  · rintro i x σ _ H3 hi ⟨y5, es, ss, rfl, k3, pb3, he3, le3', hf3, lss, hdr⟩ ⟨rfl, rfl⟩
    refine ⟨_, rfl, k_neN dtP hf3 fun z nz => ⟨_, rfl, ?_⟩⟩
    obtain ⟨s4, h4⟩ := newF (o := .lst []) nz
    generalize upd H3 z (.lst []) = H4 at s4 h4 ⊢
    have k4 := k3.trans (KeepL.of s4)
    have pb4 := pb3.same s4
    have he4 : LsI H4 e es := s4 _ _ he3
    have hf4 := lsP_same s4 hf3
    have fresh : ∀ (E : Ends) (H5 : Hp) (m : Int), (E.nx = fun σ H' => ∃ (y5 : Option V) (es : List Int) (ss : List Spn), σ = [some (.ref p), some (.int (many : Int)), some (.int 10000000000), some (.ref e), some (.ref f), y5] ∧ KeepL [p] H H' ∧ PurseB H' p (n + 60 * ((i + 1 : Nat) : Int)) ∧ LsI H' e es ∧ es.length ≤ 2 * (i + 1) ∧ LsP H' f ss ∧ ss.length = i + 1 ∧ ∀ s ∈ ss, drawn s) →
        KeepL [p] H H5 → PurseB H5 p m → m ≤ n + 60 * i + 30 → LsI H5 e es → LsP H5 f ss →
        tDrop (tBM K "list" rAppend (tVar 4) (tCons (tCall sp_law_span [] E0 (tCons (tVar 0) (tCons (tVar 3) (tCons (tVar 2) tNil)))) tNil)) E [some (.ref p), some (.int (many : Int)), some (.int 10000000000), some (.ref e), some (.ref f), some (.int (i : Int))] H5 := fun E H5 m eE k5 pb5 hm5 he5 hf5 => by
      obtain ⟨fs, hfs, rf⟩ := hf5
      refine ⟨_, rfl, .inl ⟨rfl, _, SqL.of hfs⟩, _, rfl, _, rfl, _, rfl, p, e, es, m, rfl, he5, nep, by omega, pb5, by omega, fun H6 t s k6 pb6 he6 ht hs => ?_⟩
      have hf6 : H6 f = some (.lst fs) := k6 _ _ (by simp [nfp, nfe]) hfs
      refine ⟨f, _, _, rfl, rfl, hf6, szt (by rw [rf.len]; omega), ?_⟩
      have tp6 : Tp H5 H6 := fun b xs hb => k6 _ _ (fun hm => by
        simp only [List.mem_cons, List.not_mem_nil, or_false] at hm
        rcases hm with rfl | rfl
        · obtain ⟨_, _, _, hp, _⟩ := pb5
          have hp : H5 b = some (.lst _) := hp
          rw [hp] at hb
          cases hb
        · have he5 : H5 b = some (.lst _) := he5
          rw [he5] at hb
          cases hb) hb
      have tp7 : Tp H6 (upd H6 f (.lst (fs ++ [.ref t]))) := tp_lst hf6
      rw [eE]
      refine ⟨_, es ++ [s.1, s.2], ss ++ [s], rfl, ?_, ?_, up_far nfe.symm he6, by simp only [List.length_append, List.length_cons, List.length_nil]; omega, ⟨_, upd_same, (rf.mono fun _ _ z => z.tp (tp6.trans tp7)).snoc ⟨t, rfl, tp7 _ _ ht⟩⟩, by rw [List.length_append, lss, List.length_singleton], fun s' hs' => ?_⟩
      · refine (k5.chain (m := [p, e]) (fun b hb => ?_) k6).chain (m := [f]) (fun b hb => .inl (by rw [List.mem_singleton.mp hb]; exact nfH)) ((KeepL.refl _ _).upd _ (by simp))
        simp only [List.mem_cons, List.not_mem_nil, or_false] at hb
        rcases hb with rfl | rfl
        · exact .inr (by simp)
        · exact .inl ne
      · obtain ⟨x, c, mm, hp, r1, r2, r3⟩ := pb6
        exact ⟨x, c, mm, up_far nfp.symm hp, r1, r2, by omega⟩
      · rcases List.mem_append.mp hs' with h | h
        · exact hdr s' h
        · rw [List.mem_singleton.mp h]
          exact hs
    by_cases hss : ss = []
    · rw [decide_eq_true hss]
      refine iteF ?_
      exact fresh _ H4 _ rfl k4 pb4 (by omega) he4 hf4
    · rw [decide_eq_false hss]
      refine iteT ?_
      have hpos := List.length_pos_iff.mpr hss
      refine ⟨_, rfl, p, 8, n + 60 * i, rfl, by decide, pb4, by omega, fun H5 r k5 pb5 r0 r1 => ?_⟩
      have he5 : LsI H5 e es := k5 _ _ (by simp [nep]) he4
      have tp5 : Tp H4 H5 := fun b xs hb => k5 _ _ (fun hm => by
        obtain ⟨_, _, _, hp, _⟩ := pb4
        have hp : H4 p = some (.lst _) := hp
        rw [List.mem_singleton.mp hm, hp] at hb
        cases hb) hb
      obtain ⟨fs, hfs, rf⟩ := id hf4
      have hf5 : H5 f = some (.lst fs) := k5 _ _ (by simp [nfp]) hfs
      have rf5 := rf.mono fun _ _ z => Pr.tp tp5 z
      refine ⟨rfl, _, rfl, ?_⟩
      refine ifB (fun hr => ?_) (fun hr => ?_)
      · refine ⟨_, rfl, .inl ⟨rfl, _, SqL.of hf5⟩, ?_⟩
        refine ⟨_, rfl, _, rfl, _, rfl, f, _, rfl, .inl (SqL.of hf5), p, _, n + 60 * i + 3, rfl, by rw [rf.len]; omega, pb5, by omega, fun H6 r6 k6 pb6 r60 r61 => ?_⟩
        rw [rf.len] at r61
        obtain ⟨k, rfl⟩ : ∃ k : Nat, r6 = (k : Int) := ⟨r6.toNat, by omega⟩
        have hf6 : H6 f = some (.lst fs) := k6 _ _ (by simp [nfp]) hf5
        have he6 : LsI H6 e es := k6 _ _ (by simp [nep]) he5
        have tp6 : Tp H5 H6 := fun b xs hb => k6 _ _ (fun hm => by
          obtain ⟨_, _, _, hp, _⟩ := pb5
          have hp : H5 p = some (.lst _) := hp
          rw [List.mem_singleton.mp hm, hp] at hb
          cases hb) hb
        have rf6 := rf5.mono fun _ _ z => Pr.tp tp6 z
        obtain ⟨s', hs'⟩ : ∃ s', ss[k]? = some s' := ⟨_, List.getElem?_eq_getElem (by omega)⟩
        obtain ⟨v, hv, rv⟩ := rf6.at hs'
        refine ⟨f, _, _, _, rfl, rfl, SqL.of hf6, atI_nat hv, f, _, _, rfl, rfl, hf6, szt (by rw [rf.len]; omega), ?_⟩
        have tp7 : Tp H6 (upd H6 f (.lst (fs ++ [v]))) := tp_lst hf6
        refine ⟨_, es, ss ++ [s'], rfl, ?_, ?_, up_far nfe.symm he6, by omega, ⟨_, upd_same, (rf6.mono fun _ _ z => z.tp tp7).snoc (rv.tp tp7)⟩, by rw [List.length_append, lss, List.length_singleton], fun x hx => ?_⟩
        · exact ((k4.trans k5).trans k6).chain (m := [f]) (fun b hb => .inl (by rw [List.mem_singleton.mp hb]; exact nfH)) ((KeepL.refl _ _).upd _ (by simp))
        · obtain ⟨x, c, mm, hp, q1, q2, q3⟩ := pb6
          exact ⟨x, c, mm, up_far nfp.symm hp, q1, q2, by omega⟩
        · rcases List.mem_append.mp hx with h | h
          · exact hdr x h
          · rw [List.mem_singleton.mp h]
            exact hdr s' (List.mem_of_getElem? hs')
      · exact fresh _ H5 _ rfl (k4.trans k5) pb5 (by omega) he5 ⟨fs, hf5, rf5⟩
  · rintro σ H3 ⟨y5, es, ss, rfl, k3, pb3, he3, le3', hf3, lss, hdr⟩
    exact ⟨_, rfl, q H3 f ss k3 (pb3.mono (by omega)) nfH hf3 lss hdr⟩
end

theorem gaps_of : ∀ {l : List Spn}, GapsL l → Gaps l
  | [], _ => fun i s t h => by simp at h
  | [x], _ => fun i s t h1 h2 => by
    cases i with
    | zero => simp at h2
    | succ i => simp at h2
  | x :: y :: l, h => fun i s t h1 h2 => by
    cases i with
    | zero =>
      have e1 : x = s := Option.some.inj h1
      have e2 : y = t := Option.some.inj h2
      rw [← e1, ← e2]
      exact h.1
    | succ i => exact gaps_of h.2 i s t h1 h2
def sp_law_added : Sp := fun vs H Q _ => ∃ (a : Addr) (ss : List Spn), vs = [.ref a] ∧ LsP H a ss ∧ ss.length ≤ 16 ∧ (∀ s ∈ ss, okS s) ∧
  ∀ H' r (d c k : Nat), Same H H' → H r = none → LsI H' r [((apart ss).1.length : Int), (d : Int), (c : Int), heldL (pour ss)] → IsDef ss d → c + k = ss.length → IsPl ss k → Q (.ref r) H'
def sp_law_greatest : Sp := fun vs H Q _ => ∃ (a : Addr) (ss : List Spn), vs = [.ref a] ∧ LsP H a ss ∧ ss.length ≤ 16 ∧ (∀ s ∈ ss, okS s) ∧
  ∀ H' r, Same H H' → H r = none → LsI H' r [((rowsOf ss).2.length : Int) - 1, maxOr (levelsOf ss) + 1, deepV ss] → Q (.ref r) H'
def sp_law_weights : Sp := fun vs H Q _ => ∃ (a b : Addr) (ss : List Spn) (ws : List Int) (k : Int), vs = [.ref a, .ref b, .int k] ∧ LsP H a ss ∧ LsI H b ws ∧ ws.length = ss.length ∧ ss.length ≤ 16 ∧ (∀ s ∈ ss, okS s) ∧ (∀ x ∈ ws, 0 ≤ x ∧ x ≤ 1000000000) ∧ (1 ≤ k ∧ k ≤ 20) ∧
  ∀ H' r v, Same H H' → H r = none → LsI H' r [v, hgVal ss ws] → IsHv ss ws k v → Q (.ref r) H'
def sp_law_woven : Sp := fun vs H Q _ => ∃ (p a b : Addr) (xs ys : List (Spn × Int)) (n : Int), vs = [.ref p, .ref a, .ref b] ∧ Ls Pq H a xs ∧ Ls Pq H b ys ∧ xs.length ≤ 20 ∧ ys.length ≤ 20 ∧ PurseB H p n ∧ n ≤ 1000000 ∧
  ∀ H' r W, KeepL [p] H H' → PurseB H' p (n + 200) → H r = none → Ls Pq H' r W → Wv xs ys W → Q (.ref r) H'
section
variable {P : Program} {w : World} {K : PySem.W.Frag} {mg : Str → Option Value} {base : Heap}
theorem ok_law_added (T : Txt K mg) : FnOk P w K mg base CX0 23 T.law_added.f T.law_added.fd ["_law_spans_here"] sp_law_added := by
  refine T.law_added.F.ok sc_law_added (fun vs H Q E h => ?_) (fun cdv A outer s H vs Q E hr h => ?_)
  · first | (obtain ⟨_, rfl, _⟩ := h; rfl) | (obtain ⟨_, _, rfl, _⟩ := h; rfl) | (obtain ⟨_, _, _, rfl, _⟩ := h; rfl) | (obtain ⟨_, _, _, _, rfl, _⟩ := h; rfl) | (obtain ⟨_, _, _, _, _, rfl, _⟩ := h; rfl) | (obtain ⟨_, _, _, _, _, _, rfl, _⟩ := h; rfl) | (obtain ⟨_, _, _, _, _, _, _, rfl, _⟩ := h; rfl) | (obtain ⟨_, _, _, _, _, _, _, _, rfl, _⟩ := h; rfl) | (obtain ⟨_, _, _, _, _, _, _, _, _, rfl, _⟩ := h; rfl) | (obtain ⟨_, _, _, _, _, _, _, _, _, _, rfl, _⟩ := h; rfl) | (obtain ⟨_, _, _, _, _, _, _, _, _, _, _, rfl, _⟩ := h; rfl)
  refine ⟨_, (pss_one (ps_ret (pe_lst (pa_cons (pe_callB call_len_seq (by rfl) T.b_len PySem.boot_len (pa_cons (pe_ix (ix_tupK (K := K) rfl) (pe_call (ok_most_apart T) (hr.mono (by decide)) (by rfl) T.most_apart.g T.most_apart.F.kp T.most_apart.b .nil pass0 (pa_cons (pv 0) pa_nil)) pe_int (fun _ _ => rfl)) pa_nil)) (pa_cons (pe_callB call_len_seq (by rfl) T.b_len PySem.boot_len (pa_cons (pe_ix (ix_tupK (K := K) rfl) (pe_call (ok_loose T) (hr.mono (by decide)) (by rfl) T.loose.g T.loose.F.kp T.loose.b .nil pass0 (pa_cons (pv 0) pa_nil)) pe_int (fun _ _ => rfl)) pa_nil)) (pa_cons (pe_bm PySem.F.plainAttrs_list PySem.F.slot_list_count PySem.F.type_list_count mt_countN (pe_ix (ix_tupK (K := K) rfl) (pe_call (ok_giving T) (hr.mono (by decide)) (by rfl) T.giving.g T.giving.F.kp T.giving.b .nil pass0 (pa_cons (pv 0) pa_nil)) pe_int (fun _ _ => rfl)) (pa_cons pe_non pa_nil)) (pa_cons (pe_call (ok_held T) (hr.mono (by decide)) (by rfl) T.held.g T.held.F.kp T.held.b .nil pass0 (pa_cons (pe_call (ok_cover_of T) (hr.mono (by decide)) (by rfl) T.cover_of.g T.cover_of.F.kp T.cover_of.b .nil pass0 (pa_cons (pv 0) pa_nil)) pa_nil)) pa_nil))))))), ?_⟩
  try dsimp only [cx_K]
  obtain ⟨a, ss, rfl, hl, hn, hok, q⟩ := h
  refine ⟨_, rfl, a, ss, rfl, hl, by omega, hok, fun H1 t1 p1 v1 s1 n1 ht1 hp1 => ?_⟩
  refine ⟨t1, _, 0, _, rfl, rfl, SqT.of ht1, rfl, p1, _, rfl, .inl (SqL.of hp1), ?_⟩
  refine ⟨_, rfl, a, ss, rfl, lsP_same s1 hl, hn, hok, fun H2 t2 p2 v2 ns2 s2 n2 ht2 hp2 hd => ?_⟩
  refine ⟨t2, _, 0, _, rfl, rfl, SqT.of ht2, rfl, p2, _, rfl, .inl (SqL.of hp2), ?_⟩
  have s02 := s1.trans s2
  refine ⟨_, rfl, a, ss, rfl, lsP_same s02 hl, by omega, hok, fun H3 t3 g v3 G k s3 n3 ht3 hG lG cn pl => ?_⟩
  obtain ⟨gv, hgv, rgv⟩ := hG
  have s03 := s02.trans s3
  have hcount : gv.countP isN = nones G := by
    have key : ∀ (vs : List V) (G : List (Option Int)), Rows (On H3) vs G → vs.countP isN = nones G := by
      intro vs G
      induction vs generalizing G with
      | nil =>
        intro r
        have : G = [] := List.eq_nil_of_length_eq_zero r.len.symm
        subst this
        rfl
      | cons v vs ih =>
        intro r
        cases G with
        | nil => cases r.len
        | cons x G =>
          obtain ⟨a, b⟩ := r.uncons
          have c := ih G b
          unfold nones at c ⊢
          cases x with
          | none =>
            have a : v = .non := a
            subst a
            rw [List.countP_cons, List.filter_cons, c]
            rfl
          | some i =>
            have a : v = .int i := a
            subst a
            rw [List.countP_cons, List.filter_cons, c]
            rfl
    exact key gv G rgv
  have hitems : ∀ v ∈ gv, v = .non ∨ ∃ i, v = .int i := fun v hv => by
    obtain ⟨i, hi⟩ := List.mem_iff_getElem?.mp hv
    obtain ⟨x, _, r⟩ := rgv.get hi
    cases x with
    | none => exact .inl r
    | some i => exact .inr ⟨i, r⟩
  refine ⟨t3, _, 0, _, rfl, rfl, SqT.of ht3, rfl, .inl ⟨rfl, _, SqL.of hgv⟩, g, gv, rfl, rfl, SqL.of hgv, hitems, ?_⟩
  rw [hcount]
  obtain ⟨gp, pp⟩ := pour_ok hok
  have lp : (pour ss).length ≤ ss.length := by
    have := pour_len (isort le2 ss) []
    rw [isort_len, List.length_nil, Nat.zero_add] at this
    exact this
  refine ⟨_, rfl, a, ss, rfl, lsP_same s03 hl, by omega, hok, fun H4 pc s4 n4 hc => ?_⟩
  refine ⟨pc, pour ss, rfl, hc, by omega, fun t ht => (pp t ht).1, gaps_of gp, fun H5 s5 => ?_⟩
  refine ⟨by show 4 ≤ sizeLine; decide, fun r nr => ?_⟩
  obtain ⟨s6, h6⟩ := newF (o := .lst [.int ((((isort le1 (apart ss).1).map V.int).length : Nat) : Int), .int (((ns2.map V.int).length : Nat) : Int), .int ((nones G : Nat) : Int), .int (heldOf (pour ss))]) nr
  refine q _ r ns2.length (nones G) k (((s03.trans s4).trans s5).trans s6) (((s03.trans s4).trans s5).free nr) ?_ hd cn pl
  rw [List.length_map, List.length_map, isort_len] at h6
  rw [List.length_map, List.length_map, isort_len]
  exact h6
theorem ok_law_greatest (T : Txt K mg) : FnOk P w K mg base CX0 6 T.law_greatest.f T.law_greatest.fd ["_law_spans_here"] sp_law_greatest := by
  refine T.law_greatest.F.ok sc_law_greatest (fun vs H Q E h => ?_) (fun cdv A outer s H vs Q E hr h => ?_)
  · first | (obtain ⟨_, rfl, _⟩ := h; rfl) | (obtain ⟨_, _, rfl, _⟩ := h; rfl) | (obtain ⟨_, _, _, rfl, _⟩ := h; rfl) | (obtain ⟨_, _, _, _, rfl, _⟩ := h; rfl) | (obtain ⟨_, _, _, _, _, rfl, _⟩ := h; rfl) | (obtain ⟨_, _, _, _, _, _, rfl, _⟩ := h; rfl) | (obtain ⟨_, _, _, _, _, _, _, rfl, _⟩ := h; rfl) | (obtain ⟨_, _, _, _, _, _, _, _, rfl, _⟩ := h; rfl) | (obtain ⟨_, _, _, _, _, _, _, _, _, rfl, _⟩ := h; rfl) | (obtain ⟨_, _, _, _, _, _, _, _, _, _, rfl, _⟩ := h; rfl) | (obtain ⟨_, _, _, _, _, _, _, _, _, _, _, rfl, _⟩ := h; rfl)
  refine ⟨_, (pss_cons (ps_asg (pe_call (ok_rows_of T) (hr.mono (by decide)) (by rfl) T.rows_of.g T.rows_of.F.kp T.rows_of.b .nil pass0 (pa_cons (pv 0) pa_nil)) (pg_tupK (K := K) (n := 2) rfl rfl (pgs_cons (pg_name (i := 1) sc_law_greatest.nd rfl (.inl rfl)) (pgs_cons (pg_name (i := 2) sc_law_greatest.nd rfl (.inl rfl)) pgs_nil))))
  (pss_cons (ps_set (i := 3) sc_law_greatest.nd rfl (.inl rfl) (pe_lst (pa_cons (pe_callB (cr_max rfl) (by rfl) T.b_max (by decide +kernel) (pa_cons (pe_op op_catJ (pv 1) (pe_lst (pa_cons (pe_un un_neg pe_int) pa_nil))) pa_nil)) (pa_cons (pe_callB call_len_seq (by rfl) T.b_len PySem.boot_len (pa_cons (pe_ix (ix_tupK (K := K) rfl) (pe_call (ok_nest T) (hr.mono (by decide)) (by rfl) T.nest.g T.nest.F.kp T.nest.b .nil pass0 (pa_cons (pv 0) pa_nil)) pe_int (fun _ _ => rfl)) pa_nil)) (pa_cons pe_int pa_nil)))))
  (pss_cons (ps_if (pt_cmpR (op_neDK (K := K) rfl hr.units) (pv 0) (pe_lst pa_nil) (nomark _))
  (pss_one (ps_asg (pe_ix (ix_tupK (K := K) rfl) (pe_call (ok_deepest T) (hr.mono (by decide)) (by rfl) T.deepest.g T.deepest.F.kp T.deepest.b .nil pass0 (pa_cons (pv 0) pa_nil)) pe_int (fun _ _ => rfl)) (pg_sub (pv 3) pe_int set_list)))
  pss_nil)
  (pss_one (ps_ret (pv 3)))))), ?_⟩
  try dsimp only [cx_K]
  obtain ⟨a, ss, rfl, hl, hn, hok, q⟩ := h
  refine ⟨_, rfl, a, ss, rfl, hl, by omega, hok, fun H1 t1 p1 v1 s1 n1 ht1 hp1 => ?_⟩
  refine g_two ht1 ?_
  refine ⟨_, rfl, _, rfl, by show 1 ≤ sizeLine; decide, fun z nz => ?_⟩
  obtain ⟨s2, h2⟩ := newF (o := .lst [.int (-1)]) nz
  generalize upd H1 z (.lst [.int (-1)]) = H2 at s2 h2 ⊢
  have lr : (rowsOf ss).1.length = ss.length := by
    have := (row_len (isort le3 (rowKeys ss)) (List.replicate ss.length 0, [])).1
    rw [List.length_replicate] at this
    exact this
  refine k_cat (s2 _ _ hp1) h2 (by rw [List.length_map, List.length_singleton]; omega) fun c H3 s3 n3 h3 => ?_
  have h3 : LsI H3 c ((rowsOf ss).1 ++ [-1]) := by
    show _ = some (HO.lst _)
    rw [h3, List.map_append]
    rfl
  refine ⟨c, _, rfl, SqL.of h3, by rw [List.length_append, List.length_singleton]; omega, fun m hm1 hm2 => ?_⟩
  have em := top_unique ⟨hm1, hm2⟩ (rows_top ss)
  subst em
  have s03 := (s1.trans s2).trans s3
  refine ⟨_, rfl, a, ss, rfl, lsP_same s03 hl, by omega, hok, fun H4 t4 p4 v4 ns4 s4 n4 ht4 hp4 hl4 => ?_⟩
  refine ⟨t4, _, 0, _, rfl, rfl, SqT.of ht4, rfl, p4, _, rfl, .inl (SqL.of hp4), by show 3 ≤ sizeLine; decide, fun r nr => ?_⟩
  obtain ⟨s5, h5⟩ := newF (o := .lst [.int (((rowsOf ss).2.length : Int) - 1), .int (((ns4.map V.int).length : Nat) : Int), .int 0]) nr
  have s05 := (s03.trans s4).trans s5
  have nrH := (s03.trans s4).free nr
  have e5 : (((ns4.map V.int).length : Nat) : Int) = maxOr (levelsOf ss) + 1 := by rw [List.length_map]; exact hl4
  rw [e5] at h5 s5 s05 ⊢
  generalize upd H4 r (.lst [.int (((rowsOf ss).2.length : Int) - 1), .int (maxOr (levelsOf ss) + 1), .int 0]) = H5 at s5 h5 s05 ⊢
  have hl5 := lsP_same s05 hl
  refine ⟨_, rfl, k_neN dtP hl5 fun z6 nz6 => ⟨_, rfl, ?_⟩⟩
  obtain ⟨s6, h6⟩ := newF (o := .lst []) nz6
  generalize upd H5 z6 (.lst []) = H6 at s6 h6 ⊢
  by_cases hss : ss = []
  · rw [decide_eq_true hss]
    refine iteF ⟨_, rfl, q H6 r (s05.trans s6) nrH ?_⟩
    have e0 : deepV ss = 0 := by
      subst hss
      rfl
    rw [e0]
    exact s6 _ _ h5
  · rw [decide_eq_false hss]
    refine iteT ?_
    have ne : deepOf ss (depthN ss) ≠ none := by
      obtain ⟨x, l, hx⟩ := List.exists_cons_of_ne_nil hss
      refine (deep_spec ss).2.2 x.1 (List.length_pos_of_mem (List.mem_filter.mpr ⟨show x ∈ ss by rw [hx]; exact List.mem_cons_self, decide_eq_true ?_⟩))
      have := (hok x (by rw [hx]; exact List.mem_cons_self)).2.1
      omega
    refine ⟨_, rfl, a, ss, rfl, lsP_same (s05.trans s6) hl, by omega, hok, fun H7 v s7 hv => ?_⟩
    cases hd : deepOf ss (depthN ss) with
    | none => exact (ne hd).elim
    | some b =>
      rw [hd] at hv
      obtain ⟨pb, rfl, hpb⟩ := hv
      have h7 := s7 _ _ (s6 _ _ h5)
      refine ⟨pb, _, 0, _, rfl, rfl, SqT.of hpb, rfl, _, rfl, r, _, _, 2, rfl, rfl, h7, rfl, ?_⟩
      have ev : deepV ss = b.1 := by
        unfold deepV
        rw [hd]
      refine ⟨_, rfl, q _ r (sm_mut ((s05.trans s6).trans s7) nrH) nrH ?_⟩
      rw [ev]
      exact upd_same
theorem ok_law_weights (T : Txt K mg) : FnOk P w K mg base CX0 6 T.law_weights.f T.law_weights.fd ["_law_spans_here", "_law_weights_here", "_law_k"] sp_law_weights := by
  refine T.law_weights.F.ok sc_law_weights (fun vs H Q E h => ?_) (fun cdv A outer s H vs Q E hr h => ?_)
  · first | (obtain ⟨_, rfl, _⟩ := h; rfl) | (obtain ⟨_, _, rfl, _⟩ := h; rfl) | (obtain ⟨_, _, _, rfl, _⟩ := h; rfl) | (obtain ⟨_, _, _, _, rfl, _⟩ := h; rfl) | (obtain ⟨_, _, _, _, _, rfl, _⟩ := h; rfl) | (obtain ⟨_, _, _, _, _, _, rfl, _⟩ := h; rfl) | (obtain ⟨_, _, _, _, _, _, _, rfl, _⟩ := h; rfl) | (obtain ⟨_, _, _, _, _, _, _, _, rfl, _⟩ := h; rfl) | (obtain ⟨_, _, _, _, _, _, _, _, _, rfl, _⟩ := h; rfl) | (obtain ⟨_, _, _, _, _, _, _, _, _, _, rfl, _⟩ := h; rfl) | (obtain ⟨_, _, _, _, _, _, _, _, _, _, _, rfl, _⟩ := h; rfl)
  refine ⟨_, (pss_cons (ps_set (i := 3) sc_law_weights.nd rfl (.inl rfl) (pe_ix (ix_tupK (K := K) rfl) (pe_call (ok_heaviest T) (hr.mono (by decide)) (by rfl) T.heaviest.g T.heaviest.F.kp T.heaviest.b .nil pass0 (pa_cons (pv 0) (pa_cons (pv 1) (pa_cons (pv 2) pa_nil)))) pe_int (fun _ _ => rfl)))
  (pss_one (ps_ret (pe_lst (pa_cons (pe_callB (cr_sum rfl) (by rfl) T.b_sum (by decide +kernel) (pa_cons (pe_lc (own := [("_law_number_here", 4)]) (tt := tYes) rfl sc_law_weights.nd (pi_list (pv 3)) (blkOk_by (N := ["_law_spans_here", "_law_weights_here", "_law_k", "_law_chosen", "_law_number_here"]) (sc := defScope s_law_weights) (by decide +kernel)) (fun _ _ _ _ _ => (pg_name (i := 4) sc_law_weights.nd rfl (.inl rfl))) (fun _ _ _ _ _ => pts_nil) (fun _ _ _ _ _ => (pe_ix (ix_listK (K := K) rfl) (pv 1) (pv 4) (fun _ _ => rfl)))) pa_nil)) (pa_cons (pe_ix (ix_tupK (K := K) rfl) (pe_call (ok_heaviest_giving T) (hr.mono (by decide)) (by rfl) T.heaviest_giving.g T.heaviest_giving.F.kp T.heaviest_giving.b .nil pass0 (pa_cons (pv 0) (pa_cons (pv 1) pa_nil))) pe_int (fun _ _ => rfl)) pa_nil)))))), ?_⟩
  try dsimp only [cx_K]
  obtain ⟨a, b, ss, ws, k, rfl, hl, hb, hlw, hn, hok, hws, hk, q⟩ := h
  refine ⟨_, rfl, _, rfl, _, rfl, a, b, ss, ws, k, rfl, hl, hb, hlw, by omega, hok, hws, hk, fun H1 t1 c1 v1 T1 s1 n1 ht1 hc1 hv => ?_⟩
  refine ⟨t1, _, 0, _, rfl, rfl, SqT.of ht1, rfl, ?_⟩
  have gw : ∀ k, k < ss.length → (ws.map V.int)[k]? = some (.int (ws.getD k 0)) := fun k hk => by
    rw [List.getElem?_map, List.getD_eq_getElem?_getD, List.getElem?_eq_getElem (by omega)]
    rfl
  have lf : ((List.range ss.length).filter T1).length ≤ ss.length := cnt_le _ _
  refine ⟨_, rfl, c1, rfl, ⟨_, SqL.of hc1⟩, fun D hD => lc_eachM In (fun _ h => h) In (fun _ h => h) (fun x => ws.getD x.toNat 0) hc1 (int_rows _) (by rw [nats_len]; omega) hD (fun v x H2 hx s2 r Kt ht => ?_) (fun H2 s2 h2 => ?_)⟩
  · have r : v = .int x := r
    subst r
    obtain ⟨j, hj, rfl⟩ := nats_mem hx
    exact ⟨rfl, _, rfl, _, rfl, b, _, _, _, rfl, rfl, SqL.of ((s1.trans s2) _ _ hb), atI_nat (gw j (cnt_mem.mp hj).1), ht _ _ (Same.refl _) rfl⟩
  have h2 := ls_int h2
  refine ⟨D, _, rfl, SqL.of h2, ?_⟩
  have ev : ((natsI ((List.range ss.length).filter T1)).map fun x => ws.getD x.toNat 0).sum = wSum ws ss.length T1 := by
    unfold wSum isum natsI
    rw [List.map_map]
    rfl
  rw [ev]
  have s02 := s1.trans s2
  refine ⟨_, rfl, _, rfl, a, b, ss, ws, rfl, lsP_same s02 hl, s02 _ _ hb, hlw, by omega, hok, hws, fun H3 t3 g3 s3 n3 ht3 => ?_⟩
  refine ⟨t3, _, 1, _, rfl, rfl, SqT.of ht3, rfl, by show 2 ≤ sizeLine; decide, fun r nr => ?_⟩
  obtain ⟨s4, h4⟩ := newF (o := .lst [.int (wSum ws ss.length T1), .int (hgVal ss ws)]) nr
  exact q _ r _ ((s02.trans s3).trans s4) ((s02.trans s3).free nr) h4 hv
theorem ok_law_woven (T : Txt K mg) : FnOk P w K mg base CX0 3 T.law_woven.f T.law_woven.fd ["_law_purse_here", "_law_one", "_law_other"] sp_law_woven := by
  refine T.law_woven.F.ok sc_law_woven (fun vs H Q E h => ?_) (fun cdv A outer s H vs Q E hr h => ?_)
  · first | (obtain ⟨_, rfl, _⟩ := h; rfl) | (obtain ⟨_, _, rfl, _⟩ := h; rfl) | (obtain ⟨_, _, _, rfl, _⟩ := h; rfl) | (obtain ⟨_, _, _, _, rfl, _⟩ := h; rfl) | (obtain ⟨_, _, _, _, _, rfl, _⟩ := h; rfl) | (obtain ⟨_, _, _, _, _, _, rfl, _⟩ := h; rfl) | (obtain ⟨_, _, _, _, _, _, _, rfl, _⟩ := h; rfl) | (obtain ⟨_, _, _, _, _, _, _, _, rfl, _⟩ := h; rfl) | (obtain ⟨_, _, _, _, _, _, _, _, _, rfl, _⟩ := h; rfl) | (obtain ⟨_, _, _, _, _, _, _, _, _, _, rfl, _⟩ := h; rfl) | (obtain ⟨_, _, _, _, _, _, _, _, _, _, _, rfl, _⟩ := h; rfl)
  refine ⟨_, (pss_cons (ps_set (i := 3) sc_law_woven.nd rfl (.inl rfl) (pe_callTy call_list_of (by rfl) T.b_list (by decide +kernel) (pa_cons (pv 1) pa_nil)))
  (pss_cons (ps_set (i := 4) sc_law_woven.nd rfl (.inl rfl) (pe_callTy call_list_of (by rfl) T.b_list (by decide +kernel) (pa_cons (pv 2) pa_nil)))
  (pss_cons (ps_set (i := 5) sc_law_woven.nd rfl (.inl rfl) (pe_lst pa_nil))
  (pss_cons (ps_while PassesOwn.never (pt_cmpR (op_neDK (K := K) rfl hr.units) (pe_op op_catJ (pv 3) (pv 4)) (pe_lst pa_nil) (nomark _))
  (pss_one (ps_if (PW.pt (pw_or (pt_cmpR (op_eqDK (K := K) rfl hr.units) (pv 4) (pe_lst pa_nil) (nomark _)) (pw_or1 (PW.pt (pw_and (pt_cmpR (op_neDK (K := K) rfl hr.units) (pv 3) (pe_lst pa_nil) (nomark _)) (pw_and1 (pt_cmpR op_eq (pe_call (ok_law_draw T) (hr.mono (by decide)) (by rfl) T.law_draw.g T.law_draw.F.kp T.law_draw.b .nil pass0 (pa_cons (pv 0) (pa_cons pe_int pa_nil))) pe_int (nomark _))))))))
  (pss_one (ps_expr (pe_bm PySem.F.plainAttrs_list PySem.F.slot_list_append PySem.F.type_list_append mt_append (pv 5) (pa_cons (pe_bm PySem.F.plainAttrs_list PySem.F.slot_list_pop PySem.F.type_list_pop mt_popAt (pv 3) (pa_cons pe_int pa_nil)) pa_nil))))
  (pss_one (ps_expr (pe_bm PySem.F.plainAttrs_list PySem.F.slot_list_append PySem.F.type_list_append mt_append (pv 5) (pa_cons (pe_bm PySem.F.plainAttrs_list PySem.F.slot_list_pop PySem.F.type_list_pop mt_popAt (pv 4) (pa_cons pe_int pa_nil)) pa_nil)))))))
  (pss_one (ps_ret (pv 5))))))), ?_⟩
  try dsimp only [cx_K]
  obtain ⟨p, a, b, xs, ys, n, rfl, ha, hb, hnx, hny, pb, hn, q⟩ := h
  obtain ⟨us, hu, ru⟩ := id ha
  obtain ⟨vs, hv, rv⟩ := id hb
  refine ⟨_, rfl, a, us, rfl, .inl (SqL.of hu), fun l nl => ?_⟩
  obtain ⟨s1, h1⟩ := newF (o := .lst us) nl
  generalize upd H l (.lst us) = H1 at s1 h1 ⊢
  refine ⟨_, rfl, b, vs, rfl, .inl (SqL.of (s1 _ _ hv)), fun c nc => ?_⟩
  obtain ⟨s2, h2⟩ := newF (o := .lst vs) nc
  generalize upd H1 c (.lst vs) = H2 at s2 h2 ⊢
  refine ⟨Nat.zero_le _, fun f nf => ?_⟩
  obtain ⟨s3, h3⟩ := newF (o := .lst []) nf
  generalize upd H2 f (.lst []) = H3 at s3 h3 ⊢
  have s03 := (s1.trans s2).trans s3
  have nlH := nl
  have ncH := s1.free nc
  have nfH := (s1.trans s2).free nf
  have ncl : c ≠ l := (ne_of_none h1 nc).symm
  have nfl : f ≠ l := (ne_of_none (s2 _ _ h1) nf).symm
  have nfc : f ≠ c := (ne_of_none h2 nf).symm
  obtain ⟨_, _, _, hpp, _⟩ := id pb
  have nlp : l ≠ p := (ne_of_none hpp nl).symm
  have ncp : c ≠ p := (ne_of_none hpp ncH).symm
  have nfp : f ≠ p := (ne_of_none hpp nfH).symm
  clear hpp
  refine ⟨fun m σ H' => ∃ (X Y Z : List (Spn × Int)), σ = [some (.ref p), some (.ref a), some (.ref b), some (.ref l), some (.ref c), some (.ref f)] ∧ KeepL [p] H H' ∧ PurseB H' p (n + 4 * (Z.length : Int)) ∧ Ls Pq H' l X ∧ Ls Pq H' c Y ∧ Ls Pq H' f Z ∧ X.length + Y.length ≤ m ∧ Z.length + (X.length + Y.length) ≤ 40 ∧ X.length ≤ 40 ∧ Y.length ≤ 40 ∧ ∀ R, Wv X Y R → Wv xs ys (Z ++ R),
    ⟨xs.length + ys.length, xs, ys, [], rfl, KeepL.of s03, by have := pb.same s03; simpa using this, ⟨us, (s2.trans s3) _ _ h1, ru.mono fun _ _ z => z.tp (tp_of s03)⟩, ⟨vs, s3 _ _ h2, rv.mono fun _ _ z => z.tp (tp_of s03)⟩, ⟨[], h3, Rows.nil⟩, Nat.le_refl _, by simp only [List.length_nil]; omega, by omega, by omega, fun R h => h⟩, ?_⟩
  clear h1 h2 h3 s1 s2 s3 s03 nl nc nf hu hv ru rv us vs
  rintro m σ H4 ⟨X, Y, Z, rfl, k4, pb4, hX, hY, hZ, hm, h40, hX40, hY40, hw⟩
  obtain ⟨xv, hxv, rxv⟩ := id hX
  obtain ⟨yv, hyv, ryv⟩ := id hY
  have takeX : ∀ (E : Ends) (H5 : Hp) (nn : Int), (E.nx = fun σ H' => ∃ (X Y Z : List (Spn × Int)), σ = [some (.ref p), some (.ref a), some (.ref b), some (.ref l), some (.ref c), some (.ref f)] ∧ KeepL [p] H H' ∧ PurseB H' p (n + 4 * (Z.length : Int)) ∧ Ls Pq H' l X ∧ Ls Pq H' c Y ∧ Ls Pq H' f Z ∧ X.length + Y.length ≤ m - 1 ∧ Z.length + (X.length + Y.length) ≤ 40 ∧ X.length ≤ 40 ∧ Y.length ≤ 40 ∧ ∀ R, Wv X Y R → Wv xs ys (Z ++ R)) →
      KeepL [p] H H5 → PurseB H5 p nn → nn ≤ n + 4 * (Z.length : Int) + 4 → Ls Pq H5 l X → Ls Pq H5 c Y → Ls Pq H5 f Z → X ≠ [] →
      tDrop (tBM K "list" rAppend (tVar 5) (tCons (tBM K "list" rPopAt (tVar 3) (tCons (tC (V.int 0)) tNil)) tNil)) E [some (.ref p), some (.ref a), some (.ref b), some (.ref l), some (.ref c), some (.ref f)] H5 := fun E H5 nn eE k5 pb5 hnn hX5 hY5 hZ5 hne => by
    obtain ⟨x, X2, rfl⟩ := List.exists_cons_of_ne_nil hne
    obtain ⟨xv5, hx5, rx5⟩ := hX5
    obtain ⟨yv5, hy5, ry5⟩ := hY5
    obtain ⟨zv5, hz5, rz5⟩ := hZ5
    cases xv5 with
    | nil => cases rx5.len
    | cons v xv5 =>
      obtain ⟨rv, rr⟩ := rx5.uncons
      refine ⟨_, rfl, .inl ⟨rfl, _, SqL.of hz5⟩, _, rfl, .inl ⟨rfl, _, SqL.of hx5⟩, l, _, 0, 0, v, rfl, rfl, hx5, by decide, by decide, by simp [seqIndex?], rfl, ?_⟩
      have tp6 : Tp H5 (upd H5 l (.lst xv5)) := tp_lst hx5
      have hl6 : upd H5 l (.lst xv5) l = some (.lst xv5) := upd_same
      have hc6 : upd H5 l (.lst xv5) c = some (.lst yv5) := up_far ncl hy5
      have hf6 : upd H5 l (.lst xv5) f = some (.lst zv5) := up_far nfl hz5
      have k6 : KeepL [p] H (upd H5 l (.lst xv5)) := k5.chain (m := [l]) (fun b hb => .inl (by rw [List.mem_singleton.mp hb]; exact nlH)) ((KeepL.refl _ _).upd _ (by simp))
      have pb6 : PurseB (upd H5 l (.lst xv5)) p nn := let ⟨x, cc, mm, hp, r⟩ := pb5; ⟨x, cc, mm, up_far nlp.symm hp, r⟩
      refine ⟨f, _, _, rfl, rfl, hf6, szt (by rw [rz5.len]; omega), ?_⟩
      show E.nx _ _
      rw [eE]
      have tp7 : Tp (upd H5 l (.lst xv5)) (upd (upd H5 l (.lst xv5)) f (.lst (zv5 ++ [v]))) := tp_lst hf6
      have tpp := tp6.trans tp7
      refine ⟨X2, Y, Z ++ [x], rfl, k6.chain (m := [f]) (fun b hb => .inl (by rw [List.mem_singleton.mp hb]; exact nfH)) ((KeepL.refl _ _).upd _ (by simp)), ?_, ⟨_, up_far nfl.symm hl6, rr.mono fun _ _ z => z.tp tpp⟩, ⟨_, up_far nfc.symm hc6, ry5.mono fun _ _ z => z.tp tpp⟩, ⟨_, upd_same, (rz5.mono fun _ _ z => z.tp tpp).snoc (rv.tp tpp)⟩, ?_, ?_, ?_, hY40, fun R hR => ?_⟩
      · obtain ⟨x, cc, mm, hp, r1, r2, r3⟩ := pb6
        refine ⟨x, cc, mm, up_far nfp.symm hp, r1, r2, ?_⟩
        rw [List.length_append, List.length_singleton]
        omega
      · rw [List.length_cons] at hm
        omega
      · rw [List.length_append, List.length_singleton]
        rw [List.length_cons] at h40
        omega
      · rw [List.length_cons] at hX40
        omega
      · rw [List.append_assoc]
        exact hw _ (.left x hR)
  have takeY : ∀ (E : Ends) (H5 : Hp) (nn : Int), (E.nx = fun σ H' => ∃ (X Y Z : List (Spn × Int)), σ = [some (.ref p), some (.ref a), some (.ref b), some (.ref l), some (.ref c), some (.ref f)] ∧ KeepL [p] H H' ∧ PurseB H' p (n + 4 * (Z.length : Int)) ∧ Ls Pq H' l X ∧ Ls Pq H' c Y ∧ Ls Pq H' f Z ∧ X.length + Y.length ≤ m - 1 ∧ Z.length + (X.length + Y.length) ≤ 40 ∧ X.length ≤ 40 ∧ Y.length ≤ 40 ∧ ∀ R, Wv X Y R → Wv xs ys (Z ++ R)) →
      KeepL [p] H H5 → PurseB H5 p nn → nn ≤ n + 4 * (Z.length : Int) + 4 → Ls Pq H5 l X → Ls Pq H5 c Y → Ls Pq H5 f Z → Y ≠ [] →
      tDrop (tBM K "list" rAppend (tVar 5) (tCons (tBM K "list" rPopAt (tVar 4) (tCons (tC (V.int 0)) tNil)) tNil)) E [some (.ref p), some (.ref a), some (.ref b), some (.ref l), some (.ref c), some (.ref f)] H5 := fun E H5 nn eE k5 pb5 hnn hX5 hY5 hZ5 hne => by
    obtain ⟨x, Y2, rfl⟩ := List.exists_cons_of_ne_nil hne
    obtain ⟨xv5, hx5, rx5⟩ := hX5
    obtain ⟨yv5, hy5, ry5⟩ := hY5
    obtain ⟨zv5, hz5, rz5⟩ := hZ5
    cases yv5 with
    | nil => cases ry5.len
    | cons v yv5 =>
      obtain ⟨rv, rr⟩ := ry5.uncons
      refine ⟨_, rfl, .inl ⟨rfl, _, SqL.of hz5⟩, _, rfl, .inl ⟨rfl, _, SqL.of hy5⟩, c, _, 0, 0, v, rfl, rfl, hy5, by decide, by decide, by simp [seqIndex?], rfl, ?_⟩
      have tp6 : Tp H5 (upd H5 c (.lst yv5)) := tp_lst hy5
      have hc6 : upd H5 c (.lst yv5) c = some (.lst yv5) := upd_same
      have hl6 : upd H5 c (.lst yv5) l = some (.lst xv5) := up_far ncl.symm hx5
      have hf6 : upd H5 c (.lst yv5) f = some (.lst zv5) := up_far nfc hz5
      have k6 : KeepL [p] H (upd H5 c (.lst yv5)) := k5.chain (m := [c]) (fun b hb => .inl (by rw [List.mem_singleton.mp hb]; exact ncH)) ((KeepL.refl _ _).upd _ (by simp))
      have pb6 : PurseB (upd H5 c (.lst yv5)) p nn := let ⟨x, cc, mm, hp, r⟩ := pb5; ⟨x, cc, mm, up_far ncp.symm hp, r⟩
      refine ⟨f, _, _, rfl, rfl, hf6, szt (by rw [rz5.len]; omega), ?_⟩
      show E.nx _ _
      rw [eE]
      have tp7 : Tp (upd H5 c (.lst yv5)) (upd (upd H5 c (.lst yv5)) f (.lst (zv5 ++ [v]))) := tp_lst hf6
      have tpp := tp6.trans tp7
      refine ⟨X, Y2, Z ++ [x], rfl, k6.chain (m := [f]) (fun b hb => .inl (by rw [List.mem_singleton.mp hb]; exact nfH)) ((KeepL.refl _ _).upd _ (by simp)), ?_, ⟨_, up_far nfl.symm hl6, rx5.mono fun _ _ z => z.tp tpp⟩, ⟨_, up_far nfc.symm hc6, rr.mono fun _ _ z => z.tp tpp⟩, ⟨_, upd_same, (rz5.mono fun _ _ z => z.tp tpp).snoc (rv.tp tpp)⟩, ?_, ?_, hX40, ?_, fun R hR => ?_⟩
      · obtain ⟨x, cc, mm, hp, r1, r2, r3⟩ := pb6
        refine ⟨x, cc, mm, up_far nfp.symm hp, r1, r2, ?_⟩
        rw [List.length_append, List.length_singleton]
        omega
      · rw [List.length_cons] at hm
        omega
      · rw [List.length_append, List.length_singleton]
        rw [List.length_cons] at h40
        omega
      · rw [List.length_cons] at hY40
        omega
      · rw [List.append_assoc]
        exact hw _ (.right x hR)
  refine ⟨_, rfl, _, rfl, k_cat hxv hyv (by rw [rxv.len, ryv.len]; omega) fun d H5 s5 nd h5 => ?_⟩
  have h5 : Ls Pq H5 d (X ++ Y) := ⟨_, h5, (rxv.mono fun _ _ z => z.tp (tp_of s5)).append (ryv.mono fun _ _ z => z.tp (tp_of s5))⟩
  refine k_neN dtQ h5 fun z nz => ⟨_, rfl, ?_⟩
  obtain ⟨s6, h6⟩ := newF (o := .lst []) nz
  generalize upd H5 z (.lst []) = H6 at s6 h6 ⊢
  have s46 := s5.trans s6
  by_cases hXY : X ++ Y = []
  · rw [decide_eq_true hXY]
    refine iteF ⟨_, rfl, ?_⟩
    obtain ⟨rfl, rfl⟩ := List.append_eq_nil_iff.mp hXY
    have := hw [] .nil
    rw [List.append_nil] at this
    refine q H6 f Z (k4.trans (KeepL.of s46)) ((pb4.same s46).mono (by omega)) nfH (Ls.same (R := Pq) (fun t k => Pq.tp t k) s46 hZ) this
  · rw [decide_eq_false hXY]
    have hpos := List.length_pos_iff.mpr hXY
    rw [List.length_append] at hpos
    refine iteT ⟨_, fun σ' H' h => ⟨m - 1, by omega, h⟩, ?_⟩
    have k6 := k4.trans (KeepL.of s46)
    have hX6 := Ls.same (R := Pq) (fun t k => Pq.tp t k) s46 hX
    have hY6 := Ls.same (R := Pq) (fun t k => Pq.tp t k) s46 hY
    have hZ6 := Ls.same (R := Pq) (fun t k => Pq.tp t k) s46 hZ
    refine ⟨_, rfl, k_eqN dtQ hY6 fun z7 nz7 => ⟨_, rfl, ?_⟩⟩
    obtain ⟨s7, h7⟩ := newF (o := .lst []) nz7
    generalize upd H6 z7 (.lst []) = H7 at s7 h7 ⊢
    have s47 := s46.trans s7
    by_cases hYn : Y = []
    · rw [decide_eq_true hYn]
      refine iteT (iteT ?_)
      exact takeX _ H7 _ rfl (k6.trans (KeepL.of s7)) (pb4.same s47) (by omega) (Ls.same (R := Pq) (fun t k => Pq.tp t k) s7 hX6) (Ls.same (R := Pq) (fun t k => Pq.tp t k) s7 hY6) (Ls.same (R := Pq) (fun t k => Pq.tp t k) s7 hZ6) (fun e => hXY (by rw [e, hYn]; rfl))
    · rw [decide_eq_false hYn]
      refine iteF ?_
      have hX7 := Ls.same (R := Pq) (fun t k => Pq.tp t k) s7 hX6
      have hY7 := Ls.same (R := Pq) (fun t k => Pq.tp t k) s7 hY6
      have hZ7 := Ls.same (R := Pq) (fun t k => Pq.tp t k) s7 hZ6
      have k7 := k6.trans (KeepL.of s7)
      refine ⟨_, rfl, k_neN dtQ hX7 fun z8 nz8 => ⟨_, rfl, ?_⟩⟩
      obtain ⟨s8, h8⟩ := newF (o := .lst []) nz8
      generalize upd H7 z8 (.lst []) = H8 at s8 h8 ⊢
      have k8 := k7.trans (KeepL.of s8)
      have hX8 := Ls.same (R := Pq) (fun t k => Pq.tp t k) s8 hX7
      have hY8 := Ls.same (R := Pq) (fun t k => Pq.tp t k) s8 hY7
      have hZ8 := Ls.same (R := Pq) (fun t k => Pq.tp t k) s8 hZ7
      have pb8 := pb4.same (s47.trans s8)
      by_cases hXn : X = []
      · rw [decide_eq_true hXn]
        refine iteF (iteF ?_)
        exact takeY _ H8 _ rfl k8 pb8 (by omega) hX8 hY8 hZ8 hYn
      · rw [decide_eq_false hXn]
        refine iteT ?_
        refine ⟨_, rfl, p, 2, _, rfl, by decide, pb8, by omega, fun H9 r k9 pb9 r0 r1 => ?_⟩
        have tp9 : Tp H8 H9 := fun b xs hb => k9 _ _ (fun hm => by
          obtain ⟨_, _, _, hp, _⟩ := pb8
          have hp : H8 p = some (.lst _) := hp
          rw [List.mem_singleton.mp hm, hp] at hb
          cases hb) hb
        have lk : ∀ {e : Addr} {U : List (Spn × Int)}, e ≠ p → Ls Pq H8 e U → Ls Pq H9 e U := fun {e U} ne ⟨ws, h, r⟩ => ⟨ws, k9 _ _ (by simp [ne]) h, r.mono fun _ _ z => z.tp tp9⟩
        refine ⟨rfl, _, rfl, ?_⟩
        refine ifB (fun hb => ?_) (fun hb => ?_)
        · exact takeX _ H9 _ rfl (k8.trans k9) pb9 (by omega) (lk nlp hX8) (lk ncp hY8) (lk nfp hZ8) hXn
        · exact takeY _ H9 _ rfl (k8.trans k9) pb9 (by omega) (lk nlp hX8) (lk ncp hY8) (lk nfp hZ8) hYn
end

theorem wv_nil {α : Type} {X W : List α} (h : Wv X [] W) : W = X := by
  generalize e : ([] : List α) = Y at h
  induction h with
  | nil => rfl
  | left a h ih => rw [ih e]
  | right b h ih => cases e
theorem pb_tp {p : Addr} {n : Int} {H H' : Hp} (pb : PurseB H p n) (k : KeepL [p] H H') : Tp H H' := fun b xs hb => k _ _ (fun hm => by
  obtain ⟨_, _, _, hp, _⟩ := pb
  have hp : H p = some (.lst _) := hp
  rw [List.mem_singleton.mp hm, hp] at hb
  cases hb) hb
theorem kp_ls {α : Type} {R : Hp → V → α → Prop} (m : ∀ {H H' : Hp} {v : V} {x : α}, Tp H H' → R H v x → R H' v x) {p o : Addr} {n : Int} {H H' : Hp} {xs : List α} (k : KeepL [p] H H') (pb : PurseB H p n) (ne : o ≠ p) (h : Ls R H o xs) : Ls R H' o xs :=
  let ⟨vs, e, r⟩ := h; ⟨vs, k _ _ (by simp [ne]) e, r.mono fun _ _ z => m (pb_tp pb k) z⟩
theorem pb_ne {p o : Addr} {n : Int} {H : Hp} (pb : PurseB H p n) (h : H o = none) : o ≠ p := by
  obtain ⟨_, _, _, hp, _⟩ := pb
  exact (ne_of_none hp h).symm
/-- [f x y for x, y in zip(xs, ys)] of ints -/
theorem lc_zipI {K : PySem.W.Frag} {a b : Addr} {xs ys : List Int} {g : TG} {te : TE} {vs : List Nat} {σ : L2.St} {H1 : Hp} {D : Addr} {Qd : Hp → Prop} (f : Int → Int → Int) (ha : LsI H1 a xs) (hb : LsI H1 b ys) (hl : xs.length = ys.length) (hn : xs.length ≤ 1000) (hD : H1 D = none)
    (turn : ∀ x y T H0, Same H1 H0 → H0 T = some (.tup [.int x, .int y]) → ∀ (Kt : V → Hp → Prop), (∀ H2, Same H0 H2 → Kt (.int (f x y)) H2) → g (.ref T) (wipe σ vs) H0 fun σ2 H2 => wipe σ2 vs = wipe σ vs ∧ te σ2 H2 Kt)
    (hd : ∀ H', Same H1 H' → LsI H' D (List.zipWith f xs ys) → Qd H') :
    ∃ W : Nat → Nat → Hp → Prop, (∃ m, W 0 m (upd H1 D (.lst []))) ∧ ∀ i m H, W i m H →
      ((Itz K a b).stop i H ∧ Qd H) ∨ ((Itz K a b).go i H ∧ ∃ Nx : Hp → Prop, (∀ H', Nx H' → ∃ m', m' < m ∧ W (i + 1) m' H') ∧ ∀ x H', (Itz K a b).yld i H x H' → g x (wipe σ vs) H' fun σ2 H2 => wipe σ2 vs = wipe σ vs ∧ tYes σ2 H2 fun b H3 =>
        if b = true then te σ2 H3 fun y H4 => ∃ acc, H4 D = some (.lst acc) ∧ acc.length < sizeLine ∧ Nx (upd H4 D (.lst (acc ++ [y]))) else Nx H3) := by
  refine lc_map (walk_zip (n := xs.length) (xs := xs.map V.int) (ys := ys.map V.int) (by rw [List.length_map, List.length_map]; omega)) In (fun _ h => h) (fun i => (List.zipWith f xs ys)[i]?) hn hD (fun H' s => ⟨SqL.of (s _ _ ha), SqL.of (s _ _ hb)⟩) (fun i v H0 H' hi s0 hy Kt Kf ht hf => ?_) (fun H' s h => ?_)
  · obtain ⟨T, x1, x2, rfl, nT, eH, hx, hy⟩ := hy
    obtain ⟨x, ex, r1⟩ := (int_rows (H := fun _ => none) xs).get hx
    obtain ⟨y, ey, r2⟩ := (int_rows (H := fun _ => none) ys).get hy
    have r1 : x1 = .int x := r1
    have r2 : x2 = .int y := r2
    subst r1 r2
    have s1 : Same H0 H' := by
      rw [eH]
      exact sm_new nT
    refine turn x y T H' (s0.trans s1) (by rw [eH, upd_same]) Kt fun H2 s2 => ht _ (f x y) H2 (s1.trans s2) ?_ rfl
    rw [List.getElem?_zipWith, ex, ey]
  · have e : (List.range xs.length).filterMap (fun i => (List.zipWith f xs ys)[i]?) = List.zipWith f xs ys := by
      have := range_fm (List.zipWith f xs ys) some (fun i => (List.zipWith f xs ys)[i]?) fun i x hx => hx
      rw [List.length_zipWith, show min xs.length ys.length = xs.length by omega] at this
      rw [this]
      exact List.filterMap_some
    rw [e] at h
    exact hd H' s (ls_int h)
/-- [(span, draw(purse, most)) for span in xs] -/
theorem lc_draw {K : PySem.W.Frag} {p a : Addr} {us : List V} {A : List Spn} {g : TG} {te : TE} {vs : List Nat} {σ : L2.St} {H1 : Hp} {D : Addr} {Qd : Hp → Prop} {n most : Int} (hu : H1 a = some (.lst us)) (ru : Rows (Pr H1) us A) (hn : A.length ≤ 20) (hap : a ≠ p) (hD : H1 D = none) (pb : PurseB H1 p n)
    (turn : ∀ v s H0 m, PurseB H0 p m → m ≤ n + 60 → Pr H0 v s → ∀ (Kt : V → Hp → Prop), (∀ H2 w T, KeepL [p] H0 H2 → PurseB H2 p (m + 3) → 0 ≤ w → w < most → H2 T = some (.tup [v, .int w]) → Kt (.ref T) H2) → g v (wipe σ vs) H0 fun σ2 H2 => wipe σ2 vs = wipe σ vs ∧ te σ2 H2 Kt)
    (hd : ∀ H' ws, KeepL [p] H1 H' → PurseB H' p (n + 60) → Ls Pq H' D (A.zip ws) → ws.length = A.length → (∀ w ∈ ws, 0 ≤ w ∧ w < most) → Qd H') :
    ∃ W : Nat → Nat → Hp → Prop, (∃ m, W 0 m (upd H1 D (.lst []))) ∧ ∀ i m H, W i m H →
      ((Itl K a).stop i H ∧ Qd H) ∨ ((Itl K a).go i H ∧ ∃ Nx : Hp → Prop, (∀ H', Nx H' → ∃ m', m' < m ∧ W (i + 1) m' H') ∧ ∀ x H', (Itl K a).yld i H x H' → g x (wipe σ vs) H' fun σ2 H2 => wipe σ2 vs = wipe σ vs ∧ tYes σ2 H2 fun b H3 =>
        if b = true then te σ2 H3 fun y H4 => ∃ acc, H4 D = some (.lst acc) ∧ acc.length < sizeLine ∧ Nx (upd H4 D (.lst (acc ++ [y]))) else Nx H3) := by
  have nDp : D ≠ p := pb_ne pb hD
  have lu := ru.len
  refine lc_it (walk_list (xs := us)) (fun i H' => ∃ ws, KeepL [p] H1 H' ∧ PurseB H' p (n + 3 * (i : Int)) ∧ Ls Pq H' D ((A.take i).zip ws) ∧ ws.length = i ∧ ∀ w ∈ ws, 0 ≤ w ∧ w < most) ⟨[], KeepL.of (sm_new hD), by have := pb.same (sm_new (o := .lst []) hD); simpa using this, ⟨[], upd_same, by rw [List.zip_nil_right]; exact Rows.nil⟩, rfl, fun w h => (List.not_mem_nil h).elim⟩ (fun i H' _ ⟨ws, k, _⟩ => SqL.of (k _ _ (by simp [hap]) hu)) (fun i v H0 _ hi ⟨ws, k, pb0, hW, lw, hws⟩ hy => ?_) (fun H' ⟨ws, k, pb', hW, lw, hws⟩ => ?_)
  · obtain ⟨rfl, hv⟩ := hy
    obtain ⟨s, es, rs⟩ := ru.get hv
    refine turn v s _ (n + 3 * (i : Int)) pb0 (by omega) (rs.tp (pb_tp pb k)) _ fun H2 w T k2 pb2 w0 w1 hT => ?_
    obtain ⟨av, hav, rav⟩ := kp_ls (R := Pq) (fun t z => Pq.tp t z) k2 pb0 nDp hW
    have lz : ((A.take i).zip ws).length = i := by rw [List.length_zip, List.length_take, lw]; omega
    refine ⟨av, hav, szt (by rw [rav.len, lz]; omega), ws ++ [w], ?_, ?_, ?_, by rw [List.length_append, lw, List.length_singleton], fun x hx => ?_⟩
    · exact (k.trans k2).chain (m := [D]) (fun b hb => .inl (by rw [List.mem_singleton.mp hb]; exact hD)) ((KeepL.refl _ _).upd _ (by simp))
    · obtain ⟨x, cc, mm, hp, r1, r2, r3⟩ := pb2
      exact ⟨x, cc, mm, up_far nDp.symm hp, r1, r2, by omega⟩
    · have tp3 : Tp H2 (upd H2 D (.lst (av ++ [.ref T]))) := tp_lst hav
      refine ⟨_, upd_same, ?_⟩
      rw [List.take_add_one, es, List.zip_append (by rw [List.length_take, lw]; omega)]
      obtain ⟨pp, rfl, hpp⟩ := (rs.tp (pb_tp pb k)).tp (pb_tp pb0 k2)
      exact (rav.mono fun _ _ z => Pq.tp tp3 z).snoc ⟨T, pp, rfl, tp3 _ _ hT, tp3 _ _ hpp⟩
    · rcases List.mem_append.mp hx with h | h
      · exact hws x h
      · rw [List.mem_singleton.mp h]
        exact ⟨w0, w1⟩
  · rw [lu, List.take_of_length_le (Nat.le_refl _)] at hW
    exact hd H' ws k (pb'.mono (by omega)) hW (by omega) hws

def sp_law (K : PySem.W.Frag) : Sp := fun vs H Q _ => ∃ (a : Addr) (xs : List Int), vs = [.ref a] ∧ SqL K H a (xs.map V.int) ∧ ∀ H', Q (.bl true) H'
section
variable {P : Program} {w : World} {K : PySem.W.Frag} {mg : Str → Option Value} {base : Heap}
theorem ok_law (T : Txt K mg) : FnOk P w K mg base CX0 24 T.law.f T.law.fd ["_law_script"] (sp_law K) := by
  refine T.law.F.ok sc_law (fun vs H Q E h => ?_) (fun cdv A outer s H vs Q E hr h => ?_)
  · first | (obtain ⟨_, rfl, _⟩ := h; rfl) | (obtain ⟨_, _, rfl, _⟩ := h; rfl) | (obtain ⟨_, _, _, rfl, _⟩ := h; rfl) | (obtain ⟨_, _, _, _, rfl, _⟩ := h; rfl) | (obtain ⟨_, _, _, _, _, rfl, _⟩ := h; rfl) | (obtain ⟨_, _, _, _, _, _, rfl, _⟩ := h; rfl) | (obtain ⟨_, _, _, _, _, _, _, rfl, _⟩ := h; rfl) | (obtain ⟨_, _, _, _, _, _, _, _, rfl, _⟩ := h; rfl) | (obtain ⟨_, _, _, _, _, _, _, _, _, rfl, _⟩ := h; rfl) | (obtain ⟨_, _, _, _, _, _, _, _, _, _, rfl, _⟩ := h; rfl) | (obtain ⟨_, _, _, _, _, _, _, _, _, _, _, rfl, _⟩ := h; rfl)
  refine ⟨_, (pss_cons (ps_for PassesOwn.never rfl (pi_range1 (by rfl) T.b_range (pa_cons pe_int pa_nil)) (pg_name (i := 1) sc_law.nd rfl (.inl rfl))
  (pss_cons (ps_set (i := 2) sc_law.nd rfl (.inr rfl) (pe_call (ok_law_purse T) (hr.mono (by decide)) (by rfl) T.law_purse.g T.law_purse.F.kp T.law_purse.b .nil pass0 (pa_cons (pv 0) (pa_cons (pv 1) pa_nil))))
  (pss_cons (ps_set (i := 3) sc_law.nd rfl (.inl rfl) (pe_call (ok_law_spans T) (hr.mono (by decide)) (by rfl) T.law_spans.g T.law_spans.F.kp T.law_spans.b .nil pass0 (pa_cons (pv 2) (pa_cons (pe_call (ok_law_draw T) (hr.mono (by decide)) (by rfl) T.law_draw.g T.law_draw.F.kp T.law_draw.b .nil pass0 (pa_cons (pv 2) (pa_cons pe_int pa_nil))) (pa_cons (pe_op op_pow pe_int pe_int) pa_nil)))))
  (pss_cons (ps_set (i := 4) sc_law.nd rfl (.inl rfl) (pe_call (ok_law_spans T) (hr.mono (by decide)) (by rfl) T.law_spans.g T.law_spans.F.kp T.law_spans.b .nil pass0 (pa_cons (pv 2) (pa_cons (pe_call (ok_law_draw T) (hr.mono (by decide)) (by rfl) T.law_draw.g T.law_draw.F.kp T.law_draw.b .nil pass0 (pa_cons (pv 2) (pa_cons pe_int pa_nil))) (pa_cons (pe_op op_pow pe_int pe_int) pa_nil)))))
  (pss_cons (ps_set (i := 5) sc_law.nd rfl (.inr rfl) (pe_ix (ix_listK (K := K) rfl) (pe_lst (pa_cons pe_int (pa_cons pe_int (pa_cons (pe_op op_add (pe_op op_pow pe_int pe_int) pe_int) pa_nil)))) (pe_call (ok_law_draw T) (hr.mono (by decide)) (by rfl) T.law_draw.g T.law_draw.F.kp T.law_draw.b .nil pass0 (pa_cons (pv 2) (pa_cons pe_int pa_nil))) (fun _ _ => rfl)))
  (pss_cons (ps_set (i := 6) sc_law.nd rfl (.inl rfl) (pe_callB (cr_max rfl) (by rfl) T.b_max (by decide +kernel) (pa_cons (pe_op op_catJ (pe_lc (own := [("_law_span_here", 16)]) (tt := tYes) rfl sc_law.nd (pi_list (pv 3)) (blkOk_by (N := ["_law_script", "_law_turn", "_law_purse_here", "_law_one", "_law_other", "_law_most", "_law_end_here", "_law_by", "_law_pairs", "_law_behind", "_law_woven_here", "_law_k", "_law_whole", "_law_sums", "_law_first", "_law_second", "_law_span_here", "_law_weight", "_law_x", "_law_y"]) (sc := defScope s_law) (by decide +kernel)) (fun _ _ _ _ _ => (pg_name (i := 16) sc_law.nd rfl (.inl rfl))) (fun _ _ _ _ _ => pts_nil) (fun _ _ _ _ _ => (pe_ix (ix_tupK (K := K) rfl) (pv 16) pe_int (fun _ _ => rfl)))) (pe_lst (pa_cons (pe_op op_sub pe_int (pe_op op_pow pe_int pe_int)) pa_nil))) pa_nil)))
  (pss_cons (ps_set (i := 7) sc_law.nd rfl (.inr rfl) (pe_op op_add (pe_op op_sub (pv 6) (pe_callB (cr_min rfl) (by rfl) T.b_min (by decide +kernel) (pa_cons (pe_op op_catJ (pe_lc (own := [("_law_span_here", 16)]) (tt := tYes) rfl sc_law.nd (pi_list (pv 4)) (blkOk_by (N := ["_law_script", "_law_turn", "_law_purse_here", "_law_one", "_law_other", "_law_most", "_law_end_here", "_law_by", "_law_pairs", "_law_behind", "_law_woven_here", "_law_k", "_law_whole", "_law_sums", "_law_first", "_law_second", "_law_span_here", "_law_weight", "_law_x", "_law_y"]) (sc := defScope s_law) (by decide +kernel)) (fun _ _ _ _ _ => (pg_name (i := 16) sc_law.nd rfl (.inl rfl))) (fun _ _ _ _ _ => pts_nil) (fun _ _ _ _ _ => (pe_ix (ix_tupK (K := K) rfl) (pv 16) pe_int (fun _ _ => rfl)))) (pe_lst (pa_cons (pv 6) pa_nil))) pa_nil))) (pe_ix (ix_listK (K := K) rfl) (pe_lst (pa_cons pe_int (pa_cons pe_int (pa_cons (pe_call (ok_law_draw T) (hr.mono (by decide)) (by rfl) T.law_draw.g T.law_draw.F.kp T.law_draw.b .nil pass0 (pa_cons (pv 2) (pa_cons (pe_op op_pow pe_int pe_int) pa_nil))) pa_nil)))) (pe_call (ok_law_draw T) (hr.mono (by decide)) (by rfl) T.law_draw.g T.law_draw.F.kp T.law_draw.b .nil pass0 (pa_cons (pv 2) (pa_cons pe_int pa_nil))) (fun _ _ => rfl))))
  (pss_cons (ps_setLc (i := 4) (own := [("_law_span_here", 16)]) (tt := tYes) rfl sc_law.nd rfl rfl (sw_true rfl rfl rfl (by decide +kernel)) (pi_list (pv 4)) (blkOk_by (N := ["_law_script", "_law_turn", "_law_purse_here", "_law_one", "_law_other", "_law_most", "_law_end_here", "_law_by", "_law_pairs", "_law_behind", "_law_woven_here", "_law_k", "_law_whole", "_law_sums", "_law_first", "_law_second", "_law_span_here", "_law_weight", "_law_x", "_law_y"]) (sc := defScope s_law) (by decide +kernel)) (fun _ _ _ _ _ => (pg_name (i := 16) sc_law.nd rfl (.inl rfl))) (fun _ _ _ _ _ => pts_nil) (fun _ _ _ _ _ => (pe_tup (pa_cons (pe_op op_add (pe_ix (ix_tupK (K := K) rfl) (pv 16) pe_int (fun _ _ => rfl)) (pv 7)) (pa_cons (pe_op op_add (pe_ix (ix_tupK (K := K) rfl) (pv 16) pe_int (fun _ _ => rfl)) (pv 7)) pa_nil)))))
  (pss_cons (ps_set (i := 8) sc_law.nd rfl (.inl rfl) (pe_call (ok_law_woven T) (hr.mono (by decide)) (by rfl) T.law_woven.g T.law_woven.F.kp T.law_woven.b .nil pass0 (pa_cons (pv 2) (pa_cons (pe_lc (own := [("_law_span_here", 16)]) (tt := tYes) rfl sc_law.nd (pi_list (pv 3)) (blkOk_by (N := ["_law_script", "_law_turn", "_law_purse_here", "_law_one", "_law_other", "_law_most", "_law_end_here", "_law_by", "_law_pairs", "_law_behind", "_law_woven_here", "_law_k", "_law_whole", "_law_sums", "_law_first", "_law_second", "_law_span_here", "_law_weight", "_law_x", "_law_y"]) (sc := defScope s_law) (by decide +kernel)) (fun _ _ _ _ _ => (pg_name (i := 16) sc_law.nd rfl (.inl rfl))) (fun _ _ _ _ _ => pts_nil) (fun _ _ _ _ _ => (pe_tup (pa_cons (pv 16) (pa_cons (pe_call (ok_law_draw T) (hr.mono (by decide)) (by rfl) T.law_draw.g T.law_draw.F.kp T.law_draw.b .nil pass0 (pa_cons (pv 2) (pa_cons (pv 5) pa_nil))) pa_nil))))) (pa_cons (pe_lst pa_nil) pa_nil)))))
  (pss_cons (ps_setLc (i := 9) (own := [("_law_span_here", 16)]) (tt := tYes) rfl sc_law.nd rfl rfl (sw_true rfl rfl rfl (by decide +kernel)) (pi_list (pv 4)) (blkOk_by (N := ["_law_script", "_law_turn", "_law_purse_here", "_law_one", "_law_other", "_law_most", "_law_end_here", "_law_by", "_law_pairs", "_law_behind", "_law_woven_here", "_law_k", "_law_whole", "_law_sums", "_law_first", "_law_second", "_law_span_here", "_law_weight", "_law_x", "_law_y"]) (sc := defScope s_law) (by decide +kernel)) (fun _ _ _ _ _ => (pg_name (i := 16) sc_law.nd rfl (.inl rfl))) (fun _ _ _ _ _ => pts_nil) (fun _ _ _ _ _ => (pe_tup (pa_cons (pv 16) (pa_cons (pe_call (ok_law_draw T) (hr.mono (by decide)) (by rfl) T.law_draw.g T.law_draw.F.kp T.law_draw.b .nil pass0 (pa_cons (pv 2) (pa_cons (pv 5) pa_nil))) pa_nil)))))
  (pss_cons (ps_set (i := 10) sc_law.nd rfl (.inl rfl) (pe_call (ok_law_woven T) (hr.mono (by decide)) (by rfl) T.law_woven.g T.law_woven.F.kp T.law_woven.b .nil pass0 (pa_cons (pv 2) (pa_cons (pv 8) (pa_cons (pv 9) pa_nil)))))
  (pss_cons (ps_set (i := 11) sc_law.nd rfl (.inl rfl) (pe_op op_add pe_int (pe_call (ok_law_draw T) (hr.mono (by decide)) (by rfl) T.law_draw.g T.law_draw.F.kp T.law_draw.b .nil pass0 (pa_cons (pv 2) (pa_cons (pe_ix (ix_listK (K := K) rfl) (pe_lst (pa_cons pe_int (pa_cons pe_int pa_nil))) (pe_call (ok_law_draw T) (hr.mono (by decide)) (by rfl) T.law_draw.g T.law_draw.F.kp T.law_draw.b .nil pass0 (pa_cons (pv 2) (pa_cons pe_int pa_nil))) (fun _ _ => rfl)) pa_nil)))))
  (pss_cons (ps_setLc (i := 12) (own := [("_law_span_here", 16), ("_law_weight", 17)]) (tt := tYes) rfl sc_law.nd rfl rfl (sw_true rfl rfl rfl (by decide +kernel)) (pi_list (pv 10)) (blkOk_by (N := ["_law_script", "_law_turn", "_law_purse_here", "_law_one", "_law_other", "_law_most", "_law_end_here", "_law_by", "_law_pairs", "_law_behind", "_law_woven_here", "_law_k", "_law_whole", "_law_sums", "_law_first", "_law_second", "_law_span_here", "_law_weight", "_law_x", "_law_y"]) (sc := defScope s_law) (by decide +kernel)) (fun _ _ _ _ _ => (pg_tupK (K := K) (n := 2) rfl rfl (pgs_cons (pg_name (i := 16) sc_law.nd rfl (.inl rfl)) (pgs_cons (pg_name (i := 17) sc_law.nd rfl (.inl rfl)) pgs_nil)))) (fun _ _ _ _ _ => pts_nil) (fun _ _ _ _ _ => (pv 16)))
  (pss_cons (ps_setLc (i := 13) (own := [("_law_x", 18), ("_law_y", 19)]) (tt := tYes) rfl sc_law.nd rfl rfl (sw_true rfl rfl rfl (by decide +kernel)) (pi_zip (by rfl) T.b_zip (pa_cons (pe_call (ok_law_added T) (hr.mono (by decide)) (by rfl) T.law_added.g T.law_added.F.kp T.law_added.b .nil pass0 (pa_cons (pv 3) pa_nil)) (pa_cons (pe_call (ok_law_added T) (hr.mono (by decide)) (by rfl) T.law_added.g T.law_added.F.kp T.law_added.b .nil pass0 (pa_cons (pv 4) pa_nil)) pa_nil))) (blkOk_by (N := ["_law_script", "_law_turn", "_law_purse_here", "_law_one", "_law_other", "_law_most", "_law_end_here", "_law_by", "_law_pairs", "_law_behind", "_law_woven_here", "_law_k", "_law_whole", "_law_sums", "_law_first", "_law_second", "_law_span_here", "_law_weight", "_law_x", "_law_y"]) (sc := defScope s_law) (by decide +kernel)) (fun _ _ _ _ _ => (pg_tupK (K := K) (n := 2) rfl rfl (pgs_cons (pg_name (i := 18) sc_law.nd rfl (.inl rfl)) (pgs_cons (pg_name (i := 19) sc_law.nd rfl (.inl rfl)) pgs_nil)))) (fun _ _ _ _ _ => pts_nil) (fun _ _ _ _ _ => (pe_op op_add (pv 18) (pv 19))))
  (pss_cons (ps_if (pt_cmpR (op_neDK (K := K) rfl hr.units) (pe_call (ok_law_added T) (hr.mono (by decide)) (by rfl) T.law_added.g T.law_added.F.kp T.law_added.b .nil pass0 (pa_cons (pv 12) pa_nil)) (pv 13) (nomark _))
  (pss_one (ps_ret pe_bl))
  pss_nil)
  (pss_cons (ps_if (pt_cmpR (op_neDK (K := K) rfl hr.units) (pe_call (ok_law_greatest T) (hr.mono (by decide)) (by rfl) T.law_greatest.g T.law_greatest.F.kp T.law_greatest.b .nil pass0 (pa_cons (pv 12) pa_nil)) (pe_lc (own := [("_law_x", 18), ("_law_y", 19)]) (tt := tYes) rfl sc_law.nd (pi_zip (by rfl) T.b_zip (pa_cons (pe_call (ok_law_greatest T) (hr.mono (by decide)) (by rfl) T.law_greatest.g T.law_greatest.F.kp T.law_greatest.b .nil pass0 (pa_cons (pv 3) pa_nil)) (pa_cons (pe_call (ok_law_greatest T) (hr.mono (by decide)) (by rfl) T.law_greatest.g T.law_greatest.F.kp T.law_greatest.b .nil pass0 (pa_cons (pv 4) pa_nil)) pa_nil))) (blkOk_by (N := ["_law_script", "_law_turn", "_law_purse_here", "_law_one", "_law_other", "_law_most", "_law_end_here", "_law_by", "_law_pairs", "_law_behind", "_law_woven_here", "_law_k", "_law_whole", "_law_sums", "_law_first", "_law_second", "_law_span_here", "_law_weight", "_law_x", "_law_y"]) (sc := defScope s_law) (by decide +kernel)) (fun _ _ _ _ _ => (pg_tupK (K := K) (n := 2) rfl rfl (pgs_cons (pg_name (i := 18) sc_law.nd rfl (.inl rfl)) (pgs_cons (pg_name (i := 19) sc_law.nd rfl (.inl rfl)) pgs_nil)))) (fun _ _ _ _ _ => pts_nil) (fun _ _ _ _ _ => (pe_callB (call_max2 rfl) (by rfl) T.b_max (by decide +kernel) (pa_cons (pv 18) (pa_cons (pv 19) pa_nil))))) (nomark _))
  (pss_one (ps_ret pe_bl))
  pss_nil)
  (pss_cons (ps_if (pt_cmpR (op_neDK (K := K) rfl hr.units) (pe_call (ok_cover_of T) (hr.mono (by decide)) (by rfl) T.cover_of.g T.cover_of.F.kp T.cover_of.b .nil pass0 (pa_cons (pv 12) pa_nil)) (pe_call (ok_either T) (hr.mono (by decide)) (by rfl) T.either.g T.either.F.kp T.either.b .nil pass0 (pa_cons (pe_call (ok_cover_of T) (hr.mono (by decide)) (by rfl) T.cover_of.g T.cover_of.F.kp T.cover_of.b .nil pass0 (pa_cons (pv 3) pa_nil)) (pa_cons (pe_call (ok_cover_of T) (hr.mono (by decide)) (by rfl) T.cover_of.g T.cover_of.F.kp T.cover_of.b .nil pass0 (pa_cons (pv 4) pa_nil)) pa_nil))) (nomark _))
  (pss_one (ps_ret pe_bl))
  pss_nil)
  (pss_cons (ps_set (i := 14) sc_law.nd rfl (.inl rfl) (pe_call (ok_law_weights T) (hr.mono (by decide)) (by rfl) T.law_weights.g T.law_weights.F.kp T.law_weights.b .nil pass0 (pa_cons (pv 3) (pa_cons (pe_lc (own := [("_law_span_here", 16), ("_law_weight", 17)]) (tt := tYes) rfl sc_law.nd (pi_list (pv 8)) (blkOk_by (N := ["_law_script", "_law_turn", "_law_purse_here", "_law_one", "_law_other", "_law_most", "_law_end_here", "_law_by", "_law_pairs", "_law_behind", "_law_woven_here", "_law_k", "_law_whole", "_law_sums", "_law_first", "_law_second", "_law_span_here", "_law_weight", "_law_x", "_law_y"]) (sc := defScope s_law) (by decide +kernel)) (fun _ _ _ _ _ => (pg_tupK (K := K) (n := 2) rfl rfl (pgs_cons (pg_name (i := 16) sc_law.nd rfl (.inl rfl)) (pgs_cons (pg_name (i := 17) sc_law.nd rfl (.inl rfl)) pgs_nil)))) (fun _ _ _ _ _ => pts_nil) (fun _ _ _ _ _ => (pv 17))) (pa_cons (pv 11) pa_nil)))))
  (pss_cons (ps_set (i := 15) sc_law.nd rfl (.inl rfl) (pe_call (ok_law_weights T) (hr.mono (by decide)) (by rfl) T.law_weights.g T.law_weights.F.kp T.law_weights.b .nil pass0 (pa_cons (pv 4) (pa_cons (pe_lc (own := [("_law_span_here", 16), ("_law_weight", 17)]) (tt := tYes) rfl sc_law.nd (pi_list (pv 9)) (blkOk_by (N := ["_law_script", "_law_turn", "_law_purse_here", "_law_one", "_law_other", "_law_most", "_law_end_here", "_law_by", "_law_pairs", "_law_behind", "_law_woven_here", "_law_k", "_law_whole", "_law_sums", "_law_first", "_law_second", "_law_span_here", "_law_weight", "_law_x", "_law_y"]) (sc := defScope s_law) (by decide +kernel)) (fun _ _ _ _ _ => (pg_tupK (K := K) (n := 2) rfl rfl (pgs_cons (pg_name (i := 16) sc_law.nd rfl (.inl rfl)) (pgs_cons (pg_name (i := 17) sc_law.nd rfl (.inl rfl)) pgs_nil)))) (fun _ _ _ _ _ => pts_nil) (fun _ _ _ _ _ => (pv 17))) (pa_cons (pv 11) pa_nil)))))
  (pss_one (ps_if (pt_cmpR (op_neDK (K := K) rfl hr.units) (pe_call (ok_law_weights T) (hr.mono (by decide)) (by rfl) T.law_weights.g T.law_weights.F.kp T.law_weights.b .nil pass0 (pa_cons (pv 12) (pa_cons (pe_lc (own := [("_law_span_here", 16), ("_law_weight", 17)]) (tt := tYes) rfl sc_law.nd (pi_list (pv 10)) (blkOk_by (N := ["_law_script", "_law_turn", "_law_purse_here", "_law_one", "_law_other", "_law_most", "_law_end_here", "_law_by", "_law_pairs", "_law_behind", "_law_woven_here", "_law_k", "_law_whole", "_law_sums", "_law_first", "_law_second", "_law_span_here", "_law_weight", "_law_x", "_law_y"]) (sc := defScope s_law) (by decide +kernel)) (fun _ _ _ _ _ => (pg_tupK (K := K) (n := 2) rfl rfl (pgs_cons (pg_name (i := 16) sc_law.nd rfl (.inl rfl)) (pgs_cons (pg_name (i := 17) sc_law.nd rfl (.inl rfl)) pgs_nil)))) (fun _ _ _ _ _ => pts_nil) (fun _ _ _ _ _ => (pv 17))) (pa_cons (pv 11) pa_nil)))) (pe_lc (own := [("_law_x", 18), ("_law_y", 19)]) (tt := tYes) rfl sc_law.nd (pi_zip (by rfl) T.b_zip (pa_cons (pv 14) (pa_cons (pv 15) pa_nil))) (blkOk_by (N := ["_law_script", "_law_turn", "_law_purse_here", "_law_one", "_law_other", "_law_most", "_law_end_here", "_law_by", "_law_pairs", "_law_behind", "_law_woven_here", "_law_k", "_law_whole", "_law_sums", "_law_first", "_law_second", "_law_span_here", "_law_weight", "_law_x", "_law_y"]) (sc := defScope s_law) (by decide +kernel)) (fun _ _ _ _ _ => (pg_tupK (K := K) (n := 2) rfl rfl (pgs_cons (pg_name (i := 18) sc_law.nd rfl (.inl rfl)) (pgs_cons (pg_name (i := 19) sc_law.nd rfl (.inl rfl)) pgs_nil)))) (fun _ _ _ _ _ => pts_nil) (fun _ _ _ _ _ => (pe_op op_add (pv 18) (pv 19)))) (nomark _))
  (pss_one (ps_ret pe_bl))
  pss_nil)))))))))))))))))))))
  (pss_one (ps_ret pe_bl))), ?_⟩
  try dsimp only [cx_K]
  obtain ⟨a, xs, rfl, ha, q⟩ := h
  refine ⟨_, rfl, by decide, by decide, ?_⟩
  rw [show ((2 : Int)).toNat = 2 from rfl]
  refine for_it (walk_rg (n := 2)) (fun i σ H' => ∃ (y1 y2 y3 y4 y5 y6 y7 y8 y9 y10 y11 y12 y13 y14 y15 y16 y17 y18 y19 : Option V), σ = [some (.ref a), y1, y2, y3, y4, y5, y6, y7, y8, y9, y10, y11, y12, y13, y14, y15, y16, y17, y18, y19] ∧ Same H H')
    ⟨none, none, none, none, none, none, none, none, none, none, none, none, none, none, none, none, none, none, none, rfl, Same.refl _⟩ (fun _ _ _ _ _ => trivial) ?_ ?_
  · rintro i x σ _ H0 hi ⟨y1, y2, y3, y4, y5, y6, y7, y8, y9, y10, y11, y12, y13, y14, y15, y16, y17, y18, y19, rfl, s0⟩ ⟨rfl, rfl⟩
    refine ⟨_, rfl, _, rfl, a, xs, i, rfl, s0.seq ha, by omega, fun H1 p s1 np pb1 => ?_⟩
    have npH := s0.free np
    have s01 := s0.trans s1
    -- the first list
    refine ⟨_, rfl, _, rfl, p, 9, 10000, rfl, by decide, pb1, by decide, fun H2 r k2 pb2 r0 r1 => ?_⟩
    obtain ⟨mA, rfl⟩ : ∃ m : Nat, r = (m : Int) := ⟨r.toNat, by omega⟩
    refine ⟨_, _, rfl, rfl, ⟨by decide, by decide, by decide⟩, p, mA, 10003, rfl, by omega, pb2, by decide, fun H3 oA A k3 pb3 noA hA lA dA => ?_⟩
    have noAp : oA ≠ p := pb_ne pb2 noA
    have k13 := k2.trans k3
    -- the second
    refine ⟨_, rfl, _, rfl, p, 9, _, rfl, by decide, pb3, by decide, fun H4 r k4 pb4 r0 r1 => ?_⟩
    obtain ⟨mB, rfl⟩ : ∃ m : Nat, r = (m : Int) := ⟨r.toNat, by omega⟩
    refine ⟨_, _, rfl, rfl, ⟨by decide, by decide, by decide⟩, p, mB, _, rfl, by omega, pb4, by decide, fun H5 oB B k5 pb5 noB hB lB dB => ?_⟩
    have noBp : oB ≠ p := pb_ne pb4 noB
    have k35 := k4.trans k5
    have k15 := k13.trans k35
    have hA5 := kp_ls (R := Pr) (fun t z => Pr.tp t z) k35 pb3 noAp hA
    -- most
    refine ⟨_, _, rfl, rfl, ⟨by decide, by decide, by decide⟩, _, _, rfl, rfl, by show 3 ≤ sizeLine; decide, fun z nz => ?_⟩
    dsimp (config := { proj := false }) only [List.set_cons_zero, List.set_cons_succ]
    obtain ⟨s6, h6⟩ := newF (o := .lst [.int 2, .int 10, .int (10 ^ Int.toNat 9 + 1)]) nz
    generalize upd H5 z (.lst [.int 2, .int 10, .int (10 ^ Int.toNat 9 + 1)]) = H6 at s6 h6 ⊢
    have pb6 := pb5.same s6
    have nzp : z ≠ p := pb_ne pb5 nz
    refine ⟨_, rfl, p, 3, _, rfl, by decide, pb6, by decide, fun H7 r k7 pb7 r0 r1 => ?_⟩
    have h7 := k7 _ _ (by simp [nzp]) h6
    obtain ⟨most, hmo, hmo2⟩ : ∃ f : Int, atI [V.int 2, .int 10, .int (10 ^ Int.toNat 9 + 1)] r = some (.int f) ∧ (0 < f ∧ f ≤ 1000000001) := by
      obtain ⟨k, rfl⟩ : ∃ k : Nat, r = (k : Int) := ⟨r.toNat, by omega⟩
      have hk : k = 0 ∨ k = 1 ∨ k = 2 := by omega
      rcases hk with rfl | rfl | rfl
      · exact ⟨2, rfl, by decide⟩
      · exact ⟨10, rfl, by decide⟩
      · exact ⟨10 ^ Int.toNat 9 + 1, rfl, by decide⟩
    refine ⟨z, _, r, _, rfl, rfl, SqL.of h7, hmo, ?_⟩
    have k57 := (KeepL.of s6).trans k7
    have k17 := k15.trans k57
    have hA7 := kp_ls (R := Pr) (fun t z => Pr.tp t z) k57 pb5 noAp hA5
    have hB7 := kp_ls (R := Pr) (fun t z => Pr.tp t z) k57 pb5 noBp hB
    clear h7 h6 s6 nz nzp pb6 hA5 hB hA
    -- the first list's greatest end
    obtain ⟨av, hav, rav⟩ := id hA7
    refine ⟨_, rfl, oA, rfl, ⟨_, SqL.of hav⟩, fun D8 hD8 => lc_eachM Pr (fun t k => k.tp t) In (fun t k => k.tp t) (fun s => s.2) hav rav (by omega) hD8 (fun v s G _ s0 r Kt ht => ?_) (fun H8 s8 h8 => ?_)⟩
    · obtain ⟨t, rfl, htt⟩ := r
      exact ⟨rfl, _, rfl, t, _, 1, _, rfl, rfl, SqT.of htt, rfl, ht _ _ (Same.refl _) rfl⟩
    have h8 := ls_int h8
    refine ⟨_, _, rfl, rfl, ⟨by decide, by decide, by decide⟩, _, _, rfl, rfl, by show 1 ≤ sizeLine; decide, fun z nz => ?_⟩
    dsimp (config := { proj := false }) only [List.set_cons_zero, List.set_cons_succ]
    obtain ⟨s9, h9⟩ := newF (o := .lst [.int (0 - 10 ^ Int.toNat 10)]) nz
    generalize upd H8 z (.lst [.int (0 - 10 ^ Int.toNat 10)]) = H9 at s9 h9 ⊢
    refine k_cat (s9 _ _ h8) h9 (by rw [List.length_map, List.length_map, List.length_singleton]; omega) fun d H10 s10 nd h10 => ?_
    have h10 : LsI H10 d (A.map (·.2) ++ [-10000000000]) := by
      show _ = some (HO.lst _)
      rw [h10, List.map_append]
      rfl
    refine ⟨d, _, rfl, SqL.of h10, by rw [List.length_append, List.length_singleton]; omega, fun E hE1 hE2 => ?_⟩
    have s710 := (s8.trans s9).trans s10
    have hE : ∀ x ∈ A, x.2 ≤ E := fun x hx => hE2 _ (List.mem_append_left _ (List.mem_map.mpr ⟨x, hx, rfl⟩))
    have hEb : -10000000000 ≤ E ∧ E ≤ 10000000000 := by
      refine ⟨hE2 _ (by simp), ?_⟩
      rcases List.mem_append.mp hE1 with h | h
      · obtain ⟨x, hx, rfl⟩ := List.mem_map.mp h
        exact (dA x hx).2.2
      · rw [List.mem_singleton.mp h]
        decide
    clear h10 nd h9 nz h8 hD8
    have pb10 := pb7.same s710
    have k110 := k17.trans (KeepL.of s710)
    have hA10 := lsP_same s710 hA7
    have hB10 := lsP_same s710 hB7
    clear hA7 hB7 hav rav
    -- how far the second list is moved
    obtain ⟨bv, hbv, rbv⟩ := id hB10
    refine ⟨_, rfl, _, rfl, oB, rfl, ⟨_, SqL.of hbv⟩, fun D8 hD8 => lc_eachM Pr (fun t k => k.tp t) In (fun t k => k.tp t) (fun s => s.1) hbv rbv (by omega) hD8 (fun v s G _ s0 r Kt ht => ?_) (fun H11 s11 h11 => ?_)⟩
    · obtain ⟨t, rfl, htt⟩ := r
      exact ⟨rfl, _, rfl, t, _, 0, _, rfl, rfl, SqT.of htt, rfl, ht _ _ (Same.refl _) rfl⟩
    have h11 := ls_int h11
    refine ⟨_, rfl, by show 1 ≤ sizeLine; decide, fun z nz => ?_⟩
    obtain ⟨s12, h12⟩ := newF (o := .lst [.int E]) nz
    generalize upd H11 z (.lst [.int E]) = H12 at s12 h12 ⊢
    refine k_cat (s12 _ _ h11) h12 (by rw [List.length_map, List.length_map, List.length_singleton]; omega) fun d H13 s13 nd h13 => ?_
    have h13 : LsI H13 d (B.map (·.1) ++ [E]) := by
      show _ = some (HO.lst _)
      rw [h13, List.map_append]
      rfl
    refine ⟨d, _, rfl, SqL.of h13, by rw [List.length_append, List.length_singleton]; omega, fun mn hm1 hm2 => ?_⟩
    have s1013 := (s11.trans s12).trans s13
    have hmE : mn ≤ E := hm2 _ (by simp)
    have hmB : ∀ x ∈ B, mn ≤ x.1 := fun x hx => hm2 _ (List.mem_append_left _ (List.mem_map.mpr ⟨x, hx, rfl⟩))
    have hmb : -10000000000 ≤ mn := by
      rcases List.mem_append.mp hm1 with h | h
      · obtain ⟨x, hx, rfl⟩ := List.mem_map.mp h
        exact (dB x hx).1
      · rw [List.mem_singleton.mp h]
        exact hEb.1
    have pb13 := pb10.same s1013
    refine ⟨_, _, rfl, rfl, ?_⟩
    refine ⟨_, rfl, _, _, rfl, rfl, ⟨by decide, by decide, by decide⟩, p, _, _, rfl, by decide, pb13, by decide, fun H14 r14 k14 pb14 r0 r1 => ?_⟩
    refine ⟨by show 3 ≤ sizeLine; decide, fun z nz => ?_⟩
    dsimp (config := { proj := false }) only [List.set_cons_zero, List.set_cons_succ]
    obtain ⟨s15, h15⟩ := newF (o := .lst [.int 0, .int 1, .int r14]) nz
    generalize upd H14 z (.lst [.int 0, .int 1, .int r14]) = H15 at s15 h15 ⊢
    have pb15 := pb14.same s15
    have nzp := pb_ne pb14 nz
    refine ⟨_, rfl, p, 3, _, rfl, by decide, pb15, by decide, fun H16 r k16 pb16 q0 q1 => ?_⟩
    have h16 := k16 _ _ (by simp [nzp]) h15
    have e10 : (10 : Int) ^ Int.toNat 10 = 10000000000 := by decide
    have r14b : r14 ≤ 10000000000 := by
      have : r14 < (10 : Int) ^ Int.toNat 10 := r1
      omega
    obtain ⟨dd, hdd, hdd2⟩ : ∃ f : Int, atI [V.int 0, .int 1, .int r14] r = some (.int f) ∧ (0 ≤ f ∧ f ≤ 10000000000) := by
      obtain ⟨k, rfl⟩ : ∃ k : Nat, r = (k : Int) := ⟨r.toNat, by omega⟩
      have hk : k = 0 ∨ k = 1 ∨ k = 2 := by omega
      rcases hk with rfl | rfl | rfl
      · exact ⟨0, rfl, by decide⟩
      · exact ⟨1, rfl, by decide⟩
      · exact ⟨r14, rfl, r0, r14b⟩
    refine ⟨z, _, r, _, rfl, rfl, SqL.of h16, hdd, _, _, rfl, rfl, ?_⟩
    dsimp (config := { proj := false }) only [List.set_cons_zero, List.set_cons_succ]
    generalize eby : E - mn + dd = mv
    have k1016 := ((KeepL.of s1013 (l := [p])).trans k14).trans ((KeepL.of s15).trans k16)
    have k116 := k110.trans k1016
    have hA16 := kp_ls (R := Pr) (fun t z => Pr.tp t z) k1016 pb10 noAp hA10
    have hB16 := kp_ls (R := Pr) (fun t z => Pr.tp t z) k1016 pb10 noBp hB10
    clear h16 h15 s15 nz nzp pb15 h13 nd h12 h11 hA10 hB10 hbv rbv k14 k16 pb14 pb13
    -- the second list, moved
    obtain ⟨bv, hbv, rbv⟩ := id hB16
    refine ⟨_, rfl, oB, rfl, ⟨_, SqL.of hbv⟩, fun oC hoC => lc_eachM Pr (fun t k => k.tp t) Pr (fun t k => k.tp t) (fun s => (s.1 + mv, s.2 + mv)) hbv rbv (by omega) hoC (fun v s G _ s0 r Kt ht => ?_) (fun H17 s17 hC => ?_)⟩
    · obtain ⟨t, rfl, htt⟩ := r
      refine ⟨rfl, _, rfl, t, _, 0, _, rfl, rfl, SqT.of htt, rfl, _, rfl, _, _, rfl, rfl, _, rfl, t, _, 1, _, rfl, rfl, SqT.of htt, rfl, _, rfl, _, _, rfl, rfl, by show 2 ≤ sizeLine; decide, fun r nr => ?_⟩
      exact ht _ _ (sm_new nr) ⟨r, rfl, upd_same⟩
    have noCp : oC ≠ p := pb_ne pb16 hoC
    have hS : Seam A (B.map fun s => (s.1 + mv, s.2 + mv)) E := ⟨fun x hx => ⟨(dA x hx).2.1, hE x hx⟩, fun x hx => by
      obtain ⟨y, hy, rfl⟩ := List.mem_map.mp hx
      have a1 := hmB y hy
      have a2 := (dB y hy).2.1
      show E ≤ y.1 + mv ∧ y.1 + mv < y.2 + mv
      omega⟩
    have okA : ∀ x ∈ A, okS x := fun x hx => by
      have := dA x hx
      unfold drawn at this
      exact ⟨by omega, by omega, by omega⟩
    have okC : ∀ x ∈ B.map (fun s => (s.1 + mv, s.2 + mv)), okS x := fun x hx => by
      obtain ⟨y, hy, rfl⟩ := List.mem_map.mp hx
      have := dB y hy
      unfold drawn at this
      show -1000000000000 < y.1 + mv ∧ y.1 + mv < y.2 + mv ∧ y.2 + mv < 1000000000000
      omega
    have lC : (B.map fun s => (s.1 + mv, s.2 + mv)).length = mB := by rw [List.length_map, lB]
    generalize (B.map fun s => (s.1 + mv, s.2 + mv)) = C at hC hS okC lC
    clear hbv rbv hB16 hoC dA dB hE hmB hE1 hE2 hm1 hm2
    have pb17 := pb16.same s17
    have hA17 := lsP_same s17 hA16
    have k117 := k116.trans (KeepL.of s17)
    clear hA16
    -- the first one's pairs
    obtain ⟨av, hav, rav⟩ := id hA17
    refine ⟨_, rfl, _, rfl, oA, rfl, ⟨_, SqL.of hav⟩, fun D hD => lc_draw (most := most) hav rav (by omega) noAp hD pb17 (fun v s G m pbG hm rs Kt ht => ?_) (fun H18 wA k18 pb18 hPA lwA hwA => ?_)⟩
    · refine ⟨rfl, _, rfl, _, rfl, _, rfl, p, most, m, rfl, by omega, pbG, by omega, fun G2 w k pb w0 w1 => ⟨by show 2 ≤ sizeLine; decide, fun T nT => ?_⟩⟩
      exact ht _ w T (k.trans (KeepL.of (sm_new nT))) (pb.same (sm_new nT)) w0 w1 upd_same
    refine ⟨Nat.zero_le _, fun z nz => ?_⟩
    obtain ⟨s19, h19⟩ := newF (o := .lst []) nz
    generalize upd H18 z (.lst []) = H19 at s19 h19 ⊢
    have pb19 := pb18.same s19
    have lPA : (A.zip wA).length = A.length := by rw [List.length_zip, lwA, Nat.min_self]
    refine ⟨p, D, z, A.zip wA, [], _, rfl, Ls.same (R := Pq) (fun t z => Pq.tp t z) s19 hPA, ⟨[], h19, Rows.nil⟩, by omega, by decide, pb19, by decide, fun H20 oP PA k20 pb20 noP hP wvP => ?_⟩
    have ePA := wv_nil wvP
    subst ePA
    have noPp : oP ≠ p := pb_ne pb19 noP
    have k1720 := (k18.trans (KeepL.of s19)).trans k20
    have k120 := k117.trans k1720
    have hA20 := kp_ls (R := Pr) (fun t z => Pr.tp t z) k1720 pb17 noAp hA17
    have hC20 := kp_ls (R := Pr) (fun t z => Pr.tp t z) k1720 pb17 noCp hC
    clear hav rav hA17 hC h19 nz hPA hD
    -- the second one's pairs
    obtain ⟨cv, hcv, rcv⟩ := id hC20
    refine ⟨_, rfl, oC, rfl, ⟨_, SqL.of hcv⟩, fun oR hoR => lc_draw (most := most) hcv rcv (by omega) noCp hoR pb20 (fun v s G m pbG hm rs Kt ht => ?_) (fun H21 wC k21 pb21 hR lwC hwC => ?_)⟩
    · refine ⟨rfl, _, rfl, _, rfl, _, rfl, p, most, m, rfl, by omega, pbG, by omega, fun G2 w k pb w0 w1 => ⟨by show 2 ≤ sizeLine; decide, fun T nT => ?_⟩⟩
      exact ht _ w T (k.trans (KeepL.of (sm_new nT))) (pb.same (sm_new nT)) w0 w1 upd_same
    have noRp : oR ≠ p := pb_ne pb20 hoR
    have lPC : (C.zip wC).length = C.length := by rw [List.length_zip, lwC, Nat.min_self]
    have hA21 := kp_ls (R := Pr) (fun t z => Pr.tp t z) k21 pb20 noAp hA20
    have hC21 := kp_ls (R := Pr) (fun t z => Pr.tp t z) k21 pb20 noCp hC20
    have hP21 := kp_ls (R := Pq) (fun t z => Pq.tp t z) k21 pb20 noPp hP
    clear hcv rcv hA20 hC20 hP hoR
    -- both woven
    refine ⟨_, rfl, _, rfl, _, rfl, p, oP, oR, A.zip wA, C.zip wC, _, rfl, hP21, hR, by omega, by omega, pb21, by decide, fun H22 oW PW k22 pb22 noW hW wv => ?_⟩
    have noWp : oW ≠ p := pb_ne pb21 noW
    have hA22 := kp_ls (R := Pr) (fun t z => Pr.tp t z) k22 pb21 noAp hA21
    have hC22 := kp_ls (R := Pr) (fun t z => Pr.tp t z) k22 pb21 noCp hC21
    have hP22 := kp_ls (R := Pq) (fun t z => Pq.tp t z) k22 pb21 noPp hP21
    have hR22 := kp_ls (R := Pq) (fun t z => Pq.tp t z) k22 pb21 noRp hR
    clear hA21 hC21 hP21 hR
    -- how many may lie over a place
    refine ⟨_, rfl, by show 2 ≤ sizeLine; decide, fun z nz => ?_⟩
    obtain ⟨s23, h23⟩ := newF (o := .lst [.int 2, .int 20]) nz
    generalize upd H22 z (.lst [.int 2, .int 20]) = H23 at s23 h23 ⊢
    have pb23 := pb22.same s23
    have nzp := pb_ne pb22 nz
    refine ⟨_, rfl, p, 2, _, rfl, by decide, pb23, by decide, fun H24 r k24 pb24 q0 q1 => ?_⟩
    have h24 := k24 _ _ (by simp [nzp]) h23
    obtain ⟨k2, hk2, hk22⟩ : ∃ f : Int, atI [V.int 2, .int 20] r = some (.int f) ∧ (0 < f ∧ f ≤ 20) := by
      obtain ⟨k, rfl⟩ : ∃ k : Nat, r = (k : Int) := ⟨r.toNat, by omega⟩
      have hk : k = 0 ∨ k = 1 := by omega
      rcases hk with rfl | rfl
      · exact ⟨2, rfl, by decide⟩
      · exact ⟨20, rfl, by decide⟩
    refine ⟨z, _, r, _, rfl, rfl, SqL.of h24, hk2, p, k2, _, rfl, by omega, pb24, by decide, fun H25 kk k25 pb25 kk0 kk1 => ?_⟩
    refine ⟨_, _, rfl, rfl, ?_⟩
    dsimp (config := { proj := false }) only [List.set_cons_zero, List.set_cons_succ]
    have k2225 := ((KeepL.of s23).trans k24).trans k25
    have hA25 := kp_ls (R := Pr) (fun t z => Pr.tp t z) k2225 pb22 noAp hA22
    have hC25 := kp_ls (R := Pr) (fun t z => Pr.tp t z) k2225 pb22 noCp hC22
    have hP25 := kp_ls (R := Pq) (fun t z => Pq.tp t z) k2225 pb22 noPp hP22
    have hR25 := kp_ls (R := Pq) (fun t z => Pq.tp t z) k2225 pb22 noRp hR22
    have hW25 := kp_ls (R := Pq) (fun t z => Pq.tp t z) k2225 pb22 noWp hW
    have k125 := ((k120.trans k21).trans k22).trans k2225
    have s025 : Same H H25 := KeepL.same s01 (fun b hb => by rw [List.mem_singleton.mp hb]; exact npH) k125
    clear hA22 hC22 hP22 hR22 hW h24 h23 nz nzp
    -- what the three lists are to one another
    have z1 : (A.zip wA).map Prod.fst = A := List.map_fst_zip (by omega)
    have z2 : (A.zip wA).map Prod.snd = wA := List.map_snd_zip (by omega)
    have z3 : (C.zip wC).map Prod.fst = C := List.map_fst_zip (by omega)
    have z4 : (C.zip wC).map Prod.snd = wC := List.map_snd_zip (by omega)
    have wv1 := wv.map Prod.fst
    have wv2 := wv.map Prod.snd
    rw [z1, z3] at wv1
    rw [z2, z4] at wv2
    obtain ⟨eA, eB, E0⟩ := emb wv
    have E1 := E0.mapped Prod.fst
    have E2 := E0.mapped Prod.snd
    rw [z1, z3] at E1
    rw [z2, z4] at E2
    have pm := wv1.perm
    have lW : (PW.map Prod.fst).length = A.length + C.length := by rw [pm.length_eq, List.length_append]
    have lwW : (PW.map Prod.snd).length = (PW.map Prod.fst).length := by rw [List.length_map, List.length_map]
    have okW : ∀ x ∈ PW.map Prod.fst, okS x := fun x hx => by
      rcases List.mem_append.mp (pm.mem_iff.mp hx) with h | h
      · exact okA x h
      · exact okC x h
    have bA : ∀ x ∈ wA, 0 ≤ x ∧ x ≤ 1000000000 := fun x hx => by have := hwA x hx; omega
    have bC : ∀ x ∈ wC, 0 ≤ x ∧ x ≤ 1000000000 := fun x hx => by have := hwC x hx; omega
    have bW : ∀ x ∈ PW.map Prod.snd, 0 ≤ x ∧ x ≤ 1000000000 := fun x hx => by
      rcases List.mem_append.mp (wv2.perm.mem_iff.mp hx) with h | h
      · exact bA x h
      · exact bC x h
    -- the whole
    obtain ⟨pv, hpv, rpv⟩ := id hW25
    refine ⟨_, rfl, oW, rfl, ⟨_, SqL.of hpv⟩, fun oQ hoQ => lc_eachM Pq (fun t k => Pq.tp t k) Pr (fun t k => k.tp t) Prod.fst hpv rpv (by rw [List.length_map] at lW; omega) hoQ (fun v x G _ s0 r Kt ht => ?_) (fun H26 s26 hQ => ?_)⟩
    · obtain ⟨t, u, rfl, ht1, ht2⟩ := r
      exact g_two ht1 ⟨rfl, _, rfl, ht _ _ (Same.refl _) ⟨u, rfl, ht2⟩⟩
    have hA26 := lsP_same s26 hA25
    have hC26 := lsP_same s26 hC25
    generalize PW.map Prod.fst = W at wv1 E1 pm lW lwW okW hQ
    -- what is added up
    refine ⟨_, rfl, oA, A, rfl, hA26, by omega, okA, fun H27 rA dfA cA plA s27 nrA hrA defA cntA isA => ?_⟩
    refine ⟨_, rfl, oC, C, rfl, lsP_same s27 hC26, by omega, okC, fun H28 rC dfC cC plC s28 nrC hrC defC cntC isC => ?_⟩
    refine ⟨rA, rC, _, _, rfl, SqL.of (s28 _ _ hrA), SqL.of hrC, fun oS hoS => lc_zipI (fun x y => x + y) (s28 _ _ hrA) hrC rfl (by simp) hoS (fun x y T G s hT Kt ht => ?_) (fun H29 s29 hSm => ?_)⟩
    · exact g_two hT ⟨rfl, _, rfl, _, rfl, _, _, rfl, rfl, ht G (Same.refl _)⟩
    have s2629 := (s27.trans s28).trans s29
    refine ⟨_, rfl, oQ, W, rfl, lsP_same s2629 hQ, by omega, okW, fun H30 rW dfW cW plW s30 nrW hrW defW cntW isW => ?_⟩
    refine ⟨_, rfl, k_neL dtI (int_ls hrW) (int_ls (s30 _ _ hSm)) ⟨_, rfl, ?_⟩⟩
    have q1 := apart_two hS pm
    have q2 := def_unique defW (def_two E1 hS defA defC)
    have q3 := run_unique isW (pl_two hS pm isA isC)
    have q4 := held_two hS.a hS.b okA pm
    rw [decide_eq_true (show [((apart W).1.length : Int), (dfW : Int), (cW : Int), heldL (pour W)] = List.zipWith (fun x y => x + y) [((apart A).1.length : Int), (dfA : Int), (cA : Int), heldL (pour A)] [((apart C).1.length : Int), (dfC : Int), (cC : Int), heldL (pour C)] by
      show _ = [((apart A).1.length : Int) + ((apart C).1.length : Int), (dfA : Int) + (dfC : Int), (cA : Int) + (cC : Int), heldL (pour A) + heldL (pour C)]
      rw [q1, q2, q4, show (cW : Int) = (cA : Int) + (cC : Int) by omega, Int.natCast_add, Int.natCast_add])]
    refine iteF ?_
    have s2630 := s2629.trans s30
    clear hrW hSm hrA hrC s27 s28 s29 s30 s2629
    -- the greatest
    refine ⟨_, rfl, oQ, W, rfl, lsP_same s2630 hQ, by omega, okW, fun H31 rW s31 nrW hrW => ?_⟩
    have s2631 := s2630.trans s31
    refine ⟨_, rfl, oA, A, rfl, lsP_same s2631 hA26, by omega, okA, fun H32 rA s32 nrA hrA => ?_⟩
    refine ⟨_, rfl, oC, C, rfl, lsP_same (s2631.trans s32) hC26, by omega, okC, fun H33 rC s33 nrC hrC => ?_⟩
    refine ⟨rA, rC, _, _, rfl, SqL.of (s33 _ _ hrA), SqL.of hrC, fun oS hoS => lc_zipI (fun x y => if y > x then y else x) (s33 _ _ hrA) hrC rfl (by simp) hoS (fun x y T G s hT Kt ht => ?_) (fun H34 s34 hSm => ?_)⟩
    · exact g_two hT ⟨rfl, _, rfl, _, rfl, _, _, rfl, ht G (Same.refl _)⟩
    have s3134 := (s32.trans s33).trans s34
    refine k_neL dtI (int_ls (s3134 _ _ hrW)) (int_ls hSm) ⟨_, rfl, ?_⟩
    have g1 := rows_two hS pm
    have g2 := nest_two E1 hS
    have g3 := deep_two hS.a hS.b pm
    rw [decide_eq_true (show [((rowsOf W).2.length : Int) - 1, maxOr (levelsOf W) + 1, deepV W] = List.zipWith (fun x y => if y > x then y else x) [((rowsOf A).2.length : Int) - 1, maxOr (levelsOf A) + 1, deepV A] [((rowsOf C).2.length : Int) - 1, maxOr (levelsOf C) + 1, deepV C] by
      show _ = [if ((rowsOf C).2.length : Int) - 1 > ((rowsOf A).2.length : Int) - 1 then ((rowsOf C).2.length : Int) - 1 else ((rowsOf A).2.length : Int) - 1, if maxOr (levelsOf C) + 1 > maxOr (levelsOf A) + 1 then maxOr (levelsOf C) + 1 else maxOr (levelsOf A) + 1, if deepV C > deepV A then deepV C else deepV A]
      rw [g1, g2, g3]
      congr 1
      · split <;> omega
      · congr 1
        · split <;> omega
        · congr 1
          split <;> omega)]
    refine iteF ?_
    have s2634 := s2631.trans s3134
    clear hrW hSm hrA hrC s31 s32 s33 s34 s3134 s2631
    -- the covers
    obtain ⟨gA, oA2⟩ := pour_ok okA
    obtain ⟨gC, oC2⟩ := pour_ok okC
    have plen : ∀ ss : List Spn, (pour ss).length ≤ ss.length := fun ss => by
      have := pour_len (isort le2 ss) []
      rw [isort_len, List.length_nil, Nat.zero_add] at this
      exact this
    have pA := plen A
    have pC := plen C
    refine ⟨_, rfl, oQ, W, rfl, lsP_same s2634 hQ, by omega, okW, fun H35 cvW s35 ncW hcW => ?_⟩
    have s2635 := s2634.trans s35
    refine ⟨_, rfl, oA, A, rfl, lsP_same s2635 hA26, by omega, okA, fun H36 cvA s36 ncA hcA => ?_⟩
    refine ⟨_, rfl, oC, C, rfl, lsP_same (s2635.trans s36) hC26, by omega, okC, fun H37 cvC s37 ncC hcC => ?_⟩
    refine ⟨cvA, cvC, pour A, pour C, rfl, lsP_same s37 hcA, by omega, fun t ht => (oA2 t ht).1, gaps_of gA, hcC, by omega, fun t ht => (oC2 t ht).1, gaps_of gC, fun H38 cvE s38 ncE hcE => ?_⟩
    have s3538 := (s36.trans s37).trans s38
    refine k_neL dtP (lsP_same s3538 hcW) hcE ⟨_, rfl, ?_⟩
    rw [decide_eq_true (cover_two hS.a hS.b okA okC pm)]
    refine iteF ?_
    have s2638 := s2635.trans s3538
    clear hcW hcE hcA hcC s35 s36 s37 s38 s3538 s2635
    have kr : 1 ≤ 1 + kk ∧ 1 + kk ≤ 20 := by omega
    -- the weights of the first
    have s2538 := s26.trans s2638
    have wts : ∀ {o : Addr} {X : List (Spn × Int)} {G : Hp}, Ls Pq G o X → True := fun _ => trivial
    obtain ⟨pv, hpv, rpv⟩ := Ls.same (R := Pq) (fun t z => Pq.tp t z) s2538 hP25
    refine ⟨_, rfl, _, rfl, oP, rfl, ⟨_, SqL.of hpv⟩, fun oX hoX => lc_eachM Pq (fun t k => Pq.tp t k) In (fun _ h => h) Prod.snd hpv rpv (by omega) hoX (fun v x G _ s0 r Kt ht => ?_) (fun H39 s39 hX => ?_)⟩
    · obtain ⟨t, u, rfl, ht1, ht2⟩ := r
      exact g_two ht1 ⟨rfl, _, rfl, ht _ _ (Same.refl _) rfl⟩
    have hX := ls_int hX
    rw [z2] at hX
    have s2639 := s2638.trans s39
    refine ⟨_, rfl, oA, oX, A, wA, 1 + kk, rfl, lsP_same s2639 hA26, hX, lwA, by omega, okA, bA, kr, fun H40 fA vA s40 nfA hfA hvA => ?_⟩
    have s2640 := s2639.trans s40
    -- .. of the second
    obtain ⟨pv, hpv, rpv⟩ := Ls.same (R := Pq) (fun t z => Pq.tp t z) (s26.trans s2640) hR25
    refine ⟨_, rfl, _, rfl, oR, rfl, ⟨_, SqL.of hpv⟩, fun oY hoY => lc_eachM Pq (fun t k => Pq.tp t k) In (fun _ h => h) Prod.snd hpv rpv (by omega) hoY (fun v x G _ s0 r Kt ht => ?_) (fun H41 s41 hY => ?_)⟩
    · obtain ⟨t, u, rfl, ht1, ht2⟩ := r
      exact g_two ht1 ⟨rfl, _, rfl, ht _ _ (Same.refl _) rfl⟩
    have hY := ls_int hY
    rw [z4] at hY
    have s2641 := s2640.trans s41
    refine ⟨_, rfl, oC, oY, C, wC, 1 + kk, rfl, lsP_same s2641 hC26, hY, lwC, by omega, okC, bC, kr, fun H42 fC vC s42 nfC hfC hvC => ?_⟩
    have s2642 := s2641.trans s42
    have hfA42 := (s41.trans s42) _ _ hfA
    -- .. of both
    obtain ⟨pv, hpv, rpv⟩ := Ls.same (R := Pq) (fun t z => Pq.tp t z) (s26.trans s2642) hW25
    refine ⟨_, rfl, _, rfl, oW, rfl, ⟨_, SqL.of hpv⟩, fun oZ hoZ => lc_eachM Pq (fun t k => Pq.tp t k) In (fun _ h => h) Prod.snd hpv rpv (by rw [List.length_map] at lwW; omega) hoZ (fun v x G _ s0 r Kt ht => ?_) (fun H43 s43 hZ => ?_)⟩
    · obtain ⟨t, u, rfl, ht1, ht2⟩ := r
      exact g_two ht1 ⟨rfl, _, rfl, ht _ _ (Same.refl _) rfl⟩
    have hZ := ls_int hZ
    refine ⟨_, rfl, oQ, oZ, W, PW.map Prod.snd, 1 + kk, rfl, lsP_same (s2642.trans s43) hQ, hZ, lwW, by omega, okW, bW, kr, fun H44 fW vW s44 nfW hfW hvW => ?_⟩
    have s4244 := s43.trans s44
    refine ⟨_, rfl, _, rfl, fA, fC, _, _, rfl, SqL.of (s4244 _ _ hfA42), SqL.of (s4244 _ _ hfC), fun oS hoS => lc_zipI (fun x y => x + y) (s4244 _ _ hfA42) (s4244 _ _ hfC) rfl (by simp) hoS (fun x y T G s hT Kt ht => ?_) (fun H45 s45 hSm => ?_)⟩
    · exact g_two hT ⟨rfl, _, rfl, _, rfl, _, _, rfl, rfl, ht G (Same.refl _)⟩
    refine k_neL dtI (int_ls (s45 _ _ hfW)) (int_ls hSm) ⟨_, rfl, ?_⟩
    have v1 := hv_unique hvW (hv_two E1 E2 lwA lwC hS hvA hvC)
    have v2 := hg_two E1 E2 lwA lwC hS
    rw [decide_eq_true (show [vW, hgVal W (PW.map Prod.snd)] = List.zipWith (fun x y => x + y) [vA, hgVal A wA] [vC, hgVal C wC] by
      show _ = [vA + vC, hgVal A wA + hgVal C wC]
      rw [v1, v2])]
    refine iteF ?_
    exact ⟨_, _, _, _, _, _, _, _, _, _, _, _, _, _, _, _, _, _, _, rfl, (s025.trans s26).trans ((s2642.trans s4244).trans s45)⟩
  · rintro σ H' ⟨y1, y2, y3, y4, y5, y6, y7, y8, y9, y10, y11, y12, y13, y14, y15, y16, y17, y18, y19, rfl, s0⟩
    exact q H'
end

theorem mkM {K : PySem.W.Frag} {x qual : Str} {st : Stmt} {ps : List Str} {f : Addr} {oc : Value} {od an : Option Addr} {osl : Array (Option Value)} {kV doc pm cdv ct : Value} (l : K.lookup f = some ⟨oc, od, .func (PySem.W.fnOf x qual (defArgs st) (defBody st) (defScope st) .none kV doc pm an cdv ct), osl⟩)
    (c : PySem.W.codeIn K cdv qual = true) (k : PySem.W.keepIn K (.ref f) = true)
    (h : ∀ (kV doc pm : Value) (an : Option Addr) (cdv ct : Value) (us : List Value), us.length = ps.length → bindArgs (PySem.W.fnOf x qual (defArgs st) (defBody st) (defScope st) .none kV doc pm an cdv ct) ⟨us, []⟩ = pure (ps.zip us)) :
    ∃ D : DefM K x qual st ps, D.f = f ∧ D.fd = PySem.W.fnOf x qual (defArgs st) (defBody st) (defScope st) .none kV doc pm an cdv ct :=
  ⟨⟨f, _, fun_mk l c k, (fun_mk l c k).binds h⟩, rfl, rfl⟩
theorem all_mk {l : PySem.W.OpenLaw} {w : World} {K : PySem.W.Frag} {h : Heap} {mg : Str → Option Value} {fa C f0 f1 f2 f3 f4 f5 f6 f7 f8 f9 f10 f11 f12 f13 f14 f15 f16 f17 f18 f19 f20 f21 f22 f23 f24 f25 f26 f27 f28 f29 f30 f31 f32 f33 f34 f35 f36 f37 f38 f39 f40 f41 f42 f43 f44 f45 f46 f47 f48 f49 f50 f51 f52 f53 f54 f55 f56 f57 : Addr} (X : K.In h) (G : h.Ns mainGlobals mg) (hfa : mg "law" = some (.ref fa))
    {od0 an0 od1 an1 od2 an2 od3 an3 od4 an4 od5 an5 od6 an6 od7 an7 od8 an8 od9 an9 od10 an10 od11 an11 od12 an12 od13 an13 od14 an14 od15 an15 od16 an16 od17 an17 od18 an18 od19 an19 od20 an20 od21 an21 od22 an22 od23 an23 od24 an24 od25 an25 od26 an26 od27 an27 od28 an28 od29 an29 od30 an30 od31 an31 od32 an32 od33 an33 od34 an34 od35 an35 od36 an36 od37 an37 od38 an38 od39 an39 od40 an40 od41 an41 od42 an42 od43 an43 od44 an44 od45 an45 od46 an46 od47 an47 od48 an48 od49 an49 od50 an50 od51 an51 od52 an52 od53 an53 od54 an54 od55 an55 od56 an56 od57 an57 : Option Addr} {sl0 sl1 sl2 sl3 sl4 sl5 sl6 sl7 sl8 sl9 sl10 sl11 sl12 sl13 sl14 sl15 sl16 sl17 sl18 sl19 sl20 sl21 sl22 sl23 sl24 sl25 sl26 sl27 sl28 sl29 sl30 sl31 sl32 sl33 sl34 sl35 sl36 sl37 sl38 sl39 sl40 sl41 sl42 sl43 sl44 sl45 sl46 sl47 sl48 sl49 sl50 sl51 sl52 sl53 sl54 sl55 sl56 sl57 : Array (Option Value)} {oc0 kV0 dc0 pm0 cd0 ct0 oc1 kV1 dc1 pm1 cd1 ct1 oc2 kV2 dc2 pm2 cd2 ct2 oc3 kV3 dc3 pm3 cd3 ct3 oc4 kV4 dc4 pm4 cd4 ct4 oc5 kV5 dc5 pm5 cd5 ct5 oc6 kV6 dc6 pm6 cd6 ct6 oc7 kV7 dc7 pm7 cd7 ct7 oc8 kV8 dc8 pm8 cd8 ct8 oc9 kV9 dc9 pm9 cd9 ct9 oc10 kV10 dc10 pm10 cd10 ct10 oc11 kV11 dc11 pm11 cd11 ct11 oc12 kV12 dc12 pm12 cd12 ct12 oc13 kV13 dc13 pm13 cd13 ct13 oc14 kV14 dc14 pm14 cd14 ct14 oc15 kV15 dc15 pm15 cd15 ct15 oc16 kV16 dc16 pm16 cd16 ct16 oc17 kV17 dc17 pm17 cd17 ct17 oc18 kV18 dc18 pm18 cd18 ct18 oc19 kV19 dc19 pm19 cd19 ct19 oc20 kV20 dc20 pm20 cd20 ct20 oc21 kV21 dc21 pm21 cd21 ct21 oc22 kV22 dc22 pm22 cd22 ct22 oc23 kV23 dc23 pm23 cd23 ct23 oc24 kV24 dc24 pm24 cd24 ct24 oc25 kV25 dc25 pm25 cd25 ct25 oc26 kV26 dc26 pm26 cd26 ct26 oc27 kV27 dc27 pm27 cd27 ct27 oc28 kV28 dc28 pm28 cd28 ct28 oc29 kV29 dc29 pm29 cd29 ct29 oc30 kV30 dc30 pm30 cd30 ct30 oc31 kV31 dc31 pm31 cd31 ct31 oc32 kV32 dc32 pm32 cd32 ct32 oc33 kV33 dc33 pm33 cd33 ct33 oc34 kV34 dc34 pm34 cd34 ct34 oc35 kV35 dc35 pm35 cd35 ct35 oc36 kV36 dc36 pm36 cd36 ct36 oc37 kV37 dc37 pm37 cd37 ct37 oc38 kV38 dc38 pm38 cd38 ct38 oc39 kV39 dc39 pm39 cd39 ct39 oc40 kV40 dc40 pm40 cd40 ct40 oc41 kV41 dc41 pm41 cd41 ct41 oc42 kV42 dc42 pm42 cd42 ct42 oc43 kV43 dc43 pm43 cd43 ct43 oc44 kV44 dc44 pm44 cd44 ct44 oc45 kV45 dc45 pm45 cd45 ct45 oc46 kV46 dc46 pm46 cd46 ct46 oc47 kV47 dc47 pm47 cd47 ct47 oc48 kV48 dc48 pm48 cd48 ct48 oc49 kV49 dc49 pm49 cd49 ct49 oc50 kV50 dc50 pm50 cd50 ct50 oc51 kV51 dc51 pm51 cd51 ct51 oc52 kV52 dc52 pm52 cd52 ct52 oc53 kV53 dc53 pm53 cd53 ct53 oc54 kV54 dc54 pm54 cd54 ct54 oc55 kV55 dc55 pm55 cd55 ct55 oc56 kV56 dc56 pm56 cd56 ct56 oc57 kV57 dc57 pm57 cd57 ct57 : Value}
    {t0} {t1} {t2} {t3}
    (aC : PySem.W.nsIn K mainGlobals "Lanes" = some (some (.ref C)))
    (a0 : PySem.W.nsIn K mainGlobals "is_place" = some (some (.ref f0)))
    (l0 : K.lookup f0 = some ⟨oc0, od0, .func (PySem.W.fnOf "is_place" "is_place" (defArgs s_is_place) (defBody s_is_place) (defScope s_is_place) .none kV0 dc0 pm0 an0 cd0 ct0), sl0⟩) (c0 : PySem.W.codeIn K cd0 "is_place" = true) (k0 : PySem.W.keepIn K (.ref f0) = true)
    (a1 : PySem.W.nsIn K mainGlobals "is_span" = some (some (.ref f1)))
    (l1 : K.lookup f1 = some ⟨oc1, od1, .func (PySem.W.fnOf "is_span" "is_span" (defArgs s_is_span) (defBody s_is_span) (defScope s_is_span) .none kV1 dc1 pm1 an1 cd1 ct1), sl1⟩) (c1 : PySem.W.codeIn K cd1 "is_span" = true) (k1 : PySem.W.keepIn K (.ref f1) = true)
    (a2 : PySem.W.nsIn K mainGlobals "must_span" = some (some (.ref f2)))
    (l2 : K.lookup f2 = some ⟨oc2, od2, .func (PySem.W.fnOf "must_span" "must_span" (defArgs s_must_span) (defBody s_must_span) (defScope s_must_span) .none kV2 dc2 pm2 an2 cd2 ct2), sl2⟩) (c2 : PySem.W.codeIn K cd2 "must_span" = true) (k2 : PySem.W.keepIn K (.ref f2) = true)
    (a3 : PySem.W.nsIn K mainGlobals "must_spans" = some (some (.ref f3)))
    (l3 : K.lookup f3 = some ⟨oc3, od3, .func (PySem.W.fnOf "must_spans" "must_spans" (defArgs s_must_spans) (defBody s_must_spans) (defScope s_must_spans) .none kV3 dc3 pm3 an3 cd3 ct3), sl3⟩) (c3 : PySem.W.codeIn K cd3 "must_spans" = true) (k3 : PySem.W.keepIn K (.ref f3) = true)
    (a4 : PySem.W.nsIn K mainGlobals "holds" = some (some (.ref f4)))
    (l4 : K.lookup f4 = some ⟨oc4, od4, .func (PySem.W.fnOf "holds" "holds" (defArgs s_holds) (defBody s_holds) (defScope s_holds) .none kV4 dc4 pm4 an4 cd4 ct4), sl4⟩) (c4 : PySem.W.codeIn K cd4 "holds" = true) (k4 : PySem.W.keepIn K (.ref f4) = true)
    (a5 : PySem.W.nsIn K mainGlobals "is_inside" = some (some (.ref f5)))
    (l5 : K.lookup f5 = some ⟨oc5, od5, .func (PySem.W.fnOf "is_inside" "is_inside" (defArgs s_is_inside) (defBody s_is_inside) (defScope s_is_inside) .none kV5 dc5 pm5 an5 cd5 ct5), sl5⟩) (c5 : PySem.W.codeIn K cd5 "is_inside" = true) (k5 : PySem.W.keepIn K (.ref f5) = true)
    (a6 : PySem.W.nsIn K mainGlobals "under" = some (some (.ref f6)))
    (l6 : K.lookup f6 = some ⟨oc6, od6, .func (PySem.W.fnOf "under" "under" (defArgs s_under) (defBody s_under) (defScope s_under) .none kV6 dc6 pm6 an6 cd6 ct6), sl6⟩) (c6 : PySem.W.codeIn K cd6 "under" = true) (k6 : PySem.W.keepIn K (.ref f6) = true)
    (a7 : PySem.W.nsIn K mainGlobals "upward" = some (some (.ref f7)))
    (l7 : K.lookup f7 = some ⟨oc7, od7, .func (PySem.W.fnOf "upward" "upward" (defArgs s_upward) (defBody s_upward) (defScope s_upward) .none kV7 dc7 pm7 an7 cd7 ct7), sl7⟩) (c7 : PySem.W.codeIn K cd7 "upward" = true) (k7 : PySem.W.keepIn K (.ref f7) = true)
    (a8 : PySem.W.nsIn K mainGlobals "levels_of" = some (some (.ref f8)))
    (l8 : K.lookup f8 = some ⟨oc8, od8, .func (PySem.W.fnOf "levels_of" "levels_of" (defArgs s_levels_of) (defBody s_levels_of) (defScope s_levels_of) .none kV8 dc8 pm8 an8 cd8 ct8), sl8⟩) (c8 : PySem.W.codeIn K cd8 "levels_of" = true) (k8 : PySem.W.keepIn K (.ref f8) = true)
    (a9 : PySem.W.nsIn K mainGlobals "nest" = some (some (.ref f9)))
    (l9 : K.lookup f9 = some ⟨oc9, od9, .func (PySem.W.fnOf "nest" "nest" (defArgs s_nest) (defBody s_nest) (defScope s_nest) .none kV9 dc9 pm9 an9 cd9 ct9), sl9⟩) (c9 : PySem.W.codeIn K cd9 "nest" = true) (k9 : PySem.W.keepIn K (.ref f9) = true)
    (a10 : PySem.W.nsIn K mainGlobals "may_follow" = some (some (.ref f10)))
    (l10 : K.lookup f10 = some ⟨oc10, od10, .func (PySem.W.fnOf "may_follow" "may_follow" (defArgs s_may_follow) (defBody s_may_follow) (defScope s_may_follow) .none kV10 dc10 pm10 an10 cd10 ct10), sl10⟩) (c10 : PySem.W.codeIn K cd10 "may_follow" = true) (k10 : PySem.W.keepIn K (.ref f10) = true)
    (a11 : PySem.W.nsIn K mainGlobals "followers" = some (some (.ref f11)))
    (l11 : K.lookup f11 = some ⟨oc11, od11, .func (PySem.W.fnOf "followers" "followers" (defArgs s_followers) (defBody s_followers) (defScope s_followers) .none kV11 dc11 pm11 an11 cd11 ct11), sl11⟩) (c11 : PySem.W.codeIn K cd11 "followers" = true) (k11 : PySem.W.keepIn K (.ref f11) = true)
    (a12 : PySem.W.nsIn K mainGlobals "come_to" = some (some (.ref f12)))
    (l12 : K.lookup f12 = some ⟨oc12, od12, .func (PySem.W.fnOf "come_to" "come_to" (defArgs s_come_to) (defBody s_come_to) (defScope s_come_to) .none kV12 dc12 pm12 an12 cd12 ct12), sl12⟩) (c12 : PySem.W.codeIn K cd12 "come_to" = true) (k12 : PySem.W.keepIn K (.ref f12) = true)
    (a13 : PySem.W.nsIn K mainGlobals "nests_of" = some (some (.ref f13)))
    (l13 : K.lookup f13 = some ⟨oc13, od13, .func (PySem.W.fnOf "nests_of" "nests_of" (defArgs s_nests_of) (defBody s_nests_of) (defScope s_nests_of) .none kV13 dc13 pm13 an13 cd13 ct13), sl13⟩) (c13 : PySem.W.codeIn K cd13 "nests_of" = true) (k13 : PySem.W.keepIn K (.ref f13) = true)
    (a14 : PySem.W.nsIn K mainGlobals "loose" = some (some (.ref f14)))
    (l14 : K.lookup f14 = some ⟨oc14, od14, .func (PySem.W.fnOf "loose" "loose" (defArgs s_loose) (defBody s_loose) (defScope s_loose) .none kV14 dc14 pm14 an14 cd14 ct14), sl14⟩) (c14 : PySem.W.codeIn K cd14 "loose" = true) (k14 : PySem.W.keepIn K (.ref f14) = true)
    (a15 : PySem.W.nsIn K mainGlobals "most_told" = some (some (.ref f15)))
    (l15 : K.lookup f15 = some ⟨oc15, od15, .func (PySem.W.fnOf "most_told" "most_told" (defArgs s_most_told) (defBody s_most_told) (defScope s_most_told) .none kV15 dc15 pm15 an15 cd15 ct15), sl15⟩) (c15 : PySem.W.codeIn K cd15 "most_told" = true) (k15 : PySem.W.keepIn K (.ref f15) = true)
    (a16 : PySem.W.nsIn K mainGlobals "most_apart" = some (some (.ref f16)))
    (l16 : K.lookup f16 = some ⟨oc16, od16, .func (PySem.W.fnOf "most_apart" "most_apart" (defArgs s_most_apart) (defBody s_most_apart) (defScope s_most_apart) .none kV16 dc16 pm16 an16 cd16 ct16), sl16⟩) (c16 : PySem.W.codeIn K cd16 "most_apart" = true) (k16 : PySem.W.keepIn K (.ref f16) = true)
    (a17 : PySem.W.nsIn K mainGlobals "must_cover" = some (some (.ref f17)))
    (l17 : K.lookup f17 = some ⟨oc17, od17, .func (PySem.W.fnOf "must_cover" "must_cover" (defArgs s_must_cover) (defBody s_must_cover) (defScope s_must_cover) .none kV17 dc17 pm17 an17 cd17 ct17), sl17⟩) (c17 : PySem.W.codeIn K cd17 "must_cover" = true) (k17 : PySem.W.keepIn K (.ref f17) = true)
    (a18 : PySem.W.nsIn K mainGlobals "poured" = some (some (.ref f18)))
    (l18 : K.lookup f18 = some ⟨oc18, od18, .func (PySem.W.fnOf "poured" "poured" (defArgs s_poured) (defBody s_poured) (defScope s_poured) .none kV18 dc18 pm18 an18 cd18 ct18), sl18⟩) (c18 : PySem.W.codeIn K cd18 "poured" = true) (k18 : PySem.W.keepIn K (.ref f18) = true)
    (a19 : PySem.W.nsIn K mainGlobals "cover_of" = some (some (.ref f19)))
    (l19 : K.lookup f19 = some ⟨oc19, od19, .func (PySem.W.fnOf "cover_of" "cover_of" (defArgs s_cover_of) (defBody s_cover_of) (defScope s_cover_of) .none kV19 dc19 pm19 an19 cd19 ct19), sl19⟩) (c19 : PySem.W.codeIn K cd19 "cover_of" = true) (k19 : PySem.W.keepIn K (.ref f19) = true)
    (a20 : PySem.W.nsIn K mainGlobals "either" = some (some (.ref f20)))
    (l20 : K.lookup f20 = some ⟨oc20, od20, .func (PySem.W.fnOf "either" "either" (defArgs s_either) (defBody s_either) (defScope s_either) .none kV20 dc20 pm20 an20 cd20 ct20), sl20⟩) (c20 : PySem.W.codeIn K cd20 "either" = true) (k20 : PySem.W.keepIn K (.ref f20) = true)
    (a21 : PySem.W.nsIn K mainGlobals "held" = some (some (.ref f21)))
    (l21 : K.lookup f21 = some ⟨oc21, od21, .func (PySem.W.fnOf "held" "held" (defArgs s_held) (defBody s_held) (defScope s_held) .none kV21 dc21 pm21 an21 cd21 ct21), sl21⟩) (c21 : PySem.W.codeIn K cd21 "held" = true) (k21 : PySem.W.keepIn K (.ref f21) = true)
    (a22 : PySem.W.nsIn K mainGlobals "depth_in" = some (some (.ref f22)))
    (l22 : K.lookup f22 = some ⟨oc22, od22, .func (PySem.W.fnOf "depth_in" "depth_in" (defArgs s_depth_in) (defBody s_depth_in) (defScope s_depth_in) .none kV22 dc22 pm22 an22 cd22 ct22), sl22⟩) (c22 : PySem.W.codeIn K cd22 "depth_in" = true) (k22 : PySem.W.keepIn K (.ref f22) = true)
    (a23 : PySem.W.nsIn K mainGlobals "ends_of" = some (some (.ref f23)))
    (l23 : K.lookup f23 = some ⟨oc23, od23, .func (PySem.W.fnOf "ends_of" "ends_of" (defArgs s_ends_of) (defBody s_ends_of) (defScope s_ends_of) .none kV23 dc23 pm23 an23 cd23 ct23), sl23⟩) (c23 : PySem.W.codeIn K cd23 "ends_of" = true) (k23 : PySem.W.keepIn K (.ref f23) = true)
    (a24 : PySem.W.nsIn K mainGlobals "pieces" = some (some (.ref f24)))
    (l24 : K.lookup f24 = some ⟨oc24, od24, .func (PySem.W.fnOf "pieces" "pieces" (defArgs s_pieces) (defBody s_pieces) (defScope s_pieces) .none kV24 dc24 pm24 an24 cd24 ct24), sl24⟩) (c24 : PySem.W.codeIn K cd24 "pieces" = true) (k24 : PySem.W.keepIn K (.ref f24) = true)
    (a25 : PySem.W.nsIn K mainGlobals "deepest_in" = some (some (.ref f25)))
    (l25 : K.lookup f25 = some ⟨oc25, od25, .func (PySem.W.fnOf "deepest_in" "deepest_in" (defArgs s_deepest_in) (defBody s_deepest_in) (defScope s_deepest_in) .none kV25 dc25 pm25 an25 cd25 ct25), sl25⟩) (c25 : PySem.W.codeIn K cd25 "deepest_in" = true) (k25 : PySem.W.keepIn K (.ref f25) = true)
    (a26 : PySem.W.nsIn K mainGlobals "deepest" = some (some (.ref f26)))
    (l26 : K.lookup f26 = some ⟨oc26, od26, .func (PySem.W.fnOf "deepest" "deepest" (defArgs s_deepest) (defBody s_deepest) (defScope s_deepest) .none kV26 dc26 pm26 an26 cd26 ct26), sl26⟩) (c26 : PySem.W.codeIn K cd26 "deepest" = true) (k26 : PySem.W.keepIn K (.ref f26) = true)
    (a27 : PySem.W.nsIn K mainGlobals "must_weight" = some (some (.ref f27)))
    (l27 : K.lookup f27 = some ⟨oc27, od27, .func (PySem.W.fnOf "must_weight" "must_weight" (defArgs s_must_weight) (defBody s_must_weight) (defScope s_must_weight) .none kV27 dc27 pm27 an27 cd27 ct27), sl27⟩) (c27 : PySem.W.codeIn K cd27 "must_weight" = true) (k27 : PySem.W.keepIn K (.ref f27) = true)
    (a28 : PySem.W.nsIn K mainGlobals "must_weights" = some (some (.ref f28)))
    (l28 : K.lookup f28 = some ⟨oc28, od28, .func (PySem.W.fnOf "must_weights" "must_weights" (defArgs s_must_weights) (defBody s_must_weights) (defScope s_must_weights) .none kV28 dc28 pm28 an28 cd28 ct28), sl28⟩) (c28 : PySem.W.codeIn K cd28 "must_weights" = true) (k28 : PySem.W.keepIn K (.ref f28) = true)
    (a29 : PySem.W.nsIn K mainGlobals "must_count" = some (some (.ref f29)))
    (l29 : K.lookup f29 = some ⟨oc29, od29, .func (PySem.W.fnOf "must_count" "must_count" (defArgs s_must_count) (defBody s_must_count) (defScope s_must_count) .none kV29 dc29 pm29 an29 cd29 ct29), sl29⟩) (c29 : PySem.W.codeIn K cd29 "must_count" = true) (k29 : PySem.W.keepIn K (.ref f29) = true)
    (a30 : PySem.W.findIn K (.ref C) "__init__" = some (some (.ref f30))) (i30 : PySem.W.isFn K (.ref f30) = true)
    (l30 : K.lookup f30 = some ⟨oc30, od30, .func (PySem.W.fnOf "__init__" "Lanes.__init__" (defArgs s_Lanes_init) (defBody s_Lanes_init) (defScope s_Lanes_init) .none kV30 dc30 pm30 an30 cd30 ct30), sl30⟩) (c30 : PySem.W.codeIn K cd30 "Lanes.__init__" = true) (k30 : PySem.W.keepIn K (.ref f30) = true)
    (a31 : PySem.W.findIn K (.ref C) "lead" = some (some (.ref f31))) (i31 : PySem.W.isFn K (.ref f31) = true)
    (l31 : K.lookup f31 = some ⟨oc31, od31, .func (PySem.W.fnOf "lead" "Lanes.lead" (defArgs s_Lanes_lead) (defBody s_Lanes_lead) (defScope s_Lanes_lead) .none kV31 dc31 pm31 an31 cd31 ct31), sl31⟩) (c31 : PySem.W.codeIn K cd31 "Lanes.lead" = true) (k31 : PySem.W.keepIn K (.ref f31) = true)
    (a32 : PySem.W.findIn K (.ref C) "lead_all" = some (some (.ref f32))) (i32 : PySem.W.isFn K (.ref f32) = true)
    (l32 : K.lookup f32 = some ⟨oc32, od32, .func (PySem.W.fnOf "lead_all" "Lanes.lead_all" (defArgs s_Lanes_lead_all) (defBody s_Lanes_lead_all) (defScope s_Lanes_lead_all) .none kV32 dc32 pm32 an32 cd32 ct32), sl32⟩) (c32 : PySem.W.codeIn K cd32 "Lanes.lead_all" = true) (k32 : PySem.W.keepIn K (.ref f32) = true)
    (a33 : PySem.W.findIn K (.ref C) "look" = some (some (.ref f33))) (i33 : PySem.W.isFn K (.ref f33) = true)
    (l33 : K.lookup f33 = some ⟨oc33, od33, .func (PySem.W.fnOf "look" "Lanes.look" (defArgs s_Lanes_look) (defBody s_Lanes_look) (defScope s_Lanes_look) .none kV33 dc33 pm33 an33 cd33 ct33), sl33⟩) (c33 : PySem.W.codeIn K cd33 "Lanes.look" = true) (k33 : PySem.W.keepIn K (.ref f33) = true)
    (a34 : PySem.W.findIn K (.ref C) "take" = some (some (.ref f34))) (i34 : PySem.W.isFn K (.ref f34) = true)
    (l34 : K.lookup f34 = some ⟨oc34, od34, .func (PySem.W.fnOf "take" "Lanes.take" (defArgs s_Lanes_take) (defBody s_Lanes_take) (defScope s_Lanes_take) .none kV34 dc34 pm34 an34 cd34 ct34), sl34⟩) (c34 : PySem.W.codeIn K cd34 "Lanes.take" = true) (k34 : PySem.W.keepIn K (.ref f34) = true)
    (a35 : PySem.W.nsIn K mainGlobals "heaviest" = some (some (.ref f35)))
    (l35 : K.lookup f35 = some ⟨oc35, od35, .func (PySem.W.fnOf "heaviest" "heaviest" (defArgs s_heaviest) (defBody s_heaviest) (defScope s_heaviest) .none kV35 dc35 pm35 an35 cd35 ct35), sl35⟩) (c35 : PySem.W.codeIn K cd35 "heaviest" = true) (k35 : PySem.W.keepIn K (.ref f35) = true)
    (a36 : PySem.W.nsIn K mainGlobals "given_places" = some (some (.ref f36)))
    (l36 : K.lookup f36 = some ⟨oc36, od36, .func (PySem.W.fnOf "given_places" "given_places" (defArgs s_given_places) (defBody s_given_places) (defScope s_given_places) .none kV36 dc36 pm36 an36 cd36 ct36), sl36⟩) (c36 : PySem.W.codeIn K cd36 "given_places" = true) (k36 : PySem.W.keepIn K (.ref f36) = true)
    (a37 : PySem.W.nsIn K mainGlobals "pressed" = some (some (.ref f37)))
    (l37 : K.lookup f37 = some ⟨oc37, od37, .func (PySem.W.fnOf "pressed" "pressed" (defArgs s_pressed) (defBody s_pressed) (defScope s_pressed) .none kV37 dc37 pm37 an37 cd37 ct37), sl37⟩) (c37 : PySem.W.codeIn K cd37 "pressed" = true) (k37 : PySem.W.keepIn K (.ref f37) = true)
    (a38 : PySem.W.nsIn K mainGlobals "best_before" = some (some (.ref f38)))
    (l38 : K.lookup f38 = some ⟨oc38, od38, .func (PySem.W.fnOf "best_before" "best_before" (defArgs s_best_before) (defBody s_best_before) (defScope s_best_before) .none kV38 dc38 pm38 an38 cd38 ct38), sl38⟩) (c38 : PySem.W.codeIn K cd38 "best_before" = true) (k38 : PySem.W.keepIn K (.ref f38) = true)
    (a39 : PySem.W.nsIn K mainGlobals "best_windows" = some (some (.ref f39)))
    (l39 : K.lookup f39 = some ⟨oc39, od39, .func (PySem.W.fnOf "best_windows" "best_windows" (defArgs s_best_windows) (defBody s_best_windows) (defScope s_best_windows) .none kV39 dc39 pm39 an39 cd39 ct39), sl39⟩) (c39 : PySem.W.codeIn K cd39 "best_windows" = true) (k39 : PySem.W.keepIn K (.ref f39) = true)
    (a40 : PySem.W.nsIn K mainGlobals "giving" = some (some (.ref f40)))
    (l40 : K.lookup f40 = some ⟨oc40, od40, .func (PySem.W.fnOf "giving" "giving" (defArgs s_giving) (defBody s_giving) (defScope s_giving) .none kV40 dc40 pm40 an40 cd40 ct40), sl40⟩) (c40 : PySem.W.codeIn K cd40 "giving" = true) (k40 : PySem.W.keepIn K (.ref f40) = true)
    (a41 : PySem.W.nsIn K mainGlobals "placed" = some (some (.ref f41)))
    (l41 : K.lookup f41 = some ⟨oc41, od41, .func (PySem.W.fnOf "placed" "placed" (defArgs s_placed) (defBody s_placed) (defScope s_placed) .none kV41 dc41 pm41 an41 cd41 ct41), sl41⟩) (c41 : PySem.W.codeIn K cd41 "placed" = true) (k41 : PySem.W.keepIn K (.ref f41) = true)
    (a42 : PySem.W.nsIn K mainGlobals "heaviest_giving" = some (some (.ref f42)))
    (l42 : K.lookup f42 = some ⟨oc42, od42, .func (PySem.W.fnOf "heaviest_giving" "heaviest_giving" (defArgs s_heaviest_giving) (defBody s_heaviest_giving) (defScope s_heaviest_giving) .none kV42 dc42 pm42 an42 cd42 ct42), sl42⟩) (c42 : PySem.W.codeIn K cd42 "heaviest_giving" = true) (k42 : PySem.W.keepIn K (.ref f42) = true)
    (a43 : PySem.W.nsIn K mainGlobals "first_free" = some (some (.ref f43)))
    (l43 : K.lookup f43 = some ⟨oc43, od43, .func (PySem.W.fnOf "first_free" "first_free" (defArgs s_first_free) (defBody s_first_free) (defScope s_first_free) .none kV43 dc43 pm43 an43 cd43 ct43), sl43⟩) (c43 : PySem.W.codeIn K cd43 "first_free" = true) (k43 : PySem.W.keepIn K (.ref f43) = true)
    (a44 : PySem.W.nsIn K mainGlobals "rows_of" = some (some (.ref f44)))
    (l44 : K.lookup f44 = some ⟨oc44, od44, .func (PySem.W.fnOf "rows_of" "rows_of" (defArgs s_rows_of) (defBody s_rows_of) (defScope s_rows_of) .none kV44 dc44 pm44 an44 cd44 ct44), sl44⟩) (c44 : PySem.W.codeIn K cd44 "rows_of" = true) (k44 : PySem.W.keepIn K (.ref f44) = true)
    (a45 : PySem.W.nsIn K mainGlobals "_law_at" = some (some (.ref f45)))
    (l45 : K.lookup f45 = some ⟨oc45, od45, .func (PySem.W.fnOf "_law_at" "_law_at" (defArgs s_law_at) (defBody s_law_at) (defScope s_law_at) .none kV45 dc45 pm45 an45 cd45 ct45), sl45⟩) (c45 : PySem.W.codeIn K cd45 "_law_at" = true) (k45 : PySem.W.keepIn K (.ref f45) = true)
    (a46 : PySem.W.nsIn K mainGlobals "_law_mixed" = some (some (.ref f46)))
    (l46 : K.lookup f46 = some ⟨oc46, od46, .func (PySem.W.fnOf "_law_mixed" "_law_mixed" (defArgs s_law_mixed) (defBody s_law_mixed) (defScope s_law_mixed) .none kV46 dc46 pm46 an46 cd46 ct46), sl46⟩) (c46 : PySem.W.codeIn K cd46 "_law_mixed" = true) (k46 : PySem.W.keepIn K (.ref f46) = true)
    (a47 : PySem.W.nsIn K mainGlobals "_law_purse" = some (some (.ref f47)))
    (l47 : K.lookup f47 = some ⟨oc47, od47, .func (PySem.W.fnOf "_law_purse" "_law_purse" (defArgs s_law_purse) (defBody s_law_purse) (defScope s_law_purse) .none kV47 dc47 pm47 an47 cd47 ct47), sl47⟩) (c47 : PySem.W.codeIn K cd47 "_law_purse" = true) (k47 : PySem.W.keepIn K (.ref f47) = true)
    (a48 : PySem.W.nsIn K mainGlobals "_law_draw" = some (some (.ref f48)))
    (l48 : K.lookup f48 = some ⟨oc48, od48, .func (PySem.W.fnOf "_law_draw" "_law_draw" (defArgs s_law_draw) (defBody s_law_draw) (defScope s_law_draw) .none kV48 dc48 pm48 an48 cd48 ct48), sl48⟩) (c48 : PySem.W.codeIn K cd48 "_law_draw" = true) (k48 : PySem.W.keepIn K (.ref f48) = true)
    (a49 : PySem.W.nsIn K mainGlobals "_law_number" = some (some (.ref f49)))
    (l49 : K.lookup f49 = some ⟨oc49, od49, .func (PySem.W.fnOf "_law_number" "_law_number" (defArgs s_law_number) (defBody s_law_number) (defScope s_law_number) .none kV49 dc49 pm49 an49 cd49 ct49), sl49⟩) (c49 : PySem.W.codeIn K cd49 "_law_number" = true) (k49 : PySem.W.keepIn K (.ref f49) = true)
    (a50 : PySem.W.nsIn K mainGlobals "_law_end" = some (some (.ref f50)))
    (l50 : K.lookup f50 = some ⟨oc50, od50, .func (PySem.W.fnOf "_law_end" "_law_end" (defArgs s_law_end) (defBody s_law_end) (defScope s_law_end) .none kV50 dc50 pm50 an50 cd50 ct50), sl50⟩) (c50 : PySem.W.codeIn K cd50 "_law_end" = true) (k50 : PySem.W.keepIn K (.ref f50) = true)
    (a51 : PySem.W.nsIn K mainGlobals "_law_span" = some (some (.ref f51)))
    (l51 : K.lookup f51 = some ⟨oc51, od51, .func (PySem.W.fnOf "_law_span" "_law_span" (defArgs s_law_span) (defBody s_law_span) (defScope s_law_span) .none kV51 dc51 pm51 an51 cd51 ct51), sl51⟩) (c51 : PySem.W.codeIn K cd51 "_law_span" = true) (k51 : PySem.W.keepIn K (.ref f51) = true)
    (a52 : PySem.W.nsIn K mainGlobals "_law_spans" = some (some (.ref f52)))
    (l52 : K.lookup f52 = some ⟨oc52, od52, .func (PySem.W.fnOf "_law_spans" "_law_spans" (defArgs s_law_spans) (defBody s_law_spans) (defScope s_law_spans) .none kV52 dc52 pm52 an52 cd52 ct52), sl52⟩) (c52 : PySem.W.codeIn K cd52 "_law_spans" = true) (k52 : PySem.W.keepIn K (.ref f52) = true)
    (a53 : PySem.W.nsIn K mainGlobals "_law_added" = some (some (.ref f53)))
    (l53 : K.lookup f53 = some ⟨oc53, od53, .func (PySem.W.fnOf "_law_added" "_law_added" (defArgs s_law_added) (defBody s_law_added) (defScope s_law_added) .none kV53 dc53 pm53 an53 cd53 ct53), sl53⟩) (c53 : PySem.W.codeIn K cd53 "_law_added" = true) (k53 : PySem.W.keepIn K (.ref f53) = true)
    (a54 : PySem.W.nsIn K mainGlobals "_law_greatest" = some (some (.ref f54)))
    (l54 : K.lookup f54 = some ⟨oc54, od54, .func (PySem.W.fnOf "_law_greatest" "_law_greatest" (defArgs s_law_greatest) (defBody s_law_greatest) (defScope s_law_greatest) .none kV54 dc54 pm54 an54 cd54 ct54), sl54⟩) (c54 : PySem.W.codeIn K cd54 "_law_greatest" = true) (k54 : PySem.W.keepIn K (.ref f54) = true)
    (a55 : PySem.W.nsIn K mainGlobals "_law_weights" = some (some (.ref f55)))
    (l55 : K.lookup f55 = some ⟨oc55, od55, .func (PySem.W.fnOf "_law_weights" "_law_weights" (defArgs s_law_weights) (defBody s_law_weights) (defScope s_law_weights) .none kV55 dc55 pm55 an55 cd55 ct55), sl55⟩) (c55 : PySem.W.codeIn K cd55 "_law_weights" = true) (k55 : PySem.W.keepIn K (.ref f55) = true)
    (a56 : PySem.W.nsIn K mainGlobals "_law_woven" = some (some (.ref f56)))
    (l56 : K.lookup f56 = some ⟨oc56, od56, .func (PySem.W.fnOf "_law_woven" "_law_woven" (defArgs s_law_woven) (defBody s_law_woven) (defScope s_law_woven) .none kV56 dc56 pm56 an56 cd56 ct56), sl56⟩) (c56 : PySem.W.codeIn K cd56 "_law_woven" = true) (k56 : PySem.W.keepIn K (.ref f56) = true)
    (a57 : PySem.W.nsIn K mainGlobals "law" = some (some (.ref f57)))
    (l57 : K.lookup f57 = some ⟨oc57, od57, .func (PySem.W.fnOf "law" "law" (defArgs s_law) (defBody s_law) (defScope s_law) .none kV57 dc57 pm57 an57 cd57 ct57), sl57⟩) (c57 : PySem.W.codeIn K cd57 "law" = true) (k57 : PySem.W.keepIn K (.ref f57) = true)
    (v0 : PySem.W.nsIn K mainGlobals "BEYOND" = some (some (.int 1000000000000 t0)))
    (v1 : PySem.W.nsIn K mainGlobals "MOST_SPANS" = some (some (.int 200 t1)))
    (v2 : PySem.W.nsIn K mainGlobals "MOST_WEIGHT" = some (some (.int 1000000000 t2)))
    (v3 : PySem.W.nsIn K mainGlobals "MOST_COUNT" = some (some (.int 20 t3)))
    (z0 : PySem.W.nsIn K mainGlobals "len" = some none)
    (z1 : PySem.W.nsIn K mainGlobals "range" = some none)
    (z2 : PySem.W.nsIn K mainGlobals "sorted" = some none)
    (z3 : PySem.W.nsIn K mainGlobals "enumerate" = some none)
    (z4 : PySem.W.nsIn K mainGlobals "max" = some none)
    (z5 : PySem.W.nsIn K mainGlobals "min" = some none)
    (z6 : PySem.W.nsIn K mainGlobals "list" = some none)
    (z7 : PySem.W.nsIn K mainGlobals "zip" = some none)
    (z8 : PySem.W.nsIn K mainGlobals "sum" = some none)
    (z9 : PySem.W.nsIn K mainGlobals "set" = some none)
    (pg : PySem.W.plainGet K C Str.empty = true) (hd : PySem.W.hasDictIn K C = true) (po : PySem.W.plainOver K C = true) (sa : PySem.W.findIn K (.ref C) "__setattr__" = some (some (.builtin "object.__setattr__"))) (mk : PySem.W.makesIn K C = true) (kc : PySem.W.keepIn K (.ref C) = true)
    (n0 : PySem.W.findIn K (.ref C) "ends" = some none)
    (n1 : PySem.W.findIn K (.ref C) "arcs" = some none)
    (n2 : PySem.W.findIn K (.ref C) "taken" = some none)
    (n3 : PySem.W.findIn K (.ref C) "idle" = some none)
    (n4 : PySem.W.findIn K (.ref C) "far" = some none)
    (n5 : PySem.W.findIn K (.ref C) "steps" = some none) :
    ∃ fd : FuncData, (∀ (s : Shared) (v : Value), BindsTo s fd ⟨[v], []⟩ [("_law_script", v)]) ∧ ∀ base : Heap, K.In base → base.Ns mainGlobals mg → FnOk l.prog w K mg base CX0 24 fa fd ["_law_script"] (sp_law K) := by
  have e := hfa.symm.trans (PySem.W.mg_of X G a57)
  cases e
  let D0 : DefM K "is_place" "is_place" s_is_place ["number"] := ⟨f0, _, fun_mk l0 c0 k0, (fun_mk l0 c0 k0).binds fun _ _ _ _ _ _ us hl => match us, hl with | [_], _ => rfl⟩
  let D1 : DefM K "is_span" "is_span" s_is_span ["span"] := ⟨f1, _, fun_mk l1 c1 k1, (fun_mk l1 c1 k1).binds fun _ _ _ _ _ _ us hl => match us, hl with | [_], _ => rfl⟩
  let D2 : DefM K "must_span" "must_span" s_must_span ["span"] := ⟨f2, _, fun_mk l2 c2 k2, (fun_mk l2 c2 k2).binds fun _ _ _ _ _ _ us hl => match us, hl with | [_], _ => rfl⟩
  let D3 : DefM K "must_spans" "must_spans" s_must_spans ["spans"] := ⟨f3, _, fun_mk l3 c3 k3, (fun_mk l3 c3 k3).binds fun _ _ _ _ _ _ us hl => match us, hl with | [_], _ => rfl⟩
  let D4 : DefM K "holds" "holds" s_holds ["span", "place"] := ⟨f4, _, fun_mk l4 c4 k4, (fun_mk l4 c4 k4).binds fun _ _ _ _ _ _ us hl => match us, hl with | [_, _], _ => rfl⟩
  let D5 : DefM K "is_inside" "is_inside" s_is_inside ["one", "other"] := ⟨f5, _, fun_mk l5 c5 k5, (fun_mk l5 c5 k5).binds fun _ _ _ _ _ _ us hl => match us, hl with | [_, _], _ => rfl⟩
  let D6 : DefM K "under" "under" s_under ["spans", "one", "other"] := ⟨f6, _, fun_mk l6 c6 k6, (fun_mk l6 c6 k6).binds fun _ _ _ _ _ _ us hl => match us, hl with | [_, _, _], _ => rfl⟩
  let D7 : DefM K "upward" "upward" s_upward ["spans"] := ⟨f7, _, fun_mk l7 c7 k7, (fun_mk l7 c7 k7).binds fun _ _ _ _ _ _ us hl => match us, hl with | [_], _ => rfl⟩
  let D8 : DefM K "levels_of" "levels_of" s_levels_of ["spans"] := ⟨f8, _, fun_mk l8 c8 k8, (fun_mk l8 c8 k8).binds fun _ _ _ _ _ _ us hl => match us, hl with | [_], _ => rfl⟩
  let D9 : DefM K "nest" "nest" s_nest ["spans"] := ⟨f9, _, fun_mk l9 c9 k9, (fun_mk l9 c9 k9).binds fun _ _ _ _ _ _ us hl => match us, hl with | [_], _ => rfl⟩
  let D10 : DefM K "may_follow" "may_follow" s_may_follow ["spans", "tried", "led", "number"] := ⟨f10, _, fun_mk l10 c10 k10, (fun_mk l10 c10 k10).binds fun _ _ _ _ _ _ us hl => match us, hl with | [_, _, _, _], _ => rfl⟩
  let D11 : DefM K "followers" "followers" s_followers ["spans"] := ⟨f11, _, fun_mk l11 c11 k11, (fun_mk l11 c11 k11).binds fun _ _ _ _ _ _ us hl => match us, hl with | [_], _ => rfl⟩
  let D12 : DefM K "come_to" "come_to" s_come_to ["spans", "led"] := ⟨f12, _, fun_mk l12 c12 k12, (fun_mk l12 c12 k12).binds fun _ _ _ _ _ _ us hl => match us, hl with | [_, _], _ => rfl⟩
  let D13 : DefM K "nests_of" "nests_of" s_nests_of ["spans", "led"] := ⟨f13, _, fun_mk l13 c13 k13, (fun_mk l13 c13 k13).binds fun _ _ _ _ _ _ us hl => match us, hl with | [_, _], _ => rfl⟩
  let D14 : DefM K "loose" "loose" s_loose ["spans"] := ⟨f14, _, fun_mk l14 c14 k14, (fun_mk l14 c14 k14).binds fun _ _ _ _ _ _ us hl => match us, hl with | [_], _ => rfl⟩
  let D15 : DefM K "most_told" "most_told" s_most_told ["spans"] := ⟨f15, _, fun_mk l15 c15 k15, (fun_mk l15 c15 k15).binds fun _ _ _ _ _ _ us hl => match us, hl with | [_], _ => rfl⟩
  let D16 : DefM K "most_apart" "most_apart" s_most_apart ["spans"] := ⟨f16, _, fun_mk l16 c16 k16, (fun_mk l16 c16 k16).binds fun _ _ _ _ _ _ us hl => match us, hl with | [_], _ => rfl⟩
  let D17 : DefM K "must_cover" "must_cover" s_must_cover ["cover"] := ⟨f17, _, fun_mk l17 c17 k17, (fun_mk l17 c17 k17).binds fun _ _ _ _ _ _ us hl => match us, hl with | [_], _ => rfl⟩
  let D18 : DefM K "poured" "poured" s_poured ["spans"] := ⟨f18, _, fun_mk l18 c18 k18, (fun_mk l18 c18 k18).binds fun _ _ _ _ _ _ us hl => match us, hl with | [_], _ => rfl⟩
  let D19 : DefM K "cover_of" "cover_of" s_cover_of ["spans"] := ⟨f19, _, fun_mk l19 c19 k19, (fun_mk l19 c19 k19).binds fun _ _ _ _ _ _ us hl => match us, hl with | [_], _ => rfl⟩
  let D20 : DefM K "either" "either" s_either ["one", "other"] := ⟨f20, _, fun_mk l20 c20 k20, (fun_mk l20 c20 k20).binds fun _ _ _ _ _ _ us hl => match us, hl with | [_, _], _ => rfl⟩
  let D21 : DefM K "held" "held" s_held ["cover"] := ⟨f21, _, fun_mk l21 c21 k21, (fun_mk l21 c21 k21).binds fun _ _ _ _ _ _ us hl => match us, hl with | [_], _ => rfl⟩
  let D22 : DefM K "depth_in" "depth_in" s_depth_in ["spans", "place"] := ⟨f22, _, fun_mk l22 c22 k22, (fun_mk l22 c22 k22).binds fun _ _ _ _ _ _ us hl => match us, hl with | [_, _], _ => rfl⟩
  let D23 : DefM K "ends_of" "ends_of" s_ends_of ["spans"] := ⟨f23, _, fun_mk l23 c23 k23, (fun_mk l23 c23 k23).binds fun _ _ _ _ _ _ us hl => match us, hl with | [_], _ => rfl⟩
  let D24 : DefM K "pieces" "pieces" s_pieces ["spans"] := ⟨f24, _, fun_mk l24 c24 k24, (fun_mk l24 c24 k24).binds fun _ _ _ _ _ _ us hl => match us, hl with | [_], _ => rfl⟩
  let D25 : DefM K "deepest_in" "deepest_in" s_deepest_in ["spans"] := ⟨f25, _, fun_mk l25 c25 k25, (fun_mk l25 c25 k25).binds fun _ _ _ _ _ _ us hl => match us, hl with | [_], _ => rfl⟩
  let D26 : DefM K "deepest" "deepest" s_deepest ["spans"] := ⟨f26, _, fun_mk l26 c26 k26, (fun_mk l26 c26 k26).binds fun _ _ _ _ _ _ us hl => match us, hl with | [_], _ => rfl⟩
  let D27 : DefM K "must_weight" "must_weight" s_must_weight ["weight"] := ⟨f27, _, fun_mk l27 c27 k27, (fun_mk l27 c27 k27).binds fun _ _ _ _ _ _ us hl => match us, hl with | [_], _ => rfl⟩
  let D28 : DefM K "must_weights" "must_weights" s_must_weights ["weights", "many"] := ⟨f28, _, fun_mk l28 c28 k28, (fun_mk l28 c28 k28).binds fun _ _ _ _ _ _ us hl => match us, hl with | [_, _], _ => rfl⟩
  let D29 : DefM K "must_count" "must_count" s_must_count ["k"] := ⟨f29, _, fun_mk l29 c29 k29, (fun_mk l29 c29 k29).binds fun _ _ _ _ _ _ us hl => match us, hl with | [_], _ => rfl⟩
  let D30 : DefM K "__init__" "Lanes.__init__" s_Lanes_init ["self", "spans", "weights"] := ⟨f30, _, fun_mk l30 c30 k30, (fun_mk l30 c30 k30).binds fun _ _ _ _ _ _ us hl => match us, hl with | [_, _, _], _ => rfl⟩
  let D31 : DefM K "lead" "Lanes.lead" s_Lanes_lead ["self", "start", "goal", "gain", "step"] := ⟨f31, _, fun_mk l31 c31 k31, (fun_mk l31 c31 k31).binds fun _ _ _ _ _ _ us hl => match us, hl with | [_, _, _, _, _], _ => rfl⟩
  let D32 : DefM K "lead_all" "Lanes.lead_all" s_Lanes_lead_all ["self"] := ⟨f32, _, fun_mk l32 c32 k32, (fun_mk l32 c32 k32).binds fun _ _ _ _ _ _ us hl => match us, hl with | [_], _ => rfl⟩
  let D33 : DefM K "look" "Lanes.look" s_Lanes_look ["self"] := ⟨f33, _, fun_mk l33 c33 k33, (fun_mk l33 c33 k33).binds fun _ _ _ _ _ _ us hl => match us, hl with | [_], _ => rfl⟩
  let D34 : DefM K "take" "Lanes.take" s_Lanes_take ["self"] := ⟨f34, _, fun_mk l34 c34 k34, (fun_mk l34 c34 k34).binds fun _ _ _ _ _ _ us hl => match us, hl with | [_], _ => rfl⟩
  let D35 : DefM K "heaviest" "heaviest" s_heaviest ["spans", "weights", "k"] := ⟨f35, _, fun_mk l35 c35 k35, (fun_mk l35 c35 k35).binds fun _ _ _ _ _ _ us hl => match us, hl with | [_, _, _], _ => rfl⟩
  let D36 : DefM K "given_places" "given_places" s_given_places ["spans"] := ⟨f36, _, fun_mk l36 c36 k36, (fun_mk l36 c36 k36).binds fun _ _ _ _ _ _ us hl => match us, hl with | [_], _ => rfl⟩
  let D37 : DefM K "pressed" "pressed" s_pressed ["spans", "window"] := ⟨f37, _, fun_mk l37 c37 k37, (fun_mk l37 c37 k37).binds fun _ _ _ _ _ _ us hl => match us, hl with | [_, _], _ => rfl⟩
  let D38 : DefM K "best_before" "best_before" s_best_before ["best", "highs", "low"] := ⟨f38, _, fun_mk l38 c38 k38, (fun_mk l38 c38 k38).binds fun _ _ _ _ _ _ us hl => match us, hl with | [_, _, _], _ => rfl⟩
  let D39 : DefM K "best_windows" "best_windows" s_best_windows ["spans"] := ⟨f39, _, fun_mk l39 c39 k39, (fun_mk l39 c39 k39).binds fun _ _ _ _ _ _ us hl => match us, hl with | [_], _ => rfl⟩
  let D40 : DefM K "giving" "giving" s_giving ["spans"] := ⟨f40, _, fun_mk l40 c40 k40, (fun_mk l40 c40 k40).binds fun _ _ _ _ _ _ us hl => match us, hl with | [_], _ => rfl⟩
  let D41 : DefM K "placed" "placed" s_placed ["spans", "numbers"] := ⟨f41, _, fun_mk l41 c41 k41, (fun_mk l41 c41 k41).binds fun _ _ _ _ _ _ us hl => match us, hl with | [_, _], _ => rfl⟩
  let D42 : DefM K "heaviest_giving" "heaviest_giving" s_heaviest_giving ["spans", "weights"] := ⟨f42, _, fun_mk l42 c42 k42, (fun_mk l42 c42 k42).binds fun _ _ _ _ _ _ us hl => match us, hl with | [_, _], _ => rfl⟩
  let D43 : DefM K "first_free" "first_free" s_first_free ["ends", "low"] := ⟨f43, _, fun_mk l43 c43 k43, (fun_mk l43 c43 k43).binds fun _ _ _ _ _ _ us hl => match us, hl with | [_, _], _ => rfl⟩
  let D44 : DefM K "rows_of" "rows_of" s_rows_of ["spans"] := ⟨f44, _, fun_mk l44 c44 k44, (fun_mk l44 c44 k44).binds fun _ _ _ _ _ _ us hl => match us, hl with | [_], _ => rfl⟩
  let D45 : DefM K "_law_at" "_law_at" s_law_at ["_law_script", "_law_k"] := ⟨f45, _, fun_mk l45 c45 k45, (fun_mk l45 c45 k45).binds fun _ _ _ _ _ _ us hl => match us, hl with | [_, _], _ => rfl⟩
  let D46 : DefM K "_law_mixed" "_law_mixed" s_law_mixed ["_law_cell", "_law_k"] := ⟨f46, _, fun_mk l46 c46 k46, (fun_mk l46 c46 k46).binds fun _ _ _ _ _ _ us hl => match us, hl with | [_, _], _ => rfl⟩
  let D47 : DefM K "_law_purse" "_law_purse" s_law_purse ["_law_script", "_law_at_here"] := ⟨f47, _, fun_mk l47 c47 k47, (fun_mk l47 c47 k47).binds fun _ _ _ _ _ _ us hl => match us, hl with | [_, _], _ => rfl⟩
  let D48 : DefM K "_law_draw" "_law_draw" s_law_draw ["_law_purse_here", "_law_out_of"] := ⟨f48, _, fun_mk l48 c48 k48, (fun_mk l48 c48 k48).binds fun _ _ _ _ _ _ us hl => match us, hl with | [_, _], _ => rfl⟩
  let D49 : DefM K "_law_number" "_law_number" s_law_number ["_law_purse_here", "_law_most"] := ⟨f49, _, fun_mk l49 c49 k49, (fun_mk l49 c49 k49).binds fun _ _ _ _ _ _ us hl => match us, hl with | [_, _], _ => rfl⟩
  let D50 : DefM K "_law_end" "_law_end" s_law_end ["_law_purse_here", "_law_ends", "_law_most"] := ⟨f50, _, fun_mk l50 c50 k50, (fun_mk l50 c50 k50).binds fun _ _ _ _ _ _ us hl => match us, hl with | [_, _, _], _ => rfl⟩
  let D51 : DefM K "_law_span" "_law_span" s_law_span ["_law_purse_here", "_law_ends", "_law_most"] := ⟨f51, _, fun_mk l51 c51 k51, (fun_mk l51 c51 k51).binds fun _ _ _ _ _ _ us hl => match us, hl with | [_, _, _], _ => rfl⟩
  let D52 : DefM K "_law_spans" "_law_spans" s_law_spans ["_law_purse_here", "_law_many", "_law_most"] := ⟨f52, _, fun_mk l52 c52 k52, (fun_mk l52 c52 k52).binds fun _ _ _ _ _ _ us hl => match us, hl with | [_, _, _], _ => rfl⟩
  let D53 : DefM K "_law_added" "_law_added" s_law_added ["_law_spans_here"] := ⟨f53, _, fun_mk l53 c53 k53, (fun_mk l53 c53 k53).binds fun _ _ _ _ _ _ us hl => match us, hl with | [_], _ => rfl⟩
  let D54 : DefM K "_law_greatest" "_law_greatest" s_law_greatest ["_law_spans_here"] := ⟨f54, _, fun_mk l54 c54 k54, (fun_mk l54 c54 k54).binds fun _ _ _ _ _ _ us hl => match us, hl with | [_], _ => rfl⟩
  let D55 : DefM K "_law_weights" "_law_weights" s_law_weights ["_law_spans_here", "_law_weights_here", "_law_k"] := ⟨f55, _, fun_mk l55 c55 k55, (fun_mk l55 c55 k55).binds fun _ _ _ _ _ _ us hl => match us, hl with | [_, _, _], _ => rfl⟩
  let D56 : DefM K "_law_woven" "_law_woven" s_law_woven ["_law_purse_here", "_law_one", "_law_other"] := ⟨f56, _, fun_mk l56 c56 k56, (fun_mk l56 c56 k56).binds fun _ _ _ _ _ _ us hl => match us, hl with | [_, _, _], _ => rfl⟩
  let D57 : DefM K "law" "law" s_law ["_law_script"] := ⟨fa, _, fun_mk l57 c57 k57, (fun_mk l57 c57 k57).binds fun _ _ _ _ _ _ us hl => match us, hl with | [_], _ => rfl⟩
  let T : Txt K mg := {
    is_place := { D0 with g := PySem.W.mg_of X G a0 },
    is_span := { D1 with g := PySem.W.mg_of X G a1 },
    must_span := { D2 with g := PySem.W.mg_of X G a2 },
    must_spans := { D3 with g := PySem.W.mg_of X G a3 },
    holds := { D4 with g := PySem.W.mg_of X G a4 },
    is_inside := { D5 with g := PySem.W.mg_of X G a5 },
    under := { D6 with g := PySem.W.mg_of X G a6 },
    upward := { D7 with g := PySem.W.mg_of X G a7 },
    levels_of := { D8 with g := PySem.W.mg_of X G a8 },
    nest := { D9 with g := PySem.W.mg_of X G a9 },
    may_follow := { D10 with g := PySem.W.mg_of X G a10 },
    followers := { D11 with g := PySem.W.mg_of X G a11 },
    come_to := { D12 with g := PySem.W.mg_of X G a12 },
    nests_of := { D13 with g := PySem.W.mg_of X G a13 },
    loose := { D14 with g := PySem.W.mg_of X G a14 },
    most_told := { D15 with g := PySem.W.mg_of X G a15 },
    most_apart := { D16 with g := PySem.W.mg_of X G a16 },
    must_cover := { D17 with g := PySem.W.mg_of X G a17 },
    poured := { D18 with g := PySem.W.mg_of X G a18 },
    cover_of := { D19 with g := PySem.W.mg_of X G a19 },
    either := { D20 with g := PySem.W.mg_of X G a20 },
    held := { D21 with g := PySem.W.mg_of X G a21 },
    depth_in := { D22 with g := PySem.W.mg_of X G a22 },
    ends_of := { D23 with g := PySem.W.mg_of X G a23 },
    pieces := { D24 with g := PySem.W.mg_of X G a24 },
    deepest_in := { D25 with g := PySem.W.mg_of X G a25 },
    deepest := { D26 with g := PySem.W.mg_of X G a26 },
    must_weight := { D27 with g := PySem.W.mg_of X G a27 },
    must_weights := { D28 with g := PySem.W.mg_of X G a28 },
    must_count := { D29 with g := PySem.W.mg_of X G a29 },
    Lanes_init := D30,
    Lanes_lead := D31,
    Lanes_lead_all := D32,
    Lanes_look := D33,
    Lanes_take := D34,
    heaviest := { D35 with g := PySem.W.mg_of X G a35 },
    given_places := { D36 with g := PySem.W.mg_of X G a36 },
    pressed := { D37 with g := PySem.W.mg_of X G a37 },
    best_before := { D38 with g := PySem.W.mg_of X G a38 },
    best_windows := { D39 with g := PySem.W.mg_of X G a39 },
    giving := { D40 with g := PySem.W.mg_of X G a40 },
    placed := { D41 with g := PySem.W.mg_of X G a41 },
    heaviest_giving := { D42 with g := PySem.W.mg_of X G a42 },
    first_free := { D43 with g := PySem.W.mg_of X G a43 },
    rows_of := { D44 with g := PySem.W.mg_of X G a44 },
    law_at := { D45 with g := PySem.W.mg_of X G a45 },
    law_mixed := { D46 with g := PySem.W.mg_of X G a46 },
    law_purse := { D47 with g := PySem.W.mg_of X G a47 },
    law_draw := { D48 with g := PySem.W.mg_of X G a48 },
    law_number := { D49 with g := PySem.W.mg_of X G a49 },
    law_end := { D50 with g := PySem.W.mg_of X G a50 },
    law_span := { D51 with g := PySem.W.mg_of X G a51 },
    law_spans := { D52 with g := PySem.W.mg_of X G a52 },
    law_added := { D53 with g := PySem.W.mg_of X G a53 },
    law_greatest := { D54 with g := PySem.W.mg_of X G a54 },
    law_weights := { D55 with g := PySem.W.mg_of X G a55 },
    law_woven := { D56 with g := PySem.W.mg_of X G a56 },
    law := { D57 with g := PySem.W.mg_of X G a57 },
    c_BEYOND := ⟨_, PySem.W.mg_of X G v0⟩,
    c_MOST_SPANS := ⟨_, PySem.W.mg_of X G v1⟩,
    c_MOST_WEIGHT := ⟨_, PySem.W.mg_of X G v2⟩,
    c_MOST_COUNT := ⟨_, PySem.W.mg_of X G v3⟩,
    b_len := PySem.W.mg_none_of X G z0,
    b_range := PySem.W.mg_none_of X G z1,
    b_sorted := PySem.W.mg_none_of X G z2,
    b_enumerate := PySem.W.mg_none_of X G z3,
    b_max := PySem.W.mg_none_of X G z4,
    b_min := PySem.W.mg_none_of X G z5,
    b_list := PySem.W.mg_none_of X G z6,
    b_zip := PySem.W.mg_none_of X G z7,
    b_sum := PySem.W.mg_none_of X G z8,
    b_set := PySem.W.mg_none_of X G z9,
    C := C,
    cl := ⟨pg, hd, po, sa⟩,
    mgC := PySem.W.mg_of X G aC,
    mkL := ⟨mk, a30, i30, kc⟩,
    n_ends := n0,
    n_arcs := n1,
    n_taken := n2,
    n_idle := n3,
    n_far := n4,
    n_steps := n5,
    m_lead := ⟨a31, i31, k31⟩,
    m_lead_all := ⟨a32, i32, k32⟩,
    m_look := ⟨a33, i33, k33⟩,
    m_take := ⟨a34, i34, k34⟩ }
  exact ⟨PySem.W.fnOf "law" "law" (defArgs s_law) (defBody s_law) (defScope s_law) .none kV57 dc57 pm57 an57 cd57 ct57, fun s v => .of_eq rfl, fun base _ _ => ok_law T⟩
end Sh

open PySem PySem.W PyProof.Rows
set_option maxHeartbeats 0 in
theorem PySem.Challenge.cw_spanshelf_k48_whole_lists_beside_holds : PySem.Challenge.rw_spanshelf_k48_whole_lists_beside.Holds := by
  w_on; o_law; k_head; (case hw => w_witness2)
  k_fill
  refine L2.walk_of (l := PySem.Challenge.rw_spanshelf_k48_whole_lists_beside) (n := 63) (k := 24) (x := "_law_script") (CX := fun _ => L2.CX0) (sp := fun w => Sh.sp_law _) rfl (by decide) rfl ⟨rfl, by decide, by decide⟩ (fun w h Y => PySem.W.kIn_of Y) ?F (fun _ _ a ns hl _ hS => ⟨a, ns, rfl, hS, fun _ => rfl⟩) (fun _ _ _ _ _ h => h)
  case F =>
    intro w mg fa h KX G hmg
    refine' Sh.all_mk KX G hmg ?aC ?a0 ?l0 ?c0 ?k0 ?a1 ?l1 ?c1 ?k1 ?a2 ?l2 ?c2 ?k2 ?a3 ?l3 ?c3 ?k3 ?a4 ?l4 ?c4 ?k4 ?a5 ?l5 ?c5 ?k5 ?a6 ?l6 ?c6 ?k6 ?a7 ?l7 ?c7 ?k7 ?a8 ?l8 ?c8 ?k8 ?a9 ?l9 ?c9 ?k9 ?a10 ?l10 ?c10 ?k10 ?a11 ?l11 ?c11 ?k11 ?a12 ?l12 ?c12 ?k12 ?a13 ?l13 ?c13 ?k13 ?a14 ?l14 ?c14 ?k14 ?a15 ?l15 ?c15 ?k15 ?a16 ?l16 ?c16 ?k16 ?a17 ?l17 ?c17 ?k17 ?a18 ?l18 ?c18 ?k18 ?a19 ?l19 ?c19 ?k19 ?a20 ?l20 ?c20 ?k20 ?a21 ?l21 ?c21 ?k21 ?a22 ?l22 ?c22 ?k22 ?a23 ?l23 ?c23 ?k23 ?a24 ?l24 ?c24 ?k24 ?a25 ?l25 ?c25 ?k25 ?a26 ?l26 ?c26 ?k26 ?a27 ?l27 ?c27 ?k27 ?a28 ?l28 ?c28 ?k28 ?a29 ?l29 ?c29 ?k29 ?a30 ?i30 ?l30 ?c30 ?k30 ?a31 ?i31 ?l31 ?c31 ?k31 ?a32 ?i32 ?l32 ?c32 ?k32 ?a33 ?i33 ?l33 ?c33 ?k33 ?a34 ?i34 ?l34 ?c34 ?k34 ?a35 ?l35 ?c35 ?k35 ?a36 ?l36 ?c36 ?k36 ?a37 ?l37 ?c37 ?k37 ?a38 ?l38 ?c38 ?k38 ?a39 ?l39 ?c39 ?k39 ?a40 ?l40 ?c40 ?k40 ?a41 ?l41 ?c41 ?k41 ?a42 ?l42 ?c42 ?k42 ?a43 ?l43 ?c43 ?k43 ?a44 ?l44 ?c44 ?k44 ?a45 ?l45 ?c45 ?k45 ?a46 ?l46 ?c46 ?k46 ?a47 ?l47 ?c47 ?k47 ?a48 ?l48 ?c48 ?k48 ?a49 ?l49 ?c49 ?k49 ?a50 ?l50 ?c50 ?k50 ?a51 ?l51 ?c51 ?k51 ?a52 ?l52 ?c52 ?k52 ?a53 ?l53 ?c53 ?k53 ?a54 ?l54 ?c54 ?k54 ?a55 ?l55 ?c55 ?k55 ?a56 ?l56 ?c56 ?k56 ?a57 ?l57 ?c57 ?k57 ?v0 ?v1 ?v2 ?v3 ?z0 ?z1 ?z2 ?z3 ?z4 ?z5 ?z6 ?z7 ?z8 ?z9 ?pg ?hd ?po ?sa ?mk ?kc ?n0 ?n1 ?n2 ?n3 ?n4 ?n5
    (case aC => k_is)
    (case a0 => k_is)
    (case l0 => k_is)
    (case c0 => k_is)
    (case k0 => k_is)
    (case a1 => k_is)
    (case l1 => k_is)
    (case c1 => k_is)
    (case k1 => k_is)
    (case a2 => k_is)
    (case l2 => k_is)
    (case c2 => k_is)
    (case k2 => k_is)
    (case a3 => k_is)
    (case l3 => k_is)
    (case c3 => k_is)
    (case k3 => k_is)
    (case a4 => k_is)
    (case l4 => k_is)
    (case c4 => k_is)
    (case k4 => k_is)
    (case a5 => k_is)
    (case l5 => k_is)
    (case c5 => k_is)
    (case k5 => k_is)
    (case a6 => k_is)
    (case l6 => k_is)
    (case c6 => k_is)
    (case k6 => k_is)
    (case a7 => k_is)
    (case l7 => k_is)
    (case c7 => k_is)
    (case k7 => k_is)
    (case a8 => k_is)
    (case l8 => k_is)
    (case c8 => k_is)
    (case k8 => k_is)
    (case a9 => k_is)
    (case l9 => k_is)
    (case c9 => k_is)
    (case k9 => k_is)
    (case a10 => k_is)
    (case l10 => k_is)
    (case c10 => k_is)
    (case k10 => k_is)
    (case a11 => k_is)
    (case l11 => k_is)
    (case c11 => k_is)
    (case k11 => k_is)
    (case a12 => k_is)
    (case l12 => k_is)
    (case c12 => k_is)
    (case k12 => k_is)
    (case a13 => k_is)
    (case l13 => k_is)
    (case c13 => k_is)
    (case k13 => k_is)
    (case a14 => k_is)
    (case l14 => k_is)
    (case c14 => k_is)
    (case k14 => k_is)
    (case a15 => k_is)
    (case l15 => k_is)
    (case c15 => k_is)
    (case k15 => k_is)
    (case a16 => k_is)
    (case l16 => k_is)
    (case c16 => k_is)
    (case k16 => k_is)
    (case a17 => k_is)
    (case l17 => k_is)
    (case c17 => k_is)
    (case k17 => k_is)
    (case a18 => k_is)
    (case l18 => k_is)
    (case c18 => k_is)
    (case k18 => k_is)
    (case a19 => k_is)
    (case l19 => k_is)
    (case c19 => k_is)
    (case k19 => k_is)
    (case a20 => k_is)
    (case l20 => k_is)
    (case c20 => k_is)
    (case k20 => k_is)
    (case a21 => k_is)
    (case l21 => k_is)
    (case c21 => k_is)
    (case k21 => k_is)
    (case a22 => k_is)
    (case l22 => k_is)
    (case c22 => k_is)
    (case k22 => k_is)
    (case a23 => k_is)
    (case l23 => k_is)
    (case c23 => k_is)
    (case k23 => k_is)
    (case a24 => k_is)
    (case l24 => k_is)
    (case c24 => k_is)
    (case k24 => k_is)
    (case a25 => k_is)
    (case l25 => k_is)
    (case c25 => k_is)
    (case k25 => k_is)
    (case a26 => k_is)
    (case l26 => k_is)
    (case c26 => k_is)
    (case k26 => k_is)
    (case a27 => k_is)
    (case l27 => k_is)
    (case c27 => k_is)
    (case k27 => k_is)
    (case a28 => k_is)
    (case l28 => k_is)
    (case c28 => k_is)
    (case k28 => k_is)
    (case a29 => k_is)
    (case l29 => k_is)
    (case c29 => k_is)
    (case k29 => k_is)
    (case a30 => k_is)
    (case i30 => k_is)
    (case l30 => k_is)
    (case c30 => k_is)
    (case k30 => k_is)
    (case a31 => k_is)
    (case i31 => k_is)
    (case l31 => k_is)
    (case c31 => k_is)
    (case k31 => k_is)
    (case a32 => k_is)
    (case i32 => k_is)
    (case l32 => k_is)
    (case c32 => k_is)
    (case k32 => k_is)
    (case a33 => k_is)
    (case i33 => k_is)
    (case l33 => k_is)
    (case c33 => k_is)
    (case k33 => k_is)
    (case a34 => k_is)
    (case i34 => k_is)
    (case l34 => k_is)
    (case c34 => k_is)
    (case k34 => k_is)
    (case a35 => k_is)
    (case l35 => k_is)
    (case c35 => k_is)
    (case k35 => k_is)
    (case a36 => k_is)
    (case l36 => k_is)
    (case c36 => k_is)
    (case k36 => k_is)
    (case a37 => k_is)
    (case l37 => k_is)
    (case c37 => k_is)
    (case k37 => k_is)
    (case a38 => k_is)
    (case l38 => k_is)
    (case c38 => k_is)
    (case k38 => k_is)
    (case a39 => k_is)
    (case l39 => k_is)
    (case c39 => k_is)
    (case k39 => k_is)
    (case a40 => k_is)
    (case l40 => k_is)
    (case c40 => k_is)
    (case k40 => k_is)
    (case a41 => k_is)
    (case l41 => k_is)
    (case c41 => k_is)
    (case k41 => k_is)
    (case a42 => k_is)
    (case l42 => k_is)
    (case c42 => k_is)
    (case k42 => k_is)
    (case a43 => k_is)
    (case l43 => k_is)
    (case c43 => k_is)
    (case k43 => k_is)
    (case a44 => k_is)
    (case l44 => k_is)
    (case c44 => k_is)
    (case k44 => k_is)
    (case a45 => k_is)
    (case l45 => k_is)
    (case c45 => k_is)
    (case k45 => k_is)
    (case a46 => k_is)
    (case l46 => k_is)
    (case c46 => k_is)
    (case k46 => k_is)
    (case a47 => k_is)
    (case l47 => k_is)
    (case c47 => k_is)
    (case k47 => k_is)
    (case a48 => k_is)
    (case l48 => k_is)
    (case c48 => k_is)
    (case k48 => k_is)
    (case a49 => k_is)
    (case l49 => k_is)
    (case c49 => k_is)
    (case k49 => k_is)
    (case a50 => k_is)
    (case l50 => k_is)
    (case c50 => k_is)
    (case k50 => k_is)
    (case a51 => k_is)
    (case l51 => k_is)
    (case c51 => k_is)
    (case k51 => k_is)
    (case a52 => k_is)
    (case l52 => k_is)
    (case c52 => k_is)
    (case k52 => k_is)
    (case a53 => k_is)
    (case l53 => k_is)
    (case c53 => k_is)
    (case k53 => k_is)
    (case a54 => k_is)
    (case l54 => k_is)
    (case c54 => k_is)
    (case k54 => k_is)
    (case a55 => k_is)
    (case l55 => k_is)
    (case c55 => k_is)
    (case k55 => k_is)
    (case a56 => k_is)
    (case l56 => k_is)
    (case c56 => k_is)
    (case k56 => k_is)
    (case a57 => k_is)
    (case l57 => k_is)
    (case c57 => k_is)
    (case k57 => k_is)
    (case v0 => k_is)
    (case v1 => k_is)
    (case v2 => k_is)
    (case v3 => k_is)
    (case z0 => k_is)
    (case z1 => k_is)
    (case z2 => k_is)
    (case z3 => k_is)
    (case z4 => k_is)
    (case z5 => k_is)
    (case z6 => k_is)
    (case z7 => k_is)
    (case z8 => k_is)
    (case z9 => k_is)
    (case pg => k_is)
    (case hd => k_is)
    (case po => k_is)
    (case sa => k_is)
    (case mk => k_is)
    (case kc => k_is)
    (case n0 => k_is)
    (case n1 => k_is)
    (case n2 => k_is)
    (case n3 => k_is)
    (case n4 => k_is)
    (case n5 => k_is)
