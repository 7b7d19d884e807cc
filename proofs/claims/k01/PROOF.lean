import PyProof.Rows.All
import Wide.All
import OpenK.AllK
import Wide.FinOn
import HandS.ForMost
import HandS.SetFor
import HandS.Strs
import HandS.Evl
import HandS.Walk
import HandS.Conv
import HandS.Style
import HandS.IsInst
import HandS.SortInts
import HandS.Zip
import PySem.Challenge.RW_keyblock_k01_rows_of_cells
set_option Elab.async false
set_option linter.all false
set_option maxRecDepth 100000
set_option maxHeartbeats 4000000
/-! KbSet: the set of a list of ints, as a rule of the layer. -/
namespace L2
open PySem PySem.Spec PyProof.Rows
section
variable {P : Program} {w : World} {A : Around} {E : Value → Shared → Prop} {s : Shared}
/-- the object that set.__new__ lays -/
abbrev kbSet0 (w : World) : Obj := { cls := .type "set", dict := none, data := .set #[] 0 (.fresh 0 0 (!w.params.followText "set-order")) }
theorem kb_set_listI {l : Addr} {items : Array Value} (ns : List Int) {Q : Value → Shared → Prop} (hh : A.handled = none) (hl : s.heap.IsList l items) (hit : IntsAre items.toList ns) (hb : ns.length + 1 < scanBound)
    (h : ∀ (h' : Heap) (tk c : Nat), SetR w h' s.heap.objs.size (fun j => decide (j ∈ ns)) c → c ≤ ns.length → (∀ b o, s.heap.get? b = some o → h'.get? b = some o) → Q (.ref s.heap.objs.size) { s with heap := h', toks := tk }) :
    wpAny (model P w) A (call (.type "set") [.ref l]) Q E s := by
  have hisz : items.size = ns.length := by
    have q := IntsAre.length hit
    rw [Array.length_toList] at q
    exact q
  obtain ⟨c, tl, hmro⟩ := F.called_set.mro
  have hmade := F.called_set.made
  have hsub := F.called_set.sub
  refine wpAny_call (codeAny_of_tree ?_)
  show wpAny _ _ (callAny (.type "set") _) _ _ _
  refine wpAny_pure ⟨Code.quiet_builtin _ (by decide +kernel), codeAny_builtin F.entry_type_call ?_⟩
  rw [Around.under_plain (weight_type_call_type "set" [.ref l] []) rfl]
  have h1 := F.called_set.notType
  have h2 := F.called_set.canCreate
  have hct := F.typeCall_set_1 (.ref l)
  repeat (any_goals (first | assumption | wp_step))
  refine codeAny_mono (code_set_led1 (.ref l) (E := E) (Q₁ := fun obj s₁ => obj = .ref s.heap.objs.size ∧ s₁ = { s with heap := s.heap.push (kbSet0 w) }) ⟨rfl, rfl⟩) fun r s₁ hr => ?_
  cases r with
  | error e => exact hr
  | ok fl =>
    cases fl with
    | ret obj =>
      obtain ⟨rfl, rfl⟩ := hr
      have hS : (s.heap.push (kbSet0 w)).get? s.heap.objs.size = some (kbSet0 w) := Heap.get?_push_size _ rfl
      have hT : Shared.TypeIs { s with heap := s.heap.push (kbSet0 w) } (.ref s.heap.objs.size) "set" := ⟨_, hS, rfl⟩
      have hli := F.called_set.init.lookup
      have hbi := F.called_set.init.bind (.ref s.heap.objs.size)
      repeat (any_goals (first | assumption | wp_step))
      refine codeAny_mono (codeAny_call_builtin (R := wants (fun r s₂ => r = .none ∧ ∃ h' tk c, s₂ = { s with heap := h', toks := tk } ∧ SetR w h' s.heap.objs.size (fun j => decide (j ∈ ns)) c ∧ c ≤ ns.length ∧
          (∀ b o, s.heap.get? b = some o → h'.get? b = some o)) E) F.called_set.init.plain F.entry_set_init (check_set_init_1 hT ?_)) fun r₂ s₂ hr₂ => ?_
      · obtain ⟨ol, hol, hcl, nl, hdl⟩ := hl
        obtain ⟨ocls, odict, odata, oslots⟩ := ol
        simp only at hcl hdl
        subst hcl; subst hdl
        have hol' : (s.heap.push (kbSet0 w)).get? l = some { cls := .type "list", dict := odict, data := .seq items nl, slots := oslots } := Heap.get?_push_of_some _ hol
        have hsls := F.sub_list_set
        have hslf := F.sub_list_frozenset
        have hne : (Value.type "list" == Value.type "dict") = false := by decide
        have hl1 : (s.heap.push (kbSet0 w)).IsList l items := ⟨_, hol', rfl, nl, rfl⟩
        unfold Builtin.«set.__init__» noKeywords Builtin.Frozenset.updateFrom
        generalize hPI : pyIter = PI
        wp_walk
        subst hPI
        refine wpAny_pyIter_list hl1 ?_
        refine wpAny_bind (wpAny_runValue ?_)
        have hlS : l < s.heap.objs.size := Heap.lt_size hol
        have hh3 : A.in1.in1.in1.handled = none := by simp [hh]
        have hneI : l ≠ (s.heap.push (kbSet0 w)).objs.size := by
          rw [Heap.size_push]; exact Nat.ne_of_lt (Nat.lt_succ_of_lt hlS)
        have hSf : s.heap.objs.size ∉ [(s.heap.push (kbSet0 w)).objs.size, l] := by
          rw [Heap.size_push]; simp only [List.mem_cons, List.mem_singleton, List.not_mem_nil, or_false, not_or]
          exact ⟨Nat.ne_of_lt (Nat.lt_succ_self _), Nat.ne_of_gt hlS⟩
        have hval : ∀ (i : Nat) (v : Value), items[i]? = some v → ∃ k t, ns[i]? = some k ∧ v = .int k t := fun i v hv => by
          have hi : i < ns.length := by rw [← hisz]; exact (Array.getElem?_eq_some_iff.mp hv).1
          obtain ⟨t, e⟩ := PyProof.Rows.IntsAre.int_at hit i v (by rw [Array.getElem?_toList]; exact hv)
          refine ⟨ns[i], t, List.getElem?_eq_getElem hi, ?_⟩
          rw [e, List.getD_eq_getElem?_getD, List.getElem?_eq_getElem hi] <;> rfl
        refine set_update_ints ((Walks.list hh3 _ l hneI items).toS) s.heap.objs.size
          hSf ns hisz hb hval (items.size - 0) 0 _ (by omega) (Nat.zero_le _)
          ⟨⟨_, Heap.get?_push_size _ rfl, rfl, rfl⟩, (hl1.push _)⟩ ?hS0 ?hR
        case hS0 =>
          have hget : ((s.heap.push (kbSet0 w)).push { cls := .type "list_iterator", data := .fields #[.ref l, .int 0 0] }).get? s.heap.objs.size
              = some (kbSet0 w) := Heap.get?_push_of_some _ hS
          exact ⟨0, Nat.le_refl 0, setR_new_at hget⟩
        case hR =>
          intro s' c' hm hc' hS'
          obtain ⟨h', g2, d', tk', os'⟩ := s'
          have eg : g2 = s.gens := hm.gens
          have ed : d' = s.drawn := hm.drawn
          have eo : os' = s.os := hm.os
          subst eg; subst ed; subst eo
          show wpAny _ _ _ _ _ _
          refine wpAny_pure ?_
          show wpAny _ _ (ret Value.none) _ _ _
          rw [hisz] at hc'
          refine wpAny_pure ⟨rfl, h', tk', c', rfl, hS', hc', fun b o e => ?_⟩
          have hb0 : b < s.heap.objs.size := Heap.lt_size e
          have hb1 : b ≠ s.heap.objs.size := Nat.ne_of_lt hb0
          have hb2 : b ≠ (s.heap.push (kbSet0 w)).objs.size := by
            rw [Heap.size_push]; exact Nat.ne_of_lt (Nat.lt_succ_of_lt hb0)
          exact hm.heap b o (by simp only [List.mem_cons, List.mem_singleton, List.not_mem_nil, or_false, not_or]; exact ⟨hb1, hb2⟩) (Heap.get?_push_of_some _ (Heap.get?_push_of_some _ e))
      · cases r₂ with
        | error e => exact hr₂
        | ok fl₂ =>
          cases fl₂ with
          | ret r =>
            obtain ⟨rfl, h', tk, c', rfl, hS', hc', hk'⟩ := hr₂
            repeat (any_goals (first | assumption | wp_step))
            exact h _ _ _ hS' hc' hk'
          | _ => exact hr₂.elim
    | _ => exact hr.elim
end
section
variable {X : Cx}
/-- set(xs), xs a list of ints -/
def rSetI (K : PySem.W.Frag) (w : World) : List V → Hp → VK → Prop := fun vs H Q => ∃ (a : Addr) (ns : List Int), vs = [V.ref a] ∧ SqL K H a (ns.map V.int) ∧ ns.length ≤ 1000 ∧
  ∀ p c, H p = none → c ≤ ns.length → Q (.ref p) (upd H p (SetO w p (fun j => decide (j ∈ ns)) c))
theorem cr_setI (hc : X.calm = true) : CallR X (.type "set") (rSetI X.K X.w) := by
  intro pins s σ H xs us Q I r h
  obtain ⟨l, ns, rfl, hl, hf, q⟩ := h
  rw [Vals.ref1 r]
  obtain ⟨its, rv, pl, hz⟩ := I.list hl
  have hn : H s.heap.objs.size = none := I.hok.fresh (Nat.le_refl _)
  refine kb_set_listI (P := X.prog) (w := X.w) ns (I.ok.hd hc) pl.isList (by simpa using ints_of_vals rv) (by unfold scanBound; omega) fun h' tk c R hcn k => ?_
  exact ⟨.ref s.heap.objs.size, upd H s.heap.objs.size (SetO X.w s.heap.objs.size _ c), I.laid (t' := tk) k (Nat.le_refl _) (setO_new R), rfl, q _ c hn hcn⟩
end
end L2
/-! Kb1: data, views of the heap, evaluation of pure expressions to data -/
namespace Kb
open PySem L2 Evl

/-- the built-in names that the program leaves alone -/
structure Tx (mg : Str → Option Value) : Prop where
  len : mg "len" = none
  sorted : mg "sorted" = none
  set : mg "set" = none
  dict : mg "dict" = none
  list : mg "list" = none
  tuple : mg "tuple" = none
  range : mg "range" = none
  enumerate : mg "enumerate" = none
  zip : mg "zip" = none
  isinstance : mg "isinstance" = none
  all : mg "all" = none
  any : mg "any" = none
  abs : mg "abs" = none
  min : mg "min" = none
  max : mg "max" = none
  sum : mg "sum" = none
  int : mg "int" = none
  bool : mg "bool" = none
  str : mg "str" = none

/-- a def that a caller may lean on -/
structure Cal (P : Program) (w : World) (K : PySem.W.Frag) (mg : Str → Option Value) (base : Heap) (x : Str) (k : Nat) (ps : List Str) (sp : Sp) : Prop where
  ex : ∃ f fd, FnOk P w K mg base CX0 k f fd ps sp ∧ mg x = some (.ref f) ∧ PySem.W.keepIn K (.ref f) = true ∧ Binds K fd ps []
theorem pe_cal {X : Cx} {x : Str} {k : Nat} {ps : List Str} {sp : Sp} {e : Expr} {es : List Expr} {t : TA} {p pos : Pos} (C : Cal X.prog X.w X.K X.mg X.base x k ps sp) (hr : Room k X.A) (hg : Gl X x) (ha : PA X (e :: es) t)
    (hdb : (x == ("__debug__" : Str)) = false := by decide) (he : starEach (e :: es) X.env = (false, eval e X.env) :: starEach es X.env := by rfl) (hpl : (backTo pos (starEach es X.env)).any (·.1) = false := by rfl) :
    PE X (.Call (.Name x p) (e :: es) [] pos) (tCall sp [] E0 t) := by
  obtain ⟨f, fd, F, hm, hk, hb⟩ := C.ex
  exact pe_call F hr hg hm hk hb .nil pass0 ha hdb he hpl

/-! ### data in a heap -/
mutual
inductive Dt (H : Hp) : V → PyData → Prop
  | non : Dt H .non .none
  | bl (b : Bool) : Dt H (.bl b) (.bool b)
  | int (i : Int) : Dt H (.int i) (.int i)
  | str (x : Str) : Dt H (.str x) (.str x)
  | lst {a : Addr} {xs : List V} {ds : List PyData} : H a = some (.lst xs) → DtAll H xs ds → Dt H (.ref a) (.list ds)
  | tup {a : Addr} {xs : List V} {ds : List PyData} : H a = some (.tup xs) → DtAll H xs ds → Dt H (.ref a) (.tuple ds)
inductive DtAll (H : Hp) : List V → List PyData → Prop
  | nil : DtAll H [] []
  | cons {v : V} {vs : List V} {d : PyData} {ds : List PyData} : Dt H v d → DtAll H vs ds → DtAll H (v :: vs) (d :: ds)
end
mutual
theorem Dt.ex {H H' : Hp} (e : Ex H H') : ∀ (d : PyData) (v : V), Dt H v d → Dt H' v d
  | _, _, .non => .non
  | _, _, .bl b => .bl b
  | _, _, .int i => .int i
  | _, _, .str x => .str x
  | _, _, .lst h r => .lst (e _ _ h) (DtAll.ex e _ _ r)
  | _, _, .tup h r => .tup (e _ _ h) (DtAll.ex e _ _ r)
theorem DtAll.ex {H H' : Hp} (e : Ex H H') : ∀ (ds : List PyData) (vs : List V), DtAll H vs ds → DtAll H' vs ds
  | _, _, .nil => .nil
  | _, _, .cons h r => .cons (Dt.ex e _ _ h) (DtAll.ex e _ _ r)
end
theorem Dt.up {H H' : Hp} {v : V} {d : PyData} (h : Dt H v d) (e : Ex H H') : Dt H' v d := Dt.ex e d v h
theorem DtAll.up {H H' : Hp} {v : List V} {d : List PyData} (h : DtAll H v d) (e : Ex H H') : DtAll H' v d := DtAll.ex e d v h
mutual
theorem Dt.dp {K : PySem.W.Frag} {H : Hp} : ∀ (d : PyData) (v : V), Dt H v d → Dp K H v d
  | _, _, .non => .non
  | _, _, .bl b => .bl b
  | _, _, .int i => .int i
  | _, _, .str x => .str x
  | _, _, .lst h r => .lst (sq_of h) (DtAll.dp _ _ r)
  | _, _, .tup h r => .tup (st_of h) (DtAll.dp _ _ r)
theorem DtAll.dp {K : PySem.W.Frag} {H : Hp} : ∀ (ds : List PyData) (vs : List V), DtAll H vs ds → DpAll K H vs ds
  | _, _, .nil => .nil
  | _, _, .cons h r => .cons (Dt.dp _ _ h) (DtAll.dp _ _ r)
end
/-- one heap, one datum -/
theorem Dt.one {H : Hp} : ∀ (n : Nat) {d e : PyData} {v : V}, sizeOf d < n → Dt H v d → Dt H v e → d = e := by
  intro n
  induction n with
  | zero => intro d e v h; omega
  | succ n ih =>
    intro d e v hn h1 h2
    have all : ∀ {ds es : List PyData} {vs : List V}, sizeOf ds < n → DtAll H vs ds → DtAll H vs es → ds = es := by
      intro ds
      induction ds with
      | nil =>
        intro es vs _ a b
        cases a
        cases b
        rfl
      | cons d ds iha =>
        intro es vs hz a b
        cases a with
        | cons a1 a2 =>
          cases b with
          | cons b1 b2 =>
            simp only [List.cons.sizeOf_spec] at hz
            rw [ih (by omega) a1 b1, iha (by omega) a2 b2]
    cases h1 with
    | non => cases h2; rfl
    | bl b => cases h2; rfl
    | int i => cases h2; rfl
    | str x => cases h2; rfl
    | lst h r =>
      cases h2 with
      | lst h' r' =>
        rw [h] at h'
        cases h'
        simp only [PyData.list.sizeOf_spec] at hn
        rw [all (by omega) r r']
      | tup h' r' =>
        rw [h] at h'
        cases h'
    | tup h r =>
      cases h2 with
      | tup h' r' =>
        rw [h] at h'
        cases h'
        simp only [PyData.tuple.sizeOf_spec] at hn
        rw [all (by omega) r r']
      | lst h' r' =>
        rw [h] at h'
        cases h'
/-- the heap without one object -/
def hide (H : Hp) (l : Addr) : Hp := fun a => if a = l then none else H a
theorem hide_same {H : Hp} {l : Addr} : hide H l l = none := by unfold hide; rw [if_pos rfl]
theorem hide_ne {H : Hp} {l a : Addr} (h : a ≠ l) : hide H l a = H a := by unfold hide; rw [if_neg h]
theorem hide_ex {H : Hp} {l : Addr} : Ex (hide H l) H := fun a o h => by
  unfold hide at h
  split at h
  · cases h
  · exact h
theorem hide_mono {H H' : Hp} {l : Addr} (e : Ex H H') : Ex (hide H l) (hide H' l) := fun a o h => by
  unfold hide at h ⊢
  split at h
  · cases h
  · rename_i q
    rw [if_neg q]
    exact e a o h
theorem Dt.hid {H : Hp} {p : Addr} {e : PyData} (hp : Dt H (.ref p) e) : ∀ (n : Nat) {d : PyData} {v : V}, sizeOf d < n → sizeOf d < sizeOf e → Dt H v d → Dt (hide H p) v d := by
  intro n
  induction n with
  | zero => intro d v h; omega
  | succ n ih =>
    intro d v hn hs h1
    have all : ∀ {ds : List PyData} {vs : List V}, sizeOf ds < n → sizeOf ds < sizeOf e → DtAll H vs ds → DtAll (hide H p) vs ds := by
      intro ds
      induction ds with
      | nil =>
        intro vs _ _ a
        cases a
        exact .nil
      | cons d ds iha =>
        intro vs hz hz' a
        cases a with
        | cons a1 a2 =>
          simp only [List.cons.sizeOf_spec] at hz hz'
          exact .cons (ih (by omega) (by omega) a1) (iha (by omega) (by omega) a2)
    have ne : ∀ {a : Addr}, v = .ref a → a ≠ p := fun ha z => by
      subst ha
      subst z
      have := Dt.one (sizeOf d + 1) (by omega) h1 hp
      subst this
      omega
    cases h1 with
    | non => exact .non
    | bl b => exact .bl b
    | int i => exact .int i
    | str x => exact .str x
    | lst h r =>
      simp only [PyData.list.sizeOf_spec] at hn hs
      exact .lst (by rw [hide_ne (ne rfl)]; exact h) (all (by omega) (by omega) r)
    | tup h r =>
      simp only [PyData.tuple.sizeOf_spec] at hn hs
      exact .tup (by rw [hide_ne (ne rfl)]; exact h) (all (by omega) (by omega) r)
theorem DtAll.hid {H : Hp} {p : Addr} {e : PyData} (hp : Dt H (.ref p) e) : ∀ {ds : List PyData} {vs : List V}, sizeOf ds < sizeOf e → DtAll H vs ds → DtAll (hide H p) vs ds := by
  intro ds
  induction ds with
  | nil =>
    intro vs _ a
    cases a
    exact .nil
  | cons d ds ih =>
    intro vs hz a
    cases a with
    | cons a1 a2 =>
      simp only [List.cons.sizeOf_spec] at hz
      exact .cons (Dt.hid hp (sizeOf d + 1) (by omega) (by omega) a1) (ih (by omega) a2)

/-! ### flat data -/
abbrev dLI (ns : List Int) : PyData := .list (ns.map PyData.int)
abbrev dLS (ns : List Str) : PyData := .list (ns.map PyData.str)
abbrev dLB (ns : List Bool) : PyData := .list (ns.map PyData.bool)
theorem dt_ints {H : Hp} : ∀ ns : List Int, DtAll H (ns.map V.int) (ns.map PyData.int)
  | [] => .nil
  | n :: ns => .cons (.int n) (dt_ints ns)
theorem dt_strs {H : Hp} : ∀ ns : List Str, DtAll H (ns.map V.str) (ns.map PyData.str)
  | [] => .nil
  | n :: ns => .cons (.str n) (dt_strs ns)
theorem dt_bls {H : Hp} : ∀ ns : List Bool, DtAll H (ns.map V.bl) (ns.map PyData.bool)
  | [] => .nil
  | n :: ns => .cons (.bl n) (dt_bls ns)
theorem ints_dt {H : Hp} : ∀ {ns : List Int} {xs : List V}, DtAll H xs (ns.map PyData.int) → xs = ns.map V.int
  | [], _, .nil => rfl
  | n :: ns, _, .cons h r => by
    cases h
    rw [ints_dt r]
    rfl
theorem strs_dt {H : Hp} : ∀ {ns : List Str} {xs : List V}, DtAll H xs (ns.map PyData.str) → xs = ns.map V.str
  | [], _, .nil => rfl
  | n :: ns, _, .cons h r => by
    cases h
    rw [strs_dt r]
    rfl
theorem bls_dt {H : Hp} : ∀ {ns : List Bool} {xs : List V}, DtAll H xs (ns.map PyData.bool) → xs = ns.map V.bl
  | [], _, .nil => rfl
  | n :: ns, _, .cons h r => by
    cases h
    rw [bls_dt r]
    rfl
theorem Dt.li {H : Hp} {a : Addr} {ns : List Int} (h : H a = some (.lst (ns.map V.int))) : Dt H (.ref a) (dLI ns) := .lst h (dt_ints ns)
theorem Dt.ls {H : Hp} {a : Addr} {ns : List Str} (h : H a = some (.lst (ns.map V.str))) : Dt H (.ref a) (dLS ns) := .lst h (dt_strs ns)
theorem Dt.lb {H : Hp} {a : Addr} {ns : List Bool} (h : H a = some (.lst (ns.map V.bl))) : Dt H (.ref a) (dLB ns) := .lst h (dt_bls ns)
theorem Dt.oli {H : Hp} {v : V} {ns : List Int} (h : Dt H v (dLI ns)) : ∃ a, v = .ref a ∧ H a = some (.lst (ns.map V.int)) := by
  cases h with
  | lst h r => exact ⟨_, rfl, by rw [← ints_dt r]; exact h⟩
theorem Dt.ols {H : Hp} {v : V} {ns : List Str} (h : Dt H v (dLS ns)) : ∃ a, v = .ref a ∧ H a = some (.lst (ns.map V.str)) := by
  cases h with
  | lst h r => exact ⟨_, rfl, by rw [← strs_dt r]; exact h⟩
theorem Dt.ol {H : Hp} {v : V} {ds : List PyData} (h : Dt H v (.list ds)) : ∃ a xs, v = .ref a ∧ H a = some (.lst xs) ∧ DtAll H xs ds := by
  cases h with
  | lst h r => exact ⟨_, _, rfl, h, r⟩
theorem Dt.ot {H : Hp} {v : V} {ds : List PyData} (h : Dt H v (.tuple ds)) : ∃ a xs, v = .ref a ∧ H a = some (.tup xs) ∧ DtAll H xs ds := by
  cases h with
  | tup h r => exact ⟨_, _, rfl, h, r⟩
theorem Dt.oi {H : Hp} {v : V} {i : Int} (h : Dt H v (.int i)) : v = .int i := by cases h; rfl
theorem Dt.ob {H : Hp} {v : V} {i : Bool} (h : Dt H v (.bool i)) : v = .bl i := by cases h; rfl
theorem Dt.os {H : Hp} {v : V} {i : Str} (h : Dt H v (.str i)) : v = .str i := by cases h; rfl
theorem Dt.on {H : Hp} {v : V} (h : Dt H v .none) : v = .non := by cases h; rfl
theorem DtAll.len {H : Hp} : ∀ {ds : List PyData} {vs : List V}, DtAll H vs ds → vs.length = ds.length
  | _, _, .nil => rfl
  | _, _, .cons _ r => by rw [List.length_cons, List.length_cons, r.len]
theorem DtAll.at {H : Hp} : ∀ {ds : List PyData} {vs : List V} {i : Nat} {d : PyData}, DtAll H vs ds → ds[i]? = some d → ∃ v, vs[i]? = some v ∧ Dt H v d
  | _, _, _, _, .nil, h => by simp at h
  | _, _, 0, _, .cons a _, h => by
    simp at h
    subst h
    exact ⟨_, rfl, a⟩
  | _, _, i + 1, _, .cons _ r, h => by
    obtain ⟨v, h1, h2⟩ := DtAll.at (i := i) r (by simpa using h)
    exact ⟨v, by simpa using h1, h2⟩
theorem DtAll.at' {H : Hp} : ∀ {ds : List PyData} {vs : List V} {i : Nat} {v : V}, DtAll H vs ds → vs[i]? = some v → ∃ d, ds[i]? = some d ∧ Dt H v d
  | _, _, _, _, .nil, h => by simp at h
  | _, _, 0, _, .cons a _, h => by
    simp at h
    subst h
    exact ⟨_, rfl, a⟩
  | _, _, i + 1, _, .cons _ r, h => by
    obtain ⟨v, h1, h2⟩ := DtAll.at' (i := i) r (by simpa using h)
    exact ⟨v, by simpa using h1, h2⟩
theorem DtAll.app {H : Hp} : ∀ {ds es : List PyData} {vs ws : List V}, DtAll H vs ds → DtAll H ws es → DtAll H (vs ++ ws) (ds ++ es)
  | _, _, _, _, .nil, h => h
  | _, _, _, _, .cons a r, h => .cons a (r.app h)
theorem DtAll.snoc {H : Hp} {ds : List PyData} {vs : List V} {v : V} {d : PyData} (h : DtAll H vs ds) (h' : Dt H v d) : DtAll H (vs ++ [v]) (ds ++ [d]) := h.app (.cons h' .nil)

/-! ### views: G is what is told and stays; H the heap; what grew between H and H2 is told too -/
def grow (G H H2 : Hp) : Hp := fun a => match H a with
  | none => H2 a
  | some _ => G a
theorem grow_new {G H H2 : Hp} {a : Addr} (h : H a = none) : grow G H H2 a = H2 a := by unfold grow; rw [h]
theorem grow_old {G H H2 : Hp} {a : Addr} {o : HO} (h : H a = some o) : grow G H H2 a = G a := by unfold grow; rw [h]
theorem grow_in {G H H2 : Hp} (e : Ex G H) : Ex G (grow G H H2) := fun a o h => by rw [grow_old (e a o h)]; exact h
theorem grow_out {G H H2 : Hp} (e : Ex G H) (e2 : Ex H H2) : Ex (grow G H H2) H2 := fun a o h => by
  cases q : H a with
  | none =>
    rw [grow_new q] at h
    exact h
  | some u =>
    rw [grow_old q] at h
    exact e2 a o (e a o h)
theorem grow_not {G H H2 : Hp} {a : Addr} {o : HO} (h : H a = some o) (g : G a = none) : grow G H H2 a = none := by rw [grow_old h]; exact g
theorem grow_ex {G G' H H2 : Hp} (g : Ex G G') : Ex (grow G H H2) (grow G' H H2) := fun a o h => by
  cases q : H a with
  | none =>
    rw [grow_new q] at h ⊢
    exact h
  | some u =>
    rw [grow_old q] at h ⊢
    exact g a o h
theorem grow_tr {G H H2 H3 : Hp} (e : Ex H H2) (e2 : Ex H2 H3) : Ex (grow (grow G H H2) H2 H3) (grow G H H3) := fun a o h => by
  cases q : H a with
  | none =>
    rw [grow_new q]
    cases r : H2 a with
    | none =>
      rw [grow_new r] at h
      exact h
    | some u =>
      rw [grow_old r, grow_new q] at h
      exact e2 a o h
  | some u =>
    rw [grow_old (e a u q), grow_old q] at h
    rw [grow_old q]
    exact h
theorem grow_le {G H H2 H3 : Hp} (e2 : Ex H2 H3) : Ex (grow G H H2) (grow G H H3) := fun a o h => by
  cases q : H a with
  | none =>
    rw [grow_new q] at h ⊢
    exact e2 a o h
  | some u =>
    rw [grow_old q] at h ⊢
    exact h
theorem grow_self {G H : Hp} : Ex (grow G H H) G := fun a o h => by
  cases q : H a with
  | none =>
    rw [grow_new q, q] at h
    cases h
  | some u =>
    rw [grow_old q] at h
    exact h
end Kb
/-! Kb2: evaluation of pure expressions to data -/
namespace Kb
open PySem L2 Evl

def EvX (te : TE) (σ : L2.St) (G : Hp) (d : PyData) : Prop := ∀ H, Ex G H → ∀ Q : VK, (∀ x H2, Ex H H2 → Dt (grow G H H2) x d → Q x H2) → te σ H Q
/-- a new object -/
def EvN (te : TE) (σ : L2.St) (G : Hp) (d : PyData) : Prop := ∀ H, Ex G H → ∀ Q : VK, (∀ p H2, Ex H H2 → H p = none → Dt (grow G H H2) (.ref p) d → Q (.ref p) H2) → te σ H Q
def EvB (tt : TT) (σ : L2.St) (G : Hp) (b : Bool) : Prop := ∀ H, Ex G H → ∀ Q : Bool → Hp → Prop, (∀ H2, Ex H H2 → Q b H2) → tt σ H Q
def EvAs (ta : TA) (σ : L2.St) (G : Hp) (ds : List PyData) : Prop := ∀ H, Ex G H → ∀ Q : List V → Hp → Prop, (∀ xs H2, Ex H H2 → DtAll (grow G H H2) xs ds → Q xs H2) → ta σ H Q
def EvP (to : TO) (σ : L2.St) (G : Hp) (o : Option Int) : Prop := ∀ H, Ex G H → ∀ Q : Option Int → Hp → Prop, (∀ H2, Ex H H2 → Q o H2) → to σ H Q

/-- what a def promises that only makes data: R of the arguments and the answer -/
def PSp (R : List PyData → PyData → Prop) : Sp := fun vs H Q _ => ∃ G ds d, Ex G H ∧ DtAll G vs ds ∧ R ds d ∧ ∀ x H2, Ex H H2 → Dt (grow G H H2) x d → Q x H2
def NSp (R : List PyData → PyData → Prop) : Sp := fun vs H Q _ => ∃ G ds d, Ex G H ∧ DtAll G vs ds ∧ R ds d ∧ ∀ p H2, Ex H H2 → H p = none → Dt (grow G H H2) (.ref p) d → Q (.ref p) H2

section
variable {K : PySem.W.Frag} {w : World} {σ : L2.St} {G G' H : Hp} {te ta tb tc : TE} {t u : TT} {x : V} {d e f : PyData} {r : R2}
theorem EvX.mono (h : EvX te σ G d) (g : Ex G G') : EvX te σ G' d := fun H e Q q => h H (g.trans e) Q fun x H2 e2 dx => q x H2 e2 (dx.up (grow_ex g))
theorem EvN.mono (h : EvN te σ G d) (g : Ex G G') : EvN te σ G' d := fun H e Q q => h H (g.trans e) Q fun x H2 e2 hx dx => q x H2 e2 hx (dx.up (grow_ex g))
theorem EvB.mono {b : Bool} (h : EvB t σ G b) (g : Ex G G') : EvB t σ G' b := fun H e Q q => h H (g.trans e) Q q
theorem EvAs.mono {ta : TA} {ds : List PyData} (h : EvAs ta σ G ds) (g : Ex G G') : EvAs ta σ G' ds := fun H e Q q => h H (g.trans e) Q fun x H2 e2 dx => q x H2 e2 (dx.up (grow_ex g))
theorem EvP.mono {to : TO} {o : Option Int} (h : EvP to σ G o) (g : Ex G G') : EvP to σ G' o := fun H e Q q => h H (g.trans e) Q q
theorem EvN.toX (h : EvN te σ G d) : EvX te σ G d := fun H e Q q => h H e Q fun p H2 e2 _ dx => q _ H2 e2 dx
theorem EvX.eq (h : EvX te σ G d) (q : d = e) : EvX te σ G e := q ▸ h
theorem EvN.eq (h : EvN te σ G d) (q : d = e) : EvN te σ G e := q ▸ h
theorem EvB.eq {a b : Bool} (h : EvB t σ G a) (q : a = b) : EvB t σ G b := q ▸ h
theorem ex_var {i : Nat} (h : σ[i]? = some (some x)) (hd : Dt G x d) : EvX (tVar i) σ G d := fun H e Q q => ⟨x, h, q x H (Ex.refl H) (hd.up (grow_in e))⟩
theorem ex_c (hd : ∀ G, Dt G x d) : EvX (tC x) σ G d := fun H e Q q => q x H (Ex.refl H) (hd _)
theorem ex_int {i : Int} : EvX (tC (.int i)) σ G (.int i) := ex_c fun _ => .int i
theorem ex_str {i : Str} : EvX (tC (.str i)) σ G (.str i) := ex_c fun _ => .str i
theorem ex_bl {i : Bool} : EvX (tC (.bl i)) σ G (.bool i) := ex_c fun _ => .bl i
theorem ex_non : EvX (tC .non) σ G .none := ex_c fun _ => .non
/-- one after the other, the second in the grown view -/
theorem ex_two (ha : EvX ta σ G d) (hb : EvX tb σ G e) {Q : VK} {H : Hp} (gh : Ex G H)
    (k : ∀ x y G2 H2, Ex G G2 → Ex H H2 → Ex G2 H2 → Ex G2 (grow G H H2) → Dt G2 x d → Dt G2 y e → r x y H2 Q) : tOp r ta tb σ H Q :=
  ha H gh _ fun x H1 e1 dx => hb.mono (grow_in gh) H1 (grow_out gh e1) _ fun y H2 e2 dy =>
    k x y (grow (grow G H H1) H1 H2) H2 ((grow_in gh).trans (grow_in (grow_out gh e1))) (e1.trans e2) (grow_out (grow_out gh e1) e2) (grow_tr e1 e2) (dx.up (grow_in (grow_out gh e1))) dy
theorem ex_opG (ha : EvX ta σ G d) (hb : EvX tb σ G e)
    (hr : ∀ x y G2 H2 Q, Ex G2 H2 → Dt G2 x d → Dt G2 y e → (∀ z H3, Ex H2 H3 → Dt (grow G2 H2 H3) z f → Q z H3) → r x y H2 Q) : EvX (tOp r ta tb) σ G f := fun H gh Q q =>
  ex_two ha hb gh fun x y G2 H2 g1 e2 g2 g3 dx dy => hr x y G2 H2 Q g2 dx dy fun z H3 e3 dz => q z H3 (e2.trans e3) (dz.up fun a o h => by
    cases p : H2 a with
    | none =>
      rw [grow_new p] at h
      rw [grow_new (fresh_back e2 p)]
      exact h
    | some u =>
      rw [grow_old p] at h
      have := g3 a o h
      cases p' : H a with
      | none =>
        rw [grow_new p'] at this ⊢
        exact e3 a o this
      | some u' =>
        rw [grow_old p'] at this ⊢
        exact this)
theorem ex_opN (ha : EvX ta σ G d) (hb : EvX tb σ G e)
    (hr : ∀ x y G2 H2 Q, Ex G2 H2 → Dt G2 x d → Dt G2 y e → (∀ p H3, Ex H2 H3 → H2 p = none → Dt (grow G2 H2 H3) (.ref p) f → Q (.ref p) H3) → r x y H2 Q) : EvN (tOp r ta tb) σ G f := fun H gh Q q =>
  ex_two ha hb gh fun x y G2 H2 g1 e2 g2 g3 dx dy => hr x y G2 H2 Q g2 dx dy fun z H3 e3 hz dz => q z H3 (e2.trans e3) (fresh_back e2 hz) (dz.up fun a o h => by
    cases p : H2 a with
    | none =>
      rw [grow_new p] at h
      rw [grow_new (fresh_back e2 p)]
      exact h
    | some u =>
      rw [grow_old p] at h
      have := g3 a o h
      cases p' : H a with
      | none =>
        rw [grow_new p'] at this ⊢
        exact e3 a o this
      | some u' =>
        rw [grow_old p'] at this ⊢
        exact this)
/-- one operand -/
theorem ex_un1 {rr : V → Hp → VK → Prop} {tg : TE} (htg : ∀ σ H Q, ta σ H (fun x H1 => rr x H1 Q) → tg σ H Q) (ha : EvX ta σ G d)
    (hr : ∀ x G2 H2 Q, Ex G2 H2 → Dt G2 x d → (∀ z H3, Ex H2 H3 → Dt (grow G2 H2 H3) z f → Q z H3) → rr x H2 Q) : EvX tg σ G f := fun H gh Q q =>
  htg σ H Q (ha H gh _ fun x H1 e1 dx => hr x (grow G H H1) H1 Q (grow_out gh e1) dx fun z H3 e3 dz => q z H3 (e1.trans e3) (dz.up (grow_tr e1 e3)))
theorem ex_un1N {rr : V → Hp → VK → Prop} {tg : TE} (htg : ∀ σ H Q, ta σ H (fun x H1 => rr x H1 Q) → tg σ H Q) (ha : EvX ta σ G d)
    (hr : ∀ x G2 H2 Q, Ex G2 H2 → Dt G2 x d → (∀ p H3, Ex H2 H3 → H2 p = none → Dt (grow G2 H2 H3) (.ref p) f → Q (.ref p) H3) → rr x H2 Q) : EvN tg σ G f := fun H gh Q q =>
  htg σ H Q (ha H gh _ fun x H1 e1 dx => hr x (grow G H H1) H1 Q (grow_out gh e1) dx fun z H3 e3 hz dz => q z H3 (e1.trans e3) (fresh_back e1 hz) (dz.up (grow_tr e1 e3)))
theorem here {G H : Hp} {x : V} (h : Dt G x d) (e : Ex G H) : Dt (grow G H H) x d := h.up (grow_in e)

/-! ints -/
theorem ex_I0 {g : Int → Int → Int} {i j : Int} (ha : EvX ta σ G (.int i)) (hb : EvX tb σ G (.int j)) : EvX (tOp (rI0 fun i j => .int (g i j)) ta tb) σ G (.int (g i j)) :=
  ex_opG ha hb fun x y G2 H2 Q g2 dx dy q => by
    cases dx
    cases dy
    exact ⟨i, j, rfl, rfl, q _ H2 (Ex.refl _) (.int _)⟩
theorem ex_I {C : Int → Int → Prop} {g : Int → Int → Int} {i j : Int} (ha : EvX ta σ G (.int i)) (hb : EvX tb σ G (.int j)) (hc : C i j) : EvX (tOp (rI C fun i j => .int (g i j)) ta tb) σ G (.int (g i j)) :=
  ex_opG ha hb fun x y G2 H2 Q g2 dx dy q => by
    cases dx
    cases dy
    exact ⟨i, j, rfl, rfl, hc, q _ H2 (Ex.refl _) (.int _)⟩
theorem ex_cmp {g : Int → Int → Bool} {i j : Int} (ha : EvX ta σ G (.int i)) (hb : EvX tb σ G (.int j)) : EvX (tOp (rI0 fun i j => .bl (g i j)) ta tb) σ G (.bool (g i j)) :=
  ex_opG ha hb fun x y G2 H2 Q g2 dx dy q => by
    cases dx
    cases dy
    exact ⟨i, j, rfl, rfl, q _ H2 (Ex.refl _) (.bl _)⟩
theorem ex_neg {i : Int} (ha : EvX ta σ G (.int i)) : EvX (tUn (rU fun i => .int (-i)) ta) σ G (.int (-i)) :=
  ex_un1 (rr := rU fun i => .int (-i)) (fun _ _ _ h => h) ha fun x G2 H2 Q g2 dx q => by
    cases dx
    exact ⟨i, rfl, q _ H2 (Ex.refl _) (.int _)⟩
theorem dec_I (i j : Int) : decide (V.int i = V.int j) = decide (i = j) := by simp
theorem dec_S (i j : Str) : decide (V.str i = V.str j) = decide (i = j) := by simp
theorem dec_B (i j : Bool) : decide (V.bl i = V.bl j) = decide (i = j) := by simp
theorem ex_eqI {i j : Int} (ha : EvX ta σ G (.int i)) (hb : EvX tb σ G (.int j)) : EvX (tOp rEq ta tb) σ G (.bool (decide (i = j))) :=
  ex_opG ha hb fun x y G2 H2 Q g2 dx dy q => by
    cases dx
    cases dy
    exact ⟨rfl, q _ H2 (Ex.refl _) (by rw [dec_I]; exact .bl _)⟩
theorem ex_neI {i j : Int} (ha : EvX ta σ G (.int i)) (hb : EvX tb σ G (.int j)) : EvX (tOp rNe ta tb) σ G (.bool (!decide (i = j))) :=
  ex_opG ha hb fun x y G2 H2 Q g2 dx dy q => by
    cases dx
    cases dy
    exact ⟨rfl, q _ H2 (Ex.refl _) (by rw [dec_I]; exact .bl _)⟩
theorem ex_eqS {i j : Str} (ha : EvX ta σ G (.str i)) (hb : EvX tb σ G (.str j)) : EvX (tOp rEq ta tb) σ G (.bool (decide (i = j))) :=
  ex_opG ha hb fun x y G2 H2 Q g2 dx dy q => by
    cases dx
    cases dy
    exact ⟨rfl, q _ H2 (Ex.refl _) (by rw [dec_S]; exact .bl _)⟩
theorem ex_neS {i j : Str} (ha : EvX ta σ G (.str i)) (hb : EvX tb σ G (.str j)) : EvX (tOp rNe ta tb) σ G (.bool (!decide (i = j))) :=
  ex_opG ha hb fun x y G2 H2 Q g2 dx dy q => by
    cases dx
    cases dy
    exact ⟨rfl, q _ H2 (Ex.refl _) (by rw [dec_S]; exact .bl _)⟩
theorem ex_eqB {i j : Bool} (ha : EvX ta σ G (.bool i)) (hb : EvX tb σ G (.bool j)) : EvX (tOp rEq ta tb) σ G (.bool (decide (i = j))) :=
  ex_opG ha hb fun x y G2 H2 Q g2 dx dy q => by
    cases dx
    cases dy
    exact ⟨rfl, q _ H2 (Ex.refl _) (by rw [dec_B]; exact .bl _)⟩
theorem ex_neB {i j : Bool} (ha : EvX ta σ G (.bool i)) (hb : EvX tb σ G (.bool j)) : EvX (tOp rNe ta tb) σ G (.bool (!decide (i = j))) :=
  ex_opG ha hb fun x y G2 H2 Q g2 dx dy q => by
    cases dx
    cases dy
    exact ⟨rfl, q _ H2 (Ex.refl _) (by rw [dec_B]; exact .bl _)⟩

/-! tests -/
theorem eb_test {b : Bool} (h : EvX te σ G (.bool b)) : EvB (tTest te) σ G b := fun H e Q q => h H e _ fun x H2 e2 dx => by
  cases dx
  exact ⟨b, rfl, q H2 e2⟩
theorem eb_B {b : Bool} (h : EvX te σ G (.bool b)) : EvB (tB te) σ G b := fun H e Q q => h H e _ fun x H2 e2 dx => by
  cases dx
  exact ⟨b, rfl, q H2 e2⟩
theorem eb_and {a b : Bool} (h1 : EvB t σ G a) (h2 : a = true → EvB u σ G b) : EvB (tAnd t u) σ G (a && b) := fun H e Q q => h1 H e _ fun H2 e2 => by
  cases a with
  | true =>
    show u σ H2 Q
    exact h2 rfl H2 (e.trans e2) Q fun H3 e3 => q H3 (e2.trans e3)
  | false =>
    show Q false H2
    exact q H2 e2
theorem eb_or {a b : Bool} (h1 : EvB t σ G a) (h2 : a = false → EvB u σ G b) : EvB (tOr t u) σ G (a || b) := fun H e Q q => h1 H e _ fun H2 e2 => by
  cases a with
  | true =>
    show Q true H2
    exact q H2 e2
  | false =>
    show u σ H2 Q
    exact h2 rfl H2 (e.trans e2) Q fun H3 e3 => q H3 (e2.trans e3)
theorem eb_not {a : Bool} (h1 : EvB t σ G a) : EvB (tNot t) σ G (!a) := fun H e _ q => h1 H e _ fun H2 e2 => q H2 e2
theorem eb_yes : EvB tYes σ G true := fun H e Q q => q H (Ex.refl H)
theorem ex_and {a b : Bool} (h1 : EvX ta σ G (.bool a)) (h2 : a = true → EvX tb σ G (.bool b)) : EvX (tAndV ta tb) σ G (.bool (a && b)) := fun H e Q q => h1 H e _ fun x H2 e2 dx => by
  cases dx
  refine ⟨a, rfl, ?_⟩
  cases a with
  | true =>
    show tb σ H2 Q
    exact h2 rfl H2 (e.trans e2) Q fun y H3 e3 dy => q y H3 (e2.trans e3) (by cases dy; exact .bl _)
  | false =>
    show Q (.bl false) H2
    exact q _ H2 e2 (.bl _)
theorem ex_or {a b : Bool} (h1 : EvX ta σ G (.bool a)) (h2 : a = false → EvX tb σ G (.bool b)) : EvX (tOrV ta tb) σ G (.bool (a || b)) := fun H e Q q => h1 H e _ fun x H2 e2 dx => by
  cases dx
  refine ⟨a, rfl, ?_⟩
  cases a with
  | true =>
    show Q (.bl true) H2
    exact q _ H2 e2 (.bl _)
  | false =>
    show tb σ H2 Q
    exact h2 rfl H2 (e.trans e2) Q fun y H3 e3 dy => q y H3 (e2.trans e3) (by cases dy; exact .bl _)
theorem ex_not {a : Bool} (h1 : EvX ta σ G (.bool a)) : EvX (tNotV ta) σ G (.bool (!a)) :=
  ex_un1 (rr := fun x H1 Q => ∃ c, x = .bl c ∧ Q (.bl (!c)) H1) (fun _ _ _ h => h) h1 fun x G2 H2 Q g2 dx q => by
    cases dx
    exact ⟨a, rfl, q _ H2 (Ex.refl _) (.bl _)⟩
theorem ex_if {b : Bool} (h : EvB t σ G b) (h1 : b = true → EvX ta σ G d) (h2 : b = false → EvX tb σ G d) : EvX (tIf t ta tb) σ G d := fun H e Q q => h H e _ fun H2 e2 => by
  cases b with
  | true =>
    show ta σ H2 Q
    exact h1 rfl H2 (e.trans e2) Q fun y H3 e3 dy => q y H3 (e2.trans e3) (dy.up fun a o h => by
      cases p : H a with
      | none =>
        rw [grow_new p]
        cases p2 : H2 a with
        | none =>
          rw [grow_new p2] at h
          exact h
        | some u =>
          rw [grow_old p2] at h
          exact e3 a o (e2 a o (e a o h))
      | some u =>
        rw [grow_old (e2 a u p)] at h
        rw [grow_old p]
        exact h)
  | false =>
    show tb σ H2 Q
    exact h2 rfl H2 (e.trans e2) Q fun y H3 e3 dy => q y H3 (e2.trans e3) (dy.up fun a o h => by
      cases p : H a with
      | none =>
        rw [grow_new p]
        cases p2 : H2 a with
        | none =>
          rw [grow_new p2] at h
          exact h
        | some u =>
          rw [grow_old p2] at h
          exact e3 a o (e2 a o (e a o h))
      | some u =>
        rw [grow_old (e2 a u p)] at h
        rw [grow_old p]
        exact h)
/-! arguments, displays -/
theorem ea0 : EvAs tNil σ G [] := fun H e Q q => q [] H (Ex.refl H) .nil
theorem ea1 {tr : TA} {ds : List PyData} (h : EvX ta σ G d) (hr : EvAs tr σ G ds) : EvAs (tCons ta tr) σ G (d :: ds) := fun H gh Q q =>
  h H gh _ fun x H1 e1 dx => hr.mono (grow_in gh) H1 (grow_out gh e1) _ fun xs H2 e2 dxs => q _ H2 (e1.trans e2)
    (.cons (dx.up (grow_le e2)) (dxs.up (grow_tr e1 e2)))
theorem grow_upd {G H : Hp} {p : Addr} {o : HO} (h : H p = none) : grow G H (upd H p o) p = some o := by rw [grow_new h, upd_same]
theorem grow_keep {G H : Hp} {p : Addr} {o : HO} : Ex (grow G H H) (grow G H (upd H p o)) := fun a u h => by
  cases q : H a with
  | none =>
    rw [grow_new q, q] at h
    cases h
  | some v =>
    rw [grow_old q] at h ⊢
    exact h
theorem new_up {G H : Hp} {p : Addr} {o : HO} (h : H p = none) : Ex (grow G H H) (grow G H (upd H p o)) := grow_keep
theorem el_of {G H : Hp} {p : Addr} {xs : List V} {ds : List PyData} (h : H p = none) (gh : Ex G H) (hd : DtAll G xs ds) : Dt (grow G H (upd H p (.lst xs))) (.ref p) (.list ds) :=
  .lst (grow_upd h) (hd.up (grow_in gh))
theorem et_of {G H : Hp} {p : Addr} {xs : List V} {ds : List PyData} (h : H p = none) (gh : Ex G H) (hd : DtAll G xs ds) : Dt (grow G H (upd H p (.tup xs))) (.ref p) (.tuple ds) :=
  .tup (grow_upd h) (hd.up (grow_in gh))
theorem en_lst {ta : TA} {ds : List PyData} (h : EvAs ta σ G ds) (hl : ds.length ≤ 100000 := by simp <;> omega) : EvN (tLst ta) σ G (.list ds) := fun H gh Q q =>
  h H gh _ fun xs H1 e1 dx => ⟨sz_of (by rw [dx.len]; exact hl), fun p hp => q p _ (e1.trans (Ex.new hp)) (fresh_back e1 hp) ((el_of hp (grow_out gh e1) dx).up (grow_tr e1 (Ex.new hp)))⟩
theorem en_tup {ta : TA} {ds : List PyData} (h : EvAs ta σ G ds) (hl : ds.length ≤ 100000 := by simp <;> omega) : EvN (tTup ta) σ G (.tuple ds) := fun H gh Q q =>
  h H gh _ fun xs H1 e1 dx => ⟨sz_of (by rw [dx.len]; exact hl), fun p hp => q p _ (e1.trans (Ex.new hp)) (fresh_back e1 hp) ((et_of hp (grow_out gh e1) dx).up (grow_tr e1 (Ex.new hp)))⟩
/-! calls of built-ins with one argument -/
theorem ex_cb1 {rr : List V → Hp → VK → Prop} (ha : EvX ta σ G d) (hr : ∀ x G2 H2 Q, Ex G2 H2 → Dt G2 x d → (∀ z H3, Ex H2 H3 → Dt (grow G2 H2 H3) z f → Q z H3) → rr [x] H2 Q) : EvX (tCB rr (tCons ta tNil)) σ G f :=
  ex_un1 (rr := fun x H Q => rr [x] H Q) (fun _ _ _ h => h) ha hr
theorem en_cb1 {rr : List V → Hp → VK → Prop} (ha : EvX ta σ G d) (hr : ∀ x G2 H2 Q, Ex G2 H2 → Dt G2 x d → (∀ p H3, Ex H2 H3 → H2 p = none → Dt (grow G2 H2 H3) (.ref p) f → Q (.ref p) H3) → rr [x] H2 Q) : EvN (tCB rr (tCons ta tNil)) σ G f :=
  ex_un1N (rr := fun x H Q => rr [x] H Q) (fun _ _ _ h => h) ha hr
theorem ex_len {ds : List PyData} (ha : EvX ta σ G (.list ds)) : EvX (tCB (rLenS K) (tCons ta tNil)) σ G (.int (ds.length : Nat)) := ex_cb1 ha fun x G2 H2 Q g2 dx q => by
  obtain ⟨a, xs, rfl, h, r⟩ := dx.ol
  exact ⟨a, xs, rfl, .inl (sq_of (g2 _ _ h)), q _ H2 (Ex.refl _) (by rw [r.len]; exact .int _)⟩
theorem ex_lenT {ds : List PyData} (ha : EvX ta σ G (.tuple ds)) : EvX (tCB (rLenS K) (tCons ta tNil)) σ G (.int (ds.length : Nat)) := ex_cb1 ha fun x G2 H2 Q g2 dx q => by
  obtain ⟨a, xs, rfl, h, r⟩ := dx.ot
  exact ⟨a, xs, rfl, .inr (st_of (g2 _ _ h)), q _ H2 (Ex.refl _) (by rw [r.len]; exact .int _)⟩
theorem en_list {ds : List PyData} (ha : EvX ta σ G (.list ds)) : EvN (tCB (rListS K) (tCons ta tNil)) σ G (.list ds) := en_cb1 ha fun x G2 H2 Q g2 dx q => by
  obtain ⟨a, xs, rfl, h, r⟩ := dx.ol
  exact ⟨a, xs, rfl, .inl (sq_of (g2 _ _ h)), fun l hl => q l _ (Ex.new hl) hl (el_of hl g2 r)⟩
theorem en_listT {ds : List PyData} (ha : EvX ta σ G (.tuple ds)) : EvN (tCB (rListS K) (tCons ta tNil)) σ G (.list ds) := en_cb1 ha fun x G2 H2 Q g2 dx q => by
  obtain ⟨a, xs, rfl, h, r⟩ := dx.ot
  exact ⟨a, xs, rfl, .inr (st_of (g2 _ _ h)), fun l hl => q l _ (Ex.new hl) hl (el_of hl g2 r)⟩
theorem ex_all {bs : List Bool} (ha : EvX ta σ G (dLB bs)) : EvX (tCB (rAll K) (tCons ta tNil)) σ G (.bool (bs.all id)) := ex_cb1 ha fun x G2 H2 Q g2 dx q => by
  obtain ⟨a, xs, rfl, h, r⟩ := dx.ol
  rw [bls_dt r] at h
  exact ⟨a, bs, rfl, sq_of (g2 _ _ h), q _ H2 (Ex.refl _) (.bl _)⟩
theorem ex_any {bs : List Bool} (ha : EvX ta σ G (dLB bs)) : EvX (tCB (rAny K) (tCons ta tNil)) σ G (.bool (bs.any id)) := ex_cb1 ha fun x G2 H2 Q g2 dx q => by
  obtain ⟨a, xs, rfl, h, r⟩ := dx.ol
  rw [bls_dt r] at h
  exact ⟨a, bs, rfl, sq_of (g2 _ _ h), q _ H2 (Ex.refl _) (.bl _)⟩
/-! lists -/
theorem DtAll.atI {H : Hp} {ds : List PyData} {vs : List V} {i : Int} {d : PyData} (h : DtAll H vs ds) (a : L2.atI ds i = some d) : ∃ v, L2.atI vs i = some v ∧ Dt H v d := by
  unfold L2.atI at a ⊢
  rw [h.len]
  cases q : ixN ds.length i with
  | none =>
    rw [q] at a
    cases a
  | some j =>
    rw [q] at a
    exact h.at a
theorem ex_ixL {ds : List PyData} {i : Int} (ha : EvX ta σ G (.list ds)) (hb : EvX tb σ G (.int i)) (hi : L2.atI ds i = some d) : EvX (tOp (rIxL K) ta tb) σ G d :=
  ex_opG ha hb fun x y G2 H2 Q g2 dx dy q => by
    cases dy
    obtain ⟨a, xs, rfl, h, r⟩ := dx.ol
    obtain ⟨v, hv, dv⟩ := r.atI hi
    exact ⟨a, xs, i, v, rfl, rfl, sq_of (g2 _ _ h), hv, q v H2 (Ex.refl _) (here dv g2)⟩
theorem ex_ixT {ds : List PyData} {i : Int} (ha : EvX ta σ G (.tuple ds)) (hb : EvX tb σ G (.int i)) (hi : L2.atI ds i = some d) : EvX (tOp (rIxT K) ta tb) σ G d :=
  ex_opG ha hb fun x y G2 H2 Q g2 dx dy q => by
    cases dy
    obtain ⟨a, xs, rfl, h, r⟩ := dx.ot
    obtain ⟨v, hv, dv⟩ := r.atI hi
    exact ⟨a, xs, i, v, rfl, rfl, st_of (g2 _ _ h), hv, q v H2 (Ex.refl _) (here dv g2)⟩
theorem en_cat {ds es : List PyData} (ha : EvX ta σ G (.list ds)) (hb : EvX tb σ G (.list es)) (hl : ds.length + es.length ≤ 100000) : EvN (tOp rCat ta tb) σ G (.list (ds ++ es)) :=
  ex_opN ha hb fun x y G2 H2 Q g2 dx dy q => by
    obtain ⟨a, xs, rfl, h, r⟩ := dx.ol
    obtain ⟨b, ys, rfl, h', r'⟩ := dy.ol
    exact ⟨a, b, xs, ys, rfl, rfl, g2 _ _ h, g2 _ _ h', sz_of (by rw [r.len, r'.len]; exact hl), fun p hp => q p _ (Ex.new hp) hp (el_of hp g2 (r.app r'))⟩
/-- the items of [lo:hi] -/
def cutA {α : Type} (xs : List α) (lo hi : Option Int) : List α := (xs.drop (HT.sIx xs.length 0 lo)).take (HT.sIx xs.length xs.length hi - HT.sIx xs.length 0 lo)
theorem DtAll.drop {H : Hp} : ∀ {ds : List PyData} {vs : List V} (n : Nat), DtAll H vs ds → DtAll H (vs.drop n) (ds.drop n)
  | _, _, 0, h => h
  | _, _, _ + 1, .nil => .nil
  | _, _, n + 1, .cons _ r => r.drop n
theorem DtAll.take {H : Hp} : ∀ {ds : List PyData} {vs : List V} (n : Nat), DtAll H vs ds → DtAll H (vs.take n) (ds.take n)
  | _, _, 0, _ => .nil
  | _, _, _ + 1, .nil => .nil
  | _, _, n + 1, .cons a r => .cons a (r.take n)
theorem DtAll.cut {H : Hp} {ds : List PyData} {vs : List V} (lo hi : Option Int) (h : DtAll H vs ds) : DtAll H (cutV vs lo hi) (cutA ds lo hi) := by
  unfold cutV cutA
  rw [h.len]
  exact (h.drop _).take _
theorem DtAll.rev {H : Hp} : ∀ {ds : List PyData} {vs : List V}, DtAll H vs ds → DtAll H vs.reverse ds.reverse
  | _, _, .nil => .nil
  | _, _, .cons a r => by
    rw [List.reverse_cons, List.reverse_cons]
    exact r.rev.snoc a
theorem ep0 : EvP tNoPart σ G none := fun H _ _ q => q H (Ex.refl H)
theorem ep1 {i : Int} (h : EvX te σ G (.int i)) : EvP (tPart te) σ G (some i) := fun H e _ q => h H e _ fun x H2 e2 dx => by
  cases dx
  exact ⟨i, rfl, q H2 e2⟩
theorem en_sl {tl th : TO} {ds : List PyData} {lo hi : Option Int} (h : EvX te σ G (.list ds)) (h1 : EvP tl σ G lo) (h2 : EvP th σ G hi) : EvN (tSl (rSlL K) te tl th) σ G (.list (cutA ds lo hi)) := fun H gh Q q =>
  h H gh _ fun x H1 e1 dx => h1 H1 (gh.trans e1) _ fun H2 e2 => h2 H2 ((gh.trans e1).trans e2) _ fun H3 e3 => by
    obtain ⟨a, xs, rfl, ha, r⟩ := dx.ol
    have e13 := e2.trans e3
    have hh := grow_out gh (e1.trans e13)
    have r2 := r.up (grow_le (G := G) (H := H) e13)
    have ha2 := grow_le (G := G) (H := H) e13 _ _ ha
    exact ⟨a, xs, rfl, sq_of (hh _ _ ha2), fun p hp => q p _ ((e1.trans e13).trans (Ex.new hp)) (fresh_back (e1.trans e13) hp) ((el_of hp hh (r2.cut lo hi)).up (grow_tr (e1.trans e13) (Ex.new hp)))⟩
theorem en_rev {ds : List PyData} (ha : EvX ta σ G (.list ds)) : EvN (tRevL K ta) σ G (.list ds.reverse) :=
  ex_un1N (rr := fun x H1 Q => ∃ a xs, x = .ref a ∧ SqL K H1 a xs ∧ ∀ p, H1 p = none → Q (.ref p) (upd H1 p (.lst xs.reverse))) (fun _ _ _ h => h) ha fun x G2 H2 Q g2 dx q => by
    obtain ⟨a, xs, rfl, h, r⟩ := dx.ol
    exact ⟨a, xs, rfl, sq_of (g2 _ _ h), fun p hp => q p _ (Ex.new hp) hp (el_of hp g2 r.rev)⟩
theorem inV_ints (i : Int) : ∀ ns : List Int, inV (.int i) (ns.map V.int) = decide (i ∈ ns)
  | [] => by simp [inV]
  | n :: ns => by
    have ih := inV_ints i ns
    unfold inV at ih ⊢
    rw [List.map_cons, List.any_cons, ih]
    show ((n == i) || decide (i ∈ ns)) = decide (i ∈ n :: ns)
    by_cases h : n = i
    · subst h
      simp
    · have h' : ¬ i = n := fun z => h z.symm
      simp [h, h']
theorem inV_strs (i : Str) : ∀ ns : List Str, inV (.str i) (ns.map V.str) = decide (i ∈ ns)
  | [] => by simp [inV]
  | n :: ns => by
    have ih := inV_strs i ns
    unfold inV at ih ⊢
    rw [List.map_cons, List.any_cons, ih]
    show ((n == i) || decide (i ∈ ns)) = decide (i ∈ n :: ns)
    by_cases h : n = i
    · subst h
      simp
    · have h' : ¬ i = n := fun z => h z.symm
      simp [h, h']
theorem flat_ints (ns : List Int) : (ns.map V.int).all flatV = true := by
  rw [List.all_eq_true]
  intro x hx
  obtain ⟨i, _, rfl⟩ := List.mem_map.mp hx
  rfl
theorem flat_strs' (ns : List Str) : (ns.map V.str).all flatV = true := by
  rw [List.all_eq_true]
  intro x hx
  obtain ⟨i, _, rfl⟩ := List.mem_map.mp hx
  rfl
theorem ex_inI {i : Int} {ns : List Int} (ha : EvX ta σ G (.int i)) (hb : EvX tb σ G (dLI ns)) : EvX (tOp (rIn K false) ta tb) σ G (.bool (decide (i ∈ ns))) :=
  ex_opG ha hb fun x y G2 H2 Q g2 dx dy q => by
    cases dx
    obtain ⟨a, rfl, h⟩ := dy.oli
    refine ⟨a, _, rfl, .inl (sq_of (g2 _ _ h)), rfl, flat_ints ns, ?_⟩
    rw [inV_ints]
    exact q _ H2 (Ex.refl _) (.bl _)
theorem ex_niI {i : Int} {ns : List Int} (ha : EvX ta σ G (.int i)) (hb : EvX tb σ G (dLI ns)) : EvX (tOp (rIn K true) ta tb) σ G (.bool (!decide (i ∈ ns))) :=
  ex_opG ha hb fun x y G2 H2 Q g2 dx dy q => by
    cases dx
    obtain ⟨a, rfl, h⟩ := dy.oli
    refine ⟨a, _, rfl, .inl (sq_of (g2 _ _ h)), rfl, flat_ints ns, ?_⟩
    rw [inV_ints]
    exact q _ H2 (Ex.refl _) (.bl _)
theorem ex_inS {i : Str} {ns : List Str} (ha : EvX ta σ G (.str i)) (hb : EvX tb σ G (dLS ns)) : EvX (tOp (rIn K false) ta tb) σ G (.bool (decide (i ∈ ns))) :=
  ex_opG ha hb fun x y G2 H2 Q g2 dx dy q => by
    cases dx
    obtain ⟨a, rfl, h⟩ := dy.ols
    refine ⟨a, _, rfl, .inl (sq_of (g2 _ _ h)), rfl, flat_strs' ns, ?_⟩
    rw [inV_strs]
    exact q _ H2 (Ex.refl _) (.bl _)
theorem ex_niS {i : Str} {ns : List Str} (ha : EvX ta σ G (.str i)) (hb : EvX tb σ G (dLS ns)) : EvX (tOp (rIn K true) ta tb) σ G (.bool (!decide (i ∈ ns))) :=
  ex_opG ha hb fun x y G2 H2 Q g2 dx dy q => by
    cases dx
    obtain ⟨a, rfl, h⟩ := dy.ols
    refine ⟨a, _, rfl, .inl (sq_of (g2 _ _ h)), rfl, flat_strs' ns, ?_⟩
    rw [inV_strs]
    exact q _ H2 (Ex.refl _) (.bl _)
/-! calls of defs -/
theorem ex_call {ta : TA} {R : List PyData → PyData → Prop} {ds : List PyData} (h : EvAs ta σ G ds) (hR : R ds d) : EvX (tCall (PSp R) [] E0 ta) σ G d := fun H gh Q q =>
  h H gh _ fun xs H1 e1 dx => by
    rw [List.append_nil]
    exact ⟨grow G H H1, ds, d, grow_out gh e1, dx, hR, fun x H2 e2 dz => q x H2 (e1.trans e2) (dz.up (grow_tr e1 e2))⟩
theorem en_call {ta : TA} {R : List PyData → PyData → Prop} {ds : List PyData} (h : EvAs ta σ G ds) (hR : R ds d) : EvN (tCall (NSp R) [] E0 ta) σ G d := fun H gh Q q =>
  h H gh _ fun xs H1 e1 dx => by
    rw [List.append_nil]
    exact ⟨grow G H H1, ds, d, grow_out gh e1, dx, hR, fun x H2 e2 hz dz => q x H2 (e1.trans e2) (fresh_back e1 hz) (dz.up (grow_tr e1 e2))⟩
end
end Kb
/-! Kb3: comprehensions that only make data; rising lists of ints -/
namespace Kb
open PySem L2 Evl

section
variable {K : PySem.W.Frag} {w : World} {σ : L2.St} {G G' H : Hp} {te ta tb tl : TE} {tt : TT} {d e f : PyData}

theorem lc_data {J : It} {n : Nat} {Gd : Hp → Prop} {Y : Nat → Hp → V → Hp → Prop} (wk : Walk J n Gd Y) {g : TG} {vs : List Nat} {H1 : Hp} {Q : VK} (gh : Ex G H1) (hn : n ≤ 50000) (hG : ∀ H', Ex H1 H' → Gd H')
    (p : Nat → Bool) (f : Nat → PyData)
    (hs : ∀ i x H H' Gi, i < n → Ex G Gi → Ex Gi H → Ex H1 H → Y i H x H' → ∀ R : L2.St → Hp → Prop, (∀ σ2 H2, Ex H H2 → wipe σ2 vs = wipe σ vs → EvB tt σ2 Gi (p i) → (p i = true → EvX te σ2 Gi (f i)) → R σ2 H2) → g x (wipe σ vs) H' R)
    (q : ∀ D H2, Ex H1 H2 → H1 D = none → Dt (grow G H1 H2) (.ref D) (.list (((List.range n).filter p).map f)) → Q (.ref D) H2) :
    ∀ D, H1 D = none → ∃ W : Nat → Nat → Hp → Prop, (∃ m, W 0 m (upd H1 D (.lst []))) ∧ ∀ i m H, W i m H →
      (J.stop i H ∧ Q (.ref D) H) ∨ (J.go i H ∧ ∃ Nx : Hp → Prop, (∀ H', Nx H' → ∃ m', m' < m ∧ W (i + 1) m' H') ∧ ∀ x H', J.yld i H x H' → g x (wipe σ vs) H' fun σ2 H2 => wipe σ2 vs = wipe σ vs ∧ tt σ2 H2 fun b H3 =>
        if b = true then te σ2 H3 fun y H4 => ∃ acc, H4 D = some (.lst acc) ∧ acc.length < sizeLine ∧ Nx (upd H4 D (.lst (acc ++ [y]))) else Nx H3) := by
  intro D hD
  refine lc_it wk (Qd := fun H => Q (.ref D) H) (fun i H => Ex H1 H ∧ ∃ xs Gi, H D = some (.lst xs) ∧ Ex G Gi ∧ Ex Gi H ∧ Gi D = none ∧ (∀ a o u, Gi a = some o → H1 a = some u → G a = some o) ∧ DtAll Gi xs (((List.range i).filter p).map f)) ?_ ?_ ?_ ?_
  · exact ⟨Ex.new hD, [], G, upd_same, Ex.refl G, gh.trans (Ex.new hD), fresh_back gh hD, fun a o u h _ => h, .nil⟩
  · rintro i H hi ⟨e1, _⟩
    exact hG H e1
  · rintro i x H H' hi ⟨e1, xs, Gi, hL, g1, g2, g3, g4, hd⟩ hy
    have hlen : xs.length ≤ i := by
      rw [hd.len, List.length_map]
      have := List.length_filter_le p (List.range i)
      rw [List.length_range] at this
      exact this
    refine hs i x H H' Gi hi g1 g2 e1 hy _ fun σ2 H2 e2 hw hb he => ⟨hw, hb H2 (g2.trans e2) _ fun H3 e3 => ?_⟩
    have e13 := e2.trans e3
    cases hp : p i with
    | true =>
      refine iteT ?_
      refine he hp H3 (g2.trans e13) _ fun y H4 e4 dy => ⟨xs, e4 _ _ (e13 _ _ hL), sz_lt (by omega), ?_⟩
      have e14 := e13.trans e4
      have gD : grow Gi H3 H4 D = none := grow_not (e13 _ _ hL) g3
      refine ⟨(e1.trans e14).mut hD, xs ++ [y], grow Gi H3 H4, upd_same, g1.trans (grow_in (g2.trans e13)), (grow_out (g2.trans e13) e4).mut gD, gD, fun a o u h h1 => ?_, ?_⟩
      · rw [grow_old (e13 _ _ (e1 _ _ h1))] at h
        exact g4 a o u h h1
      · rw [List.range_succ, List.filter_append, List.map_append, List.filter_cons, if_pos hp]
        exact (hd.up (grow_in (g2.trans e13))).snoc dy
    | false =>
      refine iteF ?_
      refine ⟨e1.trans e13, xs, Gi, e13 _ _ hL, g1, g2.trans e13, g3, g4, ?_⟩
      rw [List.range_succ, List.filter_append, List.map_append, List.filter_cons, if_neg (by rw [hp]; decide)]
      show DtAll Gi xs (_ ++ [])
      rw [List.append_nil]
      exact hd
  · rintro H ⟨e1, xs, Gi, hL, g1, g2, g3, g4, hd⟩
    refine q D H e1 hD (.lst (by rw [grow_new hD]; exact hL) (hd.up fun a o h => ?_))
    cases z : H1 a with
    | none =>
      rw [grow_new z]
      exact g2 a o h
    | some u =>
      rw [grow_old z]
      exact g4 a o u h z

theorem given_map {α : Type} (P : α → Bool) (F : α → PyData) : ∀ (ds : List α) (p : Nat → Bool) (f : Nat → PyData), (∀ i d, ds[i]? = some d → p i = P d ∧ f i = F d) → ((List.range ds.length).filter p).map f = (ds.filter P).map F := by
  intro ds
  induction ds with
  | nil => intro p f h; rfl
  | cons d ds ih =>
    intro p f h
    have h0 := h 0 d rfl
    have ih' := ih (fun i => p (i + 1)) (fun i => f (i + 1)) (fun i e he => h (i + 1) e (by simpa using he))
    rw [List.length_cons, List.range_succ_eq_map, List.filter_cons, List.filter_cons, h0.1, List.filter_map]
    have e2 : (List.map (fun i => f (i + 1)) (List.filter (fun i => p (i + 1)) (List.range ds.length))) = List.map f (List.map Nat.succ (List.filter (p ∘ Nat.succ) (List.range ds.length))) := by
      rw [List.map_map]
      rfl
    rw [e2] at ih'
    cases hP : P d with
    | true =>
      rw [if_pos rfl, if_pos rfl, List.map_cons, List.map_cons, h0.2, ih']
    | false =>
      rw [if_neg (by decide), if_neg (by decide), ih']

/-- [e for x in xs if t] over a list of data -/
theorem en_lcL {ds : List PyData} {j : Nat} {vs : List Nat} (P : PyData → Bool) (F : PyData → PyData) (h : EvX tl σ G (.list ds)) (hz : ds.length ≤ 50000) (hw : ∀ x, wipe ((wipe σ vs).set j (some x)) vs = wipe σ vs)
    (hb : ∀ x d Gi, d ∈ ds → Ex G Gi → Dt Gi x d → EvB tt ((wipe σ vs).set j (some x)) Gi (P d) ∧ (P d = true → EvX te ((wipe σ vs).set j (some x)) Gi (F d))) :
    EvN (tLc (iList K tl) (gName j) tt te vs) σ G (.list ((ds.filter P).map F)) := fun H gh Q q => h H gh _ fun x H1 e1 dx => by
  obtain ⟨a, xs, rfl, ha, r⟩ := dx.ol
  have gh1 := grow_out gh e1
  have gg : Ex G (grow G H H1) := grow_in gh
  refine ⟨a, rfl, ⟨xs, sq_of (gh1 _ _ ha)⟩, ?_⟩
  have hl : xs.length = ds.length := r.len
  refine lc_data (G := grow G H H1) (walk_list (K := K) (a := a) (xs := xs)) gh1 (by omega) (fun H' e' => sq_of (e' _ _ (gh1 _ _ ha))) (fun i => P (ds.getD i .none)) (fun i => F (ds.getD i .none)) ?_ ?_
  · intro i y H2 H2' Gi hi g1 g2 _ hy R k
    obtain ⟨rfl, hxi⟩ := hy
    obtain ⟨dd, hdi, hdd⟩ := r.at' hxi
    have eg : ds.getD i .none = dd := by rw [List.getD_eq_getElem?_getD, hdi]; rfl
    obtain ⟨b1, b2⟩ := hb y dd Gi (List.mem_of_getElem? hdi) (gg.trans g1) (hdd.up g1)
    refine k _ _ (Ex.refl _) (hw y) ?_ ?_
    · rw [eg]
      exact b1
    · rw [eg]
      exact b2
  · intro D H2 e2 hD dD
    rw [hl, given_map P F ds _ _ (fun i dd hdi => by rw [List.getD_eq_getElem?_getD, hdi]; exact ⟨rfl, rfl⟩)] at dD
    exact q D H2 (e1.trans e2) (fresh_back e1 hD) (dD.up (grow_tr e1 e2))
theorem en_lcI {ns : List Int} {j : Nat} {vs : List Nat} (P : Int → Bool) (F : Int → PyData) (h : EvX tl σ G (dLI ns)) (hz : ns.length ≤ 50000) (hw : ∀ x, wipe ((wipe σ vs).set j (some x)) vs = wipe σ vs)
    (hb : ∀ n Gi, n ∈ ns → Ex G Gi → EvB tt ((wipe σ vs).set j (some (.int n))) Gi (P n) ∧ (P n = true → EvX te ((wipe σ vs).set j (some (.int n))) Gi (F n))) :
    EvN (tLc (iList K tl) (gName j) tt te vs) σ G (.list ((ns.filter P).map F)) := by
  have z := en_lcL (K := K) (tt := tt) (te := te) (j := j) (vs := vs) (fun d => match d with | .int n => P n | _ => false) (fun d => match d with | .int n => F n | _ => .none) h (by rw [List.length_map]; exact hz) hw (fun x d Gi hd g dx => by
    obtain ⟨n, hn, rfl⟩ := List.mem_map.mp hd
    cases dx
    exact hb n Gi hn g)
  refine z.eq ?_
  rw [List.filter_map, List.map_map]
  rfl
theorem en_lcS {ns : List Str} {j : Nat} {vs : List Nat} (P : Str → Bool) (F : Str → PyData) (h : EvX tl σ G (dLS ns)) (hz : ns.length ≤ 50000) (hw : ∀ x, wipe ((wipe σ vs).set j (some x)) vs = wipe σ vs)
    (hb : ∀ n Gi, n ∈ ns → Ex G Gi → EvB tt ((wipe σ vs).set j (some (.str n))) Gi (P n) ∧ (P n = true → EvX te ((wipe σ vs).set j (some (.str n))) Gi (F n))) :
    EvN (tLc (iList K tl) (gName j) tt te vs) σ G (.list ((ns.filter P).map F)) := by
  have z := en_lcL (K := K) (tt := tt) (te := te) (j := j) (vs := vs) (fun d => match d with | .str n => P n | _ => false) (fun d => match d with | .str n => F n | _ => .none) h (by rw [List.length_map]; exact hz) hw (fun x d Gi hd g dx => by
    obtain ⟨n, hn, rfl⟩ := List.mem_map.mp hd
    cases dx
    exact hb n Gi hn g)
  refine z.eq ?_
  rw [List.filter_map, List.map_map]
  rfl
/-- over range(n) -/
theorem en_lcR {ta : TA} {n : Int} {j : Nat} {vs : List Nat} (P : Nat → Bool) (F : Nat → PyData) (h : EvAs ta σ G [.int n]) (hz : n ≤ 50000) (hw : ∀ x, wipe ((wipe σ vs).set j (some x)) vs = wipe σ vs)
    (hb : ∀ (i : Nat) Gi, i < n.toNat → Ex G Gi → EvB tt ((wipe σ vs).set j (some (.int i))) Gi (P i) ∧ (P i = true → EvX te ((wipe σ vs).set j (some (.int i))) Gi (F i))) (hn : -100000 ≤ n := by omega) :
    EvN (tLc (iRng1 ta) (gName j) tt te vs) σ G (.list (((List.range n.toNat).filter P).map F)) := fun H gh Q q => h H gh _ fun x H1 e1 dx => by
  cases dx with
  | cons a b =>
    cases a
    cases b
    have gh1 := grow_out gh e1
    have gg : Ex G (grow G H H1) := grow_in gh
    refine ⟨n, rfl, by omega, by omega, ?_⟩
    refine lc_data (G := grow G H H1) (walk_range (lo := 0) (n := n.toNat)) gh1 (by omega) (fun H' e' => trivial) P F ?_ ?_
    · intro i y H2 H2' Gi hi g1 g2 _ hy R k
      obtain ⟨rfl, rfl⟩ := hy
      obtain ⟨b1, b2⟩ := hb i Gi hi (gg.trans g1)
      have e0 : (0 : Int) + (i : Int) = (i : Int) := Int.zero_add _
      have k' := k ((wipe σ vs).set j (some (.int (i : Int)))) _ (Ex.refl _) (hw _) b1 b2
      show R ((wipe σ vs).set j (some (.int ((0 : Int) + (i : Int))))) _
      rw [e0]
      exact k'
    · intro D H2 e2 hD dD
      exact q D H2 (e1.trans e2) (fresh_back e1 hD) (dD.up (grow_tr e1 e2))
/-- over the signs of a text -/
theorem en_lcT {z : Str} {j : Nat} {vs : List Nat} (P : Nat → Bool) (F : Nat → PyData) (h : EvX tl σ G (.str z)) (hz : z.cps.size ≤ 50000) (hw : ∀ x, wipe ((wipe σ vs).set j (some x)) vs = wipe σ vs)
    (hb : ∀ c Gi, c ∈ z.cps.toList → Ex G Gi → EvB tt ((wipe σ vs).set j (some (.str ⟨#[c]⟩))) Gi (P c) ∧ (P c = true → EvX te ((wipe σ vs).set j (some (.str ⟨#[c]⟩))) Gi (F c))) :
    EvN (tLc (iStr tl) (gName j) tt te vs) σ G (.list ((z.cps.toList.filter P).map F)) := fun H gh Q q => h H gh _ fun x H1 e1 dx => by
  cases dx
  have gh1 := grow_out gh e1
  have gg : Ex G (grow G H H1) := grow_in gh
  refine ⟨z, rfl, ?_⟩
  refine lc_data (G := grow G H H1) (walk_str (z := z)) gh1 (by omega) (fun H' e' => trivial) (fun i => P (z.cps.toList.getD i 0)) (fun i => F (z.cps.toList.getD i 0)) ?_ ?_
  · intro i y H2 H2' Gi hi g1 g2 _ hy R k
    obtain ⟨rfl, c, hc, rfl⟩ := hy
    have hc' : z.cps.toList[i]? = some c := by rw [Array.getElem?_toList]; exact hc
    have eg : z.cps.toList.getD i 0 = c := by rw [List.getD_eq_getElem?_getD, hc']; rfl
    obtain ⟨b1, b2⟩ := hb c Gi (List.mem_of_getElem? hc') (gg.trans g1)
    refine k _ _ (Ex.refl _) (hw _) ?_ ?_
    · rw [eg]
      exact b1
    · rw [eg]
      exact b2
  · intro D H2 e2 hD dD
    rw [show z.cps.size = z.cps.toList.length by simp, given_map P F z.cps.toList _ _ (fun i dd hdi => by rw [List.getD_eq_getElem?_getD, hdi]; exact ⟨rfl, rfl⟩)] at dD
    exact q D H2 (e1.trans e2) (fresh_back e1 hD) (dD.up (grow_tr e1 e2))
/-- pairs: enumerate(xs) -/
theorem en_lcE {ta : TA} {ds : List PyData} {j j' : Nat} {vs : List Nat} (P : Nat → Bool) (F : Nat → PyData) (h : EvAs ta σ G [.list ds]) (hz : ds.length ≤ 50000) (hw : ∀ x y, wipe (((wipe σ vs).set j (some x)).set j' (some y)) vs = wipe σ vs)
    (hb : ∀ (i : Nat) x d Gi, ds[i]? = some d → Ex G Gi → Dt Gi x d → EvB tt (((wipe σ vs).set j (some (.int i))).set j' (some x)) Gi (P i) ∧ (P i = true → EvX te (((wipe σ vs).set j (some (.int i))).set j' (some x)) Gi (F i))) :
    EvN (tLc (iEnum K ta) (gTup K 2 (gCons (gName j) (gCons (gName j') gNil))) tt te vs) σ G (.list (((List.range ds.length).filter P).map F)) := fun H gh Q q => h H gh _ fun x H1 e1 dx => by
  cases dx with
  | cons dx b =>
    cases b
    obtain ⟨a, xs, rfl, ha, r⟩ := dx.ol
    have gh1 := grow_out gh e1
    have gg : Ex G (grow G H H1) := grow_in gh
    refine ⟨a, xs, rfl, sq_of (gh1 _ _ ha), ?_⟩
    have hl : xs.length = ds.length := r.len
    refine lc_data (G := grow G H H1) (walk_enum (K := K) (a := a) (xs := xs)) gh1 (by omega) (fun H' e' => sq_of (e' _ _ (gh1 _ _ ha))) P F ?_ ?_
    · intro i y H2 H2' Gi hi g1 g2 _ hy R k
      obtain ⟨T, x1, x2, rfl, hT, rfl, h1, h2⟩ := hy
      obtain rfl := Option.some.inj h1
      obtain ⟨dd, hdi, hdd⟩ := r.at' h2
      obtain ⟨b1, b2⟩ := hb i x2 dd Gi hdi (gg.trans g1) (hdd.up g1)
      exact ⟨T, _, rfl, st_of upd_same, rfl, _, _, rfl, _, _, rfl, rfl, k _ _ (Ex.new hT) (hw _ _) b1 b2⟩
    · intro D H2 e2 hD dD
      rw [hl] at dD
      exact q D H2 (e1.trans e2) (fresh_back e1 hD) (dD.up (grow_tr e1 e2))
/-- pairs: zip(xs, ys) of one length -/
theorem en_lcZ {ta : TA} {ds es : List PyData} {j j' : Nat} {vs : List Nat} (P : Nat → Bool) (F : Nat → PyData) (h : EvAs ta σ G [.list ds, .list es]) (hde : ds.length = es.length) (hz : ds.length ≤ 50000) (hw : ∀ x y, wipe (((wipe σ vs).set j (some x)).set j' (some y)) vs = wipe σ vs)
    (hb : ∀ (i : Nat) x y d e Gi, ds[i]? = some d → es[i]? = some e → Ex G Gi → Dt Gi x d → Dt Gi y e → EvB tt (((wipe σ vs).set j (some x)).set j' (some y)) Gi (P i) ∧ (P i = true → EvX te (((wipe σ vs).set j (some x)).set j' (some y)) Gi (F i))) :
    EvN (tLc (iZip K ta) (gTup K 2 (gCons (gName j) (gCons (gName j') gNil))) tt te vs) σ G (.list (((List.range ds.length).filter P).map F)) := fun H gh Q q => h H gh _ fun x H1 e1 dx => by
  cases dx with
  | cons dx b =>
    cases b with
    | cons dy b =>
      cases b
      obtain ⟨a, xs, rfl, ha, r⟩ := dx.ol
      obtain ⟨a', xs', rfl, ha', r'⟩ := dy.ol
      have gh1 := grow_out gh e1
      have gg : Ex G (grow G H H1) := grow_in gh
      refine ⟨a, a', xs, xs', rfl, sq_of (gh1 _ _ ha), sq_of (gh1 _ _ ha'), ?_⟩
      have hl : xs.length = ds.length := r.len
      have hl' : xs'.length = es.length := r'.len
      refine lc_data (G := grow G H H1) (walk_zip (K := K) (a := a) (b := a') (xs := xs) (ys := xs') (n := ds.length) (by omega)) gh1 (by omega) (fun H' e' => ⟨sq_of (e' _ _ (gh1 _ _ ha)), sq_of (e' _ _ (gh1 _ _ ha'))⟩) P F ?_ ?_
      · intro i y H2 H2' Gi hi g1 g2 _ hy R k
        obtain ⟨T, x1, x2, rfl, hT, rfl, h1, h2⟩ := hy
        obtain ⟨dd, hdi, hdd⟩ := r.at' h1
        obtain ⟨de, hei, hde'⟩ := r'.at' h2
        obtain ⟨b1, b2⟩ := hb i x1 x2 dd de Gi hdi hei (gg.trans g1) (hdd.up g1) (hde'.up g1)
        exact ⟨T, _, rfl, st_of upd_same, rfl, _, _, rfl, _, _, rfl, rfl, k _ _ (Ex.new hT) (hw _ _) b1 b2⟩
      · intro D H2 e2 hD dD
        exact q D H2 (e1.trans e2) (fresh_back e1 hD) (dD.up (grow_tr e1 e2))
end

/-! ### rising lists of ints -/
def insR (x : Int) : List Int → List Int
  | [] => [x]
  | y :: r => if x < y then x :: y :: r else if x = y then y :: r else y :: insR x r
def rise (xs : List Int) : List Int := xs.foldr insR []
theorem mem_insR (x k : Int) : ∀ l : List Int, k ∈ insR x l ↔ k = x ∨ k ∈ l
  | [] => by simp [insR]
  | y :: r => by
    have ih := mem_insR x k r
    unfold insR
    split
    · simp
    · split
      · rename_i h; subst h; simp
      · simp only [List.mem_cons, ih]
        constructor
        · rintro (h | h | h) <;> simp [h]
        · rintro (h | h | h) <;> simp [h]
theorem ris_insR (x : Int) : ∀ l : List Int, l.Pairwise (· < ·) → (insR x l).Pairwise (· < ·)
  | [], _ => by simp [insR]
  | y :: r, h => by
    obtain ⟨h1, h2⟩ := List.pairwise_cons.mp h
    unfold insR
    split
    · rename_i q
      refine List.pairwise_cons.mpr ⟨fun z hz => ?_, h⟩
      rcases List.mem_cons.mp hz with rfl | hz
      · exact q
      · exact Int.lt_trans q (h1 z hz)
    · split
      · exact h
      · refine List.pairwise_cons.mpr ⟨fun z hz => ?_, ris_insR x r h2⟩
        rcases (mem_insR x z r).mp hz with rfl | hz
        · omega
        · exact h1 z hz
theorem mem_rise (k : Int) : ∀ xs : List Int, k ∈ rise xs ↔ k ∈ xs
  | [] => by simp [rise]
  | x :: xs => by
    have ih := mem_rise k xs
    show k ∈ insR x (rise xs) ↔ _
    rw [mem_insR, ih, List.mem_cons]
theorem ris_rise : ∀ xs : List Int, (rise xs).Pairwise (· < ·)
  | [] => List.Pairwise.nil
  | x :: xs => ris_insR x _ (ris_rise xs)
theorem len_insR (x : Int) : ∀ l : List Int, (insR x l).length ≤ l.length + 1
  | [] => by simp [insR]
  | y :: r => by
    have ih := len_insR x r
    unfold insR
    split
    · simp
    · split
      · simp
      · simp only [List.length_cons]; omega
theorem len_rise : ∀ xs : List Int, (rise xs).length ≤ xs.length
  | [] => by simp [rise]
  | x :: xs => by
    have h1 := len_insR x (rise xs)
    have h2 := len_rise xs
    show (insR x (rise xs)).length ≤ _
    rw [List.length_cons]
    omega
theorem ris_uniq : ∀ {l m : List Int}, l.Pairwise (· < ·) → m.Pairwise (· < ·) → (∀ k, k ∈ l ↔ k ∈ m) → l = m
  | [], [], _, _, _ => rfl
  | [], y :: m, _, _, h => absurd ((h y).mpr (List.mem_cons_self)) (by simp)
  | x :: l, [], _, _, h => absurd ((h x).mp (List.mem_cons_self)) (by simp)
  | x :: l, y :: m, hl, hm, h => by
    obtain ⟨l1, l2⟩ := List.pairwise_cons.mp hl
    obtain ⟨m1, m2⟩ := List.pairwise_cons.mp hm
    have exy : x = y := by
      rcases List.mem_cons.mp ((h x).mp List.mem_cons_self) with q | q
      · exact q
      · rcases List.mem_cons.mp ((h y).mpr List.mem_cons_self) with q' | q'
        · exact q'.symm
        · have a := m1 x q
          have b := l1 y q'
          omega
    subst exy
    rw [ris_uniq l2 m2 fun k => ?_]
    constructor
    · intro hk
      rcases List.mem_cons.mp ((h k).mp (List.mem_cons_of_mem _ hk)) with q | q
      · have := l1 k hk
        omega
      · exact q
    · intro hk
      rcases List.mem_cons.mp ((h k).mpr (List.mem_cons_of_mem _ hk)) with q | q
      · have := m1 k hk
        omega
      · exact q
/-- sorted, the equal ones too -/
def srt (xs : List Int) : List Int := xs.mergeSort (fun a b => decide (a ≤ b))
theorem srt_perm (xs : List Int) : (srt xs).Perm xs := List.mergeSort_perm xs _
theorem srt_le (xs : List Int) : (srt xs).Pairwise (· ≤ ·) := by
  have h := List.pairwise_mergeSort (le := fun (a b : Int) => decide (a ≤ b)) (fun a b c h1 h2 => by simp at *; omega) (fun a b => by simp; omega) xs
  exact h.imp (fun q => by simpa using q)
theorem le_uniq : ∀ {l m : List Int}, l.Pairwise (· ≤ ·) → m.Pairwise (· ≤ ·) → l.Perm m → l = m
  | [], m, _, _, h => by rw [List.nil_perm.mp h]
  | x :: l, [], _, _, h => absurd h.length_eq (by simp)
  | x :: l, y :: m, hl, hm, h => by
    obtain ⟨l1, l2⟩ := List.pairwise_cons.mp hl
    obtain ⟨m1, m2⟩ := List.pairwise_cons.mp hm
    have exy : x = y := by
      have a : x ≤ y := by
        rcases List.mem_cons.mp (h.mem_iff.mpr (List.mem_cons_self : y ∈ y :: m)) with q | q
        · omega
        · exact l1 y q
      have b : y ≤ x := by
        rcases List.mem_cons.mp (h.mem_iff.mp (List.mem_cons_self : x ∈ x :: l)) with q | q
        · omega
        · exact m1 x q
      omega
    subst exy
    rw [le_uniq l2 m2 ((List.perm_cons x).mp h)]
section
variable {K : PySem.W.Frag} {w : World} {σ : L2.St} {G G' H : Hp} {te ta tb tl : TE} {tt : TT} {d e f : PyData}
theorem en_sortedI {ns : List Int} (ha : EvX ta σ G (dLI ns)) : EvN (tCB (rSortedI K) (tCons ta tNil)) σ G (dLI (srt ns)) := en_cb1 ha fun x G2 H2 Q g2 dx q => by
  obtain ⟨a, rfl, h⟩ := dx.oli
  refine ⟨a, ns, rfl, sq_of (g2 _ _ h), fun ns' p hp hs hn => q p _ (Ex.new hn) hn ?_⟩
  rw [le_uniq hs (srt_le ns) (hp.trans (srt_perm ns).symm)]
  exact el_of hn g2 (dt_ints _)
theorem en_rising {ns : List Int} (ha : EvX ta σ G (dLI ns)) (hl : ns.length < 64) : EvN (tCB (rSortedSet w) (tCons (tCB (rSetI K w) (tCons ta tNil)) tNil)) σ G (dLI (rise ns)) := fun H gh Q q => ha H gh _ fun x H1 e1 dx => by
  obtain ⟨a, rfl, h⟩ := dx.oli
  have gh1 := grow_out gh e1
  refine ⟨a, ns, rfl, sq_of (gh1 _ _ h), by omega, fun p c hp hc => ?_⟩
  refine ⟨p, _, c, rfl, upd_same, by omega, fun ns' p' hr hm hlen hp' => ?_⟩
  have e2 : Ex H1 (upd (upd H1 p (SetO w p (fun j => decide (j ∈ ns)) c)) p' (.lst (ns'.map V.int))) := (Ex.new hp).trans (Ex.new hp')
  refine q p' _ (e1.trans e2) (fresh_back (e1.trans (Ex.new hp)) hp') ?_
  have en : ns' = rise ns := ris_uniq hr (ris_rise ns) fun k => by rw [hm k, mem_rise]; simp
  subst en
  exact Dt.li (by rw [grow_new (fresh_back (e1.trans (Ex.new hp)) hp'), upd_same])
end
end Kb
/-! Kb4: statements over views; dicts of scalars -/
namespace Kb
open PySem L2 Evl
theorem DtAll.one {H : Hp} {vs : List V} {d : PyData} (h : DtAll H vs [d]) : ∃ v, vs = [v] ∧ Dt H v d := by
  cases h with
  | cons a b =>
    cases b
    exact ⟨_, rfl, a⟩
theorem DtAll.two {H : Hp} {vs : List V} {d e : PyData} (h : DtAll H vs [d, e]) : ∃ v u, vs = [v, u] ∧ Dt H v d ∧ Dt H u e := by
  cases h with
  | cons a b =>
    obtain ⟨u, rfl, hb⟩ := b.one
    exact ⟨_, u, rfl, a, hb⟩
theorem DtAll.three {H : Hp} {vs : List V} {d e f : PyData} (h : DtAll H vs [d, e, f]) : ∃ v u x, vs = [v, u, x] ∧ Dt H v d ∧ Dt H u e ∧ Dt H x f := by
  cases h with
  | cons a b =>
    obtain ⟨u, x, rfl, hb, hc⟩ := b.two
    exact ⟨_, u, x, rfl, a, hb, hc⟩

/-- from the view G of H to the view G1 of H1: nothing is lost, what was kept apart stays apart -/
structure Go (G H G1 H1 : Hp) : Prop where
  gg : Ex G G1
  gh : Ex G1 H1
  hh : Ex H H1
  no : ∀ a u, H a = some u → G1 a = G a
theorem Go.grow {G H H1 : Hp} (gh : Ex G H) (e : Ex H H1) : Go G H (grow G H H1) H1 := ⟨grow_in gh, grow_out gh e, e, fun _ _ h => grow_old h⟩
theorem Go.stay {G H H1 : Hp} (gh : Ex G H) (e : Ex H H1) : Go G H G H1 := ⟨Ex.refl G, gh.trans e, e, fun _ _ _ => rfl⟩
theorem Go.trans {G H G1 H1 G2 H2 : Hp} (a : Go G H G1 H1) (b : Go G1 H1 G2 H2) : Go G H G2 H2 :=
  ⟨a.gg.trans b.gg, b.gh, a.hh.trans b.hh, fun x o h => (b.no x o (a.hh x o h)).trans (a.no x o h)⟩
/-- a new object kept apart -/
theorem Go.apart {G H H1 : Hp} {p : Addr} (gh : Ex G H) (e : Ex H H1) (hp : H p = none) : Go G H (hide (Kb.grow G H H1) p) H1 :=
  ⟨fun a o h => by
    have : a ≠ p := ne_of_none (gh a o h) hp
    rw [hide_ne this]
    exact grow_in gh a o h, hide_ex.trans (grow_out gh e), e, fun a o h => by
    rw [hide_ne (ne_of_none h hp)]
    exact grow_old h⟩
/-- what a grown view tells is told by the first one, grown as far -/
theorem Go.fin {G H G1 H1 H2 : Hp} (go : Go G H G1 H1) (e : Ex H1 H2) : Ex (Kb.grow G1 H1 H2) (Kb.grow G H H2) := fun a o h => by
  cases z : H a with
  | none =>
    rw [grow_new z]
    exact grow_out go.gh e a o h
  | some u =>
    rw [grow_old (go.hh _ _ z), go.no _ _ z] at h
    rw [grow_old z]
    exact h
theorem filt_true {α : Type} (xs : List α) : xs.filter (fun _ => true) = xs := List.filter_eq_self.mpr fun _ _ => rfl
/-- the end of a def: what its body tells is told to the caller -/
theorem Go.ret {G H G1 H1 : Hp} {Q : VK} {d : PyData} (go : Go G H G1 H1) (q : ∀ p H2, Ex H H2 → H p = none → Dt (Kb.grow G H H2) (.ref p) d → Q (.ref p) H2) : ∀ p H2, Ex H1 H2 → H1 p = none → Dt (Kb.grow G1 H1 H2) (.ref p) d → Q (.ref p) H2 :=
  fun p H2 e hp dp => q p H2 (go.hh.trans e) (fresh_back go.hh hp) (dp.up (go.fin e))
theorem Go.retX {G H G1 H1 : Hp} {Q : VK} {d : PyData} (go : Go G H G1 H1) (q : ∀ x H2, Ex H H2 → Dt (Kb.grow G H H2) x d → Q x H2) : ∀ x H2, Ex H1 H2 → Dt (Kb.grow G1 H1 H2) x d → Q x H2 :=
  fun x H2 e dp => q x H2 (go.hh.trans e) (dp.up (go.fin e))

section
variable {K : PySem.W.Frag} {w : World} {σ : L2.St} {G G' H : Hp} {te ta tb tl : TE} {tt : TT} {d e f : PyData} {D : Ends} {tz tu tw : TS} {g : TG}
theorem st_asg {i : Nat} (gh : Ex G H) (h : EvX te σ G d) (k : ∀ x G1 H1, Go G H G1 H1 → Dt G1 x d → tz D (σ.set i (some x)) H1) : tSeq (tAsg te (gName i)) tz D σ H :=
  h H gh _ fun x H1 e1 dx => k x _ H1 (Go.grow gh e1) dx
/-- a new list, kept apart: it may be changed -/
theorem st_asgA {i : Nat} {ds : List PyData} (gh : Ex G H) (h : EvN te σ G (.list ds)) (k : ∀ p xs G1 H1, Go G H G1 H1 → H p = none → G1 p = none → H1 p = some (.lst xs) → DtAll G1 xs ds → tz D (σ.set i (some (.ref p))) H1) : tSeq (tAsg te (gName i)) tz D σ H :=
  h H gh _ fun p H1 e1 hp dx => by
    have dx' := dx
    obtain ⟨a, xs, ea, ha, r⟩ := dx.ol
    cases ea
    refine k p xs _ H1 (Go.apart gh e1 hp) hp hide_same (grow_out gh e1 _ _ ha) (DtAll.hid dx' ?_ r)
    simp only [PyData.list.sizeOf_spec]
    omega
theorem st_if {b : Bool} (gh : Ex G H) (h : EvB tt σ G b) (h1 : b = true → ∀ H1, Go G H G H1 → tu { D with nx := tz D } σ H1) (h2 : b = false → ∀ H1, Go G H G H1 → tw { D with nx := tz D } σ H1) : tSeq (tIfS tt tu tw) tz D σ H :=
  h H gh _ fun H1 e1 => by
    cases b with
    | true => exact iteT (h1 rfl H1 (Go.stay gh e1))
    | false => exact iteF (h2 rfl H1 (Go.stay gh e1))
theorem st_if1 {b : Bool} (gh : Ex G H) (h : EvB tt σ G b) (h1 : b = true → ∀ H1, Go G H G H1 → tu D σ H1) (h2 : b = false → ∀ H1, Go G H G H1 → tw D σ H1) : tIfS tt tu tw D σ H :=
  h H gh _ fun H1 e1 => by
    cases b with
    | true => exact iteT (h1 rfl H1 (Go.stay gh e1))
    | false => exact iteF (h2 rfl H1 (Go.stay gh e1))
theorem st_ret (gh : Ex G H) (h : EvX te σ G d) (k : ∀ x H1, Ex H H1 → Dt (grow G H H1) x d → D.rt x H1) : tRet te D σ H := h H gh _ k
theorem st_retN (gh : Ex G H) (h : EvN te σ G d) (k : ∀ p H1, Ex H H1 → H p = none → Dt (grow G H H1) (.ref p) d → D.rt (.ref p) H1) : tRet te D σ H := h H gh _ k

/-! dicts with scalars -/
def scalD : V → PyData
  | .bl b => .bool b
  | .int i => .int i
  | .str x => .str x
  | _ => .none
theorem scal_of {H : Hp} {v u : V} (f : flatV u = true) (h : Dt H v (scalD u)) : v = u := by
  cases u with
  | non => exact h.on
  | bl b => exact h.ob
  | int i => exact h.oi
  | str x => exact h.os
  | _ => cases f
theorem kV_flat (k : Key) : flatV (kV k) = true := by cases k <;> rfl
abbrev pairD (kv : Key × V) : PyData := .tuple [scalD (kV kv.1), scalD kv.2]
theorem pairs_of {H H' : Hp} (gh : Ex H H') : ∀ {kvs : List (Key × V)} {xs : List V}, (∀ kv ∈ kvs, flatV kv.2 = true) → DtAll H xs (kvs.map pairD) → ∃ ps : List Addr, xs = ps.map V.ref ∧ Paired (fun p kv => SqT K H' p [kV kv.1, kv.2]) ps kvs
  | [], _, _, .nil => ⟨[], rfl, .nil⟩
  | kv :: kvs, _, hf, .cons a r => by
    obtain ⟨ps, rfl, hp⟩ := pairs_of gh (fun x hx => hf x (List.mem_cons_of_mem _ hx)) r
    obtain ⟨p, ys, rfl, ha, hy⟩ := a.ot
    obtain ⟨v, u, rfl, hv, hu⟩ := hy.two
    rw [scal_of (kV_flat _) hv, scal_of (hf kv List.mem_cons_self) hu] at ha
    exact ⟨p :: ps, rfl, .cons (st_of (gh _ _ ha)) hp⟩
def EvK (te : TE) (σ : L2.St) (G : Hp) (kvs : List (Key × V)) : Prop := ∀ H, Ex G H → ∀ Q : VK, (∀ p H2, Ex H H2 → H p = none → H2 p = some (.dK kvs) → Q (.ref p) H2) → te σ H Q
def rDictP (K : PySem.W.Frag) : List V → Hp → VK → Prop := fun xs H Q => ∃ (a : Addr) (ps : List Addr) (kvs : List (Key × V)), xs = [.ref a] ∧ SqL K H a (ps.map V.ref) ∧ Paired (fun p kv => SqT K H p [kV kv.1, kv.2]) ps kvs ∧
    ∀ p, H p = none → Q (.ref p) (upd H p (.dK (mergeK [] kvs)))
theorem ek_dict {kvs : List (Key × V)} (ha : EvX ta σ G (.list (kvs.map pairD))) (hf : ∀ kv ∈ kvs, flatV kv.2 = true) : EvK (tCB (rDictP K) (tCons ta tNil)) σ G (mergeK [] kvs) := fun H gh Q q => ha H gh _ fun x H1 e1 dx => by
  obtain ⟨a, xs, rfl, h, r⟩ := dx.ol
  obtain ⟨ps, rfl, hp⟩ := pairs_of (K := K) (grow_out gh e1) hf r
  exact ⟨a, ps, kvs, rfl, sq_of (grow_out gh e1 _ _ h), hp, fun p hp => q p _ (e1.trans (Ex.new hp)) (fresh_back e1 hp) upd_same⟩
theorem st_asgK {i : Nat} {kvs : List (Key × V)} (gh : Ex G H) (h : EvK te σ G kvs) (k : ∀ p G1 H1, Go G H G1 H1 → G1 p = some (.dK kvs) → tz D (σ.set i (some (.ref p))) H1) : tSeq (tAsg te (gName i)) tz D σ H :=
  h H gh _ fun p H1 e1 hp h1 => k p _ H1 (Go.grow gh e1) (by rw [grow_new hp]; exact h1)
theorem ex_dinI {i : Nat} {p : Addr} {k : Int} {kvs : List (Key × V)} (ha : EvX ta σ G (.int k)) (hi : σ[i]? = some (some (.ref p))) (hp : G p = some (.dK kvs)) : EvX (tDIn ta (tVar i)) σ G (.bool (valV kvs (Sum.inl k : Key)).isSome) := fun H gh Q q => ha H gh _ fun x H1 e1 dx => by
  cases dx
  exact ⟨_, hi, p, _, rfl, DGet.k (k := Sum.inl k) (e1 _ _ (gh _ _ hp)), q _ H1 e1 (.bl _)⟩
theorem ex_dniI {i : Nat} {p : Addr} {k : Int} {kvs : List (Key × V)} (ha : EvX ta σ G (.int k)) (hi : σ[i]? = some (some (.ref p))) (hp : G p = some (.dK kvs)) : EvX (tDNotIn ta (tVar i)) σ G (.bool (!(valV kvs (Sum.inl k : Key)).isSome)) := fun H gh Q q => ha H gh _ fun x H1 e1 dx => by
  cases dx
  exact ⟨_, hi, p, _, rfl, DGet.k (k := Sum.inl k) (e1 _ _ (gh _ _ hp)), q _ H1 e1 (.bl _)⟩
end
theorem mergeK_some (k : Key) : ∀ (more kvs : List (Key × V)), (valV (mergeK kvs more) k).isSome = ((valV kvs k).isSome || more.any fun p => decide (p.1 = k))
  | [], kvs => by simp [mergeK]
  | p :: more, kvs => by
    have ih := mergeK_some k more (putK kvs p.1 p.2)
    show (valV (mergeK (putK kvs p.1 p.2) more) k).isSome = _
    rw [ih, valV_put, List.any_cons]
    by_cases h : k = p.1
    · subst h
      simp
    · have h' : ¬ p.1 = k := fun z => h z.symm
      simp [h, h']
theorem key_any (k : Int) : ∀ ms : List Int, ((ms.map fun k => ((Sum.inl k : Key), V.bl true)).any fun p => decide (p.1 = (Sum.inl k : Key))) = decide (k ∈ ms)
  | [] => by simp
  | m :: ms => by
    rw [List.map_cons, List.any_cons, key_any k ms]
    by_cases h : m = k
    · subst h
      simp
    · have h' : ¬ k = m := fun z => h z.symm
      have h2 : ¬ ((Sum.inl m : Key) = Sum.inl k) := fun z => h (Sum.inl.inj z)
      simp [h2, h']
theorem keys_in (k : Int) (ms : List Int) : (valV (mergeK [] (ms.map fun k => ((Sum.inl k : Key), V.bl true))) (Sum.inl k : Key)).isSome = decide (k ∈ ms) := by
  rw [mergeK_some, key_any]
  rfl
theorem cal_mk {P : Program} {w : World} {K : PySem.W.Frag} {mg : Str → Option Value} {base : Heap} {x : Str} {k : Nat} {ps : List Str} {sp : Sp} {f : Addr} {fd : FuncData} (F : FnOk P w K mg base CX0 k f fd ps sp) (hm : mg x = some (.ref f)) (hk : PySem.W.keepIn K (.ref f) = true) (hb : Binds K fd ps []) : Cal P w K mg base x k ps sp := ⟨f, fd, F, hm, hk, hb⟩
section
variable {K : PySem.W.Frag} {w : World} {σ : L2.St} {G G' H : Hp} {te ta tb tl : TE} {tt : TT} {d e f : PyData}
theorem en_lcI0 {ns : List Int} {j : Nat} {vs : List Nat} (F : Int → PyData) (h : EvX tl σ G (dLI ns)) (hz : ns.length ≤ 50000) (hw : ∀ x, wipe ((wipe σ vs).set j (some x)) vs = wipe σ vs)
    (hb : ∀ n Gi, n ∈ ns → Ex G Gi → EvX te ((wipe σ vs).set j (some (.int n))) Gi (F n)) : EvN (tLc (iList K tl) (gName j) tYes te vs) σ G (.list (ns.map F)) :=
  (en_lcI (fun _ => true) F h hz hw fun n Gi hn g => ⟨eb_yes, fun _ => hb n Gi hn g⟩).eq (by rw [filt_true])
theorem en_lcS0 {ns : List Str} {j : Nat} {vs : List Nat} (F : Str → PyData) (h : EvX tl σ G (dLS ns)) (hz : ns.length ≤ 50000) (hw : ∀ x, wipe ((wipe σ vs).set j (some x)) vs = wipe σ vs)
    (hb : ∀ n Gi, n ∈ ns → Ex G Gi → EvX te ((wipe σ vs).set j (some (.str n))) Gi (F n)) : EvN (tLc (iList K tl) (gName j) tYes te vs) σ G (.list (ns.map F)) :=
  (en_lcS (fun _ => true) F h hz hw fun n Gi hn g => ⟨eb_yes, fun _ => hb n Gi hn g⟩).eq (by rw [filt_true])
end
end Kb
/-! Kb5: isinstance, zip of lists or tuples, == of data; the script's draws -/
namespace Kb
open PySem L2 Evl
section
variable {K : PySem.W.Frag} {w : World} {σ : L2.St} {G G' H : Hp} {te ta tb tl : TE} {tt : TT} {d e f : PyData} {D : Ends} {tz tu tw : TS} {g : TG}
def tyD : PyData → String
  | .none => "NoneType"
  | .bool _ => "bool"
  | .int _ => "int"
  | .str _ => "str"
  | .list _ => "list"
  | .tuple _ => "tuple"
  | .dict _ => "dict"
theorem Dt.ty {x : V} (h : Dt H x d) : TyX K H x (.type (tyD d)) := by
  cases h with
  | non => exact .base .non
  | bl b => exact .base (.bl b)
  | int i => exact .base (.int i)
  | str x => exact .base (.str x)
  | lst h r => exact .base (.lst h)
  | tup h r => exact .base (.tup h)
theorem ex_isi {n : String} {b : Bool} (ha : EvX ta σ G d) (hk : kitB (tyD d) n = some b) : EvX (tCB (rIsi K) (tCons ta (tCons (tC (.ty n)) tNil))) σ G (.bool b) := fun H gh Q q => ha H gh _ fun x H1 e1 dx =>
  ⟨x, .ty n, .type (tyD d), .type n, b, rfl, .ty n, (dx.up (grow_out gh e1)).ty, kit_ty hk, q _ H1 e1 (.bl _)⟩
theorem ex_isiT {n m : String} {a b c : Bool} (ha : EvX ta σ G d) (hk : kitB (tyD d) n = some a) (hk' : kitB (tyD d) m = some b) (hc : c = (a || b)) : EvX (tCB (rIsiT K) (tCons ta (tCons (tTup (tCons (tC (.ty n)) (tCons (tC (.ty m)) tNil))) tNil))) σ G (.bool c) := fun H gh Q q => ha H gh _ fun x H1 e1 dx =>
  ⟨(by show 2 ≤ sizeLine; decide), fun p hp => ⟨x, p, [.ty n, .ty m], .type (tyD d), [.type n, .type m], c, rfl, upd_same, .cons (.ty n) (.cons (.ty m) .nil), (dx.up ((grow_out gh e1).trans (Ex.new hp))).ty, by
    subst hc
    refine kitAny_cons (kit_ty hk) (fun z => kitAny_cons (kit_ty hk') (fun z' => ?_) fun z' => ?_) fun z => ?_
    · subst z
      subst z'
      exact kitAny_nil
    · subst z
      subst z'
      rfl
    · subst z
      rfl, q _ _ (e1.trans (Ex.new hp)) (.bl _)⟩⟩
theorem walk_zipT {a b : Addr} {xs ys : List V} {n : Nat} (hn : n = min xs.length ys.length) : Walk (RZ.ItzT K a b) n (fun H => SqT K H a xs ∧ SqT K H b ys) (YPair (fun i => xs[i]?) (fun i => ys[i]?)) := by
  subst hn
  refine ⟨fun i _ hi q => ?_, fun _ q => ⟨xs, ys, q.1, q.2, by omega⟩, fun i H v H' _ q y => ?_⟩
  · have h1 : i < xs.length := by omega
    have h2 : i < ys.length := by omega
    exact ⟨xs, ys, xs[i], ys[i], q.1, q.2, by simp [h1], by simp [h2]⟩
  · obtain ⟨T, x, z, h1, h2, h3, h4, h5⟩ := y
    exact ⟨T, x, z, h1, h2, h3, h4 xs q.1, h5 ys q.2⟩
/-- zip of two lists or of two tuples, of one length -/
theorem en_lcZA {ta : TA} {ds es : List PyData} {j j' : Nat} {vs : List Nat} (F : Nat → PyData) (h : EvAs ta σ G [.list ds, .list es] ∨ EvAs ta σ G [.tuple ds, .tuple es]) (hde : ds.length = es.length) (hz : ds.length ≤ 50000) (hw : ∀ x y, wipe (((wipe σ vs).set j (some x)).set j' (some y)) vs = wipe σ vs)
    (hb : ∀ (i : Nat) x y d e Gi, ds[i]? = some d → es[i]? = some e → Ex G Gi → Dt Gi x d → Dt Gi y e → EvX te (((wipe σ vs).set j (some x)).set j' (some y)) Gi (F i)) :
    EvN (tLc (RZ.iZipA K ta) (gTup K 2 (gCons (gName j) (gCons (gName j') gNil))) tYes te vs) σ G (.list ((List.range ds.length).map F)) := fun H gh Q q => by
  rcases h with h | h
  · refine h H gh _ fun x H1 e1 dx => ?_
    obtain ⟨v, u, rfl, dx, dy⟩ := dx.two
    obtain ⟨a, xs, rfl, ha, r⟩ := dx.ol
    obtain ⟨a', xs', rfl, ha', r'⟩ := dy.ol
    have gh1 := grow_out gh e1
    have gg : Ex G (grow G H H1) := grow_in gh
    have hl : xs.length = ds.length := r.len
    have hl' : xs'.length = es.length := r'.len
    refine ⟨a, a', xs, xs', rfl, .inl ⟨sq_of (gh1 _ _ ha), sq_of (gh1 _ _ ha'), ?_⟩⟩
    refine lc_data (G := grow G H H1) (walk_zip (K := K) (a := a) (b := a') (xs := xs) (ys := xs') (n := ds.length) (by omega)) gh1 (by omega) (fun H' e' => ⟨sq_of (e' _ _ (gh1 _ _ ha)), sq_of (e' _ _ (gh1 _ _ ha'))⟩) (fun _ => true) F ?_ ?_
    · intro i y H2 H2' Gi hi g1 g2 _ hy R k
      obtain ⟨T, x1, x2, rfl, hT, rfl, h1, h2⟩ := hy
      obtain ⟨dd, hdi, hdd⟩ := r.at' h1
      obtain ⟨de, hei, hde'⟩ := r'.at' h2
      exact ⟨T, _, rfl, st_of upd_same, rfl, _, _, rfl, _, _, rfl, rfl, k _ _ (Ex.new hT) (hw _ _) eb_yes fun _ => hb i x1 x2 dd de Gi hdi hei (gg.trans g1) (hdd.up g1) (hde'.up g1)⟩
    · intro D H2 e2 hD dD
      rw [filt_true] at dD
      exact q D H2 (e1.trans e2) (fresh_back e1 hD) (dD.up (grow_tr e1 e2))
  · refine h H gh _ fun x H1 e1 dx => ?_
    obtain ⟨v, u, rfl, dx, dy⟩ := dx.two
    obtain ⟨a, xs, rfl, ha, r⟩ := dx.ot
    obtain ⟨a', xs', rfl, ha', r'⟩ := dy.ot
    have gh1 := grow_out gh e1
    have gg : Ex G (grow G H H1) := grow_in gh
    have hl : xs.length = ds.length := r.len
    have hl' : xs'.length = es.length := r'.len
    refine ⟨a, a', xs, xs', rfl, .inr ⟨st_of (gh1 _ _ ha), st_of (gh1 _ _ ha'), ?_⟩⟩
    refine lc_data (G := grow G H H1) (walk_zipT (K := K) (a := a) (b := a') (xs := xs) (ys := xs') (n := ds.length) (by omega)) gh1 (by omega) (fun H' e' => ⟨st_of (e' _ _ (gh1 _ _ ha)), st_of (e' _ _ (gh1 _ _ ha'))⟩) (fun _ => true) F ?_ ?_
    · intro i y H2 H2' Gi hi g1 g2 _ hy R k
      obtain ⟨T, x1, x2, rfl, hT, rfl, h1, h2⟩ := hy
      obtain ⟨dd, hdi, hdd⟩ := r.at' h1
      obtain ⟨de, hei, hde'⟩ := r'.at' h2
      exact ⟨T, _, rfl, st_of upd_same, rfl, _, _, rfl, _, _, rfl, rfl, k _ _ (Ex.new hT) (hw _ _) eb_yes fun _ => hb i x1 x2 dd de Gi hdi hei (gg.trans g1) (hdd.up g1) (hde'.up g1)⟩
    · intro D H2 e2 hD dD
      rw [filt_true] at dD
      exact q D H2 (e1.trans e2) (fresh_back e1 hD) (dD.up (grow_tr e1 e2))
theorem ex_isN (ha : EvX ta σ G d) {b : Bool} (hb : b = (match d with | .none => true | _ => false)) : EvX (tOp (fun x y H Q => y = .non ∧ Q (.bl (decide (x = .non))) H) ta (tC .non)) σ G (.bool b) := fun H gh Q q => ha H gh _ fun x H1 e1 dx => by
  refine ⟨rfl, q _ H1 e1 ?_⟩
  subst hb
  cases dx <;> first | exact .bl true | exact .bl false
theorem ex_notN (ha : EvX ta σ G d) {b : Bool} (hb : b = (match d with | .none => false | _ => true)) : EvX (tOp (fun x y H Q => y = .non ∧ Q (.bl (!decide (x = .non))) H) ta (tC .non)) σ G (.bool b) := fun H gh Q q => ha H gh _ fun x H1 e1 dx => by
  refine ⟨rfl, q _ H1 e1 ?_⟩
  subst hb
  cases dx <;> first | exact .bl true | exact .bl false
/-! == and != of data -/
theorem ex_eqD (ha : EvX ta σ G d) (hb : EvX tb σ G e) (hd : SeqAt.shaped d = true) (he : SeqAt.shaped e = true) : EvX (tOp (rEqD K) ta tb) σ G (.bool (PyData.eqv d e)) :=
  ex_opG ha hb fun x y G2 H2 Q g2 dx dy q => ⟨d, e, Dt.dp _ _ (dx.up g2), Dt.dp _ _ (dy.up g2), hd, he, q _ H2 (Ex.refl _) (.bl _)⟩
theorem ex_neD (ha : EvX ta σ G d) (hb : EvX tb σ G e) (hd : SeqAt.shaped d = true) (he : SeqAt.shaped e = true) : EvX (tOp (rNeD K) ta tb) σ G (.bool (!PyData.eqv d e)) :=
  ex_opG ha hb fun x y G2 H2 Q g2 dx dy q => ⟨d, e, Dt.dp _ _ (dx.up g2), Dt.dp _ _ (dy.up g2), hd, he, q _ H2 (Ex.refl _) (.bl _)⟩
def rAbs : List V → Hp → VK → Prop := fun xs H Q => ∃ i, xs = [.int i] ∧ Q (.int (if i < 0 then -i else i)) H
theorem ex_abs {i : Int} (ha : EvX ta σ G (.int i)) : EvX (tCB rAbs (tCons ta tNil)) σ G (.int (if i < 0 then -i else i)) := ex_cb1 ha fun x G2 H2 Q g2 dx q => by
  cases dx
  exact ⟨i, rfl, q _ H2 (Ex.refl _) (.int _)⟩
/-! stores into a list that the view tells -/
theorem st_put {i n : Nat} {j : Int} {l : Addr} {xs : List V} {v : V} (gh : Ex G H) (hl : G l = some (.lst xs)) (hs : σ[i]? = some (some (.ref l))) (h : EvX te σ G (scalD v)) (hf : flatV v = true) (hj : ixN xs.length j = some n)
    (k : ∀ H1, Ex H H1 → tz D σ (upd H1 l (.lst (xs.set n v)))) : tSeq (tAsg te (gSub (tVar i) (tC (.int j)) rSetL)) tz D σ H := h H gh _ fun x H1 e1 dx => by
  have ex := scal_of hf dx
  subst ex
  exact ⟨_, hs, l, xs, j, n, rfl, rfl, e1 _ _ (gh _ _ hl), hj, k H1 e1⟩
theorem st_put1 {i n : Nat} {j : Int} {l : Addr} {xs : List V} {v : V} (gh : Ex G H) (hl : G l = some (.lst xs)) (hs : σ[i]? = some (some (.ref l))) (h : EvX te σ G (scalD v)) (hf : flatV v = true) (hj : ixN xs.length j = some n)
    (k : ∀ H1, Ex H H1 → D.nx σ (upd H1 l (.lst (xs.set n v)))) : tAsg te (gSub (tVar i) (tC (.int j)) rSetL) D σ H := st_put (D := { D with nx := D.nx }) (tz := fun D' => D.nx) gh hl hs h hf hj k
end

/-! what is an instance of what -/
theorem ki_NoneType_list : kitB "NoneType" "list" = some false := by decide +kernel
theorem ki_NoneType_tuple : kitB "NoneType" "tuple" = some false := by decide +kernel
theorem ki_NoneType_bool : kitB "NoneType" "bool" = some false := by decide +kernel
theorem ki_NoneType_str : kitB "NoneType" "str" = some false := by decide +kernel
theorem ki_NoneType_int : kitB "NoneType" "int" = some false := by decide +kernel
theorem ki_bool_list : kitB "bool" "list" = some false := by decide +kernel
theorem ki_bool_tuple : kitB "bool" "tuple" = some false := by decide +kernel
theorem ki_bool_bool : kitB "bool" "bool" = some true := by decide +kernel
theorem ki_bool_str : kitB "bool" "str" = some false := by decide +kernel
theorem ki_bool_int : kitB "bool" "int" = some true := by decide +kernel
theorem ki_int_list : kitB "int" "list" = some false := by decide +kernel
theorem ki_int_tuple : kitB "int" "tuple" = some false := by decide +kernel
theorem ki_int_bool : kitB "int" "bool" = some false := by decide +kernel
theorem ki_int_str : kitB "int" "str" = some false := by decide +kernel
theorem ki_int_int : kitB "int" "int" = some true := by decide +kernel
theorem ki_str_list : kitB "str" "list" = some false := by decide +kernel
theorem ki_str_tuple : kitB "str" "tuple" = some false := by decide +kernel
theorem ki_str_bool : kitB "str" "bool" = some false := by decide +kernel
theorem ki_str_str : kitB "str" "str" = some true := by decide +kernel
theorem ki_str_int : kitB "str" "int" = some false := by decide +kernel
theorem ki_list_list : kitB "list" "list" = some true := by decide +kernel
theorem ki_list_tuple : kitB "list" "tuple" = some false := by decide +kernel
theorem ki_list_bool : kitB "list" "bool" = some false := by decide +kernel
theorem ki_list_str : kitB "list" "str" = some false := by decide +kernel
theorem ki_list_int : kitB "list" "int" = some false := by decide +kernel
theorem ki_tuple_list : kitB "tuple" "list" = some false := by decide +kernel
theorem ki_tuple_tuple : kitB "tuple" "tuple" = some true := by decide +kernel
theorem ki_tuple_bool : kitB "tuple" "bool" = some false := by decide +kernel
theorem ki_tuple_str : kitB "tuple" "str" = some false := by decide +kernel
theorem ki_tuple_int : kitB "tuple" "int" = some false := by decide +kernel
theorem dLB_map {α : Type} (p : α → Bool) (ns : List α) : PyData.list (ns.map fun k => PyData.bool (p k)) = dLB (ns.map p) := by
  show _ = PyData.list (List.map _ (List.map _ _))
  rw [List.map_map]
  rfl
theorem dLI_map {α : Type} (p : α → Int) (ns : List α) : PyData.list (ns.map fun k => PyData.int (p k)) = dLI (ns.map p) := by
  show _ = PyData.list (List.map _ (List.map _ _))
  rw [List.map_map]
  rfl
theorem dLS_map {α : Type} (p : α → Str) (ns : List α) : PyData.list (ns.map fun k => PyData.str (p k)) = dLS (ns.map p) := by
  show _ = PyData.list (List.map _ (List.map _ _))
  rw [List.map_map]
  rfl
/-! ### the draws -/
/-- all but d stays -/
def Mv (d : Addr) (H H2 : Hp) : Prop := ∀ a o, a ≠ d → H a = some o → H2 a = some o
theorem Mv.of {d : Addr} {H H2 : Hp} (e : Ex H H2) : Mv d H H2 := fun a o _ h => e a o h
theorem Mv.trans {d : Addr} {H H1 H2 : Hp} (a : Mv d H H1) (b : Mv d H1 H2) : Mv d H H2 := fun x o n h => b x o n (a x o n h)
theorem Mv.upd {d : Addr} {H : Hp} {o : HO} : Mv d H (upd H d o) := fun a u n h => by rw [upd_ne n]; exact h
theorem Mv.ex {d : Addr} {G H H2 : Hp} (m : Mv d H H2) (gh : Ex G H) (g : G d = none) : Ex G H2 := fun a o h => m a o (fun z => by subst z; rw [g] at h; cases h) (gh a o h)
theorem Mv.fresh {d p : Addr} {H H2 : Hp} {o : HO} (m : Mv d H H2) (hd : H d = some o) (h : H2 p = none) (hp : p ≠ d) : H p = none := by
  cases z : H p with
  | none => rfl
  | some u =>
    rw [m p u hp z] at h
    cases h
/-- the draw's list at d: the script's copy, the place, what is left of a great number, the seed -/
structure Dr (G H : Hp) (d : Addr) : Prop where
  no : G d = none
  st : ∃ (s : Addr) (ns : List Int) (i c z : Int), H d = some (.lst [.ref s, .int i, .int c, .int z]) ∧ G s = some (.lst (ns.map V.int)) ∧ 0 ≤ i ∧ 0 ≤ c ∧ 0 ≤ z ∧ z < 2147483647
theorem Dr.go {G H G1 H1 : Hp} {d : Addr} (r : Dr G H d) (go : Go G H G1 H1) : Dr G1 H1 d := by
  obtain ⟨no, s, ns, i, c, z, h, hs, r⟩ := r
  exact ⟨by rw [go.no _ _ h]; exact no, s, ns, i, c, z, go.hh _ _ h, go.gg _ _ hs, r⟩
theorem Dr.put {G H : Hp} {d l : Addr} {o : HO} (r : Dr G H d) (h : l ≠ d) : Dr G (upd H l o) d := by
  obtain ⟨no, s, ns, i, c, z, hd, hs, r⟩ := r
  exact ⟨no, s, ns, i, c, z, by rw [upd_ne h.symm]; exact hd, hs, r⟩
theorem Dr.at {G H : Hp} {d : Addr} (r : Dr G H d) : ∃ o, H d = some o := by
  obtain ⟨_, s, ns, i, c, z, h, _⟩ := r
  exact ⟨_, h⟩
def spTake : Sp := fun vs H Q _ => ∃ (d : Addr) (G : Hp) (m : Int), vs = [.ref d, .int m] ∧ Ex G H ∧ Dr G H d ∧ 0 < m ∧ m < 1073741824 ∧ ∀ r H2, 0 ≤ r → r < m → Mv d H H2 → Ex G H2 → Dr G H2 d → Q (.int r) H2
end Kb
/-! Kb6: expressions that draw -/
namespace Kb
open PySem L2 Evl
/-- from the view G of H to the view G1 of H1, the draw at d moved -/
structure Md (d : Addr) (G H G1 H1 : Hp) : Prop where
  gg : Ex G G1
  gh : Ex G1 H1
  mv : Mv d H H1
  no : ∀ a u, H a = some u → G1 a = G a
theorem Md.of {d : Addr} {G H G1 H1 : Hp} (g : Go G H G1 H1) : Md d G H G1 H1 := ⟨g.gg, g.gh, .of g.hh, g.no⟩
theorem Md.trans {d : Addr} {G H G1 H1 G2 H2 : Hp} (a : Md d G H G1 H1) (b : Md d G1 H1 G2 H2) (hd : ∃ o, H1 d = some o) : Md d G H G2 H2 :=
  ⟨a.gg.trans b.gg, b.gh, a.mv.trans b.mv, fun x u h => by
    by_cases z : x = d
    · subst z
      obtain ⟨o, ho⟩ := hd
      rw [b.no _ _ ho, a.no _ _ h]
    · rw [b.no _ _ (a.mv _ _ z h), a.no _ _ h]⟩
theorem Md.dr {d : Addr} {G H G1 H1 G2 H2 : Hp} (a : Md d G H G1 H1) (r : Dr G1 H1 d) (b : Go G1 H1 G2 H2) : Dr G2 H2 d := r.go b
theorem Md.fin {d : Addr} {G H G1 H1 H2 : Hp} (m : Md d G H G1 H1) (r : Dr G1 H1 d) (e : Ex H1 H2) : Md d G H (grow G1 H1 H2) H2 := m.trans (.of (Go.grow m.gh e)) r.at
/-- a change of an object that is kept apart -/
theorem Md.put {d l : Addr} {G H G1 H1 : Hp} {o u : HO} (m : Md d G H G1 H1) (hl : H l = none) (g : G1 l = none) : Md d G H G1 (upd H1 l o) :=
  ⟨m.gg, m.gh.mut g, fun a v n h => by rw [upd_ne (ne_of_none h hl)]; exact m.mv a v n h, m.no⟩

def EvM (d : Addr) (te : TE) (σ : L2.St) (G : Hp) (P : PyData → Prop) : Prop := ∀ G' H, Ex G G' → Ex G' H → Dr G' H d → ∀ Q : VK, (∀ x e G1 H2, Md d G' H G1 H2 → Dr G1 H2 d → Dt G1 x e → P e → Q x H2) → te σ H Q
def EvMB (d : Addr) (tt : TT) (σ : L2.St) (G : Hp) : Prop := ∀ G' H, Ex G G' → Ex G' H → Dr G' H d → ∀ Q : Bool → Hp → Prop, (∀ b G1 H2, Md d G' H G1 H2 → Dr G1 H2 d → Q b H2) → tt σ H Q
def EvMA (d : Addr) (ta : TA) (σ : L2.St) (G : Hp) (P : List PyData → Prop) : Prop := ∀ G' H, Ex G G' → Ex G' H → Dr G' H d → ∀ Q : List V → Hp → Prop, (∀ xs es G1 H2, Md d G' H G1 H2 → Dr G1 H2 d → DtAll G1 xs es → P es → Q xs H2) → ta σ H Q
/-- a new list, kept apart -/
def EvMN (d : Addr) (te : TE) (σ : L2.St) (G : Hp) (P : List PyData → Prop) : Prop := ∀ G' H, Ex G G' → Ex G' H → Dr G' H d → ∀ Q : VK, (∀ p xs es G1 H2, Md d G' H G1 H2 → Dr G1 H2 d → H p = none → p ≠ d → G1 p = none → H2 p = some (.lst xs) → DtAll G1 xs es → P es → Q (.ref p) H2) → te σ H Q
section
variable {K : PySem.W.Frag} {w : World} {σ : L2.St} {G G' H : Hp} {te ta tb tl : TE} {tt : TT} {d : Addr} {e f : PyData} {D : Ends} {tz tu tw : TS} {g : TG} {P P1 P2 : PyData → Prop}
theorem EvM.mono (h : EvM d te σ G P) (g : Ex G G') : EvM d te σ G' P := fun G2 H a b c Q q => h G2 H (g.trans a) b c Q q
theorem EvMA.mono {ta : TA} {P : List PyData → Prop} (h : EvMA d ta σ G P) (g : Ex G G') : EvMA d ta σ G' P := fun G2 H a b c Q q => h G2 H (g.trans a) b c Q q
theorem EvMN.mono {P : List PyData → Prop} (h : EvMN d te σ G P) (g : Ex G G') : EvMN d te σ G' P := fun G2 H a b c Q q => h G2 H (g.trans a) b c Q q
theorem EvM.imp (h : EvM d te σ G P) (i : ∀ e, P e → P1 e) : EvM d te σ G P1 := fun G2 H a b c Q q => h G2 H a b c Q fun x e G1 H2 m r dx p => q x e G1 H2 m r dx (i e p)
theorem em_x (h : EvX te σ G e) (p : P e) : EvM d te σ G P := fun G' H g gh r Q q => h.mono g H gh _ fun x H2 e2 dx => q x e _ H2 (.of (Go.grow gh e2)) (r.go (Go.grow gh e2)) dx p
/-- what was kept apart may be shared -/
theorem EvMN.toM {P : List PyData → Prop} (h : EvMN d te σ G P) : EvM d te σ G fun e => ∃ es, e = .list es ∧ P es := fun G' H g gh r Q q => h G' H g gh r Q fun p xs es G1 H2 m r2 hp hpd gp h2 dx pe => by
  have e1 : Ex G1 (upd G1 p (.lst xs)) := Ex.new gp
  refine q (.ref p) (.list es) (upd G1 p (.lst xs)) H2 ⟨m.gg.trans e1, fun a o h => ?_, m.mv, fun a u h => ?_⟩ ?_ (.lst upd_same (dx.up e1)) ⟨es, rfl, pe⟩
  · by_cases z : a = p
    · subst z
      rw [upd_same] at h
      cases h
      exact h2
    · rw [upd_ne z] at h
      exact m.gh a o h
  · rw [upd_ne (ne_of_none h hp)]
    exact m.no a u h
  · obtain ⟨no, s, ns, i, c, z, hd, hs, rr⟩ := r2
    exact ⟨by rw [upd_ne hpd.symm]; exact no, s, ns, i, c, z, hd, e1 _ _ hs, rr⟩
theorem em_n {ds : List PyData} {P : List PyData → Prop} (h : EvN te σ G (.list ds)) (p : P ds) : EvMN d te σ G P := fun G' H g gh r Q q => h.mono g H gh _ fun x H2 e2 hx dx => by
  have dx' := dx
  obtain ⟨a, xs, ea, ha, rr⟩ := dx.ol
  cases ea
  have go := Go.apart gh e2 hx
  refine q x xs ds _ H2 (.of go) (r.go go) hx (fun z => ?_) hide_same (grow_out gh e2 _ _ ha) (DtAll.hid dx' (by simp only [PyData.list.sizeOf_spec]; omega) rr) p
  subst z
  obtain ⟨o, ho⟩ := r.at
  rw [ho] at hx
  cases hx
theorem em_take {i : Nat} {m : Int} (hs : σ[i]? = some (some (.ref d))) (hm : EvX ta σ G (.int m)) (h0 : 0 < m) (h1 : m < 1073741824) : EvM d (tCall spTake [] E0 (tCons (tVar i) (tCons ta tNil))) σ G fun e => ∃ r, e = .int r ∧ 0 ≤ r ∧ r < m := fun G' H g gh r Q q =>
  ⟨_, hs, hm.mono g H gh _ fun x H1 e1 dx => by
    cases dx
    exact ⟨d, G', m, rfl, gh.trans e1, r.go (Go.stay gh e1), h0, h1, fun z H2 z0 z1 mv g2 r2 => q (.int z) (.int z) G' H2 ⟨Ex.refl _, g2, (Mv.of e1).trans mv, fun _ _ _ => rfl⟩ r2 (.int z) ⟨z, rfl, z0, z1⟩⟩⟩
theorem em_op {r : R2} (ha : EvM d ta σ G P1) (hb : EvM d tb σ G P2)
    (hr : ∀ x y e f G2 H2 Q, Ex G G2 → Ex G2 H2 → Dt G2 x e → Dt G2 y f → P1 e → P2 f → (∀ z g H3, Ex H2 H3 → Dt (grow G2 H2 H3) z g → P g → Q z H3) → r x y H2 Q) : EvM d (tOp r ta tb) σ G P := fun G' H g gh rd Q q =>
  ha G' H g gh rd _ fun x e G1 H1 m1 r1 dx px => hb G1 H1 (g.trans m1.gg) m1.gh r1 _ fun y f G2 H2 m2 r2 dy py =>
    hr x y e f G2 H2 Q ((g.trans m1.gg).trans m2.gg) m2.gh (dx.up m2.gg) dy px py fun z gg H3 e3 dz pz => q z gg _ H3 ((m1.trans m2 r1.at).fin r2 e3) (r2.go (Go.grow m2.gh e3)) dz pz
theorem em_I0 {g : Int → Int → Int} (ha : EvM d ta σ G P1) (hb : EvM d tb σ G P2) (h1 : ∀ e, P1 e → ∃ i, e = .int i) (h2 : ∀ e, P2 e → ∃ i, e = .int i) (hp : ∀ i j, P1 (.int i) → P2 (.int j) → P (.int (g i j))) : EvM d (tOp (rI0 fun i j => .int (g i j)) ta tb) σ G P :=
  em_op ha hb fun x y e f G2 H2 Q _ g2 dx dy px py q => by
    obtain ⟨i, rfl⟩ := h1 e px
    obtain ⟨j, rfl⟩ := h2 f py
    cases dx
    cases dy
    exact ⟨i, j, rfl, rfl, q _ _ H2 (Ex.refl _) (.int _) (hp i j px py)⟩
theorem em_I {C : Int → Int → Prop} {g : Int → Int → Int} (ha : EvM d ta σ G P1) (hb : EvM d tb σ G P2) (h1 : ∀ e, P1 e → ∃ i, e = .int i) (h2 : ∀ e, P2 e → ∃ i, e = .int i) (hp : ∀ i j, P1 (.int i) → P2 (.int j) → C i j ∧ P (.int (g i j))) : EvM d (tOp (rI C fun i j => .int (g i j)) ta tb) σ G P :=
  em_op ha hb fun x y e f G2 H2 Q _ g2 dx dy px py q => by
    obtain ⟨i, rfl⟩ := h1 e px
    obtain ⟨j, rfl⟩ := h2 f py
    cases dx
    cases dy
    exact ⟨i, j, rfl, rfl, (hp i j px py).1, q _ _ H2 (Ex.refl _) (.int _) (hp i j px py).2⟩
theorem ema0 : EvMA d tNil σ G fun es => es = [] := fun G' H g gh r Q q => q [] [] G' H (.of (Go.stay gh (Ex.refl H))) r .nil rfl
theorem ema1 {tr : TA} {Pr P' : List PyData → Prop} (h : EvM d ta σ G P) (hr : EvMA d tr σ G Pr) (hp : ∀ e es, P e → Pr es → P' (e :: es)) : EvMA d (tCons ta tr) σ G P' := fun G' H g gh r Q q =>
  h G' H g gh r _ fun x e G1 H1 m1 r1 dx px => hr G1 H1 (g.trans m1.gg) m1.gh r1 _ fun xs es G2 H2 m2 r2 dxs pxs => q _ (e :: es) G2 H2 (m1.trans m2 r1.at) r2 (.cons (dx.up m2.gg) dxs) (hp e es px pxs)
theorem em_tup {ta : TA} {Pr : List PyData → Prop} (h : EvMA d ta σ G Pr) (hl : ∀ es, Pr es → es.length ≤ 100000) : EvM d (tTup ta) σ G fun e => ∃ es, e = .tuple es ∧ Pr es := fun G' H g gh r Q q =>
  h G' H g gh r _ fun xs es G1 H1 m1 r1 dx px => ⟨sz_of (by rw [dx.len]; exact hl es px), fun p hp => q (.ref p) (.tuple es) _ _ (m1.fin r1 (Ex.new hp)) (r1.go (Go.grow m1.gh (Ex.new hp))) (et_of hp m1.gh dx) ⟨es, rfl, px⟩⟩
theorem em_lst {ta : TA} {Pr : List PyData → Prop} (h : EvMA d ta σ G Pr) (hl : ∀ es, Pr es → es.length ≤ 100000) : EvM d (tLst ta) σ G fun e => ∃ es, e = .list es ∧ Pr es := fun G' H g gh r Q q =>
  h G' H g gh r _ fun xs es G1 H1 m1 r1 dx px => ⟨sz_of (by rw [dx.len]; exact hl es px), fun p hp => q (.ref p) (.list es) _ _ (m1.fin r1 (Ex.new hp)) (r1.go (Go.grow m1.gh (Ex.new hp))) (el_of hp m1.gh dx) ⟨es, rfl, px⟩⟩
theorem atI_in {α : Type} {es : List α} {r : Int} (h0 : 0 ≤ r) (h1 : r < es.length) : ∃ e, L2.atI es r = some e ∧ es[r.toNat]? = some e := by
  have hlt : r.toNat < es.length := by omega
  have h2 : es[r.toNat]? = some es[r.toNat] := List.getElem?_eq_getElem hlt
  refine ⟨es[r.toNat], ?_, h2⟩
  have := atI_nat h2
  rw [show ((r.toNat : Nat) : Int) = r by omega] at this
  exact this
/-- a tuple's thing by a draw -/
theorem em_pick (ha : EvM d ta σ G fun e => ∃ es, e = .tuple es ∧ P1 (.tuple es)) (hb : EvM d tb σ G P2) (h : ∀ es f, P1 (.tuple es) → P2 f → ∃ r : Int, f = .int r ∧ 0 ≤ r ∧ r < es.length ∧ ∀ e, es[r.toNat]? = some e → P e) : EvM d (tOp (rIxT K) ta tb) σ G P :=
  em_op ha hb fun x y e f G2 H2 Q _ g2 dx dy px py q => by
    obtain ⟨es, rfl, px⟩ := px
    obtain ⟨r, rfl, r0, r1, hP⟩ := h es f px py
    cases dy
    obtain ⟨a, xs, rfl, h, rr⟩ := dx.ot
    obtain ⟨e, he, he2⟩ := atI_in r0 r1
    obtain ⟨v, hv, dv⟩ := rr.atI he
    exact ⟨a, xs, r, v, rfl, rfl, st_of (g2 _ _ h), hv, q v e H2 (Ex.refl _) (here dv g2) (hP e he2)⟩
/-- a list's thing by a draw -/
theorem em_pickL (ha : EvM d ta σ G fun e => ∃ es, e = .list es ∧ P1 (.list es)) (hb : EvM d tb σ G P2) (h : ∀ es f, P1 (.list es) → P2 f → ∃ r : Int, f = .int r ∧ 0 ≤ r ∧ r < es.length ∧ ∀ e, es[r.toNat]? = some e → P e) : EvM d (tOp (rIxL K) ta tb) σ G P :=
  em_op ha hb fun x y e f G2 H2 Q _ g2 dx dy px py q => by
    obtain ⟨es, rfl, px⟩ := px
    obtain ⟨r, rfl, r0, r1, hP⟩ := h es f px py
    cases dy
    obtain ⟨a, xs, rfl, h, rr⟩ := dx.ol
    obtain ⟨e, he, he2⟩ := atI_in r0 r1
    obtain ⟨v, hv, dv⟩ := rr.atI he
    exact ⟨a, xs, r, v, rfl, rfl, sq_of (g2 _ _ h), hv, q v e H2 (Ex.refl _) (here dv g2) (hP e he2)⟩
theorem emb_eqI {j : Int} (ha : EvM d ta σ G fun e => ∃ i, e = .int i) (hb : EvX tb σ G (.int j)) : EvMB d (tTest (tOp rEq ta tb)) σ G := fun G' H g gh r Q q =>
  ha G' H g gh r _ fun x e G1 H1 m1 r1 dx px => hb.mono (g.trans m1.gg) H1 m1.gh _ fun y H2 e2 dy => by
    obtain ⟨i, rfl⟩ := px
    cases dx
    cases dy
    exact ⟨rfl, _, rfl, q _ _ H2 (m1.fin r1 e2) (r1.go (Go.grow m1.gh e2))⟩
theorem emb_cmpI {j : Int} {f : Int → Int → Bool} (ha : EvM d ta σ G fun e => ∃ i, e = .int i) (hb : EvX tb σ G (.int j)) : EvMB d (tTest (tOp (rI0 fun i j => .bl (f i j)) ta tb)) σ G := fun G' H g gh r Q q =>
  ha G' H g gh r _ fun x e G1 H1 m1 r1 dx px => hb.mono (g.trans m1.gg) H1 m1.gh _ fun y H2 e2 dy => by
    obtain ⟨i, rfl⟩ := px
    cases dx
    cases dy
    exact ⟨i, j, rfl, rfl, _, rfl, q _ _ H2 (m1.fin r1 e2) (r1.go (Go.grow m1.gh e2))⟩
theorem emb_x {b : Bool} (h : EvB tt σ G b) : EvMB d tt σ G := fun G' H g gh r Q q => h.mono g H gh _ fun H2 e2 => q b G' H2 (.of (Go.stay gh e2)) (r.go (Go.stay gh e2))
/-! statements -/
theorem sm_asg {i : Nat} (gh : Ex G H) (r : Dr G H d) (h : EvM d te σ G P) (k : ∀ x e G1 H1, Md d G H G1 H1 → Dr G1 H1 d → Dt G1 x e → P e → tz D (σ.set i (some x)) H1) : tSeq (tAsg te (gName i)) tz D σ H :=
  h G H (Ex.refl G) gh r _ fun x e G1 H1 m r1 dx pe => k x e G1 H1 m r1 dx pe
theorem sm_asgN {i : Nat} {P : List PyData → Prop} (gh : Ex G H) (r : Dr G H d) (h : EvMN d te σ G P) (k : ∀ p xs es G1 H1, Md d G H G1 H1 → Dr G1 H1 d → H p = none → p ≠ d → G1 p = none → H1 p = some (.lst xs) → DtAll G1 xs es → P es → tz D (σ.set i (some (.ref p))) H1) : tSeq (tAsg te (gName i)) tz D σ H :=
  h G H (Ex.refl G) gh r _ k
theorem sm_if (gh : Ex G H) (r : Dr G H d) (h : EvMB d tt σ G) (h1 : ∀ G1 H1, Md d G H G1 H1 → Dr G1 H1 d → tu { D with nx := tz D } σ H1) (h2 : ∀ G1 H1, Md d G H G1 H1 → Dr G1 H1 d → tw { D with nx := tz D } σ H1) : tSeq (tIfS tt tu tw) tz D σ H :=
  h G H (Ex.refl G) gh r _ fun b G1 H1 m r1 => by
    cases b with
    | true => exact iteT (h1 G1 H1 m r1)
    | false => exact iteF (h2 G1 H1 m r1)
theorem sm_if1 (gh : Ex G H) (r : Dr G H d) (h : EvMB d tt σ G) (h1 : ∀ G1 H1, Md d G H G1 H1 → Dr G1 H1 d → tu D σ H1) (h2 : ∀ G1 H1, Md d G H G1 H1 → Dr G1 H1 d → tw D σ H1) : tIfS tt tu tw D σ H :=
  h G H (Ex.refl G) gh r _ fun b G1 H1 m r1 => by
    cases b with
    | true => exact iteT (h1 G1 H1 m r1)
    | false => exact iteF (h2 G1 H1 m r1)
theorem sm_ret (gh : Ex G H) (r : Dr G H d) (h : EvM d te σ G P) (k : ∀ x e G1 H1, Md d G H G1 H1 → Dr G1 H1 d → Dt G1 x e → P e → D.rt x H1) : tRet te D σ H := h G H (Ex.refl G) gh r _ k
theorem sm_retN {P : List PyData → Prop} (gh : Ex G H) (r : Dr G H d) (h : EvMN d te σ G P) (k : ∀ p xs es G1 H1, Md d G H G1 H1 → Dr G1 H1 d → H p = none → p ≠ d → G1 p = none → H1 p = some (.lst xs) → DtAll G1 xs es → P es → D.rt (.ref p) H1) : tRet te D σ H := h G H (Ex.refl G) gh r _ k
/-- xs.append(e), the list kept apart -/
theorem sm_app {i : Nat} {l : Addr} {xs : List V} {es : List PyData} (gh : Ex G H) (r : Dr G H d) (hs : σ[i]? = some (some (.ref l))) (hl : H l = some (.lst xs)) (hld : l ≠ d) (hz : xs.length < 100000) (h : EvM d te σ G P)
    (k : ∀ x e G1 H1, Md d G H G1 H1 → Dr G1 H1 d → Dt G1 x e → P e → H1 l = some (.lst xs) → tz D σ (upd H1 l (.lst (xs ++ [x])))) : tSeq (tDrop (tBM K "list" rAppend (tVar i) (tCons te tNil))) tz D σ H :=
  ⟨_, hs, .inl ⟨rfl, xs, sq_of hl⟩, h G H (Ex.refl G) gh r _ fun x e G1 H1 m r1 dx pe => ⟨l, xs, x, rfl, rfl, m.mv _ _ hld hl, sz_lt hz, k x e G1 H1 m r1 dx pe (m.mv _ _ hld hl)⟩⟩
theorem sm_app1 {i : Nat} {l : Addr} {xs : List V} {es : List PyData} (gh : Ex G H) (r : Dr G H d) (hs : σ[i]? = some (some (.ref l))) (hl : H l = some (.lst xs)) (hld : l ≠ d) (hz : xs.length < 100000) (h : EvM d te σ G P)
    (k : ∀ x e G1 H1, Md d G H G1 H1 → Dr G1 H1 d → Dt G1 x e → P e → H1 l = some (.lst xs) → D.nx σ (upd H1 l (.lst (xs ++ [x])))) : tDrop (tBM K "list" rAppend (tVar i) (tCons te tNil)) D σ H :=
  ⟨_, hs, .inl ⟨rfl, xs, sq_of hl⟩, h G H (Ex.refl G) gh r _ fun x e G1 H1 m r1 dx pe => ⟨l, xs, x, rfl, rfl, m.mv _ _ hld hl, sz_lt hz, k x e G1 H1 m r1 dx pe (m.mv _ _ hld hl)⟩⟩
end
/-! ### what a def promises that draws: the draw first -/
def MSp (pre : List PyData → Prop) (P : List PyData → PyData → Prop) : Sp := fun vs H Q _ => ∃ d us G ds, vs = .ref d :: us ∧ Ex G H ∧ Dr G H d ∧ DtAll G us ds ∧ pre ds ∧ ∀ x e G1 H2, Md d G H G1 H2 → Dr G1 H2 d → Dt G1 x e → P ds e → Q x H2
/-- a new list -/
def MSpN (pre : List PyData → Prop) (P : List PyData → List PyData → Prop) : Sp := fun vs H Q _ => ∃ d us G ds, vs = .ref d :: us ∧ Ex G H ∧ Dr G H d ∧ DtAll G us ds ∧ pre ds ∧
  ∀ p xs es G1 H2, Md d G H G1 H2 → Dr G1 H2 d → H p = none → p ≠ d → G1 p = none → H2 p = some (.lst xs) → DtAll G1 xs es → P ds es → Q (.ref p) H2
section
variable {K : PySem.W.Frag} {w : World} {σ : L2.St} {G G' H : Hp} {te ta tb tl : TE} {tt : TT} {d : Addr} {e f : PyData}
theorem em_call {i : Nat} {ta : TA} {pre Pa : List PyData → Prop} {P : List PyData → PyData → Prop} (hs : σ[i]? = some (some (.ref d))) (ha : EvMA d ta σ G Pa) (hp : ∀ es, Pa es → pre es) : EvM d (tCall (MSp pre P) [] E0 (tCons (tVar i) ta)) σ G fun e => ∃ ds, Pa ds ∧ P ds e := fun G' H g gh r Q q =>
  ⟨_, hs, ha G' H g gh r _ fun xs es G1 H1 m1 r1 dx px => by
    show MSp pre P (V.ref d :: xs ++ []) H1 Q E0
    rw [List.append_nil]
    exact ⟨d, xs, G1, es, rfl, m1.gh, r1, dx, hp es px, fun x e G2 H2 m2 r2 dx2 pe => q x e G2 H2 (m1.trans m2 r1.at) r2 dx2 ⟨es, px, pe⟩⟩⟩
theorem em_callN {i : Nat} {ta : TA} {pre Pa : List PyData → Prop} {P : List PyData → List PyData → Prop} (hs : σ[i]? = some (some (.ref d))) (ha : EvMA d ta σ G Pa) (hp : ∀ es, Pa es → pre es) : EvMN d (tCall (MSpN pre P) [] E0 (tCons (tVar i) ta)) σ G fun e => ∃ ds, Pa ds ∧ P ds e := fun G' H g gh r Q q =>
  ⟨_, hs, ha G' H g gh r _ fun xs es G1 H1 m1 r1 dx px => by
    show MSpN pre P (V.ref d :: xs ++ []) H1 Q E0
    rw [List.append_nil]
    refine ⟨d, xs, G1, es, rfl, m1.gh, r1, dx, hp es px, fun p ys fs G2 H2 m2 r2 hp hpd gp h2 dx2 pe => q p ys fs G2 H2 (m1.trans m2 r1.at) r2 ?_ hpd gp h2 dx2 ⟨es, px, pe⟩⟩
    obtain ⟨o, ho⟩ := r.at
    exact m1.mv.fresh ho hp hpd⟩
theorem DtAll.ema {ta : TA} {ds : List PyData} {P : List PyData → Prop} (h : EvAs ta σ G ds) (p : P ds) : EvMA d ta σ G P := fun G' H g gh r Q q => h.mono g H gh _ fun xs H2 e2 dx => q xs ds _ H2 (.of (Go.grow gh e2)) (r.go (Go.grow gh e2)) dx p

/-- a new list, kept apart, of a rule that makes one -/
theorem apartM {P : List PyData → Prop} {G G2 H H2 H3 : Hp} {p : Addr} {ds : List PyData} {Q : VK} (m : Md d G H G2 H2) (r2 : Dr G2 H2 d) (r : Dr G H d) (e3 : Ex H2 H3) (hp : H2 p = none) (dx : Dt (grow G2 H2 H3) (.ref p) (.list ds)) (pe : P ds)
    (q : ∀ p xs es G1 H2, Md d G H G1 H2 → Dr G1 H2 d → H p = none → p ≠ d → G1 p = none → H2 p = some (.lst xs) → DtAll G1 xs es → P es → Q (.ref p) H2) : Q (.ref p) H3 := by
  have dx' := dx
  obtain ⟨a, xs, ea, ha, rr⟩ := dx.ol
  cases ea
  have go := Go.apart m.gh e3 hp
  have hpd : p ≠ d := fun z => by
    subst z
    obtain ⟨o, ho⟩ := r2.at
    rw [ho] at hp
    cases hp
  obtain ⟨o, ho⟩ := r.at
  exact q p xs ds _ H3 (m.trans (.of go) r2.at) (r2.go go) (m.mv.fresh ho hp hpd) hpd hide_same (grow_out m.gh e3 _ _ ha) (DtAll.hid dx' (by simp only [PyData.list.sizeOf_spec]; omega) rr) pe
theorem em_opN {r : R2} {P1 P2 : PyData → Prop} {P : List PyData → Prop} (ha : EvM d ta σ G P1) (hb : EvM d tb σ G P2)
    (hr : ∀ x y e f G2 H2 Q, Ex G2 H2 → Dt G2 x e → Dt G2 y f → P1 e → P2 f → (∀ p ds H3, Ex H2 H3 → H2 p = none → Dt (grow G2 H2 H3) (.ref p) (.list ds) → P ds → Q (.ref p) H3) → r x y H2 Q) : EvMN d (tOp r ta tb) σ G P := fun G' H g gh rd Q q =>
  ha G' H g gh rd _ fun x e G1 H1 m1 r1 dx px => hb G1 H1 (g.trans m1.gg) m1.gh r1 _ fun y f G2 H2 m2 r2 dy py =>
    hr x y e f G2 H2 Q m2.gh (dx.up m2.gg) dy px py fun p ds H3 e3 hp dz pz => apartM (m1.trans m2 r1.at) r2 rd e3 hp dz pz q
theorem em_cat {P1 P2 : List PyData → Prop} (ha : EvM d ta σ G fun e => ∃ es, e = .list es ∧ P1 es) (hb : EvM d tb σ G fun e => ∃ es, e = .list es ∧ P2 es) (hl : ∀ es fs, P1 es → P2 fs → es.length + fs.length ≤ 100000) : EvMN d (tOp rCat ta tb) σ G fun ds => ∃ es fs, ds = es ++ fs ∧ P1 es ∧ P2 fs :=
  em_opN ha hb fun x y e f G2 H2 Q g2 dx dy px py q => by
    obtain ⟨es, rfl, px⟩ := px
    obtain ⟨fs, rfl, py⟩ := py
    obtain ⟨a, xs, rfl, h, r⟩ := dx.ol
    obtain ⟨b, ys, rfl, h', r'⟩ := dy.ol
    exact ⟨a, b, xs, ys, rfl, rfl, g2 _ _ h, g2 _ _ h', sz_of (by rw [r.len, r'.len]; exact hl es fs px py), fun p hp => q p _ _ (Ex.new hp) hp (el_of hp g2 (r.app r')) ⟨es, fs, rfl, px, py⟩⟩
/-- xs[:r] by a draw -/
theorem em_slH {es : List PyData} {P2 : PyData → Prop} (h : EvX ta σ G (.list es)) (hb : EvM d tb σ G P2) (h2 : ∀ e, P2 e → ∃ r : Int, e = .int r) : EvMN d (tSl (rSlL K) ta tNoPart (tPart tb)) σ G fun ds => ∃ r : Int, P2 (.int r) ∧ ds = cutA es none (some r) := fun G' H g gh rd Q q =>
  h.mono g H gh _ fun x H1 e1 dx => hb _ H1 (g.trans (grow_in gh)) (grow_out gh e1) (rd.go (Go.grow gh e1)) _ fun y f G2 H2 m2 r2 dy py => by
    obtain ⟨r, rfl⟩ := h2 f py
    cases dy
    obtain ⟨a, xs, rfl, ha, rr⟩ := (dx.up m2.gg).ol
    exact ⟨r, rfl, a, xs, rfl, sq_of (m2.gh _ _ ha), fun p hp => apartM (Md.trans (.of (Go.grow gh e1)) m2 (rd.go (Go.grow gh e1)).at) r2 rd (Ex.new hp) hp (el_of hp m2.gh (rr.cut none (some r))) ⟨r, py, rfl⟩ q⟩
/-- what was kept apart is shared from here on -/
theorem Md.freeze {G H G1 H1 : Hp} {p : Addr} {xs : List V} (m : Md d G H G1 H1) (r : Dr G1 H1 d) (hp : H p = none) (hpd : p ≠ d) (gp : G1 p = none) (h1 : H1 p = some (.lst xs)) : Md d G H (upd G1 p (.lst xs)) H1 ∧ Dr (upd G1 p (.lst xs)) H1 d ∧ Ex G1 (upd G1 p (.lst xs)) := by
  have e1 : Ex G1 (upd G1 p (.lst xs)) := Ex.new gp
  refine ⟨⟨m.gg.trans e1, fun a o h => ?_, m.mv, fun a u h => ?_⟩, ?_, e1⟩
  · by_cases z : a = p
    · subst z
      rw [upd_same] at h
      cases h
      exact h1
    · rw [upd_ne z] at h
      exact m.gh a o h
  · rw [upd_ne (ne_of_none h hp)]
    exact m.no a u h
  · obtain ⟨no, s, ns, i, c, z, hd, hs, rr⟩ := r
    exact ⟨by rw [upd_ne hpd.symm]; exact no, s, ns, i, c, z, hd, e1 _ _ hs, rr⟩
theorem em_one {P : PyData → Prop} {P' : List PyData → Prop} (h : EvM d ta σ G P) (hp : ∀ e, P e → P' [e]) : EvMA d (tCons ta tNil) σ G P' := ema1 h ema0 fun e es p q => by subst q; exact hp e p
/-! comprehensions that draw -/
theorem lc_draw {J : It} {n : Nat} {Gd : Hp → Prop} {Y : Nat → Hp → V → Hp → Prop} (wk : Walk J n Gd Y) {g : TG} {vs : List Nat} {H1 : Hp} {Q : VK} (gh : Ex G H1) (r : Dr G H1 d) (hn : n ≤ 50000) (hG : ∀ H' Gi, Ex G Gi → Ex Gi H' → Gd H')
    (I : Nat → List PyData → Prop) (h0 : I 0 []) (hI : ∀ i es, I i es → es.length ≤ i)
    (hs : ∀ i x H H' Gi es, i < n → Ex G Gi → Ex Gi H → Dr Gi H d → I i es → Y i H x H' → ∀ R : L2.St → Hp → Prop, (∀ σ2 H2, Ex H H2 → wipe σ2 vs = wipe σ vs →
      (∀ Q2 : Bool → Hp → Prop, (∀ b G3 H3, Md d Gi H2 G3 H3 → Dr G3 H3 d → (b = true → EvM d te σ2 G3 (fun e => I (i + 1) (es ++ [e]))) → (b = false → I (i + 1) es) → Q2 b H3) → tt σ2 H2 Q2) → R σ2 H2) → g x (wipe σ vs) H' R)
    (q : ∀ D xs es G2 H2, Md d G H1 G2 H2 → Dr G2 H2 d → H1 D = none → D ≠ d → G2 D = none → H2 D = some (.lst xs) → DtAll G2 xs es → I n es → Q (.ref D) H2) :
    ∀ D, H1 D = none → ∃ W : Nat → Nat → Hp → Prop, (∃ m, W 0 m (upd H1 D (.lst []))) ∧ ∀ i m H, W i m H →
      (J.stop i H ∧ Q (.ref D) H) ∨ (J.go i H ∧ ∃ Nx : Hp → Prop, (∀ H', Nx H' → ∃ m', m' < m ∧ W (i + 1) m' H') ∧ ∀ x H', J.yld i H x H' → g x (wipe σ vs) H' fun σ2 H2 => wipe σ2 vs = wipe σ vs ∧ tt σ2 H2 fun b H3 =>
        if b = true then te σ2 H3 fun y H4 => ∃ acc, H4 D = some (.lst acc) ∧ acc.length < sizeLine ∧ Nx (upd H4 D (.lst (acc ++ [y]))) else Nx H3) := by
  intro D hD
  have hDd : D ≠ d := fun z => by
    subst z
    obtain ⟨o, ho⟩ := r.at
    rw [ho] at hD
    cases hD
  refine lc_it wk (Qd := fun H => Q (.ref D) H) (fun i H => ∃ xs es Gi, H D = some (.lst xs) ∧ Md d G H1 Gi H ∧ Dr Gi H d ∧ Gi D = none ∧ DtAll Gi xs es ∧ I i es) ?_ ?_ ?_ ?_
  · exact ⟨[], [], G, upd_same, ⟨Ex.refl G, gh.trans (Ex.new hD), .of (Ex.new hD), fun _ _ _ => rfl⟩, r.put hDd, fresh_back gh hD, .nil, h0⟩
  · rintro i H hi ⟨xs, es, Gi, hL, m, _⟩
    exact hG H Gi m.gg m.gh
  · rintro i x H H' hi ⟨xs, es, Gi, hL, m, rr, gD, hd, hi2⟩ hy
    refine hs i x H H' Gi es hi m.gg m.gh rr hi2 hy _ fun σ2 H2 e2 hw k => ⟨hw, k _ fun b G3 H3 m3 r3 k1 k2 => ?_⟩
    have go2 : Go Gi H Gi H2 := Go.stay m.gh e2
    have md2 : Md d G H1 Gi H2 := m.trans (.of go2) rr.at
    have md3 : Md d G H1 G3 H3 := md2.trans m3 (rr.go go2).at
    have hL3 : H3 D = some (.lst xs) := m3.mv _ _ hDd (e2 _ _ hL)
    have gD3 : G3 D = none := by rw [m3.no _ _ (e2 _ _ hL)]; exact gD
    cases b with
    | true =>
      refine iteT ?_
      refine k1 rfl G3 H3 (Ex.refl _) m3.gh r3 _ fun y e G4 H4 m4 r4 dy pe => ⟨xs, m4.mv _ _ hDd hL3, sz_lt (by have := hI i es hi2; rw [hd.len]; omega), ?_⟩
      have gD4 : G4 D = none := by rw [m4.no _ _ hL3]; exact gD3
      refine ⟨xs ++ [y], es ++ [e], G4, upd_same, (md3.trans m4 r3.at).put (u := .lst []) hD gD4, r4.put hDd, gD4, (hd.up (m3.gg.trans m4.gg)).snoc dy, pe⟩
    | false =>
      refine iteF ?_
      exact ⟨xs, es, G3, hL3, md3, r3, gD3, hd.up m3.gg, k2 rfl⟩
  · rintro H ⟨xs, es, Gi, hL, m, rr, gD, hd, hi2⟩
    exact q D xs es Gi H m rr hD hDd gD hL hd hi2
/-- [e for x in range(n)], e draws -/
theorem em_lcR0 {ta : TA} {j : Nat} {vs : List Nat} {m : Int} {Pa : List PyData → Prop} {P : Nat → PyData → Prop} (h : EvMA d ta σ G Pa) (ha : ∀ es, Pa es → ∃ n : Int, es = [.int n] ∧ 0 ≤ n ∧ n ≤ m) (hm : m ≤ 50000) (hw : ∀ x, wipe ((wipe σ vs).set j (some x)) vs = wipe σ vs)
    (hb : ∀ (i : Nat) Gi, (i : Int) < m → Ex G Gi → EvM d te ((wipe σ vs).set j (some (.int i))) Gi (P i)) :
    EvMN d (tLc (iRng1 ta) (gName j) tYes te vs) σ G (fun es => (es.length : Int) ≤ m ∧ Pa [.int es.length] ∧ ∀ i e, es[i]? = some e → P i e) := fun G' H g gh r Q q =>
  h G' H g gh r _ fun xs es G1 H1 m1 r1 dx px => by
    obtain ⟨n, rfl, n0, n1⟩ := ha es px
    obtain ⟨v, rfl, dv⟩ := dx.one
    obtain rfl := dv.oi
    refine ⟨n, rfl, by omega, by omega, ?_⟩
    refine lc_draw (G := G1) (walk_range (lo := 0) (n := n.toNat)) m1.gh r1 (by omega) (fun _ _ _ _ => trivial) (fun i es => es.length = i ∧ ∀ k e, es[k]? = some e → P k e) ⟨rfl, fun k e h => by simp at h⟩ (fun i es h => Nat.le_of_eq h.1) ?_ ?_
    · intro i y H2 H2' Gi fs hi g1 g2 rr hI hy R k
      obtain ⟨rfl, rfl⟩ := hy
      have e0 : (0 : Int) + (i : Int) = (i : Int) := Int.zero_add _
      have k' := k ((wipe σ vs).set j (some (.int (i : Int)))) _ (Ex.refl _) (hw _) (fun Q2 q2 => q2 true Gi _ (.of (Go.stay g2 (Ex.refl _))) rr (fun _ => (hb i Gi (by omega) ((g.trans m1.gg).trans g1)).imp fun e pe => ⟨by rw [List.length_append, hI.1]; rfl, fun k f hk => by
        by_cases z : k < fs.length
        · rw [List.getElem?_append_left z] at hk
          exact hI.2 k f hk
        · rw [List.getElem?_append_right (by omega)] at hk
          have : k - fs.length = 0 := by
            have := (List.getElem?_eq_some_iff.mp hk).1
            simp at this
            omega
          rw [this] at hk
          simp at hk
          have ek : k = i := by have := hI.1; omega
          subst ek
          subst hk
          exact pe⟩) (fun z => nomatch z))
      show R ((wipe σ vs).set j (some (.int ((0 : Int) + (i : Int))))) _
      rw [e0]
      exact k'
    · intro D xs' es' G2 H2 m2 r2 hD hDd gD h2 dx2 hI
      obtain ⟨o, ho⟩ := r.at
      refine q D xs' es' G2 H2 (m1.trans m2 r1.at) r2 (m1.mv.fresh ho hD hDd) hDd gD h2 dx2 ⟨by have := hI.1; omega, ?_, hI.2⟩
      rw [hI.1, show ((n.toNat : Nat) : Int) = n by omega]
      exact px
end
theorem cutA_take {α : Type} (xs : List α) (n : Nat) : cutA xs none (some (n : Int)) = xs.take n := by
  unfold cutA
  rw [HT.sIx_none, HT.sIx_nat]
  show List.take (min n xs.length) xs = _
  rw [List.take_eq_take_iff]
  omega
theorem cutA_map {α β : Type} (f : α → β) (xs : List α) (lo hi : Option Int) : cutA (xs.map f) lo hi = (cutA xs lo hi).map f := by
  unfold cutA
  rw [List.length_map, List.map_take, List.map_drop]
theorem cutA_len {α : Type} (xs : List α) (lo hi : Option Int) : (cutA xs lo hi).length ≤ xs.length := by
  unfold cutA
  rw [List.length_take, List.length_drop]
  omega
theorem ints_of_all : ∀ {es : List PyData}, (∀ e ∈ es, ∃ i, e = .int i) → ∃ ns : List Int, es = ns.map PyData.int
  | [], _ => ⟨[], rfl⟩
  | e :: es, h => by
    obtain ⟨i, rfl⟩ := h e List.mem_cons_self
    obtain ⟨ns, rfl⟩ := ints_of_all (es := es) fun x hx => h x (List.mem_cons_of_mem _ hx)
    exact ⟨i :: ns, rfl⟩
end Kb
/-! Kb7: displays of new things; small helps for laws -/
namespace Kb
open PySem L2 Evl
/-- all are new -/
def EvNs (ta : TA) (σ : L2.St) (G : Hp) (ds : List PyData) : Prop := ∀ H, Ex G H → ∀ Q : List V → Hp → Prop, (∀ (ps : List Addr) H2, Ex H H2 → (∀ p ∈ ps, H p = none) → DtAll (grow G H H2) (ps.map V.ref) ds → Q (ps.map V.ref) H2) → ta σ H Q
section
variable {K : PySem.W.Frag} {w : World} {σ : L2.St} {G G' H : Hp} {te ta tb tl : TE} {tt : TT} {d e f : PyData} {D : Ends} {tz tu tw : TS} {g : TG}
theorem ens0 : EvNs tNil σ G [] := fun H gh Q q => q [] H (Ex.refl H) (fun _ h => by simp at h) .nil
theorem ens1 {tr : TA} {ds : List PyData} (h : EvN ta σ G d) (hr : ∀ G', Ex G G' → EvNs tr σ G' ds) : EvNs (tCons ta tr) σ G (d :: ds) := fun H gh Q q =>
  h H gh _ fun p H1 e1 hp dx => hr _ (grow_in gh) H1 (grow_out gh e1) _ fun ps H2 e2 hps dps => q (p :: ps) H2 (e1.trans e2) (fun x hx => by
    rcases List.mem_cons.mp hx with rfl | hx
    · exact hp
    · exact fresh_back e1 (hps x hx)) (.cons (dx.up (grow_le e2)) (dps.up (grow_tr e1 e2)))
/-- x = [..], all new, kept apart -/
theorem st_asgNs {i : Nat} {ta : TA} {ds : List PyData} (gh : Ex G H) (h : EvNs ta σ G ds) (hl : ds.length ≤ 100000) (k : ∀ (pf : Addr) (ps : List Addr) H1, Ex H H1 → H pf = none → pf ∉ ps → (∀ p ∈ ps, H p = none) → H1 pf = some (.lst (ps.map V.ref)) → DtAll H1 (ps.map V.ref) ds → tz D (σ.set i (some (.ref pf))) H1) : tSeq (tAsg (tLst ta) (gName i)) tz D σ H :=
  h H gh _ fun ps H1 e1 hps dps => ⟨sz_of (by rw [dps.len]; exact hl), fun pf hpf => k pf ps _ (e1.trans (Ex.new hpf)) (fresh_back e1 hpf) (fun hm => by
    have : ∃ o, H1 pf = some o := by
      obtain ⟨j, hj⟩ := List.getElem?_of_mem hm
      obtain ⟨dd, _, hd⟩ := dps.at' (i := j) (v := .ref pf) (by rw [List.getElem?_map, hj]; rfl)
      cases hd with
      | lst h _ => exact ⟨_, grow_out gh e1 _ _ h⟩
      | tup h _ => exact ⟨_, grow_out gh e1 _ _ h⟩
    obtain ⟨o, ho⟩ := this
    rw [ho] at hpf
    cases hpf) hps upd_same (dps.up ((grow_out gh e1).trans (Ex.new hpf)))⟩
end
/-- data of at most n lists within one another, fit for == -/
def Sh : Nat → PyData → Prop
  | _, .none => True
  | _, .bool _ => True
  | _, .int _ => True
  | _, .str x => PySem.PyData.canLay0 (.str x) = true
  | n + 1, .list ds => ∀ d ∈ ds, Sh n d
  | n + 1, .tuple ds => ∀ d ∈ ds, Sh n d
  | _, _ => False
theorem Sh.lay : ∀ (n : Nat) (d : PyData), Sh n d → d.canLay0 = true ∧ d.depth ≤ n := by
  intro n
  induction n with
  | zero =>
    intro d h
    cases d <;> first | exact ⟨rfl, Nat.le_refl _⟩ | exact ⟨h, Nat.le_refl _⟩ | exact h.elim
  | succ n ih =>
    have all : ∀ ds : List PyData, (∀ d ∈ ds, Sh n d) → PyData.canLayAll0 ds = true ∧ PyData.depthAll ds ≤ n := by
      intro ds
      induction ds with
      | nil => intro _; exact ⟨rfl, Nat.zero_le _⟩
      | cons d ds ihd =>
        intro h
        have h1 := ih d (h d List.mem_cons_self)
        have h2 := ihd fun x hx => h x (List.mem_cons_of_mem _ hx)
        refine ⟨?_, ?_⟩
        · show (d.canLay0 && PyData.canLayAll0 ds) = true
          rw [h1.1, h2.1]
          rfl
        · show max d.depth (PyData.depthAll ds) ≤ n
          omega
    intro d h
    cases d with
    | none => exact ⟨rfl, Nat.zero_le _⟩
    | bool b => exact ⟨rfl, Nat.zero_le _⟩
    | int b => exact ⟨rfl, Nat.zero_le _⟩
    | str b => exact ⟨h, Nat.zero_le _⟩
    | list ds =>
      have := all ds h
      exact ⟨this.1, Nat.succ_le_succ this.2⟩
    | tuple ds =>
      have := all ds h
      exact ⟨this.1, Nat.succ_le_succ this.2⟩
    | dict kvs => exact h.elim
theorem Sh.ok {n : Nat} {d : PyData} (h : Sh n d) (hn : n ≤ 64) : SeqAt.shaped d = true := by
  have := Sh.lay n d h
  unfold SeqAt.shaped
  rw [this.1, decide_eq_true (by omega)]
  rfl
theorem Sh.eqv {n : Nat} {d : PyData} (h : Sh n d) : PyData.eqv d d = true := SeqAt.eqv_refl d (Sh.lay n d h).1
theorem Sh.li {n : Nat} (ns : List Int) : Sh (n + 1) (dLI ns) := fun d hd => by
  obtain ⟨i, _, rfl⟩ := List.mem_map.mp hd
  cases n <;> exact True.intro
theorem rise_filt (n1 n2 : List Int) : ((rise n1).filter fun k => decide (k ∈ rise n2)) = (rise n1).filter fun k => decide (k ∈ n2) := List.filter_congr fun k _ => by rw [Bool.eq_iff_iff]; simp [mem_rise]
theorem rise_filtN (n1 n2 : List Int) : ((rise n1).filter fun k => !decide (k ∈ rise n2)) = (rise n1).filter fun k => !decide (k ∈ n2) := List.filter_congr fun k _ => by rw [Bool.eq_iff_iff]; simp [mem_rise]
theorem rise_both (n1 n2 : List Int) : ((rise n1).filter fun k => decide (k ∈ n2)) = (rise n2).filter fun k => decide (k ∈ n1) :=
  ris_uniq ((ris_rise n1).filter _) ((ris_rise n2).filter _) fun k => by
    rw [List.mem_filter, List.mem_filter, mem_rise, mem_rise]
    simp [and_comm]
end Kb
namespace Kb
open PySem L2 Evl
def top (i : Nat) : Stmt := PySem.Challenge.pw_keyblock_k01_rows_of_cells.main.body.getD i (.Pass ⟨0, 0, 0, 0⟩)
section
variable {P : Program} {w : World} {K : PySem.W.Frag} {mg : Str → Option Value} {base : Heap}
/-! rising -/
abbrev s_rising : Stmt := top 1
abbrev N_rising : List Str := ["cells"]
abbrev p_rising : List Str := ["cells"]
theorem sc_rising : FnScope N_rising p_rising (defScope s_rising) := ⟨rfl, rfl, rfl, by decide +kernel, rfl, by decide +kernel, by decide +kernel⟩
def R_rising (ds : List PyData) (d : PyData) : Prop := ∃ ns : List Int, ds = [dLI ns] ∧ ns.length < 64 ∧ d = dLI (rise ns)
theorem ok_rising {f : Addr} {fd : FuncData} (T : Tx mg) (F : Fun K "rising" "rising" s_rising f fd) : FnOk P w K mg base CX0 1 f fd p_rising (NSp R_rising) := by
  have nd := sc_rising.nd
  refine F.ok sc_rising (fun vs H Q E h => ?_) (fun cdv A outer s H vs Q E hr h => ?_)
  · obtain ⟨G, ds, d, gh, dv, ⟨ns, rfl, _⟩, _⟩ := h
    exact dv.len
  · obtain ⟨G, ds, d, gh, dv, ⟨ns, rfl, hl, rfl⟩, q⟩ := h
    obtain ⟨v, rfl, dv1⟩ := dv.one
    refine ⟨_, (pss_one (ps_ret (pe_callB (cr_sortedSet rfl) (by rfl) T.sorted (by decide +kernel) (pa_cons (pe_callTy (cr_setI rfl) (by rfl) T.set (by decide +kernel) (pa_cons (pv 0) pa_nil)) pa_nil)))), ?_⟩
    exact en_rising (ex_var rfl dv1) hl H gh _ q
/-! common -/
abbrev s_common : Stmt := top 2
abbrev N_common : List Str := ["one", "other", "there", "cell"]
abbrev p_common : List Str := ["one", "other"]
theorem sc_common : FnScope N_common p_common (defScope s_common) := ⟨rfl, rfl, rfl, by decide +kernel, rfl, by decide +kernel, by decide +kernel⟩
def R_common (ds : List PyData) (d : PyData) : Prop := ∃ ns ms : List Int, ds = [dLI ns, dLI ms] ∧ ns.length < 64 ∧ ms.length ≤ 1000 ∧ d = dLI ((rise ns).filter fun k => decide (k ∈ ms))
theorem ok_common {f : Addr} {fd : FuncData} (T : Tx mg) (F : Fun K "common" "common" s_common f fd) (C_rising : Cal P w K mg base "rising" 1 p_rising (NSp R_rising)) : FnOk P w K mg base CX0 2 f fd p_common (NSp R_common) := by
  have nd := sc_common.nd
  refine F.ok sc_common (fun vs H Q E h => ?_) (fun cdv A outer s H vs Q E hr h => ?_)
  · obtain ⟨G, ds, d, gh, dv, ⟨ns, ms, rfl, _⟩, _⟩ := h
    exact dv.len
  · obtain ⟨G, ds, d, gh, dv, ⟨ns, ms, rfl, hl, hl2, rfl⟩, q⟩ := h
    obtain ⟨v, u, rfl, dv1, du1⟩ := dv.two
    have hu := hu_of hr
    refine ⟨_, (pss_cons (ps_set (i := 2) nd rfl (.inr rfl) (pe_callTy (call_dictP rfl) (by rfl) T.dict (by decide +kernel) (pa_cons (pe_lc (own := [("cell", 3)]) (g := gName 3) (tt := tYes) (te := (tTup (tCons (tVar 3) (tCons (tC (.bl true)) tNil)))) (by rfl) nd (pi_list (pv 1)) (blkOk_by (N := N_common) (sc := defScope s_common) (by decide +kernel)) (fun _ _ _ _ _ => (pg_name (i := 3) nd rfl (.inl rfl))) (fun _ _ _ _ _ => pts_nil) (fun _ _ _ _ _ => (pe_tup (pa_cons (pv 3) (pa_cons pe_bl pa_nil))))) pa_nil)))
    (pss_one (ps_ret (pe_lc (own := [("cell", 3)]) (g := gName 3) (tt := (tB (tDIn (tVar 3) (tVar 2)))) (te := (tVar 3)) (by rfl) nd (pi_list (pe_cal C_rising (hr.mono (by omega)) (by rfl) (pa_cons (pv 0) pa_nil))) (blkOk_by (N := N_common) (sc := defScope s_common) (by decide +kernel)) (fun _ _ _ _ _ => (pg_name (i := 3) nd rfl (.inl rfl))) (fun _ _ _ _ _ => (pts_one (pt_cmp (pc_din hu (pv 3) (pv 2))))) (fun _ _ _ _ _ => (pv 3)))))), ?_⟩
    refine st_asgK gh (kvs := mergeK [] (ms.map fun k => ((Sum.inl k : Key), V.bl true))) (ek_dict (EvN.toX ((en_lcI0 (fun k => pairD ((Sum.inl k : Key), V.bl true)) (ex_var rfl du1) (by omega) (fun _ => rfl) (fun n Gi _ _ => (en_tup (ea1 (ex_var rfl (.int n)) (ea1 ex_bl ea0))).toX)).eq (by rw [List.map_map]; rfl))) (fun kv h => by obtain ⟨k, _, rfl⟩ := List.mem_map.mp h; rfl)) fun p G1 H1 go hp => ?_
    exact st_retN go.gh ((en_lcI (fun k => decide (k ∈ ms)) (fun k => .int k) (EvN.toX (en_call (ea1 (ex_var rfl (dv1.up go.gg)) ea0) ⟨ns, rfl, hl, rfl⟩)) (by have := len_rise ns; omega) (fun _ => rfl) (fun n Gi _ g => ⟨(eb_B (ex_dinI (ex_var rfl (.int n)) rfl (g _ _ hp))).eq (keys_in n ms), fun _ => ex_var rfl (.int n)⟩))) (go.ret q)
/-! apart -/
abbrev s_apart : Stmt := top 3
abbrev N_apart : List Str := ["one", "other", "there", "cell"]
abbrev p_apart : List Str := ["one", "other"]
theorem sc_apart : FnScope N_apart p_apart (defScope s_apart) := ⟨rfl, rfl, rfl, by decide +kernel, rfl, by decide +kernel, by decide +kernel⟩
def R_apart (ds : List PyData) (d : PyData) : Prop := ∃ ns ms : List Int, ds = [dLI ns, dLI ms] ∧ ns.length < 64 ∧ ms.length ≤ 1000 ∧ d = dLI ((rise ns).filter fun k => !decide (k ∈ ms))
theorem ok_apart {f : Addr} {fd : FuncData} (T : Tx mg) (F : Fun K "apart" "apart" s_apart f fd) (C_rising : Cal P w K mg base "rising" 1 p_rising (NSp R_rising)) : FnOk P w K mg base CX0 2 f fd p_apart (NSp R_apart) := by
  have nd := sc_apart.nd
  refine F.ok sc_apart (fun vs H Q E h => ?_) (fun cdv A outer s H vs Q E hr h => ?_)
  · obtain ⟨G, ds, d, gh, dv, ⟨ns, ms, rfl, _⟩, _⟩ := h
    exact dv.len
  · obtain ⟨G, ds, d, gh, dv, ⟨ns, ms, rfl, hl, hl2, rfl⟩, q⟩ := h
    obtain ⟨v, u, rfl, dv1, du1⟩ := dv.two
    have hu := hu_of hr
    refine ⟨_, (pss_cons (ps_set (i := 2) nd rfl (.inr rfl) (pe_callTy (call_dictP rfl) (by rfl) T.dict (by decide +kernel) (pa_cons (pe_lc (own := [("cell", 3)]) (g := gName 3) (tt := tYes) (te := (tTup (tCons (tVar 3) (tCons (tC (.bl true)) tNil)))) (by rfl) nd (pi_list (pv 1)) (blkOk_by (N := N_apart) (sc := defScope s_apart) (by decide +kernel)) (fun _ _ _ _ _ => (pg_name (i := 3) nd rfl (.inl rfl))) (fun _ _ _ _ _ => pts_nil) (fun _ _ _ _ _ => (pe_tup (pa_cons (pv 3) (pa_cons pe_bl pa_nil))))) pa_nil)))
    (pss_one (ps_ret (pe_lc (own := [("cell", 3)]) (g := gName 3) (tt := (tB (tDNotIn (tVar 3) (tVar 2)))) (te := (tVar 3)) (by rfl) nd (pi_list (pe_cal C_rising (hr.mono (by omega)) (by rfl) (pa_cons (pv 0) pa_nil))) (blkOk_by (N := N_apart) (sc := defScope s_apart) (by decide +kernel)) (fun _ _ _ _ _ => (pg_name (i := 3) nd rfl (.inl rfl))) (fun _ _ _ _ _ => (pts_one (pt_cmp (pc_dnotin hu (pv 3) (pv 2))))) (fun _ _ _ _ _ => (pv 3)))))), ?_⟩
    refine st_asgK gh (kvs := mergeK [] (ms.map fun k => ((Sum.inl k : Key), V.bl true))) (ek_dict (EvN.toX ((en_lcI0 (fun k => pairD ((Sum.inl k : Key), V.bl true)) (ex_var rfl du1) (by omega) (fun _ => rfl) (fun n Gi _ _ => (en_tup (ea1 (ex_var rfl (.int n)) (ea1 ex_bl ea0))).toX)).eq (by rw [List.map_map]; rfl))) (fun kv h => by obtain ⟨k, _, rfl⟩ := List.mem_map.mp h; rfl)) fun p G1 H1 go hp => ?_
    exact st_retN go.gh ((en_lcI (fun k => !decide (k ∈ ms)) (fun k => .int k) (EvN.toX (en_call (ea1 (ex_var rfl (dv1.up go.gg)) ea0) ⟨ns, rfl, hl, rfl⟩)) (by have := len_rise ns; omega) (fun _ => rfl) (fun n Gi _ g => ⟨(eb_B (ex_dniI (ex_var rfl (.int n)) rfl (g _ _ hp))).eq (by rw [keys_in n ms]), fun _ => ex_var rfl (.int n)⟩))) (go.ret q)
/-! joined -/
abbrev s_joined : Stmt := top 4
abbrev N_joined : List Str := ["one", "other"]
abbrev p_joined : List Str := ["one", "other"]
theorem sc_joined : FnScope N_joined p_joined (defScope s_joined) := ⟨rfl, rfl, rfl, by decide +kernel, rfl, by decide +kernel, by decide +kernel⟩
def R_joined (ds : List PyData) (d : PyData) : Prop := ∃ ns ms : List Int, ds = [dLI ns, dLI ms] ∧ ns.length + ms.length < 64 ∧ d = dLI (rise (ns ++ ms))
theorem ok_joined {f : Addr} {fd : FuncData} (T : Tx mg) (F : Fun K "joined" "joined" s_joined f fd) (C_rising : Cal P w K mg base "rising" 1 p_rising (NSp R_rising)) : FnOk P w K mg base CX0 2 f fd p_joined (NSp R_joined) := by
  have nd := sc_joined.nd
  refine F.ok sc_joined (fun vs H Q E h => ?_) (fun cdv A outer s H vs Q E hr h => ?_)
  · obtain ⟨G, ds, d, gh, dv, ⟨ns, ms, rfl, _⟩, _⟩ := h
    exact dv.len
  · obtain ⟨G, ds, d, gh, dv, ⟨ns, ms, rfl, hl, rfl⟩, q⟩ := h
    obtain ⟨v, u, rfl, dv1, du1⟩ := dv.two
    refine ⟨_, (pss_one (ps_ret (pe_cal C_rising (hr.mono (by omega)) (by rfl) (pa_cons (pe_op op_cat (pe_callTy call_list_of (by rfl) T.list (by decide +kernel) (pa_cons (pv 0) pa_nil)) (pe_callTy call_list_of (by rfl) T.list (by decide +kernel) (pa_cons (pv 1) pa_nil))) pa_nil)))), ?_⟩
    exact st_retN gh (en_call (ea1 (EvN.toX (en_cat (en_list (ex_var rfl dv1)).toX (en_list (ex_var rfl du1)).toX (by rw [List.length_map, List.length_map]; omega))) ea0) ⟨ns ++ ms, by rw [← List.map_append], by rw [List.length_append]; exact hl, rfl⟩) q
/-! within -/
abbrev s_within : Stmt := top 5
abbrev N_within : List Str := ["one", "other"]
abbrev p_within : List Str := ["one", "other"]
theorem sc_within : FnScope N_within p_within (defScope s_within) := ⟨rfl, rfl, rfl, by decide +kernel, rfl, by decide +kernel, by decide +kernel⟩
def R_within (ds : List PyData) (d : PyData) : Prop := ∃ ns ms : List Int, ds = [dLI ns, dLI ms] ∧ ns.length < 64 ∧ ms.length ≤ 1000 ∧ d = .bool (ns.all fun k => decide (k ∈ ms))
theorem apart_nil (ns ms : List Int) : decide ((((rise ns).filter fun k => !decide (k ∈ ms)).length : Int) = 0) = (ns.all fun k => decide (k ∈ ms)) := by
  rw [Bool.eq_iff_iff]
  simp only [decide_eq_true_eq, List.all_eq_true]
  constructor
  · intro h k hk
    have h0 : ((rise ns).filter fun k => !decide (k ∈ ms)) = [] := List.length_eq_zero_iff.mp (by omega)
    have := List.filter_eq_nil_iff.mp h0 k ((mem_rise k ns).mpr hk)
    simpa using this
  · intro h
    have : ((rise ns).filter fun k => !decide (k ∈ ms)) = [] := List.filter_eq_nil_iff.mpr fun k hk => by
      have := h k ((mem_rise k ns).mp hk)
      simpa using this
    rw [this]
    rfl
theorem ok_within {f : Addr} {fd : FuncData} (T : Tx mg) (F : Fun K "within" "within" s_within f fd) (C_apart : Cal P w K mg base "apart" 2 p_apart (NSp R_apart)) : FnOk P w K mg base CX0 3 f fd p_within (PSp R_within) := by
  have nd := sc_within.nd
  refine F.ok sc_within (fun vs H Q E h => ?_) (fun cdv A outer s H vs Q E hr h => ?_)
  · obtain ⟨G, ds, d, gh, dv, ⟨ns, ms, rfl, _⟩, _⟩ := h
    exact dv.len
  · obtain ⟨G, ds, d, gh, dv, ⟨ns, ms, rfl, hl, hl2, rfl⟩, q⟩ := h
    obtain ⟨v, u, rfl, dv1, du1⟩ := dv.two
    refine ⟨_, (pss_one (ps_ret (pe_cmpR op_eq (pe_callB call_len_seq (by rfl) T.len PySem.boot_len (pa_cons (pe_cal C_apart (hr.mono (by omega)) (by rfl) (pa_cons (pv 0) (pa_cons (pv 1) pa_nil))) pa_nil)) pe_int (nomark _)))), ?_⟩
    exact st_ret gh ((ex_eqI (ex_len (EvN.toX (en_call (ea1 (ex_var rfl dv1) (ea1 (ex_var rfl du1) ea0)) ⟨ns, ms, rfl, hl, hl2, rfl⟩))) ex_int).eq (by rw [List.length_map, apart_nil])) q
/-! _law_begin -/
abbrev s__law_begin : Stmt := top 7
abbrev N__law_begin : List Str := ["_law_script"]
abbrev p__law_begin : List Str := ["_law_script"]
theorem sc__law_begin : FnScope N__law_begin p__law_begin (defScope s__law_begin) := ⟨rfl, rfl, rfl, by decide +kernel, rfl, by decide +kernel, by decide +kernel⟩
/-- the list of a script, copied: a draw -/
def spBegin (K : PySem.W.Frag) : Sp := fun vs H Q _ => ∃ (a : Addr) (ns : List Int), vs = [.ref a] ∧ SqL K H a (ns.map V.int) ∧ ns.length ≤ 63 ∧ ∀ d G H2, H d = none → Ex H H2 → Ex G H2 → (∀ b o, H b = some o → G b = none) → Dr G H2 d → Q (.ref d) H2
theorem ok__law_begin {f : Addr} {fd : FuncData} (T : Tx mg) (F : Fun K "_law_begin" "_law_begin" s__law_begin f fd) : FnOk P w K mg base CX0 1 f fd p__law_begin (spBegin K) := by
  have nd := sc__law_begin.nd
  refine F.ok sc__law_begin (fun vs H Q E h => ?_) (fun cdv A outer s H vs Q E hr h => ?_)
  · obtain ⟨a, ns, rfl, _⟩ := h
    rfl
  · obtain ⟨a, ns, rfl, hS, hl, q⟩ := h
    refine ⟨_, (pss_one (ps_ret (pe_lst (pa_cons (pe_callTy call_list_of (by rfl) T.list (by decide +kernel) (pa_cons (pe_slice sl_list (pv 0) po_none (po_some pe_int)) pa_nil)) (pa_cons pe_int (pa_cons pe_int (pa_cons pe_int pa_nil))))))), ?_⟩
    refine ⟨.ref a, rfl, 63, rfl, a, ns.map V.int, rfl, hS, fun p hp => ⟨p, _, rfl, .inl (sq_of upd_same), fun l hl' => ⟨(by show 4 ≤ sizeLine; decide), fun d hd => ?_⟩⟩⟩
    have ecut : cutV (ns.map V.int) none (some 63) = (ns.take 63).map V.int := by
      unfold cutV
      rw [HT.sIx_none, show HT.sIx (ns.map V.int).length (ns.map V.int).length (some 63) = min 63 (ns.map V.int).length from HT.sIx_nat _ _ 63, List.map_take]
      show List.take (min 63 (ns.map V.int).length) (ns.map V.int) = List.take 63 (ns.map V.int)
      rw [List.take_eq_take_iff]
      omega
    have nl : H l = none := fresh_back (Ex.new hp) hl'
    have nd' : H d = none := fresh_back ((Ex.new hp).trans (Ex.new hl')) hd
    have nld : l ≠ d := fun z => by
      subst z
      rw [upd_same] at hd
      cases hd
    refine q d (fun b => if b = l then some (.lst ((ns.take 63).map V.int)) else none) _ nd' (((Ex.new hp).trans (Ex.new hl')).trans (Ex.new hd)) ?_ ?_ ⟨?_, l, ns.take 63, 0, 0, 17, upd_same, if_pos rfl, by decide, by decide, by decide, by decide⟩
    · intro b o h
      by_cases z : b = l
      · subst z
        simp only [if_pos] at h
        cases h
        rw [upd_ne nld, upd_same, ecut]
      · simp only [if_neg z] at h
        cases h
    · intro b o h
      show (if b = l then _ else none) = none
      rw [if_neg (ne_of_none h nl)]
    · show (if d = l then _ else none) = none
      rw [if_neg nld.symm]
/-! _law_take -/
abbrev s__law_take : Stmt := top 8
abbrev N__law_take : List Str := ["_law_draw", "_law_many", "_law_cell", "_law_got"]
abbrev p__law_take : List Str := ["_law_draw", "_law_many"]
theorem sc__law_take : FnScope N__law_take p__law_take (defScope s__law_take) := ⟨rfl, rfl, rfl, by decide +kernel, rfl, by decide +kernel, by decide +kernel⟩
theorem take_view {G H : Hp} {d s : Addr} {i c z : Int} {ns : List Int} (gh : Ex G H) (no : G d = none) (hd : H d = some (.lst [.ref s, .int i, .int c, .int z])) (hs : G s = some (.lst (ns.map V.int))) :
    Ex (upd G d (.lst [.ref s, .int i, .int c, .int z])) H ∧ Dt (upd G d (.lst [.ref s, .int i, .int c, .int z])) (.ref d) (.list [dLI ns, .int i, .int c, .int z]) := by
  refine ⟨fun a o h => ?_, .lst upd_same (.cons (Dt.li ?_) (.cons (.int _) (.cons (.int _) (.cons (.int _) .nil))))⟩
  · by_cases e : a = d
    · subst e
      rw [upd_same] at h
      cases h
      exact hd
    · rw [upd_ne e] at h
      exact gh a o h
  · rw [upd_ne (ne_of_none hs no)]
    exact hs
theorem at_of' {α : Type} {xs : List α} {z : Int} {j : Nat} {v : α} (e : z = (j : Int)) (h : xs[j]? = some v) : L2.atI xs z = some v := by
  rw [e]
  exact atI_nat h
theorem abs_le {c : Int} : (0 : Int) ≤ if c < 0 then -c else c := by split <;> omega
set_option maxHeartbeats 8000000 in
theorem ok__law_take {f : Addr} {fd : FuncData} (T : Tx mg) (F : Fun K "_law_take" "_law_take" s__law_take f fd) : FnOk P w K mg base CX0 1 f fd p__law_take spTake := by
  have nd := sc__law_take.nd
  refine F.ok sc__law_take (fun vs H Q E h => ?_) (fun cdv A outer s H vs Q E hr h => ?_)
  · obtain ⟨d, G, m, rfl, _⟩ := h
    rfl
  · obtain ⟨d, G, m, rfl, gh, ⟨no, sa, ns, i, c, z, hd, hs, hi0, hc0, hz0, hz1⟩, hm0, hm1, q⟩ := h
    refine ⟨_, (Evl.pss_cut (ps_if (PW.pt (pw_and (pt_cmpR op_lt (pe_ix ix_list (pv 0) pe_int (fun _ _ => rfl)) (pv 1) (nomark _)) (pw_and1 (pt_cmpR op_lt (pe_ix ix_list (pv 0) pe_int (fun _ _ => rfl)) (pe_callB call_len_seq (by rfl) T.len PySem.boot_len (pa_cons (pe_ix ix_list (pv 0) pe_int (fun _ _ => rfl)) pa_nil)) (nomark _)))))
      (pss_cons (ps_set (i := 2) nd rfl (.inl rfl) (pe_ix ix_list (pe_ix ix_list (pv 0) pe_int (fun _ _ => rfl)) (pe_ix ix_list (pv 0) pe_int (fun _ _ => rfl)) (fun _ _ => rfl)))
      (pss_cons (ps_asg (pe_op op_add (pe_ix ix_list (pv 0) pe_int (fun _ _ => rfl)) pe_int) (pg_sub (pv 0) pe_int set_list))
      (pss_cons (ps_asg pe_int (pg_sub (pv 0) pe_int set_list))
      (pss_one (ps_if (pt_cmpR op_ge (pe_callB call_abs (by rfl) T.abs (by decide +kernel) (pa_cons (pv 2) pa_nil)) (pe_op op_pow pe_int pe_int) (nomark _))
        (pss_one (ps_asg (pe_callB call_abs (by rfl) T.abs (by decide +kernel) (pa_cons (pv 2) pa_nil)) (pg_sub (pv 0) pe_int set_list)))
        (pss_one (ps_asg (pe_op op_mod (pe_op op_add (pe_op op_add (pe_op op_mul (pe_ix ix_list (pv 0) pe_int (fun _ _ => rfl)) pe_int) (pe_op op_mul (pe_op op_mod (pv 2) pe_int) pe_int)) pe_int) pe_int) (pg_sub (pv 0) pe_int set_list))))))))
      pss_nil)
    (pss_cons (ps_if (pt_cmpR op_ge (pe_ix ix_list (pv 0) pe_int (fun _ _ => rfl)) (pv 1) (nomark _))
      (pss_cons (ps_set (i := 3) nd rfl (.inl rfl) (pe_op op_mod (pe_ix ix_list (pv 0) pe_int (fun _ _ => rfl)) (pv 1)))
      (pss_cons (ps_asg (pe_op op_fdiv (pe_ix ix_list (pv 0) pe_int (fun _ _ => rfl)) (pv 1)) (pg_sub (pv 0) pe_int set_list))
      (pss_one (ps_ret (pv 3)))))
      pss_nil)
    (pss_cons (ps_asg (pe_op op_mod (pe_op op_add (pe_op op_add (pe_op op_mul (pe_op op_mod (pe_op op_mul (pe_ix ix_list (pv 0) pe_int (fun _ _ => rfl)) (pe_ix ix_list (pv 0) pe_int (fun _ _ => rfl))) pe_int) pe_int) (pe_op op_mul (pe_ix ix_list (pv 0) pe_int (fun _ _ => rfl)) pe_int)) pe_int) pe_int) (pg_sub (pv 0) pe_int set_list))
    (pss_one (ps_ret (pe_op op_mod (pe_op op_add (pe_op op_fdiv (pe_ix ix_list (pv 0) pe_int (fun _ _ => rfl)) pe_int) (pe_op op_mul (pe_op op_mod (pe_ix ix_list (pv 0) pe_int (fun _ _ => rfl)) pe_int) pe_int)) (pv 1))))))), ?_⟩
    -- the first if: a number of the script is taken, or none
    refine ⟨fun σ' H' => ∃ (x : Option V) (i c z : Int), σ' = [some (.ref d), some (.int m), x, none] ∧ Ex G H' ∧ Mv d H H' ∧ H' d = some (.lst [.ref sa, .int i, .int c, .int z]) ∧ 0 ≤ i ∧ 0 ≤ c ∧ 0 ≤ z ∧ z < 2147483647, ?_, ?_⟩
    · obtain ⟨vh, dd⟩ := take_view gh no hd hs
      refine st_if1 vh (eb_and (eb_test (ex_cmp (ex_ixL (ex_var rfl dd) ex_int rfl) (ex_var rfl (.int m)))) fun _ => eb_test (ex_cmp (ex_ixL (ex_var rfl dd) ex_int rfl) (ex_len (ex_ixL (ex_var rfl dd) ex_int rfl)))) (fun hb H1 go => ?_) (fun _ H1 go => ?_)
      · rw [Bool.and_eq_true, decide_eq_true_eq, decide_eq_true_eq, List.length_map] at hb
        obtain ⟨hb1, hb2⟩ := hb
        obtain ⟨n, hn⟩ : ∃ n, ns[i.toNat]? = some n := ⟨ns[i.toNat]'(by omega), List.getElem?_eq_getElem (by omega)⟩
        have hat : L2.atI (ns.map PyData.int) i = some (.int n) := at_of' (j := i.toNat) (by omega) (by rw [List.getElem?_map, hn]; rfl)
        refine st_asg go.gh (ex_ixL (ex_ixL (ex_var rfl dd) ex_int rfl) (ex_ixL (ex_var rfl dd) ex_int rfl) hat) fun x G1 H2 go1 dx => ?_
        obtain rfl := dx.oi
        have e2 := go.hh.trans go1.hh
        refine st_put (n := 1) (v := .int (i + 1)) (vh.trans e2) upd_same rfl (ex_I0 (ex_ixL (ex_var rfl dd) ex_int rfl) ex_int) rfl rfl fun H3 e3 => ?_
        have m3 : Mv d H (upd H3 d (.lst [.ref sa, .int (i + 1), .int c, .int z])) := (Mv.of (e2.trans e3)).trans Mv.upd
        obtain ⟨vh3, dd3⟩ := take_view (m3.ex gh no) no upd_same hs
        refine st_put (n := 2) (v := .int 0) vh3 upd_same rfl ex_int rfl rfl fun H4 e4 => ?_
        have m4 : Mv d H (upd H4 d (.lst [.ref sa, .int (i + 1), .int 0, .int z])) := (m3.trans (Mv.of e4)).trans Mv.upd
        obtain ⟨vh4, dd4⟩ := take_view (m4.ex gh no) no upd_same hs
        refine st_if1 vh4 (eb_test (ex_cmp (ex_abs (ex_var rfl (.int n))) (ex_I ex_int ex_int ⟨by decide, by decide, by decide⟩))) (fun hc H5 go5 => ?_) (fun hc H5 go5 => ?_)
        · refine st_put1 (n := 2) (v := .int (if n < 0 then -n else n)) go5.gh upd_same rfl (ex_abs (ex_var rfl (.int n))) rfl rfl fun H6 e6 => ?_
          have m6 := (m4.trans (Mv.of (go5.hh.trans e6))).trans (Mv.upd (o := .lst [.ref sa, .int (i + 1), .int (if n < 0 then -n else n), .int z]))
          exact ⟨_, i + 1, _, z, rfl, m6.ex gh no, m6, upd_same, by omega, abs_le, hz0, hz1⟩
        · refine st_put1 (n := 3) (v := .int ((z * 48271 + n % 2147483629 * 69621 + 12345) % 2147483647)) go5.gh upd_same rfl (ex_I (ex_I0 (ex_I0 (ex_I (ex_ixL (ex_var rfl dd4) ex_int rfl) ex_int (.inr ⟨by decide, by decide⟩)) (ex_I (ex_I (ex_var rfl (.int n)) ex_int (by decide)) ex_int (.inr ⟨by decide, by decide⟩))) ex_int) ex_int (by decide)) rfl rfl fun H6 e6 => ?_
          have m6 := (m4.trans (Mv.of (go5.hh.trans e6))).trans (Mv.upd (o := .lst [.ref sa, .int (i + 1), .int 0, .int ((z * 48271 + n % 2147483629 * 69621 + 12345) % 2147483647)]))
          exact ⟨_, i + 1, 0, _, rfl, m6.ex gh no, m6, upd_same, by omega, by decide, Int.emod_nonneg _ (by decide), Int.emod_lt_of_pos _ (by decide)⟩
      · have m1 := Mv.of (d := d) go.hh
        exact ⟨none, i, c, z, rfl, m1.ex gh no, m1, go.hh _ _ hd, hi0, hc0, hz0, hz1⟩
    · rintro σ' H1 ⟨x, i, c, z, rfl, gh1, m1, hd1, hi0, hc0, hz0, hz1⟩
      obtain ⟨vh, dd⟩ := take_view gh1 no hd1 hs
      refine st_if vh (eb_test (ex_cmp (ex_ixL (ex_var rfl dd) ex_int rfl) (ex_var rfl (.int m)))) (fun hb H2 go => ?_) (fun hb H2 go => ?_)
      · refine st_asg go.gh (ex_I (ex_ixL (ex_var rfl dd) ex_int rfl) (ex_var rfl (.int m)) hm0) fun y G1 H3 go1 dy => ?_
        obtain rfl := dy.oi
        refine st_put (n := 2) (v := .int (c / m)) (vh.trans (go.hh.trans go1.hh)) upd_same rfl (ex_I (ex_ixL (ex_var rfl dd) ex_int rfl) (ex_var rfl (.int m)) ⟨hm0, hm1⟩) rfl rfl fun H4 e4 => ?_
        have m4 := (m1.trans (Mv.of ((go.hh.trans go1.hh).trans e4))).trans (Mv.upd (o := .lst [.ref sa, .int i, .int (c / m), .int z]))
        exact ⟨_, rfl, q _ _ (Int.emod_nonneg _ (by omega)) (Int.emod_lt_of_pos _ hm0) m4 (m4.ex gh no) ⟨no, sa, ns, i, c / m, z, upd_same, hs, hi0, Int.ediv_nonneg hc0 (by omega), hz0, hz1⟩⟩
      · refine st_put (n := 3) (v := .int ((z * z % 2147483629 * 5 + z * 16811 + 2531011) % 2147483647)) go.gh upd_same rfl (ex_I (ex_I0 (ex_I0 (ex_I (ex_I (ex_I (ex_ixL (ex_var rfl dd) ex_int rfl) (ex_ixL (ex_var rfl dd) ex_int rfl) (.inl ⟨by omega, by omega⟩)) ex_int (by decide)) ex_int (.inr ⟨by decide, by decide⟩)) (ex_I (ex_ixL (ex_var rfl dd) ex_int rfl) ex_int (.inr ⟨by decide, by decide⟩))) ex_int) ex_int (by decide)) rfl rfl fun H3 e3 => ?_
        have m3 := (m1.trans (Mv.of (go.hh.trans e3))).trans (Mv.upd (o := .lst [.ref sa, .int i, .int c, .int ((z * z % 2147483629 * 5 + z * 16811 + 2531011) % 2147483647)]))
        obtain ⟨vh3, dd3⟩ := take_view (m3.ex gh no) no upd_same hs
        refine st_ret vh3 (ex_I (ex_I0 (ex_I (ex_ixL (ex_var rfl dd3) ex_int rfl) ex_int ⟨by decide, by decide⟩) (ex_I (ex_I (ex_ixL (ex_var rfl dd3) ex_int rfl) ex_int (by decide)) ex_int (.inr ⟨by decide, by decide⟩))) (ex_var rfl (.int m)) hm0) fun y H4 e4 dy => ?_
        obtain rfl := dy.oi
        have m4 := m3.trans (Mv.of e4)
        exact q _ _ (Int.emod_nonneg _ (by omega)) (Int.emod_lt_of_pos _ hm0) m4 (m4.ex gh no) ⟨no, sa, ns, i, c, _, e4 _ _ upd_same, hs, hi0, hc0, Int.emod_nonneg _ (by decide), Int.emod_lt_of_pos _ (by decide)⟩
/-! _law_same -/
abbrev s__law_same : Stmt := top 9
abbrev N__law_same : List Str := ["_law_found", "_law_due", "_law_one", "_law_other"]
abbrev p__law_same : List Str := ["_law_found", "_law_due"]
theorem sc__law_same : FnScope N__law_same p__law_same (defScope s__law_same) := ⟨rfl, rfl, rfl, by decide +kernel, rfl, by decide +kernel, by decide +kernel⟩
/-- data that _law_same goes through in n turns -/
def Sm : Nat → PyData → Prop
  | _, .none => True
  | _, .bool _ => True
  | _, .int _ => True
  | _, .str _ => True
  | n + 1, .list ds => ds.length ≤ 50000 ∧ ∀ d ∈ ds, Sm n d
  | n + 1, .tuple ds => ds.length ≤ 50000 ∧ ∀ d ∈ ds, Sm n d
  | _, _ => False
def R_same : Nat → List PyData → PyData → Prop
  | 0 => fun _ _ => False
  | n + 1 => fun ds d => ∃ e, ds = [e, e] ∧ Sm n e ∧ d = .bool true
theorem map_true {α : Type} (xs : List α) : (xs.map fun _ => true).all id = true := by simp
set_option maxHeartbeats 8000000 in
theorem ok__law_sameS {f : Addr} {fd : FuncData} (T : Tx mg) (F : Fun K "_law_same" "_law_same" s__law_same f fd) (n : Nat) (C__law_same : Cal P w K mg base "_law_same" (n + 1) p__law_same (PSp (R_same n))) : FnOk P w K mg base CX0 (n + 2) f fd p__law_same (PSp (R_same (n + 1))) := by
  have nd := sc__law_same.nd
  refine F.ok sc__law_same (fun vs H Q E h => ?_) (fun cdv A outer s H vs Q E hr h => ?_)
  · obtain ⟨G, ds, d, gh, dv, ⟨e, rfl, _⟩, _⟩ := h
    exact dv.len
  · obtain ⟨G, ds, d, gh, dv, ⟨e, rfl, hS, rfl⟩, q⟩ := h
    obtain ⟨v, u, rfl, dv1, du1⟩ := dv.two
    refine ⟨_, (pss_cons (ps_if (pt_val (pe_callB call_isiT (by rfl) T.isinstance (by decide +kernel) (pa_cons (pv 1) (pa_cons (pe_tup (pa_cons (pe_bltn (v := .ty "list") (u := .type "list") (by rfl) T.list (by decide +kernel) rfl) (pa_cons (pe_bltn (v := .ty "tuple") (u := .type "tuple") (by rfl) T.tuple (by decide +kernel) rfl) pa_nil))) pa_nil))))
      (pss_cons (ps_if (PW.pt (pw_or (pt_cmpR op_ne (pe_callB call_isi (by rfl) T.isinstance (by decide +kernel) (pa_cons (pv 0) (pa_cons (pe_bltn (v := .ty "list") (u := .type "list") (by rfl) T.list (by decide +kernel) rfl) pa_nil))) (pe_callB call_isi (by rfl) T.isinstance (by decide +kernel) (pa_cons (pv 1) (pa_cons (pe_bltn (v := .ty "list") (u := .type "list") (by rfl) T.list (by decide +kernel) rfl) pa_nil))) (nomark _)) (pw_or1 (pt_cmpR op_ne (pe_callB call_isi (by rfl) T.isinstance (by decide +kernel) (pa_cons (pv 0) (pa_cons (pe_bltn (v := .ty "tuple") (u := .type "tuple") (by rfl) T.tuple (by decide +kernel) rfl) pa_nil))) (pe_callB call_isi (by rfl) T.isinstance (by decide +kernel) (pa_cons (pv 1) (pa_cons (pe_bltn (v := .ty "tuple") (u := .type "tuple") (by rfl) T.tuple (by decide +kernel) rfl) pa_nil))) (nomark _)))))
        (pss_one (ps_ret pe_bl))
        pss_nil)
      (pss_one (ps_ret (pe_and (pe_cmpR op_eq (pe_callB call_len_seq (by rfl) T.len PySem.boot_len (pa_cons (pv 0) pa_nil)) (pe_callB call_len_seq (by rfl) T.len PySem.boot_len (pa_cons (pv 1) pa_nil)) (nomark _)) (pe_one (pe_callB (cr_all rfl) (by rfl) T.all (by decide +kernel) (pa_cons (pe_lc (own := [("_law_one", 2), ("_law_other", 3)]) (g := gTup K 2 (gCons (gName 2) (gCons (gName 3) gNil))) (tt := tYes) (te := (tCall _ [] E0 (tCons (tVar 2) (tCons (tVar 3) tNil)))) (by rfl) nd (RZ.pi_zipA (by rfl) T.zip (pa_cons (pv 0) (pa_cons (pv 1) pa_nil))) (blkOk_by (N := N__law_same) (sc := defScope s__law_same) (by decide +kernel)) (fun _ _ _ _ _ => (pg_tup rfl (pgs_cons (pg_name (i := 2) nd rfl (.inl rfl)) (pgs_cons (pg_name (i := 3) nd rfl (.inl rfl)) pgs_nil)))) (fun _ _ _ _ _ => pts_nil) (fun _ _ _ _ _ => (pe_cal C__law_same (hr.mono (by omega)) (by rfl) (pa_cons (pv 2) (pa_cons (pv 3) pa_nil))))) pa_nil)))))))
      pss_nil)
    (pss_cons (ps_if (pt_cmpR op_isN (pv 1) pe_non (nomark _))
      (pss_one (ps_ret (pe_cmpR op_isN (pv 0) pe_non (nomark _))))
      pss_nil)
    (pss_cons (ps_if (PW.pt (pw_or (pt_cmpR op_ne (pe_callB call_isi (by rfl) T.isinstance (by decide +kernel) (pa_cons (pv 0) (pa_cons (pe_bltn (v := .ty "bool") (u := .type "bool") (by rfl) T.bool (by decide +kernel) rfl) pa_nil))) (pe_callB call_isi (by rfl) T.isinstance (by decide +kernel) (pa_cons (pv 1) (pa_cons (pe_bltn (v := .ty "bool") (u := .type "bool") (by rfl) T.bool (by decide +kernel) rfl) pa_nil))) (nomark _)) (pw_or1 (pt_cmpR op_ne (pe_callB call_isi (by rfl) T.isinstance (by decide +kernel) (pa_cons (pv 0) (pa_cons (pe_bltn (v := .ty "str") (u := .type "str") (by rfl) T.str (by decide +kernel) rfl) pa_nil))) (pe_callB call_isi (by rfl) T.isinstance (by decide +kernel) (pa_cons (pv 1) (pa_cons (pe_bltn (v := .ty "str") (u := .type "str") (by rfl) T.str (by decide +kernel) rfl) pa_nil))) (nomark _)))))
      (pss_one (ps_ret pe_bl))
      pss_nil)
    (pss_one (ps_ret (pe_and (pe_cmpR op_eq (pe_callB call_isi (by rfl) T.isinstance (by decide +kernel) (pa_cons (pv 0) (pa_cons (pe_bltn (v := .ty "int") (u := .type "int") (by rfl) T.int (by decide +kernel) rfl) pa_nil))) (pe_callB call_isi (by rfl) T.isinstance (by decide +kernel) (pa_cons (pv 1) (pa_cons (pe_bltn (v := .ty "int") (u := .type "int") (by rfl) T.int (by decide +kernel) rfl) pa_nil))) (nomark _)) (pe_one (pe_cmpR op_eq (pv 0) (pv 1) (nomark _))))))))), ?_⟩
    cases e with
    | dict kvs => cases dv1
    | none =>
      refine st_if gh (eb_B (ex_isiT (c := false) (ex_var rfl du1) ki_NoneType_list ki_NoneType_tuple (by decide))) (fun z => nomatch z) fun _ H1 go => ?_
      refine st_if go.gh (eb_test (ex_isN (b := true) (ex_var rfl du1) rfl)) (fun _ H2 go2 => ?_) (fun z => nomatch z)
      exact st_ret go2.gh (ex_isN (b := true) (ex_var rfl dv1) rfl) ((go.trans go2).retX q)
    | bool b =>
      refine st_if gh (eb_B (ex_isiT (c := false) (ex_var rfl du1) ki_bool_list ki_bool_tuple (by decide))) (fun z => nomatch z) fun _ H1 go => ?_
      refine st_if go.gh (eb_test (ex_isN (b := false) (ex_var rfl du1) rfl)) (fun z => nomatch z) (fun _ H2 go2 => ?_)
      refine st_if go2.gh (EvB.eq (b := false) (eb_or (eb_test (ex_neB (ex_isi (b := true) (ex_var rfl dv1) ki_bool_bool) (ex_isi (b := true) (ex_var rfl du1) ki_bool_bool))) fun _ => (eb_test (ex_neB (ex_isi (b := false) (ex_var rfl dv1) ki_bool_str) (ex_isi (b := false) (ex_var rfl du1) ki_bool_str)))) (by decide)) (fun z => nomatch z) (fun _ H3 go3 => ?_)
      exact st_ret go3.gh (EvX.eq (ex_and (ex_eqB (ex_isi (b := true) (ex_var rfl dv1) ki_bool_int) (ex_isi (b := true) (ex_var rfl du1) ki_bool_int)) fun _ => ex_eqB (ex_var rfl dv1) (ex_var rfl du1)) (by simp)) (((go.trans go2).trans go3).retX q)
    | int b =>
      refine st_if gh (eb_B (ex_isiT (c := false) (ex_var rfl du1) ki_int_list ki_int_tuple (by decide))) (fun z => nomatch z) fun _ H1 go => ?_
      refine st_if go.gh (eb_test (ex_isN (b := false) (ex_var rfl du1) rfl)) (fun z => nomatch z) (fun _ H2 go2 => ?_)
      refine st_if go2.gh (EvB.eq (b := false) (eb_or (eb_test (ex_neB (ex_isi (b := false) (ex_var rfl dv1) ki_int_bool) (ex_isi (b := false) (ex_var rfl du1) ki_int_bool))) fun _ => (eb_test (ex_neB (ex_isi (b := false) (ex_var rfl dv1) ki_int_str) (ex_isi (b := false) (ex_var rfl du1) ki_int_str)))) (by decide)) (fun z => nomatch z) (fun _ H3 go3 => ?_)
      exact st_ret go3.gh (EvX.eq (ex_and (ex_eqB (ex_isi (b := true) (ex_var rfl dv1) ki_int_int) (ex_isi (b := true) (ex_var rfl du1) ki_int_int)) fun _ => ex_eqI (ex_var rfl dv1) (ex_var rfl du1)) (by simp)) (((go.trans go2).trans go3).retX q)
    | str b =>
      refine st_if gh (eb_B (ex_isiT (c := false) (ex_var rfl du1) ki_str_list ki_str_tuple (by decide))) (fun z => nomatch z) fun _ H1 go => ?_
      refine st_if go.gh (eb_test (ex_isN (b := false) (ex_var rfl du1) rfl)) (fun z => nomatch z) (fun _ H2 go2 => ?_)
      refine st_if go2.gh (EvB.eq (b := false) (eb_or (eb_test (ex_neB (ex_isi (b := false) (ex_var rfl dv1) ki_str_bool) (ex_isi (b := false) (ex_var rfl du1) ki_str_bool))) fun _ => (eb_test (ex_neB (ex_isi (b := true) (ex_var rfl dv1) ki_str_str) (ex_isi (b := true) (ex_var rfl du1) ki_str_str)))) (by decide)) (fun z => nomatch z) (fun _ H3 go3 => ?_)
      exact st_ret go3.gh (EvX.eq (ex_and (ex_eqB (ex_isi (b := false) (ex_var rfl dv1) ki_str_int) (ex_isi (b := false) (ex_var rfl du1) ki_str_int)) fun _ => ex_eqS (ex_var rfl dv1) (ex_var rfl du1)) (by simp)) (((go.trans go2).trans go3).retX q)
    | list ds =>
      cases n with
      | zero => exact hS.elim
      | succ n =>
      obtain ⟨hS1, hS2⟩ := hS
      refine st_if gh (eb_B (ex_isiT (c := true) (ex_var rfl du1) ki_list_list ki_list_tuple (by decide))) (fun _ H1 go => ?_) (fun z => nomatch z)
      refine st_if go.gh (EvB.eq (b := false) (eb_or (eb_test (ex_neB (ex_isi (b := true) (ex_var rfl dv1) ki_list_list) (ex_isi (b := true) (ex_var rfl du1) ki_list_list))) fun _ => (eb_test (ex_neB (ex_isi (b := false) (ex_var rfl dv1) ki_list_tuple) (ex_isi (b := false) (ex_var rfl du1) ki_list_tuple)))) (by decide)) (fun z => nomatch z) (fun _ H2 go2 => ?_)
      exact st_ret go2.gh (EvX.eq (ex_and (ex_eqI (ex_len (ex_var rfl dv1)) (ex_len (ex_var rfl du1))) fun _ => ex_all (bs := (List.range ds.length).map fun _ => true) ((en_lcZA (fun _ => .bool true) (.inl (ea1 (ex_var rfl dv1) (ea1 (ex_var rfl du1) ea0))) rfl hS1 (fun _ _ => rfl) (fun i x y d e Gi hd he g dx dy => by
        have ee := Option.some.inj (hd.symm.trans he)
        subst ee
        exact ex_call (ea1 (ex_var rfl dx) (ea1 (ex_var rfl dy) ea0)) ⟨d, rfl, hS2 d (List.mem_of_getElem? hd), rfl⟩)).eq (dLB_map _ _)).toX) (by rw [map_true]; simp)) ((go.trans go2).retX q)
    | tuple ds =>
      cases n with
      | zero => exact hS.elim
      | succ n =>
      obtain ⟨hS1, hS2⟩ := hS
      refine st_if gh (eb_B (ex_isiT (c := true) (ex_var rfl du1) ki_tuple_list ki_tuple_tuple (by decide))) (fun _ H1 go => ?_) (fun z => nomatch z)
      refine st_if go.gh (EvB.eq (b := false) (eb_or (eb_test (ex_neB (ex_isi (b := false) (ex_var rfl dv1) ki_tuple_list) (ex_isi (b := false) (ex_var rfl du1) ki_tuple_list))) fun _ => (eb_test (ex_neB (ex_isi (b := true) (ex_var rfl dv1) ki_tuple_tuple) (ex_isi (b := true) (ex_var rfl du1) ki_tuple_tuple)))) (by decide)) (fun z => nomatch z) (fun _ H2 go2 => ?_)
      exact st_ret go2.gh (EvX.eq (ex_and (ex_eqI (ex_lenT (ex_var rfl dv1)) (ex_lenT (ex_var rfl du1))) fun _ => ex_all (bs := (List.range ds.length).map fun _ => true) ((en_lcZA (fun _ => .bool true) (.inr (ea1 (ex_var rfl dv1) (ea1 (ex_var rfl du1) ea0))) rfl hS1 (fun _ _ => rfl) (fun i x y d e Gi hd he g dx dy => by
        have ee := Option.some.inj (hd.symm.trans he)
        subst ee
        exact ex_call (ea1 (ex_var rfl dx) (ea1 (ex_var rfl dy) ea0)) ⟨d, rfl, hS2 d (List.mem_of_getElem? hd), rfl⟩)).eq (dLB_map _ _)).toX) (by rw [map_true]; simp)) ((go.trans go2).retX q)
theorem ok__law_same {f : Addr} {fd : FuncData} (T : Tx mg) (F : Fun K "_law_same" "_law_same" s__law_same f fd) (hm : mg "_law_same" = some (.ref f)) (hb : Binds K fd p__law_same []) : ∀ n : Nat, FnOk P w K mg base CX0 (n + 1) f fd p__law_same (PSp (R_same n))
  | 0 => F.ok sc__law_same (fun _ _ _ _ ⟨_, _, _, _, _, h, _⟩ => h.elim) (fun _ _ _ _ _ _ _ _ _ ⟨_, _, _, _, _, h, _⟩ => h.elim)
  | n + 1 => ok__law_sameS T F n (cal_mk (ok__law_same T F hm hb n) hm F.kp hb)
/-! _law_odd -/
abbrev s__law_odd : Stmt := top 10
abbrev N__law_odd : List Str := ["_law_draw", "_law_number"]
abbrev p__law_odd : List Str := ["_law_draw"]
theorem sc__law_odd : FnScope N__law_odd p__law_odd (defScope s__law_odd) := ⟨rfl, rfl, rfl, by decide +kernel, rfl, by decide +kernel, by decide +kernel⟩
/-- some number of at most 30 figures -/
def P_odd (e : PyData) : Prop := ∃ r : Int, e = .int r ∧ -(10 ^ 30) < r ∧ r < 10 ^ 30
abbrev spOdd : Sp := MSp (fun ds => ds = []) fun _ e => P_odd e
theorem ok__law_odd {f : Addr} {fd : FuncData} (T : Tx mg) (F : Fun K "_law_odd" "_law_odd" s__law_odd f fd) (C__law_take : Cal P w K mg base "_law_take" 1 p__law_take spTake) : FnOk P w K mg base CX0 2 f fd p__law_odd spOdd := by
  have nd := sc__law_odd.nd
  refine F.ok sc__law_odd (fun vs H Q E h => ?_) (fun cdv A outer s H vs Q E hr h => ?_)
  · obtain ⟨d, us, G, ds, rfl, gh, r, du, rfl, _⟩ := h
    cases du
    rfl
  · obtain ⟨d, us, G, ds, rfl, gh, r, du, rfl, q⟩ := h
    cases du
    refine ⟨_, (pss_cons (ps_set (i := 1) nd rfl (.inl rfl) (pe_cal C__law_take (hr.mono (by omega)) (by rfl) (pa_cons (pv 0) (pa_cons (pe_op op_pow pe_int pe_int) pa_nil))))
    (pss_one (ps_ret (pe_ix ix_tup (pe_tup (pa_cons (pe_un un_neg pe_int) (pa_cons pe_int (pa_cons pe_int (pa_cons pe_int (pa_cons pe_int (pa_cons (pv 1) (pa_cons (pe_op op_sub (pe_un un_neg pe_int) (pv 1)) (pa_cons (pe_op op_mul (pv 1) (pe_op op_pow pe_int pe_int)) (pa_cons (pe_op op_mul (pe_un un_neg (pv 1)) (pe_op op_pow pe_int pe_int)) pa_nil)))))))))) (pe_cal C__law_take (hr.mono (by omega)) (by rfl) (pa_cons (pv 0) (pa_cons pe_int pa_nil))) (fun _ _ => rfl))))), ?_⟩
    refine sm_asg gh r (em_take rfl (ex_I ex_int ex_int ⟨by decide, by decide, by decide⟩) (by decide) (by decide)) fun x e G1 H1 m1 r1 dx pe => ?_
    obtain ⟨n, rfl, n0, n1⟩ := pe
    obtain rfl := dx.oi
    have n1' : n < 1000000000 := n1
    refine sm_ret m1.gh r1 (em_pick (P1 := fun e => ∃ es, e = .tuple es ∧ es.length = 9 ∧ ∀ x ∈ es, P_odd x) (P := P_odd) (em_x (e := .tuple [.int (-1), .int 0, .int 1, .int 25, .int 61, .int n, .int (-1 - n), .int (n * 10 ^ 20), .int (-n * 10 ^ 20)]) ((en_tup (ea1 (ex_neg ex_int) (ea1 ex_int (ea1 ex_int (ea1 ex_int (ea1 ex_int (ea1 (ex_var rfl (.int n)) (ea1 (ex_I0 (ex_neg ex_int) (ex_var rfl (.int n))) (ea1 (ex_I (ex_var rfl (.int n)) (ex_I ex_int ex_int ⟨by decide, by decide, by decide⟩) (.inl ⟨by omega, by omega⟩)) (ea1 (ex_I (ex_neg (ex_var rfl (.int n))) (ex_I ex_int ex_int ⟨by decide, by decide, by decide⟩) (.inl ⟨by omega, by omega⟩)) ea0)))))))))).toX) ⟨_, rfl, _, rfl, rfl, ?_⟩) (em_take rfl ex_int (by decide) (by decide)) ?_) fun x e G2 H2 m2 r2 dx pe => q x e G2 H2 (m1.trans m2 r1.at) r2 dx pe
    · have p20 : (10 : Int) ^ 20 = 100000000000000000000 := by decide
      have p30 : (10 : Int) ^ 30 = 1000000000000000000000000000000 := by decide
      intro x hx
      simp only [List.mem_cons, List.not_mem_nil, or_false] at hx
      rcases hx with rfl | rfl | rfl | rfl | rfl | rfl | rfl | rfl | rfl
      all_goals
        refine ⟨_, rfl, ?_, ?_⟩
        · rw [p30]; first | omega | (rw [p20]; omega)
        · rw [p30]; first | omega | (rw [p20]; omega)
    · rintro es f ⟨_, e', h9, hP⟩ ⟨r', rfl, r0, r1⟩
      cases e'
      exact ⟨r', rfl, r0, by rw [h9]; exact r1, fun e he => hP e (List.mem_of_getElem? he)⟩
/-! _law_in -/
abbrev s__law_in : Stmt := top 11
abbrev N__law_in : List Str := ["_law_one", "_law_other", "_law_cell"]
abbrev p__law_in : List Str := ["_law_one", "_law_other"]
theorem sc__law_in : FnScope N__law_in p__law_in (defScope s__law_in) := ⟨rfl, rfl, rfl, by decide +kernel, rfl, by decide +kernel, by decide +kernel⟩
def R__law_in (ds : List PyData) (d : PyData) : Prop := ∃ ns ms : List Int, ds = [dLI ns, dLI ms] ∧ ns.length ≤ 1000 ∧ ms.length ≤ 1000 ∧ d = .bool (ns.all fun k => decide (k ∈ ms))
theorem ok__law_in {f : Addr} {fd : FuncData} (T : Tx mg) (F : Fun K "_law_in" "_law_in" s__law_in f fd) : FnOk P w K mg base CX0 1 f fd p__law_in (PSp R__law_in) := by
  have nd := sc__law_in.nd
  refine F.ok sc__law_in (fun vs H Q E h => ?_) (fun cdv A outer s H vs Q E hr h => ?_)
  · obtain ⟨G, ds, d, gh, dv, ⟨ns, ms, rfl, _⟩, _⟩ := h
    exact dv.len
  · obtain ⟨G, ds, d, gh, dv, ⟨ns, ms, rfl, hl, hl2, rfl⟩, q⟩ := h
    obtain ⟨v, u, rfl, dv1, du1⟩ := dv.two
    refine ⟨_, (pss_one (ps_ret (pe_callB (cr_all rfl) (by rfl) T.all (by decide +kernel) (pa_cons (pe_lc (own := [("_law_cell", 2)]) (g := gName 2) (tt := tYes) (te := (tOp (rIn K false) (tVar 2) (tVar 1))) (by rfl) nd (pi_list (pv 0)) (blkOk_by (N := N__law_in) (sc := defScope s__law_in) (by decide +kernel)) (fun _ _ _ _ _ => (pg_name (i := 2) nd rfl (.inl rfl))) (fun _ _ _ _ _ => pts_nil) (fun _ _ _ _ _ => (pe_cmpR op_in_seq (pv 2) (pv 1) (by rfl)))) pa_nil)))), ?_⟩
    refine st_ret gh ((ex_all (bs := ns.map fun k => decide (k ∈ ms)) ((en_lcI0 (fun k => .bool (decide (k ∈ ms))) (ex_var rfl dv1) (by omega) (fun _ => rfl) (fun n Gi _ g => ex_inI (ex_var rfl (.int n)) (ex_var rfl (du1.up g)))).eq (dLB_map _ _)).toX).eq (by rw [List.all_map]; rfl)) q
/-! _law_numbers -/
abbrev s__law_numbers : Stmt := top 12
abbrev N__law_numbers : List Str := ["_law_draw", "_law_wide", "_law_found", "_law_k"]
abbrev p__law_numbers : List Str := ["_law_draw"]
theorem sc__law_numbers : FnScope N__law_numbers p__law_numbers (defScope s__law_numbers) := ⟨rfl, rfl, rfl, by decide +kernel, rfl, by decide +kernel, by decide +kernel⟩
def P_numbers (es : List PyData) : Prop := ∃ ns : List Int, es = ns.map PyData.int ∧ ns.length ≤ 15
abbrev spNumbers : Sp := MSpN (fun ds => ds = []) fun _ es => P_numbers es
theorem ok__law_numbers {f : Addr} {fd : FuncData} (T : Tx mg) (F : Fun K "_law_numbers" "_law_numbers" s__law_numbers f fd) (C__law_take : Cal P w K mg base "_law_take" 1 p__law_take spTake) (C__law_odd : Cal P w K mg base "_law_odd" 2 p__law_odd spOdd) : FnOk P w K mg base CX0 3 f fd p__law_numbers spNumbers := by
  have nd := sc__law_numbers.nd
  refine F.ok sc__law_numbers (fun vs H Q E h => ?_) (fun cdv A outer s H vs Q E hr h => ?_)
  · obtain ⟨d, us, G, ds, rfl, gh, r, du, rfl, _⟩ := h
    cases du
    rfl
  · obtain ⟨d, us, G, ds, rfl, gh, r, du, rfl, q⟩ := h
    cases du
    refine ⟨_, (pss_cons (ps_set (i := 1) nd rfl (.inr rfl) (pe_ix ix_tup (pe_tup (pa_cons pe_int (pa_cons pe_int (pa_cons pe_int pa_nil)))) (pe_cal C__law_take (hr.mono (by omega)) (by rfl) (pa_cons (pv 0) (pa_cons pe_int pa_nil))) (fun _ _ => rfl)))
    (pss_cons (ps_setLc (i := 2) (own := [("_law_k", 3)]) (g := gName 3) (tt := tYes) (te := (tCall spTake [] E0 (tCons (tVar 0) (tCons (tVar 1) tNil)))) (by rfl) nd rfl rfl (sw_true rfl rfl rfl (by decide +kernel)) (pi_range1 (by rfl) T.range (pa_cons (pe_cal C__law_take (hr.mono (by omega)) (by rfl) (pa_cons (pv 0) (pa_cons pe_int pa_nil))) pa_nil)) (blkOk_by (N := N__law_numbers) (sc := defScope s__law_numbers) (by decide +kernel)) (fun _ _ _ _ _ => (pg_name (i := 3) nd rfl (.inl rfl))) (fun _ _ _ _ _ => pts_nil) (fun _ _ _ _ _ => (pe_cal C__law_take (hr.mono (by omega)) (by rfl) (pa_cons (pv 0) (pa_cons (pv 1) pa_nil)))))
    (Evl.pss_cut (ps_if (pt_cmpR op_eq (pe_cal C__law_take (hr.mono (by omega)) (by rfl) (pa_cons (pv 0) (pa_cons pe_int pa_nil))) pe_int (nomark _))
      (pss_one (ps_expr (pe_bm PySem.F.plainAttrs_list PySem.F.slot_list_append PySem.F.type_list_append mt_append (pv 2) (pa_cons (pe_cal C__law_odd (hr.mono (by omega)) (by rfl) (pa_cons (pv 0) pa_nil)) pa_nil))))
      pss_nil)
    (pss_one (ps_ret (pe_op op_cat (pv 2) (pe_slice sl_list (pv 2) po_none (po_some (pe_cal C__law_take (hr.mono (by omega)) (by rfl) (pa_cons (pv 0) (pa_cons pe_int pa_nil))))))))))), ?_⟩
    refine sm_asg gh r (em_pick (P1 := fun e => e = .tuple [.int 4, .int 12, .int 40]) (P := fun e => ∃ n : Int, e = .int n ∧ 0 < n ∧ n < 41) (em_x (en_tup (ea1 ex_int (ea1 ex_int (ea1 ex_int ea0)))).toX ⟨_, rfl, rfl⟩) (em_take rfl ex_int (by decide) (by decide)) ?_) fun x e G1 H1 m1 r1 dx pe => ?_
    · rintro es f e' ⟨r', rfl, r0, r1⟩
      cases e'
      refine ⟨r', rfl, r0, r1, fun e he => ?_⟩
      have := List.mem_of_getElem? he
      simp only [List.mem_cons, List.not_mem_nil, or_false] at this
      rcases this with rfl | rfl | rfl
      all_goals exact ⟨_, rfl, by decide, by decide⟩
    obtain ⟨n, rfl, n0, n1⟩ := pe
    obtain rfl := dx.oi
    refine sm_asgN m1.gh r1 (em_lcR0 (m := 12) (Pa := fun es => ∃ k : Int, es = [.int k] ∧ 0 ≤ k ∧ k ≤ 12) (P := fun _ e => ∃ i, e = .int i) (em_one (em_take rfl ex_int (by decide) (by decide)) fun e ⟨k, hk, k0, k1⟩ => ⟨k, by rw [hk], k0, by omega⟩) (fun es h => h) (by decide) (fun _ => rfl) (fun i Gi hi g => (em_take rfl (ex_var rfl (.int n)) n0 (by omega)).imp fun e ⟨k, hk, _⟩ => ⟨k, hk⟩)) fun p xs es G2 H2 m2 r2 hp hpd gp h2 dx2 ⟨hle, _, hes⟩ => ?_
    obtain ⟨ns, rfl⟩ := ints_of_all (es := es) fun e he => by
      obtain ⟨i, hi⟩ := List.getElem?_of_mem he
      exact hes i e hi
    obtain rfl := ints_dt dx2
    rw [List.length_map] at hle
    have m12 := m1.trans m2 r1.at
    have hp0 : H p = none := by
      obtain ⟨o, ho⟩ := r.at
      exact m1.mv.fresh ho hp hpd
    refine ⟨fun σ' H' => ∃ (G' : Hp) (ns : List Int), σ' = [some (.ref d), some (.int n), some (.ref p), none] ∧ Md d G H G' H' ∧ Dr G' H' d ∧ G' p = none ∧ H' p = some (.lst (ns.map V.int)) ∧ ns.length ≤ 13, ?_, ?_⟩
    · refine sm_if1 m2.gh r2 (emb_eqI ((em_take rfl ex_int (by decide) (by decide)).imp fun e ⟨k, hk, _⟩ => ⟨k, hk⟩) ex_int) (fun G3 H3 m3 r3 => ?_) (fun G3 H3 m3 r3 => ?_)
      · have h3 := m3.mv _ _ hpd h2
        have g3 : G3 p = none := by rw [m3.no _ _ h2]; exact gp
        refine sm_app1 (es := ns.map PyData.int) m3.gh r3 rfl h3 hpd (by rw [List.length_map]; omega) (em_call rfl ema0 fun _ h => h) fun x e G4 H4 m4 r4 dx4 pe h4 => ?_
        obtain ⟨_, _, z, rfl, _⟩ := pe
        obtain rfl := dx4.oi
        have g4 : G4 p = none := by rw [m4.no _ _ h3]; exact g3
        exact ⟨G4, ns ++ [z], rfl, ((m12.trans m3 r2.at).trans m4 r3.at).put (u := .lst []) hp0 g4, r4.put hpd, g4, by rw [upd_same, List.map_append]; rfl, by rw [List.length_append]; show ns.length + 1 ≤ 13; omega⟩
      · have h3 := m3.mv _ _ hpd h2
        exact ⟨G3, ns, rfl, m12.trans m3 r2.at, r3, by rw [m3.no _ _ h2]; exact gp, h3, by omega⟩
    · rintro σ' H3 ⟨G3, ns, rfl, m3, r3, g3, h3, hl⟩
      obtain ⟨mf, rf, ef⟩ := m3.freeze r3 hp0 hpd g3 h3
      have df : Dt (upd G3 p (.lst (ns.map V.int))) (.ref p) (dLI ns) := Dt.li upd_same
      refine sm_retN mf.gh rf (em_cat (P1 := fun es => es = ns.map PyData.int) (P2 := fun es => ∃ k : Int, es = (ns.map PyData.int).take k.toNat ∧ k.toNat ≤ 2) (em_x (ex_var rfl df) ⟨_, rfl, rfl⟩) ((em_slH (P2 := fun e => ∃ r : Int, e = .int r ∧ 0 ≤ r ∧ r < 3) (ex_var rfl df) (em_take rfl ex_int (by decide) (by decide)) fun e ⟨k, hk, _⟩ => ⟨k, hk⟩).toM.imp ?_) ?_) fun x xs es G4 H4 m4 r4 hx hxd gx h4 dx4 ⟨es1, es2, ee, e1, k, e2, hk⟩ => ?_
      · rintro e ⟨ds, rfl, r', ⟨k, ek, k0, k1⟩, rfl⟩
        cases ek
        refine ⟨_, rfl, r', ?_, by omega⟩
        rw [show r' = ((r'.toNat : Nat) : Int) by omega, cutA_take]
        rfl
      · rintro es fs rfl ⟨k, rfl, hk⟩
        rw [List.length_take, List.length_map]
        omega
      · subst ee
        subst e1
        subst e2
        refine q x xs _ G4 H4 (mf.trans m4 rf.at) r4 ?_ hxd gx h4 dx4 ⟨ns ++ ns.take k.toNat, by rw [List.map_append, List.map_take], by rw [List.length_append, List.length_take]; omega⟩
        obtain ⟨o, ho⟩ := r.at
        exact mf.mv.fresh ho hx hxd
/-! _law_each -/
abbrev s__law_each : Stmt := top 13
abbrev N__law_each : List Str := ["_law_found", "_law_at", "_law_number"]
abbrev p__law_each : List Str := ["_law_found"]
theorem sc__law_each : FnScope N__law_each p__law_each (defScope s__law_each) := ⟨rfl, rfl, rfl, by decide +kernel, rfl, by decide +kernel, by decide +kernel⟩
def R_each (ds : List PyData) (d : PyData) : Prop := ∃ ns : List Int, ds = [dLI ns] ∧ ns.length ≤ 1000 ∧ d = dLI (rise ns)
def each (l : List Int) : List Int := ((List.range l.length).filter fun i => !decide (l.getD i 0 ∈ l.take i)).map fun i => l.getD i 0
theorem each_snoc (l : List Int) (x : Int) : each (l ++ [x]) = each l ++ (if x ∈ l then [] else [x]) := by
  unfold each
  rw [List.length_append, List.length_singleton, List.range_succ, List.filter_append, List.map_append]
  have e1 : ∀ i ∈ List.range l.length, (l ++ [x]).getD i 0 = l.getD i 0 ∧ (l ++ [x]).take i = l.take i := fun i hi => by
    have hi := List.mem_range.mp hi
    exact ⟨by rw [List.getD_eq_getElem?_getD, List.getD_eq_getElem?_getD, List.getElem?_append_left hi], List.take_append_of_le_length (by omega)⟩
  have e2 : ((List.range l.length).filter fun i => !decide ((l ++ [x]).getD i 0 ∈ (l ++ [x]).take i)) = (List.range l.length).filter fun i => !decide (l.getD i 0 ∈ l.take i) := List.filter_congr fun i hi => by rw [(e1 i hi).1, (e1 i hi).2]
  rw [e2]
  have e3 : ((List.range l.length).filter fun i => !decide (l.getD i 0 ∈ l.take i)).map (fun i => (l ++ [x]).getD i 0) = ((List.range l.length).filter fun i => !decide (l.getD i 0 ∈ l.take i)).map fun i => l.getD i 0 := List.map_congr_left fun i hi => (e1 i (List.mem_filter.mp hi).1).1
  rw [e3]
  congr 1
  have e4 : (l ++ [x]).getD l.length 0 = x := by rw [List.getD_eq_getElem?_getD]; simp
  have e5 : (l ++ [x]).take l.length = l := by simp
  by_cases h : x ∈ l
  · rw [if_pos h, List.filter_cons, if_neg (by rw [e4, e5]; simp [h])]
    rfl
  · rw [if_neg h, List.filter_cons, if_pos (by rw [e4, e5]; simp [h])]
    show [(l ++ [x]).getD l.length 0] = [x]
    rw [e4]
theorem each_ok (l : List Int) : l.Pairwise (· ≤ ·) → (each l).Pairwise (· < ·) ∧ ∀ k, k ∈ each l ↔ k ∈ l := by
  have gen : ∀ (m : List Int), m.reverse.Pairwise (· ≤ ·) → (each m.reverse).Pairwise (· < ·) ∧ ∀ k, k ∈ each m.reverse ↔ k ∈ m.reverse := by
    intro m
    induction m with
    | nil => intro _; exact ⟨List.Pairwise.nil, fun k => by simp [each]⟩
    | cons x m ih =>
      intro h
      rw [List.reverse_cons] at h ⊢
      obtain ⟨h1, h2, h3⟩ := List.pairwise_append.mp h
      obtain ⟨i1, i2⟩ := ih h1
      rw [each_snoc]
      by_cases hx : x ∈ m.reverse
      · rw [if_pos hx, List.append_nil]
        refine ⟨i1, fun k => ?_⟩
        rw [i2, List.mem_append, List.mem_singleton]
        constructor
        · exact .inl
        · rintro (z | rfl)
          · exact z
          · exact hx
      · rw [if_neg hx]
        refine ⟨List.pairwise_append.mpr ⟨i1, List.pairwise_singleton _ _, fun a ha b hb => ?_⟩, fun k => by rw [List.mem_append, i2, List.mem_append]⟩
        have hb' := List.mem_singleton.mp hb
        subst hb'
        have ha' := (i2 a).mp ha
        have := h3 a ha' b (List.mem_singleton.mpr rfl)
        have ne : a ≠ b := fun z => hx (z ▸ ha')
        omega
  intro h
  have := gen l.reverse (by rw [List.reverse_reverse]; exact h)
  rw [List.reverse_reverse] at this
  exact this
theorem each_rise (ns : List Int) : each (srt ns) = rise ns := by
  obtain ⟨h1, h2⟩ := each_ok (srt ns) (srt_le ns)
  exact ris_uniq h1 (ris_rise ns) fun k => by rw [h2, mem_rise, (srt_perm ns).mem_iff]
theorem ok__law_each {f : Addr} {fd : FuncData} (T : Tx mg) (F : Fun K "_law_each" "_law_each" s__law_each f fd) : FnOk P w K mg base CX0 1 f fd p__law_each (NSp R_each) := by
  have nd := sc__law_each.nd
  refine F.ok sc__law_each (fun vs H Q E h => ?_) (fun cdv A outer s H vs Q E hr h => ?_)
  · obtain ⟨G, ds, d, gh, dv, ⟨ns, rfl, _⟩, _⟩ := h
    exact dv.len
  · obtain ⟨G, ds, d, gh, dv, ⟨ns, rfl, hl, rfl⟩, q⟩ := h
    obtain ⟨v, rfl, dv1⟩ := dv.one
    refine ⟨_, (pss_one (ps_ret (pe_lc (own := [("_law_at", 1), ("_law_number", 2)]) (g := gTup K 2 (gCons (gName 1) (gCons (gName 2) gNil))) (tt := (tTest (tOp (rIn K true) (tVar 2) (tSl (rSlL K) (tCB (rSortedI K) (tCons (tVar 0) tNil)) tNoPart (tPart (tVar 1)))))) (te := (tVar 2)) (by rfl) nd (pi_enum (by rfl) T.enumerate (pa_cons (pe_callB cr_sortedI (by rfl) T.sorted (by decide +kernel) (pa_cons (pv 0) pa_nil)) pa_nil)) (blkOk_by (N := N__law_each) (sc := defScope s__law_each) (by decide +kernel)) (fun _ _ _ _ _ => (pg_tup rfl (pgs_cons (pg_name (i := 1) nd rfl (.inl rfl)) (pgs_cons (pg_name (i := 2) nd rfl (.inl rfl)) pgs_nil)))) (fun _ _ _ _ _ => (pts_one (pt_cmpR op_notIn_seq (pv 2) (pe_slice sl_list (pe_callB cr_sortedI (by rfl) T.sorted (by decide +kernel) (pa_cons (pv 0) pa_nil)) po_none (po_some (pv 1))) (by rfl)))) (fun _ _ _ _ _ => (pv 2))))), ?_⟩
    have hls : (srt ns).length = ns.length := (srt_perm ns).length_eq
    refine st_retN gh (EvN.eq (en_lcE (fun i => !decide ((srt ns).getD i 0 ∈ (srt ns).take i)) (fun i => .int ((srt ns).getD i 0)) (ea1 (en_sortedI (ex_var rfl dv1)).toX ea0) (by rw [List.length_map]; omega) (fun _ _ => rfl) (fun i x d Gi hd g dx => ?_)) ?_) q
    · rw [List.getElem?_map] at hd
      obtain ⟨n, hn, rfl⟩ := Option.map_eq_some_iff.mp hd
      obtain rfl := dx.oi
      have en : (srt ns).getD i 0 = n := by rw [List.getD_eq_getElem?_getD, hn]; rfl
      rw [en]
      exact ⟨eb_test (ex_niI (ex_var rfl (.int n)) (EvN.toX ((en_sl (en_sortedI (ex_var rfl (dv1.up g))).toX ep0 (ep1 (ex_var rfl (.int i)))).eq (by rw [cutA_take, ← List.map_take])))), fun _ => ex_var rfl (.int n)⟩
    · rw [List.length_map, dLI_map]
      show dLI (each (srt ns)) = _
      rw [each_rise]
/-! law -/
abbrev s_law : Stmt := top 14
abbrev N_law : List Str := ["_law_script", "_law_draw", "_law_one", "_law_other", "_law_handed", "_law_first", "_law_second", "_law_due", "_law_k", "_law_turn", "_law_found", "_law_turned", "_law_row", "_law_told"]
abbrev p_law : List Str := ["_law_script"]
theorem sc_law : FnScope N_law p_law (defScope s_law) := ⟨rfl, rfl, rfl, by decide +kernel, rfl, by decide +kernel, by decide +kernel⟩
def spLaw (K : PySem.W.Frag) : Sp := fun vs H Q _ => ∃ (a : Addr) (ns : List Int), vs = [.ref a] ∧ SqL K H a (ns.map V.int) ∧ ns.length ≤ 63 ∧ ∀ H', Q (.bl true) H'
set_option maxHeartbeats 16000000 in
theorem ok_law {f : Addr} {fd : FuncData} (T : Tx mg) (F : Fun K "law" "law" s_law f fd) (C__law_begin : Cal P w K mg base "_law_begin" 1 p__law_begin (spBegin K)) (C__law_numbers : Cal P w K mg base "_law_numbers" 3 p__law_numbers spNumbers)
    (C__law_take : Cal P w K mg base "_law_take" 1 p__law_take spTake) (C__law_each : Cal P w K mg base "_law_each" 1 p__law_each (NSp R_each)) (C_rising : Cal P w K mg base "rising" 1 p_rising (NSp R_rising)) (C_common : Cal P w K mg base "common" 2 p_common (NSp R_common))
    (C_apart : Cal P w K mg base "apart" 2 p_apart (NSp R_apart)) (C_joined : Cal P w K mg base "joined" 2 p_joined (NSp R_joined)) (C_within : Cal P w K mg base "within" 3 p_within (PSp R_within)) (C__law_in : Cal P w K mg base "_law_in" 1 p__law_in (PSp R__law_in))
    (C__law_same : Cal P w K mg base "_law_same" 4 p__law_same (PSp (R_same 3))) : FnOk P w K mg base CX0 6 f fd p_law (spLaw K) := by
  have nd := sc_law.nd
  refine F.ok sc_law (fun vs H Q E h => ?_) (fun cdv A outer s H vs Q E hr h => ?_)
  · obtain ⟨a, ns, rfl, _⟩ := h
    rfl
  · obtain ⟨a, ns, rfl, hS, hlen, q⟩ := h
    refine ⟨_, (pss_cons (ps_set (i := 1) nd rfl (.inl rfl) (pe_cal C__law_begin (hr.mono (by omega)) (by rfl) (pa_cons (pv 0) pa_nil)))
    (pss_cons (ps_set (i := 2) nd rfl (.inl rfl) (pe_cal C__law_numbers (hr.mono (by omega)) (by rfl) (pa_cons (pv 1) pa_nil)))
    (pss_cons (ps_set (i := 3) nd rfl (.inl rfl) (pe_cal C__law_numbers (hr.mono (by omega)) (by rfl) (pa_cons (pv 1) pa_nil)))
    (Evl.pss_cut (ps_if (pt_cmpR op_eq (pe_cal C__law_take (hr.mono (by omega)) (by rfl) (pa_cons (pv 1) (pa_cons pe_int pa_nil))) pe_int (nomark _))
      (pss_one (ps_set (i := 3) nd rfl (.inl rfl) (pe_op op_cat (pe_revL (pv 2)) (pe_slice sl_list (pv 3) po_none (po_some pe_int)))))
      pss_nil)
    (pss_cons (ps_set (i := 4) nd rfl (.inl rfl) (pe_lst (pa_cons (pe_callTy call_list_of (by rfl) T.list (by decide +kernel) (pa_cons (pv 2) pa_nil)) (pa_cons (pe_callTy call_list_of (by rfl) T.list (by decide +kernel) (pa_cons (pv 3) pa_nil)) pa_nil))))
    (pss_cons (ps_set (i := 5) nd rfl (.inr rfl) (pe_cal C__law_each (hr.mono (by omega)) (by rfl) (pa_cons (pv 2) pa_nil)))
    (pss_cons (ps_set (i := 6) nd rfl (.inr rfl) (pe_cal C__law_each (hr.mono (by omega)) (by rfl) (pa_cons (pv 3) pa_nil)))
    (pss_cons (ps_set (i := 7) nd rfl (.inl rfl) (pe_lst (pa_cons (pv 5) (pa_cons (pe_lc (own := [("_law_k", 8)]) (g := gName 8) (tt := (tTest (tOp (rIn K false) (tVar 8) (tVar 6)))) (te := (tVar 8)) (by rfl) nd (pi_list (pv 5)) (blkOk_by (N := N_law) (sc := defScope s_law) (by decide +kernel)) (fun _ _ _ _ _ => (pg_name (i := 8) nd rfl (.inl rfl))) (fun _ _ _ _ _ => (pts_one (pt_cmpR op_in_seq (pv 8) (pv 6) (by rfl)))) (fun _ _ _ _ _ => (pv 8))) (pa_cons (pe_lc (own := [("_law_k", 8)]) (g := gName 8) (tt := (tTest (tOp (rIn K true) (tVar 8) (tVar 6)))) (te := (tVar 8)) (by rfl) nd (pi_list (pv 5)) (blkOk_by (N := N_law) (sc := defScope s_law) (by decide +kernel)) (fun _ _ _ _ _ => (pg_name (i := 8) nd rfl (.inl rfl))) (fun _ _ _ _ _ => (pts_one (pt_cmpR op_notIn_seq (pv 8) (pv 6) (by rfl)))) (fun _ _ _ _ _ => (pv 8))) (pa_cons (pe_cal C__law_each (hr.mono (by omega)) (by rfl) (pa_cons (pe_op op_cat (pv 2) (pv 3)) pa_nil)) pa_nil))))))
    (pss_cons (ps_for PassesOwn.never rfl (pi_range1 (by rfl) T.range (pa_cons pe_int pa_nil)) (pg_name (i := 9) nd rfl (.inl rfl))
      (pss_cons (ps_set (i := 10) nd rfl (.inl rfl) (pe_lst (pa_cons (pe_cal C_rising (hr.mono (by omega)) (by rfl) (pa_cons (pe_ix ix_list (pv 4) pe_int (fun _ _ => rfl)) pa_nil)) (pa_cons (pe_cal C_common (hr.mono (by omega)) (by rfl) (pa_cons (pe_ix ix_list (pv 4) pe_int (fun _ _ => rfl)) (pa_cons (pe_ix ix_list (pv 4) pe_int (fun _ _ => rfl)) pa_nil))) (pa_cons (pe_cal C_apart (hr.mono (by omega)) (by rfl) (pa_cons (pe_ix ix_list (pv 4) pe_int (fun _ _ => rfl)) (pa_cons (pe_ix ix_list (pv 4) pe_int (fun _ _ => rfl)) pa_nil))) pa_nil)))))
      (pss_cons (ps_expr (pe_bm PySem.F.plainAttrs_list PySem.F.slot_list_append PySem.F.type_list_append mt_append (pv 10) (pa_cons (pe_cal C_joined (hr.mono (by omega)) (by rfl) (pa_cons (pe_ix ix_list (pv 4) pe_int (fun _ _ => rfl)) (pa_cons (pe_ix ix_list (pv 4) pe_int (fun _ _ => rfl)) pa_nil))) pa_nil)))
      (pss_cons (ps_if (PW.pt (pw_or (pt_not (pt_val (pe_cal C__law_same (hr.mono (by omega)) (by rfl) (pa_cons (pv 10) (pa_cons (pv 7) pa_nil))))) (pw_or1 (pt_not (pt_val (pe_cal C__law_same (hr.mono (by omega)) (by rfl) (pa_cons (pe_cal C_rising (hr.mono (by omega)) (by rfl) (pa_cons (pe_ix ix_list (pv 4) pe_int (fun _ _ => rfl)) pa_nil)) (pa_cons (pv 6) pa_nil))))))))
        (pss_one (ps_ret pe_bl))
        pss_nil)
      (pss_cons (ps_set (i := 11) nd rfl (.inl rfl) (pe_lst (pa_cons (pe_ix ix_list (pv 7) pe_int (fun _ _ => rfl)) (pa_cons (pe_lc (own := [("_law_k", 8)]) (g := gName 8) (tt := (tTest (tOp (rIn K true) (tVar 8) (tVar 5)))) (te := (tVar 8)) (by rfl) nd (pi_list (pv 6)) (blkOk_by (N := N_law) (sc := defScope s_law) (by decide +kernel)) (fun _ _ _ _ _ => (pg_name (i := 8) nd rfl (.inl rfl))) (fun _ _ _ _ _ => (pts_one (pt_cmpR op_notIn_seq (pv 8) (pv 5) (by rfl)))) (fun _ _ _ _ _ => (pv 8))) pa_nil))))
      (pss_cons (ps_if (pt_not (pt_val (pe_cal C__law_same (hr.mono (by omega)) (by rfl) (pa_cons (pe_lst (pa_cons (pe_cal C_common (hr.mono (by omega)) (by rfl) (pa_cons (pe_ix ix_list (pv 4) pe_int (fun _ _ => rfl)) (pa_cons (pe_ix ix_list (pv 4) pe_int (fun _ _ => rfl)) pa_nil))) (pa_cons (pe_cal C_apart (hr.mono (by omega)) (by rfl) (pa_cons (pe_ix ix_list (pv 4) pe_int (fun _ _ => rfl)) (pa_cons (pe_ix ix_list (pv 4) pe_int (fun _ _ => rfl)) pa_nil))) pa_nil))) (pa_cons (pv 11) pa_nil)))))
        (pss_one (ps_ret pe_bl))
        pss_nil)
      (pss_one (ps_for PassesOwn.never rfl (pi_list (pv 10)) (pg_name (i := 12) nd rfl (.inl rfl))
        (pss_one (ps_expr (pe_bm PySem.F.plainAttrs_list PySem.F.slot_list_append PySem.F.type_list_append mt_append (pv 12) (pa_cons pe_int pa_nil))))))))))))
    (pss_cons (ps_set (i := 13) nd rfl (.inl rfl) (pe_lst (pa_cons (pe_cal C_within (hr.mono (by omega)) (by rfl) (pa_cons (pe_ix ix_list (pv 4) pe_int (fun _ _ => rfl)) (pa_cons (pe_ix ix_list (pv 4) pe_int (fun _ _ => rfl)) pa_nil))) (pa_cons (pe_cal C_within (hr.mono (by omega)) (by rfl) (pa_cons (pe_ix ix_list (pv 4) pe_int (fun _ _ => rfl)) (pa_cons (pe_ix ix_list (pv 4) pe_int (fun _ _ => rfl)) pa_nil))) (pa_cons (pe_cal C_within (hr.mono (by omega)) (by rfl) (pa_cons (pe_ix ix_list (pv 4) pe_int (fun _ _ => rfl)) (pa_cons (pe_ix ix_list (pv 4) pe_int (fun _ _ => rfl)) pa_nil))) pa_nil)))))
    (pss_one (ps_ret (pe_and (pe_cal C__law_same (hr.mono (by omega)) (by rfl) (pa_cons (pv 13) (pa_cons (pe_lst (pa_cons (pe_cal C__law_in (hr.mono (by omega)) (by rfl) (pa_cons (pv 2) (pa_cons (pv 3) pa_nil))) (pa_cons (pe_cal C__law_in (hr.mono (by omega)) (by rfl) (pa_cons (pv 3) (pa_cons (pv 2) pa_nil))) (pa_cons pe_bl pa_nil)))) pa_nil))) (pe_one (pe_cmpR (op_eqD hr.units) (pv 4) (pe_lst (pa_cons (pv 2) (pa_cons (pv 3) pa_nil))) (nomark _)))))))))))))))), ?_⟩
    refine ⟨_, rfl, a, ns, rfl, hS, hlen, fun d G H1 hd0 e1 gh _ r => ?_⟩
    refine sm_asg gh r (em_callN rfl ema0 fun _ h => h).toM fun x2 d2 G2 H2 m2 r2 dx2 p2 => ?_
    obtain ⟨_, rfl, _, _, n1, rfl, hn1⟩ := p2
    refine sm_asg m2.gh r2 (em_callN rfl ema0 fun _ h => h).toM fun x3 d3 G3 H3 m3 r3 dx3 p3 => ?_
    obtain ⟨_, rfl, _, _, n2, rfl, hn2⟩ := p3
    have dx2 := dx2.up m3.gg
    refine ⟨fun σ' H' => ∃ (x3 : V) (n2 : List Int) (G' : Hp), σ' = [some (.ref a), some (.ref d), some x2, some x3, none, none, none, none, none, none, none, none, none, none] ∧ Ex G' H' ∧ Dt G' x2 (dLI n1) ∧ Dt G' x3 (dLI n2) ∧ n2.length ≤ 17, ?_, ?_⟩
    · refine sm_if1 m3.gh r3 (emb_eqI ((em_take rfl ex_int (by decide) (by decide)).imp fun e ⟨k, hk, _⟩ => ⟨k, hk⟩) ex_int) (fun G4 H4 m4 r4 => ?_) (fun G4 H4 m4 r4 => ?_)
      · refine EvN.toX (en_cat (en_rev (ex_var rfl (dx2.up m4.gg))).toX (en_sl (ex_var rfl (dx3.up m4.gg)) ep0 (ep1 ex_int)).toX (by rw [List.length_reverse, List.length_map]; have := cutA_len (n2.map PyData.int) none (some 2); rw [List.length_map] at this; omega)) H4 m4.gh _ fun x H5 e5 dx => ?_
        refine ⟨x, n1.reverse ++ n2.take 2, _, rfl, grow_out m4.gh e5, (dx2.up m4.gg).up (grow_in m4.gh), ?_, ?_⟩
        · rw [show (some (2 : Int)) = some ((2 : Nat) : Int) from rfl, cutA_take, ← List.map_reverse, ← List.map_take, ← List.map_append] at dx
          exact dx
        · rw [List.length_append, List.length_reverse, List.length_take]
          omega
      · exact ⟨x3, n2, G4, rfl, m4.gh, dx2.up m4.gg, dx3.up m4.gg, by omega⟩
    clear dx3 hn2 r3 m3
    rintro σ' H4 ⟨x3, n2, G4, rfl, gh4, dx2, dx3, hn2⟩
    -- handed, first, second, due
    refine st_asg gh4 (en_lst (ea1 (en_list (ex_var rfl dx2)).toX (ea1 (en_list (ex_var rfl dx3)).toX ea0))).toX fun x4 G5 H5 go5 dx4 => ?_
    have dx2 := dx2.up go5.gg
    have dx3 := dx3.up go5.gg
    refine st_asg go5.gh (en_call (ea1 (ex_var rfl dx2) ea0) ⟨n1, rfl, by omega, rfl⟩).toX fun x5 G6 H6 go6 dx5 => ?_
    have dx2 := dx2.up go6.gg
    have dx3 := dx3.up go6.gg
    have dx4 := dx4.up go6.gg
    refine st_asg go6.gh (en_call (ea1 (ex_var rfl dx3) ea0) ⟨n2, rfl, by omega, rfl⟩).toX fun x6 G7 H7 go7 dx6 => ?_
    have dx2 := dx2.up go7.gg
    have dx3 := dx3.up go7.gg
    have dx4 := dx4.up go7.gg
    have dx5 := dx5.up go7.gg
    have l1 := len_rise n1
    have l2 := len_rise n2
    refine st_asg go7.gh (d := .list [dLI (rise n1), dLI ((rise n1).filter fun k => decide (k ∈ n2)), dLI ((rise n1).filter fun k => !decide (k ∈ n2)), dLI (rise (n1 ++ n2))]) (en_lst (ea1 (ex_var rfl dx5) (ea1 ((en_lcI (fun k => decide (k ∈ rise n2)) (fun k => .int k) (ex_var rfl dx5) (by omega) (fun _ => rfl) (fun n Gi _ g => ⟨eb_test (ex_inI (ex_var rfl (.int n)) (ex_var rfl (dx6.up g))), fun _ => ex_var rfl (.int n)⟩)).eq (by rw [rise_filt])).toX
      (ea1 ((en_lcI (fun k => !decide (k ∈ rise n2)) (fun k => .int k) (ex_var rfl dx5) (by omega) (fun _ => rfl) (fun n Gi _ g => ⟨eb_test (ex_niI (ex_var rfl (.int n)) (ex_var rfl (dx6.up g))), fun _ => ex_var rfl (.int n)⟩)).eq (by rw [rise_filtN])).toX
      (ea1 (en_call (ea1 (EvN.toX ((en_cat (ex_var rfl dx2) (ex_var rfl dx3) (by rw [List.length_map, List.length_map]; omega)).eq (by rw [← List.map_append]))) ea0) ⟨n1 ++ n2, rfl, by rw [List.length_append]; omega, rfl⟩).toX ea0))))).toX fun x7 G8 H8 go8 dx7 => ?_
    have dx2 := dx2.up go8.gg
    have dx3 := dx3.up go8.gg
    have dx4 := dx4.up go8.gg
    have dx5 := dx5.up go8.gg
    have dx6 := dx6.up go8.gg
    have gh8 := go8.gh
    clear go5 go6 go7 go8 gh4 gh
    -- two turns
    refine q_forR1 (n := 2) (ea_cons ev_c ea_nil) ⟨by decide, by decide⟩ (fun i σ' H' => ∃ y8 y9 y10 y11 y12, σ' = [some (.ref a), some (.ref d), some x2, some x3, some x4, some x5, some x6, some x7, y8, y9, y10, y11, y12, none] ∧ Ex G8 H') (fun H9 e9 => ⟨_, _, _, _, _, rfl, gh8.trans e9⟩) ?_ ?_
    · rintro i σ' H9 hi ⟨y8, y9, y10, y11, y12, rfl, gh9⟩
      -- found
      have h0 : L2.atI [dLI n1, dLI n2] 0 = some (dLI n1) := rfl
      have h1 : L2.atI [dLI n1, dLI n2] 1 = some (dLI n2) := rfl
      refine st_asgNs gh9 (ens1 (en_call (ea1 (ex_ixL (ex_var rfl dx4) ex_int h0) ea0) ⟨n1, rfl, by omega, rfl⟩) fun Ga ga => ens1 (en_call (ea1 (ex_ixL (ex_var rfl (dx4.up ga)) ex_int h0) (ea1 (ex_ixL (ex_var rfl (dx4.up ga)) ex_int h1) ea0)) ⟨n1, n2, rfl, by omega, by omega, rfl⟩)
        fun Gb gb => ens1 (en_call (ea1 (ex_ixL (ex_var rfl ((dx4.up ga).up gb)) ex_int h0) (ea1 (ex_ixL (ex_var rfl ((dx4.up ga).up gb)) ex_int h1) ea0)) ⟨n1, n2, rfl, by omega, by omega, rfl⟩) fun _ _ => ens0) (by show 3 ≤ 100000; decide) fun pf ps Ha ea hpf hnin hps hfa dps => ?_
      have gha := gh9.trans ea
      -- found.append(joined(..))
      refine ⟨_, rfl, .inl ⟨rfl, _, sq_of hfa⟩, en_call (G := G8) (ea1 (ex_ixL (ex_var rfl dx4) ex_int h0) (ea1 (ex_ixL (ex_var rfl dx4) ex_int h1) ea0)) ⟨n1, n2, rfl, by omega, rfl⟩ Ha gha _ fun p4 Hb eb hp4 dp4 => ⟨pf, _, _, rfl, rfl, eb _ _ hfa, sz_lt (by rw [dps.len]; show 3 < 100000; decide), ?_⟩⟩
      have n4 : p4 ≠ pf := fun z => by
        subst z
        rw [hfa] at hp4
        cases hp4
      have hp4b := grow_out gha eb
      have gf : G8 pf = none := fresh_back gh9 hpf
      have g4 : G8 p4 = none := fresh_back gha hp4
      have ghc : Ex G8 (upd Hb pf (.lst (ps.map V.ref ++ [.ref p4]))) := (gha.trans eb).mut gf
      -- the four rows as they stand
      have dfound : Dt (upd Hb pf (.lst (ps.map V.ref ++ [.ref p4]))) (.ref pf) (.list [dLI (rise n1), dLI ((rise n1).filter fun k => decide (k ∈ n2)), dLI ((rise n1).filter fun k => !decide (k ∈ n2)), dLI (rise (n1 ++ n2))]) := by
        refine .lst upd_same (DtAll.snoc (ds := [dLI (rise n1), dLI ((rise n1).filter fun k => decide (k ∈ n2)), dLI ((rise n1).filter fun k => !decide (k ∈ n2))]) ?_ ?_)
        · obtain ⟨v1, v2, v3, ev, d1, d2, d3⟩ := (dps.up eb).three
          have hm : ∀ v, v ∈ ps.map V.ref → ∀ p, v = .ref p → p ≠ pf := fun v hv p hp z => by
            obtain ⟨p', hp', rfl⟩ := List.mem_map.mp hv
            cases hp
            exact hnin (z ▸ hp')
          have one : ∀ v l, v ∈ ps.map V.ref → Dt Hb v (dLI l) → Dt (upd Hb pf (.lst (ps.map V.ref ++ [.ref p4]))) v (dLI l) := fun v l hv hd => by
            obtain ⟨p, rfl, hp⟩ := hd.oli
            exact Dt.li (by rw [upd_ne (hm _ hv p rfl)]; exact hp)
          have o1 := one v1 _ (by rw [ev]; simp) d1
          have o2 := one v2 _ (by rw [ev]; simp) d2
          have o3 := one v3 _ (by rw [ev]; simp) d3
          generalize upd Hb pf (.lst (ps.map V.ref ++ [.ref p4])) = Hx at o1 o2 o3 ⊢
          rw [ev]
          exact .cons o1 (.cons o2 (.cons o3 .nil))
        · obtain ⟨p, ep, hp⟩ := (dp4.up hp4b).oli
          cases ep
          exact Dt.li (by rw [upd_ne n4]; exact hp)
      have hrows : ∀ p, p ∈ ps ++ [p4] → G8 p = none ∧ p ≠ pf ∧ ∃ xs, (upd Hb pf (.lst (ps.map V.ref ++ [.ref p4]))) p = some (.lst xs) ∧ xs.length ≤ 60 := by
        intro p hp
        have key : ∀ p l, p ≠ pf → Dt (upd Hb pf (.lst (ps.map V.ref ++ [.ref p4]))) (.ref p) (dLI l) → l.length ≤ 60 → ∃ xs, (upd Hb pf (.lst (ps.map V.ref ++ [.ref p4]))) p = some (.lst xs) ∧ xs.length ≤ 60 := fun p l _ h hl => by
          obtain ⟨p', e', h'⟩ := h.oli
          cases e'
          exact ⟨_, h', by rw [List.length_map]; exact hl⟩
        have hf1 := List.length_filter_le (fun k => decide (k ∈ n2)) (rise n1)
        have hf2 := List.length_filter_le (fun k => !decide (k ∈ n2)) (rise n1)
        have hj := len_rise (n1 ++ n2)
        rw [List.length_append] at hj
        cases dfound with
        | lst hh hr =>
          rw [upd_same] at hh
          cases hh
          have hr' : DtAll (upd Hb pf (.lst (ps.map V.ref ++ [.ref p4]))) ((ps ++ [p4]).map V.ref) [dLI (rise n1), dLI ((rise n1).filter fun k => decide (k ∈ n2)), dLI ((rise n1).filter fun k => !decide (k ∈ n2)), dLI (rise (n1 ++ n2))] := by
            rw [List.map_append]
            exact hr
          obtain ⟨j, hj'⟩ := List.getElem?_of_mem hp
          obtain ⟨dd, hdd, hdt⟩ := hr'.at' (i := j) (v := .ref p) (by rw [List.getElem?_map, hj']; rfl)
          have hpp : p ≠ pf := by
            rcases List.mem_append.mp hp with z | z
            · exact fun e => hnin (e ▸ z)
            · rw [List.mem_singleton.mp z]
              exact n4
          refine ⟨?_, hpp, ?_⟩
          · rcases List.mem_append.mp hp with z | z
            · exact fresh_back gh9 (hps p z)
            · rw [List.mem_singleton.mp z]
              exact g4
          · have hmem := List.mem_of_getElem? hdd
            simp only [List.mem_cons, List.not_mem_nil, or_false] at hmem
            rcases hmem with rfl | rfl | rfl | rfl
            · exact key p _ hpp hdt (by omega)
            · exact key p _ hpp hdt (by omega)
            · exact key p _ hpp hdt (by omega)
            · exact key p _ hpp hdt (by omega)
      generalize hHc : upd Hb pf (.lst (ps.map V.ref ++ [.ref p4])) = Hc at *
      have hfc : Hc pf = some (.lst ((ps ++ [p4]).map V.ref)) := by rw [← hHc, upd_same, List.map_append]; rfl
      have sm1 : ∀ l : List Int, l.length ≤ 50000 → Sm 1 (dLI l) := fun l hl => ⟨by rw [List.length_map]; exact hl, fun d hd => by obtain ⟨_, _, rfl⟩ := List.mem_map.mp hd; exact True.intro⟩
      have hf1 := List.length_filter_le (fun k => decide (k ∈ n2)) (rise n1)
      have hf2 := List.length_filter_le (fun k => !decide (k ∈ n2)) (rise n1)
      have hf3 := List.length_filter_le (fun k => decide (k ∈ n1)) (rise n2)
      have hf4 := List.length_filter_le (fun k => !decide (k ∈ n1)) (rise n2)
      have hj := len_rise (n1 ++ n2)
      rw [List.length_append] at hj
      -- both are the same
      refine st_if (G := Hc) (Ex.refl Hc) (EvB.eq (b := false) (eb_or (eb_not (eb_B (ex_call (ea1 (ex_var rfl dfound) (ea1 (ex_var rfl (dx7.up ghc)) ea0)) ⟨_, rfl, ⟨by show 4 ≤ 50000; decide, fun x hx => by
        simp only [List.mem_cons, List.not_mem_nil, or_false] at hx
        rcases hx with rfl | rfl | rfl | rfl
        all_goals exact sm1 _ (by omega)⟩, rfl⟩))) fun _ => eb_not (eb_B (ex_call (ea1 (en_call (ea1 (ex_ixL (ex_var rfl (dx4.up ghc)) ex_int h1) ea0) ⟨n2, rfl, by omega, rfl⟩).toX (ea1 (ex_var rfl (dx6.up ghc)) ea0)) ⟨_, rfl, ⟨by rw [List.length_map]; omega, fun d hd => by obtain ⟨_, _, rfl⟩ := List.mem_map.mp hd; exact True.intro⟩, rfl⟩))) (by decide)) (fun z => nomatch z) fun _ Hd god => ?_
      have ghd := ghc.trans god.hh
      refine st_asg ghd (d := .list [dLI ((rise n2).filter fun k => decide (k ∈ n1)), dLI ((rise n2).filter fun k => !decide (k ∈ n1))]) (en_lst (ea1 (ex_ixL (ex_var rfl dx7) ex_int (d := dLI ((rise n2).filter fun k => decide (k ∈ n1))) (by rw [← rise_both]; rfl)) (ea1 ((en_lcI (fun k => !decide (k ∈ rise n1)) (fun k => .int k) (ex_var rfl dx6) (by omega) (fun _ => rfl) (fun n Gi _ g => ⟨eb_test (ex_niI (ex_var rfl (.int n)) (ex_var rfl (dx5.up g))), fun _ => ex_var rfl (.int n)⟩)).eq (by rw [rise_filtN])).toX ea0))).toX fun x11 Ge He goe dx11 => ?_
      refine st_if goe.gh (EvB.eq (b := false) (eb_not (eb_B (ex_call (ea1 (en_lst (ea1 (en_call (ea1 (ex_ixL (ex_var rfl (dx4.up goe.gg)) ex_int h1) (ea1 (ex_ixL (ex_var rfl (dx4.up goe.gg)) ex_int h0) ea0)) ⟨n2, n1, rfl, by omega, by omega, rfl⟩).toX (ea1 (en_call (ea1 (ex_ixL (ex_var rfl (dx4.up goe.gg)) ex_int h1) (ea1 (ex_ixL (ex_var rfl (dx4.up goe.gg)) ex_int h0) ea0)) ⟨n2, n1, rfl, by omega, by omega, rfl⟩).toX ea0))).toX (ea1 (ex_var rfl dx11) ea0)) ⟨_, rfl, ⟨by show 2 ≤ 50000; decide, fun x hx => by
        simp only [List.mem_cons, List.not_mem_nil, or_false] at hx
        rcases hx with rfl | rfl
        all_goals exact sm1 _ (by omega)⟩, rfl⟩))) (by decide)) (fun z => nomatch z) fun _ Hf gof => ?_
      -- the told rows are spoilt
      have ehf := (god.hh.trans goe.hh).trans gof.hh
      refine s_forLn (a := pf) (xs := (ps ++ [p4]).map V.ref) (ev_var rfl) (sq_of (ehf _ _ hfc)) (fun j σ' H' => ∃ y12, σ' = [some (.ref a), some (.ref d), some x2, some x3, some x4, some x5, some x6, some x7, y8, some (.int (i : Nat)), some (.ref pf), some x11, y12, none] ∧ Ex G8 H' ∧ H' pf = some (.lst ((ps ++ [p4]).map V.ref)) ∧ ∀ p, p ∈ ps ++ [p4] → ∃ xs, H' p = some (.lst xs) ∧ xs.length ≤ 60 + j) ?_ ?_ ?_ ?_
      · intro Hg eg
        exact ⟨_, rfl, (ghd.trans (goe.hh.trans gof.hh)).trans eg, eg _ _ (ehf _ _ hfc), fun p hp => by
          obtain ⟨_, _, xs, hx, hl⟩ := hrows p hp
          exact ⟨xs, eg _ _ (ehf _ _ hx), by omega⟩⟩
      · rintro j σ' H' _ ⟨_, _, _, h, _⟩
        exact sq_of h
      · rintro j x σ' H' hx ⟨y12, rfl, g', h', hr'⟩
        rw [List.getElem?_map] at hx
        obtain ⟨p, hp, rfl⟩ := Option.map_eq_some_iff.mp hx
        have hpm := List.mem_of_getElem? hp
        have hj : j < (ps ++ [p4]).length := (List.getElem?_eq_some_iff.mp hp).1
        obtain ⟨xs, hxs, hl⟩ := hr' p hpm
        obtain ⟨gp, npf, _⟩ := hrows p hpm
        have hps3 : ps.length = 3 := by have := dps.len; rw [List.length_map] at this; exact this
        rw [List.length_append, List.length_singleton] at hj
        refine ⟨_, rfl, .inl ⟨rfl, _, sq_of hxs⟩, p, xs, _, rfl, rfl, hxs, sz_lt (by omega), _, rfl, g'.mut gp, by rw [upd_ne npf.symm]; exact h', fun p' hp' => ?_⟩
        by_cases z : p' = p
        · subst z
          exact ⟨_, upd_same, by rw [List.length_append]; show xs.length + 1 ≤ _; omega⟩
        · obtain ⟨xs', hx', hl'⟩ := hr' p' hp'
          exact ⟨xs', by rw [upd_ne z]; exact hx', by omega⟩
      · rintro σ' H' ⟨y12, rfl, g', h', hr'⟩
        exact ⟨_, _, _, _, _, rfl, g'⟩
    · rintro σ' H9 ⟨y8, y9, y10, y11, y12, rfl, gh9⟩
      have h0 : L2.atI [dLI n1, dLI n2] 0 = some (dLI n1) := rfl
      have h1 : L2.atI [dLI n1, dLI n2] 1 = some (dLI n2) := rfl
      refine st_asg gh9 (en_lst (ea1 (ex_call (ea1 (ex_ixL (ex_var rfl dx4) ex_int h0) (ea1 (ex_ixL (ex_var rfl dx4) ex_int h1) ea0)) ⟨n1, n2, rfl, by omega, by omega, rfl⟩) (ea1 (ex_call (ea1 (ex_ixL (ex_var rfl dx4) ex_int h1) (ea1 (ex_ixL (ex_var rfl dx4) ex_int h0) ea0)) ⟨n2, n1, rfl, by omega, by omega, rfl⟩) (ea1 (ex_call (ea1 (ex_ixL (ex_var rfl dx4) ex_int h0) (ea1 (ex_ixL (ex_var rfl dx4) ex_int h0) ea0)) ⟨n1, n1, rfl, by omega, by omega, rfl⟩) ea0)))).toX fun x13 Ga Ha goa dx13 => ?_
      have sh2 : Sh 2 (.list [dLI n1, dLI n2]) := fun x hx => by
        simp only [List.mem_cons, List.not_mem_nil, or_false] at hx
        rcases hx with rfl | rfl
        all_goals exact Sh.li _
      have e11 : (n1.all fun k => decide (k ∈ n1)) = true := by rw [List.all_eq_true]; intro k hk; simpa using hk
      rw [e11] at dx13
      refine st_ret goa.gh (EvX.eq (e := .bool true) (ex_and (ex_call (ea1 (ex_var rfl dx13) (ea1 (en_lst (ea1 (ex_call (ea1 (ex_var rfl (dx2.up goa.gg)) (ea1 (ex_var rfl (dx3.up goa.gg)) ea0)) ⟨n1, n2, rfl, by omega, by omega, rfl⟩) (ea1 (ex_call (ea1 (ex_var rfl (dx3.up goa.gg)) (ea1 (ex_var rfl (dx2.up goa.gg)) ea0)) ⟨n2, n1, rfl, by omega, by omega, rfl⟩) (ea1 ex_bl ea0)))).toX ea0)) ⟨_, rfl, ⟨by show 3 ≤ 50000; decide, fun x hx => by
        simp only [List.mem_cons, List.not_mem_nil, or_false] at hx
        rcases hx with rfl | rfl | rfl
        all_goals exact True.intro⟩, rfl⟩) fun _ => ex_eqD (ex_var rfl (dx4.up goa.gg)) (en_lst (ea1 (ex_var rfl (dx2.up goa.gg)) (ea1 (ex_var rfl (dx3.up goa.gg)) ea0))).toX (sh2.ok (by decide)) (sh2.ok (by decide))) (by rw [sh2.eqv]; rfl)) fun x Hz ez dz => ?_
      obtain rfl := dz.ob
      exact q Hz
end
theorem all_mk {l : PySem.W.OpenLaw} {w : World} {K : PySem.W.Frag} {h : Heap} {mg : Str → Option Value} {fa : Addr} (X : K.In h) (G : h.Ns mainGlobals mg) (hfa : mg "law" = some (.ref fa))
    {od0 an0 : Option Addr} {sl0 : Array (Option Value)} {oc0 kV0 dc0 pm0 cd0 ct0 : Value} {f0 : Addr} {od1 an1 : Option Addr} {sl1 : Array (Option Value)} {oc1 kV1 dc1 pm1 cd1 ct1 : Value} {f1 : Addr} {od2 an2 : Option Addr} {sl2 : Array (Option Value)} {oc2 kV2 dc2 pm2 cd2 ct2 : Value} {f2 : Addr} {od3 an3 : Option Addr} {sl3 : Array (Option Value)} {oc3 kV3 dc3 pm3 cd3 ct3 : Value} {f3 : Addr} {od4 an4 : Option Addr} {sl4 : Array (Option Value)} {oc4 kV4 dc4 pm4 cd4 ct4 : Value} {f4 : Addr} {od5 an5 : Option Addr} {sl5 : Array (Option Value)} {oc5 kV5 dc5 pm5 cd5 ct5 : Value} {f5 : Addr} {od6 an6 : Option Addr} {sl6 : Array (Option Value)} {oc6 kV6 dc6 pm6 cd6 ct6 : Value} {f6 : Addr} {od7 an7 : Option Addr} {sl7 : Array (Option Value)} {oc7 kV7 dc7 pm7 cd7 ct7 : Value} {f7 : Addr} {od8 an8 : Option Addr} {sl8 : Array (Option Value)} {oc8 kV8 dc8 pm8 cd8 ct8 : Value} {f8 : Addr} {od9 an9 : Option Addr} {sl9 : Array (Option Value)} {oc9 kV9 dc9 pm9 cd9 ct9 : Value} {f9 : Addr} {od10 an10 : Option Addr} {sl10 : Array (Option Value)} {oc10 kV10 dc10 pm10 cd10 ct10 : Value} {f10 : Addr} {od11 an11 : Option Addr} {sl11 : Array (Option Value)} {oc11 kV11 dc11 pm11 cd11 ct11 : Value} {f11 : Addr} {od12 an12 : Option Addr} {sl12 : Array (Option Value)} {oc12 kV12 dc12 pm12 cd12 ct12 : Value} {f12 : Addr}
    (a0 : PySem.W.nsIn K mainGlobals "rising" = some (some (.ref f0)))
    (l0 : K.lookup f0 = some ⟨oc0, od0, .func (PySem.W.fnOf "rising" "rising" (defArgs s_rising) (defBody s_rising) (defScope s_rising) .none kV0 dc0 pm0 an0 cd0 ct0), sl0⟩)
    (c0 : PySem.W.codeIn K cd0 "rising" = true)
    (k0 : PySem.W.keepIn K (.ref f0) = true)
    (a1 : PySem.W.nsIn K mainGlobals "common" = some (some (.ref f1)))
    (l1 : K.lookup f1 = some ⟨oc1, od1, .func (PySem.W.fnOf "common" "common" (defArgs s_common) (defBody s_common) (defScope s_common) .none kV1 dc1 pm1 an1 cd1 ct1), sl1⟩)
    (c1 : PySem.W.codeIn K cd1 "common" = true)
    (k1 : PySem.W.keepIn K (.ref f1) = true)
    (a2 : PySem.W.nsIn K mainGlobals "apart" = some (some (.ref f2)))
    (l2 : K.lookup f2 = some ⟨oc2, od2, .func (PySem.W.fnOf "apart" "apart" (defArgs s_apart) (defBody s_apart) (defScope s_apart) .none kV2 dc2 pm2 an2 cd2 ct2), sl2⟩)
    (c2 : PySem.W.codeIn K cd2 "apart" = true)
    (k2 : PySem.W.keepIn K (.ref f2) = true)
    (a3 : PySem.W.nsIn K mainGlobals "joined" = some (some (.ref f3)))
    (l3 : K.lookup f3 = some ⟨oc3, od3, .func (PySem.W.fnOf "joined" "joined" (defArgs s_joined) (defBody s_joined) (defScope s_joined) .none kV3 dc3 pm3 an3 cd3 ct3), sl3⟩)
    (c3 : PySem.W.codeIn K cd3 "joined" = true)
    (k3 : PySem.W.keepIn K (.ref f3) = true)
    (a4 : PySem.W.nsIn K mainGlobals "within" = some (some (.ref f4)))
    (l4 : K.lookup f4 = some ⟨oc4, od4, .func (PySem.W.fnOf "within" "within" (defArgs s_within) (defBody s_within) (defScope s_within) .none kV4 dc4 pm4 an4 cd4 ct4), sl4⟩)
    (c4 : PySem.W.codeIn K cd4 "within" = true)
    (k4 : PySem.W.keepIn K (.ref f4) = true)
    (a5 : PySem.W.nsIn K mainGlobals "_law_begin" = some (some (.ref f5)))
    (l5 : K.lookup f5 = some ⟨oc5, od5, .func (PySem.W.fnOf "_law_begin" "_law_begin" (defArgs s__law_begin) (defBody s__law_begin) (defScope s__law_begin) .none kV5 dc5 pm5 an5 cd5 ct5), sl5⟩)
    (c5 : PySem.W.codeIn K cd5 "_law_begin" = true)
    (k5 : PySem.W.keepIn K (.ref f5) = true)
    (a6 : PySem.W.nsIn K mainGlobals "_law_take" = some (some (.ref f6)))
    (l6 : K.lookup f6 = some ⟨oc6, od6, .func (PySem.W.fnOf "_law_take" "_law_take" (defArgs s__law_take) (defBody s__law_take) (defScope s__law_take) .none kV6 dc6 pm6 an6 cd6 ct6), sl6⟩)
    (c6 : PySem.W.codeIn K cd6 "_law_take" = true)
    (k6 : PySem.W.keepIn K (.ref f6) = true)
    (a7 : PySem.W.nsIn K mainGlobals "_law_same" = some (some (.ref f7)))
    (l7 : K.lookup f7 = some ⟨oc7, od7, .func (PySem.W.fnOf "_law_same" "_law_same" (defArgs s__law_same) (defBody s__law_same) (defScope s__law_same) .none kV7 dc7 pm7 an7 cd7 ct7), sl7⟩)
    (c7 : PySem.W.codeIn K cd7 "_law_same" = true)
    (k7 : PySem.W.keepIn K (.ref f7) = true)
    (a8 : PySem.W.nsIn K mainGlobals "_law_odd" = some (some (.ref f8)))
    (l8 : K.lookup f8 = some ⟨oc8, od8, .func (PySem.W.fnOf "_law_odd" "_law_odd" (defArgs s__law_odd) (defBody s__law_odd) (defScope s__law_odd) .none kV8 dc8 pm8 an8 cd8 ct8), sl8⟩)
    (c8 : PySem.W.codeIn K cd8 "_law_odd" = true)
    (k8 : PySem.W.keepIn K (.ref f8) = true)
    (a9 : PySem.W.nsIn K mainGlobals "_law_in" = some (some (.ref f9)))
    (l9 : K.lookup f9 = some ⟨oc9, od9, .func (PySem.W.fnOf "_law_in" "_law_in" (defArgs s__law_in) (defBody s__law_in) (defScope s__law_in) .none kV9 dc9 pm9 an9 cd9 ct9), sl9⟩)
    (c9 : PySem.W.codeIn K cd9 "_law_in" = true)
    (k9 : PySem.W.keepIn K (.ref f9) = true)
    (a10 : PySem.W.nsIn K mainGlobals "_law_numbers" = some (some (.ref f10)))
    (l10 : K.lookup f10 = some ⟨oc10, od10, .func (PySem.W.fnOf "_law_numbers" "_law_numbers" (defArgs s__law_numbers) (defBody s__law_numbers) (defScope s__law_numbers) .none kV10 dc10 pm10 an10 cd10 ct10), sl10⟩)
    (c10 : PySem.W.codeIn K cd10 "_law_numbers" = true)
    (k10 : PySem.W.keepIn K (.ref f10) = true)
    (a11 : PySem.W.nsIn K mainGlobals "_law_each" = some (some (.ref f11)))
    (l11 : K.lookup f11 = some ⟨oc11, od11, .func (PySem.W.fnOf "_law_each" "_law_each" (defArgs s__law_each) (defBody s__law_each) (defScope s__law_each) .none kV11 dc11 pm11 an11 cd11 ct11), sl11⟩)
    (c11 : PySem.W.codeIn K cd11 "_law_each" = true)
    (k11 : PySem.W.keepIn K (.ref f11) = true)
    (a12 : PySem.W.nsIn K mainGlobals "law" = some (some (.ref f12)))
    (l12 : K.lookup f12 = some ⟨oc12, od12, .func (PySem.W.fnOf "law" "law" (defArgs s_law) (defBody s_law) (defScope s_law) .none kV12 dc12 pm12 an12 cd12 ct12), sl12⟩)
    (c12 : PySem.W.codeIn K cd12 "law" = true)
    (k12 : PySem.W.keepIn K (.ref f12) = true)
    (z_len : PySem.W.nsIn K mainGlobals "len" = some none)
    (z_sorted : PySem.W.nsIn K mainGlobals "sorted" = some none)
    (z_set : PySem.W.nsIn K mainGlobals "set" = some none)
    (z_dict : PySem.W.nsIn K mainGlobals "dict" = some none)
    (z_list : PySem.W.nsIn K mainGlobals "list" = some none)
    (z_tuple : PySem.W.nsIn K mainGlobals "tuple" = some none)
    (z_range : PySem.W.nsIn K mainGlobals "range" = some none)
    (z_enumerate : PySem.W.nsIn K mainGlobals "enumerate" = some none)
    (z_zip : PySem.W.nsIn K mainGlobals "zip" = some none)
    (z_isinstance : PySem.W.nsIn K mainGlobals "isinstance" = some none)
    (z_all : PySem.W.nsIn K mainGlobals "all" = some none)
    (z_any : PySem.W.nsIn K mainGlobals "any" = some none)
    (z_abs : PySem.W.nsIn K mainGlobals "abs" = some none)
    (z_min : PySem.W.nsIn K mainGlobals "min" = some none)
    (z_max : PySem.W.nsIn K mainGlobals "max" = some none)
    (z_sum : PySem.W.nsIn K mainGlobals "sum" = some none)
    (z_int : PySem.W.nsIn K mainGlobals "int" = some none)
    (z_bool : PySem.W.nsIn K mainGlobals "bool" = some none)
    (z_str : PySem.W.nsIn K mainGlobals "str" = some none) :
    ∃ fd : FuncData, (∀ (s : Shared) (v : Value), BindsTo s fd ⟨[v], []⟩ [("_law_script", v)]) ∧ ∀ base : Heap, K.In base → base.Ns mainGlobals mg → FnOk l.prog w K mg base CX0 6 fa fd ["_law_script"] (spLaw K) := by
  have e := hfa.symm.trans (PySem.W.mg_of X G a12)
  cases e
  have T : Tx mg := ⟨PySem.W.mg_none_of X G z_len, PySem.W.mg_none_of X G z_sorted, PySem.W.mg_none_of X G z_set, PySem.W.mg_none_of X G z_dict, PySem.W.mg_none_of X G z_list, PySem.W.mg_none_of X G z_tuple, PySem.W.mg_none_of X G z_range, PySem.W.mg_none_of X G z_enumerate, PySem.W.mg_none_of X G z_zip, PySem.W.mg_none_of X G z_isinstance, PySem.W.mg_none_of X G z_all, PySem.W.mg_none_of X G z_any, PySem.W.mg_none_of X G z_abs, PySem.W.mg_none_of X G z_min, PySem.W.mg_none_of X G z_max, PySem.W.mg_none_of X G z_sum, PySem.W.mg_none_of X G z_int, PySem.W.mg_none_of X G z_bool, PySem.W.mg_none_of X G z_str⟩
  have F0 := fun_mk (st := s_rising) l0 c0 k0
  have F1 := fun_mk (st := s_common) l1 c1 k1
  have F2 := fun_mk (st := s_apart) l2 c2 k2
  have F3 := fun_mk (st := s_joined) l3 c3 k3
  have F4 := fun_mk (st := s_within) l4 c4 k4
  have F5 := fun_mk (st := s__law_begin) l5 c5 k5
  have F6 := fun_mk (st := s__law_take) l6 c6 k6
  have F7 := fun_mk (st := s__law_same) l7 c7 k7
  have F8 := fun_mk (st := s__law_odd) l8 c8 k8
  have F9 := fun_mk (st := s__law_in) l9 c9 k9
  have F10 := fun_mk (st := s__law_numbers) l10 c10 k10
  have F11 := fun_mk (st := s__law_each) l11 c11 k11
  have F12 := fun_mk (st := s_law) l12 c12 k12
  refine ⟨PySem.W.fnOf "law" "law" (defArgs s_law) (defBody s_law) (defScope s_law) .none kV12 dc12 pm12 an12 cd12 ct12, fun s v => .of_eq rfl, fun base _ _ => ?_⟩
  have C_rising := cal_mk (x := "rising") (ok_rising (P := l.prog) (w := w) (base := base) T F0) (PySem.W.mg_of X G a0) k0 (F0.binds (ps := p_rising) fun _ _ _ _ _ _ us hl => match us, hl with | [_], _ => rfl)
  have C_common := cal_mk (x := "common") (ok_common (P := l.prog) (w := w) (base := base) T F1 C_rising) (PySem.W.mg_of X G a1) k1 (F1.binds (ps := p_common) fun _ _ _ _ _ _ us hl => match us, hl with | [_, _], _ => rfl)
  have C_apart := cal_mk (x := "apart") (ok_apart (P := l.prog) (w := w) (base := base) T F2 C_rising) (PySem.W.mg_of X G a2) k2 (F2.binds (ps := p_apart) fun _ _ _ _ _ _ us hl => match us, hl with | [_, _], _ => rfl)
  have C_joined := cal_mk (x := "joined") (ok_joined (P := l.prog) (w := w) (base := base) T F3 C_rising) (PySem.W.mg_of X G a3) k3 (F3.binds (ps := p_joined) fun _ _ _ _ _ _ us hl => match us, hl with | [_, _], _ => rfl)
  have C_within := cal_mk (x := "within") (ok_within (P := l.prog) (w := w) (base := base) T F4 C_apart) (PySem.W.mg_of X G a4) k4 (F4.binds (ps := p_within) fun _ _ _ _ _ _ us hl => match us, hl with | [_, _], _ => rfl)
  have C__law_begin := cal_mk (x := "_law_begin") (ok__law_begin (P := l.prog) (w := w) (base := base) T F5) (PySem.W.mg_of X G a5) k5 (F5.binds (ps := p__law_begin) fun _ _ _ _ _ _ us hl => match us, hl with | [_], _ => rfl)
  have C__law_take := cal_mk (x := "_law_take") (ok__law_take (P := l.prog) (w := w) (base := base) T F6) (PySem.W.mg_of X G a6) k6 (F6.binds (ps := p__law_take) fun _ _ _ _ _ _ us hl => match us, hl with | [_, _], _ => rfl)
  have B_same := F7.binds (ps := p__law_same) fun _ _ _ _ _ _ us hl => match us, hl with | [_, _], _ => rfl
  have C__law_same := cal_mk (x := "_law_same") (ok__law_same (P := l.prog) (w := w) (base := base) T F7 (PySem.W.mg_of X G a7) B_same 3) (PySem.W.mg_of X G a7) k7 B_same
  have C__law_odd := cal_mk (x := "_law_odd") (ok__law_odd (P := l.prog) (w := w) (base := base) T F8 C__law_take) (PySem.W.mg_of X G a8) k8 (F8.binds (ps := p__law_odd) fun _ _ _ _ _ _ us hl => match us, hl with | [_], _ => rfl)
  have C__law_in := cal_mk (x := "_law_in") (ok__law_in (P := l.prog) (w := w) (base := base) T F9) (PySem.W.mg_of X G a9) k9 (F9.binds (ps := p__law_in) fun _ _ _ _ _ _ us hl => match us, hl with | [_, _], _ => rfl)
  have C__law_numbers := cal_mk (x := "_law_numbers") (ok__law_numbers (P := l.prog) (w := w) (base := base) T F10 C__law_take C__law_odd) (PySem.W.mg_of X G a10) k10 (F10.binds (ps := p__law_numbers) fun _ _ _ _ _ _ us hl => match us, hl with | [_], _ => rfl)
  have C__law_each := cal_mk (x := "_law_each") (ok__law_each (P := l.prog) (w := w) (base := base) T F11) (PySem.W.mg_of X G a11) k11 (F11.binds (ps := p__law_each) fun _ _ _ _ _ _ us hl => match us, hl with | [_], _ => rfl)
  exact ok_law T F12 C__law_begin C__law_numbers C__law_take C__law_each C_rising C_common C_apart C_joined C_within C__law_in C__law_same
end Kb
open PySem PySem.W PyProof.Rows
set_option maxRecDepth 100000 in
set_option maxHeartbeats 0 in
theorem PySem.Challenge.cw_keyblock_k01_rows_of_cells_holds : PySem.Challenge.rw_keyblock_k01_rows_of_cells.Holds := by
  w_on; o_law; k_head; (case hw => w_witness2)
  k_fill
  refine L2.walk_of (l := PySem.Challenge.rw_keyblock_k01_rows_of_cells) (n := 63) (k := 6) (x := "_law_script") (CX := fun _ => L2.CX0) (sp := fun w => Kb.spLaw _) rfl (by decide) rfl ⟨rfl, by decide, by decide⟩ (fun w h Y => PySem.W.kIn_of Y) ?F (fun _ _ a ns hl _ hS => ⟨a, ns, rfl, hS, hl, fun _ => rfl⟩) (fun _ _ _ _ _ h => h)
  case F =>
    intro w mg fa h KX G hmg
    refine' Kb.all_mk KX G hmg ?a0 ?l0 ?c0 ?k0 ?a1 ?l1 ?c1 ?k1 ?a2 ?l2 ?c2 ?k2 ?a3 ?l3 ?c3 ?k3 ?a4 ?l4 ?c4 ?k4 ?a5 ?l5 ?c5 ?k5 ?a6 ?l6 ?c6 ?k6 ?a7 ?l7 ?c7 ?k7 ?a8 ?l8 ?c8 ?k8 ?a9 ?l9 ?c9 ?k9 ?a10 ?l10 ?c10 ?k10 ?a11 ?l11 ?c11 ?k11 ?a12 ?l12 ?c12 ?k12 ?z_len ?z_sorted ?z_set ?z_dict ?z_list ?z_tuple ?z_range ?z_enumerate ?z_zip ?z_isinstance ?z_all ?z_any ?z_abs ?z_min ?z_max ?z_sum ?z_int ?z_bool ?z_str
    (case a0 => k_is)
    (case l0 => k_is)
    (case c0 => k_is)
    (case k0 => k_is)
    (case a1 => k_is)
    (case l1 => k_is)
    (case c1 => k_is)
    (case k1 => k_is)
    (case a2 => k_is)
    (case l2 => k_is)
    (case c2 => k_is)
    (case k2 => k_is)
    (case a3 => k_is)
    (case l3 => k_is)
    (case c3 => k_is)
    (case k3 => k_is)
    (case a4 => k_is)
    (case l4 => k_is)
    (case c4 => k_is)
    (case k4 => k_is)
    (case a5 => k_is)
    (case l5 => k_is)
    (case c5 => k_is)
    (case k5 => k_is)
    (case a6 => k_is)
    (case l6 => k_is)
    (case c6 => k_is)
    (case k6 => k_is)
    (case a7 => k_is)
    (case l7 => k_is)
    (case c7 => k_is)
    (case k7 => k_is)
    (case a8 => k_is)
    (case l8 => k_is)
    (case c8 => k_is)
    (case k8 => k_is)
    (case a9 => k_is)
    (case l9 => k_is)
    (case c9 => k_is)
    (case k9 => k_is)
    (case a10 => k_is)
    (case l10 => k_is)
    (case c10 => k_is)
    (case k10 => k_is)
    (case a11 => k_is)
    (case l11 => k_is)
    (case c11 => k_is)
    (case k11 => k_is)
    (case a12 => k_is)
    (case l12 => k_is)
    (case c12 => k_is)
    (case k12 => k_is)
    (case z_len => k_is)
    (case z_sorted => k_is)
    (case z_set => k_is)
    (case z_dict => k_is)
    (case z_list => k_is)
    (case z_tuple => k_is)
    (case z_range => k_is)
    (case z_enumerate => k_is)
    (case z_zip => k_is)
    (case z_isinstance => k_is)
    (case z_all => k_is)
    (case z_any => k_is)
    (case z_abs => k_is)
    (case z_min => k_is)
    (case z_max => k_is)
    (case z_sum => k_is)
    (case z_int => k_is)
    (case z_bool => k_is)
    (case z_str => k_is)
