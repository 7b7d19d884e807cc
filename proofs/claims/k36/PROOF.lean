import PyProof.Rows.All
import Wide.All
import OpenK.AllK
import Wide.FinOn
import HandS.Head2
import HandS.HeadEnd
import HandS.HeadHook3
import HandS.Words
import HandS.ForMost
import HandS.SetFor
import HandS.Strs
import PyProof.SeqRoads2
import HandS.Evl
import HandS.Walk
import HandS.Conv
import HandS.Style
import HandS.IsInst
import HandS.SortInts
import HandS.Zip
import PyProof.ListStr
import HandS.SetTxt0
import PyProof.EnumMake
import PyProof.Draws
import KE.KRevSl
import HandS.TupSets
import KE.SortKeyed
import HandS.WordsExc
import HandS.TryOnly
import HandS.Deep
import HandS.ExcIs
import KE.SortData
import PyProof.WalksMore
import PyProof.FactsAll.subtypes_4
import HandS.TupAny
import HandS.DictComp
import KE.DataMinMax
import HandS.SortKw
import HandS.HotCalls
import HandS.ExcInitHot
import KE.DataFind
import KE.GoesRaise
import PySem.Challenge.RW_keyblock_k36_impressions_kept
set_option Elab.async false
set_option linter.all false
set_option maxRecDepth 100000
set_option maxHeartbeats 4000000
namespace Kb
open PySem PySem.Spec PyProof.Rows L2
structure Hd where
 al : List (Str × Str)
 g : List Str
 m : List (Str × Str)
 c : List Str
 n : List (Str × Str)
 x : List Str
 e : List Str
 b : Bool
 i : List (Str × Int)
 s : List (Str × Str)
 t : List (Str × List Int)
 d : List (Str × List (String × Int))
 f : List Str
 fn : List He.FnD
noncomputable abbrev AlX : Type := Bool × List He.FnV × List (Option (List (Option (Str × Int))))
noncomputable def fnG (x : Str) (st : Stmt) : He.FnD := ⟨(x, none), x, x, defArgs st, defBody st, defScope st⟩
noncomputable def fnM (C m q : Str) (st : Stmt) : He.FnD := ⟨(C, some m), m, q, defArgs st, defBody st, defScope st⟩
noncomputable def tabB : List DictEntry → List (String × Int) → Bool
 | [], [] => true
 | e :: es, (k, i) :: ts => (match e.key, e.val with
  | .str z _, .int j _ => decide (z = Str.ofString k) && decide (i = j)
  | _, _ => false) && tabB es ts
 | _, _ => false
noncomputable def tabAtB (K : PySem.W.Frag) (x : Str) (ts : List (String × Int)) : Bool := match K.lookup (He.ga K x) with
 | some ⟨_, _, .dict es _, _⟩ => tabB es.toList ts
 | _ => false
noncomputable def gB (K : PySem.W.Frag) (x : Str) : Bool := He.eqO (PySem.W.nsIn K mainGlobals x) (some (some (.ref (He.ga K x))))
noncomputable def mB (K : PySem.W.Frag) (p : Str × Str) : Bool := He.eqO (PySem.W.findIn K (.ref (He.ga K p.1)) p.2) (some (some (.ref (He.ma K (He.ga K p.1) p.2)))) && PySem.W.isFn K (.ref (He.ma K (He.ga K p.1) p.2))
noncomputable def cB (K : PySem.W.Frag) (x : Str) : Bool := (He.Fa.cls x).ok K && (PySem.W.makesIn K (He.ga K x) && PySem.W.keepIn K (.ref (He.ga K x)))
noncomputable def xB (K : PySem.W.Frag) (x : Str) : Bool := (He.Fa.exc x).ok K && (PySem.W.isClsIn K (He.ga K x) && decide (PySem.W.subIn K (.ref (He.ga K x)) (.ref (He.ga K x)) = some true))
noncomputable def eB (K : PySem.W.Frag) (x : Str) : Bool := (He.Fa.exc x).ok K && ((match PySem.W.clsIn K (He.ga K x) with
  | some cd => decide (cd.mro = [.ref (He.ga K x), .ref (He.ga K "BlockError"), .type "ValueError", .type "Exception", .type "BaseException", .type "object"])
  | none => false) && (He.eqO (PySem.W.findIn K (.ref (He.ga K x)) "__getattribute__") (some (some (.builtin "BaseException.__getattribute__"))) && (He.eqO (PySem.W.findIn K (.ref (He.ga K x)) "__getattr__") (some none) &&
  (PySem.W.hasDictIn K (He.ga K x) && He.eqO (PySem.W.findIn K (.ref (He.ga K x)) "__class__") (some (some (.builtin "object.__class__")))))))
noncomputable def bB (K : PySem.W.Frag) : Bool := PySem.W.isClsIn K (He.ga K "BlockError") && (decide (PySem.W.subIn K (.ref (He.ga K "BlockError")) (.type "BaseException") = some true) && (decide (PySem.W.typeIn K (.ref (He.ga K "BlockError")) = some (.type "type")) &&
 (He.eqO (PySem.W.specialIn K (.builtin "object.__class__") "__get__") (some (some (.builtin "getset_descriptor.__get__"))) && decide (PySem.W.takesIn K (.builtin "object.__class__") = some true))))
noncomputable def Hd.chk (h : Hd) (K : PySem.W.Frag) : Bool :=
 h.al.all (fun p => He.eqO (PySem.W.nsIn K mainGlobals p.1) (some (some (.ref (He.ga K p.2))))) && (h.g.all (gB K) && (h.m.all (mB K) && (h.c.all (cB K) && (h.n.all (fun p => He.eqO (PySem.W.findIn K (.ref (He.ga K p.1)) p.2) (some none)) && (h.x.all (xB K) && (h.e.all (eB K) && ((!h.b || (bB K && decide (((He.ga K "BlockError") :: h.e.map (He.ga K)).Nodup))) &&
 (h.i.all (fun p => (He.Fa.int p.1 p.2).ok K) && (h.s.all (fun p => (He.Fa.str p.1 p.2).ok K) && (h.t.all (fun p => He.tupB K p.1 (p.2.map He.Dv.int)) && (h.d.all (fun p => tabAtB K p.1 p.2) && (h.f.all (fun x => (He.Fa.free x).ok K) &&
 h.fn.all (fun d => (He.Fa.code d.at_ d.qual).ok K && PySem.W.keepIn K (.ref (He.fAd K d.at_)))))))))))))))
noncomputable def Hd.obs (h : Hd) (K : PySem.W.Frag) : AlX := (h.chk K, h.fn.map fun d => He.fnObs K d.at_, h.d.map fun t => He.dicW K (He.ga K t.1))
noncomputable def Hd.val (h : Hd) (w : World) : AlX := (true, h.fn.map He.FnD.val, h.d.map fun t => some (He.keysIn w.params (t.2.map fun q => Str.ofString q.1)))
noncomputable def Hd.hook (h : Hd) (as : List Addr) : PySem.W.Hook where
 α := AlX
 obs := fun s => h.obs (He.frG s.heap.get? as)
 val := fun w => h.val w
 says := fun w hp => ∃ K : PySem.W.Frag, K.In hp ∧ h.obs K = h.val w
 of := fun _ _ e => ⟨_, He.frG_in, e⟩
 keeps := fun _ _ _ ⟨K, hK, c⟩ k => ⟨K, PySem.W.Frag.In.keeps hK k, c⟩
noncomputable def Hd.ob (h : Hd) (as : List Addr) (s : PySem.W.SharedT) : AlX := h.obs (He.frG (HandSHeadRun.getT s) as)
theorem Hd.ob_eq (h : Hd) (as : List Addr) (s : PySem.W.SharedT) : h.ob as s = (h.hook as).obs s.abs := by
 have e : HandSHeadRun.getT s = s.abs.heap.get? := funext (HandSHeadRun.getT_eq s)
 unfold Hd.ob
 rw [e]
 rfl
noncomputable def Hd.add (h : Hd) (fs : List He.FnD) : Hd := { h with fn := h.fn ++ fs }
end Kb
namespace Kb
open PySem PySem.Spec PyProof.Rows L2
noncomputable def hdT (i : Nat) : Stmt := PySem.Challenge.pw_keyblock_k36_impressions_kept.main.body.getD i (.Pass ⟨0, 0, 0, 0⟩)
noncomputable def hdAs : List Addr := ([2, 3, 15, 17, 18, 20, 21, 22, 29, 30, 31, 32, 35, 42, 43, 44, 47, 54, 55, 56, 59, 66, 67, 68, 71, 78, 79, 80, 83, 90, 91, 92, 95, 102, 103, 104, 107, 114, 115, 116] : List Addr) ++ ([119, 126, 127, 128, 131, 133, 134, 136, 137, 138, 140, 141, 143, 144, 145, 147, 148, 150, 151, 152, 154, 155, 157, 158, 159, 162, 163, 164, 166, 167, 169, 170, 171, 173, 174, 176, 177, 178, 181, 182] : List Addr) ++ ([190, 192, 193, 195, 196, 197, 199, 200, 202, 203, 204, 206, 207, 209, 210, 211, 213, 214, 216, 217, 218, 220, 221, 223, 224, 225, 227, 228, 230, 231, 232, 234, 235, 237, 238, 239, 241, 242, 244, 245] : List Addr) ++ ([246, 249, 250, 251, 253, 254, 256, 257, 258, 260, 261, 263, 264, 265, 267, 268, 270, 271, 272, 274, 275, 277, 278, 279, 281, 282, 284, 285, 286, 288, 289, 291, 292, 293, 295, 296, 298, 299, 300, 302] : List Addr) ++ ([303, 305, 306, 307, 308, 309, 310, 311, 314, 316, 317, 319, 320, 321, 323, 324, 326, 327, 328, 331, 332, 333, 335, 336, 338, 339, 340, 342, 343, 345, 346, 347, 350, 351, 352, 355, 356, 357, 360, 361] : List Addr) ++ ([362, 365, 366, 367, 369, 370, 372, 373, 374, 376, 377, 379, 380, 381, 383, 384, 386, 387, 388, 391, 392, 393, 396, 397, 398, 400, 401, 403, 404, 405, 407, 408, 410, 411, 412, 414, 415, 417, 418, 419] : List Addr) ++ ([421, 422, 424, 425] : List Addr)
noncomputable def hdNm : List Str := ([("_wall" : Str), ("BlockError" : Str), ("BadSize" : Str), ("BadCells" : Str), ("BadInk" : Str), ("BadName" : Str), ("BadDay" : Str), ("NoPrint" : Str), ("Full" : Str), ("Taken" : Str), ("LETTERS" : Str), ("between" : Str), ("need_size" : Str), ("is_ink" : Str), ("need_ink" : Str), ("is_name" : Str), ("need_name" : Str), ("rising" : Str), ("in_field" : Str), ("Album" : Str), ("_law_begin" : Str), ("_law_take" : Str), ("_law_same" : Str), ("_law_odd" : Str), ("_law_size" : Str), ("_law_drawn_cells" : Str), ("_law_name_ok" : Str), ("_law_names" : Str), ("_law_album_bad" : Str), ("_law_album_do" : Str), ("_law_album_call" : Str), ("_law_album_did" : Str), ("_law_rows_of" : Str), ("_law_print_cells" : Str), ("_law_album_next" : Str), ("_law_album_names" : Str), ("_law_spoilt_call" : Str)] : List Str)
noncomputable def hdG : List Str := ([("_law_begin" : Str), ("_law_take" : Str), ("_law_size" : Str), ("between" : Str), ("need_size" : Str), ("_law_names" : Str), ("_law_album_names" : Str), ("_law_drawn_cells" : Str), ("_law_print_cells" : Str), ("_law_album_next" : Str), ("in_field" : Str), ("is_name" : Str), ("need_name" : Str), ("is_ink" : Str), ("need_ink" : Str), ("rising" : Str), ("_law_album_call" : Str), ("_law_album_did" : Str), ("_law_name_ok" : Str), ("_law_album_bad" : Str), ("_law_album_do" : Str), ("_law_odd" : Str), ("_law_spoilt_call" : Str), ("_law_same" : Str), ("_law_rows_of" : Str), ("law" : Str), ("Album" : Str), ("BadName" : Str), ("Taken" : Str), ("NoPrint" : Str), ("BadInk" : Str), ("BadCells" : Str), ("Full" : Str), ("BadDay" : Str), ("BadSize" : Str), ("BlockError" : Str)] : List Str)
noncomputable def hdM : List (Str × Str) := ([(("Album", "prints") : Str × Str), (("Album", "__init__") : Str × Str), (("Album", "need_print") : Str × Str), (("Album", "strike") : Str × Str), (("Album", "need_cells") : Str × Str), (("Album", "add") : Str × Str), (("Album", "amend") : Str × Str), (("Album", "date") : Str × Str)] : List (Str × Str))
noncomputable def hdN : List (Str × Str) := ([("Album", "field"), ("Album", "kept")] : List (Str × Str))
noncomputable def hdF : List He.FnD := ([fnM "Album" "prints" "Album.prints" (inClass (hdT 23) 8), fnG "_law_begin" (hdT 25), fnG "_law_take" (hdT 26), fnG "_law_size" (hdT 29), fnG "between" (hdT 13), fnG "need_size" (hdT 14), fnM "Album" "__init__" "Album.__init__" (inClass (hdT 23) 0), fnG "_law_names" (hdT 32), fnG "_law_album_names" (hdT 40), fnG "_law_drawn_cells" (hdT 30), fnG "_law_print_cells" (hdT 38), fnG "_law_album_next" (hdT 39), fnM "Album" "need_print" "Album.need_print" (inClass (hdT 23) 2), fnM "Album" "strike" "Album.strike" (inClass (hdT 23) 7), fnG "in_field" (hdT 21), fnM "Album" "need_cells" "Album.need_cells" (inClass (hdT 23) 3), fnG "is_name" (hdT 17), fnG "need_name" (hdT 18), fnG "is_ink" (hdT 15), fnG "need_ink" (hdT 16), fnG "rising" (hdT 20), fnM "Album" "add" "Album.add" (inClass (hdT 23) 4), fnM "Album" "amend" "Album.amend" (inClass (hdT 23) 5), fnM "Album" "date" "Album.date" (inClass (hdT 23) 6), fnG "_law_album_call" (hdT 35), fnG "_law_album_did" (hdT 36), fnG "_law_name_ok" (hdT 31), fnG "_law_album_bad" (hdT 33), fnG "_law_album_do" (hdT 34), fnG "_law_odd" (hdT 28), fnG "_law_spoilt_call" (hdT 41), fnG "_law_same" (hdT 27), fnG "_law_rows_of" (hdT 37), fnG "law" (hdT 42)] : List He.FnD)
noncomputable def hd : Hd where
 al := []
 g := hdG
 m := hdM
 c := ([("Album" : Str)] : List Str)
 n := hdN
 x := ([("BadSize" : Str)] : List Str)
 e := ([("BadName" : Str), ("Taken" : Str), ("NoPrint" : Str), ("BadInk" : Str), ("BadCells" : Str), ("Full" : Str), ("BadDay" : Str)] : List Str)
 b := true
 i := []
 s := ([("LETTERS", "abcdefghijklmnopqrstuvwxyz")] : List (Str × Str))
 t := []
 d := []
 f := ([("len" : Str), ("sorted" : Str), ("set" : Str), ("dict" : Str), ("list" : Str), ("tuple" : Str), ("range" : Str), ("enumerate" : Str), ("zip" : Str), ("isinstance" : Str), ("all" : Str), ("any" : Str), ("abs" : Str), ("min" : Str), ("max" : Str), ("sum" : Str), ("int" : Str), ("bool" : Str), ("str" : Str)] : List Str)
 fn := hdF
noncomputable abbrev HdP : World → Prop := fun w => HandSHeadRun.RunEq (PySem.W.OpenLaw.row PySem.Challenge.rw_keyblock_k36_impressions_kept) (PySem.W.view (PySem.W.OpenLaw.row PySem.Challenge.rw_keyblock_k36_impressions_kept).prog [42]) (hd.hook hdAs) (hd.ob hdAs) 3685 hdNm w
theorem hdRun : ∀ w : World, HdP w := fun w os => by kernel_rfl
end Kb
namespace L2
open PySem PySem.Spec PyProof.Rows
end L2
namespace L2
open PySem PySem.Spec PyProof.Rows
section
variable {P : Program} {w : World} {A : Around} {E : Value → Shared → Prop} {s : Shared}
/-- the object that set.__new__ lays -/
noncomputable abbrev kbSet0 (w : World) : Obj := { cls := .type "set", dict := none, data := .set #[] 0 (.fresh 0 0 (!w.params.followText "set-order")) }
/-- set(v): by what set.__init__ leaves -/
theorem ZgB {v : Value} (Z : Heap → Prop) {Q : Value → Shared → Prop} (hh : A.handled = none)
  (hin : ∀ (A' : Around) (R : PySem.Fin → Shared → Prop) (E' : Value → Shared → Prop), A'.handled = none → (∀ (h' : Heap) (tk : Nat), Z h' → (∀ b o, s.heap.get? b = some o → h'.get? b = some o) → R (.done (.ret .none)) { s with heap := h', toks := tk }) →
   wpAny (model P w) A' (Builtin.«set.__init__» ⟨[.ref s.heap.objs.size, v], []⟩) R E' { s with heap := s.heap.push (kbSet0 w) })
  (h : ∀ (h' : Heap) (tk : Nat), Z h' → (∀ b o, s.heap.get? b = some o → h'.get? b = some o) → Q (.ref s.heap.objs.size) { s with heap := h', toks := tk }) :
  wpAny (model P w) A (call (.type "set") [v]) Q E s := by
 obtain ⟨c, tl, hmro⟩ := F.called_set.mro
 have hmade := F.called_set.made
 have hsub := F.called_set.sub
 refine wpAny_call (codeAny_of_tree ?_)
 show wpAny _ _ (callAny (.type "set") _) _ _ _
 refine wpAny_pure ⟨Code.quiet_builtin _ (by decide +kernel), codeAny_builtin F.entry_type_call ?_⟩
 rw [Around.under_plain (weight_type_call_type "set" [v] []) rfl]
 have h1 := F.called_set.notType
 have h2 := F.called_set.canCreate
 have hct := F.typeCall_set_1 v
 repeat (any_goals (first | assumption | wp_step))
 refine codeAny_mono (code_set_led1 v (E := E) (Q₁ := fun obj s₁ => obj = .ref s.heap.objs.size ∧ s₁ = { s with heap := s.heap.push (kbSet0 w) }) ⟨rfl, rfl⟩) fun r s₁ hr => ?_
 cases r with
 | error e => exact hr
 | ok fl =>
  cases fl with
  | ret obj =>
   obtain ⟨rfl, rfl⟩ := hr
   have hS : (s.heap.push (kbSet0 w)).get? s.heap.objs.size = some (kbSet0 w) := Heap.get?_push_size _ rfl
   have hT : Shared.TypeIs { s with heap := s.heap.push (kbSet0 w) } (.ref s.heap.objs.size) "set" := ⟨_, hS, rfl⟩
   have hli := F.called_set.init.lookup
   have hbi := F.called_set.init.bind (.ref s.heap.objs.size)
   repeat (any_goals (first | assumption | wp_step))
   refine codeAny_mono (codeAny_call_builtin (R := wants (fun r s₂ => r = .none ∧ ∃ h' tk, s₂ = { s with heap := h', toks := tk } ∧ Z h' ∧
     (∀ b o, s.heap.get? b = some o → h'.get? b = some o)) E) F.called_set.init.plain F.entry_set_init (check_set_init_1 hT ?_)) fun r₂ s₂ hr₂ => ?_
   ·refine hin _ _ _ (by simp [hh]) fun h' tk hz hk => ?_
    exact ⟨rfl, h', tk, rfl, hz, hk⟩
   ·cases r₂ with
    | error e => exact hr₂
    | ok fl₂ =>
     cases fl₂ with
     | ret r =>
      obtain ⟨rfl, h', tk, rfl, hz, hk'⟩ := hr₂
      repeat (any_goals (first | assumption | wp_step))
      exact h _ _ hz hk'
     | _ => exact hr₂.elim
  | _ => exact hr.elim
/-- set.__init__ of what is no set and no dict -/
theorem ZjM {A' : Around} {R : PySem.Fin → Shared → Prop} {E' : Value → Shared → Prop} {v : Value} {T : String} {S : Addr} {s1 : Shared} (hT : s1.TypeIs v T) (hs1 : isSubtype (.type T) (.type "set") = pure false) (hs2 : isSubtype (.type T) (.type "frozenset") = pure false)
  (hne : (Value.type T == Value.type "dict") = false) (hS : s1.heap.get? S = some (kbSet0 w))
  (h : wpAny (model P w) A' (pyIter v) (fun it s' => ∀ Rc : Result → Shared → Prop, (∀ s'', R (.done (.ret .none)) s'' → Rc (.ok (.ret .none)) s'') → codeAny (model P w) A' (.builtin "set.update.loop" ⟨[.ref S, it], []⟩) Rc s') E' s1) :
  wpAny (model P w) A' (Builtin.«set.__init__» ⟨[.ref S, v], []⟩) R E' s1 := by
 have hT2 : s1.TypeIs (.ref S) "set" := ⟨_, hS, rfl⟩
 unfold Builtin.«set.__init__» noKeywords
 generalize hU : Builtin.Frozenset.updateFrom = U
 wp_walk
 subst hU
 unfold Builtin.Frozenset.updateFrom Builtin.Frozenset.isAnySet orM
 refine wpAny_bind (wpAny_bind (wpAny_isInstance hT hs1 ?_))
 show wpAny _ _ (isInstance v (.type "frozenset")) _ _ _
 refine wpAny_isInstance hT hs2 ?_
 show wpAny _ _ (typeOf v >>= _) _ _ _
 refine wpAny_bind (wpAny_typeOf hT ?_)
 simp only [hne, Bool.false_eq_true, if_false]
 refine wpAny_bind (wpAny_mono h (fun it s' hc => ?_) fun e s' z => z)
 refine wpAny_bind (wpAny_runValue (hc _ fun s'' hz => ?_))
 show wpAny _ _ _ _ _ _
 refine wpAny_pure ?_
 show wpAny _ _ (ret Value.none) _ _ _
 exact wpAny_pure hz
/-- set(xs), xs a list of ints -/
theorem ZhR {l : Addr} {items : Array Value} (ns : List Int) {Q : Value → Shared → Prop} (hh : A.handled = none) (hl : s.heap.IsList l items) (hit : IntsAre items.toList ns) (hb : ns.length + 1 < scanBound)
  (h : ∀ (h' : Heap) (tk c : Nat), SetR w h' s.heap.objs.size (fun j => decide (j ∈ ns)) c → c ≤ ns.length → (∀ b o, s.heap.get? b = some o → h'.get? b = some o) → Q (.ref s.heap.objs.size) { s with heap := h', toks := tk }) :
  wpAny (model P w) A (call (.type "set") [.ref l]) Q E s := by
 have hisz : items.size = ns.length := by
  have q := IntsAre.length hit
  rw [Array.length_toList] at q
  exact q
 have hval : ∀ (i : Nat) (v : Value), items[i]? = some v → ∃ k t, ns[i]? = some k ∧ v = .int k t := fun i v hv => by
  have hi : i < ns.length := by rw [← hisz]; exact (Array.getElem?_eq_some_iff.mp hv).1
  obtain ⟨t, e⟩ := PyProof.Rows.IntsAre.int_at hit i v (by rw [Array.getElem?_toList]; exact hv)
  refine ⟨ns[i], t, List.getElem?_eq_getElem hi, ?_⟩
  rw [e, List.getD_eq_getElem?_getD, List.getElem?_eq_getElem hi] <;> rfl
 refine ZgB (fun h' => ∃ c, SetR w h' s.heap.objs.size (fun j => decide (j ∈ ns)) c ∧ c ≤ ns.length) hh (fun A' R E' hA hR => ?_) fun h' tk ⟨c, hS, hc⟩ hk => h h' tk c hS hc hk
 obtain ⟨ol, hol, hcl, hdl⟩ := id hl
 have hlS : l < s.heap.objs.size := Heap.lt_size hol
 have hS : (s.heap.push (kbSet0 w)).get? s.heap.objs.size = some (kbSet0 w) := Heap.get?_push_size _ rfl
 have hl1 : (s.heap.push (kbSet0 w)).IsList l items := hl.push _
 refine ZjM (T := "list") ⟨ol, Heap.get?_push_of_some _ hol, hcl⟩ F.sub_list_set F.sub_list_frozenset (by decide) hS (wpAny_pyIter_list hl1 fun Rc hRc => ?_)
 have hneI : l ≠ (s.heap.push (kbSet0 w)).objs.size := by
  rw [Heap.size_push]; exact Nat.ne_of_lt (Nat.lt_succ_of_lt hlS)
 have hSf : s.heap.objs.size ∉ [(s.heap.push (kbSet0 w)).objs.size, l] := by
  rw [Heap.size_push]; simp only [List.mem_cons, List.mem_singleton, List.not_mem_nil, or_false, not_or]
  exact ⟨Nat.ne_of_lt (Nat.lt_succ_self _), Nat.ne_of_gt hlS⟩
 refine set_update_ints ((Walks.list (by simp [hA]) _ l hneI items).toS) s.heap.objs.size hSf ns hisz hb hval (items.size - 0) 0 _ (by omega) (Nat.zero_le _)
  ⟨⟨_, Heap.get?_push_size _ rfl, rfl, rfl⟩, (hl1.push _)⟩ ⟨0, Nat.le_refl 0, setR_new_at (Heap.get?_push_of_some _ hS)⟩ fun s' c' hm hc' hS' => hRc s' ?_
 obtain ⟨h', g2, d', tk', os'⟩ := s'
 have eg : g2 = s.gens := hm.gens
 have ed : d' = s.drawn := hm.drawn
 have eo : os' = s.os := hm.os
 subst eg; subst ed; subst eo
 rw [hisz] at hc'
 refine hR h' tk' ⟨c', hS', hc'⟩ fun b o e => ?_
 have hb0 : b < s.heap.objs.size := Heap.lt_size e
 have hb1 : b ≠ s.heap.objs.size := Nat.ne_of_lt hb0
 have hb2 : b ≠ (s.heap.push (kbSet0 w)).objs.size := by
  rw [Heap.size_push]; exact Nat.ne_of_lt (Nat.lt_succ_of_lt hb0)
 exact hm.heap b o (by simp only [List.mem_cons, List.mem_singleton, List.not_mem_nil, or_false, not_or]; exact ⟨hb1, hb2⟩) (Heap.get?_push_of_some _ (Heap.get?_push_of_some _ e))
end
section
variable {X : Cx}
/-- set(xs), xs a list of ints -/
noncomputable def rSetI (K : PySem.W.Frag) (w : World) : List V → Hp → VK → Prop := fun vs H Q => ∃ (a : Addr) (ns : List Int), vs = [V.ref a] ∧ SqL K H a (ns.map V.int) ∧ ns.length ≤ 1000 ∧
 ∀ p c, H p = none → c ≤ ns.length → Q (.ref p) (upd H p (SetO w p (fun j => decide (j ∈ ns)) c))
theorem Zox (hc : X.calm = true) : CallR X (.type "set") (rSetI X.K X.w) := by
 intro pins s σ H xs us Q I r h
 obtain ⟨l, ns, rfl, hl, hf, q⟩ := h
 rw [Vals.ref1 r]
 obtain ⟨its, rv, pl, hz⟩ := I.list hl
 have hn : H s.heap.objs.size = none := I.hok.fresh (Nat.le_refl _)
 refine ZhR (P := X.prog) (w := X.w) ns (I.ok.hd hc) pl.isList (by simpa using ints_of_vals rv) (by unfold scanBound; omega) fun h' tk c R hcn k => ?_
 exact ⟨.ref s.heap.objs.size, upd H s.heap.objs.size (SetO X.w s.heap.objs.size _ c), I.laid (t' := tk) k (Nat.le_refl _) (setO_new R), rfl, q _ c hn hcn⟩
end
end L2
namespace Kb
open PySem L2 Evl
/-- the built-in names that the program leaves alone -/
structure Tx (mg : Str → Option Value) : Prop where
 len : mg "len" = none
 sorted : mg "sorted" = none
 set : mg "set" = none
 dict : mg "dict" = none
 list : mg "list" = none
 tuple : mg "tuple" = none
 range : mg "range" = none
 enumerate : mg "enumerate" = none
 zip : mg "zip" = none
 isinstance : mg "isinstance" = none
 all : mg "all" = none
 any : mg "any" = none
 abs : mg "abs" = none
 min : mg "min" = none
 max : mg "max" = none
 sum : mg "sum" = none
 int : mg "int" = none
 bool : mg "bool" = none
 str : mg "str" = none
/-- a def that a caller may lean on -/
structure Cal (P : Program) (w : World) (K : PySem.W.Frag) (mg : Str → Option Value) (base : Heap) (x : Str) (k : Nat) (ps : List Str) (sp : Sp) : Prop where
 ex : ∃ f fd, FnOk P w K mg base CX0 k f fd ps sp ∧ mg x = some (.ref f) ∧ PySem.W.keepIn K (.ref f) = true ∧ Binds K fd ps []
theorem Zk {X : Cx} {x : Str} {k : Nat} {ps : List Str} {sp : Sp} {e : Expr} {es : List Expr} {t : TA} {p pos : Pos} (C : Cal X.prog X.w X.K X.mg X.base x k ps sp) (hr : Room k X.A) (hg : Gl X x) (ha : PA X (e :: es) t)
  (hdb : (x == ("__debug__" : Str)) = false := by decide) (he : starEach (e :: es) X.env = (false, eval e X.env) :: starEach es X.env := by rfl) (hpl : (backTo pos (starEach es X.env)).any (·.1) = false := by rfl) :
  PE X (.Call (.Name x p) (e :: es) [] pos) (tCall sp [] E0 t) := by
 obtain ⟨f, fd, F, hm, hk, hb⟩ := C.ex
 exact pe_call F hr hg hm hk hb .nil pass0 ha hdb he hpl
/-- a key as a datum; an instance as a datum: its class, then its fields -/
noncomputable def keyD : Key → PyData
 | .inl i => .int i
 | .inr s => .str s
mutual
inductive Dt (H : Hp) : V → PyData → Prop
 | non : Dt H .non .none
 | bl (b : Bool) : Dt H (.bl b) (.bool b)
 | int (i : Int) : Dt H (.int i) (.int i)
 | str (x : Str) : Dt H (.str x) (.str x)
 | lst {a : Addr} {xs : List V} {ds : List PyData} : H a = some (.lst xs) → DtAll H xs ds → Dt H (.ref a) (.list ds)
 | tup {a : Addr} {xs : List V} {ds : List PyData} : H a = some (.tup xs) → DtAll H xs ds → Dt H (.ref a) (.tuple ds)
 | dct {a : Addr} {kvs : List (Key × V)} {ds : List PyData} {kd : List (PyData × PyData)} : H a = some (.dK kvs) → DtAll H (kvs.map (·.2)) ds → kd = (kvs.map fun kv => keyD kv.1).zip ds → Dt H (.ref a) (.dict kd)
 | ins {a C dx : Addr} {fs : List (Str × V)} {ds : List PyData} {kd : List (PyData × PyData)} : H a = some (.ins C dx fs) → DtAll H (fs.map (·.2)) ds → kd = (.none, .int (C : Nat)) :: (fs.map fun kv => PyData.str kv.1).zip ds → Dt H (.ref a) (.dict kd)
 | lkd {a : Addr} {o : Obj} {kvs : List (Key × V)} {ds : List PyData} {kd : List (PyData × PyData)} : H a = some (.frz o (.dK kvs)) → DtAll H (kvs.map (·.2)) ds → kd = (.none, .tuple [.int (a : Nat)]) :: (kvs.map fun kv => keyD kv.1).zip ds → Dt H (.ref a) (.dict kd)
 | lkl {a : Addr} {o : Obj} {xs : List V} {ds : List PyData} {kd : List (PyData × PyData)} : H a = some (.frz o (.lst xs)) → DtAll H xs ds → kd = [(.none, .tuple [.int (a : Nat), .list ds])] → Dt H (.ref a) (.dict kd)
inductive DtAll (H : Hp) : List V → List PyData → Prop
 | nil : DtAll H [] []
 | cons {v : V} {vs : List V} {d : PyData} {ds : List PyData} : Dt H v d → DtAll H vs ds → DtAll H (v :: vs) (d :: ds)
end
mutual
theorem Dt.ex {H H' : Hp} (e : Ex H H') : ∀ (d : PyData) (v : V), Dt H v d → Dt H' v d
 | _, _, .non => .non
 | _, _, .bl b => .bl b
 | _, _, .int i => .int i
 | _, _, .str x => .str x
 | _, _, .lst h r => .lst (e _ _ h) (DtAll.ex e _ _ r)
 | _, _, .tup h r => .tup (e _ _ h) (DtAll.ex e _ _ r)
 | _, _, .dct h r z => .dct (e _ _ h) (DtAll.ex e _ _ r) z
 | _, _, .ins h r z => .ins (e _ _ h) (DtAll.ex e _ _ r) z
 | _, _, .lkd h r z => .lkd (e _ _ h) (DtAll.ex e _ _ r) z
 | _, _, .lkl h r z => .lkl (e _ _ h) (DtAll.ex e _ _ r) z
theorem DtAll.ex {H H' : Hp} (e : Ex H H') : ∀ (ds : List PyData) (vs : List V), DtAll H vs ds → DtAll H' vs ds
 | _, _, .nil => .nil
 | _, _, .cons h r => .cons (Dt.ex e _ _ h) (DtAll.ex e _ _ r)
end
theorem Dt.up {H H' : Hp} {v : V} {d : PyData} (h : Dt H v d) (e : Ex H H') : Dt H' v d := Dt.ex e d v h
theorem DtAll.up {H H' : Hp} {v : List V} {d : List PyData} (h : DtAll H v d) (e : Ex H H') : DtAll H' v d := DtAll.ex e d v h
mutual
theorem Dt.dp {K : PySem.W.Frag} {H : Hp} : ∀ (d : PyData) (v : V), Dt H v d → d.canLay0 = true → Dp K H v d
 | _, _, .non, _ => .non
 | _, _, .bl b, _ => .bl b
 | _, _, .int i, _ => .int i
 | _, _, .str x, _ => .str x
 | _, _, .lst h r, c => .lst (sq_of h) (DtAll.dp _ _ r (by simpa [PyData.canLay0] using c))
 | _, _, .tup h r, c => .tup (st_of h) (DtAll.dp _ _ r (by simpa [PyData.canLay0] using c))
 | _, _, .dct h r z, c => by simp [PyData.canLay0] at c
 | _, _, .ins h r z, c => by simp [PyData.canLay0] at c
 | _, _, .lkd h r z, c => by simp [PyData.canLay0] at c
 | _, _, .lkl h r z, c => by simp [PyData.canLay0] at c
theorem DtAll.dp {K : PySem.W.Frag} {H : Hp} : ∀ (ds : List PyData) (vs : List V), DtAll H vs ds → PyData.canLayAll0 ds = true → DpAll K H vs ds
 | _, _, .nil, _ => .nil
 | _, _, .cons h r, c => by
  simp only [PyData.canLayAll0, Bool.and_eq_true] at c
  exact .cons (Dt.dp _ _ h c.1) (DtAll.dp _ _ r c.2)
end
theorem Zke {d : PyData} (h : SeqAt.shaped d = true) : d.canLay0 = true := by
 unfold SeqAt.shaped at h
 simp only [Bool.and_eq_true] at h
 exact h.1
theorem Dt.dps {K : PySem.W.Frag} {H : Hp} {d : PyData} {v : V} (h : Dt H v d) (s : SeqAt.shaped d = true) : Dp K H v d := Dt.dp _ _ h (Zke s)
mutual
theorem Dt.uniq {H : Hp} : ∀ {d : PyData} {v : V}, Dt H v d → ∀ {e : PyData}, Dt H v e → d = e
 | _, _, .non, _, h2 => by cases h2; rfl
 | _, _, .bl b, _, h2 => by cases h2; rfl
 | _, _, .int i, _, h2 => by cases h2; rfl
 | _, _, .str x, _, h2 => by cases h2; rfl
 | _, _, .lst h r, _, h2 => by
  cases h2 with
  | lst h' r' => rw [h] at h'; cases h'; rw [DtAll.uniq r r']
  | tup h' r' => rw [h] at h'; cases h'
  | dct h' r' => rw [h] at h'; cases h'
  | ins h' r' => rw [h] at h'; cases h'
  | lkd h' r' => rw [h] at h'; cases h'
  | lkl h' r' => rw [h] at h'; cases h'
 | _, _, .tup h r, _, h2 => by
  cases h2 with
  | lst h' r' => rw [h] at h'; cases h'
  | tup h' r' => rw [h] at h'; cases h'; rw [DtAll.uniq r r']
  | dct h' r' => rw [h] at h'; cases h'
  | ins h' r' => rw [h] at h'; cases h'
  | lkd h' r' => rw [h] at h'; cases h'
  | lkl h' r' => rw [h] at h'; cases h'
 | _, _, .dct h r z, _, h2 => by
  cases h2 with
  | lst h' r' => rw [h] at h'; cases h'
  | tup h' r' => rw [h] at h'; cases h'
  | dct h' r' z' => rw [h] at h'; cases h'; rw [z, z', DtAll.uniq r r']
  | ins h' r' => rw [h] at h'; cases h'
  | lkd h' r' => rw [h] at h'; cases h'
  | lkl h' r' => rw [h] at h'; cases h'
 | _, _, .ins h r z, _, h2 => by
  cases h2 with
  | lst h' r' => rw [h] at h'; cases h'
  | tup h' r' => rw [h] at h'; cases h'
  | dct h' r' => rw [h] at h'; cases h'
  | ins h' r' z' => rw [h] at h'; cases h'; rw [z, z', DtAll.uniq r r']
  | lkd h' r' => rw [h] at h'; cases h'
  | lkl h' r' => rw [h] at h'; cases h'
 | _, _, .lkd h r z, _, h2 => by
  cases h2 with
  | lst h' r' => rw [h] at h'; cases h'
  | tup h' r' => rw [h] at h'; cases h'
  | dct h' r' => rw [h] at h'; cases h'
  | ins h' r' => rw [h] at h'; cases h'
  | lkd h' r' z' => rw [h] at h'; cases h'; rw [z, z', DtAll.uniq r r']
  | lkl h' r' => rw [h] at h'; cases h'
 | _, _, .lkl h r z, _, h2 => by
  cases h2 with
  | lst h' r' => rw [h] at h'; cases h'
  | tup h' r' => rw [h] at h'; cases h'
  | dct h' r' => rw [h] at h'; cases h'
  | ins h' r' => rw [h] at h'; cases h'
  | lkd h' r' => rw [h] at h'; cases h'
  | lkl h' r' z' => rw [h] at h'; cases h'; rw [z, z', DtAll.uniq r r']
theorem DtAll.uniq {H : Hp} : ∀ {d : List PyData} {v : List V}, DtAll H v d → ∀ {e : List PyData}, DtAll H v e → d = e
 | _, _, .nil, _, h2 => by cases h2; rfl
 | _, _, .cons h r, _, h2 => by
  cases h2 with
  | cons h' r' => rw [Dt.uniq h h', DtAll.uniq r r']
end
theorem Dt.one {H : Hp} (n : Nat) {d e : PyData} {v : V} (_ : sizeOf d < n) (h1 : Dt H v d) (h2 : Dt H v e) : d = e := h1.uniq h2
/-- the heap without one object -/
noncomputable def hide (H : Hp) (l : Addr) : Hp := fun a => if a = l then none else H a
theorem ZlZ {H : Hp} {l : Addr} : hide H l l = none := by unfold hide; rw [if_pos rfl]
theorem ZbP {H : Hp} {l a : Addr} (h : a ≠ l) : hide H l a = H a := by unfold hide; rw [if_neg h]
theorem Zpy {H : Hp} {l : Addr} : Ex (hide H l) H := fun a o h => by
 unfold hide at h
 split at h
 ·cases h
 ·exact h
theorem DtAll.len0 {H : Hp} : ∀ {ds : List PyData} {vs : List V}, DtAll H vs ds → vs.length = ds.length
 | _, _, .nil => rfl
 | _, _, .cons _ r => by rw [List.length_cons, List.length_cons, r.len0]
theorem Zei : ∀ (ks ds : List PyData), ks.length = ds.length → sizeOf ds ≤ sizeOf (ks.zip ds)
 | [], [], _ => by simp
 | k :: ks, d :: ds, h => by
  have := Zei ks ds (by simpa using h)
  simp only [List.zip_cons_cons, List.cons.sizeOf_spec, Prod.mk.sizeOf_spec]
  omega
 | [], _ :: _, h => by simp at h
 | _ :: _, [], h => by simp at h
mutual
theorem Dt.hid0 {H : Hp} {p : Addr} {e : PyData} (hp : Dt H (.ref p) e) : ∀ {d : PyData} {v : V}, Dt H v d → sizeOf d < sizeOf e → Dt (hide H p) v d
 | _, _, .non, _ => .non
 | _, _, .bl b, _ => .bl b
 | _, _, .int i, _ => .int i
 | _, _, .str x, _ => .str x
 | _, _, .lst (a := a) h r, hs => by
  have ne : a ≠ p := fun z => by subst z; rw [(Dt.lst h r).uniq hp] at hs; omega
  simp only [PyData.list.sizeOf_spec] at hs
  exact .lst (by rw [ZbP ne]; exact h) (DtAll.hid0 hp r (by omega))
 | _, _, .tup (a := a) h r, hs => by
  have ne : a ≠ p := fun z => by subst z; rw [(Dt.tup h r).uniq hp] at hs; omega
  simp only [PyData.tuple.sizeOf_spec] at hs
  exact .tup (by rw [ZbP ne]; exact h) (DtAll.hid0 hp r (by omega))
 | _, _, .dct (a := a) (kvs := kvs) (ds := ds) h r z, hs => by
  have ne : a ≠ p := fun q => by subst q; rw [(Dt.dct h r z).uniq hp] at hs; omega
  have hl := r.len0
  subst z
  simp only [PyData.dict.sizeOf_spec] at hs
  have := Zei (kvs.map fun kv => keyD kv.1) ds (by simpa using hl)
  exact .dct (by rw [ZbP ne]; exact h) (DtAll.hid0 hp r (by omega)) rfl
 | _, _, .ins (a := a) (fs := fs) (ds := ds) h r z, hs => by
  have ne : a ≠ p := fun q => by subst q; rw [(Dt.ins h r z).uniq hp] at hs; omega
  have hl := r.len0
  subst z
  simp only [PyData.dict.sizeOf_spec, List.cons.sizeOf_spec] at hs
  have := Zei (fs.map fun kv => PyData.str kv.1) ds (by simpa using hl)
  exact .ins (by rw [ZbP ne]; exact h) (DtAll.hid0 hp r (by omega)) rfl
 | _, _, .lkd (a := a) (kvs := kvs) (ds := ds) h r z, hs => by
  have ne : a ≠ p := fun q => by subst q; rw [(Dt.lkd h r z).uniq hp] at hs; omega
  have hl := r.len0
  subst z
  simp only [PyData.dict.sizeOf_spec, List.cons.sizeOf_spec] at hs
  have := Zei (kvs.map fun kv => keyD kv.1) ds (by simpa using hl)
  exact .lkd (by rw [ZbP ne]; exact h) (DtAll.hid0 hp r (by omega)) rfl
 | _, _, .lkl (a := a) (ds := ds) h r z, hs => by
  have ne : a ≠ p := fun q => by subst q; rw [(Dt.lkl h r z).uniq hp] at hs; omega
  subst z
  simp only [PyData.dict.sizeOf_spec, List.cons.sizeOf_spec, Prod.mk.sizeOf_spec, PyData.tuple.sizeOf_spec, PyData.list.sizeOf_spec] at hs
  exact .lkl (by rw [ZbP ne]; exact h) (DtAll.hid0 hp r (by omega)) rfl
theorem DtAll.hid0 {H : Hp} {p : Addr} {e : PyData} (hp : Dt H (.ref p) e) : ∀ {d : List PyData} {v : List V}, DtAll H v d → sizeOf d < sizeOf e → DtAll (hide H p) v d
 | _, _, .nil, _ => .nil
 | _, _, .cons h r, hs => by
  simp only [List.cons.sizeOf_spec] at hs
  exact .cons (Dt.hid0 hp h (by omega)) (DtAll.hid0 hp r (by omega))
end
theorem DtAll.hid {H : Hp} {p : Addr} {e : PyData} (hp : Dt H (.ref p) e) {ds : List PyData} {vs : List V} (hs : sizeOf ds < sizeOf e) (h : DtAll H vs ds) : DtAll (hide H p) vs ds := DtAll.hid0 hp h hs
noncomputable abbrev dLI (ns : List Int) : PyData := .list (ns.map PyData.int)
noncomputable abbrev dLS (ns : List Str) : PyData := .list (ns.map PyData.str)
noncomputable abbrev dLB (ns : List Bool) : PyData := .list (ns.map PyData.bool)
theorem ZgO {H : Hp} : ∀ ns : List Int, DtAll H (ns.map V.int) (ns.map PyData.int)
 | [] => .nil
 | n :: ns => .cons (.int n) (ZgO ns)
theorem Zg8 {H : Hp} : ∀ ns : List Str, DtAll H (ns.map V.str) (ns.map PyData.str)
 | [] => .nil
 | n :: ns => .cons (.str n) (Zg8 ns)
theorem Zl5 {H : Hp} : ∀ ns : List Bool, DtAll H (ns.map V.bl) (ns.map PyData.bool)
 | [] => .nil
 | n :: ns => .cons (.bl n) (Zl5 ns)
theorem Zg4 {H : Hp} : ∀ {ns : List Int} {xs : List V}, DtAll H xs (ns.map PyData.int) → xs = ns.map V.int
 | [], _, .nil => rfl
 | n :: ns, _, .cons h r => by
  cases h
  rw [Zg4 r]
  rfl
theorem Zgv {H : Hp} : ∀ {ns : List Bool} {xs : List V}, DtAll H xs (ns.map PyData.bool) → xs = ns.map V.bl
 | [], _, .nil => rfl
 | n :: ns, _, .cons h r => by
  cases h
  rw [Zgv r]
  rfl
theorem Dt.li {H : Hp} {a : Addr} {ns : List Int} (h : H a = some (.lst (ns.map V.int))) : Dt H (.ref a) (dLI ns) := .lst h (ZgO ns)
theorem Dt.oli {H : Hp} {v : V} {ns : List Int} (h : Dt H v (dLI ns)) : ∃ a, v = .ref a ∧ H a = some (.lst (ns.map V.int)) := by
 cases h with
 | lst h r => exact ⟨_, rfl, by rw [← Zg4 r]; exact h⟩
theorem Dt.ol {H : Hp} {v : V} {ds : List PyData} (h : Dt H v (.list ds)) : ∃ a xs, v = .ref a ∧ H a = some (.lst xs) ∧ DtAll H xs ds := by
 cases h with
 | lst h r => exact ⟨_, _, rfl, h, r⟩
theorem Dt.ot {H : Hp} {v : V} {ds : List PyData} (h : Dt H v (.tuple ds)) : ∃ a xs, v = .ref a ∧ H a = some (.tup xs) ∧ DtAll H xs ds := by
 cases h with
 | tup h r => exact ⟨_, _, rfl, h, r⟩
theorem Dt.oi {H : Hp} {v : V} {i : Int} (h : Dt H v (.int i)) : v = .int i := by cases h; rfl
theorem Dt.ob {H : Hp} {v : V} {i : Bool} (h : Dt H v (.bool i)) : v = .bl i := by cases h; rfl
theorem Dt.os {H : Hp} {v : V} {i : Str} (h : Dt H v (.str i)) : v = .str i := by cases h; rfl
theorem Dt.on {H : Hp} {v : V} (h : Dt H v .none) : v = .non := by cases h; rfl
theorem DtAll.len {H : Hp} : ∀ {ds : List PyData} {vs : List V}, DtAll H vs ds → vs.length = ds.length
 | _, _, .nil => rfl
 | _, _, .cons _ r => by rw [List.length_cons, List.length_cons, r.len]
theorem DtAll.at {H : Hp} : ∀ {ds : List PyData} {vs : List V} {i : Nat} {d : PyData}, DtAll H vs ds → ds[i]? = some d → ∃ v, vs[i]? = some v ∧ Dt H v d
 | _, _, _, _, .nil, h => by simp at h
 | _, _, 0, _, .cons a _, h => by
  simp at h
  subst h
  exact ⟨_, rfl, a⟩
 | _, _, i + 1, _, .cons _ r, h => by
  obtain ⟨v, h1, h2⟩ := DtAll.at (i := i) r (by simpa using h)
  exact ⟨v, by simpa using h1, h2⟩
theorem DtAll.at' {H : Hp} : ∀ {ds : List PyData} {vs : List V} {i : Nat} {v : V}, DtAll H vs ds → vs[i]? = some v → ∃ d, ds[i]? = some d ∧ Dt H v d
 | _, _, _, _, .nil, h => by simp at h
 | _, _, 0, _, .cons a _, h => by
  simp at h
  subst h
  exact ⟨_, rfl, a⟩
 | _, _, i + 1, _, .cons _ r, h => by
  obtain ⟨v, h1, h2⟩ := DtAll.at' (i := i) r (by simpa using h)
  exact ⟨v, by simpa using h1, h2⟩
theorem DtAll.app {H : Hp} : ∀ {ds es : List PyData} {vs ws : List V}, DtAll H vs ds → DtAll H ws es → DtAll H (vs ++ ws) (ds ++ es)
 | _, _, _, _, .nil, h => h
 | _, _, _, _, .cons a r, h => .cons a (r.app h)
theorem DtAll.snoc {H : Hp} {ds : List PyData} {vs : List V} {v : V} {d : PyData} (h : DtAll H vs ds) (h' : Dt H v d) : DtAll H (vs ++ [v]) (ds ++ [d]) := h.app (.cons h' .nil)
noncomputable def grow (G H H2 : Hp) : Hp := fun a => match H a with
 | none => H2 a
 | some _ => G a
theorem Zx {G H H2 : Hp} {a : Addr} (h : H a = none) : grow G H H2 a = H2 a := by unfold grow; rw [h]
theorem Zt {G H H2 : Hp} {a : Addr} {o : HO} (h : H a = some o) : grow G H H2 a = G a := by unfold grow; rw [h]
theorem Zp {G H H2 : Hp} (e : Ex G H) : Ex G (grow G H H2) := fun a o h => by rw [Zt (e a o h)]; exact h
theorem Zh {G H H2 : Hp} (e : Ex G H) (e2 : Ex H H2) : Ex (grow G H H2) H2 := fun a o h => by
 cases q : H a with
 | none =>
  rw [Zx q] at h
  exact h
 | some u =>
  rw [Zt q] at h
  exact e2 a o (e a o h)
theorem Zf3 {G H H2 : Hp} {a : Addr} {o : HO} (h : H a = some o) (g : G a = none) : grow G H H2 a = none := by rw [Zt h]; exact g
theorem ZgR {G G' H H2 : Hp} (g : Ex G G') : Ex (grow G H H2) (grow G' H H2) := fun a o h => by
 cases q : H a with
 | none =>
  rw [Zx q] at h ⊢
  exact h
 | some u =>
  rw [Zt q] at h ⊢
  exact g a o h
theorem ZM {G H H2 H3 : Hp} (e : Ex H H2) (e2 : Ex H2 H3) : Ex (grow (grow G H H2) H2 H3) (grow G H H3) := fun a o h => by
 cases q : H a with
 | none =>
  rw [Zx q]
  cases r : H2 a with
  | none =>
   rw [Zx r] at h
   exact h
  | some u =>
   rw [Zt r, Zx q] at h
   exact e2 a o h
 | some u =>
  rw [Zt (e a u q), Zt q] at h
  rw [Zt q]
  exact h
theorem Zd3 {G H H2 H3 : Hp} (e2 : Ex H2 H3) : Ex (grow G H H2) (grow G H H3) := fun a o h => by
 cases q : H a with
 | none =>
  rw [Zx q] at h ⊢
  exact e2 a o h
 | some u =>
  rw [Zt q] at h ⊢
  exact h
end Kb
namespace Kb
open PySem L2 Evl
noncomputable def EvX (te : TE) (σ : L2.St) (G : Hp) (d : PyData) : Prop := ∀ H, Ex G H → ∀ Q : VK, (∀ x H2, Ex H H2 → Dt (grow G H H2) x d → Q x H2) → te σ H Q
/-- a new object -/
noncomputable def EvN (te : TE) (σ : L2.St) (G : Hp) (d : PyData) : Prop := ∀ H, Ex G H → ∀ Q : VK, (∀ p H2, Ex H H2 → H p = none → Dt (grow G H H2) (.ref p) d → Q (.ref p) H2) → te σ H Q
noncomputable def EvB (tt : TT) (σ : L2.St) (G : Hp) (b : Bool) : Prop := ∀ H, Ex G H → ∀ Q : Bool → Hp → Prop, (∀ H2, Ex H H2 → Q b H2) → tt σ H Q
noncomputable def EvAs (ta : TA) (σ : L2.St) (G : Hp) (ds : List PyData) : Prop := ∀ H, Ex G H → ∀ Q : List V → Hp → Prop, (∀ xs H2, Ex H H2 → DtAll (grow G H H2) xs ds → Q xs H2) → ta σ H Q
noncomputable def EvP (to : TO) (σ : L2.St) (G : Hp) (o : Option Int) : Prop := ∀ H, Ex G H → ∀ Q : Option Int → Hp → Prop, (∀ H2, Ex H H2 → Q o H2) → to σ H Q
/-- what a def promises that only makes data: R of the arguments and the answer -/
noncomputable def PSp (R : List PyData → PyData → Prop) : Sp := fun vs H Q _ => ∃ G ds d, Ex G H ∧ DtAll G vs ds ∧ R ds d ∧ ∀ x H2, Ex H H2 → Dt (grow G H H2) x d → Q x H2
section
variable {K : PySem.W.Frag} {w : World} {σ : L2.St} {G G' H : Hp} {te ta tb tc : TE} {t u : TT} {x : V} {d e f : PyData} {r : R2}
theorem EvX.mono (h : EvX te σ G d) (g : Ex G G') : EvX te σ G' d := fun H e Q q => h H (g.trans e) Q fun x H2 e2 dx => q x H2 e2 (dx.up (ZgR g))
theorem EvN.mono (h : EvN te σ G d) (g : Ex G G') : EvN te σ G' d := fun H e Q q => h H (g.trans e) Q fun x H2 e2 hx dx => q x H2 e2 hx (dx.up (ZgR g))
theorem EvB.mono {b : Bool} (h : EvB t σ G b) (g : Ex G G') : EvB t σ G' b := fun H e Q q => h H (g.trans e) Q q
theorem EvAs.mono {ta : TA} {ds : List PyData} (h : EvAs ta σ G ds) (g : Ex G G') : EvAs ta σ G' ds := fun H e Q q => h H (g.trans e) Q fun x H2 e2 dx => q x H2 e2 (dx.up (ZgR g))
theorem EvP.mono {to : TO} {o : Option Int} (h : EvP to σ G o) (g : Ex G G') : EvP to σ G' o := fun H e Q q => h H (g.trans e) Q q
theorem EvN.toX (h : EvN te σ G d) : EvX te σ G d := fun H e Q q => h H e Q fun p H2 e2 _ dx => q _ H2 e2 dx
theorem EvX.eq (h : EvX te σ G d) (q : d = e) : EvX te σ G e := q ▸ h
theorem EvN.eq (h : EvN te σ G d) (q : d = e) : EvN te σ G e := q ▸ h
theorem EvB.eq {a b : Bool} (h : EvB t σ G a) (q : a = b) : EvB t σ G b := q ▸ h
theorem Zl {i : Nat} (h : σ[i]? = some (some x)) (hd : Dt G x d) : EvX (tVar i) σ G d := fun H e Q q => ⟨x, h, q x H (Ex.refl H) (hd.up (Zp e))⟩
theorem Zqz (hd : ∀ G, Dt G x d) : EvX (tC x) σ G d := fun H e Q q => q x H (Ex.refl H) (hd _)
theorem ZkH {i : Int} : EvX (tC (.int i)) σ G (.int i) := Zqz fun _ => .int i
theorem ZsC {i : Bool} : EvX (tC (.bl i)) σ G (.bool i) := Zqz fun _ => .bl i
/-- one after the other, the second in the grown view -/
theorem Zqr (ha : EvX ta σ G d) (hb : EvX tb σ G e) {Q : VK} {H : Hp} (gh : Ex G H)
  (k : ∀ x y G2 H2, Ex G G2 → Ex H H2 → Ex G2 H2 → Ex G2 (grow G H H2) → Dt G2 x d → Dt G2 y e → r x y H2 Q) : tOp r ta tb σ H Q :=
 ha H gh _ fun x H1 e1 dx => hb.mono (Zp gh) H1 (Zh gh e1) _ fun y H2 e2 dy =>
  k x y (grow (grow G H H1) H1 H2) H2 ((Zp gh).trans (Zp (Zh gh e1))) (e1.trans e2) (Zh (Zh gh e1) e2) (ZM e1 e2) (dx.up (Zp (Zh gh e1))) dy
theorem Zgl (ha : EvX ta σ G d) (hb : EvX tb σ G e)
  (hr : ∀ x y G2 H2 Q, Ex G2 H2 → Dt G2 x d → Dt G2 y e → (∀ z H3, Ex H2 H3 → Dt (grow G2 H2 H3) z f → Q z H3) → r x y H2 Q) : EvX (tOp r ta tb) σ G f := fun H gh Q q =>
 Zqr ha hb gh fun x y G2 H2 g1 e2 g2 g3 dx dy => hr x y G2 H2 Q g2 dx dy fun z H3 e3 dz => q z H3 (e2.trans e3) (dz.up fun a o h => by
  cases p : H2 a with
  | none =>
   rw [Zx p] at h
   rw [Zx (fresh_back e2 p)]
   exact h
  | some u =>
   rw [Zt p] at h
   have := g3 a o h
   cases p' : H a with
   | none =>
    rw [Zx p'] at this ⊢
    exact e3 a o this
   | some u' =>
    rw [Zt p'] at this ⊢
    exact this)
/-- one operand -/
theorem ZpZ {rr : V → Hp → VK → Prop} {tg : TE} (htg : ∀ σ H Q, ta σ H (fun x H1 => rr x H1 Q) → tg σ H Q) (ha : EvX ta σ G d)
  (hr : ∀ x G2 H2 Q, Ex G2 H2 → Dt G2 x d → (∀ z H3, Ex H2 H3 → Dt (grow G2 H2 H3) z f → Q z H3) → rr x H2 Q) : EvX tg σ G f := fun H gh Q q =>
 htg σ H Q (ha H gh _ fun x H1 e1 dx => hr x (grow G H H1) H1 Q (Zh gh e1) dx fun z H3 e3 dz => q z H3 (e1.trans e3) (dz.up (ZM e1 e3)))
theorem Zoo {rr : V → Hp → VK → Prop} {tg : TE} (htg : ∀ σ H Q, ta σ H (fun x H1 => rr x H1 Q) → tg σ H Q) (ha : EvX ta σ G d)
  (hr : ∀ x G2 H2 Q, Ex G2 H2 → Dt G2 x d → (∀ p H3, Ex H2 H3 → H2 p = none → Dt (grow G2 H2 H3) (.ref p) f → Q (.ref p) H3) → rr x H2 Q) : EvN tg σ G f := fun H gh Q q =>
 htg σ H Q (ha H gh _ fun x H1 e1 dx => hr x (grow G H H1) H1 Q (Zh gh e1) dx fun z H3 e3 hz dz => q z H3 (e1.trans e3) (fresh_back e1 hz) (dz.up (ZM e1 e3)))
theorem here {G H : Hp} {x : V} (h : Dt G x d) (e : Ex G H) : Dt (grow G H H) x d := h.up (Zp e)
theorem ZsF (i j : Int) : decide (V.int i = V.int j) = decide (i = j) := by simp
theorem Zsp (i j : Str) : decide (V.str i = V.str j) = decide (i = j) := by simp
theorem Znx (i j : Bool) : decide (V.bl i = V.bl j) = decide (i = j) := by simp
theorem ZiF {i j : Int} (ha : EvX ta σ G (.int i)) (hb : EvX tb σ G (.int j)) : EvX (tOp rEq ta tb) σ G (.bool (decide (i = j))) :=
 Zgl ha hb fun x y G2 H2 Q g2 dx dy q => by
  cases dx
  cases dy
  exact ⟨rfl, q _ H2 (Ex.refl _) (by rw [ZsF]; exact .bl _)⟩
theorem Zq6 {i j : Str} (ha : EvX ta σ G (.str i)) (hb : EvX tb σ G (.str j)) : EvX (tOp rEq ta tb) σ G (.bool (decide (i = j))) :=
 Zgl ha hb fun x y G2 H2 Q g2 dx dy q => by
  cases dx
  cases dy
  exact ⟨rfl, q _ H2 (Ex.refl _) (by rw [Zsp]; exact .bl _)⟩
theorem ZgJ {i j : Bool} (ha : EvX ta σ G (.bool i)) (hb : EvX tb σ G (.bool j)) : EvX (tOp rEq ta tb) σ G (.bool (decide (i = j))) :=
 Zgl ha hb fun x y G2 H2 Q g2 dx dy q => by
  cases dx
  cases dy
  exact ⟨rfl, q _ H2 (Ex.refl _) (by rw [Znx]; exact .bl _)⟩
theorem Zbs {i j : Bool} (ha : EvX ta σ G (.bool i)) (hb : EvX tb σ G (.bool j)) : EvX (tOp rNe ta tb) σ G (.bool (!decide (i = j))) :=
 Zgl ha hb fun x y G2 H2 Q g2 dx dy q => by
  cases dx
  cases dy
  exact ⟨rfl, q _ H2 (Ex.refl _) (by rw [Znx]; exact .bl _)⟩
theorem Z9 {b : Bool} (h : EvX te σ G (.bool b)) : EvB (tTest te) σ G b := fun H e Q q => h H e _ fun x H2 e2 dx => by
 cases dx
 exact ⟨b, rfl, q H2 e2⟩
theorem ZeN {b : Bool} (h : EvX te σ G (.bool b)) : EvB (tB te) σ G b := fun H e Q q => h H e _ fun x H2 e2 dx => by
 cases dx
 exact ⟨b, rfl, q H2 e2⟩
theorem ZlT {a b : Bool} (h1 : EvB t σ G a) (h2 : a = true → EvB u σ G b) : EvB (tAnd t u) σ G (a && b) := fun H e Q q => h1 H e _ fun H2 e2 => by
 cases a with
 | true =>
  show u σ H2 Q
  exact h2 rfl H2 (e.trans e2) Q fun H3 e3 => q H3 (e2.trans e3)
 | false =>
  show Q false H2
  exact q H2 e2
theorem Zep {a b : Bool} (h1 : EvB t σ G a) (h2 : a = false → EvB u σ G b) : EvB (tOr t u) σ G (a || b) := fun H e Q q => h1 H e _ fun H2 e2 => by
 cases a with
 | true =>
  show Q true H2
  exact q H2 e2
 | false =>
  show u σ H2 Q
  exact h2 rfl H2 (e.trans e2) Q fun H3 e3 => q H3 (e2.trans e3)
theorem ZlO {a : Bool} (h1 : EvB t σ G a) : EvB (tNot t) σ G (!a) := fun H e _ q => h1 H e _ fun H2 e2 => q H2 e2
theorem Ziv : EvB tYes σ G true := fun H e Q q => q H (Ex.refl H)
theorem Zdc {a b : Bool} (h1 : EvX ta σ G (.bool a)) (h2 : a = true → EvX tb σ G (.bool b)) : EvX (tAndV ta tb) σ G (.bool (a && b)) := fun H e Q q => h1 H e _ fun x H2 e2 dx => by
 cases dx
 refine ⟨a, rfl, ?_⟩
 cases a with
 | true =>
  show tb σ H2 Q
  exact h2 rfl H2 (e.trans e2) Q fun y H3 e3 dy => q y H3 (e2.trans e3) (by cases dy; exact .bl _)
 | false =>
  show Q (.bl false) H2
  exact q _ H2 e2 (.bl _)
theorem ZnA {b : Bool} (h : EvB t σ G b) (h1 : b = true → EvX ta σ G d) (h2 : b = false → EvX tb σ G d) : EvX (tIf t ta tb) σ G d := fun H e Q q => h H e _ fun H2 e2 => by
 cases b with
 | true =>
  show ta σ H2 Q
  exact h1 rfl H2 (e.trans e2) Q fun y H3 e3 dy => q y H3 (e2.trans e3) (dy.up fun a o h => by
   cases p : H a with
   | none =>
    rw [Zx p]
    cases p2 : H2 a with
    | none =>
     rw [Zx p2] at h
     exact h
    | some u =>
     rw [Zt p2] at h
     exact e3 a o (e2 a o (e a o h))
   | some u =>
    rw [Zt (e2 a u p)] at h
    rw [Zt p]
    exact h)
 | false =>
  show tb σ H2 Q
  exact h2 rfl H2 (e.trans e2) Q fun y H3 e3 dy => q y H3 (e2.trans e3) (dy.up fun a o h => by
   cases p : H a with
   | none =>
    rw [Zx p]
    cases p2 : H2 a with
    | none =>
     rw [Zx p2] at h
     exact h
    | some u =>
     rw [Zt p2] at h
     exact e3 a o (e2 a o (e a o h))
   | some u =>
    rw [Zt (e2 a u p)] at h
    rw [Zt p]
    exact h)
theorem ea0 : EvAs tNil σ G [] := fun H e Q q => q [] H (Ex.refl H) .nil
theorem ea1 {tr : TA} {ds : List PyData} (h : EvX ta σ G d) (hr : EvAs tr σ G ds) : EvAs (tCons ta tr) σ G (d :: ds) := fun H gh Q q =>
 h H gh _ fun x H1 e1 dx => hr.mono (Zp gh) H1 (Zh gh e1) _ fun xs H2 e2 dxs => q _ H2 (e1.trans e2)
  (.cons (dx.up (Zd3 e2)) (dxs.up (ZM e1 e2)))
theorem ZiE {G H : Hp} {p : Addr} {o : HO} (h : H p = none) : grow G H (upd H p o) p = some o := by rw [Zx h, upd_same]
theorem ZcB {G H : Hp} {p : Addr} {xs : List V} {ds : List PyData} (h : H p = none) (gh : Ex G H) (hd : DtAll G xs ds) : Dt (grow G H (upd H p (.lst xs))) (.ref p) (.list ds) :=
 .lst (ZiE h) (hd.up (Zp gh))
theorem ZkA {G H : Hp} {p : Addr} {xs : List V} {ds : List PyData} (h : H p = none) (gh : Ex G H) (hd : DtAll G xs ds) : Dt (grow G H (upd H p (.tup xs))) (.ref p) (.tuple ds) :=
 .tup (ZiE h) (hd.up (Zp gh))
theorem Zrs {ta : TA} {ds : List PyData} (h : EvAs ta σ G ds) (hl : ds.length ≤ 100000 := by simp <;> omega) : EvN (tLst ta) σ G (.list ds) := fun H gh Q q =>
 h H gh _ fun xs H1 e1 dx => ⟨sz_of (by rw [dx.len]; exact hl), fun p hp => q p _ (e1.trans (Ex.new hp)) (fresh_back e1 hp) ((ZcB hp (Zh gh e1) dx).up (ZM e1 (Ex.new hp)))⟩
theorem Zrm {ta : TA} {ds : List PyData} (h : EvAs ta σ G ds) (hl : ds.length ≤ 100000 := by simp <;> omega) : EvN (tTup ta) σ G (.tuple ds) := fun H gh Q q =>
 h H gh _ fun xs H1 e1 dx => ⟨sz_of (by rw [dx.len]; exact hl), fun p hp => q p _ (e1.trans (Ex.new hp)) (fresh_back e1 hp) ((ZkA hp (Zh gh e1) dx).up (ZM e1 (Ex.new hp)))⟩
theorem ZhI {rr : List V → Hp → VK → Prop} (ha : EvX ta σ G d) (hr : ∀ x G2 H2 Q, Ex G2 H2 → Dt G2 x d → (∀ z H3, Ex H2 H3 → Dt (grow G2 H2 H3) z f → Q z H3) → rr [x] H2 Q) : EvX (tCB rr (tCons ta tNil)) σ G f :=
 ZpZ (rr := fun x H Q => rr [x] H Q) (fun _ _ _ h => h) ha hr
theorem Zlh {ds : List PyData} (ha : EvX ta σ G (.list ds)) : EvX (tCB (rLenS K) (tCons ta tNil)) σ G (.int (ds.length : Nat)) := ZhI ha fun x G2 H2 Q g2 dx q => by
 obtain ⟨a, xs, rfl, h, r⟩ := dx.ol
 exact ⟨a, xs, rfl, .inl (sq_of (g2 _ _ h)), q _ H2 (Ex.refl _) (by rw [r.len]; exact .int _)⟩
theorem Zjn {ds : List PyData} (ha : EvX ta σ G (.tuple ds)) : EvX (tCB (rLenS K) (tCons ta tNil)) σ G (.int (ds.length : Nat)) := ZhI ha fun x G2 H2 Q g2 dx q => by
 obtain ⟨a, xs, rfl, h, r⟩ := dx.ot
 exact ⟨a, xs, rfl, .inr (st_of (g2 _ _ h)), q _ H2 (Ex.refl _) (by rw [r.len]; exact .int _)⟩
theorem ZkT {bs : List Bool} (ha : EvX ta σ G (dLB bs)) : EvX (tCB (rAll K) (tCons ta tNil)) σ G (.bool (bs.all id)) := ZhI ha fun x G2 H2 Q g2 dx q => by
 obtain ⟨a, xs, rfl, h, r⟩ := dx.ol
 rw [Zgv r] at h
 exact ⟨a, bs, rfl, sq_of (g2 _ _ h), q _ H2 (Ex.refl _) (.bl _)⟩
theorem DtAll.atI {H : Hp} {ds : List PyData} {vs : List V} {i : Int} {d : PyData} (h : DtAll H vs ds) (a : L2.atI ds i = some d) : ∃ v, L2.atI vs i = some v ∧ Dt H v d := by
 unfold L2.atI at a ⊢
 rw [h.len]
 cases q : ixN ds.length i with
 | none =>
  rw [q] at a
  cases a
 | some j =>
  rw [q] at a
  exact h.at a
/-- the items of [lo:hi] -/
noncomputable def cutA {α : Type} (xs : List α) (lo hi : Option Int) : List α := (xs.drop (HT.sIx xs.length 0 lo)).take (HT.sIx xs.length xs.length hi - HT.sIx xs.length 0 lo)
theorem DtAll.drop {H : Hp} : ∀ {ds : List PyData} {vs : List V} (n : Nat), DtAll H vs ds → DtAll H (vs.drop n) (ds.drop n)
 | _, _, 0, h => h
 | _, _, _ + 1, .nil => .nil
 | _, _, n + 1, .cons _ r => r.drop n
theorem DtAll.take {H : Hp} : ∀ {ds : List PyData} {vs : List V} (n : Nat), DtAll H vs ds → DtAll H (vs.take n) (ds.take n)
 | _, _, 0, _ => .nil
 | _, _, _ + 1, .nil => .nil
 | _, _, n + 1, .cons a r => .cons a (r.take n)
theorem DtAll.cut {H : Hp} {ds : List PyData} {vs : List V} (lo hi : Option Int) (h : DtAll H vs ds) : DtAll H (cutV vs lo hi) (cutA ds lo hi) := by
 unfold cutV cutA
 rw [h.len]
 exact (h.drop _).take _
theorem DtAll.rev {H : Hp} : ∀ {ds : List PyData} {vs : List V}, DtAll H vs ds → DtAll H vs.reverse ds.reverse
 | _, _, .nil => .nil
 | _, _, .cons a r => by
  rw [List.reverse_cons, List.reverse_cons]
  exact r.rev.snoc a
theorem ep0 : EvP tNoPart σ G none := fun H _ _ q => q H (Ex.refl H)
theorem ep1 {i : Int} (h : EvX te σ G (.int i)) : EvP (tPart te) σ G (some i) := fun H e _ q => h H e _ fun x H2 e2 dx => by
 cases dx
 exact ⟨i, rfl, q H2 e2⟩
theorem Zfa {ta : TA} {R : List PyData → PyData → Prop} {ds : List PyData} (h : EvAs ta σ G ds) (hR : R ds d) : EvX (tCall (PSp R) [] E0 ta) σ G d := fun H gh Q q =>
 h H gh _ fun xs H1 e1 dx => by
  rw [List.append_nil]
  exact ⟨grow G H H1, ds, d, Zh gh e1, dx, hR, fun x H2 e2 dz => q x H2 (e1.trans e2) (dz.up (ZM e1 e2))⟩
end
end Kb
namespace Kb
open PySem L2 Evl
section
variable {K : PySem.W.Frag} {w : World} {σ : L2.St} {G G' H : Hp} {te ta tb tl : TE} {tt : TT} {d e f : PyData}
theorem Zjp {J : It} {n : Nat} {Gd : Hp → Prop} {Y : Nat → Hp → V → Hp → Prop} (wk : Walk J n Gd Y) {g : TG} {vs : List Nat} {H1 : Hp} {Q : VK} (gh : Ex G H1) (hn : n ≤ 50000) (hG : ∀ H', Ex H1 H' → Gd H')
  (p : Nat → Bool) (f : Nat → PyData)
  (hs : ∀ i x H H' Gi, i < n → Ex G Gi → Ex Gi H → Ex H1 H → Y i H x H' → ∀ R : L2.St → Hp → Prop, (∀ σ2 H2, Ex H H2 → wipe σ2 vs = wipe σ vs → EvB tt σ2 Gi (p i) → (p i = true → EvX te σ2 Gi (f i)) → R σ2 H2) → g x (wipe σ vs) H' R)
  (q : ∀ D H2, Ex H1 H2 → H1 D = none → Dt (grow G H1 H2) (.ref D) (.list (((List.range n).filter p).map f)) → Q (.ref D) H2) :
  ∀ D, H1 D = none → ∃ W : Nat → Nat → Hp → Prop, (∃ m, W 0 m (upd H1 D (.lst []))) ∧ ∀ i m H, W i m H →
   (J.stop i H ∧ Q (.ref D) H) ∨ (J.go i H ∧ ∃ Nx : Hp → Prop, (∀ H', Nx H' → ∃ m', m' < m ∧ W (i + 1) m' H') ∧ ∀ x H', J.yld i H x H' → g x (wipe σ vs) H' fun σ2 H2 => wipe σ2 vs = wipe σ vs ∧ tt σ2 H2 fun b H3 =>
    if b = true then te σ2 H3 fun y H4 => ∃ acc, H4 D = some (.lst acc) ∧ acc.length < sizeLine ∧ Nx (upd H4 D (.lst (acc ++ [y]))) else Nx H3) := by
 intro D hD
 refine lc_it wk (Qd := fun H => Q (.ref D) H) (fun i H => Ex H1 H ∧ ∃ xs Gi, H D = some (.lst xs) ∧ Ex G Gi ∧ Ex Gi H ∧ Gi D = none ∧ (∀ a o u, Gi a = some o → H1 a = some u → G a = some o) ∧ DtAll Gi xs (((List.range i).filter p).map f)) ?_ ?_ ?_ ?_
 ·exact ⟨Ex.new hD, [], G, upd_same, Ex.refl G, gh.trans (Ex.new hD), fresh_back gh hD, fun a o u h _ => h, .nil⟩
 ·rintro i H hi ⟨e1, _⟩
  exact hG H e1
 ·rintro i x H H' hi ⟨e1, xs, Gi, hL, g1, g2, g3, g4, hd⟩ hy
  have hlen : xs.length ≤ i := by
   rw [hd.len, List.length_map]
   have := List.length_filter_le p (List.range i)
   rw [List.length_range] at this
   exact this
  refine hs i x H H' Gi hi g1 g2 e1 hy _ fun σ2 H2 e2 hw hb he => ⟨hw, hb H2 (g2.trans e2) _ fun H3 e3 => ?_⟩
  have e13 := e2.trans e3
  cases hp : p i with
  | true =>
   refine iteT ?_
   refine he hp H3 (g2.trans e13) _ fun y H4 e4 dy => ⟨xs, e4 _ _ (e13 _ _ hL), sz_lt (by omega), ?_⟩
   have e14 := e13.trans e4
   have gD : grow Gi H3 H4 D = none := Zf3 (e13 _ _ hL) g3
   refine ⟨(e1.trans e14).mut hD, xs ++ [y], grow Gi H3 H4, upd_same, g1.trans (Zp (g2.trans e13)), (Zh (g2.trans e13) e4).mut gD, gD, fun a o u h h1 => ?_, ?_⟩
   ·rw [Zt (e13 _ _ (e1 _ _ h1))] at h
    exact g4 a o u h h1
   ·rw [List.range_succ, List.filter_append, List.map_append, List.filter_cons, if_pos hp]
    exact (hd.up (Zp (g2.trans e13))).snoc dy
  | false =>
   refine iteF ?_
   refine ⟨e1.trans e13, xs, Gi, e13 _ _ hL, g1, g2.trans e13, g3, g4, ?_⟩
   rw [List.range_succ, List.filter_append, List.map_append, List.filter_cons, if_neg (by rw [hp]; decide)]
   show DtAll Gi xs (_ ++ [])
   rw [List.append_nil]
   exact hd
 ·rintro H ⟨e1, xs, Gi, hL, g1, g2, g3, g4, hd⟩
  refine q D H e1 hD (.lst (by rw [Zx hD]; exact hL) (hd.up fun a o h => ?_))
  cases z : H1 a with
  | none =>
   rw [Zx z]
   exact g2 a o h
  | some u =>
   rw [Zt z]
   exact g4 a o u h z
theorem ZkI {α : Type} (P : α → Bool) (F : α → PyData) : ∀ (ds : List α) (p : Nat → Bool) (f : Nat → PyData), (∀ i d, ds[i]? = some d → p i = P d ∧ f i = F d) → ((List.range ds.length).filter p).map f = (ds.filter P).map F := by
 intro ds
 induction ds with
 | nil => intro p f h; rfl
 | cons d ds ih =>
  intro p f h
  have h0 := h 0 d rfl
  have ih' := ih (fun i => p (i + 1)) (fun i => f (i + 1)) (fun i e he => h (i + 1) e (by simpa using he))
  rw [List.length_cons, List.range_succ_eq_map, List.filter_cons, List.filter_cons, h0.1, List.filter_map]
  have e2 : (List.map (fun i => f (i + 1)) (List.filter (fun i => p (i + 1)) (List.range ds.length))) = List.map f (List.map Nat.succ (List.filter (p ∘ Nat.succ) (List.range ds.length))) := by
   rw [List.map_map]
   rfl
  rw [e2] at ih'
  cases hP : P d with
  | true =>
   rw [if_pos rfl, if_pos rfl, List.map_cons, List.map_cons, h0.2, ih']
  | false =>
   rw [if_neg (by decide), if_neg (by decide), ih']
end
noncomputable def insR (x : Int) : List Int → List Int
 | [] => [x]
 | y :: r => if x < y then x :: y :: r else if x = y then y :: r else y :: insR x r
noncomputable def rise (xs : List Int) : List Int := xs.foldr insR []
theorem ZfV (x k : Int) : ∀ l : List Int, k ∈ insR x l ↔ k = x ∨ k ∈ l
 | [] => by simp [insR]
 | y :: r => by
  have ih := ZfV x k r
  unfold insR
  split
  ·simp
  ·split
   ·rename_i h; subst h; simp
   ·simp only [List.mem_cons, ih]
    constructor
    ·rintro (h | h | h) <;> simp [h]
    ·rintro (h | h | h) <;> simp [h]
theorem ZiH (x : Int) : ∀ l : List Int, l.Pairwise (· < ·) → (insR x l).Pairwise (· < ·)
 | [], _ => by simp [insR]
 | y :: r, h => by
  obtain ⟨h1, h2⟩ := List.pairwise_cons.mp h
  unfold insR
  split
  ·rename_i q
   refine List.pairwise_cons.mpr ⟨fun z hz => ?_, h⟩
   rcases List.mem_cons.mp hz with rfl | hz
   ·exact q
   ·exact Int.lt_trans q (h1 z hz)
  ·split
   ·exact h
   ·refine List.pairwise_cons.mpr ⟨fun z hz => ?_, ZiH x r h2⟩
    rcases (ZfV x z r).mp hz with rfl | hz
    ·omega
    ·exact h1 z hz
theorem Zcw (k : Int) : ∀ xs : List Int, k ∈ rise xs ↔ k ∈ xs
 | [] => by simp [rise]
 | x :: xs => by
  have ih := Zcw k xs
  show k ∈ insR x (rise xs) ↔ _
  rw [ZfV, ih, List.mem_cons]
theorem Zdw : ∀ xs : List Int, (rise xs).Pairwise (· < ·)
 | [] => List.Pairwise.nil
 | x :: xs => ZiH x _ (Zdw xs)
theorem Zh0 : ∀ {l m : List Int}, l.Pairwise (· < ·) → m.Pairwise (· < ·) → (∀ k, k ∈ l ↔ k ∈ m) → l = m
 | [], [], _, _, _ => rfl
 | [], y :: m, _, _, h => absurd ((h y).mpr (List.mem_cons_self)) (by simp)
 | x :: l, [], _, _, h => absurd ((h x).mp (List.mem_cons_self)) (by simp)
 | x :: l, y :: m, hl, hm, h => by
  obtain ⟨l1, l2⟩ := List.pairwise_cons.mp hl
  obtain ⟨m1, m2⟩ := List.pairwise_cons.mp hm
  have exy : x = y := by
   rcases List.mem_cons.mp ((h x).mp List.mem_cons_self) with q | q
   ·exact q
   ·rcases List.mem_cons.mp ((h y).mpr List.mem_cons_self) with q' | q'
    ·exact q'.symm
    ·have a := m1 x q
     have b := l1 y q'
     omega
  subst exy
  rw [Zh0 l2 m2 fun k => ?_]
  constructor
  ·intro hk
   rcases List.mem_cons.mp ((h k).mp (List.mem_cons_of_mem _ hk)) with q | q
   ·have := l1 k hk
    omega
   ·exact q
  ·intro hk
   rcases List.mem_cons.mp ((h k).mpr (List.mem_cons_of_mem _ hk)) with q | q
   ·have := m1 k hk
    omega
   ·exact q
end Kb
namespace Kb
open PySem L2 Evl
theorem DtAll.one {H : Hp} {vs : List V} {d : PyData} (h : DtAll H vs [d]) : ∃ v, vs = [v] ∧ Dt H v d := by
 cases h with
 | cons a b =>
  cases b
  exact ⟨_, rfl, a⟩
theorem DtAll.two {H : Hp} {vs : List V} {d e : PyData} (h : DtAll H vs [d, e]) : ∃ v u, vs = [v, u] ∧ Dt H v d ∧ Dt H u e := by
 cases h with
 | cons a b =>
  obtain ⟨u, rfl, hb⟩ := b.one
  exact ⟨_, u, rfl, a, hb⟩
theorem DtAll.three {H : Hp} {vs : List V} {d e f : PyData} (h : DtAll H vs [d, e, f]) : ∃ v u x, vs = [v, u, x] ∧ Dt H v d ∧ Dt H u e ∧ Dt H x f := by
 cases h with
 | cons a b =>
  obtain ⟨u, x, rfl, hb, hc⟩ := b.two
  exact ⟨_, u, x, rfl, a, hb, hc⟩
/-- from the view G of H to the view G1 of H1: nothing is lost, what was kept apart stays apart -/
structure Go (G H G1 H1 : Hp) : Prop where
 gg : Ex G G1
 gh : Ex G1 H1
 hh : Ex H H1
 no : ∀ a u, H a = some u → G1 a = G a
theorem Go.grow {G H H1 : Hp} (gh : Ex G H) (e : Ex H H1) : Go G H (grow G H H1) H1 := ⟨Zp gh, Zh gh e, e, fun _ _ h => Zt h⟩
theorem Go.stay {G H H1 : Hp} (gh : Ex G H) (e : Ex H H1) : Go G H G H1 := ⟨Ex.refl G, gh.trans e, e, fun _ _ _ => rfl⟩
theorem Go.trans {G H G1 H1 G2 H2 : Hp} (a : Go G H G1 H1) (b : Go G1 H1 G2 H2) : Go G H G2 H2 :=
 ⟨a.gg.trans b.gg, b.gh, a.hh.trans b.hh, fun x o h => (b.no x o (a.hh x o h)).trans (a.no x o h)⟩
/-- what a grown view tells is told by the first one, grown as far -/
theorem Go.fin {G H G1 H1 H2 : Hp} (go : Go G H G1 H1) (e : Ex H1 H2) : Ex (Kb.grow G1 H1 H2) (Kb.grow G H H2) := fun a o h => by
 cases z : H a with
 | none =>
  rw [Zx z]
  exact Zh go.gh e a o h
 | some u =>
  rw [Zt (go.hh _ _ z), go.no _ _ z] at h
  rw [Zt z]
  exact h
theorem Zhj {α : Type} (xs : List α) : xs.filter (fun _ => true) = xs := List.filter_eq_self.mpr fun _ _ => rfl
/-- the end of a def: what its body tells is told to the caller -/
theorem Go.ret {G H G1 H1 : Hp} {Q : VK} {d : PyData} (go : Go G H G1 H1) (q : ∀ p H2, Ex H H2 → H p = none → Dt (Kb.grow G H H2) (.ref p) d → Q (.ref p) H2) : ∀ p H2, Ex H1 H2 → H1 p = none → Dt (Kb.grow G1 H1 H2) (.ref p) d → Q (.ref p) H2 :=
 fun p H2 e hp dp => q p H2 (go.hh.trans e) (fresh_back go.hh hp) (dp.up (go.fin e))
theorem Go.retX {G H G1 H1 : Hp} {Q : VK} {d : PyData} (go : Go G H G1 H1) (q : ∀ x H2, Ex H H2 → Dt (Kb.grow G H H2) x d → Q x H2) : ∀ x H2, Ex H1 H2 → Dt (Kb.grow G1 H1 H2) x d → Q x H2 :=
 fun x H2 e dp => q x H2 (go.hh.trans e) (dp.up (go.fin e))
section
variable {K : PySem.W.Frag} {w : World} {σ : L2.St} {G G' H : Hp} {te ta tb tl : TE} {tt : TT} {d e f : PyData} {D : Ends} {tz tu tw : TS} {g : TG}
theorem ZaT {b : Bool} (gh : Ex G H) (h : EvB tt σ G b) (h1 : b = true → ∀ H1, Go G H G H1 → tu { D with nx := tz D } σ H1) (h2 : b = false → ∀ H1, Go G H G H1 → tw { D with nx := tz D } σ H1) : tSeq (tIfS tt tu tw) tz D σ H :=
 h H gh _ fun H1 e1 => by
  cases b with
  | true => exact iteT (h1 rfl H1 (Go.stay gh e1))
  | false => exact iteF (h2 rfl H1 (Go.stay gh e1))
theorem Zrj {b : Bool} (gh : Ex G H) (h : EvB tt σ G b) (h1 : b = true → ∀ H1, Go G H G H1 → tu D σ H1) (h2 : b = false → ∀ H1, Go G H G H1 → tw D σ H1) : tIfS tt tu tw D σ H :=
 h H gh _ fun H1 e1 => by
  cases b with
  | true => exact iteT (h1 rfl H1 (Go.stay gh e1))
  | false => exact iteF (h2 rfl H1 (Go.stay gh e1))
theorem Zdx (gh : Ex G H) (h : EvX te σ G d) (k : ∀ x H1, Ex H H1 → Dt (grow G H H1) x d → D.rt x H1) : tRet te D σ H := h H gh _ k
end
theorem ZY {P : Program} {w : World} {K : PySem.W.Frag} {mg : Str → Option Value} {base : Heap} {x : Str} {k : Nat} {ps : List Str} {sp : Sp} {f : Addr} {fd : FuncData} (F : FnOk P w K mg base CX0 k f fd ps sp) (hm : mg x = some (.ref f)) (hk : PySem.W.keepIn K (.ref f) = true) (hb : Binds K fd ps []) : Cal P w K mg base x k ps sp := ⟨f, fd, F, hm, hk, hb⟩
end Kb
namespace Kb
open PySem L2 Evl
section
variable {K : PySem.W.Frag} {w : World} {σ : L2.St} {G G' H : Hp} {te ta tb tl : TE} {tt : TT} {d e f : PyData} {D : Ends} {tz tu tw : TS} {g : TG}
noncomputable def tyD : PyData → String
 | .none => "NoneType"
 | .bool _ => "bool"
 | .int _ => "int"
 | .str _ => "str"
 | .list _ => "list"
 | .tuple _ => "tuple"
 | .dict _ => "dict"
noncomputable def notDict : PyData → Bool
 | .dict _ => false
 | _ => true
theorem Dt.ty {x : V} (h : Dt H x d) (hn : notDict d = true) : TyX K H x (.type (tyD d)) := by
 cases h with
 | non => exact .base .non
 | bl b => exact .base (.bl b)
 | int i => exact .base (.int i)
 | str x => exact .base (.str x)
 | lst h r => exact .base (.lst h)
 | tup h r => exact .base (.tup h)
 | dct h r => exact nomatch hn
 | ins h r => exact nomatch hn
 | lkd h r => exact nomatch hn
 | lkl h r => exact nomatch hn
theorem ZL {n : String} {b : Bool} (ha : EvX ta σ G d) (hk : kitB (tyD d) n = some b) (hn : notDict d = true := by rfl) : EvX (tCB (rIsi K) (tCons ta (tCons (tC (.ty n)) tNil))) σ G (.bool b) := fun H gh Q q => ha H gh _ fun x H1 e1 dx =>
 ⟨x, .ty n, .type (tyD d), .type n, b, rfl, .ty n, (dx.up (Zh gh e1)).ty hn, kit_ty hk, q _ H1 e1 (.bl _)⟩
theorem Zc4 {n m : String} {a b c : Bool} (ha : EvX ta σ G d) (hk : kitB (tyD d) n = some a) (hk' : kitB (tyD d) m = some b) (hc : c = (a || b)) (hn : notDict d = true := by rfl) : EvX (tCB (rIsiT K) (tCons ta (tCons (tTup (tCons (tC (.ty n)) (tCons (tC (.ty m)) tNil))) tNil))) σ G (.bool c) := fun H gh Q q => ha H gh _ fun x H1 e1 dx =>
 ⟨(by show 2 ≤ sizeLine; decide), fun p hp => ⟨x, p, [.ty n, .ty m], .type (tyD d), [.type n, .type m], c, rfl, upd_same, .cons (.ty n) (.cons (.ty m) .nil), (dx.up ((Zh gh e1).trans (Ex.new hp))).ty hn, by
  subst hc
  refine kitAny_cons (kit_ty hk) (fun z => kitAny_cons (kit_ty hk') (fun z' => ?_) fun z' => ?_) fun z => ?_
  ·subst z
   subst z'
   exact kitAny_nil
  ·subst z
   subst z'
   rfl
  ·subst z
   rfl, q _ _ (e1.trans (Ex.new hp)) (.bl _)⟩⟩
theorem Zlj {a b : Addr} {xs ys : List V} {n : Nat} (hn : n = min xs.length ys.length) : Walk (RZ.ItzT K a b) n (fun H => SqT K H a xs ∧ SqT K H b ys) (YPair (fun i => xs[i]?) (fun i => ys[i]?)) := by
 subst hn
 refine ⟨fun i _ hi q => ?_, fun _ q => ⟨xs, ys, q.1, q.2, by omega⟩, fun i H v H' _ q y => ?_⟩
 ·have h1 : i < xs.length := by omega
  have h2 : i < ys.length := by omega
  exact ⟨xs, ys, xs[i], ys[i], q.1, q.2, by simp [h1], by simp [h2]⟩
 ·obtain ⟨T, x, z, h1, h2, h3, h4, h5⟩ := y
  exact ⟨T, x, z, h1, h2, h3, h4 xs q.1, h5 ys q.2⟩
/-- zip of two lists or of two tuples, of one length -/
theorem ZjT {ta : TA} {ds es : List PyData} {j j' : Nat} {vs : List Nat} (F : Nat → PyData) (h : EvAs ta σ G [.list ds, .list es] ∨ EvAs ta σ G [.tuple ds, .tuple es]) (hde : ds.length = es.length) (hz : ds.length ≤ 50000) (hw : ∀ x y, wipe (((wipe σ vs).set j (some x)).set j' (some y)) vs = wipe σ vs)
  (hb : ∀ (i : Nat) x y d e Gi, ds[i]? = some d → es[i]? = some e → Ex G Gi → Dt Gi x d → Dt Gi y e → EvX te (((wipe σ vs).set j (some x)).set j' (some y)) Gi (F i)) :
  EvN (tLc (RZ.iZipA K ta) (gTup K 2 (gCons (gName j) (gCons (gName j') gNil))) tYes te vs) σ G (.list ((List.range ds.length).map F)) := fun H gh Q q => by
 rcases h with h | h
 ·refine h H gh _ fun x H1 e1 dx => ?_
  obtain ⟨v, u, rfl, dx, dy⟩ := dx.two
  obtain ⟨a, xs, rfl, ha, r⟩ := dx.ol
  obtain ⟨a', xs', rfl, ha', r'⟩ := dy.ol
  have gh1 := Zh gh e1
  have gg : Ex G (grow G H H1) := Zp gh
  have hl : xs.length = ds.length := r.len
  have hl' : xs'.length = es.length := r'.len
  refine ⟨a, a', xs, xs', rfl, .inl ⟨sq_of (gh1 _ _ ha), sq_of (gh1 _ _ ha'), ?_⟩⟩
  refine Zjp (G := grow G H H1) (walk_zip (K := K) (a := a) (b := a') (xs := xs) (ys := xs') (n := ds.length) (by omega)) gh1 (by omega) (fun H' e' => ⟨sq_of (e' _ _ (gh1 _ _ ha)), sq_of (e' _ _ (gh1 _ _ ha'))⟩) (fun _ => true) F ?_ ?_
  ·intro i y H2 H2' Gi hi g1 g2 _ hy R k
   obtain ⟨T, x1, x2, rfl, hT, rfl, h1, h2⟩ := hy
   obtain ⟨dd, hdi, hdd⟩ := r.at' h1
   obtain ⟨de, hei, hde'⟩ := r'.at' h2
   exact ⟨T, _, rfl, st_of upd_same, rfl, _, _, rfl, _, _, rfl, rfl, k _ _ (Ex.new hT) (hw _ _) Ziv fun _ => hb i x1 x2 dd de Gi hdi hei (gg.trans g1) (hdd.up g1) (hde'.up g1)⟩
  ·intro D H2 e2 hD dD
   rw [Zhj] at dD
   exact q D H2 (e1.trans e2) (fresh_back e1 hD) (dD.up (ZM e1 e2))
 ·refine h H gh _ fun x H1 e1 dx => ?_
  obtain ⟨v, u, rfl, dx, dy⟩ := dx.two
  obtain ⟨a, xs, rfl, ha, r⟩ := dx.ot
  obtain ⟨a', xs', rfl, ha', r'⟩ := dy.ot
  have gh1 := Zh gh e1
  have gg : Ex G (grow G H H1) := Zp gh
  have hl : xs.length = ds.length := r.len
  have hl' : xs'.length = es.length := r'.len
  refine ⟨a, a', xs, xs', rfl, .inr ⟨st_of (gh1 _ _ ha), st_of (gh1 _ _ ha'), ?_⟩⟩
  refine Zjp (G := grow G H H1) (Zlj (K := K) (a := a) (b := a') (xs := xs) (ys := xs') (n := ds.length) (by omega)) gh1 (by omega) (fun H' e' => ⟨st_of (e' _ _ (gh1 _ _ ha)), st_of (e' _ _ (gh1 _ _ ha'))⟩) (fun _ => true) F ?_ ?_
  ·intro i y H2 H2' Gi hi g1 g2 _ hy R k
   obtain ⟨T, x1, x2, rfl, hT, rfl, h1, h2⟩ := hy
   obtain ⟨dd, hdi, hdd⟩ := r.at' h1
   obtain ⟨de, hei, hde'⟩ := r'.at' h2
   exact ⟨T, _, rfl, st_of upd_same, rfl, _, _, rfl, _, _, rfl, rfl, k _ _ (Ex.new hT) (hw _ _) Ziv fun _ => hb i x1 x2 dd de Gi hdi hei (gg.trans g1) (hdd.up g1) (hde'.up g1)⟩
  ·intro D H2 e2 hD dD
   rw [Zhj] at dD
   exact q D H2 (e1.trans e2) (fresh_back e1 hD) (dD.up (ZM e1 e2))
theorem Ze6 (ha : EvX ta σ G d) {b : Bool} (hb : b = (match d with | .none => true | _ => false)) : EvX (tOp (fun x y H Q => y = .non ∧ Q (.bl (decide (x = .non))) H) ta (tC .non)) σ G (.bool b) := fun H gh Q q => ha H gh _ fun x H1 e1 dx => by
 refine ⟨rfl, q _ H1 e1 ?_⟩
 subst hb
 cases dx <;> first | exact .bl true | exact .bl false
noncomputable def rAbs : List V → Hp → VK → Prop := fun xs H Q => ∃ i, xs = [.int i] ∧ Q (.int (if i < 0 then -i else i)) H
end
theorem Zf5 : kitB "NoneType" "list" = some false := by decide +kernel
theorem Zfu : kitB "NoneType" "tuple" = some false := by decide +kernel
theorem Zh8 : kitB "bool" "list" = some false := by decide +kernel
theorem Zhr : kitB "bool" "tuple" = some false := by decide +kernel
theorem ZeS : kitB "bool" "bool" = some true := by decide +kernel
theorem ZfP : kitB "bool" "str" = some false := by decide +kernel
theorem ZfD : kitB "bool" "int" = some true := by decide +kernel
theorem Zi3 : kitB "int" "list" = some false := by decide +kernel
theorem Zh9 : kitB "int" "tuple" = some false := by decide +kernel
theorem ZfO : kitB "int" "bool" = some false := by decide +kernel
theorem Zgi : kitB "int" "str" = some false := by decide +kernel
theorem Zf7 : kitB "int" "int" = some true := by decide +kernel
theorem Zjg : kitB "str" "list" = some false := by decide +kernel
theorem ZhU : kitB "str" "tuple" = some false := by decide +kernel
theorem ZfL : kitB "str" "bool" = some false := by decide +kernel
theorem Zgr : kitB "str" "str" = some true := by decide +kernel
theorem ZgC : kitB "str" "int" = some false := by decide +kernel
theorem Zdy : kitB "list" "list" = some true := by decide +kernel
theorem ZcQ : kitB "list" "tuple" = some false := by decide +kernel
theorem ZcS : kitB "tuple" "list" = some false := by decide +kernel
theorem Zcj : kitB "tuple" "tuple" = some true := by decide +kernel
theorem Zjz {α : Type} (p : α → Bool) (ns : List α) : PyData.list (ns.map fun k => PyData.bool (p k)) = dLB (ns.map p) := by
 show _ = PyData.list (List.map _ (List.map _ _))
 rw [List.map_map]
 rfl
/-- all but d stays -/
noncomputable def Mv (d : Addr) (H H2 : Hp) : Prop := ∀ a o, a ≠ d → H a = some o → H2 a = some o
theorem Mv.of {d : Addr} {H H2 : Hp} (e : Ex H H2) : Mv d H H2 := fun a o _ h => e a o h
theorem Mv.trans {d : Addr} {H H1 H2 : Hp} (a : Mv d H H1) (b : Mv d H1 H2) : Mv d H H2 := fun x o n h => b x o n (a x o n h)
theorem Mv.ex {d : Addr} {G H H2 : Hp} (m : Mv d H H2) (gh : Ex G H) (g : G d = none) : Ex G H2 := fun a o h => m a o (fun z => by subst z; rw [g] at h; cases h) (gh a o h)
theorem Mv.fresh {d p : Addr} {H H2 : Hp} {o : HO} (m : Mv d H H2) (hd : H d = some o) (h : H2 p = none) (hp : p ≠ d) : H p = none := by
 cases z : H p with
 | none => rfl
 | some u =>
  rw [m p u hp z] at h
  cases h
/-- a draw: its list, the script's copy in it, the numbers of that -/
structure Dw where
 a : Addr
 s : Addr
 ns : List Int
/-- the draw's list: the script's copy, the place, what is left of a great number, the seed -/
structure Dr (G H : Hp) (d : Dw) : Prop where
 no : G d.a = none
 sc : G d.s = some (.lst (d.ns.map V.int))
 st : ∃ (i c z : Int), H d.a = some (.lst [.ref d.s, .int i, .int c, .int z]) ∧ 0 ≤ i ∧ 0 ≤ c ∧ 0 ≤ z ∧ z < 2147483647
theorem Dr.go {G H G1 H1 : Hp} {d : Dw} (r : Dr G H d) (go : Go G H G1 H1) : Dr G1 H1 d := by
 obtain ⟨no, hs, i, c, z, h, r⟩ := r
 exact ⟨by rw [go.no _ _ h]; exact no, go.gg _ _ hs, i, c, z, go.hh _ _ h, r⟩
theorem Dr.put {G H : Hp} {d : Dw} {l : Addr} {o : HO} (r : Dr G H d) (h : l ≠ d.a) : Dr G (upd H l o) d := by
 obtain ⟨no, hs, i, c, z, hd, r⟩ := r
 exact ⟨no, hs, i, c, z, by rw [upd_ne h.symm]; exact hd, r⟩
theorem Dr.at {G H : Hp} {d : Dw} (r : Dr G H d) : ∃ o, H d.a = some o := by
 obtain ⟨_, _, i, c, z, h, _⟩ := r
 exact ⟨_, h⟩
/-- the same draw in another view -/
theorem Dr.view {G G1 H H1 : Hp} {d : Dw} (r : Dr G1 H1 d) (r0 : Dr G H d) : Dr G H1 d := ⟨r0.no, r0.sc, r.st⟩
end Kb
namespace Kb
open PySem L2 Evl
/-- from the view G of H to the view G1 of H1, the draw at d moved -/
structure Md (d : Dw) (G H G1 H1 : Hp) : Prop where
 gg : Ex G G1
 gh : Ex G1 H1
 mv : Mv d.a H H1
 no : ∀ a u, H a = some u → G1 a = G a
theorem Md.of {d : Dw} {G H G1 H1 : Hp} (g : Go G H G1 H1) : Md d G H G1 H1 := ⟨g.gg, g.gh, .of g.hh, g.no⟩
theorem Md.trans {d : Dw} {G H G1 H1 G2 H2 : Hp} (a : Md d G H G1 H1) (b : Md d G1 H1 G2 H2) (hd : ∃ o, H1 d.a = some o) : Md d G H G2 H2 :=
 ⟨a.gg.trans b.gg, b.gh, a.mv.trans b.mv, fun x u h => by
  by_cases z : x = d.a
  ·subst z
   obtain ⟨o, ho⟩ := hd
   rw [b.no _ _ ho, a.no _ _ h]
  ·rw [b.no _ _ (a.mv _ _ z h), a.no _ _ h]⟩
theorem Md.fin {d : Dw} {G H G1 H1 H2 : Hp} (m : Md d G H G1 H1) (r : Dr G1 H1 d) (e : Ex H1 H2) : Md d G H (grow G1 H1 H2) H2 := m.trans (.of (Go.grow m.gh e)) r.at
/-- a change of an object that is kept apart -/
theorem Md.put {d : Dw} {l : Addr} {G H G1 H1 : Hp} {o u : HO} (m : Md d G H G1 H1) (hl : H l = none) (g : G1 l = none) : Md d G H G1 (upd H1 l o) :=
 ⟨m.gg, m.gh.mut g, fun a v n h => by rw [upd_ne (ne_of_none h hl)]; exact m.mv a v n h, m.no⟩
noncomputable def EvM (d : Dw) (te : TE) (σ : L2.St) (G : Hp) (P : PyData → Prop) : Prop := ∀ G' H, Ex G G' → Ex G' H → Dr G' H d → ∀ Q : VK, (∀ x e G1 H2, Md d G' H G1 H2 → Dr G1 H2 d → Dt G1 x e → P e → Q x H2) → te σ H Q
noncomputable def EvMA (d : Dw) (ta : TA) (σ : L2.St) (G : Hp) (P : List PyData → Prop) : Prop := ∀ G' H, Ex G G' → Ex G' H → Dr G' H d → ∀ Q : List V → Hp → Prop, (∀ xs es G1 H2, Md d G' H G1 H2 → Dr G1 H2 d → DtAll G1 xs es → P es → Q xs H2) → ta σ H Q
/-- a new list, kept apart -/
noncomputable def EvMN (d : Dw) (te : TE) (σ : L2.St) (G : Hp) (P : List PyData → Prop) : Prop := ∀ G' H, Ex G G' → Ex G' H → Dr G' H d → ∀ Q : VK, (∀ p xs es G1 H2, Md d G' H G1 H2 → Dr G1 H2 d → H p = none → p ≠ d.a → G1 p = none → H2 p = some (.lst xs) → DtAll G1 xs es → P es → Q (.ref p) H2) → te σ H Q
section
variable {K : PySem.W.Frag} {w : World} {σ : L2.St} {G G' H : Hp} {te ta tb tl : TE} {tt : TT} {d : Dw} {e f : PyData} {D : Ends} {tz tu tw : TS} {g : TG} {P P1 P2 : PyData → Prop}
theorem EvM.mono (h : EvM d te σ G P) (g : Ex G G') : EvM d te σ G' P := fun G2 H a b c Q q => h G2 H (g.trans a) b c Q q
theorem EvMA.mono {ta : TA} {P : List PyData → Prop} (h : EvMA d ta σ G P) (g : Ex G G') : EvMA d ta σ G' P := fun G2 H a b c Q q => h G2 H (g.trans a) b c Q q
theorem EvMN.mono {P : List PyData → Prop} (h : EvMN d te σ G P) (g : Ex G G') : EvMN d te σ G' P := fun G2 H a b c Q q => h G2 H (g.trans a) b c Q q
theorem EvM.imp (h : EvM d te σ G P) (i : ∀ e, P e → P1 e) : EvM d te σ G P1 := fun G2 H a b c Q q => h G2 H a b c Q fun x e G1 H2 m r dx p => q x e G1 H2 m r dx (i e p)
end
section
variable {K : PySem.W.Frag} {w : World} {σ : L2.St} {G G' H : Hp} {te ta tb tl : TE} {tt : TT} {d : Dw} {e f : PyData}
/-- what was kept apart is shared from here on -/
theorem Md.freeze {G H G1 H1 : Hp} {p : Addr} {xs : List V} (m : Md d G H G1 H1) (r : Dr G1 H1 d) (hp : H p = none) (hpd : p ≠ d.a) (gp : G1 p = none) (h1 : H1 p = some (.lst xs)) : Md d G H (upd G1 p (.lst xs)) H1 ∧ Dr (upd G1 p (.lst xs)) H1 d ∧ Ex G1 (upd G1 p (.lst xs)) := by
 have e1 : Ex G1 (upd G1 p (.lst xs)) := Ex.new gp
 refine ⟨⟨m.gg.trans e1, fun a o h => ?_, m.mv, fun a u h => ?_⟩, ?_, e1⟩
 ·by_cases z : a = p
  ·subst z
   rw [upd_same] at h
   cases h
   exact h1
  ·rw [upd_ne z] at h
   exact m.gh a o h
 ·rw [upd_ne (ne_of_none h hp)]
  exact m.no a u h
 ·obtain ⟨no, hs, rr⟩ := r
  exact ⟨by rw [upd_ne hpd.symm]; exact no, e1 _ _ hs, rr⟩
end
end Kb
namespace Kb
open PySem L2 Evl
/-- data that _law_same goes through in n turns -/
noncomputable def Sm : Nat → PyData → Prop
 | _, .none => True
 | _, .bool _ => True
 | _, .int _ => True
 | _, .str _ => True
 | n + 1, .list ds => ds.length ≤ 50000 ∧ ∀ d ∈ ds, Sm n d
 | n + 1, .tuple ds => ds.length ≤ 50000 ∧ ∀ d ∈ ds, Sm n d
 | _, _ => False
/-- data of at most n lists within one another, fit for == -/
noncomputable def Sh : Nat → PyData → Prop
 | _, .none => True
 | _, .bool _ => True
 | _, .int _ => True
 | _, .str x => PySem.PyData.canLay0 (.str x) = true
 | n + 1, .list ds => ∀ d ∈ ds, Sh n d
 | n + 1, .tuple ds => ∀ d ∈ ds, Sh n d
 | _, _ => False
theorem Sh.lay : ∀ (n : Nat) (d : PyData), Sh n d → d.canLay0 = true ∧ d.depth ≤ n := by
 intro n
 induction n with
 | zero =>
  intro d h
  cases d <;> first | exact ⟨rfl, Nat.le_refl _⟩ | exact ⟨h, Nat.le_refl _⟩ | exact h.elim
 | succ n ih =>
  have all : ∀ ds : List PyData, (∀ d ∈ ds, Sh n d) → PyData.canLayAll0 ds = true ∧ PyData.depthAll ds ≤ n := by
   intro ds
   induction ds with
   | nil => intro _; exact ⟨rfl, Nat.zero_le _⟩
   | cons d ds ihd =>
    intro h
    have h1 := ih d (h d List.mem_cons_self)
    have h2 := ihd fun x hx => h x (List.mem_cons_of_mem _ hx)
    refine ⟨?_, ?_⟩
    ·show (d.canLay0 && PyData.canLayAll0 ds) = true
     rw [h1.1, h2.1]
     rfl
    ·show max d.depth (PyData.depthAll ds) ≤ n
     omega
  intro d h
  cases d with
  | none => exact ⟨rfl, Nat.zero_le _⟩
  | bool b => exact ⟨rfl, Nat.zero_le _⟩
  | int b => exact ⟨rfl, Nat.zero_le _⟩
  | str b => exact ⟨h, Nat.zero_le _⟩
  | list ds =>
   have := all ds h
   exact ⟨this.1, Nat.succ_le_succ this.2⟩
  | tuple ds =>
   have := all ds h
   exact ⟨this.1, Nat.succ_le_succ this.2⟩
  | dict kvs => exact h.elim
theorem Sh.ok {n : Nat} {d : PyData} (h : Sh n d) (hn : n ≤ 64) : SeqAt.shaped d = true := by
 have := Sh.lay n d h
 unfold SeqAt.shaped
 rw [this.1, decide_eq_true (by omega)]
 rfl
theorem Sh.eqv {n : Nat} {d : PyData} (h : Sh n d) : PyData.eqv d d = true := SeqAt.eqv_refl d (Sh.lay n d h).1
theorem Sh.li {n : Nat} (ns : List Int) : Sh (n + 1) (dLI ns) := fun d hd => by
 obtain ⟨i, _, rfl⟩ := List.mem_map.mp hd
 cases n <;> exact True.intro
end Kb
namespace Kb
open PySem L2 Evl
/-- a text by its codes; a text of one sign -/
noncomputable def tx (cs : List Nat) : Str := ⟨cs.toArray⟩
theorem Zis (cs : List Nat) : (tx cs).cps.toList = cs := by simp [tx]
noncomputable abbrev sg (c : Nat) : Str := tx [c]
theorem ZrS (c : Nat) : sg c = ⟨#[c]⟩ := rfl
noncomputable def abc : List Nat := (List.range 26).map (· + 97)
theorem Zgz : (Str.ofString "abcdefghijklmnopqrstuvwxyz") = tx abc := by decide +kernel
theorem ZrI {i : Int} (h0 : 0 ≤ i) (h1 : i < 26) : L2.atI (tx abc).cps.toList i = some (97 + i.toNat) := by
 rw [Zis]
 obtain ⟨n, rfl⟩ : ∃ n : Nat, i = (n : Int) := ⟨i.toNat, by omega⟩
 refine atI_nat ?_
 unfold abc
 rw [List.getElem?_map, List.getElem?_range (by omega)]
 simp
 omega
section
variable {K : PySem.W.Frag} {w : World} {σ : L2.St} {G G' H : Hp} {te ta tb tl : TE} {tt : TT} {d e f : PyData} {D : Ends} {tz tu tw : TS} {g : TG}
noncomputable def rInSign : R2 := fun x y H Q => ∃ (c : Nat) (z : Str), x = .str ⟨#[c]⟩ ∧ y = .str z ∧ Q (.bl (decide (c ∈ z.cps.toList))) H
noncomputable def rNotInSign : R2 := fun x y H Q => ∃ (c : Nat) (z : Str), x = .str ⟨#[c]⟩ ∧ y = .str z ∧ Q (.bl (!decide (c ∈ z.cps.toList))) H
noncomputable def rLenStr : List V → Hp → VK → Prop := fun xs H Q => ∃ x, xs = [.str x] ∧ x.length ≤ sizeLine ∧ Q (.int x.length) H
end
end Kb
namespace Kb
open PySem L2 Evl
section
variable {K : PySem.W.Frag} {w : World} {σ : L2.St} {G G' H : Hp} {te ta tb tl : TE} {tt : TT} {d : Dw} {e f : PyData} {D : Ends} {tz tu tw : TS} {g : TG} {P P1 P2 : PyData → Prop}
theorem EvMN.imp {P P' : List PyData → Prop} (h : EvMN d te σ G P) (i : ∀ e, P e → P' e) : EvMN d te σ G P' := fun G2 H a b c Q q => h G2 H a b c Q fun p xs es G1 H2 m r hp hpd gp h2 dx pe => q p xs es G1 H2 m r hp hpd gp h2 dx (i es pe)
noncomputable def rangeI (n : Nat) : List Int := (List.range n).map Int.ofNat
theorem Zlu {n : Int} (ha : EvX ta σ G (.int n)) (h0 : 0 ≤ n) (h1 : n ≤ 100000) : EvN (tLstRg (tRg1 ta)) σ G (dLI (rangeI n.toNat)) :=
 Zoo (rr := fun x H1 Q => ∃ n, x = .int n ∧ RgOk 0 n ∧ ∀ q, H1 q = none → Q (.ref q) (upd H1 q (.lst (rgV 0 n)))) (fun _ _ _ h => h) ha fun x G2 H2 Q g2 dx q => by
  cases dx
  refine ⟨n, rfl, RgOk.of_le (by decide) (by omega) (by decide) h0, fun p hp => q p _ (Ex.new hp) hp ?_⟩
  have : rgV 0 n = (rangeI n.toNat).map V.int := by
   unfold rgV rangeI
   rw [List.map_map, Int.sub_zero]
   exact List.map_congr_left fun i _ => by show V.int ((0 : Int) + (i : Nat)) = V.int (Int.ofNat i); rw [Int.zero_add]; rfl
  rw [this]
  exact ZcB hp g2 (ZgO _)
end
/-- cells of a field, rising -/
noncomputable def Cells (n : Int) (ns : List Int) : Prop := ns.Pairwise (· < ·) ∧ ∀ k ∈ ns, 0 ≤ k ∧ k < n
theorem Zld : ∀ (ns : List Int) (a b : Int), ns.Pairwise (· < ·) → (∀ k ∈ ns, a ≤ k ∧ k < b) → (ns.length : Int) ≤ max 0 (b - a)
 | [], a, b, _, _ => by simp; omega
 | x :: ns, a, b, hp, h => by
  obtain ⟨h1, h2⟩ := List.pairwise_cons.mp hp
  have hx := h x List.mem_cons_self
  have := Zld ns (x + 1) b h2 fun k hk => ⟨by have := h1 k hk; omega, (h k (List.mem_cons_of_mem _ hk)).2⟩
  rw [List.length_cons]
  omega
theorem Cells.len {n : Int} {ns : List Int} (h : Cells n ns) (h0 : 0 ≤ n) : (ns.length : Int) ≤ n := by
 have := Zld ns 0 n h.1 h.2
 omega
/-- inks of a cell: letters, rising -/
noncomputable def Heaped (t : List Nat) : Prop := t.Pairwise (· < ·) ∧ ∀ c ∈ t, 97 ≤ c ∧ c ≤ 122
theorem ZjY : ∀ (ns : List Nat) (a b : Nat), ns.Pairwise (· < ·) → (∀ k ∈ ns, a ≤ k ∧ k < b) → ns.length ≤ b - a
 | [], a, b, _, _ => by simp
 | x :: ns, a, b, hp, h => by
  obtain ⟨h1, h2⟩ := List.pairwise_cons.mp hp
  have hx := h x List.mem_cons_self
  have := ZjY ns (x + 1) b h2 fun k hk => ⟨by have := h1 k hk; omega, (h k (List.mem_cons_of_mem _ hk)).2⟩
  rw [List.length_cons]
  omega
theorem Heaped.len {t : List Nat} (h : Heaped t) : t.length ≤ 26 := by
 have := ZjY t 97 123 h.1 fun k hk => ⟨(h.2 k hk).1, by have := (h.2 k hk).2; omega⟩
 omega
end Kb
namespace Kb
open PySem L2 Evl
theorem Go.put {G H G1 H1 : Hp} {l : Addr} {o : HO} (g : Go G H G1 H1) (hl : H l = none) (g1 : G1 l = none) : Go G H G1 (upd H1 l o) := ⟨g.gg, g.gh.mut g1, g.hh.mut hl, g.no⟩
theorem Go.refl {G H : Hp} (gh : Ex G H) : Go G H G H := Go.stay gh (Ex.refl H)
/-- what was kept apart is shared from here on -/
theorem Go.freeze {G H G1 H1 : Hp} {p : Addr} {xs : List V} (m : Go G H G1 H1) (hp : H p = none) (gp : G1 p = none) (h1 : H1 p = some (.lst xs)) : Go G H (upd G1 p (.lst xs)) H1 ∧ Ex G1 (upd G1 p (.lst xs)) := by
 have e1 : Ex G1 (upd G1 p (.lst xs)) := Ex.new gp
 refine ⟨⟨m.gg.trans e1, fun a o h => ?_, m.hh, fun a u h => ?_⟩, e1⟩
 ·by_cases z : a = p
  ·subst z
   rw [upd_same] at h
   cases h
   exact h1
  ·rw [upd_ne z] at h
   exact m.gh a o h
 ·rw [upd_ne (ne_of_none h hp)]
  exact m.no a u h
end Kb
namespace L2
open PySem PySem.Spec PyProof.Rows
/-- a set of the texts l at a, its table rising and to be walked -/
noncomputable def SxT (P : Program) (w : World) (h : Heap) (a : Addr) (l : List Str) : Prop :=
 ∃ D : Froz.SD, h.get? a = some (Froz.sObj "set" D) ∧ Froz.TxOk P w D l ∧ l.Nodup ∧ l.length < scanBound ∧ Ris D.2.2.place.toList ∧ (w.params.followText "set-order" = true ∨ D.2.2.led = true)
section
variable {P : Program} {w : World} {A : Around} {E : Value → Shared → Prop} {s : Shared} {a : Addr} {l : List Str}
theorem SxT.at {h h' : Heap} (R : SxT P w h a l) (k : ∀ o, h.get? a = some o → h'.get? a = some o) : SxT P w h' a l := by
 obtain ⟨D, ho, r⟩ := R
 exact ⟨D, k _ ho, r⟩
end
end L2
namespace L2
open PySem PySem.Spec PyProof.Rows
end L2
namespace L2
open PySem PySem.Spec PyProof.Rows
/-- the tuple (i, c) -/
noncomputable def PrAt (h : Heap) (v : Value) (i : Int) (c : Nat) : Prop := ∃ a t u, v = .ref a ∧ IsTup h a #[.int i t, .str ⟨#[c]⟩ u]
theorem PrAt.keeps {h h' : Heap} {v : Value} {i : Int} {c : Nat} (x : PrAt h v i c) (k : ∀ b o, h.get? b = some o → o.cls = .type "tuple" → h'.get? b = some o) : PrAt h' v i c := by
 obtain ⟨a, t, u, e, o, ho, hc, hd⟩ := x
 exact ⟨a, t, u, e, o, k _ _ ho hc, hc, hd⟩
noncomputable abbrev rkP (i : Int) (c : Nat) : Int := i * 1114112 + (c : Int)
noncomputable def PrsOk (h : Heap) (r : Value → Int) (vs : List Value) : Prop := ∀ v, v ∈ vs → ∃ i c, PrAt h v i c ∧ c < 1114112 ∧ r v = rkP i c
theorem PrsOk.keeps {h h' : Heap} {r : Value → Int} {vs : List Value} (x : PrsOk h r vs) (k : ∀ b o, h.get? b = some o → o.cls = .type "tuple" → h'.get? b = some o) : PrsOk h' r vs := fun v hv =>
 let ⟨i, c, t, z⟩ := x v hv; ⟨i, c, t.keeps k, z⟩
end L2
namespace L2
open PySem PySem.Spec PyProof.Rows
end L2
namespace Kb
open PySem L2 Evl
/-- a module's constant -/
noncomputable def GlV (mg : Str → Option Value) (x : Str) (v : V) : Prop := ∃ u, mg x = some u ∧ RelV v u
theorem pe_globS {X : Cx} {x : Str} {v : V} {pos : Pos} (hg : Gl X x) (h : GlV X.mg x v) (hd : (x == ("__debug__" : Str)) = false := by decide) : PE X (.Name x pos) (tC v) := by
 obtain ⟨u, hm, r⟩ := h
 exact pe_glob hg hm r hd
end Kb
namespace Kb
open PySem L2 Evl
noncomputable abbrev bmVE : List Value := [.type "ValueError", .type "Exception", .type "BaseException", .type "object"]
/-- an own class of error, under ValueError, at C -/
structure ExC (K : PySem.W.Frag) (mg : Str → Option Value) (x : Str) (C : Addr) : Prop where
 gC : mg x = some (.ref C)
 ex : PySem.W.excIn K C bmVE "ValueError.__new__" = true
 kC : PySem.W.keepIn K (.ref C) = true
 exC : PySem.W.subIn K (.ref C) (.type "BaseException") = some true
 tyC : PySem.W.typeIn K (.ref C) = some (.type "type")
 te : PySem.W.exmOne K (.ref C) (.ref C) = some true
theorem ZiU {K : PySem.W.Frag} {S : Addr} (h1 : PySem.W.subIn K (.ref S) (.type "BaseException") = some true) (h2 : PySem.W.isClsIn K S = true) (h3 : PySem.W.typeIn K (.ref S) = some (.type "type")) (h4 : PySem.W.subIn K (.ref S) (.ref S) = some true) :
  PySem.W.exmOne K (.ref S) (.ref S) = some true := by
 have e1 : (PySem.W.subIn K (.ref S) (.type "BaseException") == some true) = true := by rw [h1] <;> rfl
 have e2 : ((PySem.W.clsIn K S).isSome && PySem.W.typeIn K (.ref S) == some (.type "type")) = true := by
  have h2' : (PySem.W.clsIn K S).isSome = true := h2
  rw [h2', h3] <;> rfl
 show (if (PySem.W.subIn K (.ref S) (.type "BaseException") == some true) = true then (if ((PySem.W.clsIn K S).isSome && PySem.W.typeIn K (.ref S) == some (.type "type")) = true then PySem.W.subIn K (.ref S) (.ref S) else none) else none) = some true
 rw [if_pos e1, if_pos e2]
 exact h4
/-- raise X('m') -/
theorem ZaL {X : Cx} {W : WX} {x m : Str} {C : Addr} {j : Nat} {p p2 pos pos' : Pos} (hc : X.calm = true) (tk : Takes X W) (E : ExC X.K X.mg x C) (hg : Gl X x) (hdb : (x == ("__debug__" : Str)) = false := by decide) :
  PS X (.Raise (some (.Call (.Name x p) [.Constant (.str m) j p2] [] pos)) none pos') (fun _ σ H => W (.ref C) none σ H) :=
 ps_raise hc tk (pmk_own PySem.F.excBase_ValueError E.ex E.gC E.kC (raises_own E.exC E.tyC) hg hdb)
/-- a def that may raise -/
structure CalX (P : Program) (w : World) (K : PySem.W.Frag) (mg : Str → Option Value) (base : Heap) (x : Str) (k : Nat) (ps : List Str) (sp : Sp) : Prop where
 ex : ∃ f fd, FnOk P w K mg base (L2.CX P w) k f fd ps sp ∧ mg x = some (.ref f) ∧ PySem.W.keepIn K (.ref f) = true ∧ Binds K fd ps []
theorem Zfk {P : Program} {w : World} {K : PySem.W.Frag} {mg : Str → Option Value} {base : Heap} {x : Str} {k : Nat} {ps : List Str} {sp : Sp} {f : Addr} {fd : FuncData} (F : FnOk P w K mg base (L2.CX P w) k f fd ps sp) (hm : mg x = some (.ref f)) (hk : PySem.W.keepIn K (.ref f) = true) (hb : Binds K fd ps []) : CalX P w K mg base x k ps sp := ⟨f, fd, F, hm, hk, hb⟩
theorem Zea {X : Cx} {W : WX} {x : Str} {k : Nat} {ps : List Str} {sp : Sp} {e : Expr} {es : List Expr} {t : TA} {p pos : Pos} (C : CalX X.prog X.w X.K X.mg X.base x k ps sp) (hr : Room k X.A) (hg : Gl X x) (tk : Takes X W) (ha : PA X (e :: es) t)
  (hdb : (x == ("__debug__" : Str)) = false := by decide) (he : starEach (e :: es) X.env = (false, eval e X.env) :: starEach es X.env := by rfl) (hpl : (backTo pos (starEach es X.env)).any (·.1) = false := by rfl) :
  PE X (.Call (.Name x p) (e :: es) [] pos) (tCallS sp (WE W) t) := by
 obtain ⟨f, fd, F, hm, hk, hb⟩ := C.ex
 exact pe_callS F hr hg hm hk hb (fun σ => passAt tk σ) ha hdb he hpl
/-- what a def promises: a thing, or an error -/
noncomputable def XSp (R : List PyData → PyData ⊕ Addr → Prop) : Sp := fun vs H Q E => ∃ G ds o, Ex G H ∧ DtAll G vs ds ∧ R ds o ∧ (∀ d, o = .inl d → ∀ x H2, Ex H H2 → Dt (grow G H H2) x d → Q x H2) ∧ ∀ C, o = .inr C → ∀ H2, Ex H H2 → E (.ref C) none H2
end Kb
namespace Kb
open PySem L2 Evl
/-- a new thing, or a plain one -/
noncomputable def Fr (H : Hp) (x : V) : Prop := ∀ p, x = .ref p → H p = none
noncomputable def FSp (R : List PyData → PyData → Prop) : Sp := fun vs H Q _ => ∃ G ds d, Ex G H ∧ DtAll G vs ds ∧ R ds d ∧ ∀ x H2, Ex H H2 → Fr H x → Dt (grow G H H2) x d → Q x H2
noncomputable def EvF (te : TE) (σ : L2.St) (G : Hp) (d : PyData) : Prop := ∀ H, Ex G H → ∀ Q : VK, (∀ x H2, Ex H H2 → Fr H x → Dt (grow G H H2) x d → Q x H2) → te σ H Q
theorem Fr.back {H H1 : Hp} {x : V} (h : Fr H1 x) (e : Ex H H1) : Fr H x := fun p hp => fresh_back e (h p hp)
section
variable {P : Program} {K : PySem.W.Frag} {w : World} {σ : L2.St} {G G' H : Hp} {te ta tb tl : TE} {tt : TT} {d e f : PyData} {D : Ends} {tz tu tw : TS} {g : TG} {W : WX} {o : PyData ⊕ Addr}
theorem EvF.toX (h : EvF te σ G d) : EvX te σ G d := fun H gh Q q => h H gh Q fun x H2 e2 _ dx => q x H2 e2 dx
theorem ZoK {ta : TA} {ds : List PyData} {R : List PyData → PyData → Prop} (ha : EvAs ta σ G ds) (hR : R ds d) : EvF (tCall (FSp R) [] E0 ta) σ G d := fun H gh Q q =>
 ha H gh _ fun xs H1 e1 dx => by
  rw [List.append_nil]
  exact ⟨grow G H H1, ds, d, Zh gh e1, dx, hR, fun x H2 e2 hx dz => q x H2 (e1.trans e2) (hx.back e1) (dz.up (ZM e1 e2))⟩
end
end Kb
namespace L2
open PySem PySem.Spec PyProof.Rows
/-- isinstance(e, c), e a caught error, its class and dict as told -/
noncomputable def rIsEG (K : PySem.W.Frag) (cls : Value) (d : Option Addr) (a : Addr) : List V → Hp → VK → Prop := fun xs H Q => ∃ D, cls = .ref D ∧ d = none ∧ ExcC K D ∧ rIsE K D a xs H Q
theorem Za5 {X : Cx} {a : Addr} {cls : Value} {d : Option Addr} {oe : Obj} (hp : (a, oe) ∈ X.pn) (hz : Zc cls d oe) (hf : ∃ vs, oe.data = .fields vs) : CallR X (.builtin "isinstance") (rIsEG X.K cls d a) := by
 intro pins s σ H xs us Q I r h
 obtain ⟨D, rfl, rfl, C, c, cv, b, rfl, hcv, e, q⟩ := h
 cases r with
 | cons rx rr =>
  cases rr with
  | cons rt rr =>
   cases rr
   cases rx
   have ec := hcv _ rt
   subst ec
   obtain ⟨hget, _⟩ := I.pin (a, oe) (List.mem_append.mpr (.inl hp))
   obtain ⟨vs, hv⟩ := hf
   have J : PySem.W.InstAt s.heap a oe D none := by
    obtain ⟨oc, od, oda, osl⟩ := oe
    obtain ⟨h1, h2⟩ := hz
    dsimp only at h1 h2 hv
    subst h1 h2 hv
    exact ⟨hget, rfl, rfl, trivial⟩
   exact PySem.W.kia_one (PySem.W.handS_kitx_exc C.hg C.hk C.hs C.hd C.ha C.hn C.ht C.hm) I.kIn J e (fun z => nomatch z) fun tk => ⟨.bl b, H, I.kept (t' := tk) fun _ _ z => z, rfl, q⟩
end L2
namespace Kb
open PySem L2 Evl
/-- the row of classes above a refusal at C, its base at B -/
noncomputable abbrev mroE (B C : Addr) : List Value := [.ref C, .ref B, .type "ValueError", .type "Exception", .type "BaseException", .type "object"]
/-- a refusal at C, straight under the base at B -/
structure EB (K : PySem.W.Frag) (mg : Str → Option Value) (B : Addr) (x : Str) (C : Addr) : Prop where
 own : ExC K mg x C
 ic : PySem.W.isClsIn K C = true
 mro : ∀ v, PySem.W.mroIn K C v = some ((mroE B C).contains v)
 exc : ExcC K C
/-- the base of the refusals -/
structure EBase (K : PySem.W.Frag) (mg : Str → Option Value) (B : Addr) : Prop where
 gB : mg "BlockError" = some (.ref B)
 ic : PySem.W.isClsIn K B = true
 sub : PySem.W.subIn K (.ref B) (.type "BaseException") = some true
 ty : PySem.W.typeIn K (.ref B) = some (.type "type")
section
variable {K : PySem.W.Frag} {mg : Str → Option Value} {B C D : Addr} {x y : Str}
theorem EBase.catches (b : EBase K mg B) (e : EB K mg B x C) : PySem.W.exmOne K (.ref C) (.ref B) = some true := by
 have e1 : (PySem.W.subIn K (.ref B) (.type "BaseException") == some true) = true := by rw [b.sub] <;> rfl
 have e2 : ((PySem.W.clsIn K B).isSome && PySem.W.typeIn K (.ref B) == some (.type "type")) = true := by
  have h2' : (PySem.W.clsIn K B).isSome = true := b.ic
  rw [h2', b.ty] <;> rfl
 show (if (PySem.W.subIn K (.ref B) (.type "BaseException") == some true) = true then (if ((PySem.W.clsIn K B).isSome && PySem.W.typeIn K (.ref B) == some (.type "type")) = true then PySem.W.subIn K (.ref C) (.ref B) else none) else none) = some true
 rw [if_pos e1, if_pos e2]
 show PySem.W.mroIn K C (.ref B) = some true
 rw [e.mro]
 simp
theorem EB.kit (e : EB K mg B x D) (f : EB K mg B y C) (hB : C ≠ B) : PySem.W.kitOne K (.ref D) (.ref C) = some (decide (D = C)) := by
 unfold PySem.W.kitOne
 by_cases z : D = C
 ·subst z
  simp
 ·have hne : (Value.ref D == Value.ref C) = false := by
   rw [beq_eq_false_iff_ne]
   exact fun h => z (Value.ref.inj h)
  rw [hne, if_neg Bool.false_ne_true]
  have e2 : ((PySem.W.clsIn K C).isSome && PySem.W.typeIn K (.ref C) == some (.type "type")) = true := by
   have h2' : (PySem.W.clsIn K C).isSome = true := f.ic
   rw [h2', f.own.tyC] <;> rfl
  show (if ((PySem.W.clsIn K C).isSome && PySem.W.typeIn K (.ref C) == some (.type "type")) = true then PySem.W.mroIn K D (.ref C) else none) = _
  rw [if_pos e2, e.mro]
  have z' : ¬ C = D := fun h => z h.symm
  simp [z, z', hB]
theorem Zr9 {cd : ClassData} (hg : mg x = some (.ref C)) (he : PySem.W.excIn K C bmVE "ValueError.__new__" = true) (hk : PySem.W.keepIn K (.ref C) = true) (hc : PySem.W.clsIn K C = some cd) (hm : cd.mro = mroE B C) (ht : PySem.W.typeIn K (.ref C) = some (.type "type"))
  (h1 : PySem.W.findIn K (.ref C) "__getattribute__" = some (some (.builtin "BaseException.__getattribute__"))) (h2 : PySem.W.findIn K (.ref C) "__getattr__" = some none) (h3 : PySem.W.hasDictIn K C = true) (h4 : PySem.W.findIn K (.ref C) "__class__" = some (some (.builtin "object.__class__")))
  (h5 : PySem.W.specialIn K (.builtin "object.__class__") "__get__" = some (some (.builtin "getset_descriptor.__get__"))) (h6 : PySem.W.takesIn K (.builtin "object.__class__") = some true) : EB K mg B x C := by
 have mro : ∀ v, PySem.W.mroIn K C v = some ((mroE B C).contains v) := fun v => by
  unfold PySem.W.mroIn
  rw [hc]
  show (if cd.mro.isEmpty then none else some (cd.mro.contains v)) = _
  rw [hm]
  rfl
 have ic : PySem.W.isClsIn K C = true := by unfold PySem.W.isClsIn; rw [hc]; rfl
 have sb : PySem.W.subIn K (.ref C) (.type "BaseException") = some true := by
  show PySem.W.mroIn K C _ = _
  rw [mro]
  rfl
 have ss : PySem.W.subIn K (.ref C) (.ref C) = some true := by
  show PySem.W.mroIn K C _ = _
  rw [mro]
  simp
 exact ⟨⟨hg, he, hk, sb, ht, ZiU sb ic ht ss⟩, ic, mro, ⟨h1, h2, sb, h3, h4, h5, h6, by rw [mro]; rfl⟩⟩
end
section
variable {K : PySem.W.Frag} {mg : Str → Option Value} {B C D a : Addr} {x y : Str} {σ : L2.St} {G H : Hp}
/-- xs.index(True) -/
theorem Zk4 {K : PySem.W.Frag} {ta tb : TE} {bs : List Bool} {j : Nat} (ha : EvX ta σ G (dLB bs)) (hb : EvX tb σ G (.bool true)) (hj : bs[j]? = some true) (hno : ∀ m : Nat, m < j → bs[m]? = some false) : EvX (tBM K "list" (rIndex K) ta (tCons tb tNil)) σ G (.int (j : Nat)) := fun H gh Q q =>
 ha H gh _ fun x H1 e1 dx => by
  obtain ⟨p, xs, rfl, h, r⟩ := dx.ol
  obtain rfl := Zgv r
  have h1 : H1 p = _ := Zh gh e1 _ _ h
  refine ⟨.inl ⟨rfl, _, sq_of h1⟩, hb H1 (gh.trans e1) _ fun y H2 e2 dy => ?_⟩
  obtain rfl := dy.ob
  refine ⟨p, _, .bl true, j, .bl true, rfl, rfl, sq_of (e2 _ _ h1), rfl, ?_, by rw [List.getElem?_map, hj]; rfl, rfl, fun m z' hm hz => ?_, q _ H2 (e1.trans e2) (.int _)⟩
  ·rw [List.all_eq_true]
   intro v hv
   obtain ⟨b, _, rfl⟩ := List.mem_map.mp hv
   rfl
  ·rw [List.getElem?_map, hno m hm] at hz
   obtain rfl := Option.some.inj hz
   rfl
end
end Kb
namespace Kb
open PySem L2 Evl
section
variable {P : Program} {K : PySem.W.Frag} {w : World} {σ : L2.St} {G G' H : Hp} {te ta tb tc tl : TE} {tt : TT} {d : Dw} {e f : PyData} {D : Ends} {tz tu tw : TS} {g : TG}
/-- a <= b < c -/
theorem ZmF {f g : Int → Int → Bool} {a b c : Int} (ha : EvX ta σ G (.int a)) (hb : EvX tb σ G (.int b)) (hc : f a b = true → EvX tc σ G (.int c)) : EvX (tChain (rI0 fun i j => .bl (f i j)) (rI0 fun i j => .bl (g i j)) ta tb tc) σ G (.bool (f a b && g b c)) := fun H gh Q q =>
 ha H gh _ fun x H1 e1 dx => hb H1 (gh.trans e1) _ fun y H2 e2 dy => by
  obtain rfl := dx.oi
  obtain rfl := dy.oi
  refine ⟨a, b, rfl, rfl, f a b, rfl, ?_⟩
  cases hf : f a b with
  | true =>
   refine iteT (hc hf H2 ((gh.trans e1).trans e2) _ fun z H3 e3 dz => ?_)
   obtain rfl := dz.oi
   exact ⟨b, c, rfl, rfl, q _ H3 ((e1.trans e2).trans e3) (by rw [hf]; exact .bl _)⟩
  | false => exact iteF (q _ H2 (e1.trans e2) (by rw [hf]; exact .bl _))
end
end Kb
namespace Kb
open PySem L2 Evl
theorem Zlr : ∀ (l D : List Nat), l.Nodup → (∀ x ∈ l, x ∈ D) → l.length ≤ D.length
 | [], _, _, _ => Nat.zero_le _
 | a :: l, D, hd, hm => by
  obtain ⟨h1, h2⟩ := List.nodup_cons.mp hd
  have ha := hm a List.mem_cons_self
  have := Zlr l (D.erase a) h2 fun x hx => (List.mem_erase_of_ne (fun e => h1 (by rw [← e]; exact hx))).mpr (hm x (List.mem_cons_of_mem _ hx))
  rw [List.length_erase_of_mem ha] at this
  have : 0 < D.length := List.length_pos_of_mem ha
  rw [List.length_cons]
  omega
noncomputable abbrev Mt := List (Nat × Nat)
noncomputable def lk (m : Mt) (o : Nat) : Option Nat := (m.find? fun p => decide (p.1 = o)).map (·.2)
noncomputable def pt (m : Mt) (k v : Nat) : Mt := if (m.any fun p => decide (p.1 = k)) = true then m.map (fun p => if p.1 = k then (p.1, v) else p) else m ++ [(k, v)]
theorem ZiY (o : Nat) : lk [] o = none := rfl
theorem ZbM (p : Nat × Nat) (m : Mt) (o : Nat) : lk (p :: m) o = if p.1 = o then some p.2 else lk m o := by
 unfold lk
 rw [List.find?_cons]
 by_cases h : p.1 = o
 ·simp [h]
 ·simp [h]
theorem Zqn (m m' : Mt) (o : Nat) : lk (m ++ m') o = (lk m o).or (lk m' o) := by
 induction m with
 | nil => rfl
 | cons p m ih =>
  rw [List.cons_append, ZbM, ZbM, ih]
  by_cases h : p.1 = o
  ·simp [h]
  ·simp [h]
theorem Zl0 (m : Mt) (o : Nat) : (m.any fun p => decide (p.1 = o)) = (lk m o).isSome := by
 induction m with
 | nil => rfl
 | cons p m ih =>
  rw [List.any_cons, ih, ZbM]
  by_cases h : p.1 = o
  ·simp [h]
  ·simp [h]
theorem ZrL (m : Mt) (k v o : Nat) : lk (m.map fun p => if p.1 = k then (p.1, v) else p) o = if o = k ∧ (lk m k).isSome = true then some v else lk m o := by
 induction m with
 | nil => simp [ZiY]
 | cons p m ih =>
  rw [List.map_cons, ZbM, ZbM, ZbM, ih]
  by_cases h : p.1 = k
  ·subst h
   by_cases h2 : o = p.1
   ·subst h2
    simp
   ·have h3 : ¬ p.1 = o := fun e => h2 e.symm
    simp [h2, h3]
  ·by_cases h2 : p.1 = o
   ·subst h2
    simp [h]
   ·simp [h, h2]
theorem Znu (m : Mt) (k v o : Nat) : lk (pt m k v) o = if o = k then some v else lk m o := by
 unfold pt
 rw [Zl0]
 by_cases h : (lk m k).isSome = true
 ·rw [if_pos h, ZrL]
  simp [h]
 ·rw [if_neg h, Zqn, ZbM, ZiY]
  by_cases h2 : o = k
  ·subst h2
   have : lk m o = none := by simpa using h
   simp [this]
  ·have h3 : ¬ k = o := fun e => h2 e.symm
   simp [h2, h3]
theorem ZhM {m : Mt} {o : Nat} : (lk m o).isSome = true ↔ o ∈ m.map (·.1) := by
 induction m with
 | nil => simp [ZiY]
 | cons p m ih =>
  rw [ZbM, List.map_cons, List.mem_cons, ← ih]
  by_cases h : p.1 = o
  ·simp [h]
  ·have h2 : ¬ o = p.1 := fun e => h e.symm
   simp [h, h2]
theorem Zn1 {m : Mt} (k v : Nat) (h : (m.map (·.1)).Nodup) : ((pt m k v).map (·.1)).Nodup := by
 unfold pt
 rw [Zl0]
 by_cases hk : (lk m k).isSome = true
 ·rw [if_pos hk, List.map_map]
  have : ((fun p : Nat × Nat => p.1) ∘ fun p => if p.1 = k then (p.1, v) else p) = (·.1) := by
   funext p
   show (if p.1 = k then (p.1, v) else p).1 = p.1
   split <;> rfl
  rw [this]
  exact h
 ·rw [if_neg hk, List.map_append, List.nodup_append]
  refine ⟨h, by simp, fun a ha b hb e => hk ?_⟩
  have : b = k := by simpa using hb
  rw [e, this] at ha
  exact ZhM.mpr ha
structure KeyOk (n : Nat) (m : Mt) : Prop where
 kd : (m.map (·.1)).Nodup
 kl : ∀ o ∈ m.map (·.1), o < n
 vl : ∀ o u, lk m o = some u → u < n
theorem KeyOk.put {n : Nat} {m : Mt} (h : KeyOk n m) {o x : Nat} (ho : o < n) (hx : x < n) : KeyOk n (pt m o x) := by
 refine ⟨Zn1 _ _ h.kd, fun o' ho' => ?_, fun o' u hu => ?_⟩
 ·have := ZhM.mpr ho'
  rw [Znu] at this
  by_cases e : o' = o
  ·rw [e]
   exact ho
  ·rw [if_neg e] at this
   exact h.kl o' (ZhM.mp this)
 ·rw [Znu] at hu
  by_cases e : o' = o
  ·rw [if_pos e] at hu
   cases hu
   exact hx
  ·rw [if_neg e] at hu
   exact h.vl o' u hu
theorem KeyOk.len {n : Nat} {m : Mt} (h : KeyOk n m) : m.length ≤ n := by
 have := Zlr _ (List.range n) h.kd fun o ho => List.mem_range.mpr (h.kl o ho)
 rwa [List.length_map, List.length_range] at this
end Kb
namespace Kb
open PySem L2 Evl
/-- a class of the program that can be made: its __init__ may raise -/
structure CalN (P : Program) (w : World) (K : PySem.W.Frag) (mg : Str → Option Value) (base : Heap) (x : Str) (C : Addr) (k : Nat) (ps : List Str) (sp : Sp) : Prop where
 ex : ∃ f fd, FnOk P w K mg base (L2.CX P w) k f fd ps sp ∧ Mk K C f ∧ mg x = some (.ref C) ∧ Binds K fd ps []
/-- a method that does not raise -/
structure CalM (P : Program) (w : World) (K : PySem.W.Frag) (mg : Str → Option Value) (base : Heap) (C : Addr) (m : Str) (k : Nat) (ps : List Str) (sp : Sp) : Prop where
 ex : ∃ f fd, FnOk P w K mg base CX0 k f fd ps sp ∧ Cls K C ∧ Meth K C m f ∧ Binds K fd ps []
/-- a method that may raise -/
structure CalMX (P : Program) (w : World) (K : PySem.W.Frag) (mg : Str → Option Value) (base : Heap) (C : Addr) (m : Str) (k : Nat) (ps : List Str) (sp : Sp) : Prop where
 ex : ∃ f fd, FnOk P w K mg base (L2.CX P w) k f fd ps sp ∧ Cls K C ∧ Meth K C m f ∧ Binds K fd ps []
section
variable {X : Cx} {CX : CXT} {k : Nat} {f C : Addr} {fd : FuncData} {ps : List Str} {sp : Sp} {E : L2.St → XK} {x m : Str} {p pos apos : Pos} {e o : Expr} {es : List Expr} {ta : TE} {t : TA} {W : WX}
noncomputable def tMakeS (C : Addr) (sp : Sp) (E : L2.St → XK) (t : TA) : TE := fun σ H Q => t σ H fun vs H1 => ∀ x dx, H1 x = none → H1 dx = none → dx ≠ x →
 sp (.ref x :: vs) (upd (upd H1 dx (.own x)) x (.ins C dx [])) (fun v H2 => v = .non ∧ Q (.ref x) H2) (E σ)
theorem ZkM {pins : List (Addr × Obj)} {σ : L2.St} {H : Hp} {s : Shared} {Q : VK} {us : List Value} {vs : List V} (M : Mk X.K C f) (F : FnOk X.prog X.w X.K X.mg X.base CX k f fd ps sp) (hr : Room (k + 1) X.A) (hb : Binds X.K fd ps [])
  (hx : PassesAt CX X σ (E σ)) (I : Inv X pins σ H s) (r : Vals vs us)
  (h : ∀ x dx, H x = none → H dx = none → dx ≠ x → sp (.ref x :: vs) (upd (upd H dx (.own x)) x (.ins C dx [])) (fun v H2 => v = .non ∧ Q (.ref x) H2) (E σ)) :
  wpAny (model X.prog X.w) X.A (call (.ref C) us) (EP X pins σ Q) X.xe s := by
 have hq := h (s.heap.objs.size + 1) s.heap.objs.size (I.hok.fresh (Nat.le_succ _)) (I.hok.fresh (Nat.le_refl _)) (Nat.ne_of_lt (Nat.lt_succ_self _))
 have I2 := Inv.made (C := C) I
 have r2 : Vals (V.ref (s.heap.objs.size + 1) :: vs) (Value.ref (s.heap.objs.size + 1) :: us) := .cons rfl r
 have hl : (Value.ref (s.heap.objs.size + 1) :: us).length = ps.length := by
  have e := r2.length
  rw [F.len _ _ _ _ hq] at e
  exact e.symm
 have b := hb { s with heap := (s.heap.push PySem.W.emptyDict).push (PySem.W.instObj C s.heap.objs.size) } (Value.ref (s.heap.objs.size + 1) :: us) I2.kIn (by rw [List.append_nil]; exact hl)
 rw [List.append_nil] at b
 refine wpAny_call (make_map (f := f) I.kIn M.makes M.init (beq_iff_eq.mp M.fn) (codeAny_mono (F.run _ X.stack _ _ ⟨Value.ref (s.heap.objs.size + 1) :: us, []⟩ (Value.ref (s.heap.objs.size + 1) :: us) _ _ (E σ) (hr.make C us [])
  (I2.env0.make C us []) b r2 hq) fun r s' hq' => ?_))
 cases r with
 | error e => exact hx pins _ _ e s' I2 hq'
 | ok fl =>
  cases fl with
  | ret u =>
   obtain ⟨v, H', I3, rv, ev, q3⟩ := I2.after hq'
   subst ev
   exact ⟨rv, ⟨V.ref (s.heap.objs.size + 1), H', I3, rfl, q3⟩⟩
  | next => exact False.elim hq'
  | brk => exact False.elim hq'
  | cont => exact False.elim hq'
theorem Zoq (N : CalN X.prog X.w X.K X.mg X.base x C k ps sp) (hr : Room (k + 1) X.A) (hg : Gl X x) (tk : Takes X W) (ha : PA X (e :: es) t)
  (hdb : (x == ("__debug__" : Str)) = false := by decide) (he : starEach (e :: es) X.env = (false, eval e X.env) :: starEach es X.env := by rfl) (hpl : (backTo pos (starEach es X.env)).any (·.1) = false := by rfl) :
  PE X (.Call (.Name x p) (e :: es) [] pos) (tMakeS C sp (WE W) t) := by
 obtain ⟨f, fd, F, M, hm, hb⟩ := N.ex
 refine ⟨fun pins s σ H Q I h => ?_⟩
 refine wpAny_Call_Name_kw (ld_glob I hg hm ?_ hdb)
 refine PySem.W.callWith_K (h₀ := X.base) I.ok.mod.kin M.kp (thn (ha.run pos pins s σ H _ I h) fun us s1 ⟨vs, H1, I1, r, q⟩ => ⟨I1.kIn, ?_⟩) he hpl
 exact ZkM (E := WE W) M F hr hb (passAt tk σ) I1 r q
theorem Zn5 {pl : Sem Bool} (M : CalM X.prog X.w X.K X.mg X.base C m k ps sp) (hr : Room k X.A) (he : PE X o ta)
  (ht : eval (.Call (.Attribute o m apos) [] [] pos) X.env = (do
   let ov ← eval o X.env
   standAt apos.atName
   let (f, first) ← holding [ov] (getMethod ov m pl)
   callWith pos f first (backTo pos (starEach [] X.env)) (backToKw pos (keywordEach [] X.env))) := by rfl) :
  PE X (.Call (.Attribute o m apos) [] [] pos) (tMeth C m sp [] E0 ta tNil) := by
 obtain ⟨f, fd, F, c, hm, hb⟩ := M.ex
 exact pe_meth0 he c hm F hr hb .nil pass0 ht
noncomputable def tMthX (C : Addr) (m : Str) (sp : Sp) (E : L2.St → XK) (ta : TE) (t : TA) : TE := fun σ H Q => ta σ H fun x H1 => ∃ a dx fs, x = .ref a ∧ H1 a = some (.ins C dx fs) ∧ fs.lookup m = none ∧ t σ H1 fun vs H2 => sp (x :: vs) H2 Q (E σ)
theorem Zbn {pl : Sem Bool} (M : CalMX X.prog X.w X.K X.mg X.base C m k ps sp) (hr : Room k X.A) (tk : Takes X W) (he : PE X o ta) (ha : PA X (e :: es) t)
  (hst : starEach (e :: es) X.env = (false, eval e X.env) :: starEach es X.env := by rfl) (hpl : (backTo pos (starEach es X.env)).any (·.1) = false := by rfl)
  (ht : eval (.Call (.Attribute o m apos) (e :: es) [] pos) X.env = (do
   let ov ← eval o X.env
   standAt apos.atName
   let (f, first) ← holding [ov] (getMethod ov m pl)
   callWith pos f first (backTo pos (starEach (e :: es) X.env)) (backToKw pos (keywordEach [] X.env))) := by rfl) :
  PE X (.Call (.Attribute o m apos) (e :: es) [] pos) (tMthX C m sp (WE W) ta t) := by
 obtain ⟨f, fd, F, c, hm, hb⟩ := M.ex
 refine ⟨fun pins s σ H Q I h => ?_⟩
 refine PySem.W.methodCall_KW (pl := pl) (thn (he.run pins s σ H _ I h) fun u s1 ⟨x, H1, I1, rx, a, dx, fs, ex, ea, l, q⟩ => ?_) ht
 subst ex
 obtain rfl : u = Value.ref a := rx
 refine getmeth_ok I1 ea c hm l ?_
 refine PySem.W.callWith_K (first := [.ref a]) (h₀ := X.base) I.ok.mod.kin hm.kp (thn (ha.run pos pins s1 σ H1 _ I1 q) fun us s2 ⟨vs, H2, I2, r, q2⟩ => ⟨I2.kIn, ?_⟩) hst hpl
 exact run_fnS (E := WE W) (us := .ref a :: us) (vs := .ref a :: vs) F hr hb (passAt tk σ) I2 (.cons rfl r) q2
end
/-- what is asked of a class by its fields: none of them is an attribute of the class -/
structure Fls (K : PySem.W.Frag) (C : Addr) (fl : List Str) : Prop where
 cl : Cls K C
 no : ∀ f ∈ fl, NoAttr K C f
theorem Fls.at {K : PySem.W.Frag} {C : Addr} {fl : List Str} (h : Fls K C fl) {i : Nat} {f : Str} (hi : fl[i]? = some f) : NoAttr K C f := h.no f (List.mem_of_getElem? hi)
/-- a frozen instance: its fields are data -/
structure Inst (G : Hp) (v : V) (C : Addr) (fl : List (Str × PyData)) : Prop where
 ex : ∃ p dx fs, v = .ref p ∧ G p = some (.ins C dx fs) ∧ ∀ f, (∀ d, fl.lookup f = some d → ∃ u, fs.lookup f = some u ∧ Dt G u d) ∧ (fl.lookup f = none → fs.lookup f = none)
theorem Inst.up {G G' : Hp} {v : V} {C : Addr} {fl : List (Str × PyData)} (h : Inst G v C fl) (g : Ex G G') : Inst G' v C fl := by
 obtain ⟨p, dx, fs, rfl, hp, hf⟩ := h.ex
 exact ⟨p, dx, fs, rfl, g _ _ hp, fun f => ⟨fun d hd => let ⟨u, hu, du⟩ := (hf f).1 d hd; ⟨u, hu, du.up g⟩, (hf f).2⟩⟩
theorem Zkm {β : Type} (f g : Str) (d : β) (l : List (Str × β)) : ((g, d) :: l).lookup f = if f = g then some d else l.lookup f := by
 rw [List.lookup_cons]
 by_cases h : f = g
 ·have : (f == g) = true := beq_iff_eq.mpr h
  rw [if_pos h, this]
 ·have : (f == g) = false := by
   cases q : f == g with
   | false => rfl
   | true => exact absurd (beq_iff_eq.mp q) h
  rw [if_neg h, this]
end Kb
namespace Kb
open PySem L2 Evl
/-- the locals as data -/
noncomputable abbrev DE := List (Option PyData)
structure DRel (en : DE) (σ : L2.St) (G : Hp) : Prop where
 len : en.length = σ.length
 get : ∀ (i : Nat) (d : PyData), en[i]? = some (some d) → ∃ v, σ[i]? = some (some v) ∧ Dt G v d
theorem DRel.mono {en : DE} {σ : L2.St} {G G' : Hp} (h : DRel en σ G) (g : Ex G G') : DRel en σ G' := ⟨h.len, fun i d hi => let ⟨v, h1, h2⟩ := h.get i d hi; ⟨v, h1, h2.up g⟩⟩
theorem DRel.set {en : DE} {σ : L2.St} {G : Hp} {j : Nat} {x : V} {d : PyData} (h : DRel en σ G) (hx : Dt G x d) : DRel (en.set j (some d)) (σ.set j (some x)) G := by
 refine ⟨by simp [h.len], fun i e hi => ?_⟩
 by_cases z : j = i
 ·subst z
  by_cases hl : j < en.length
  ·rw [List.getElem?_set_self hl] at hi
   obtain rfl := Option.some.inj (Option.some.inj hi)
   exact ⟨x, List.getElem?_set_self (by rw [← h.len]; exact hl), hx⟩
  ·rw [List.getElem?_eq_none (by simp; omega)] at hi
   cases hi
 ·rw [List.getElem?_set_ne z] at hi ⊢
  exact h.get i e hi
noncomputable def wipeD (en : DE) : List Nat → DE
 | [] => en
 | v :: vs => (wipeD en vs).set v none
noncomputable abbrev FW := DE → Option PyData
structure SW (te : TE) (w : FW) : Prop where
 run : ∀ {en : DE} {σ : L2.St} {G : Hp} {d : PyData}, DRel en σ G → w en = some d → EvX te σ G d
instance {te : TE} {w : FW} : CoeFun (SW te w) (fun _ => ∀ {en : DE} {σ : L2.St} {G : Hp} {d : PyData}, DRel en σ G → w en = some d → EvX te σ G d) := ⟨fun h => h.run⟩
/-- a new thing, or a plain one -/
structure SF (te : TE) (w : FW) : Prop where
 run : ∀ {en : DE} {σ : L2.St} {G : Hp} {d : PyData}, DRel en σ G → w en = some d → EvF te σ G d
instance {te : TE} {w : FW} : CoeFun (SF te w) (fun _ => ∀ {en : DE} {σ : L2.St} {G : Hp} {d : PyData}, DRel en σ G → w en = some d → EvF te σ G d) := ⟨fun h => h.run⟩
structure SB (tt : TT) (b : DE → Option Bool) : Prop where
 run : ∀ {en : DE} {σ : L2.St} {G : Hp} {v : Bool}, DRel en σ G → b en = some v → EvB tt σ G v
instance {tt : TT} {b : DE → Option Bool} : CoeFun (SB tt b) (fun _ => ∀ {en : DE} {σ : L2.St} {G : Hp} {v : Bool}, DRel en σ G → b en = some v → EvB tt σ G v) := ⟨fun h => h.run⟩
structure SA (ta : TA) (a : DE → Option (List PyData)) : Prop where
 run : ∀ {en : DE} {σ : L2.St} {G : Hp} {ds : List PyData}, DRel en σ G → a en = some ds → EvAs ta σ G ds
instance {ta : TA} {a : DE → Option (List PyData)} : CoeFun (SA ta a) (fun _ => ∀ {en : DE} {σ : L2.St} {G : Hp} {ds : List PyData}, DRel en σ G → a en = some ds → EvAs ta σ G ds) := ⟨fun h => h.run⟩
structure SO (to : TO) (p : DE → Option (Option Int)) : Prop where
 run : ∀ {en : DE} {σ : L2.St} {G : Hp} {o : Option Int}, DRel en σ G → p en = some o → EvP to σ G o
instance {to : TO} {p : DE → Option (Option Int)} : CoeFun (SO to p) (fun _ => ∀ {en : DE} {σ : L2.St} {G : Hp} {o : Option Int}, DRel en σ G → p en = some o → EvP to σ G o) := ⟨fun h => h.run⟩
theorem SF.w {te : TE} {w : FW} (h : SF te w) : SW te w := ⟨fun r e => (h r e).toX⟩
structure OpOk (r : R2) (o : PyData → PyData → Option PyData) : Prop where
 run : ∀ {x y : V} {G : Hp} {a b d : PyData}, Dt G x a → Dt G y b → o a b = some d → ∀ {H : Hp}, Ex G H → ∀ {Q : VK}, (∀ z H2, Ex H H2 → Dt (grow G H H2) z d → Q z H2) → r x y H Q
instance {r : R2} {o : PyData → PyData → Option PyData} : CoeFun (OpOk r o) (fun _ => ∀ {x y : V} {G : Hp} {a b d : PyData}, Dt G x a → Dt G y b → o a b = some d → ∀ {H : Hp}, Ex G H → ∀ {Q : VK}, (∀ z H2, Ex H H2 → Dt (grow G H H2) z d → Q z H2) → r x y H Q) := ⟨fun h => h.run⟩
structure OpF (r : R2) (o : PyData → PyData → Option PyData) : Prop where
 run : ∀ {x y : V} {G : Hp} {a b d : PyData}, Dt G x a → Dt G y b → o a b = some d → ∀ {H : Hp}, Ex G H → ∀ {Q : VK}, (∀ z H2, Ex H H2 → Fr H z → Dt (grow G H H2) z d → Q z H2) → r x y H Q
instance {r : R2} {o : PyData → PyData → Option PyData} : CoeFun (OpF r o) (fun _ => ∀ {x y : V} {G : Hp} {a b d : PyData}, Dt G x a → Dt G y b → o a b = some d → ∀ {H : Hp}, Ex G H → ∀ {Q : VK}, (∀ z H2, Ex H H2 → Fr H z → Dt (grow G H H2) z d → Q z H2) → r x y H Q) := ⟨fun h => h.run⟩
structure UnOk (r : V → Hp → VK → Prop) (o : PyData → Option PyData) : Prop where
 run : ∀ {x : V} {G : Hp} {a d : PyData}, Dt G x a → o a = some d → ∀ {H : Hp}, Ex G H → ∀ {Q : VK}, (∀ z H2, Ex H H2 → Dt (grow G H H2) z d → Q z H2) → r x H Q
instance {r : V → Hp → VK → Prop} {o : PyData → Option PyData} : CoeFun (UnOk r o) (fun _ => ∀ {x : V} {G : Hp} {a d : PyData}, Dt G x a → o a = some d → ∀ {H : Hp}, Ex G H → ∀ {Q : VK}, (∀ z H2, Ex H H2 → Dt (grow G H H2) z d → Q z H2) → r x H Q) := ⟨fun h => h.run⟩
structure UnF (r : V → Hp → VK → Prop) (o : PyData → Option PyData) : Prop where
 run : ∀ {x : V} {G : Hp} {a d : PyData}, Dt G x a → o a = some d → ∀ {H : Hp}, Ex G H → ∀ {Q : VK}, (∀ z H2, Ex H H2 → Fr H z → Dt (grow G H H2) z d → Q z H2) → r x H Q
instance {r : V → Hp → VK → Prop} {o : PyData → Option PyData} : CoeFun (UnF r o) (fun _ => ∀ {x : V} {G : Hp} {a d : PyData}, Dt G x a → o a = some d → ∀ {H : Hp}, Ex G H → ∀ {Q : VK}, (∀ z H2, Ex H H2 → Fr H z → Dt (grow G H H2) z d → Q z H2) → r x H Q) := ⟨fun h => h.run⟩
structure CbOk (r : List V → Hp → VK → Prop) (o : List PyData → Option PyData) : Prop where
 run : ∀ {xs : List V} {G : Hp} {ds : List PyData} {d : PyData}, DtAll G xs ds → o ds = some d → ∀ {H : Hp}, Ex G H → ∀ {Q : VK}, (∀ z H2, Ex H H2 → Dt (grow G H H2) z d → Q z H2) → r xs H Q
instance {r : List V → Hp → VK → Prop} {o : List PyData → Option PyData} : CoeFun (CbOk r o) (fun _ => ∀ {xs : List V} {G : Hp} {ds : List PyData} {d : PyData}, DtAll G xs ds → o ds = some d → ∀ {H : Hp}, Ex G H → ∀ {Q : VK}, (∀ z H2, Ex H H2 → Dt (grow G H H2) z d → Q z H2) → r xs H Q) := ⟨fun h => h.run⟩
structure CbF (r : List V → Hp → VK → Prop) (o : List PyData → Option PyData) : Prop where
 run : ∀ {xs : List V} {G : Hp} {ds : List PyData} {d : PyData}, DtAll G xs ds → o ds = some d → ∀ {H : Hp}, Ex G H → ∀ {Q : VK}, (∀ z H2, Ex H H2 → Fr H z → Dt (grow G H H2) z d → Q z H2) → r xs H Q
instance {r : List V → Hp → VK → Prop} {o : List PyData → Option PyData} : CoeFun (CbF r o) (fun _ => ∀ {xs : List V} {G : Hp} {ds : List PyData} {d : PyData}, DtAll G xs ds → o ds = some d → ∀ {H : Hp}, Ex G H → ∀ {Q : VK}, (∀ z H2, Ex H H2 → Fr H z → Dt (grow G H H2) z d → Q z H2) → r xs H Q) := ⟨fun h => h.run⟩
theorem OpF.ok {r : R2} {o : PyData → PyData → Option PyData} (h : OpF r o) : OpOk r o := ⟨fun dx dy e _ gh _ q => h dx dy e gh fun z H2 e2 _ dz => q z H2 e2 dz⟩
theorem UnF.ok {r : V → Hp → VK → Prop} {o : PyData → Option PyData} (h : UnF r o) : UnOk r o := ⟨fun dx e _ gh _ q => h dx e gh fun z H2 e2 _ dz => q z H2 e2 dz⟩
theorem CbF.ok {r : List V → Hp → VK → Prop} {o : List PyData → Option PyData} (h : CbF r o) : CbOk r o := ⟨fun dx e _ gh _ q => h dx e gh fun z H2 e2 _ dz => q z H2 e2 dz⟩
noncomputable def wV (i : Nat) : FW := fun en => (en[i]?).join
noncomputable def wC (d : PyData) : FW := fun _ => some d
noncomputable def wOp (o : PyData → PyData → Option PyData) (a b : FW) : FW := fun en => (a en).bind fun x => (b en).bind fun y => o x y
noncomputable def wUn (o : PyData → Option PyData) (a : FW) : FW := fun en => (a en).bind o
noncomputable def wCb (o : List PyData → Option PyData) (a : DE → Option (List PyData)) : FW := fun en => (a en).bind o
noncomputable def aNil : DE → Option (List PyData) := fun _ => some []
noncomputable def aCons (a : FW) (r : DE → Option (List PyData)) : DE → Option (List PyData) := fun en => (a en).bind fun x => (r en).bind fun xs => some (x :: xs)
noncomputable def asB : PyData → Option Bool
 | .bool b => some b
 | _ => none
noncomputable def bW (a : FW) : DE → Option Bool := fun en => (a en).bind asB
noncomputable def bAnd (a b : DE → Option Bool) : DE → Option Bool := fun en => (a en).bind fun x => if x = true then b en else some false
noncomputable def bOr (a b : DE → Option Bool) : DE → Option Bool := fun en => (a en).bind fun x => if x = true then some true else b en
noncomputable def bNot (a : DE → Option Bool) : DE → Option Bool := fun en => (a en).map not
noncomputable def bYes : DE → Option Bool := fun _ => some true
noncomputable def wAnd (a b : FW) : FW := fun en => (a en).bind fun x => (asB x).bind fun c => if c = true then ((b en).bind fun y => (asB y).map PyData.bool) else some (.bool false)
noncomputable def wOr (a b : FW) : FW := fun en => (a en).bind fun x => (asB x).bind fun c => if c = true then some (.bool true) else ((b en).bind fun y => (asB y).map PyData.bool)
noncomputable def wNot (a : FW) : FW := fun en => (a en).bind fun x => (asB x).map fun c => PyData.bool (!c)
noncomputable def wIf (t : DE → Option Bool) (a b : FW) : FW := fun en => (t en).bind fun c => if c = true then a en else b en
noncomputable def big (ds : List PyData) : Bool := decide (ds.length ≤ 100000)
noncomputable def wLst (a : DE → Option (List PyData)) : FW := fun en => (a en).bind fun ds => if big ds = true then some (.list ds) else none
noncomputable def wTup (a : DE → Option (List PyData)) : FW := fun en => (a en).bind fun ds => if big ds = true then some (.tuple ds) else none
noncomputable def pNo : DE → Option (Option Int) := fun _ => some none
noncomputable def asI : PyData → Option Int
 | .int b => some b
 | _ => none
noncomputable def pSo (a : FW) : DE → Option (Option Int) := fun en => (a en).bind fun x => (asI x).map some
noncomputable def wSl (o : PyData → Option Int → Option Int → Option PyData) (a : FW) (l h : DE → Option (Option Int)) : FW := fun en => (a en).bind fun x => (l en).bind fun i => (h en).bind fun j => o x i j
theorem bnd {α β : Type} {a : Option α} {f : α → Option β} {b : β} (h : a.bind f = some b) : ∃ x, a = some x ∧ f x = some b := Option.bind_eq_some_iff.mp h
theorem Zc8 {x : PyData} {b : Bool} (h : asB x = some b) : x = .bool b := by
 cases x <;> simp [asB] at h
 rw [h]
theorem Zga {x : PyData} {b : Int} (h : asI x = some b) : x = .int b := by
 cases x <;> simp [asI] at h
 rw [h]
theorem ZC {H : Hp} {x : V} (h : ∀ p, x ≠ .ref p) : Fr H x := fun p hp => absurd hp (h p)
theorem Za9 {H : Hp} {p : Addr} (h : H p = none) : Fr H (.ref p) := fun q hq => by cases hq; exact h
theorem EvN.toF {te : TE} {σ : L2.St} {G : Hp} {d : PyData} (h : EvN te σ G d) : EvF te σ G d := fun H gh Q q => h H gh Q fun p H2 e2 hp dz => q _ H2 e2 (Za9 hp) dz
section
variable {K : PySem.W.Frag} {w : World} {te ta tb tc : TE} {tt tu : TT} {a b c : FW} {p q : DE → Option Bool} {r : R2}
theorem Za {i : Nat} : SW (tVar i) (wV i) := ⟨fun {en σ G d} h e => by
 unfold wV at e
 have e' : en[i]? = some (some d) := by
  cases z : en[i]? with
  | none => rw [z] at e; cases e
  | some o => rw [z] at e; cases o with
   | none => cases e
   | some y => cases e; rfl
 obtain ⟨v, h1, h2⟩ := h.get i d e'
 exact Zl h1 h2⟩
theorem Zj1 {v : V} {d : PyData} (hd : ∀ G, Dt G v d) (hv : ∀ p, v ≠ .ref p) : SF (tC v) (wC d) := ⟨fun _ e H gh Q k => by cases e; exact k v H (Ex.refl H) (ZC hv) (hd _)⟩
theorem Zd {i : Int} : SF (tC (.int i)) (wC (.int i)) := Zj1 (fun _ => .int i) (fun _ z => nomatch z)
theorem Zq {i : Str} : SF (tC (.str i)) (wC (.str i)) := Zj1 (fun _ => .str i) (fun _ z => nomatch z)
theorem Zhx {i : Bool} : SF (tC (.bl i)) (wC (.bool i)) := Zj1 (fun _ => .bl i) (fun _ z => nomatch z)
theorem ZbZ : SF (tC .non) (wC .none) := Zj1 (fun _ => .non) (fun _ z => nomatch z)
theorem ZiS {G H H1 H2 H3 : Hp} (gh : Ex G H) (e1 : Ex H H1) (e2 : Ex H1 H2) (e3 : Ex H2 H3) : Ex (grow (grow (grow G H H1) H1 H2) H2 H3) (grow G H H3) :=
 (ZM (G := grow G H H1) e2 e3).trans (ZM e1 (e2.trans e3))
theorem Zw {o : PyData → PyData → Option PyData} (ho : OpOk r o) (ha : SW ta a) (hb : SW tb b) : SW (tOp r ta tb) (wOp o a b) := ⟨fun {en σ G d} h e H gh Q k => by
 obtain ⟨x, hx, e⟩ := bnd e
 obtain ⟨y, hy, e⟩ := bnd e
 refine ha h hx H gh _ fun v H1 e1 dv => (hb h hy).mono (Zp gh) H1 (Zh gh e1) _ fun u H2 e2 du => ?_
 refine ho (dv.up (Zp (Zh gh e1))) du e (Zh (Zh gh e1) e2) fun z H3 e3 dz => k z H3 ((e1.trans e2).trans e3) (dz.up (ZiS gh e1 e2 e3))⟩
theorem Zg {o : PyData → PyData → Option PyData} (ho : OpF r o) (ha : SW ta a) (hb : SW tb b) : SF (tOp r ta tb) (wOp o a b) := ⟨fun {en σ G d} h e H gh Q k => by
 obtain ⟨x, hx, e⟩ := bnd e
 obtain ⟨y, hy, e⟩ := bnd e
 refine ha h hx H gh _ fun v H1 e1 dv => (hb h hy).mono (Zp gh) H1 (Zh gh e1) _ fun u H2 e2 du => ?_
 refine ho (dv.up (Zp (Zh gh e1))) du e (Zh (Zh gh e1) e2) fun z H3 e3 fz dz => k z H3 ((e1.trans e2).trans e3) (fz.back (e1.trans e2)) (dz.up (ZiS gh e1 e2 e3))⟩
theorem Zb8 {rr : V → Hp → VK → Prop} {o : PyData → Option PyData} (ho : UnOk rr o) (ha : SW ta a) : SW (tUn rr ta) (wUn o a) := ⟨fun {en σ G d} h e H gh Q k => by
 obtain ⟨x, hx, e⟩ := bnd e
 exact ha h hx H gh _ fun v H1 e1 dv => ho dv e (Zh gh e1) fun z H3 e3 dz => k z H3 (e1.trans e3) (dz.up (ZM e1 e3))⟩
theorem Zq9 {rr : V → Hp → VK → Prop} {o : PyData → Option PyData} {tg : TE} (htg : ∀ σ H Q, ta σ H (fun x H1 => rr x H1 Q) → tg σ H Q) (ho : UnF rr o) (ha : SW ta a) : SF tg (wUn o a) := ⟨fun {en σ G d} h e H gh Q k => by
 obtain ⟨x, hx, e⟩ := bnd e
 exact htg _ _ _ (ha h hx H gh _ fun v H1 e1 dv => ho dv e (Zh gh e1) fun z H3 e3 fz dz => k z H3 (e1.trans e3) (fz.back e1) (dz.up (ZM e1 e3)))⟩
theorem Ze : SA tNil aNil := ⟨fun _ e => by cases e; exact ea0⟩
theorem Zb {tr : TA} {s : DE → Option (List PyData)} (ha : SW ta a) (hr : SA tr s) : SA (tCons ta tr) (aCons a s) := ⟨fun h e => by
 obtain ⟨x, hx, e⟩ := bnd e
 obtain ⟨xs, hxs, e⟩ := bnd e
 cases e
 exact ea1 (ha h hx) (hr h hxs)⟩
theorem ZQ {tr : TA} {s : DE → Option (List PyData)} {rr : List V → Hp → VK → Prop} {o : List PyData → Option PyData} (ho : CbF rr o) (ha : SA tr s) : SF (tCB rr tr) (wCb o s) := ⟨fun {en σ G d} h e H gh Q k => by
 obtain ⟨x, hx, e⟩ := bnd e
 exact ha h hx H gh _ fun v H1 e1 dv => ho dv e (Zh gh e1) fun z H3 e3 fz dz => k z H3 (e1.trans e3) (fz.back e1) (dz.up (ZM e1 e3))⟩
theorem Zb3 {tr : TA} {s : DE → Option (List PyData)} (ha : SA tr s) : SF (tLst tr) (wLst s) := ⟨fun h e => by
 obtain ⟨x, hx, e⟩ := bnd e
 split at e
 ·rename_i hb
  cases e
  exact (Zrs (ha h hx) (of_decide_eq_true hb)).toF
 ·cases e⟩
theorem ZaW {tr : TA} {s : DE → Option (List PyData)} (ha : SA tr s) : SF (tTup tr) (wTup s) := ⟨fun h e => by
 obtain ⟨x, hx, e⟩ := bnd e
 split at e
 ·rename_i hb
  cases e
  exact (Zrm (ha h hx) (of_decide_eq_true hb)).toF
 ·cases e⟩
theorem ZbY (ha : SW ta a) : SB (tB ta) (bW a) := ⟨fun h e => by
 obtain ⟨x, hx, e⟩ := bnd e
 obtain rfl := Zc8 e
 exact ZeN (ha h hx)⟩
theorem Zs (ha : SW ta a) : SB (tTest ta) (bW a) := ⟨fun h e => by
 obtain ⟨x, hx, e⟩ := bnd e
 obtain rfl := Zc8 e
 exact Z9 (ha h hx)⟩
theorem ZdV (h1 : SB tt p) (h2 : SB tu q) : SB (tAnd tt tu) (bAnd p q) := ⟨fun {en σ G v} h e => by
 obtain ⟨x, hx, e⟩ := bnd e
 cases x with
 | true => exact EvB.eq (ZlT (h1 h hx) fun _ => h2 h e) rfl
 | false => cases e; exact EvB.eq (b := false) (ZlT (b := false) (h1 h hx) fun z => nomatch z) rfl⟩
theorem ZhF (h1 : SB tt p) (h2 : SB tu q) : SB (tOr tt tu) (bOr p q) := ⟨fun {en σ G v} h e => by
 obtain ⟨x, hx, e⟩ := bnd e
 cases x with
 | true => cases e; exact EvB.eq (b := true) (Zep (b := true) (h1 h hx) fun z => nomatch z) rfl
 | false => exact EvB.eq (Zep (h1 h hx) fun _ => h2 h e) rfl⟩
theorem Zdj (h1 : SB tt p) : SB (tNot tt) (bNot p) := ⟨fun {en σ G v} h e => by
 obtain ⟨x, hx, e⟩ := Option.map_eq_some_iff.mp e
 exact EvB.eq (ZlO (h1 h hx)) e⟩
theorem Zdi : SB tYes bYes := ⟨fun h e => by cases e; exact Ziv⟩
theorem ZhP (h1 : SW ta a) (h2 : SW tb b) : SW (tAndV ta tb) (wAnd a b) := ⟨fun h e => by
 obtain ⟨x, hx, e⟩ := bnd e
 obtain ⟨c, hc, f⟩ := bnd e
 clear e
 obtain rfl := Zc8 hc
 cases c with
 | true =>
  rw [if_pos rfl] at f
  obtain ⟨y, hy, f⟩ := bnd f
  obtain ⟨c2, hc2, f⟩ := Option.map_eq_some_iff.mp f
  obtain rfl := Zc8 hc2
  cases f
  exact EvX.eq (Zdc (h1 h hx) fun _ => h2 h hy) rfl
 | false => cases f; exact EvX.eq (Zdc (b := false) (h1 h hx) fun z => nomatch z) rfl⟩
theorem Zkk (h0 : SB tt p) (h1 : SW ta a) (h2 : SW tb b) : SW (tIf tt ta tb) (wIf p a b) := ⟨fun h e => by
 obtain ⟨x, hx, e⟩ := bnd e
 cases x with
 | true => exact ZnA (h0 h hx) (fun _ => h1 h e) fun z => nomatch z
 | false => exact ZnA (h0 h hx) (fun z => nomatch z) fun _ => h2 h e⟩
theorem Zfr : SO tNoPart pNo := ⟨fun _ e => by cases e; exact ep0⟩
theorem Zfi (h1 : SW ta a) : SO (tPart ta) (pSo a) := ⟨fun h e => by
 obtain ⟨x, hx, e⟩ := bnd e
 obtain ⟨c, hc, e⟩ := Option.map_eq_some_iff.mp e
 obtain rfl := Zga hc
 cases e
 exact ep1 (h1 h hx)⟩
structure SlF (r : V → Option Int → Option Int → Hp → VK → Prop) (o : PyData → Option Int → Option Int → Option PyData) : Prop where
 run : ∀ {x : V} {G : Hp} {i j : Option Int} {a d : PyData}, Dt G x a → o a i j = some d → ∀ {H : Hp}, Ex G H → ∀ {Q : VK}, (∀ z H2, Ex H H2 → Fr H z → Dt (grow G H H2) z d → Q z H2) → r x i j H Q
instance {r : V → Option Int → Option Int → Hp → VK → Prop} {o : PyData → Option Int → Option Int → Option PyData} : CoeFun (SlF r o) (fun _ => ∀ {x : V} {G : Hp} {i j : Option Int} {a d : PyData}, Dt G x a → o a i j = some d → ∀ {H : Hp}, Ex G H → ∀ {Q : VK}, (∀ z H2, Ex H H2 → Fr H z → Dt (grow G H H2) z d → Q z H2) → r x i j H Q) := ⟨fun h => h.run⟩
theorem ZsT {rr : V → Option Int → Option Int → Hp → VK → Prop} {o : PyData → Option Int → Option Int → Option PyData} {tl th : TO} {l u : DE → Option (Option Int)} (ho : SlF rr o) (ha : SW ta a) (hl : SO tl l) (hh : SO th u) : SF (tSl rr ta tl th) (wSl o a l u) := ⟨fun {en σ G d} h e H gh Q k => by
 obtain ⟨x, hx, e⟩ := bnd e
 obtain ⟨i, hi, e⟩ := bnd e
 obtain ⟨j, hj, e⟩ := bnd e
 exact ha h hx H gh _ fun v H1 e1 dv => hl h hi H1 (gh.trans e1) _ fun H2 e2 => hh h hj H2 ((gh.trans e1).trans e2) _ fun H3 e3 =>
  ho (dv.up (Zd3 (e2.trans e3))) e (Zh gh ((e1.trans e2).trans e3)) fun z H4 e4 fz dz => k z H4 (((e1.trans e2).trans e3).trans e4) (fz.back ((e1.trans e2).trans e3)) (dz.up (ZM ((e1.trans e2).trans e3) e4))⟩
/-- a ∘ b ∘ c -/
noncomputable def wChain (o o2 : PyData → PyData → Option PyData) (a b c : FW) : FW := fun en => (a en).bind fun x => (b en).bind fun y => (o x y).bind fun k => (asB k).bind fun t => if t = true then (c en).bind fun z => o2 y z else some (.bool false)
theorem Zen {r r2 : R2} {o o2 : PyData → PyData → Option PyData} (ho : OpOk r o) (ho2 : OpOk r2 o2) (ha : SW ta a) (hb : SW tb b) (hc : SW tc c) : SW (tChain r r2 ta tb tc) (wChain o o2 a b c) := ⟨fun {en σ G d} h e H gh Q k => by
 obtain ⟨x, hx, e⟩ := bnd e
 obtain ⟨y, hy, e⟩ := bnd e
 obtain ⟨kk, hk, e⟩ := bnd e
 obtain ⟨t, ht, f⟩ := bnd e
 clear e
 obtain rfl := Zc8 ht
 refine ha h hx H gh _ fun v H1 e1 dv => (hb h hy).mono (Zp gh) H1 (Zh gh e1) _ fun u H2 e2 du => ?_
 have g2 := Zh (Zh gh e1) e2
 refine ho (dv.up (Zp (Zh gh e1))) du hk g2 fun z H3 e3 dz => ?_
 obtain rfl := dz.ob
 refine ⟨t, rfl, ?_⟩
 cases t with
 | true =>
  rw [if_pos rfl] at f
  obtain ⟨zz, hz, f⟩ := bnd f
  show tc σ H3 _
  have g3 := g2.trans e3
  have gg : Ex G (grow (grow G H H1) H1 H2) := (Zp gh).trans (Zp (Zh gh e1))
  refine (hc h hz).mono gg H3 g3 _ fun s H4 e4 ds => ?_
  refine ho2 (du.up (Zp g3)) ds f (Zh g3 e4) fun z5 H5 e5 dz5 => k z5 H5 (((e1.trans e2).trans e3).trans (e4.trans e5)) ?_
  refine dz5.up ((ZM e4 e5).trans fun a o hh => ?_)
  cases p3 : H3 a with
  | none =>
   rw [Zx p3] at hh
   rw [Zx (fresh_back ((e1.trans e2).trans e3) p3)]
   exact hh
  | some uu =>
   rw [Zt p3] at hh
   exact (ZM e1 e2).trans (Zd3 (e3.trans (e4.trans e5))) a o hh
 | false =>
  cases f
  exact k _ H3 ((e1.trans e2).trans e3) (.bl _)⟩
end
end Kb
namespace Kb
open PySem L2 Evl
/-- what is gone through, as data -/
structure SI (wi : TI) (it : DE → Option (List PyData)) : Prop where
 run : ∀ {en : DE} {σ : L2.St} {G : Hp} {ds : List PyData}, DRel en σ G → it en = some ds → ∀ {H : Hp}, Ex G H → ∀ {R : It → Hp → Prop},
 (∀ J H1 Gd Y, Ex H H1 → Walk J ds.length Gd Y → (∀ H', Ex (grow G H H1) H' → Gd H') → (∀ i x Ha Hb Gi, i < ds.length → Ex (grow G H H1) Gi → Ex Gi Ha → Y i Ha x Hb → Ex Ha Hb ∧ ∃ d, ds[i]? = some d ∧ Dt (grow Gi Ha Hb) x d) → R J H1) → wi σ H R
instance {wi : TI} {it : DE → Option (List PyData)} : CoeFun (SI wi it) (fun _ => ∀ {en : DE} {σ : L2.St} {G : Hp} {ds : List PyData}, DRel en σ G → it en = some ds → ∀ {H : Hp}, Ex G H → ∀ {R : It → Hp → Prop},
 (∀ J H1 Gd Y, Ex H H1 → Walk J ds.length Gd Y → (∀ H', Ex (grow G H H1) H' → Gd H') → (∀ i x Ha Hb Gi, i < ds.length → Ex (grow G H H1) Gi → Ex Gi Ha → Y i Ha x Hb → Ex Ha Hb ∧ ∃ d, ds[i]? = some d ∧ Dt (grow Gi Ha Hb) x d) → R J H1) → wi σ H R) := ⟨fun h => h.run⟩
/-- what a target binds -/
structure SG (g : TG) (bd : PyData → DE → Option DE) (js : List Nat) : Prop where
 run : ∀ {x : V} {d : PyData} {σ : L2.St} {G H : Hp} {en en' : DE}, Dt G x d → Ex G H → bd d en = some en' → DRel en σ G → ∀ {R : L2.St → Hp → Prop}, (∀ σ', DRel en' σ' G → (∀ vs : List Nat, (∀ j ∈ js, j ∈ vs) → wipe σ' vs = wipe σ vs) → R σ' H) → g x σ H R
instance {g : TG} {bd : PyData → DE → Option DE} {js : List Nat} : CoeFun (SG g bd js) (fun _ => ∀ {x : V} {d : PyData} {σ : L2.St} {G H : Hp} {en en' : DE}, Dt G x d → Ex G H → bd d en = some en' → DRel en σ G → ∀ {R : L2.St → Hp → Prop}, (∀ σ', DRel en' σ' G → (∀ vs : List Nat, (∀ j ∈ js, j ∈ vs) → wipe σ' vs = wipe σ vs) → R σ' H) → g x σ H R) := ⟨fun h => h.run⟩
structure SGs (g : TGs) (bd : List PyData → DE → Option DE) (js : List Nat) : Prop where
 run : ∀ {xs : List V} {ds : List PyData} {σ : L2.St} {G H : Hp} {en en' : DE}, DtAll G xs ds → Ex G H → bd ds en = some en' → DRel en σ G → ∀ {R : L2.St → Hp → Prop}, (∀ σ', DRel en' σ' G → (∀ vs : List Nat, (∀ j ∈ js, j ∈ vs) → wipe σ' vs = wipe σ vs) → R σ' H) → g xs σ H R
instance {g : TGs} {bd : List PyData → DE → Option DE} {js : List Nat} : CoeFun (SGs g bd js) (fun _ => ∀ {xs : List V} {ds : List PyData} {σ : L2.St} {G H : Hp} {en en' : DE}, DtAll G xs ds → Ex G H → bd ds en = some en' → DRel en σ G → ∀ {R : L2.St → Hp → Prop}, (∀ σ', DRel en' σ' G → (∀ vs : List Nat, (∀ j ∈ js, j ∈ vs) → wipe σ' vs = wipe σ vs) → R σ' H) → g xs σ H R) := ⟨fun h => h.run⟩
noncomputable def bName (j : Nat) : PyData → DE → Option DE := fun d en => some (en.set j (some d))
noncomputable def bNil : List PyData → DE → Option DE
 | [], en => some en
 | _, _ => none
noncomputable def bCons (b : PyData → DE → Option DE) (r : List PyData → DE → Option DE) : List PyData → DE → Option DE
 | d :: ds, en => (b d en).bind (r ds)
 | [], _ => none
noncomputable def bTup (n : Nat) (r : List PyData → DE → Option DE) : PyData → DE → Option DE
 | .tuple ds, en => if ds.length = n then r ds en else none
 | _, _ => none
noncomputable def bLst (n : Nat) (r : List PyData → DE → Option DE) : PyData → DE → Option DE
 | .list ds, en => if ds.length = n then r ds en else none
 | _, _ => none
theorem ZfZ {σ : L2.St} {j : Nat} {x : Option V} : ∀ {vs : List Nat}, j ∈ vs → wipe (σ.set j x) vs = wipe σ vs
 | v :: vs, h => by
  unfold wipe
  by_cases hj : j ∈ vs
  ·rw [ZfZ hj]
  ·obtain rfl : j = v := by rcases List.mem_cons.mp h with h | h; exact h; exact absurd h hj
   have : ∀ vs : List Nat, j ∉ vs → wipe (σ.set j x) vs = (wipe σ vs).set j x := by
    intro vs
    induction vs with
    | nil => intro _; rfl
    | cons v vs ih =>
     intro hn
     unfold wipe
     rw [ih (fun z => hn (List.mem_cons_of_mem _ z)), List.set_comm]
     exact fun z => hn (by rw [z]; exact List.mem_cons_self)
   rw [this vs hj, List.set_set]
theorem Zk6 {σ : L2.St} (vs : List Nat) : wipe (wipe σ vs) vs = wipe σ vs := by
 have : ∀ (us : List Nat), (∀ u ∈ us, u ∈ vs) → wipe (wipe σ us) vs = wipe σ vs := by
  intro us
  induction us with
  | nil => intro _; rfl
  | cons u us ih =>
   intro h
   show wipe ((wipe σ us).set u none) vs = _
   rw [ZfZ (h u List.mem_cons_self), ih fun z hz => h z (List.mem_cons_of_mem _ hz)]
 exact this vs fun _ h => h
theorem DRel.drop {en : DE} {σ : L2.St} {G : Hp} (h : DRel en σ G) (j : Nat) : DRel (en.set j none) (σ.set j none) G := by
 refine ⟨by simp [h.len], fun i e hi => ?_⟩
 by_cases z : j = i
 ·subst z
  by_cases hl : j < en.length
  ·rw [List.getElem?_set_self hl] at hi
   cases hi
  ·rw [List.getElem?_eq_none (by simp; omega)] at hi
   cases hi
 ·rw [List.getElem?_set_ne z] at hi ⊢
  exact h.get i e hi
theorem DRel.wipe {en : DE} {σ : L2.St} {G : Hp} (h : DRel en σ G) : ∀ vs : List Nat, DRel (wipeD en vs) (L2.wipe σ vs) G
 | [] => h
 | v :: vs => (h.wipe vs).drop v
theorem Zd1 {j : Nat} : SG (gName j) (bName j) [j] := ⟨fun dx gh e h _ k => by
 cases e
 exact k _ (h.set dx) fun vs hv => ZfZ (hv j List.mem_cons_self)⟩
noncomputable def lcGo (bd : PyData → DE → Option DE) (cond : DE → Option Bool) (elt : FW) (en : DE) : List PyData → Option (List PyData)
 | [] => some []
 | d :: ds => (bd d en).bind fun en' => (cond en').bind fun c => if c = true then (elt en').bind fun y => (lcGo bd cond elt en ds).map (y :: ·) else lcGo bd cond elt en ds
noncomputable def wLc (it : DE → Option (List PyData)) (bd : PyData → DE → Option DE) (cond : DE → Option Bool) (elt : FW) (vs : List Nat) : FW := fun en => (it en).bind fun ds => if ds.length ≤ 50000 then (lcGo bd cond elt (wipeD en vs) ds).map PyData.list else none
theorem ZeK {bd : PyData → DE → Option DE} {cond : DE → Option Bool} {elt : FW} {en : DE} : ∀ {ds ys : List PyData}, lcGo bd cond elt en ds = some ys →
  ys = (ds.filter fun d => decide ((bd d en).bind cond = some true)).map (fun d => ((bd d en).bind elt).getD .none) ∧ ∀ d ∈ ds, ∃ en', bd d en = some en' ∧ cond en' = some (decide ((bd d en).bind cond = some true)) ∧ (decide ((bd d en).bind cond = some true) = true → elt en' = some (((bd d en).bind elt).getD .none))
 | [], ys, h => by cases h; exact ⟨rfl, fun d hd => nomatch hd⟩
 | d :: ds, ys, h => by
  obtain ⟨en', he, h1⟩ := bnd h
  obtain ⟨c, hc, h2⟩ := bnd h1
  have hb : (bd d en).bind cond = some c := by rw [he]; exact hc
  cases c with
  | true =>
   rw [if_pos rfl] at h2
   obtain ⟨y, hy, h3⟩ := bnd h2
   obtain ⟨zs, hz, h4⟩ := Option.map_eq_some_iff.mp h3
   obtain ⟨i1, i2⟩ := ZeK hz
   have hd : decide ((bd d en).bind cond = some true) = true := decide_eq_true hb
   have hf : ((bd d en).bind elt).getD .none = y := by rw [he]; show (elt en').getD .none = y; rw [hy]; rfl
   refine ⟨?_, fun e he' => ?_⟩
   ·rw [List.filter_cons, if_pos hd, List.map_cons, hf, ← i1, h4]
   ·rcases List.mem_cons.mp he' with rfl | q
    ·exact ⟨en', he, by rw [hd]; exact hc, fun _ => by rw [hf]; exact hy⟩
    ·exact i2 e q
  | false =>
   rw [if_neg Bool.false_ne_true] at h2
   obtain ⟨i1, i2⟩ := ZeK h2
   have hd : decide ((bd d en).bind cond = some true) = false := decide_eq_false (by rw [hb]; intro z; cases z)
   refine ⟨?_, fun e he' => ?_⟩
   ·rw [List.filter_cons, if_neg (by rw [hd]; exact Bool.false_ne_true), ← i1]
   ·rcases List.mem_cons.mp he' with rfl | q
    ·exact ⟨en', he, by rw [hd]; exact hc, fun z => by rw [hd] at z; cases z⟩
    ·exact i2 e q
section
variable {K : PySem.W.Frag} {w : World} {σ : L2.St} {G G' H : Hp} {te ta tb tl : TE} {tt : TT}
theorem ZpW {J : It} {n : Nat} {Gd : Hp → Prop} {Y : Nat → Hp → V → Hp → Prop} (wk : Walk J n Gd Y) {g : TG} {vs : List Nat} {H1 : Hp} {Q : VK} (gh : Ex G H1) (hn : n ≤ 50000) (hG : ∀ H', Ex H1 H' → Gd H')
  (p : Nat → Bool) (f : Nat → PyData)
  (hs : ∀ i x H H' Gi, i < n → Ex G Gi → Ex Gi H → Ex H1 H → Y i H x H' → Ex H H' ∧ ∀ R : L2.St → Hp → Prop, (∀ σ2, wipe σ2 vs = wipe σ vs → EvB tt σ2 (grow Gi H H') (p i) → (p i = true → EvX te σ2 (grow Gi H H') (f i)) → R σ2 H') → g x (wipe σ vs) H' R)
  (q : ∀ D H2, Ex H1 H2 → H1 D = none → Dt (grow G H1 H2) (.ref D) (.list (((List.range n).filter p).map f)) → Q (.ref D) H2) :
  ∀ D, H1 D = none → ∃ W : Nat → Nat → Hp → Prop, (∃ m, W 0 m (upd H1 D (.lst []))) ∧ ∀ i m H, W i m H →
   (J.stop i H ∧ Q (.ref D) H) ∨ (J.go i H ∧ ∃ Nx : Hp → Prop, (∀ H', Nx H' → ∃ m', m' < m ∧ W (i + 1) m' H') ∧ ∀ x H', J.yld i H x H' → g x (wipe σ vs) H' fun σ2 H2 => wipe σ2 vs = wipe σ vs ∧ tt σ2 H2 fun b H3 =>
    if b = true then te σ2 H3 fun y H4 => ∃ acc, H4 D = some (.lst acc) ∧ acc.length < sizeLine ∧ Nx (upd H4 D (.lst (acc ++ [y]))) else Nx H3) := by
 intro D hD
 refine lc_it wk (Qd := fun H => Q (.ref D) H) (fun i H => Ex H1 H ∧ ∃ xs Gi, H D = some (.lst xs) ∧ Ex G Gi ∧ Ex Gi H ∧ Gi D = none ∧ (∀ a o u, Gi a = some o → H1 a = some u → G a = some o) ∧ DtAll Gi xs (((List.range i).filter p).map f)) ?_ ?_ ?_ ?_
 ·exact ⟨Ex.new hD, [], G, upd_same, Ex.refl G, gh.trans (Ex.new hD), fresh_back gh hD, fun a o u h _ => h, .nil⟩
 ·rintro i H hi ⟨e1, _⟩
  exact hG H e1
 ·rintro i x H H' hi ⟨e1, xs, Gi, hL, g1, g2, g3, g4, hd⟩ hy
  have hlen : xs.length ≤ i := by
   rw [hd.len, List.length_map]
   have := List.length_filter_le p (List.range i)
   rw [List.length_range] at this
   exact this
  obtain ⟨eHH, hs⟩ := hs i x H H' Gi hi g1 g2 e1 hy
  refine hs _ fun σ2 hw hb he => ⟨hw, ?_⟩
  have g2' : Ex (grow Gi H H') H' := Zh g2 eHH
  have g3' : grow Gi H H' D = none := Zf3 hL g3
  have g4' : ∀ a o u, grow Gi H H' a = some o → H1 a = some u → G a = some o := fun a o u h h1 => by
   rw [Zt (e1 _ _ h1)] at h
   exact g4 a o u h h1
  have g1' : Ex G (grow Gi H H') := g1.trans (Zp g2)
  have hL' : H' D = some (.lst xs) := eHH _ _ hL
  have e1' : Ex H1 H' := e1.trans eHH
  have hd' := hd.up (Zp (H2 := H') g2)
  generalize grow Gi H H' = Gj at *
  refine hb H' g2' _ fun H3 e3 => ?_
  cases hp : p i with
  | true =>
   refine iteT ?_
   refine he hp H3 (g2'.trans e3) _ fun y H4 e4 dy => ⟨xs, e4 _ _ (e3 _ _ hL'), sz_lt (by omega), ?_⟩
   have gD : grow Gj H3 H4 D = none := Zf3 (e3 _ _ hL') g3'
   refine ⟨(e1'.trans (e3.trans e4)).mut hD, xs ++ [y], grow Gj H3 H4, upd_same, g1'.trans (Zp (g2'.trans e3)), (Zh (g2'.trans e3) e4).mut gD, gD, fun a o u h h1 => ?_, ?_⟩
   ·rw [Zt (e3 _ _ (e1' _ _ h1))] at h
    exact g4' a o u h h1
   ·rw [List.range_succ, List.filter_append, List.map_append, List.filter_cons, if_pos hp]
    exact (hd'.up (Zp (g2'.trans e3))).snoc dy
  | false =>
   refine iteF ?_
   refine ⟨e1'.trans e3, xs, Gj, e3 _ _ hL', g1', g2'.trans e3, g3', g4', ?_⟩
   rw [List.range_succ, List.filter_append, List.map_append, List.filter_cons, if_neg (by rw [hp]; decide)]
   show DtAll Gj xs (_ ++ [])
   rw [List.append_nil]
   exact hd'
 ·rintro H ⟨e1, xs, Gi, hL, g1, g2, g3, g4, hd⟩
  refine q D H e1 hD (.lst (by rw [Zx hD]; exact hL) (hd.up fun a o h => ?_))
  cases z : H1 a with
  | none =>
   rw [Zx z]
   exact g2 a o h
  | some u =>
   rw [Zt z]
   exact g4 a o u h z
end
theorem Zgp {wi : TI} {g : TG} {tt : TT} {te : TE} {it : DE → Option (List PyData)} {bd : PyData → DE → Option DE} {cond : DE → Option Bool} {elt : FW} {vs js : List Nat} (hi : SI wi it) (hg : SG g bd js) (hjs : ∀ j ∈ js, j ∈ vs) (ht : SB tt cond) (he : SW te elt) :
  SF (tLc wi g tt te vs) (wLc it bd cond elt vs) := ⟨fun {en σ G d} h e H gh Q q => by
 obtain ⟨ds, hds, e1⟩ := bnd e
 split at e1
 case isFalse => cases e1
 rename_i hlen
 obtain ⟨ys, hys, rfl⟩ := Option.map_eq_some_iff.mp e1
 obtain ⟨hy, hall⟩ := ZeK hys
 refine hi h hds gh fun J H1 Gd Y e1 wk hGd hY => ?_
 have gh1 := Zh gh e1
 refine ZpW (G := grow G H H1) wk gh1 hlen (fun H' e' => hGd H' (gh1.trans e')) (fun i => decide ((bd (ds.getD i .none) (wipeD en vs)).bind cond = some true)) (fun i => ((bd (ds.getD i .none) (wipeD en vs)).bind elt).getD .none) ?_ ?_
 ·intro i x Ha Hb Gi hin g1 g2 e2 hyy
  obtain ⟨eab, dd, hdd, dx⟩ := hY i x Ha Hb Gi hin g1 g2 hyy
  have eg : ds.getD i .none = dd := by rw [List.getD_eq_getElem?_getD, hdd]; rfl
  refine ⟨eab, fun R k => ?_⟩
  rw [eg] at k
  obtain ⟨en', hb1, hb2, hb3⟩ := hall dd (List.mem_of_getElem? hdd)
  have hr : DRel (wipeD en vs) (wipe σ vs) (grow Gi Ha Hb) := (h.wipe vs).mono (((Zp gh).trans g1).trans (Zp g2))
  refine hg dx (Zh g2 eab) hb1 hr fun σ' hr' hw => ?_
  exact k σ' ((hw vs hjs).trans (Zk6 vs)) (ht hr' hb2) fun z => he hr' (hb3 z)
 ·intro D H2 e2 hD dD
  rw [ZkI (fun d => decide ((bd d (wipeD en vs)).bind cond = some true)) (fun d => ((bd d (wipeD en vs)).bind elt).getD .none) ds _ _ (fun i dd hdi => by rw [List.getD_eq_getElem?_getD, hdi]; exact ⟨rfl, rfl⟩), ← hy] at dD
  exact q _ H2 (e1.trans e2) (Za9 (fresh_back e1 hD)) (dD.up (ZM e1 e2))⟩
noncomputable def asL : PyData → Option (List PyData)
 | .list ds => some ds
 | _ => none
noncomputable def asT : PyData → Option (List PyData)
 | .tuple ds => some ds
 | _ => none
noncomputable def signs (s : Str) : List PyData := s.cps.toList.map fun c => PyData.str (sg c)
noncomputable def asS : PyData → Option Str
 | .str s => some s
 | _ => none
noncomputable def itL (a : FW) : DE → Option (List PyData) := fun en => (a en).bind asL
noncomputable def itT (a : FW) : DE → Option (List PyData) := fun en => (a en).bind asT
noncomputable def itS (a : FW) : DE → Option (List PyData) := fun en => (a en).bind fun x => (asS x).map signs
noncomputable def rgI (lo : Int) (n : Nat) : List PyData := (List.range n).map fun i => PyData.int (lo + (i : Nat))
noncomputable def okI (i : Int) : Bool := Nat.ble i.natAbs 100000
theorem ZlF {i : Int} (h : -100000 ≤ i) (g : i ≤ 100000) : okI i = true := Nat.ble_eq.mpr (by omega)
noncomputable def rg1 : List PyData → Option (List PyData)
 | [.int j] => if okI j = true then some (rgI 0 j.toNat) else none
 | _ => none
noncomputable def enumD (ds : List PyData) : List PyData := (List.range ds.length).map fun i => PyData.tuple [.int (i : Nat), ds.getD i .none]
noncomputable def en1 : List PyData → Option (List PyData)
 | [.list ds] => some (enumD ds)
 | _ => none
noncomputable def itA (o : List PyData → Option (List PyData)) (a : DE → Option (List PyData)) : DE → Option (List PyData) := fun en => (a en).bind o
theorem Zk9 {x : PyData} {b : List PyData} (h : asL x = some b) : x = .list b := by
 cases x <;> simp [asL] at h
 rw [h]
theorem Zqp {x : PyData} {b : List PyData} (h : asT x = some b) : x = .tuple b := by
 cases x <;> simp [asT] at h
 rw [h]
theorem ZrJ {x : PyData} {b : Str} (h : asS x = some b) : x = .str b := by
 cases x <;> simp [asS] at h
 rw [h]
section
variable {K : PySem.W.Frag} {w : World} {te ta tb tl : TE} {a b : FW}
theorem Zn7 (ha : SW ta a) : SI (iList K ta) (itL a) := ⟨fun {en σ G ds} h e H gh R k => by
 obtain ⟨x, hx, e⟩ := bnd e
 obtain rfl := Zk9 e
 refine ha h hx H gh _ fun v H1 e1 dv => ?_
 obtain ⟨p, xs, rfl, hp, r⟩ := dv.ol
 have g1 := Zh gh e1
 refine ⟨p, rfl, ⟨xs, sq_of (g1 _ _ hp)⟩, k _ H1 _ _ e1 (r.len ▸ walk_list (K := K) (a := p) (xs := xs)) (fun H' e' => sq_of (e' _ _ hp)) fun i x Ha Hb Gi hi gg gi hy => ?_⟩
 obtain ⟨rfl, hxi⟩ := hy
 obtain ⟨dd, hd, ddt⟩ := r.at' hxi
 exact ⟨Ex.refl _, dd, hd, (ddt.up gg).up (Zp gi)⟩⟩
theorem Zlc (ha : SW ta a) : SI (iStr ta) (itS a) := ⟨fun {en σ G ds} h e H gh R k => by
 obtain ⟨x, hx, e⟩ := bnd e
 obtain ⟨s, hs, rfl⟩ := Option.map_eq_some_iff.mp e
 obtain rfl := ZrJ hs
 refine ha h hx H gh _ fun v H1 e1 dv => ?_
 obtain rfl := dv.os
 have hl : (signs s).length = s.cps.size := by simp [signs]
 refine ⟨s, rfl, k _ H1 _ _ e1 (hl ▸ walk_str (z := s)) (fun H' e' => trivial) fun i x Ha Hb Gi hi gg gi hy => ?_⟩
 obtain ⟨rfl, c, hc, rfl⟩ := hy
 exact ⟨Ex.refl _, .str (sg c), by unfold signs; rw [List.getElem?_map, Array.getElem?_toList, hc]; rfl, .str _⟩⟩
theorem ZlN {lo : Int} {n i : Nat} (h : i < n) : (rgI lo n)[i]? = some (.int (lo + (i : Nat))) := by
 unfold rgI
 rw [List.getElem?_map, List.getElem?_range h]
 rfl
theorem Zfq {lo : Int} {n : Nat} : (rgI lo n).length = n := by simp [rgI]
theorem Znw {i : Int} (h : okI i = true) : -100000 ≤ i ∧ i ≤ 100000 := by
 have := Nat.ble_eq.mp h
 omega
theorem ZqO {ta : TA} {s : DE → Option (List PyData)} (ha : SA ta s) : SI (iRng1 ta) (itA rg1 s) := ⟨fun {en σ G ds} h e H gh R k => by
 obtain ⟨x, hx, e⟩ := bnd e
 unfold rg1 at e
 split at e
 case h_2 => cases e
 rename_i j
 split at e
 case isFalse => cases e
 rename_i hj
 cases e
 have hj := Znw hj
 refine ha h hx H gh _ fun v H1 e1 dv => ?_
 obtain ⟨v1, rfl, dv1⟩ := dv.one
 obtain rfl := dv1.oi
 refine ⟨j, rfl, by omega, by omega, k _ H1 _ _ e1 (by rw [Zfq]; exact walk_range (lo := 0) (n := j.toNat)) (fun H' e' => trivial) fun i x Ha Hb Gi hi gg gi hy => ?_⟩
 obtain ⟨rfl, rfl⟩ := hy
 rw [Zfq] at hi
 exact ⟨Ex.refl _, _, ZlN hi, .int _⟩⟩
theorem ZbI {ta : TA} {s : DE → Option (List PyData)} {R : List PyData → PyData → Prop} {f : List PyData → Option PyData} (hf : ∀ {ds d}, f ds = some d → R ds d) (ha : SA ta s) : SW (tCall (PSp R) [] E0 ta) (wCb f s) := ⟨fun h e => by
 obtain ⟨x, hx, e⟩ := bnd e
 exact Zfa (ha h hx) (hf e)⟩
theorem ZiN {ta : TA} {s : DE → Option (List PyData)} {R : List PyData → PyData → Prop} {f : List PyData → Option PyData} (hf : ∀ {ds d}, f ds = some d → R ds d) (ha : SA ta s) : SF (tCall (FSp R) [] E0 ta) (wCb f s) := ⟨fun h e => by
 obtain ⟨x, hx, e⟩ := bnd e
 exact ZoK (ha h hx) (hf e)⟩
end
end Kb
namespace Kb
open PySem L2 Evl
noncomputable def asLI : List PyData → Option (List Int)
 | [] => some []
 | d :: ds => (asI d).bind fun i => (asLI ds).map (i :: ·)
noncomputable def asLB : List PyData → Option (List Bool)
 | [] => some []
 | d :: ds => (asB d).bind fun i => (asLB ds).map (i :: ·)
theorem Zjs : ∀ {ds : List PyData} {ns : List Int}, asLI ds = some ns → ds = ns.map PyData.int
 | [], _, h => by cases h; rfl
 | d :: ds, ns, h => by
  obtain ⟨i, hi, h⟩ := bnd h
  obtain ⟨ms, hm, rfl⟩ := Option.map_eq_some_iff.mp h
  rw [Zga hi, Zjs hm]
  rfl
theorem Zg2 : ∀ {ds : List PyData} {ns : List Bool}, asLB ds = some ns → ds = ns.map PyData.bool
 | [], _, h => by cases h; rfl
 | d :: ds, ns, h => by
  obtain ⟨i, hi, h⟩ := bnd h
  obtain ⟨ms, hm, rfl⟩ := Option.map_eq_some_iff.mp h
  rw [Zc8 hi, Zg2 hm]
  rfl
theorem Zic (ns : List Int) : asLI (ns.map PyData.int) = some ns := by
 induction ns with
 | nil => rfl
 | cons n ns ih => simp [asLI, asI, ih]
theorem ZmO (ns : List Bool) : asLB (ns.map PyData.bool) = some ns := by
 induction ns with
 | nil => rfl
 | cons n ns ih => simp [asLB, asB, ih]
noncomputable def scV : PyData → V
 | .bool b => .bl b
 | .int i => .int i
 | .str s => .str s
 | _ => .non
noncomputable def flatD : PyData → Bool
 | .none => true
 | .bool _ => true
 | .int _ => true
 | .str _ => true
 | _ => false
theorem Zcl {G : Hp} {x : V} {d : PyData} (h : Dt G x d) (f : flatD d = true) : x = scV d := by
 cases h <;> first | rfl | cases f
theorem Zg7 {G G' : Hp} {x : V} {d : PyData} (h : Dt G x d) (f : flatD d = true) : Dt G' x d := by
 cases h <;> first | exact .non | exact .bl _ | exact .int _ | exact .str _ | cases f
theorem Zk8 {d : PyData} (f : flatD d = true) : flatV (scV d) = true := by
 cases d <;> first | rfl | cases f
theorem ZhX {G : Hp} : ∀ {xs : List V} {ds : List PyData}, DtAll G xs ds → ds.all flatD = true → xs = ds.map scV
 | _, _, .nil, _ => rfl
 | _, _, .cons h r, f => by
  rw [List.all_cons, Bool.and_eq_true] at f
  rw [Zcl h f.1, ZhX r f.2]
  rfl
theorem ZoM {ds : List PyData} (f : ds.all flatD = true) : (ds.map scV).all flatV = true := by
 rw [List.all_map, List.all_eq_true]
 rw [List.all_eq_true] at f
 exact fun d hd => Zk8 (f d hd)
noncomputable def oI (g : Int → Int → Int) : PyData → PyData → Option PyData
 | .int i, .int j => some (.int (g i j))
 | _, _ => none
noncomputable def oIc (C : Int → Int → Bool) (g : Int → Int → Int) : PyData → PyData → Option PyData
 | .int i, .int j => if C i j = true then some (.int (g i j)) else none
 | _, _ => none
noncomputable def oCmp (g : Int → Int → Bool) : PyData → PyData → Option PyData
 | .int i, .int j => some (.bool (g i j))
 | _, _ => none
theorem i2 {o : Int → Int → Option PyData} {a b d : PyData} (h : (match a, b with | .int i, .int j => o i j | _, _ => none) = some d) : ∃ i j, a = .int i ∧ b = .int j ∧ o i j = some d := by
 split at h
 ·exact ⟨_, _, rfl, rfl, h⟩
 ·cases h
theorem Zry (g : Int → Int → Int) : OpF (rI0 fun i j => .int (g i j)) (oI g) := ⟨fun {x y G a b d} dx dy e H gh Q q => by
 obtain ⟨i, j, rfl, rfl, e⟩ := i2 e
 cases e
 cases dx; cases dy
 exact ⟨i, j, rfl, rfl, q _ H (Ex.refl H) (ZC fun _ z => nomatch z) (.int _)⟩⟩
theorem ZhB {C : Int → Int → Prop} {c : Int → Int → Bool} (hc : ∀ {i j}, c i j = true → C i j) (g : Int → Int → Int) : OpF (rI C fun i j => .int (g i j)) (oIc c g) := ⟨fun {x y G a b d} dx dy e H gh Q q => by
 obtain ⟨i, j, rfl, rfl, e⟩ := i2 (o := fun i j => if c i j = true then some (.int (g i j)) else none) e
 have e : (if c i j = true then some (PyData.int (g i j)) else none) = some d := e
 split at e
 ·cases e
  cases dx; cases dy
  exact ⟨i, j, rfl, rfl, hc (by assumption), q _ H (Ex.refl H) (ZC fun _ z => nomatch z) (.int _)⟩
 ·cases e⟩
theorem Zgh (g : Int → Int → Bool) : OpF (rI0 fun i j => .bl (g i j)) (oCmp g) := ⟨fun {x y G a b d} dx dy e H gh Q q => by
 obtain ⟨i, j, rfl, rfl, e⟩ := i2 e
 cases e
 cases dx; cases dy
 exact ⟨i, j, rfl, rfl, q _ H (Ex.refl H) (ZC fun _ z => nomatch z) (.bl _)⟩⟩
noncomputable abbrev oAdd := oI fun i j => i + j
noncomputable abbrev oSub := oI fun i j => i - j
noncomputable def cMul (i j : Int) : Bool := Nat.ble i.natAbs 18446744073709551615 || Nat.ble j.natAbs 18446744073709551615
noncomputable def cDiv (i j : Int) : Bool := decide (0 < j) && Nat.ble j.natAbs 1073741823
noncomputable def cMod (i j : Int) : Bool := decide (0 < j)
noncomputable def cPow (i j : Int) : Bool := decide (0 ≤ j) && decide (j ≤ 1000000) && decide (i.natAbs < 2 ^ 64)
noncomputable abbrev oMul := oIc cMul fun i j => i * j
noncomputable abbrev oDiv := oIc cDiv fun i j => i / j
noncomputable abbrev oMod := oIc cMod fun i j => i % j
noncomputable abbrev oPow := oIc cPow fun i j => i ^ j.toNat
theorem ZaH : OpF (rI0 fun i j => .int (i + j)) oAdd := Zry fun i j => i + j
theorem ZkX : OpF (rI0 fun i j => .int (i - j)) oSub := Zry fun i j => i - j
theorem Zbv : OpF (rI CMul fun i j => .int (i * j)) oMul := ZhB (fun {i j} h => by
 unfold cMul at h
 rw [Bool.or_eq_true] at h
 rcases h with h | h
 ·have := Nat.ble_eq.mp h
  exact .inl ⟨by omega, by omega⟩
 ·have := Nat.ble_eq.mp h
  exact .inr ⟨by omega, by omega⟩) fun i j => i * j
theorem ZkO : OpF (rI CDiv fun i j => .int (i / j)) oDiv := ZhB (fun {i j} h => by
 unfold cDiv at h
 simp only [Bool.and_eq_true, decide_eq_true_eq] at h
 have := Nat.ble_eq.mp h.2
 exact ⟨h.1, by omega⟩) fun i j => i / j
theorem ZbU : OpF (rI (fun _ j => 0 < j) fun i j => .int (i % j)) oMod := ZhB (fun {i j} h => of_decide_eq_true h) fun i j => i % j
theorem Ze0 : OpF (rI CPow fun i j => .int (i ^ j.toNat)) oPow := ZhB (fun {i j} h => by
 unfold cPow at h
 simp only [Bool.and_eq_true, decide_eq_true_eq] at h
 exact ⟨h.1.1, h.1.2, h.2⟩) fun i j => i ^ j.toNat
noncomputable abbrev oLt := oCmp fun i j => decide (i < j)
noncomputable abbrev oLe := oCmp fun i j => decide (i ≤ j)
noncomputable abbrev oGt := oCmp fun i j => decide (j < i)
noncomputable abbrev oGe := oCmp fun i j => decide (j ≤ i)
theorem ZhE : OpF (rI0 fun i j => .bl (decide (i < j))) oLt := Zgh fun i j => decide (i < j)
theorem Zfp : OpF (rI0 fun i j => .bl (decide (i ≤ j))) oLe := Zgh fun i j => decide (i ≤ j)
theorem ZhD : OpF (rI0 fun i j => .bl (decide (j < i))) oGt := Zgh fun i j => decide (j < i)
theorem Znv : OpF (rI0 fun i j => .bl (decide (j ≤ i))) oGe := Zgh fun i j => decide (j ≤ i)
noncomputable def oNeg : PyData → Option PyData
 | .int i => some (.int (-i))
 | _ => none
theorem Zbx : UnOk (rU fun i => .int (-i)) oNeg := ⟨fun {x G a d} dx e H gh Q q => by
 cases a <;> try (cases e; done)
 cases e
 cases dx
 exact ⟨_, rfl, q _ H (Ex.refl H) (.int _)⟩⟩
noncomputable def lenS (s : Str) : Bool := decide (s.length ≤ 50000)
noncomputable def oAddS : PyData → PyData → Option PyData
 | .str a, .str b => if lenS a = true ∧ lenS b = true then some (.str (a ++ b)) else none
 | _, _ => none
theorem Zpd : OpF (fun x y H Q => ∃ i j, x = .str i ∧ y = .str j ∧ i.length + j.length ≤ sizeLine ∧ Q (.str (i ++ j)) H) oAddS := ⟨fun {x y G a b d} dx dy e H gh Q q => by
 unfold oAddS at e
 split at e
 case h_2 => cases e
 split at e
 case isFalse => cases e
 rename_i h
 cases e
 cases dx; cases dy
 exact ⟨_, _, rfl, rfl, sz_of (by have := of_decide_eq_true h.1; have := of_decide_eq_true h.2; omega), q _ H (Ex.refl H) (ZC fun _ z => nomatch z) (.str _)⟩⟩
noncomputable def oInSg (neg : Bool) : PyData → PyData → Option PyData
 | .str a, .str b => match a.cps.toList with
  | [c] => some (.bool (if neg then !decide (c ∈ b.cps.toList) else decide (c ∈ b.cps.toList)))
  | _ => none
 | _, _ => none
theorem ZhJ {a : Str} {c : Nat} (h : a.cps.toList = [c]) : a = ⟨#[c]⟩ := by
 cases a with
 | mk cps =>
  show Str.mk cps = _
  congr 1
  have : cps.toList.toArray = [c].toArray := by rw [h]
  simpa using this
theorem ZgN : OpF rInSign (oInSg false) := ⟨fun {x y G a b d} dx dy e H gh Q q => by
 unfold oInSg at e
 split at e
 case h_2 => cases e
 split at e
 case h_2 => cases e
 rename_i c hc
 cases e
 cases dx; cases dy
 exact ⟨c, _, by rw [ZhJ hc], rfl, q _ H (Ex.refl H) (ZC fun _ z => nomatch z) (.bl _)⟩⟩
theorem ZnV : OpF rNotInSign (oInSg true) := ⟨fun {x y G a b d} dx dy e H gh Q q => by
 unfold oInSg at e
 split at e
 case h_2 => cases e
 split at e
 case h_2 => cases e
 rename_i c hc
 cases e
 cases dx; cases dy
 exact ⟨c, _, by rw [ZhJ hc], rfl, q _ H (Ex.refl H) (ZC fun _ z => nomatch z) (.bl _)⟩⟩
noncomputable def oIxS : PyData → PyData → Option PyData
 | .str a, .int i => if lenS a = true then (L2.atI a.cps.toList i).map fun c => .str (sg c) else none
 | _, _ => none
theorem Zih : OpF rIxS oIxS := ⟨fun {x y G a b d} dx dy e H gh Q q => by
 unfold oIxS at e
 split at e
 case h_2 => cases e
 split at e
 case isFalse => cases e
 rename_i h
 obtain ⟨c, hc, rfl⟩ := Option.map_eq_some_iff.mp e
 cases dx; cases dy
 exact ⟨_, _, c, rfl, rfl, sz_of (by have := of_decide_eq_true h; omega), hc, q _ H (Ex.refl H) (ZC fun _ z => nomatch z) (.str _)⟩⟩
noncomputable def oSlS : PyData → Option Int → Option Int → Option PyData
 | .str a, i, j => if lenS a = true then some (.str (cutS a i j)) else none
 | _, _, _ => none
theorem ZqS : SlF rSlS oSlS := ⟨fun {x G i j a d} dx e H gh Q q => by
 unfold oSlS at e
 split at e
 case h_2 => cases e
 split at e
 case isFalse => cases e
 rename_i h
 cases e
 cases dx
 exact ⟨_, rfl, sz_of (by have := of_decide_eq_true h; omega), q _ H (Ex.refl H) (ZC fun _ z => nomatch z) (.str _)⟩⟩
noncomputable def oEq (neg : Bool) : PyData → PyData → Option PyData := fun a b => if flatD a = true ∧ flatD b = true ∧ scal (scV a) (scV b) = true then some (.bool (if neg then !decide (scV a = scV b) else decide (scV a = scV b))) else none
theorem Z6 : OpF rEq (oEq false) := ⟨fun {x y G a b d} dx dy e H gh Q q => by
 unfold oEq at e
 split at e
 case isFalse => cases e
 rename_i h
 cases e
 rw [Zcl dx h.1, Zcl dy h.2.1]
 exact ⟨h.2.2, q _ H (Ex.refl H) (ZC fun _ z => nomatch z) (.bl _)⟩⟩
theorem Zhz : OpF rNe (oEq true) := ⟨fun {x y G a b d} dx dy e H gh Q q => by
 unfold oEq at e
 split at e
 case isFalse => cases e
 rename_i h
 cases e
 rw [Zcl dx h.1, Zcl dy h.2.1]
 exact ⟨h.2.2, q _ H (Ex.refl H) (ZC fun _ z => nomatch z) (.bl _)⟩⟩
noncomputable def oEqD (neg : Bool) : PyData → PyData → Option PyData := fun a b => if SeqAt.shaped a = true ∧ SeqAt.shaped b = true then some (.bool (if neg then !PyData.eqv a b else PyData.eqv a b)) else none
section
variable {K : PySem.W.Frag} {P : Program} {w : World}
theorem ZrR : OpF (rEqD K) (oEqD false) := ⟨fun {x y G a b d} dx dy e H gh Q q => by
 unfold oEqD at e
 split at e
 case isFalse => cases e
 rename_i h
 cases e
 exact ⟨a, b, (dx.up gh).dps h.1, (dy.up gh).dps h.2, h.1, h.2, q _ H (Ex.refl H) (ZC fun _ z => nomatch z) (.bl _)⟩⟩
theorem Zix : OpF (rNeD K) (oEqD true) := ⟨fun {x y G a b d} dx dy e H gh Q q => by
 unfold oEqD at e
 split at e
 case isFalse => cases e
 rename_i h
 cases e
 exact ⟨a, b, (dx.up gh).dps h.1, (dy.up gh).dps h.2, h.1, h.2, q _ H (Ex.refl H) (ZC fun _ z => nomatch z) (.bl _)⟩⟩
noncomputable def seqD : PyData → Option (List PyData)
 | .list ds => some ds
 | .tuple ds => some ds
 | _ => none
theorem ZrP {G H : Hp} {x : V} {d : PyData} {ds : List PyData} (h : Dt G x d) (e : seqD d = some ds) (gh : Ex G H) : ∃ a xs, x = .ref a ∧ (SqL K H a xs ∨ SqT K H a xs) ∧ DtAll G xs ds := by
 cases d <;> try (cases e; done)
 ·cases e
  obtain ⟨a, xs, rfl, ha, r⟩ := h.ol
  exact ⟨a, xs, rfl, .inl (sq_of (gh _ _ ha)), r⟩
 ·cases e
  obtain ⟨a, xs, rfl, ha, r⟩ := h.ot
  exact ⟨a, xs, rfl, .inr (st_of (gh _ _ ha)), r⟩
noncomputable def oIn (neg : Bool) : PyData → PyData → Option PyData := fun a b => (seqD b).bind fun ds => if flatD a = true ∧ ds.all flatD = true then some (.bool (if neg then !inV (scV a) (ds.map scV) else inV (scV a) (ds.map scV))) else none
theorem Zsd (neg : Bool) : OpF (rIn K neg) (oIn neg) := ⟨fun {x y G a b d} dx dy e H gh Q q => by
 obtain ⟨ds, hds, e⟩ := bnd e
 split at e
 case isFalse => cases e
 rename_i h
 cases e
 obtain ⟨p, xs, rfl, hp, r⟩ := ZrP (K := K) dy hds gh
 have exs := ZhX r h.2
 subst exs
 rw [Zcl dx h.1]
 exact ⟨p, _, rfl, hp, Zk8 h.1, ZoM h.2, q _ H (Ex.refl H) (ZC fun _ z => nomatch z) (by cases neg <;> exact .bl _)⟩⟩
noncomputable def oIsN (neg : Bool) : PyData → PyData → Option PyData
 | a, .none => some (.bool (if neg then !(match a with | .none => true | _ => false) else (match a with | .none => true | _ => false)))
 | _, _ => none
theorem Zlt {G : Hp} {x : V} {d : PyData} (h : Dt G x d) : decide (x = V.non) = (match d with | .none => true | _ => false) := by
 cases h <;> rfl
theorem ZkD : OpF (fun x y H Q => y = .non ∧ Q (.bl (decide (x = .non))) H) (oIsN false) := ⟨fun {x y G a b d} dx dy e H gh Q q => by
 unfold oIsN at e
 split at e
 case h_2 => cases e
 cases e
 refine ⟨dy.on, q _ H (Ex.refl H) (ZC fun _ z => nomatch z) ?_⟩
 have z := Zlt dx
 rw [z]
 cases a <;> exact .bl _⟩
theorem ZjU : OpF (fun x y H Q => y = .non ∧ Q (.bl (!decide (x = .non))) H) (oIsN true) := ⟨fun {x y G a b d} dx dy e H gh Q q => by
 unfold oIsN at e
 split at e
 case h_2 => cases e
 cases e
 refine ⟨dy.on, q _ H (Ex.refl H) (ZC fun _ z => nomatch z) ?_⟩
 have z := Zlt dx
 rw [z]
 cases a <;> exact .bl _⟩
noncomputable def oIxL : PyData → PyData → Option PyData
 | .list ds, .int i => L2.atI ds i
 | _, _ => none
noncomputable def oIxT : PyData → PyData → Option PyData
 | .tuple ds, .int i => L2.atI ds i
 | _, _ => none
theorem Z3 : OpOk (rIxL K) oIxL := ⟨fun {x y G a b d} dx dy e H gh Q q => by
 unfold oIxL at e
 split at e
 case h_2 => cases e
 obtain ⟨p, xs, rfl, hp, r⟩ := dx.ol
 cases dy
 obtain ⟨v, hv, dv⟩ := r.atI e
 exact ⟨p, xs, _, v, rfl, rfl, sq_of (gh _ _ hp), hv, q v H (Ex.refl _) (here dv gh)⟩⟩
theorem ZA : OpOk (rIxT K) oIxT := ⟨fun {x y G a b d} dx dy e H gh Q q => by
 unfold oIxT at e
 split at e
 case h_2 => cases e
 obtain ⟨p, xs, rfl, hp, r⟩ := dx.ot
 cases dy
 obtain ⟨v, hv, dv⟩ := r.atI e
 exact ⟨p, xs, _, v, rfl, rfl, st_of (gh _ _ hp), hv, q v H (Ex.refl _) (here dv gh)⟩⟩
noncomputable def oCat : PyData → PyData → Option PyData
 | .list a, .list b => if a.length + b.length ≤ 100000 then some (.list (a ++ b)) else none
 | _, _ => none
theorem ZeQ : OpF rCat oCat := ⟨fun {x y G a b d} dx dy e H gh Q q => by
 unfold oCat at e
 split at e
 case h_2 => cases e
 split at e
 case isFalse => cases e
 rename_i h
 cases e
 obtain ⟨p, xs, rfl, hp, r⟩ := dx.ol
 obtain ⟨p', ys, rfl, hp', r'⟩ := dy.ol
 exact ⟨p, p', xs, ys, rfl, rfl, gh _ _ hp, gh _ _ hp', sz_of (by rw [r.len, r'.len]; exact h), fun l hl => q _ _ (Ex.new hl) (Za9 hl) (ZcB hl gh (r.app r'))⟩⟩
noncomputable def oSlL : PyData → Option Int → Option Int → Option PyData
 | .list a, i, j => some (.list (cutA a i j))
 | _, _, _ => none
noncomputable def oSlT : PyData → Option Int → Option Int → Option PyData
 | .tuple a, i, j => some (.tuple (cutA a i j))
 | _, _, _ => none
theorem ZqP : SlF (rSlL K) oSlL := ⟨fun {x G i j a d} dx e H gh Q q => by
 unfold oSlL at e
 split at e
 case h_2 => cases e
 cases e
 obtain ⟨p, xs, rfl, hp, r⟩ := dx.ol
 exact ⟨p, xs, rfl, sq_of (gh _ _ hp), fun l hl => q _ _ (Ex.new hl) (Za9 hl) (ZcB hl gh (r.cut i j))⟩⟩
noncomputable def oRevL : PyData → Option PyData
 | .list a => some (.list a.reverse)
 | _ => none
theorem Zob : UnF (fun x H1 Q => ∃ a xs, x = .ref a ∧ SqL K H1 a xs ∧ ∀ p, H1 p = none → Q (.ref p) (upd H1 p (.lst xs.reverse))) oRevL := ⟨fun {x G a d} dx e H gh Q q => by
 unfold oRevL at e
 split at e
 case h_2 => cases e
 cases e
 obtain ⟨p, xs, rfl, hp, r⟩ := dx.ol
 exact ⟨p, xs, rfl, sq_of (gh _ _ hp), fun l hl => q _ _ (Ex.new hl) (Za9 hl) (ZcB hl gh r.rev)⟩⟩
noncomputable def cLen : List PyData → Option PyData
 | [.list ds] => some (.int (ds.length : Nat))
 | [.tuple ds] => some (.int (ds.length : Nat))
 | _ => none
theorem Zge : CbF (rLenS K) cLen := ⟨fun {xs G ds d} dx e H gh Q q => by
 unfold cLen at e
 split at e
 case h_3 => cases e
 ·cases e
  obtain ⟨v, rfl, dv⟩ := dx.one
  obtain ⟨p, xs, rfl, hp, r⟩ := dv.ol
  exact ⟨p, xs, rfl, .inl (sq_of (gh _ _ hp)), q _ H (Ex.refl _) (ZC fun _ z => nomatch z) (by rw [r.len]; exact .int _)⟩
 ·cases e
  obtain ⟨v, rfl, dv⟩ := dx.one
  obtain ⟨p, xs, rfl, hp, r⟩ := dv.ot
  exact ⟨p, xs, rfl, .inr (st_of (gh _ _ hp)), q _ H (Ex.refl _) (ZC fun _ z => nomatch z) (by rw [r.len]; exact .int _)⟩⟩
noncomputable def cLenS : List PyData → Option PyData
 | [.str s] => if lenS s = true then some (.int (s.length : Nat)) else none
 | _ => none
theorem Zfo : CbF rLenStr cLenS := ⟨fun {xs G ds d} dx e H gh Q q => by
 unfold cLenS at e
 split at e
 case h_2 => cases e
 split at e
 case isFalse => cases e
 rename_i h
 cases e
 obtain ⟨v, rfl, dv⟩ := dx.one
 cases dv
 exact ⟨_, rfl, sz_of (by have := of_decide_eq_true h; omega), q _ H (Ex.refl _) (ZC fun _ z => nomatch z) (.int _)⟩⟩
noncomputable def cList : List PyData → Option PyData
 | [.list ds] => some (.list ds)
 | [.tuple ds] => some (.list ds)
 | _ => none
theorem Zg3 : CbF (rListS K) cList := ⟨fun {xs G ds d} dx e H gh Q q => by
 unfold cList at e
 split at e
 case h_3 => cases e
 ·cases e
  obtain ⟨v, rfl, dv⟩ := dx.one
  obtain ⟨p, xs, rfl, hp, r⟩ := dv.ol
  exact ⟨p, xs, rfl, .inl (sq_of (gh _ _ hp)), fun l hl => q _ _ (Ex.new hl) (Za9 hl) (ZcB hl gh r)⟩
 ·cases e
  obtain ⟨v, rfl, dv⟩ := dx.one
  obtain ⟨p, xs, rfl, hp, r⟩ := dv.ot
  exact ⟨p, xs, rfl, .inr (st_of (gh _ _ hp)), fun l hl => q _ _ (Ex.new hl) (Za9 hl) (ZcB hl gh r)⟩⟩
noncomputable def cAll : List PyData → Option PyData
 | [.list ds] => (asLB ds).map fun bs => .bool (bs.all id)
 | _ => none
theorem lst1 {o : List PyData → Option PyData} {es : List PyData} {d : PyData} (h : (match es with | [.list ds] => o ds | _ => none) = some d) : ∃ ds, es = [.list ds] ∧ o ds = some d := by
 split at h
 ·exact ⟨_, rfl, h⟩
 ·cases h
theorem Zgy : CbF (rAll K) cAll := ⟨fun {xs G ds d} dx e H gh Q q => by
 obtain ⟨ds, rfl, e⟩ := lst1 e
 obtain ⟨bs, hb, rfl⟩ := Option.map_eq_some_iff.mp e
 obtain rfl := Zg2 hb
 obtain ⟨v, rfl, dv⟩ := dx.one
 obtain ⟨p, xs, rfl, hp, r⟩ := dv.ol
 rw [Zgv r] at hp
 exact ⟨p, bs, rfl, sq_of (gh _ _ hp), q _ H (Ex.refl _) (ZC fun _ z => nomatch z) (.bl _)⟩⟩
noncomputable def cAbs : List PyData → Option PyData
 | [.int i] => some (.int (if i < 0 then -i else i))
 | _ => none
theorem ZlQ : CbF rAbs cAbs := ⟨fun {xs G ds d} dx e H gh Q q => by
 unfold cAbs at e
 split at e
 case h_2 => cases e
 cases e
 obtain ⟨v, rfl, dv⟩ := dx.one
 cases dv
 exact ⟨_, rfl, q _ H (Ex.refl _) (ZC fun _ z => nomatch z) (.int _)⟩⟩
end
end Kb
namespace Kb
open PySem L2 Evl
inductive Lab
 | no
 | key (k : Key)
 | fld (f : Str)
inductive Kd
 | lst
 | tup
 | dct
 | ins (C : Addr)
/-- a thing: a told datum, or kept apart -/
inductive OT
 | leaf (d : PyData)
 | node (k : Kd) (cs : List (Lab × OT))
inductive LT
 | leaf (v : V) (d : PyData)
 | node (k : Kd) (a dx : Addr) (cs : List (Lab × LT))
theorem LT.ind {P : LT → Prop} (hl : ∀ v d, P (.leaf v d)) (hn : ∀ k a dx cs, (∀ x ∈ cs, P x.2) → P (.node k a dx cs)) (t : LT) : P t :=
 LT.rec (motive_1 := P) (motive_2 := fun cs => ∀ x ∈ cs, P x.2) (motive_3 := fun x => P x.2) hl (fun k a dx cs ih => hn k a dx cs ih) (fun _ h => nomatch h) (fun x xs h1 h2 y hy => by
  rcases List.mem_cons.mp hy with rfl | hy
  ·exact h1
  ·exact h2 y hy) (fun _ _ h => h) t
noncomputable def LT.val : LT → V
 | .leaf v _ => v
 | .node _ a _ _ => .ref a
mutual
noncomputable def LT.er : LT → OT
 | .leaf _ d => .leaf d
 | .node k _ _ cs => .node k (LT.erL cs)
noncomputable def LT.erL : List (Lab × LT) → List (Lab × OT)
 | [] => []
 | (l, t) :: r => (l, t.er) :: LT.erL r
end
theorem LT.erL_map : ∀ cs : List (Lab × LT), LT.erL cs = cs.map fun x => (x.1, x.2.er)
 | [] => rfl
 | (l, t) :: r => by rw [LT.erL, LT.erL_map r]; rfl
noncomputable def Kd.own : Kd → Addr → Addr → List Addr
 | .ins _, a, dx => [a, dx]
 | _, a, _ => [a]
mutual
noncomputable def LT.ads : LT → List Addr
 | .leaf _ _ => []
 | .node k a dx cs => k.own a dx ++ LT.adsL cs
noncomputable def LT.adsL : List (Lab × LT) → List Addr
 | [] => []
 | (_, t) :: r => t.ads ++ LT.adsL r
end
theorem LT.adsL_map : ∀ cs : List (Lab × LT), LT.adsL cs = cs.flatMap fun x => x.2.ads
 | [] => rfl
 | (l, t) :: r => by rw [LT.adsL, LT.adsL_map r]; rfl
noncomputable def Lab.k : Lab → Key
 | .key k => k
 | _ => .inl 0
noncomputable def Lab.f : Lab → Str
 | .fld f => f
 | _ => Str.empty
noncomputable def hoOf : Kd → Addr → List (Lab × V) → HO
 | .lst, _, vs => .lst (vs.map (·.2))
 | .tup, _, vs => .tup (vs.map (·.2))
 | .dct, _, vs => .dK (vs.map fun x => (x.1.k, x.2))
 | .ins C, dx, vs => .ins C dx (vs.map fun x => (x.1.f, x.2))
noncomputable def LT.vals (cs : List (Lab × LT)) : List (Lab × V) := cs.map fun x => (x.1, x.2.val)
noncomputable def Kd.dxok (H : Hp) (a dx : Addr) : Kd → Prop
 | .ins _ => H dx = some (.own a)
 | _ => True
mutual
noncomputable def LT.ok (G H : Hp) : LT → Prop
 | .leaf v d => Dt G v d
 | .node k a dx cs => H a = some (hoOf k dx (LT.vals cs)) ∧ k.dxok H a dx ∧ LT.okL G H cs
noncomputable def LT.okL (G H : Hp) : List (Lab × LT) → Prop
 | [] => True
 | (_, t) :: r => t.ok G H ∧ LT.okL G H r
end
theorem LT.okL_iff {G H : Hp} : ∀ {cs : List (Lab × LT)}, LT.okL G H cs ↔ ∀ x ∈ cs, x.2.ok G H
 | [] => ⟨fun _ _ h => (nomatch h), fun _ => trivial⟩
 | (l, t) :: r => by
  rw [LT.okL, LT.okL_iff (cs := r)]
  constructor
  ·rintro ⟨h1, h2⟩ x hx
   rcases List.mem_cons.mp hx with rfl | hx
   ·exact h1
   ·exact h2 x hx
  ·exact fun h => ⟨h _ List.mem_cons_self, fun x hx => h x (List.mem_cons_of_mem _ hx)⟩
theorem LT.ok_node {G H : Hp} {k : Kd} {a dx : Addr} {cs : List (Lab × LT)} : (LT.node k a dx cs).ok G H ↔ H a = some (hoOf k dx (LT.vals cs)) ∧ k.dxok H a dx ∧ ∀ x ∈ cs, x.2.ok G H := by
 rw [LT.ok, LT.okL_iff]
mutual
noncomputable def OT.data : OT → PyData
 | .leaf d => d
 | .node k cs => match k with
  | .lst => .list (OT.datas cs)
  | .tup => .tuple (OT.datas cs)
  | .dct => .dict ((cs.map fun x => keyD x.1.k).zip (OT.datas cs))
  | .ins C => .dict ((.none, .int (C : Nat)) :: (cs.map fun x => PyData.str x.1.f).zip (OT.datas cs))
noncomputable def OT.datas : List (Lab × OT) → List PyData
 | [] => []
 | (_, t) :: r => t.data :: OT.datas r
end
theorem OT.datas_map : ∀ cs : List (Lab × OT), OT.datas cs = cs.map fun x => x.2.data
 | [] => rfl
 | (l, t) :: r => by rw [OT.datas, OT.datas_map r]; rfl
theorem LT.ok_mono {G G' H : Hp} (g : Ex G G') (t : LT) : t.ok G H → t.ok G' H := by
 induction t using LT.ind with
 | hl v d => exact fun h => Dt.up h g
 | hn k a dx cs ih =>
  rw [LT.ok_node, LT.ok_node]
  exact fun ⟨h1, h2, h3⟩ => ⟨h1, h2, fun x hx => ih x hx (h3 x hx)⟩
theorem LT.mem_own {k : Kd} {a dx : Addr} : a ∈ k.own a dx := by cases k <;> simp [Kd.own]
theorem LT.ads_node {k : Kd} {a dx b : Addr} {cs : List (Lab × LT)} : b ∈ (LT.node k a dx cs).ads ↔ b ∈ k.own a dx ∨ ∃ x ∈ cs, b ∈ x.2.ads := by
 rw [LT.ads, List.mem_append, LT.adsL_map, List.mem_flatMap]
theorem LT.ok_heap {G H H' : Hp} (t : LT) : (∀ a ∈ t.ads, H' a = H a) → t.ok G H → t.ok G H' := by
 induction t using LT.ind with
 | hl v d => exact fun _ h => h
 | hn k a dx cs ih =>
  rw [LT.ok_node, LT.ok_node]
  rintro hh ⟨h1, h2, h3⟩
  refine ⟨by rw [hh a (LT.ads_node.mpr (.inl LT.mem_own))]; exact h1, ?_, fun x hx => ih x hx (fun b hb => hh b (LT.ads_node.mpr (.inr ⟨x, hx, hb⟩))) (h3 x hx)⟩
  cases k <;> try trivial
  exact (hh dx (LT.ads_node.mpr (.inl (by simp [Kd.own])))).trans h2
theorem LT.ads_some {G H : Hp} (t : LT) : t.ok G H → ∀ a ∈ t.ads, ∃ o, H a = some o := by
 induction t using LT.ind with
 | hl v d => exact fun _ a h => nomatch h
 | hn k a dx cs ih =>
  rw [LT.ok_node]
  rintro ⟨h1, h2, h3⟩ b hb
  rcases LT.ads_node.mp hb with hb | ⟨x, hx, hb⟩
  ·cases k <;> simp only [Kd.own, List.mem_cons, List.not_mem_nil, or_false] at hb
   ·exact ⟨_, hb ▸ h1⟩
   ·exact ⟨_, hb ▸ h1⟩
   ·exact ⟨_, hb ▸ h1⟩
   ·rcases hb with rfl | rfl
    ·exact ⟨_, h1⟩
    ·exact ⟨_, h2⟩
  ·exact ih x hx (h3 x hx) b hb
theorem Zhq {G : Hp} : ∀ {cs : List (Lab × LT)}, (∀ x ∈ cs, Dt G x.2.val x.2.er.data) → DtAll G (cs.map fun x => x.2.val) (OT.datas (LT.erL cs))
 | [], _ => .nil
 | (l, t) :: r, h => .cons (h _ List.mem_cons_self) (Zhq fun x hx => h x (List.mem_cons_of_mem _ hx))
/-- a tree is a datum in a view that tells its cells -/
theorem LT.frz {G G' H : Hp} (g : Ex G G') (t : LT) : (∀ a ∈ t.ads, G' a = H a) → t.ok G H → Dt G' t.val t.er.data := by
 induction t using LT.ind with
 | hl v d => exact fun _ h => Dt.up h g
 | hn k a dx cs ih =>
  rw [LT.ok_node]
  rintro hh ⟨h1, h2, h3⟩
  have ha : G' a = some (hoOf k dx (LT.vals cs)) := by rw [hh a (LT.ads_node.mpr (.inl LT.mem_own))]; exact h1
  have hc := Zhq (G := G') (cs := cs) fun x hx => ih x hx (fun b hb => hh b (LT.ads_node.mpr (.inr ⟨x, hx, hb⟩))) (h3 x hx)
  cases k with
  | lst =>
   refine .lst (xs := cs.map fun x => x.2.val) ?_ hc
   rw [ha]; simp [hoOf, LT.vals, Function.comp_def]
  | tup =>
   refine .tup (xs := cs.map fun x => x.2.val) ?_ hc
   rw [ha]; simp [hoOf, LT.vals, Function.comp_def]
  | dct =>
   refine .dct (kvs := cs.map fun x => (x.1.k, x.2.val)) (ds := OT.datas (LT.erL cs)) ?_ (by rw [List.map_map]; exact hc) ?_
   ·rw [ha]; simp [hoOf, LT.vals, Function.comp_def]
   ·simp [LT.erL_map, Function.comp_def]
  | ins C =>
   refine .ins (C := C) (dx := dx) (fs := cs.map fun x => (x.1.f, x.2.val)) (ds := OT.datas (LT.erL cs)) ?_ (by rw [List.map_map]; exact hc) ?_
   ·rw [ha]; simp [hoOf, LT.vals, Function.comp_def]
   ·simp [LT.erL_map, Function.comp_def]
noncomputable abbrev En := List (Option OT)
noncomputable abbrev Ls := List (Option LT)
noncomputable def oads : Option LT → List Addr
 | none => []
 | some t => t.ads
noncomputable def adsS (ls : Ls) : List Addr := ls.flatMap oads
noncomputable def vals (ls : Ls) : L2.St := ls.map (Option.map LT.val)
noncomputable def ens (ls : Ls) : En := ls.map (Option.map LT.er)
structure Good (F G : Hp) (ls : Ls) (H : Hp) : Prop where
 fh : Ex F H
 gh : Ex G H
 nd : (adsS ls).Nodup
 gn : ∀ a ∈ adsS ls, G a = none
 fn : ∀ a ∈ adsS ls, F a = none
 ok : ∀ t, some t ∈ ls → t.ok G H
/-- what is told grows, but not by what the frame holds -/
structure Gx (F G G' : Hp) : Prop where
 ex : Ex G G'
 no : ∀ a o, F a = some o → G' a = G a
theorem Gx.refl {F G : Hp} : Gx F G G := ⟨Ex.refl G, fun _ _ _ => rfl⟩
theorem Gx.trans {F G G1 G2 : Hp} (a : Gx F G G1) (b : Gx F G1 G2) : Gx F G G2 := ⟨a.ex.trans b.ex, fun x o h => (b.no x o h).trans (a.no x o h)⟩
theorem ZaM {ls : Ls} {a : Addr} : a ∈ adsS ls ↔ ∃ t, some t ∈ ls ∧ a ∈ t.ads := by
 unfold adsS
 rw [List.mem_flatMap]
 constructor
 ·rintro ⟨o, ho, ha⟩
  cases o with
  | none => exact nomatch ha
  | some t => exact ⟨t, ho, ha⟩
 ·rintro ⟨t, ht, ha⟩
  exact ⟨some t, ht, ha⟩
section
variable {F G H H2 : Hp} {ls : Ls}
theorem Good.has (g : Good F G ls H) {a : Addr} (h : a ∈ adsS ls) : ∃ o, H a = some o := by
 obtain ⟨t, ht, ha⟩ := ZaM.mp h
 exact LT.ads_some t (g.ok t ht) a ha
/-- the heap grew, what grew is told -/
theorem Good.grow (g : Good F G ls H) (e : Ex H H2) : Good F (Kb.grow G H H2) ls H2 ∧ Gx F G (Kb.grow G H H2) := by
 refine ⟨⟨g.fh.trans e, Zh g.gh e, g.nd, fun a ha => ?_, g.fn, fun t ht => ?_⟩, Zp g.gh, fun a o h => Zt (g.fh a o h)⟩
 ·obtain ⟨o, ho⟩ := g.has ha
  rw [Zt ho]
  exact g.gn a ha
 ·refine LT.ok_mono (Zp g.gh) t (LT.ok_heap t (fun a ha => ?_) (g.ok t ht))
  obtain ⟨o, ho⟩ := g.has (ZaM.mpr ⟨t, ht, ha⟩)
  rw [ho, e a o ho]
/-- the heap grew, nothing of it is told -/
theorem Good.stay (g : Good F G ls H) (e : Ex H H2) : Good F G ls H2 :=
 ⟨g.fh.trans e, g.gh.trans e, g.nd, g.gn, g.fn, fun t ht => LT.ok_heap t (fun a ha => by
  obtain ⟨o, ho⟩ := g.has (ZaM.mpr ⟨t, ht, ha⟩)
  rw [ho, e a o ho]) (g.ok t ht)⟩
/-- told are only data -/
noncomputable def strong (en : En) : DE := en.map fun o => match o with
 | some (.leaf d) => some d
 | _ => none
noncomputable def weak (en : En) : DE := en.map (Option.map OT.data)
theorem Z0 (g : Good F G ls H) : DRel (strong (ens ls)) (vals ls) G := by
 refine ⟨by simp [strong, ens, vals], fun i d h => ?_⟩
 unfold strong ens at h
 rw [List.map_map, List.getElem?_map] at h
 obtain ⟨o, ho, h⟩ := Option.map_eq_some_iff.mp h
 cases o with
 | none => cases h
 | some t =>
  cases t with
  | leaf v e =>
   have h : some e = some d := h
   cases h
   refine ⟨v, by unfold vals; rw [List.getElem?_map, ho]; rfl, g.ok _ (List.mem_of_getElem? ho)⟩
  | node k a dx cs => cases h
/-- all is seen -/
noncomputable def seen (G H : Hp) (as : List Addr) : Hp := fun a => if a ∈ as then H a else G a
theorem Zd6 {as : List Addr} (gn : ∀ a ∈ as, G a = none) : Ex G (seen G H as) := fun a o h => by
 unfold seen
 rw [if_neg fun z => by rw [gn a z] at h; cases h]
 exact h
theorem Zds {as : List Addr} (gh : Ex G H) : Ex (seen G H as) H := fun a o h => by
 unfold seen at h
 split at h
 ·exact h
 ·exact gh a o h
theorem Zg5 {as : List Addr} {a : Addr} (h : a ∈ as) : seen G H as a = H a := by unfold seen; rw [if_pos h]
theorem ZdF (g : Good F G ls H) : DRel (weak (ens ls)) (vals ls) (seen G H (adsS ls)) := by
 refine ⟨by simp [weak, ens, vals], fun i d h => ?_⟩
 unfold weak ens at h
 rw [List.map_map, List.getElem?_map] at h
 obtain ⟨o, ho, h⟩ := Option.map_eq_some_iff.mp h
 cases o with
 | none => cases h
 | some t =>
  have h : some t.er.data = some d := h
  cases h
  have hm := List.mem_of_getElem? ho
  exact ⟨t.val, by unfold vals; rw [List.getElem?_map, ho]; rfl, LT.frz (Zd6 g.gn) t (fun a ha => Zg5 (ZaM.mpr ⟨t, hm, ha⟩)) (g.ok t hm)⟩
/-- a tree in front becomes a told datum -/
theorem Good.freeze {T : LT} (g : Good F G (some T :: ls) H) : Good F (seen G H T.ads) ls H ∧ Gx F G (seen G H T.ads) ∧ Dt (seen G H T.ads) T.val T.er.data := by
 have hT : ∀ a ∈ T.ads, a ∈ adsS (some T :: ls) := fun a ha => ZaM.mpr ⟨T, List.mem_cons_self, ha⟩
 have gn : ∀ a ∈ T.ads, G a = none := fun a ha => g.gn a (hT a ha)
 have nd : (T.ads ++ adsS ls).Nodup := g.nd
 have hls : ∀ a ∈ adsS ls, a ∈ adsS (some T :: ls) := fun a ha => by
  show a ∈ T.ads ++ adsS ls
  exact List.mem_append_right _ ha
 refine ⟨⟨g.fh, Zds g.gh, (List.nodup_append.mp nd).2.1, fun a ha => ?_, fun a ha => g.fn a (hls a ha), fun t ht => LT.ok_mono (Zd6 gn) t (g.ok t (List.mem_cons_of_mem _ ht))⟩, ⟨Zd6 gn, fun a o h => ?_⟩, LT.frz (Zd6 gn) T (fun a ha => Zg5 ha) (g.ok T List.mem_cons_self)⟩
 ·unfold seen
  rw [if_neg fun z => (List.nodup_append.mp nd).2.2 a z a ha rfl]
  exact g.gn a (hls a ha)
 ·unfold seen
  rw [if_neg fun z => by rw [g.fn a (hT a z)] at h; cases h]
end
end Kb
namespace Kb
open PySem L2 Evl
inductive Rx (α : Type)
 | ok (a : α)
 | ex (C : Addr)
noncomputable abbrev FX := En → Option (Rx PyData × En)
noncomputable abbrev FN := En → Option (Rx OT × En)
noncomputable abbrev FB := En → Option (Rx Bool × En)
noncomputable abbrev FA := En → Option (Rx (List PyData) × En)
theorem rxc {α β : Type} {C C' : Addr} (h : (Rx.ex C : Rx α) = .ex C') : (Rx.ex C : Rx β) = .ex C' := by cases h; rfl
structure End (F G : Hp) (ls : Ls) (G' : Hp) (ls' : Ls) (H' : Hp) (en' : En) : Prop where
 gd : Good F G' ls' H'
 gx : Gx F G G'
 en : ens ls' = en'
 vs : vals ls' = vals ls
theorem End.trans {F G G1 G2 H1 H2 : Hp} {ls l1 l2 : Ls} {e1 e2 : En} (a : End F G ls G1 l1 H1 e1) (b : End F G1 l1 G2 l2 H2 e2) : End F G ls G2 l2 H2 e2 := ⟨b.gd, a.gx.trans b.gx, b.en, b.vs.trans a.vs⟩
noncomputable def XC (W : WX) (F G : Hp) (ls : Ls) (C : Addr) (en' : En) : Prop := ∀ G' ls' H', End F G ls G' ls' H' en' → W (.ref C) none (vals ls) H'
theorem XC.at {W : WX} {F G G1 H1 : Hp} {ls l1 : Ls} {C : Addr} {e1 en' : En} (h : XC W F G ls C en') (a : End F G ls G1 l1 H1 e1) : XC W F G1 l1 C en' := fun G' ls' H' b => by
 rw [a.vs]
 exact h G' ls' H' (a.trans b)
structure SX (W : WX) (te : TE) (x : FX) : Prop where
 run : ∀ {F G : Hp} {ls : Ls} {H : Hp} {r : Rx PyData} {en' : En}, Good F G ls H → x (ens ls) = some (r, en') → ∀ {Q : VK}, (∀ d, r = .ok d → ∀ v G' ls' H', End F G ls G' ls' H' en' → Dt G' v d → Q v H') → (∀ C, r = .ex C → XC W F G ls C en') → te (vals ls) H Q
instance {W : WX} {te : TE} {x : FX} : CoeFun (SX W te x) (fun _ => ∀ {F G : Hp} {ls : Ls} {H : Hp} {r : Rx PyData} {en' : En}, Good F G ls H → x (ens ls) = some (r, en') → ∀ {Q : VK}, (∀ d, r = .ok d → ∀ v G' ls' H', End F G ls G' ls' H' en' → Dt G' v d → Q v H') → (∀ C, r = .ex C → XC W F G ls C en') → te (vals ls) H Q) := ⟨fun h => h.run⟩
structure SN (W : WX) (te : TE) (x : FN) : Prop where
 run : ∀ {F G : Hp} {ls : Ls} {H : Hp} {r : Rx OT} {en' : En}, Good F G ls H → x (ens ls) = some (r, en') → ∀ {Q : VK}, (∀ T0, r = .ok T0 → ∀ T G' ls' H', Good F G' (some T :: ls') H' → Gx F G G' → ens ls' = en' → vals ls' = vals ls → T.er = T0 → Q T.val H') → (∀ C, r = .ex C → XC W F G ls C en') → te (vals ls) H Q
instance {W : WX} {te : TE} {x : FN} : CoeFun (SN W te x) (fun _ => ∀ {F G : Hp} {ls : Ls} {H : Hp} {r : Rx OT} {en' : En}, Good F G ls H → x (ens ls) = some (r, en') → ∀ {Q : VK}, (∀ T0, r = .ok T0 → ∀ T G' ls' H', Good F G' (some T :: ls') H' → Gx F G G' → ens ls' = en' → vals ls' = vals ls → T.er = T0 → Q T.val H') → (∀ C, r = .ex C → XC W F G ls C en') → te (vals ls) H Q) := ⟨fun h => h.run⟩
structure SXB (W : WX) (tt : TT) (x : FB) : Prop where
 run : ∀ {F G : Hp} {ls : Ls} {H : Hp} {r : Rx Bool} {en' : En}, Good F G ls H → x (ens ls) = some (r, en') → ∀ {Q : Bool → Hp → Prop}, (∀ b, r = .ok b → ∀ G' ls' H', End F G ls G' ls' H' en' → Q b H') → (∀ C, r = .ex C → XC W F G ls C en') → tt (vals ls) H Q
instance {W : WX} {tt : TT} {x : FB} : CoeFun (SXB W tt x) (fun _ => ∀ {F G : Hp} {ls : Ls} {H : Hp} {r : Rx Bool} {en' : En}, Good F G ls H → x (ens ls) = some (r, en') → ∀ {Q : Bool → Hp → Prop}, (∀ b, r = .ok b → ∀ G' ls' H', End F G ls G' ls' H' en' → Q b H') → (∀ C, r = .ex C → XC W F G ls C en') → tt (vals ls) H Q) := ⟨fun h => h.run⟩
structure SXA (W : WX) (ta : TA) (x : FA) : Prop where
 run : ∀ {F G : Hp} {ls : Ls} {H : Hp} {r : Rx (List PyData)} {en' : En}, Good F G ls H → x (ens ls) = some (r, en') → ∀ {Q : List V → Hp → Prop}, (∀ ds, r = .ok ds → ∀ vs G' ls' H', End F G ls G' ls' H' en' → DtAll G' vs ds → Q vs H') → (∀ C, r = .ex C → XC W F G ls C en') → ta (vals ls) H Q
instance {W : WX} {ta : TA} {x : FA} : CoeFun (SXA W ta x) (fun _ => ∀ {F G : Hp} {ls : Ls} {H : Hp} {r : Rx (List PyData)} {en' : En}, Good F G ls H → x (ens ls) = some (r, en') → ∀ {Q : List V → Hp → Prop}, (∀ ds, r = .ok ds → ∀ vs G' ls' H', End F G ls G' ls' H' en' → DtAll G' vs ds → Q vs H') → (∀ C, r = .ex C → XC W F G ls C en') → ta (vals ls) H Q) := ⟨fun h => h.run⟩
noncomputable def bx {α β : Type} (a : Option (Rx α × En)) (f : α → En → Option (Rx β × En)) : Option (Rx β × En) := match a with
 | some (.ok x, en) => f x en
 | some (.ex C, en) => some (.ex C, en)
 | none => none
theorem Zu {α β : Type} {a : Option (Rx α × En)} {f : α → En → Option (Rx β × En)} {r : Rx β} {en' : En} (h : bx a f = some (r, en')) : (∃ x en1, a = some (.ok x, en1) ∧ f x en1 = some (r, en')) ∨ ∃ C, a = some (.ex C, en') ∧ r = .ex C := by
 unfold bx at h
 split at h
 ·exact .inl ⟨_, _, rfl, h⟩
 ·cases h; exact .inr ⟨_, rfl, rfl⟩
 ·cases h
noncomputable def okx {α : Type} (en : En) (o : Option α) : Option (Rx α × En) := o.map fun d => (.ok d, en)
theorem ZO {α : Type} {en en' : En} {o : Option α} {r : Rx α} (h : okx en o = some (r, en')) : ∃ d, o = some d ∧ r = .ok d ∧ en' = en := by
 obtain ⟨d, h1, h2⟩ := Option.map_eq_some_iff.mp h
 cases h2
 exact ⟨d, h1, rfl, rfl⟩
noncomputable def xS (w : FW) : FX := fun en => okx en (w (strong en))
noncomputable def xW (w : FW) : FX := fun en => okx en ((w (weak en)).bind fun d => if flatD d = true then some d else none)
noncomputable def bS (w : DE → Option Bool) : FB := fun en => okx en (w (strong en))
noncomputable def bWk (w : DE → Option Bool) : FB := fun en => okx en (w (weak en))
noncomputable def xN (n : FN) : FX := fun en => bx (n en) fun T en1 => some (.ok T.data, en1)
noncomputable def nX (x : FX) : FN := fun en => bx (x en) fun d en1 => some (.ok (.leaf d), en1)
noncomputable def xOp (o : PyData → PyData → Option PyData) (a b : FX) : FX := fun en => bx (a en) fun x e1 => bx (b e1) fun y e2 => okx e2 (o x y)
noncomputable def xUn (o : PyData → Option PyData) (a : FX) : FX := fun en => bx (a en) fun x e1 => okx e1 (o x)
noncomputable def aNilX : FA := fun en => some (.ok [], en)
noncomputable def aConsX (a : FX) (r : FA) : FA := fun en => bx (a en) fun x e1 => bx (r e1) fun xs e2 => some (.ok (x :: xs), e2)
noncomputable def aS (a : DE → Option (List PyData)) : FA := fun en => okx en (a (strong en))
noncomputable def xCb (o : List PyData → Option PyData) (a : FA) : FX := fun en => bx (a en) fun xs e1 => okx e1 (o xs)
noncomputable def xTup (a : FA) : FX := fun en => bx (a en) fun xs e1 => okx e1 (if big xs = true then some (.tuple xs) else none)
noncomputable def oLeafs (ds : List PyData) : List (Lab × OT) := ds.map fun d => (Lab.no, OT.leaf d)
noncomputable def lstT (ds : List PyData) : OT := .node .lst (oLeafs ds)
noncomputable def nLst (a : FA) : FN := fun en => bx (a en) fun xs e1 => okx e1 (if big xs = true then some (lstT xs) else none)
noncomputable def bXx (a : FX) : FB := fun en => bx (a en) fun x e1 => okx e1 (asB x)
noncomputable def bAndX (a b : FB) : FB := fun en => bx (a en) fun x e1 => if x = true then b e1 else some (.ok false, e1)
noncomputable def bOrX (a b : FB) : FB := fun en => bx (a en) fun x e1 => if x = true then some (.ok true, e1) else b e1
noncomputable def bNotX (a : FB) : FB := fun en => bx (a en) fun x e1 => some (.ok (!x), e1)
noncomputable def xIf (t : FB) (a b : FX) : FX := fun en => bx (t en) fun c e1 => if c = true then a e1 else b e1
noncomputable def nIf (t : FB) (a b : FN) : FN := fun en => bx (t en) fun c e1 => if c = true then a e1 else b e1
noncomputable def xNot (a : FX) : FX := fun en => bx (a en) fun x e1 => okx e1 ((asB x).map fun c => PyData.bool (!c))
/-- a list that was just made is kept apart -/
noncomputable def freshT : PyData → OT
 | .list ds => lstT ds
 | d => .leaf d
noncomputable def nF (w : FW) : FN := fun en => okx en ((w (strong en)).map freshT)
noncomputable def nFW (w : FW) : FN := fun en => okx en ((w (weak en)).bind fun d => match d with
 | .list ds => if ds.all flatD = true then some (lstT ds) else none
 | _ => none)
section
variable {K : PySem.W.Frag} {w : World} {W : WX} {te ta tb tc : TE} {tt tu : TT} {a b : FX} {n : FN} {p q : FB} {r : R2} {f : FW}
theorem Zj (h : SW te f) : SX W te (xS f) := ⟨fun {F G ls H r en'} g e Q k _ => by
 obtain ⟨d, hd, rfl, rfl⟩ := ZO e
 refine h (Z0 g) hd H g.gh Q fun v H2 e2 dv => ?_
 obtain ⟨g2, gx⟩ := g.grow e2
 exact k d rfl v _ ls H2 ⟨g2, gx, rfl, rfl⟩ dv⟩
theorem ZcT (h : SW te f) : SX W te (xW f) := ⟨fun {F G ls H r en'} g e Q k _ => by
 obtain ⟨d, hd, rfl, rfl⟩ := ZO e
 obtain ⟨d', hd', hf⟩ := bnd hd
 split at hf
 case isFalse => cases hf
 cases hf
 refine h (ZdF g) hd' H (Zds g.gh) Q fun v H2 e2 dv => ?_
 exact k d rfl v _ ls H2 ⟨g.stay e2, Gx.refl, rfl, rfl⟩ (Zg7 dv (by assumption))⟩
theorem Z2 {f : DE → Option Bool} (h : SB tt f) : SXB W tt (bS f) := ⟨fun {F G ls H r en'} g e Q k _ => by
 obtain ⟨d, hd, rfl, rfl⟩ := ZO e
 exact h (Z0 g) hd H g.gh Q fun H2 e2 => k d rfl _ ls H2 ⟨g.stay e2, Gx.refl, rfl, rfl⟩⟩
theorem ZdQ {f : DE → Option Bool} (h : SB tt f) : SXB W tt (bWk f) := ⟨fun {F G ls H r en'} g e Q k _ => by
 obtain ⟨d, hd, rfl, rfl⟩ := ZO e
 exact h (ZdF g) hd H (Zds g.gh) Q fun H2 e2 => k d rfl _ ls H2 ⟨g.stay e2, Gx.refl, rfl, rfl⟩⟩
theorem ZD (h : SN W te n) : SX W te (xN n) := ⟨fun {F G ls H r en'} g e Q k kx => by
 rcases Zu e with ⟨T0, en1, h1, h2⟩ | ⟨C, h1, rfl⟩
 ·cases h2
  refine h g h1 (fun T0' hT0 T G' ls' H' g' gx he hv hT => ?_) (fun C hC => nomatch hC)
  cases hT0
  obtain ⟨g2, gx2, dt⟩ := g'.freeze
  refine k _ rfl T.val _ ls' H' ⟨g2, gx.trans gx2, he, hv⟩ ?_
  rw [← hT]
  exact dt
 ·exact h g h1 (fun T0 hT0 => nomatch hT0) fun C' hC' => kx C' (rxc hC')⟩
theorem ZaJ {F G H : Hp} {ls : Ls} {v : V} {d : PyData} (g : Good F G ls H) (h : Dt G v d) : Good F G (some (.leaf v d) :: ls) H :=
 ⟨g.fh, g.gh, g.nd, g.gn, g.fn, fun t ht => by
  rcases List.mem_cons.mp ht with z | z
  ·cases z; exact h
  ·exact g.ok t z⟩
theorem ZZ (h : SX W te a) : SN W te (nX a) := ⟨fun {F G ls H r en'} g e Q k kx => by
 rcases Zu e with ⟨d, en1, h1, h2⟩ | ⟨C, h1, rfl⟩
 ·cases h2
  refine h g h1 (fun d' hd' v G' ls' H' en dv => ?_) (fun C hC => nomatch hC)
  cases hd'
  exact k _ rfl (.leaf v d) G' ls' H' (ZaJ en.gd dv) en.gx en.en en.vs rfl
 ·exact h g h1 (fun T0 hT0 => nomatch hT0) fun C' hC' => kx C' (rxc hC')⟩
theorem ZN {o : PyData → PyData → Option PyData} (ho : OpOk r o) (ha : SX W ta a) (hb : SX W tb b) : SX W (tOp r ta tb) (xOp o a b) := ⟨fun {F G ls H r en'} g e Q k kx => by
 rcases Zu e with ⟨x, e1, h1, h2⟩ | ⟨C, h1, rfl⟩
 ·refine ha g h1 (fun d hd v G1 l1 H1 E1 dv => ?_) (fun C hC => nomatch hC)
  cases hd
  have hv := E1.vs
  show tb (vals ls) H1 _
  rw [← hv]
  rw [← E1.en] at h2
  rcases Zu h2 with ⟨y, e2, h3, h4⟩ | ⟨C, h3, rfl⟩
  ·refine hb E1.gd h3 (fun d hd u G2 l2 H2 E2 du => ?_) (fun C hC => nomatch hC)
   cases hd
   obtain ⟨d, hd, rfl, rfl⟩ := ZO h4
   refine ho (dv.up E2.gx.ex) du hd E2.gd.gh fun z H3 e3 dz => ?_
   obtain ⟨g3, gx3⟩ := E2.gd.grow e3
   exact k d rfl z _ l2 H3 ((E1.trans E2).trans ⟨g3, gx3, E2.en, rfl⟩) dz
  ·exact hb E1.gd h3 (fun d hd => nomatch hd) fun C' hC' => (kx C' (rxc hC')).at E1
 ·exact ha g h1 (fun d hd => nomatch hd) fun C' hC' => kx C' (rxc hC')⟩
theorem Zaa : SXA W tNil aNilX := ⟨fun {F G ls H r en'} g e Q k kx => by
 cases e
 exact k [] rfl [] G ls H ⟨g, Gx.refl, rfl, rfl⟩ .nil⟩
theorem Zo {tr : TA} {s : FA} (ha : SX W ta a) (hr : SXA W tr s) : SXA W (tCons ta tr) (aConsX a s) := ⟨fun {F G ls H r en'} g e Q k kx => by
 rcases Zu e with ⟨x, e1, h1, h2⟩ | ⟨C, h1, rfl⟩
 ·refine ha g h1 (fun d hd v G1 l1 H1 E1 dv => ?_) (fun C hC => nomatch hC)
  cases hd
  have hv := E1.vs
  show tr (vals ls) H1 _
  rw [← hv]
  rw [← E1.en] at h2
  rcases Zu h2 with ⟨y, e2, h3, h4⟩ | ⟨C, h3, rfl⟩
  ·refine hr E1.gd h3 (fun d hd u G2 l2 H2 E2 du => ?_) (fun C hC => nomatch hC)
   cases hd
   cases h4
   exact k _ rfl _ G2 l2 H2 (E1.trans E2) (.cons (dv.up E2.gx.ex) du)
  ·exact hr E1.gd h3 (fun d hd => nomatch hd) fun C' hC' => (kx C' (rxc hC')).at E1
 ·exact ha g h1 (fun d hd => nomatch hd) fun C' hC' => kx C' (rxc hC')⟩
theorem Zz {ta : TA} {f : DE → Option (List PyData)} (h : SA ta f) : SXA W ta (aS f) := ⟨fun {F G ls H r en'} g e Q k _ => by
 obtain ⟨d, hd, rfl, rfl⟩ := ZO e
 refine h (Z0 g) hd H g.gh Q fun v H2 e2 dv => ?_
 obtain ⟨g2, gx⟩ := g.grow e2
 exact k d rfl v _ ls H2 ⟨g2, gx, rfl, rfl⟩ dv⟩
theorem Ztf {tr : TA} {s : FA} {rr : List V → Hp → VK → Prop} {o : List PyData → Option PyData} (ho : CbOk rr o) (ha : SXA W tr s) : SX W (tCB rr tr) (xCb o s) := ⟨fun {F G ls H r en'} g e Q k kx => by
 rcases Zu e with ⟨x, e1, h1, h2⟩ | ⟨C, h1, rfl⟩
 ·refine ha g h1 (fun d hd v G1 l1 H1 E1 dv => ?_) (fun C hC => nomatch hC)
  cases hd
  obtain ⟨d, hd, rfl, rfl⟩ := ZO h2
  refine ho dv hd E1.gd.gh fun z H3 e3 dz => ?_
  obtain ⟨g3, gx3⟩ := E1.gd.grow e3
  exact k d rfl z _ l1 H3 (E1.trans ⟨g3, gx3, E1.en, rfl⟩) dz
 ·exact ha g h1 (fun d hd => nomatch hd) fun C' hC' => kx C' (rxc hC')⟩
theorem Zb5 {tr : TA} {s : FA} (ha : SXA W tr s) : SX W (tTup tr) (xTup s) := ⟨fun {F G ls H r en'} g e Q k kx => by
 rcases Zu e with ⟨x, e1, h1, h2⟩ | ⟨C, h1, rfl⟩
 ·refine ha g h1 (fun d hd v G1 l1 H1 E1 dv => ?_) (fun C hC => nomatch hC)
  cases hd
  obtain ⟨d, hd, rfl, rfl⟩ := ZO h2
  split at hd
  case isFalse => cases hd
  rename_i hb
  cases hd
  refine ⟨sz_of (by rw [dv.len]; exact of_decide_eq_true hb), fun l hl => ?_⟩
  obtain ⟨g3, gx3⟩ := E1.gd.grow (Ex.new (o := .tup v) hl)
  exact k _ rfl _ _ l1 _ (E1.trans ⟨g3, gx3, E1.en, rfl⟩) (ZkA hl E1.gd.gh dv)
 ·exact ha g h1 (fun d hd => nomatch hd) fun C' hC' => kx C' (rxc hC')⟩
theorem ZgT {G : Hp} (H : Hp) : ∀ {xs : List V} {ds : List PyData}, DtAll G xs ds → ∃ cs : List (Lab × LT), LT.vals cs = xs.map (fun v => (Lab.no, v)) ∧ LT.erL cs = oLeafs ds ∧ (∀ x ∈ cs, x.2.ok G H) ∧ LT.adsL cs = []
 | _, _, .nil => ⟨[], rfl, rfl, fun _ h => (nomatch h), rfl⟩
 | _, _, .cons (v := v) (d := d) h r => by
  obtain ⟨cs, h1, h2, h3, h4⟩ := ZgT H r
  refine ⟨(.no, .leaf v d) :: cs, ?_, ?_, ?_, ?_⟩
  ·show (Lab.no, v) :: LT.vals cs = _
   rw [h1]
   rfl
  ·show (Lab.no, OT.leaf d) :: LT.erL cs = _
   rw [h2]
   rfl
  ·intro x hx
   rcases List.mem_cons.mp hx with rfl | hx
   ·exact h
   ·exact h3 x hx
  ·show [] ++ LT.adsL cs = []
   rw [h4]
   rfl
/-- a new node in front -/
theorem ZcF {F G H : Hp} {ls : Ls} {k : Kd} {p : Addr} {cs : List (Lab × LT)} (g : Good F G ls H) (hk : k.own p 0 = [p]) (hdx : k.dxok H p 0) (hp : H p = some (hoOf k 0 (LT.vals cs))) (hG : G p = none) (hF : F p = none) (hl : p ∉ adsS ls) (hc : ∀ x ∈ cs, x.2.ok G H) (ha : LT.adsL cs = []) : Good F G (some (.node k p 0 cs) :: ls) H := by
 have hads : (LT.node k p 0 cs).ads = [p] := by rw [LT.ads, ha, hk]; rfl
 refine ⟨g.fh, g.gh, ?_, ?_, ?_, ?_⟩
 ·show ((LT.node k p 0 cs).ads ++ adsS ls).Nodup
  rw [hads]
  exact List.nodup_cons.mpr ⟨hl, g.nd⟩
 ·intro a h
  have h : a ∈ (LT.node k p 0 cs).ads ++ adsS ls := h
  rw [hads] at h
  rcases List.mem_cons.mp h with rfl | h
  ·exact hG
  ·exact g.gn a h
 ·intro a h
  have h : a ∈ (LT.node k p 0 cs).ads ++ adsS ls := h
  rw [hads] at h
  rcases List.mem_cons.mp h with rfl | h
  ·exact hF
  ·exact g.fn a h
 ·intro t ht
  rcases List.mem_cons.mp ht with z | z
  ·cases z
   exact LT.ok_node.mpr ⟨hp, hdx, hc⟩
  ·exact g.ok t z
theorem Zmn {F G H : Hp} {ls : Ls} {p : Addr} {xs : List V} {ds : List PyData} (g : Good F G ls H) (hp : H p = none) (dx : DtAll G xs ds) : ∃ T, Good F G (some T :: ls) (upd H p (.lst xs)) ∧ T.er = lstT ds ∧ T.val = .ref p := by
 obtain ⟨cs, h1, h2, h3, h4⟩ := ZgT (upd H p (.lst xs)) dx
 refine ⟨.node .lst p 0 cs, ZcF (g.stay (Ex.new hp)) rfl trivial ?_ (fresh_back g.gh hp) (fresh_back g.fh hp) (fun h => ?_) h3 h4, ?_, rfl⟩
 ·rw [upd_same, h1]
  simp [hoOf, Function.comp_def]
 ·obtain ⟨o, ho⟩ := g.has h
  rw [hp] at ho
  cases ho
 ·show OT.node .lst (LT.erL cs) = _
  rw [h2]
  rfl
theorem ZlE {tr : TA} {s : FA} (ha : SXA W tr s) : SN W (tLst tr) (nLst s) := ⟨fun {F G ls H r en'} g e Q k kx => by
 rcases Zu e with ⟨x, e1, h1, h2⟩ | ⟨C, h1, rfl⟩
 ·refine ha g h1 (fun d hd v G1 l1 H1 E1 dv => ?_) (fun C hC => nomatch hC)
  cases hd
  obtain ⟨d, hd, rfl, rfl⟩ := ZO h2
  split at hd
  case isFalse => cases hd
  rename_i hb
  cases hd
  refine ⟨sz_of (by rw [dv.len]; exact of_decide_eq_true hb), fun l hl => ?_⟩
  obtain ⟨T, gT, hT, hv⟩ := Zmn E1.gd hl dv
  rw [← hv]
  exact k _ rfl T G1 l1 _ gT E1.gx E1.en E1.vs hT
 ·exact ha g h1 (fun d hd => nomatch hd) fun C' hC' => kx C' (rxc hC')⟩
/-- a list that was just made, its things told -/
theorem Zgn {F H G2 : Hp} {ls : Ls} {p : Addr} {ds : List PyData} (g : Good F G2 ls H) (hG : G2 p = none) (hF : F p = none) (hl : p ∉ adsS ls) {xs : List V} (hp : H p = some (.lst xs)) (dx : DtAll G2 xs ds) : ∃ T, Good F G2 (some T :: ls) H ∧ T.er = lstT ds ∧ T.val = .ref p := by
 obtain ⟨cs, h1, h2, h3, h4⟩ := ZgT H dx
 refine ⟨.node .lst p 0 cs, ZcF g rfl trivial ?_ hG hF hl h3 h4, ?_, rfl⟩
 ·rw [hp, h1]
  simp [hoOf, Function.comp_def]
 ·show OT.node .lst (LT.erL cs) = _
  rw [h2]
  rfl
theorem Good.hide {F G H : Hp} {ls : Ls} {p : Addr} (g : Good F G ls H) (hl : ∀ t, some t ∈ ls → t.ok (Kb.hide G p) H) : Good F (Kb.hide G p) ls H :=
 ⟨g.fh, Zpy.trans g.gh, g.nd, fun a ha => by
  unfold Kb.hide
  split
  ·rfl
  ·exact g.gn a ha, g.fn, hl⟩
/-- a new list is taken out of what is told -/
theorem Zmz {F G H H2 : Hp} {ls : Ls} {p : Addr} {ds : List PyData} (g : Good F G ls H) (e : Ex H H2) (hp : H p = none) (dx : Dt (Kb.grow G H H2) (.ref p) (.list ds)) : ∃ T G', Good F G' (some T :: ls) H2 ∧ Gx F G G' ∧ T.er = lstT ds ∧ T.val = .ref p := by
 have dx' := dx
 obtain ⟨a, xs, ea, ha, r⟩ := dx.ol
 cases ea
 obtain ⟨g2, gx⟩ := g.grow e
 have r' := DtAll.hid dx' (by simp only [PyData.list.sizeOf_spec]; omega) r
 have gE : Ex G (Kb.hide (Kb.grow G H H2) p) := fun a o h => by
  rw [ZbP fun z => by subst z; rw [fresh_back g.gh hp] at h; cases h]
  exact gx.ex a o h
 have hpl : p ∉ adsS ls := fun h => by
  obtain ⟨o, ho⟩ := g.has h
  rw [hp] at ho
  cases ho
 have gH : Good F (Kb.hide (Kb.grow G H H2) p) ls H2 := g2.hide fun t ht => LT.ok_mono gE t ((g.stay e).ok t ht)
 obtain ⟨T, gT, hT, hv⟩ := Zgn (ds := ds) gH ZlZ (fresh_back g.fh hp) hpl (g2.gh _ _ ha) r'
 refine ⟨T, _, gT, ⟨gE, fun a o h => ?_⟩, hT, hv⟩
 rw [ZbP fun z => by subst z; rw [fresh_back g.fh hp] at h; cases h]
 exact gx.no a o h
theorem Zji {d : PyData} (h : ∀ ds, d ≠ .list ds) : freshT d = .leaf d := by
 cases d <;> first | rfl | exact absurd rfl (h _)
theorem ZiX (h : SF te f) : SN W te (nF f) := ⟨fun {F G ls H r en'} g e Q k _ => by
 obtain ⟨d, hd, rfl, rfl⟩ := ZO e
 obtain ⟨d', hd', rfl⟩ := Option.map_eq_some_iff.mp hd
 refine h (Z0 g) hd' H g.gh Q fun v H2 e2 fv dv => ?_
 by_cases z : ∃ ds, d' = .list ds
 ·obtain ⟨ds, rfl⟩ := z
  obtain ⟨p, xs, rfl, hp, r⟩ := dv.ol
  obtain ⟨T, G', gT, gx, hT, hv⟩ := Zmz g e2 (fv p rfl) dv
  rw [← hv]
  exact k _ rfl T G' ls H2 gT gx rfl rfl hT
 ·obtain ⟨g2, gx⟩ := g.grow e2
  exact k _ rfl (.leaf v d') _ ls H2 (ZaJ g2 dv) gx rfl rfl (by rw [Zji fun ds hds => z ⟨ds, hds⟩]; rfl)⟩
theorem Zf6 {G : Hp} : ∀ {xs : List V} {ds : List PyData} {G' : Hp}, DtAll G xs ds → ds.all flatD = true → DtAll G' xs ds
 | _, _, _, .nil, _ => .nil
 | _, _, _, .cons h r, f => by
  rw [List.all_cons, Bool.and_eq_true] at f
  exact .cons (Zg7 h f.1) (Zf6 r f.2)
theorem ZhG (h : SF te f) : SN W te (nFW f) := ⟨fun {F G ls H r en'} g e Q k _ => by
 obtain ⟨d, hd, rfl, rfl⟩ := ZO e
 obtain ⟨d', hd', hd2⟩ := bnd hd
 split at hd2
 case h_2 => cases hd2
 split at hd2
 case isFalse => cases hd2
 rename_i ds hf
 cases hd2
 refine h (ZdF g) hd' H (Zds g.gh) Q fun v H2 e2 fv dv => ?_
 obtain ⟨p, xs, rfl, hp, r⟩ := dv.ol
 have hp0 : H p = none := fv p rfl
 have hpl : p ∉ adsS ls := fun h => by
  obtain ⟨o, ho⟩ := g.has h
  rw [hp0] at ho
  cases ho
 have hp2 : H2 p = some (.lst xs) := by rw [Zx hp0] at hp; exact hp
 obtain ⟨T, gT, hT, hv⟩ := Zgn (ds := ds) (g.stay e2) (fresh_back g.gh hp0) (fresh_back g.fh hp0) hpl hp2 (Zf6 r hf)
 rw [← hv]
 exact k _ rfl T G ls H2 gT Gx.refl rfl rfl hT⟩
theorem Zra (ha : SX W ta a) : SXB W (tB ta) (bXx a) := ⟨fun {F G ls H r en'} g e Q k kx => by
 rcases Zu e with ⟨x, e1, h1, h2⟩ | ⟨C, h1, rfl⟩
 ·refine ha g h1 (fun d hd v G1 l1 H1 E1 dv => ?_) (fun C hC => nomatch hC)
  cases hd
  obtain ⟨d, hd, rfl, rfl⟩ := ZO h2
  obtain rfl := Zc8 hd
  obtain rfl := dv.ob
  exact ⟨d, rfl, k d rfl G1 l1 H1 E1⟩
 ·exact ha g h1 (fun d hd => nomatch hd) fun C' hC' => kx C' (rxc hC')⟩
theorem ZdI (ha : SX W ta a) : SXB W (tTest ta) (bXx a) := ⟨fun {F G ls H r en'} g e Q k kx => Zra (W := W) (ta := ta) ha g e (Q := Q) k kx⟩
theorem Zoi (h1 : SXB W tt p) (h2 : SXB W tu q) : SXB W (tAnd tt tu) (bAndX p q) := ⟨fun {F G ls H r en'} g e Q k kx => by
 rcases Zu e with ⟨x, e1, e2, e3⟩ | ⟨C, e2, rfl⟩
 ·refine h1 g e2 (fun d hd G1 l1 H1 E1 => ?_) (fun C hC => nomatch hC)
  cases hd
  cases x with
  | true =>
   rw [if_pos rfl, ← E1.en] at e3
   show tu (vals ls) H1 _
   rw [← E1.vs]
   exact h2 E1.gd e3 (fun b hb G' ls' H' E2 => k b hb G' ls' H' (E1.trans E2)) fun C hC => (kx C hC).at E1
  | false =>
   rw [if_neg Bool.false_ne_true] at e3
   cases e3
   exact k false rfl G1 l1 H1 E1
 ·exact h1 g e2 (fun d hd => nomatch hd) fun C' hC' => kx C' (rxc hC')⟩
theorem ZpT (h1 : SXB W tt p) (h2 : SXB W tu q) : SXB W (tOr tt tu) (bOrX p q) := ⟨fun {F G ls H r en'} g e Q k kx => by
 rcases Zu e with ⟨x, e1, e2, e3⟩ | ⟨C, e2, rfl⟩
 ·refine h1 g e2 (fun d hd G1 l1 H1 E1 => ?_) (fun C hC => nomatch hC)
  cases hd
  cases x with
  | false =>
   rw [if_neg Bool.false_ne_true, ← E1.en] at e3
   show tu (vals ls) H1 _
   rw [← E1.vs]
   exact h2 E1.gd e3 (fun b hb G' ls' H' E2 => k b hb G' ls' H' (E1.trans E2)) fun C hC => (kx C hC).at E1
  | true =>
   rw [if_pos rfl] at e3
   cases e3
   exact k true rfl G1 l1 H1 E1
 ·exact h1 g e2 (fun d hd => nomatch hd) fun C' hC' => kx C' (rxc hC')⟩
theorem Zpl (h1 : SXB W tt p) : SXB W (tNot tt) (bNotX p) := ⟨fun {F G ls H r en'} g e Q k kx => by
 rcases Zu e with ⟨x, e1, e2, e3⟩ | ⟨C, e2, rfl⟩
 ·refine h1 g e2 (fun d hd G1 l1 H1 E1 => ?_) (fun C hC => nomatch hC)
  cases hd
  cases e3
  exact k _ rfl G1 l1 H1 E1
 ·exact h1 g e2 (fun d hd => nomatch hd) fun C' hC' => kx C' (rxc hC')⟩
theorem ZsL {m : FN} (h0 : SXB W tt p) (h1 : SN W ta n) (h2 : SN W tb m) : SN W (tIf tt ta tb) (nIf p n m) := ⟨fun {F G ls H r en'} g e Q k kx => by
 rcases Zu e with ⟨x, e1, e2, e3⟩ | ⟨C, e2, rfl⟩
 ·refine h0 g e2 (fun d hd G1 l1 H1 E1 => ?_) (fun C hC => nomatch hC)
  cases hd
  cases x with
  | true =>
   rw [if_pos rfl, ← E1.en] at e3
   show ta (vals ls) H1 _
   rw [← E1.vs]
   exact h1 E1.gd e3 (fun b hb T G' ls' H' g' gx he hv hT => k b hb T G' ls' H' g' (E1.gx.trans gx) he (hv.trans E1.vs) hT) fun C hC => (kx C hC).at E1
  | false =>
   rw [if_neg Bool.false_ne_true, ← E1.en] at e3
   show tb (vals ls) H1 _
   rw [← E1.vs]
   exact h2 E1.gd e3 (fun b hb T G' ls' H' g' gx he hv hT => k b hb T G' ls' H' g' (E1.gx.trans gx) he (hv.trans E1.vs) hT) fun C hC => (kx C hC).at E1
 ·exact h0 g e2 (fun d hd => nomatch hd) fun C' hC' => kx C' (rxc hC')⟩
end
end Kb
namespace Kb
open PySem L2 Evl
inductive Ot
 | nx
 | rt (T : OT)
 | bk
 | ct
 | ex (C : Addr)
noncomputable abbrev FS := En → Option (Ot × En)
structure Kept (kp : Nat → Bool) (ls ls' : Ls) : Prop where
 len : ls'.length = ls.length
 at' : ∀ i, kp i = true → (vals ls')[i]? = (vals ls)[i]?
theorem Kept.refl {kp : Nat → Bool} {ls : Ls} : Kept kp ls ls := ⟨rfl, fun _ _ => rfl⟩
theorem Kept.trans {kp : Nat → Bool} {l0 l1 l2 : Ls} (a : Kept kp l0 l1) (b : Kept kp l1 l2) : Kept kp l0 l2 := ⟨b.len.trans a.len, fun i h => (b.at' i h).trans (a.at' i h)⟩
theorem ZH {ls : Ls} : (vals ls).length = ls.length := by simp [vals]
theorem Kept.of {kp : Nat → Bool} {ls ls' : Ls} (h : vals ls' = vals ls) : Kept kp ls ls' := ⟨by have := congrArg List.length h; rwa [ZH, ZH] at this, fun i _ => by rw [h]⟩
structure EndS (kp : Nat → Bool) (F G : Hp) (ls : Ls) (G' : Hp) (ls' : Ls) (H' : Hp) (en' : En) : Prop where
 gd : Good F G' ls' H'
 gx : Gx F G G'
 en : ens ls' = en'
 kt : Kept kp ls ls'
theorem End.s {kp : Nat → Bool} {F G G' H' : Hp} {ls ls' : Ls} {en' : En} (h : End F G ls G' ls' H' en') : EndS kp F G ls G' ls' H' en' := ⟨h.gd, h.gx, h.en, .of h.vs⟩
theorem EndS.trans {kp : Nat → Bool} {F G G1 G2 H1 H2 : Hp} {ls l1 l2 : Ls} {e1 e2 : En} (a : EndS kp F G ls G1 l1 H1 e1) (b : EndS kp F G1 l1 G2 l2 H2 e2) : EndS kp F G ls G2 l2 H2 e2 := ⟨b.gd, a.gx.trans b.gx, b.en, a.kt.trans b.kt⟩
noncomputable def Post (kp : Nat → Bool) (W : WX) (F G : Hp) (ls : Ls) (D : Ends) : Ot → En → Prop
 | .nx, en' => ∀ G' ls' H', EndS kp F G ls G' ls' H' en' → D.nx (vals ls') H'
 | .bk, en' => ∀ G' ls' H', EndS kp F G ls G' ls' H' en' → D.bk (vals ls') H'
 | .ct, en' => ∀ G' ls' H', EndS kp F G ls G' ls' H' en' → D.ct (vals ls') H'
 | .ex C, en' => ∀ G' ls' H', EndS kp F G ls G' ls' H' en' → W (.ref C) none (vals ls') H'
 | .rt T0, en' => ∀ T G' ls' H', Good F G' (some T :: ls') H' → Gx F G G' → ens ls' = en' → Kept kp ls ls' → T.er = T0 → D.rt T.val H'
theorem Post.at {kp : Nat → Bool} {W : WX} {F G G1 H1 : Hp} {ls l1 : Ls} {e1 en' : En} {D : Ends} {o : Ot} (p : Post kp W F G ls D o en') (a : EndS kp F G ls G1 l1 H1 e1) : Post kp W F G1 l1 D o en' := by
 cases o with
 | nx => exact fun G' ls' H' b => p G' ls' H' (a.trans b)
 | bk => exact fun G' ls' H' b => p G' ls' H' (a.trans b)
 | ct => exact fun G' ls' H' b => p G' ls' H' (a.trans b)
 | ex C => exact fun G' ls' H' b => p G' ls' H' (a.trans b)
 | rt T0 => exact fun T G' ls' H' g gx he hk hT => p T G' ls' H' g (a.gx.trans gx) he (a.kt.trans hk) hT
structure SS (kp : Nat → Bool) (W : WX) (ts : TS) (s : FS) : Prop where
 run : ∀ {F G : Hp} {ls : Ls} {H : Hp} {o : Ot} {en' : En}, Good F G ls H → s (ens ls) = some (o, en') → ∀ {D : Ends}, Post kp W F G ls D o en' → ts D (vals ls) H
instance {kp : Nat → Bool} {W : WX} {ts : TS} {s : FS} : CoeFun (SS kp W ts s) (fun _ => ∀ {F G : Hp} {ls : Ls} {H : Hp} {o : Ot} {en' : En}, Good F G ls H → s (ens ls) = some (o, en') → ∀ {D : Ends}, Post kp W F G ls D o en' → ts D (vals ls) H) := ⟨fun h => h.run⟩
/-- the exceptions of an expression -/
theorem Post.xc {kp : Nat → Bool} {W : WX} {F G : Hp} {ls : Ls} {D : Ends} {C : Addr} {en' : En} (p : Post kp W F G ls D (.ex C) en') : XC W F G ls C en' := fun G' ls' H' b => by
 rw [← b.vs]
 exact p G' ls' H' b.s
noncomputable def sNil : FS := fun en => some (.nx, en)
noncomputable def sSeq (a b : FS) : FS := fun en => match a en with
 | some (.nx, e1) => b e1
 | r => r
noncomputable def bs {α : Type} (a : Option (Rx α × En)) (f : α → En → Option (Ot × En)) : Option (Ot × En) := match a with
 | some (.ok x, en) => f x en
 | some (.ex C, en) => some (.ex C, en)
 | none => none
theorem ZF {α : Type} {a : Option (Rx α × En)} {f : α → En → Option (Ot × En)} {r : Ot} {en' : En} (h : bs a f = some (r, en')) : (∃ x en1, a = some (.ok x, en1) ∧ f x en1 = some (r, en')) ∨ ∃ C, a = some (.ex C, en') ∧ r = .ex C := by
 unfold bs at h
 split at h
 ·exact .inl ⟨_, _, rfl, h⟩
 ·cases h; exact .inr ⟨_, rfl, rfl⟩
 ·cases h
noncomputable def sAsg (i : Nat) (x : FX) : FS := fun en => bs (x en) fun d e1 => some (.nx, e1.set i (some (.leaf d)))
noncomputable def sAsgN (i : Nat) (n : FN) : FS := fun en => bs (n en) fun T e1 => some (.nx, e1.set i (some T))
noncomputable def sDrop (x : FX) : FS := fun en => bs (x en) fun _ e1 => some (.nx, e1)
noncomputable def sDropN (n : FN) : FS := fun en => bs (n en) fun _ e1 => some (.nx, e1)
noncomputable def sRet (n : FN) : FS := fun en => bs (n en) fun T e1 => some (.rt T, e1)
noncomputable def sRetN : FS := fun en => some (.rt (.leaf .none), en)
noncomputable def sIf (c : FB) (a b : FS) : FS := fun en => bs (c en) fun t e1 => if t = true then a e1 else b e1
noncomputable def sRaise (C : Addr) : FS := fun en => some (.ex C, en)
noncomputable def sBk : FS := fun en => some (.bk, en)
noncomputable def sCt : FS := fun en => some (.ct, en)
theorem Zj4 {ls : Ls} {i : Nat} (o : Option LT) (h : i < ls.length) : ∃ A B C, adsS ls = A ++ B ++ C ∧ adsS (ls.set i o) = A ++ oads o ++ C := by
 refine ⟨adsS (ls.take i), oads ls[i], adsS (ls.drop (i + 1)), ?_, ?_⟩
 ·have e : ls = ls.take i ++ ls[i] :: ls.drop (i + 1) := by rw [← List.drop_eq_getElem_cons h, List.take_append_drop]
  refine (congrArg adsS e).trans ?_
  unfold adsS
  rw [List.flatMap_append, List.flatMap_cons, List.append_assoc]
 ·rw [List.set_eq_take_append_cons_drop, if_pos h]
  simp [adsS]
theorem Good.sub {F G H : Hp} {ls ls' : Ls} (g : Good F G ls H) (h1 : (adsS ls').Nodup) (h2 : ∀ a ∈ adsS ls', a ∈ adsS ls) (h3 : ∀ t, some t ∈ ls' → t.ok G H) : Good F G ls' H :=
 ⟨g.fh, g.gh, h1, fun a ha => g.gn a (h2 a ha), fun a ha => g.fn a (h2 a ha), h3⟩
/-- what is in front goes into a slot -/
theorem Good.set {F G H : Hp} {ls : Ls} {o : Option LT} (g : Good F G (o :: ls) H) (i : Nat) : Good F G (ls.set i o) H := by
 have hnd : (oads o ++ adsS ls).Nodup := g.nd
 by_cases h : i < ls.length
 ·obtain ⟨A, B, C, h1, h2⟩ := Zj4 o h
  rw [h1] at hnd
  refine g.sub ?_ (fun a ha => ?_) (fun t ht => ?_)
  ·rw [h2]
   have p : (A ++ oads o ++ C).Perm (oads o ++ (A ++ C)) := by
    rw [← List.append_assoc]
    exact (List.perm_append_comm).append_right C
   refine p.nodup_iff.mpr (hnd.sublist ?_)
   refine (List.Sublist.refl _).append ?_
   rw [List.append_assoc]
   exact (List.Sublist.refl _).append (List.sublist_append_right _ _)
  ·rw [h2] at ha
   show a ∈ oads o ++ adsS ls
   rw [h1]
   simp only [List.mem_append] at ha ⊢
   rcases ha with (ha | ha) | ha
   ·exact .inr (.inl (.inl ha))
   ·exact .inl ha
   ·exact .inr (.inr ha)
  ·rcases List.mem_or_eq_of_mem_set ht with z | z
   ·exact g.ok t (List.mem_cons_of_mem _ z)
   ·exact g.ok t (by rw [z]; exact List.mem_cons_self)
 ·rw [List.set_eq_of_length_le (by omega)]
  refine g.sub ?_ (fun a ha => ?_) (fun t ht => g.ok t (List.mem_cons_of_mem _ ht))
  ·exact (List.nodup_append.mp hnd).2.1
  ·exact List.mem_append_right _ ha
theorem Good.tail {F G H : Hp} {ls : Ls} {o : Option LT} (g : Good F G (o :: ls) H) : Good F G ls H := by
 have hnd : (oads o ++ adsS ls).Nodup := g.nd
 exact g.sub (List.nodup_append.mp hnd).2.1 (fun a ha => List.mem_append_right _ ha) fun t ht => g.ok t (List.mem_cons_of_mem _ ht)
theorem ZbF {ls : Ls} {i : Nat} {t : LT} : vals (ls.set i (some t)) = (vals ls).set i (some t.val) := by simp [vals, List.map_set]
theorem ZbQ {ls : Ls} {i : Nat} {t : LT} : ens (ls.set i (some t)) = (ens ls).set i (some t.er) := by simp [ens, List.map_set]
theorem Kept.set {kp : Nat → Bool} {ls : Ls} {i : Nat} {o : Option LT} (h : kp i = false) : Kept kp ls (ls.set i o) := ⟨by simp, fun j hj => by
 unfold vals
 rw [List.map_set, List.getElem?_set_ne]
 intro z
 rw [z] at h
 rw [h] at hj
 cases hj⟩
section
variable {kp : Nat → Bool} {K : PySem.W.Frag} {w : World} {W : WX} {te ta tb tc : TE} {tt tu : TT} {ts tv : TS} {a b : FX} {n : FN} {p q : FB} {s s2 : FS}
theorem Zy : SS kp W tNext sNil := ⟨fun {F G ls H o en'} g e D k => by
 cases e
 exact k G ls H ⟨g, Gx.refl, rfl, Kept.refl⟩⟩
theorem Zf (h1 : SS kp W ts s) (h2 : SS kp W tv s2) : SS kp W (tSeq ts tv) (sSeq s s2) := ⟨fun {F G ls H o en'} g e D k => by
 unfold sSeq at e
 show ts { D with nx := tv D } (vals ls) H
 cases z : s (ens ls) with
 | none => rw [z] at e; cases e
 | some r =>
  obtain ⟨o1, e1⟩ := r
  rw [z] at e
  cases o1 with
  | nx =>
   refine h1 g z (D := { D with nx := tv D }) fun G' ls' H' E1 => ?_
   have e : s2 e1 = some (o, en') := e
   rw [← E1.en] at e
   exact h2 E1.gd e (k.at E1)
  | rt T => cases e; exact h1 g z (D := { D with nx := tv D }) k
  | bk => cases e; exact h1 g z (D := { D with nx := tv D }) k
  | ct => cases e; exact h1 g z (D := { D with nx := tv D }) k
  | ex C => cases e; exact h1 g z (D := { D with nx := tv D }) k⟩
theorem ZI {i : Nat} (hi : kp i = false) (h : SX W te a) : SS kp W (tAsg te (gName i)) (sAsg i a) := ⟨fun {F G ls H o en'} g e D k => by
 rcases ZF e with ⟨d, e1, h1, h2⟩ | ⟨C, h1, rfl⟩
 ·cases h2
  refine h g h1 (fun d' hd' v G' ls' H' E dv => ?_) (fun C hC => nomatch hC)
  cases hd'
  have k2 := k G' (ls'.set i (some (.leaf v d))) H' ⟨(ZaJ E.gd dv).set i, E.gx, by rw [ZbQ, E.en]; rfl, (Kept.of E.vs).trans (Kept.set hi)⟩
  rw [ZbF, E.vs] at k2
  exact k2
 ·exact h g h1 (fun d hd => nomatch hd) fun C' hC' => by cases hC'; exact k.xc⟩
theorem Zd4 {i : Nat} (hi : kp i = false) (h : SN W te n) : SS kp W (tAsg te (gName i)) (sAsgN i n) := ⟨fun {F G ls H o en'} g e D k => by
 rcases ZF e with ⟨T0, e1, h1, h2⟩ | ⟨C, h1, rfl⟩
 ·cases h2
  refine h g h1 (fun T0' hT0 T G' ls' H' g' gx he hv hT => ?_) (fun C hC => nomatch hC)
  cases hT0
  have k2 := k G' (ls'.set i (some T)) H' ⟨g'.set i, gx, by rw [ZbQ, he, hT], (Kept.of hv).trans (Kept.set hi)⟩
  rw [ZbF, hv] at k2
  exact k2
 ·exact h g h1 (fun d hd => nomatch hd) fun C' hC' => by cases hC'; exact k.xc⟩
theorem ZaQ (h : SN W te n) : SS kp W (tDrop te) (sDropN n) := ⟨fun {F G ls H o en'} g e D k => by
 rcases ZF e with ⟨d, e1, h1, h2⟩ | ⟨C, h1, rfl⟩
 ·cases h2
  refine h g h1 (fun T0' hT0 T G' ls' H' g' gx he hv hT => ?_) (fun C hC => nomatch hC)
  have k2 := k G' ls' H' ⟨g'.tail, gx, he, .of hv⟩
  rw [hv] at k2
  exact k2
 ·exact h g h1 (fun d hd => nomatch hd) fun C' hC' => by cases hC'; exact k.xc⟩
theorem Zv (h : SN W te n) : SS kp W (tRet te) (sRet n) := ⟨fun {F G ls H o en'} g e D k => by
 rcases ZF e with ⟨T0, e1, h1, h2⟩ | ⟨C, h1, rfl⟩
 ·cases h2
  refine h g h1 (fun T0' hT0 T G' ls' H' g' gx he hv hT => ?_) (fun C hC => nomatch hC)
  cases hT0
  exact k T G' ls' H' g' gx he (.of hv) hT
 ·exact h g h1 (fun d hd => nomatch hd) fun C' hC' => by cases hC'; exact k.xc⟩
theorem ZB (h0 : SXB W tt p) (h1 : SS kp W ts s) (h2 : SS kp W tv s2) : SS kp W (tIfS tt ts tv) (sIf p s s2) := ⟨fun {F G ls H o en'} g e D k => by
 rcases ZF e with ⟨t, e1, h3, h4⟩ | ⟨C, h3, rfl⟩
 ·refine h0 g h3 (fun b hb G' ls' H' E => ?_) (fun C hC => nomatch hC)
  cases hb
  cases t with
  | true =>
   refine iteT ?_
   rw [if_pos rfl, ← E.en] at h4
   rw [← E.vs]
   exact h1 E.gd h4 (k.at E.s)
  | false =>
   refine iteF ?_
   rw [if_neg Bool.false_ne_true, ← E.en] at h4
   rw [← E.vs]
   exact h2 E.gd h4 (k.at E.s)
 ·exact h0 g h3 (fun d hd => nomatch hd) fun C' hC' => by cases hC'; exact k.xc⟩
theorem ZbC {C : Addr} : SS kp W (fun _ σ H => W (.ref C) none σ H) (sRaise C) := ⟨fun {F G ls H o en'} g e D k => by
 cases e
 exact k G ls H ⟨g, Gx.refl, rfl, Kept.refl⟩⟩
structure SGE (kp : Nat → Bool) (g : TG) (b : PyData → En → Option En) : Prop where
 run : ∀ {x : V} {d : PyData} {F G H : Hp} {ls : Ls} {en' : En}, Good F G ls H → Dt G x d → b d (ens ls) = some en' → ∀ {R : L2.St → Hp → Prop}, (∀ ls', EndS kp F G ls G ls' H en' → R (vals ls') H) → g x (vals ls) H R
instance {kp : Nat → Bool} {g : TG} {b : PyData → En → Option En} : CoeFun (SGE kp g b) (fun _ => ∀ {x : V} {d : PyData} {F G H : Hp} {ls : Ls} {en' : En}, Good F G ls H → Dt G x d → b d (ens ls) = some en' → ∀ {R : L2.St → Hp → Prop}, (∀ ls', EndS kp F G ls G ls' H en' → R (vals ls') H) → g x (vals ls) H R) := ⟨fun h => h.run⟩
structure SGEs (kp : Nat → Bool) (g : TGs) (b : List PyData → En → Option En) : Prop where
 run : ∀ {x : List V} {d : List PyData} {F G H : Hp} {ls : Ls} {en' : En}, Good F G ls H → DtAll G x d → b d (ens ls) = some en' → ∀ {R : L2.St → Hp → Prop}, (∀ ls', EndS kp F G ls G ls' H en' → R (vals ls') H) → g x (vals ls) H R
instance {kp : Nat → Bool} {g : TGs} {b : List PyData → En → Option En} : CoeFun (SGEs kp g b) (fun _ => ∀ {x : List V} {d : List PyData} {F G H : Hp} {ls : Ls} {en' : En}, Good F G ls H → DtAll G x d → b d (ens ls) = some en' → ∀ {R : L2.St → Hp → Prop}, (∀ ls', EndS kp F G ls G ls' H en' → R (vals ls') H) → g x (vals ls) H R) := ⟨fun h => h.run⟩
noncomputable def eName (j : Nat) : PyData → En → Option En := fun d en => some (en.set j (some (.leaf d)))
noncomputable def eNil : List PyData → En → Option En
 | [], en => some en
 | _, _ => none
noncomputable def eCons (b : PyData → En → Option En) (r : List PyData → En → Option En) : List PyData → En → Option En
 | d :: ds, en => (b d en).bind (r ds)
 | [], _ => none
noncomputable def eTup (n : Nat) (r : List PyData → En → Option En) : PyData → En → Option En
 | .tuple ds, en => if ds.length = n then r ds en else none
 | _, _ => none
noncomputable def eLst (n : Nat) (r : List PyData → En → Option En) : PyData → En → Option En
 | .list ds, en => if ds.length = n then r ds en else none
 | _, _ => none
theorem ZaE {j : Nat} (hj : kp j = false) : SGE kp (gName j) (eName j) := ⟨fun {x d F G H ls en'} g dx e R k => by
 cases e
 have k2 := k (ls.set j (some (.leaf x d))) ⟨(ZaJ g dx).set j, Gx.refl, by rw [ZbQ]; rfl, Kept.set hj⟩
 rw [ZbF] at k2
 exact k2⟩
theorem ZjW : SGEs kp gNil eNil := ⟨fun {xs ds F G H ls en'} g dx e R k => by
 cases ds with
 | nil => cases dx; cases e; exact ⟨rfl, k ls ⟨g, Gx.refl, rfl, Kept.refl⟩⟩
 | cons d ds => cases e⟩
theorem Zel {g : TG} {gs : TGs} {b : PyData → En → Option En} {r : List PyData → En → Option En} (h1 : SGE kp g b) (h2 : SGEs kp gs r) : SGEs kp (gCons g gs) (eCons b r) := ⟨fun {xs ds F G H ls en'} g dx e R k => by
 cases ds with
 | nil => cases e
 | cons d ds =>
  obtain ⟨en1, he1, e⟩ := bnd e
  cases dx with
  | cons dv dvs =>
   refine ⟨_, _, rfl, h1 g dv he1 fun l1 E1 => ?_⟩
   rw [← E1.en] at e
   exact h2 E1.gd dvs e fun l2 E2 => k l2 (E1.trans E2)⟩
theorem Zk2 {n : Nat} {gs : TGs} {r : List PyData → En → Option En} (h1 : SGEs kp gs r) : SGE kp (gTup K n gs) (eTup n r) := ⟨fun {x d F G H ls en'} g dx e R k => by
 cases d <;> try (cases e; done)
 rename_i ds
 have e : (if ds.length = n then r ds (ens ls) else none) = some en' := e
 split at e
 ·obtain ⟨a, xs, rfl, ha, r⟩ := dx.ot
  exact ⟨a, xs, rfl, st_of (g.gh _ _ ha), by rw [r.len]; assumption, h1 g r e k⟩
 ·cases e⟩
noncomputable def sAsgG (b : PyData → En → Option En) (x : FX) : FS := fun en => bs (x en) fun d e1 => (b d e1).map fun e2 => (.nx, e2)
theorem ZjP {g : TG} {b : PyData → En → Option En} (hg : SGE kp g b) (h : SX W te a) : SS kp W (tAsg te g) (sAsgG b a) := ⟨fun {F G ls H o en'} gd e D k => by
 rcases ZF e with ⟨d, e1, h1, h2⟩ | ⟨C, h1, rfl⟩
 ·obtain ⟨e2, h3, h4⟩ := Option.map_eq_some_iff.mp h2
  cases h4
  refine h gd h1 (fun d' hd' v G' ls' H' E dv => ?_) (fun C hC => nomatch hC)
  cases hd'
  rw [← E.en] at h3
  show g v (vals ls) H' D.nx
  rw [← E.vs]
  exact hg E.gd dv h3 fun l2 E2 => k G' l2 H' (E.s.trans E2)
 ·exact h gd h1 (fun d hd => nomatch hd) fun C' hC' => by cases hC'; exact k.xc⟩
structure SIX (W : WX) (wi : TI) (it : FA) : Prop where
 run : ∀ {F G : Hp} {ls : Ls} {H : Hp} {r : Rx (List PyData)} {en' : En}, Good F G ls H → it (ens ls) = some (r, en') → ∀ {R : It → Hp → Prop},
 (∀ ds, r = .ok ds → ∀ J G1 l1 H1 Gd Y, End F G ls G1 l1 H1 en' → Walk J ds.length Gd Y → (∀ H', Ex G1 H' → Gd H') → (∀ i x Ha Hb Gi, i < ds.length → Ex G1 Gi → Ex Gi Ha → Y i Ha x Hb → Ex Ha Hb ∧ ∃ d, ds[i]? = some d ∧ Dt (grow Gi Ha Hb) x d) → R J H1) →
 (∀ C, r = .ex C → XC W F G ls C en') → wi (vals ls) H R
instance {W : WX} {wi : TI} {it : FA} : CoeFun (SIX W wi it) (fun _ => ∀ {F G : Hp} {ls : Ls} {H : Hp} {r : Rx (List PyData)} {en' : En}, Good F G ls H → it (ens ls) = some (r, en') → ∀ {R : It → Hp → Prop},
 (∀ ds, r = .ok ds → ∀ J G1 l1 H1 Gd Y, End F G ls G1 l1 H1 en' → Walk J ds.length Gd Y → (∀ H', Ex G1 H' → Gd H') → (∀ i x Ha Hb Gi, i < ds.length → Ex G1 Gi → Ex Gi Ha → Y i Ha x Hb → Ex Ha Hb ∧ ∃ d, ds[i]? = some d ∧ Dt (grow Gi Ha Hb) x d) → R J H1) →
 (∀ C, r = .ex C → XC W F G ls C en') → wi (vals ls) H R) := ⟨fun h => h.run⟩
noncomputable def iX (o : PyData → Option (List PyData)) (a : FX) : FA := fun en => bx (a en) fun x e1 => okx e1 (o x)
noncomputable def iA (o : List PyData → Option (List PyData)) (a : FA) : FA := fun en => bx (a en) fun x e1 => okx e1 (o x)
theorem ZfW (ha : SX W ta a) : SIX W (iList K ta) (iX asL a) := ⟨fun {F G ls H r en'} g e R k kx => by
 rcases Zu e with ⟨x, e1, h1, h2⟩ | ⟨C, h1, rfl⟩
 ·refine ha g h1 (fun d hd v G1 l1 H1 E1 dv => ?_) (fun C hC => nomatch hC)
  cases hd
  obtain ⟨ds, hd, rfl, rfl⟩ := ZO h2
  obtain rfl := Zk9 hd
  obtain ⟨p, xs, rfl, hp, r⟩ := dv.ol
  refine ⟨p, rfl, ⟨xs, sq_of (E1.gd.gh _ _ hp)⟩, k ds rfl _ G1 l1 H1 _ _ E1 (r.len ▸ walk_list (K := K) (a := p) (xs := xs)) (fun H' e' => sq_of (e' _ _ hp)) fun i x Ha Hb Gi hi gg gi hy => ?_⟩
  obtain ⟨rfl, hxi⟩ := hy
  obtain ⟨dd, hd, ddt⟩ := r.at' hxi
  exact ⟨Ex.refl _, dd, hd, (ddt.up gg).up (Zp gi)⟩
 ·exact ha g h1 (fun d hd => nomatch hd) fun C' hC' => kx C' (rxc hC')⟩
theorem ZnX (ha : SX W ta a) : SIX W (iTup K ta) (iX asT a) := ⟨fun {F G ls H r en'} g e R k kx => by
 rcases Zu e with ⟨x, e1, h1, h2⟩ | ⟨C, h1, rfl⟩
 ·refine ha g h1 (fun d hd v G1 l1 H1 E1 dv => ?_) (fun C hC => nomatch hC)
  cases hd
  obtain ⟨ds, hd, rfl, rfl⟩ := ZO h2
  obtain rfl := Zqp hd
  obtain ⟨p, xs, rfl, hp, r⟩ := dv.ot
  refine ⟨p, rfl, ⟨xs, st_of (E1.gd.gh _ _ hp)⟩, k ds rfl _ G1 l1 H1 _ _ E1 (r.len ▸ walk_tup (K := K) (a := p) (xs := xs)) (fun H' e' => st_of (e' _ _ hp)) fun i x Ha Hb Gi hi gg gi hy => ?_⟩
  obtain ⟨rfl, hxi⟩ := hy
  obtain ⟨dd, hd, ddt⟩ := r.at' hxi
  exact ⟨Ex.refl _, dd, hd, (ddt.up gg).up (Zp gi)⟩
 ·exact ha g h1 (fun d hd => nomatch hd) fun C' hC' => kx C' (rxc hC')⟩
theorem ZgQ {ta : TA} {s : FA} (ha : SXA W ta s) : SIX W (iRng1 ta) (iA rg1 s) := ⟨fun {F G ls H r en'} g e R k kx => by
 rcases Zu e with ⟨x, e1, h1, h2⟩ | ⟨C, h1, rfl⟩
 ·refine ha g h1 (fun d hd v G1 l1 H1 E1 dv => ?_) (fun C hC => nomatch hC)
  cases hd
  obtain ⟨ds, hd, rfl, rfl⟩ := ZO h2
  unfold rg1 at hd
  split at hd
  case h_2 => cases hd
  rename_i j
  split at hd
  case isFalse => cases hd
  rename_i hj
  cases hd
  have hj := Znw hj
  obtain ⟨v1, rfl, dv1⟩ := dv.one
  obtain rfl := dv1.oi
  refine ⟨j, rfl, by omega, by omega, k _ rfl _ G1 l1 H1 _ _ E1 (by rw [Zfq]; exact walk_range (lo := 0) (n := j.toNat)) (fun H' e' => trivial) fun i x Ha Hb Gi hi gg gi hy => ?_⟩
  obtain ⟨rfl, rfl⟩ := hy
  rw [Zfq] at hi
  exact ⟨Ex.refl _, _, ZlN hi, .int _⟩
 ·exact ha g h1 (fun d hd => nomatch hd) fun C' hC' => kx C' (rxc hC')⟩
noncomputable def forGo (b : PyData → En → Option En) (body : FS) : List PyData → En → Option (Ot × En)
 | [], en => some (.nx, en)
 | d :: ds, en => (b d en).bind fun e1 => match body e1 with
  | some (.nx, e2) => forGo b body ds e2
  | some (.ct, e2) => forGo b body ds e2
  | some (.bk, e2) => some (.nx, e2)
  | r => r
noncomputable def sFor (it : FA) (b : PyData → En → Option En) (body : FS) : FS := fun en => bs (it en) fun ds e1 => forGo b body ds e1
theorem ZiM {wi : TI} {it : FA} {g : TG} {b : PyData → En → Option En} (hi : SIX W wi it) (hg : SGE kp g b) (hb : SS kp W ts s) : SS kp W (tFor wi g ts) (sFor it b s) := ⟨fun {F G ls H o en'} gd e D k => by
 rcases ZF e with ⟨ds, e1, h1, h2⟩ | ⟨C, h1, rfl⟩
 ·refine hi gd h1 (fun d' hd' J G1 l1 H1 Gd Y E1 wk hGd hY => ?_) (fun C hC => nomatch hC)
  cases hd'
  rw [← E1.vs]
  rw [← E1.en] at h2
  refine for_it wk (fun i σ' H' => ∃ G' ls', EndS kp F G1 l1 G' ls' H' (ens ls') ∧ vals ls' = σ' ∧ forGo b s (ds.drop i) (ens ls') = some (o, en')) ⟨G1, l1, ⟨E1.gd, Gx.refl, rfl, Kept.refl⟩, rfl, h2⟩ ?_ ?_ ?_
  ·rintro i σ' H' hi' ⟨G', ls', E2, _, _⟩
   exact hGd H' (E2.gx.ex.trans E2.gd.gh)
  ·rintro i x σ' Ha Hb hlt ⟨G', ls', E2, rfl, hgo⟩ hy
   obtain ⟨eab, d, hd, dx⟩ := hY i x Ha Hb G' hlt E2.gx.ex E2.gd.gh hy
   obtain ⟨g2, gx2⟩ := E2.gd.grow eab
   have hdr : ds.drop i = d :: ds.drop (i + 1) := by
    rw [List.drop_eq_getElem_cons hlt]
    congr 1
    rw [List.getElem?_eq_getElem hlt] at hd
    exact Option.some.inj hd
   rw [hdr] at hgo
   obtain ⟨e2, hb2, hgo⟩ := bnd hgo
   refine hg g2 dx hb2 fun l3 E3 => ?_
   have E13 : EndS kp F G1 l1 (grow G' Ha Hb) l3 Hb e2 := E2.trans ((⟨g2, gx2, rfl, Kept.refl⟩ : EndS kp F G' ls' _ ls' Hb (ens ls')).trans E3)
   cases hbody : s e2 with
   | none => rw [hbody] at hgo; cases hgo
   | some r =>
    obtain ⟨o1, e3⟩ := r
    rw [hbody] at hgo
    rw [← E3.en] at hbody
    refine hb E3.gd hbody ?_
    cases o1 with
    | nx => exact fun G4 l4 H4 E4 => ⟨G4, l4, ⟨(E13.trans E4).gd, (E13.trans E4).gx, rfl, (E13.trans E4).kt⟩, rfl, by rw [E4.en]; exact hgo⟩
    | ct => exact fun G4 l4 H4 E4 => ⟨G4, l4, ⟨(E13.trans E4).gd, (E13.trans E4).gx, rfl, (E13.trans E4).kt⟩, rfl, by rw [E4.en]; exact hgo⟩
    | bk => cases hgo; exact fun G4 l4 H4 E4 => k G4 l4 H4 (E1.s.trans (E13.trans E4))
    | rt T => cases hgo; exact k.at (E1.s.trans E13)
    | ex C => cases hgo; exact k.at (E1.s.trans E13)
  ·rintro σ' H' ⟨G', ls', E2, rfl, hgo⟩
   rw [List.drop_length] at hgo
   cases hgo
   exact k G' ls' H' (E1.s.trans E2)
 ·exact hi gd h1 (fun d hd => nomatch hd) fun C' hC' => by cases hC'; exact k.xc⟩
end
end Kb
namespace Kb
open PySem L2 Evl
noncomputable def LT.sub : LT → List Nat → Option LT
 | t, [] => some t
 | .node _ _ _ cs, i :: p => (cs[i]?).bind fun x => x.2.sub p
 | .leaf _ _, _ :: _ => none
noncomputable def OT.sub : OT → List Nat → Option OT
 | t, [] => some t
 | .node _ cs, i :: p => (cs[i]?).bind fun x => x.2.sub p
 | .leaf _, _ :: _ => none
noncomputable def LT.put : LT → List Nat → LT → LT
 | _, [], s => s
 | .node k a dx cs, i :: p, s => .node k a dx (cs.modify i fun x => (x.1, x.2.put p s))
 | .leaf v d, _ :: _, _ => .leaf v d
noncomputable def OT.put : OT → List Nat → OT → OT
 | _, [], s => s
 | .node k cs, i :: p, s => .node k (cs.modify i fun x => (x.1, x.2.put p s))
 | .leaf d, _ :: _, _ => .leaf d
theorem LT.er_node {k : Kd} {a dx : Addr} {cs : List (Lab × LT)} : (LT.node k a dx cs).er = .node k (cs.map fun x => (x.1, x.2.er)) := by rw [LT.er, LT.erL_map]
theorem LT.sub_er : ∀ (p : List Nat) (t : LT), t.er.sub p = (t.sub p).map LT.er
 | [], t => by cases t <;> rfl
 | i :: p, .leaf v d => rfl
 | i :: p, .node k a dx cs => by
  rw [LT.er_node]
  show ((cs.map fun x => (x.1, x.2.er))[i]?).bind (fun x => x.2.sub p) = ((cs[i]?).bind fun x => x.2.sub p).map LT.er
  rw [List.getElem?_map]
  cases cs[i]? with
  | none => rfl
  | some x => exact LT.sub_er p x.2
theorem LT.put_er (s : LT) : ∀ (p : List Nat) (t : LT), (t.put p s).er = t.er.put p s.er
 | [], t => by cases t <;> rfl
 | i :: p, .leaf v d => rfl
 | i :: p, .node k a dx cs => by
  rw [LT.er_node]
  show (LT.node k a dx (cs.modify i fun x => (x.1, x.2.put p s))).er = OT.node k ((cs.map fun x => (x.1, x.2.er)).modify i fun x => (x.1, x.2.put p s.er))
  rw [LT.er_node]
  congr 1
  apply List.ext_getElem?
  intro j
  rw [List.getElem?_map, List.getElem?_modify, List.getElem?_modify, List.getElem?_map]
  cases cs[j]? with
  | none => rfl
  | some x =>
   by_cases z : i = j
   ·subst z
    simp [LT.put_er s p x.2]
   ·simp [z]
theorem LT.put_val {s s' : LT} : ∀ {p : List Nat} {t : LT}, t.sub p = some s → s'.val = s.val → (t.put p s').val = t.val
 | [], t, h, e => by cases t <;> (cases h; exact e)
 | i :: p, .leaf v d, h, e => rfl
 | i :: p, .node k a dx cs, h, e => rfl
theorem ZfY {cs : List (Lab × LT)} {i : Nat} {x : Lab × LT} {b : Addr} (h : cs[i]? = some x) (y : Lab × LT) : (LT.adsL (cs.set i y)).count b + x.2.ads.count b = (LT.adsL cs).count b + y.2.ads.count b := by
 induction cs generalizing i with
 | nil => simp at h
 | cons c cs ih =>
  cases i with
  | zero =>
   simp at h
   subst h
   obtain ⟨l, t⟩ := c
   obtain ⟨l', t'⟩ := y
   simp [LT.adsL, List.count_append]
   omega
  | succ i =>
   obtain ⟨l, t⟩ := c
   have := ih (i := i) (by simpa using h)
   simp [LT.adsL, List.count_append]
   omega
theorem ZgG {α : Type} {l : List α} {i : Nat} {x : α} (f : α → α) (h : l[i]? = some x) : l.modify i f = l.set i (f x) := by
 apply List.ext_getElem?
 intro j
 rw [List.getElem?_modify, List.getElem?_set]
 by_cases z : i = j
 ·subst z
  obtain ⟨h1, h2⟩ := List.getElem?_eq_some_iff.mp h
  simp [h1, h2]
 ·simp [z]
theorem LT.ads_eq {k : Kd} {a dx : Addr} {cs : List (Lab × LT)} : (LT.node k a dx cs).ads = k.own a dx ++ LT.adsL cs := by rw [LT.ads]
theorem LT.put_cnt {s s' : LT} {b : Addr} : ∀ {p : List Nat} {t : LT}, t.sub p = some s → (t.put p s').ads.count b + s.ads.count b = t.ads.count b + s'.ads.count b
 | [], t, h => by cases t <;> (cases h; show s'.ads.count b + _ = _; omega)
 | i :: p, .leaf v d, h => by cases h
 | i :: p, .node k a dx cs, h => by
  have h : (cs[i]?).bind (fun x => x.2.sub p) = some s := h
  obtain ⟨x, hx, hs⟩ := bnd h
  have ih := LT.put_cnt (b := b) (s' := s') hs
  show (LT.node k a dx (cs.modify i fun x => (x.1, x.2.put p s'))).ads.count b + _ = _
  rw [LT.ads, LT.ads, ZgG _ hx, List.count_append, List.count_append]
  have := ZfY (b := b) hx (x.1, x.2.put p s')
  dsimp only at this
  omega
theorem Zbz {cs : List (Lab × LT)} {x : Lab × LT} {b : Addr} (h : x ∈ cs) : x.2.ads.count b ≤ (LT.adsL cs).count b := by
 induction cs with
 | nil => exact nomatch h
 | cons c cs ih =>
  obtain ⟨l, t⟩ := c
  rw [LT.adsL, List.count_append]
  rcases List.mem_cons.mp h with rfl | h
  ·exact Nat.le_add_right _ _
  ·exact Nat.le_trans (ih h) (Nat.le_add_left _ _)
theorem LT.sub_cnt {s : LT} {b : Addr} : ∀ {p : List Nat} {t : LT}, t.sub p = some s → s.ads.count b ≤ t.ads.count b
 | [], t, h => by cases t <;> (cases h; exact Nat.le_refl _)
 | i :: p, .leaf v d, h => by cases h
 | i :: p, .node k a dx cs, h => by
  have h : (cs[i]?).bind (fun x => x.2.sub p) = some s := h
  obtain ⟨x, hx, hs⟩ := bnd h
  have := LT.sub_cnt (b := b) hs
  have h2 := Zbz (b := b) (List.mem_of_getElem? hx)
  rw [LT.ads, List.count_append]
  omega
theorem LT.sub_ok {G H : Hp} {s : LT} : ∀ {p : List Nat} {t : LT}, t.sub p = some s → t.ok G H → s.ok G H
 | [], t, h, k => by cases t <;> (cases h; exact k)
 | i :: p, .leaf v d, h, k => by cases h
 | i :: p, .node kd a dx cs, h, k => by
  have h : (cs[i]?).bind (fun x => x.2.sub p) = some s := h
  obtain ⟨x, hx, hs⟩ := bnd h
  exact LT.sub_ok hs ((LT.ok_node.mp k).2.2 x (List.mem_of_getElem? hx))
theorem ZP {l : List Addr} {b : Addr} : b ∈ l ↔ 0 < l.count b := List.count_pos_iff.symm
/-- a part of a tree is changed: its own cells and no others -/
theorem LT.put_ok {G H H' : Hp} {s s' : LT} : ∀ {p : List Nat} {t : LT}, t.sub p = some s → s'.val = s.val → (∀ b, t.ads.count b ≤ 1) → (∀ b ∈ t.ads, b ∉ s.ads → H' b = H b) → t.ok G H → s'.ok G H' → (t.put p s').ok G H'
 | [], t, h, _, _, _, _, k2 => by cases t <;> exact k2
 | i :: p, .leaf v d, h, _, _, _, _, _ => by cases h
 | i :: p, .node kd a dx cs, h, hv, hn, hh, k, k2 => by
  have h : (cs[i]?).bind (fun x => x.2.sub p) = some s := h
  obtain ⟨x, hx, hs⟩ := bnd h
  obtain ⟨k1, k3, k4⟩ := LT.ok_node.mp k
  have hxm := List.mem_of_getElem? hx
  have cnt : ∀ b, (kd.own a dx).count b + (LT.adsL cs).count b ≤ 1 := fun b => by
   have := hn b
   rw [LT.ads, List.count_append] at this
   exact this
  have sub1 : ∀ b, s.ads.count b ≤ x.2.ads.count b := fun b => LT.sub_cnt hs
  have own : ∀ b ∈ kd.own a dx, H' b = H b := fun b hb => hh b (LT.ads_node.mpr (.inl hb)) fun z => by
   have := cnt b
   have h1 := ZP.mp hb
   have h2 := ZP.mp z
   have h3 := sub1 b
   have h4 := Zbz (b := b) hxm
   omega
  show (LT.node kd a dx (cs.modify i fun x => (x.1, x.2.put p s'))).ok G H'
  rw [ZgG _ hx]
  refine LT.ok_node.mpr ⟨?_, ?_, fun y hy => ?_⟩
  ·rw [own a LT.mem_own, k1]
   congr 2
   unfold LT.vals
   apply List.ext_getElem?
   intro j
   rw [List.getElem?_map, List.getElem?_map, List.getElem?_set]
   by_cases z : i = j
   ·subst z
    have := (List.getElem?_eq_some_iff.mp hx).1
    rw [if_pos rfl, if_pos this, hx]
    simp [LT.put_val hs hv]
   ·rw [if_neg z]
  ·cases kd <;> try trivial
   exact (own dx (by simp [Kd.own])).trans k3
  ·obtain ⟨j, hj⟩ := List.getElem?_of_mem hy
   rw [List.getElem?_set] at hj
   split at hj
   ·rename_i z
    split at hj
    ·cases hj
     refine LT.put_ok hs hv (fun b => ?_) (fun b hb hb2 => hh b (LT.ads_node.mpr (.inr ⟨x, hxm, hb⟩)) hb2) (k4 x hxm) k2
     have := cnt b
     have h4 := Zbz (b := b) hxm
     omega
    ·cases hj
   ·rename_i z
    refine LT.ok_heap y.2 (fun b hb => hh b (LT.ads_node.mpr (.inr ⟨y, List.mem_of_getElem? hj, hb⟩)) fun hb2 => ?_) (k4 y (List.mem_of_getElem? hj))
    have h1 := cnt b
    have h2 := ZP.mp hb
    have h3 := ZP.mp hb2
    have h4 := sub1 b
    have h5 : y.2.ads.count b + x.2.ads.count b ≤ (LT.adsL cs).count b := by
     have := ZfY (b := b) hx (Lab.no, LT.leaf .non .none)
     have hy2 : y ∈ cs.set i (Lab.no, LT.leaf .non .none) := List.mem_of_getElem? (i := j) (by rw [List.getElem?_set, if_neg z]; exact hj)
     have h6 := Zbz (b := b) hy2
     have h7 : (LT.leaf .non .none).ads.count b = 0 := rfl
     dsimp only at this
     omega
    omega
theorem Za6 {ls : Ls} {i : Nat} {o : Option LT} {b : Addr} (h : ls[i]? = some o) (o' : Option LT) : (adsS (ls.set i o')).count b + (oads o).count b = (adsS ls).count b + (oads o').count b := by
 induction ls generalizing i with
 | nil => simp at h
 | cons c cs ih =>
  cases i with
  | zero =>
   simp at h
   subst h
   simp [adsS, List.count_append]
   omega
  | succ i =>
   have := ih (i := i) (by simpa using h)
   simp [adsS, List.count_append] at this ⊢
   omega
theorem ZfG {ls : Ls} {o : Option LT} {b : Addr} (h : o ∈ ls) : (oads o).count b ≤ (adsS ls).count b := by
 induction ls with
 | nil => exact nomatch h
 | cons c cs ih =>
  show _ ≤ (oads c ++ adsS cs).count b
  rw [List.count_append]
  rcases List.mem_cons.mp h with rfl | h
  ·exact Nat.le_add_right _ _
  ·exact Nat.le_trans (ih h) (Nat.le_add_left _ _)
theorem Zpw {ls : Ls} {i j : Nat} {o q : Option LT} {b : Addr} (hi : ls[i]? = some o) (hj : ls[j]? = some q) (hne : i ≠ j) : (oads o).count b + (oads q).count b ≤ (adsS ls).count b := by
 have h1 := Za6 (b := b) hi none
 have h2 : q ∈ ls.set i none := List.mem_of_getElem? (i := j) (by rw [List.getElem?_set, if_neg hne]; exact hj)
 have h3 := ZfG (b := b) h2
 have h4 : (oads none).count b = 0 := rfl
 omega
/-- a thing kept apart is changed at a place -/
theorem Good.mod {F G H : Hp} {o : Option LT} {ls : Ls} {i : Nat} {p : List Nat} {t : LT} {k : Kd} {a dx : Addr} {cs cs' : List (Lab × LT)} (g : Good F G (o :: ls) H) (hi : ls[i]? = some (some t)) (hs : t.sub p = some (.node k a dx cs))
  (hcnt : ∀ b, (LT.adsL cs').count b ≤ (LT.adsL cs).count b + (oads o).count b) (hc : ∀ x ∈ cs', (∃ y ∈ cs, y.2 = x.2) ∨ some x.2 = o ∨ ∃ v d, x.2 = .leaf v d ∧ Dt G v d) :
  Good F G (ls.set i (some (t.put p (.node k a dx cs')))) (upd H a (hoOf k dx (LT.vals cs'))) := by
 have nd1 : ∀ b, (oads o).count b + (adsS ls).count b ≤ 1 := fun b => by
  have h := List.nodup_iff_count.mp g.nd b
  have e : adsS (o :: ls) = oads o ++ adsS ls := rfl
  rw [e, List.count_append] at h
  exact h
 have hti : ∀ b, t.ads.count b ≤ (adsS ls).count b := fun b => ZfG (List.mem_of_getElem? hi)
 have hsub : ∀ b, (k.own a dx).count b + (LT.adsL cs).count b ≤ t.ads.count b := fun b => by
  have := LT.sub_cnt (b := b) hs
  rw [LT.ads, List.count_append] at this
  exact this
 have hput : ∀ b, (t.put p (.node k a dx cs')).ads.count b + (LT.adsL cs).count b = t.ads.count b + (LT.adsL cs').count b := fun b => by
  have := LT.put_cnt (b := b) (s' := .node k a dx cs') hs
  rw [LT.ads_eq, LT.ads_eq, List.count_append, List.count_append] at this
  omega
 have hset : ∀ b, (adsS (ls.set i (some (t.put p (.node k a dx cs'))))).count b + (LT.adsL cs).count b = (adsS ls).count b + (LT.adsL cs').count b := fun b => by
  have h1 := Za6 (b := b) hi (some (t.put p (.node k a dx cs')))
  have h2 := hput b
  have e1 : (oads (some t)).count b = t.ads.count b := rfl
  have e2 : (oads (some (t.put p (.node k a dx cs')))).count b = (t.put p (.node k a dx cs')).ads.count b := rfl
  omega
 have ha1 : 0 < (k.own a dx).count a := ZP.mp LT.mem_own
 have hal : a ∈ adsS (o :: ls) := List.mem_append_right _ (ZP.mpr (by have h1 := hsub a; have h2 := hti a; show 0 < (adsS ls).count a; omega))
 have okt := g.ok t (List.mem_cons_of_mem _ (List.mem_of_getElem? hi))
 obtain ⟨k1, k2, k3⟩ := LT.ok_node.mp (LT.sub_ok hs okt)
 have sub : ∀ b ∈ adsS (ls.set i (some (t.put p (.node k a dx cs')))), b ∈ adsS (o :: ls) := fun b hb => by
  show b ∈ oads o ++ adsS ls
  rw [List.mem_append, ZP, ZP]
  have := ZP.mp hb
  have := hset b
  have := hcnt b
  omega
 -- the other cells
 have far : ∀ (t2 : LT), some t2 ∈ o :: ls → a ∉ t2.ads → t2.ok G (upd H a (hoOf k dx (LT.vals cs'))) := fun t2 h2 hn => LT.ok_heap t2 (fun b hb => upd_ne fun z => hn (z ▸ hb)) (g.ok t2 h2)
 refine ⟨g.fh.mut (g.fn a hal), g.gh.mut (g.gn a hal), List.nodup_iff_count.mpr fun b => ?_, fun b hb => g.gn b (sub b hb), fun b hb => g.fn b (sub b hb), fun t2 ht2 => ?_⟩
 ·have := hset b
  have := hcnt b
  have := nd1 b
  omega
 ·obtain ⟨j, hj⟩ := List.getElem?_of_mem ht2
  rw [List.getElem?_set] at hj
  split at hj
  ·split at hj
   ·cases hj
    refine LT.put_ok (s := .node k a dx cs) hs rfl (fun b => by have := hti b; have := nd1 b; omega) (fun b _ hb => upd_ne fun z => hb (by rw [z]; exact LT.ads_node.mpr (.inl LT.mem_own))) okt ?_
    refine LT.ok_node.mpr ⟨upd_same, ?_, fun x hx => ?_⟩
    ·cases k <;> try trivial
     show upd H a _ dx = some (.own a)
     rw [upd_ne]
     ·exact k2
     ·intro z
      have h1 := hsub a
      have h2 := hti a
      have h3 := nd1 a
      rw [z] at h1
      simp [Kd.own] at h1
      omega
    ·rcases hc x hx with ⟨y, hy, e⟩ | e | ⟨v, d, e, dv⟩
     ·rw [← e]
      refine LT.ok_heap y.2 (fun b hb => upd_ne fun z => ?_) (k3 y hy)
      rw [z] at hb
      have h1 := hsub a
      have h2 := hti a
      have h3 := nd1 a
      have h4 := Zbz (b := a) hy
      have h5 := ZP.mp hb
      omega
     ·refine far x.2 (by rw [e]; exact List.mem_cons_self) fun hb => ?_
      have h1 := hsub a
      have h2 := hti a
      have h3 := nd1 a
      have h5 := ZP.mp hb
      have e3 : (oads o).count a = x.2.ads.count a := by rw [← e]; rfl
      omega
     ·rw [e]
      exact dv
   ·cases hj
  ·rename_i hne
   refine far t2 (List.mem_cons_of_mem _ (List.mem_of_getElem? hj)) fun hb => ?_
   have h0 := Zpw (b := a) hi hj hne
   have h1 := hsub a
   have h3 := nd1 a
   have h5 := ZP.mp hb
   have e1 : (oads (some t)).count a = t.ads.count a := rfl
   have e2 : (oads (some t2)).count a = t2.ads.count a := rfl
   omega
theorem Zil {ls : Ls} {i : Nat} {t s s' : LT} {p : List Nat} (hi : ls[i]? = some (some t)) (hs : t.sub p = some s) (hv : s'.val = s.val) : vals (ls.set i (some (t.put p s'))) = vals ls := by
 rw [ZbF, LT.put_val hs hv]
 unfold vals
 apply List.ext_getElem?
 intro j
 rw [List.getElem?_set]
 split
 ·rename_i z
  subst z
  have := (List.getElem?_eq_some_iff.mp hi).1
  rw [List.length_map, if_pos this, List.getElem?_map, hi]
  rfl
 ·rfl
end Kb
namespace Kb
open PySem L2 Evl
theorem Good.non0 {F G H : Hp} {ls : Ls} (g : Good F G ls H) : Good F G (Option.none :: ls) H := ⟨g.fh, g.gh, g.nd, g.gn, g.fn, fun t ht => by
 rcases List.mem_cons.mp ht with z | z
 ·cases z
 ·exact g.ok t z⟩
theorem Zd0 {ls : Ls} {i : Nat} {k : Kd} {c0 : List (Lab × OT)} (h : (ens ls)[i]? = some (some (.node k c0))) : ∃ a dx cs, ls[i]? = some (some (.node k a dx cs)) ∧ LT.erL cs = c0 ∧ (vals ls)[i]? = some (some (.ref a)) := by
 unfold ens at h
 rw [List.getElem?_map] at h
 obtain ⟨o, ho, h⟩ := Option.map_eq_some_iff.mp h
 cases o with
 | none => cases h
 | some t =>
  cases t with
  | leaf v d => cases h
  | node k' a dx cs =>
   have h : some (OT.node k' (LT.erL cs)) = some (.node k c0) := by rw [← h]; show some _ = some ((LT.node k' a dx cs).er); rw [LT.er]
   cases h
   exact ⟨a, dx, cs, ho, rfl, by unfold vals; rw [List.getElem?_map, ho]; rfl⟩
theorem Good.node_at {F G H : Hp} {ls : Ls} {i : Nat} {k : Kd} {a dx : Addr} {cs : List (Lab × LT)} (g : Good F G ls H) (h : ls[i]? = some (some (.node k a dx cs))) : H a = some (hoOf k dx (LT.vals cs)) ∧ ∀ x ∈ cs, x.2.ok G H :=
 let ⟨h1, _, h3⟩ := LT.ok_node.mp (g.ok _ (List.mem_of_getElem? h))
 ⟨h1, h3⟩
theorem Zdh {F G H : Hp} {o : Option LT} {ls : Ls} {i : Nat} {k : Kd} {a dx : Addr} {cs cs' : List (Lab × LT)} (g : Good F G (o :: ls) H) (hi : ls[i]? = some (some (.node k a dx cs)))
  (hcnt : ∀ b, (LT.adsL cs').count b ≤ (LT.adsL cs).count b + (oads o).count b) (hc : ∀ x ∈ cs', (∃ y ∈ cs, y.2 = x.2) ∨ some x.2 = o ∨ ∃ v d, x.2 = .leaf v d ∧ Dt G v d) :
  ∃ ls', Good F G ls' (upd H a (hoOf k dx (LT.vals cs'))) ∧ ens ls' = (ens ls).set i (some (.node k (LT.erL cs'))) ∧ vals ls' = vals ls := by
 have h := Good.mod (p := []) g hi rfl hcnt hc
 refine ⟨_, h, ?_, Zil (p := []) hi rfl rfl⟩
 rw [ZbQ]
 show (ens ls).set i (some ((LT.node k a dx cs').er)) = _
 rw [LT.er]
theorem Zdd (a b : List (Lab × LT)) : LT.adsL (a ++ b) = LT.adsL a ++ LT.adsL b := by rw [LT.adsL_map, LT.adsL_map, LT.adsL_map, List.flatMap_append]
theorem Zfe (a b : List (Lab × LT)) : LT.erL (a ++ b) = LT.erL a ++ LT.erL b := by rw [LT.erL_map, LT.erL_map, LT.erL_map, List.map_append]
theorem ZaZ (dx : Addr) (cs : List (Lab × LT)) : hoOf .lst dx (LT.vals cs) = .lst (cs.map fun x => x.2.val) := by simp [hoOf, LT.vals, Function.comp_def]
theorem ZbN (cs : List (Lab × LT)) : (LT.erL cs).length = cs.length := by rw [LT.erL_map, List.length_map]
/-- the things of a list of one's own -/
noncomputable def lstAt (en : En) (i : Nat) : Option (List (Lab × OT)) := match en[i]? with
 | some (some (.node .lst cs)) => some cs
 | _ => none
theorem ZiD {en : En} {i : Nat} {cs : List (Lab × OT)} (h : lstAt en i = some cs) : en[i]? = some (some (.node .lst cs)) := by
 unfold lstAt at h
 split at h
 ·cases h; assumption
 ·cases h
theorem Zjk {ls l1 : Ls} (h : vals l1 = vals ls) {i : Nat} {a b : Addr} (ha : (vals ls)[i]? = some (some (.ref a))) (hb : (vals l1)[i]? = some (some (.ref b))) : a = b := by
 rw [h, ha] at hb
 cases hb
 rfl
noncomputable def lenOk (cs : List (Lab × OT)) : Bool := decide (cs.length < 100000)
/-- xs.append(e) -/
noncomputable def sApp (i : Nat) (x : FX) : FS := fun en => (lstAt en i).bind fun _ => bs (x en) fun d e1 => (lstAt e1 i).bind fun cs => if lenOk cs = true then some (.nx, e1.set i (some (.node .lst (cs ++ [(.no, .leaf d)])))) else none
/-- xs.append(e), e kept apart -/
noncomputable def sAppN (i : Nat) (n : FN) : FS := fun en => (lstAt en i).bind fun _ => bs (n en) fun T e1 => (lstAt e1 i).bind fun cs => if lenOk cs = true then some (.nx, e1.set i (some (.node .lst (cs ++ [(.no, T)])))) else none
noncomputable def sExt (i : Nat) (x : FX) : FS := fun en => (lstAt en i).bind fun _ => bs (x en) fun d e1 => (lstAt e1 i).bind fun cs => (asL d).bind fun ds => if cs.length + ds.length ≤ 100000 then some (.nx, e1.set i (some (.node .lst (cs ++ oLeafs ds)))) else none
noncomputable def sPut (i : Nat) (xi xv : FX) : FS := fun en => (lstAt en i).bind fun _ => bs (xv en) fun d e1 => bs (xi e1) fun j e2 => (lstAt e2 i).bind fun cs => (asI j).bind fun j => (ixN cs.length j).bind fun n => some (.nx, e2.set i (some (.node .lst (cs.set n (.no, .leaf d)))))
noncomputable def leafD : OT → Option PyData
 | .leaf d => some d
 | _ => none
noncomputable def sRev (i : Nat) : FS := fun en => (lstAt en i).bind fun cs => some (.nx, en.set i (some (.node .lst cs.reverse)))
section
variable {kp : Nat → Bool} {K : PySem.W.Frag} {w : World} {W : WX} {te ta tb tc ti tv : TE} {a b x xi xv : FX} {n : FN}
theorem ZlS {F G H : Hp} {ls : Ls} {i : Nat} {cs : List (Lab × OT)} (g : Good F G ls H) (h : lstAt (ens ls) i = some cs) : ∃ p dx c, ls[i]? = some (some (.node .lst p dx c)) ∧ LT.erL c = cs ∧ (vals ls)[i]? = some (some (.ref p)) ∧ H p = some (.lst (c.map fun x => x.2.val)) ∧ True ∧ ∀ x ∈ c, x.2.ok G H := by
 obtain ⟨p, dx, c, h1, h2, h3⟩ := Zd0 (ZiD h)
 have h4 := g.node_at h1
 rw [ZaZ] at h4
 exact ⟨p, dx, c, h1, h2, h3, h4.1, trivial, h4.2⟩
theorem ZgP {F G H : Hp} {ls : Ls} {i : Nat} {cs : List (Lab × OT)} (g : Good F G ls H) (h : lstAt (ens ls) i = some cs) : ∃ p dx c, ls[i]? = some (some (.node .lst p dx c)) ∧ LT.erL c = cs ∧ (vals ls)[i]? = some (some (.ref p)) ∧ H p = some (.lst (c.map fun x => x.2.val)) ∧ tyV K "list" (.ref p) H ∧ ∀ x ∈ c, x.2.ok G H := by
 obtain ⟨p, dx, c, h1, h2, h3⟩ := Zd0 (ZiD h)
 have h4 := g.node_at h1
 rw [ZaZ] at h4
 exact ⟨p, dx, c, h1, h2, h3, h4.1, .inl ⟨rfl, _, sq_of h4.1⟩, h4.2⟩
theorem Zp7 {i : Nat} (h : SX W te x) : SS kp W (tDrop (tBM K "list" rAppend (tVar i) (tCons te tNil))) (sApp i x) := ⟨fun {F G ls H o en'} g e D k => by
 obtain ⟨c0, hc0, e⟩ := bnd e
 obtain ⟨p, dx, c, h1, h2, h3, h4, h5, h6⟩ := ZgP (K := K) g hc0
 refine ⟨_, h3, h5, ?_⟩
 rcases ZF e with ⟨d, e1, e2, e3⟩ | ⟨C, e2, rfl⟩
 ·refine h g e2 (fun d' hd' v G1 l1 H1 E1 dv => ?_) (fun C hC => nomatch hC)
  cases hd'
  rw [← E1.en] at e3
  obtain ⟨c1, hc1, e4⟩ := bnd e3
  split at e4
  case isFalse => cases e4
  rename_i hz
  cases e4
  obtain ⟨p', dx', c', q1, q2, q3, q4, _, q6⟩ := ZgP (K := K) E1.gd hc1
  obtain rfl := Zjk E1.vs h3 q3
  have hlen : c'.length < 100000 := by have := of_decide_eq_true hz; rw [← q2, ZbN] at this; exact this
  obtain ⟨l2, g2, en2, v2⟩ := Zdh (cs' := c' ++ [(.no, .leaf v d)]) E1.gd.non0 q1 (fun b => by rw [Zdd, List.count_append]; show _ + ([] ++ LT.adsL []).count b ≤ _; simp [LT.adsL, oads]) (fun y hy => by
   rcases List.mem_append.mp hy with hy | hy
   ·exact .inl ⟨y, hy, rfl⟩
   ·simp at hy; subst hy; exact .inr (.inr ⟨v, d, rfl, dv⟩))
  rw [ZaZ] at g2
  refine ⟨p, _, v, rfl, rfl, q4, sz_lt (by rw [List.length_map]; exact hlen), ?_⟩
  have k2 := k G1 l2 _ (E1.s.trans ⟨g2, Gx.refl, by rw [en2, Zfe, q2]; rfl, .of v2⟩)
  rw [v2, E1.vs] at k2
  rw [List.map_append] at k2
  exact k2
 ·exact h g e2 (fun d hd => nomatch hd) fun C' hC' => by cases hC'; exact k.xc⟩
theorem ZpO {c : List (Lab × LT)} {n : Nat} {v : V} {d : PyData} (b : Addr) : (LT.adsL (c.set n (.no, .leaf v d))).count b ≤ (LT.adsL c).count b := by
 by_cases h : n < c.length
 ·have := ZfY (b := b) (List.getElem?_eq_getElem h) (Lab.no, LT.leaf v d)
  have h7 : (LT.leaf v d).ads.count b = 0 := rfl
  dsimp only at this
  omega
 ·rw [List.set_eq_of_length_le (by omega)]
  exact Nat.le_refl _
theorem ZnJ (c : List (Lab × LT)) (n : Nat) (y : Lab × LT) : LT.erL (c.set n y) = (LT.erL c).set n (y.1, y.2.er) := by rw [LT.erL_map, LT.erL_map, List.map_set]
theorem ZdZ {i : Nat} (hi : SX W ti xi) (hv : SX W te xv) : SS kp W (tAsg te (gSub (tVar i) ti rSetL)) (sPut i xi xv) := ⟨fun {F G ls H o en'} g e D k => by
 obtain ⟨c0, hc0, e⟩ := bnd e
 obtain ⟨p, dx, c, h1, h2, h3, h4, h5, h6⟩ := ZlS g hc0
 rcases ZF e with ⟨d, e1, e2, e3⟩ | ⟨C, e2, rfl⟩
 ·refine hv g e2 (fun d' hd' v G1 l1 H1 E1 dv => ?_) (fun C hC => nomatch hC)
  cases hd'
  rw [← E1.en] at e3
  refine ⟨_, h3, ?_⟩
  show ti (vals ls) H1 _
  rw [← E1.vs]
  rcases ZF e3 with ⟨j, e4, e5, e6⟩ | ⟨C, e5, rfl⟩
  ·refine hi E1.gd e5 (fun d hd v2 G2 l2 H2 E2 dv2 => ?_) (fun C hC => nomatch hC)
   cases hd
   rw [← E2.en] at e6
   obtain ⟨c1, hc1, e7⟩ := bnd e6
   obtain ⟨jj, hjj, e8⟩ := bnd e7
   obtain ⟨nn, hnn, e9⟩ := bnd e8
   cases e9
   obtain rfl := Zga hjj
   obtain rfl := dv2.oi
   obtain ⟨p', dx', c', q1, q2, q3, q4, _, q6⟩ := ZlS E2.gd hc1
   obtain rfl := Zjk (E2.vs.trans E1.vs) h3 q3
   obtain ⟨l3, g3, en3, v3⟩ := Zdh (cs' := c'.set nn (.no, .leaf v d)) E2.gd.non0 q1 (fun b => Nat.le_trans (ZpO b) (Nat.le_add_right _ _)) (fun y hy => by
    rcases List.mem_or_eq_of_mem_set hy with hy | hy
    ·exact .inl ⟨y, hy, rfl⟩
    ·subst hy; exact .inr (.inr ⟨v, d, rfl, dv.up E2.gx.ex⟩))
   rw [ZaZ] at g3
   refine ⟨p, _, jj, nn, rfl, rfl, q4, by rw [List.length_map, ← ZbN, q2]; exact hnn, ?_⟩
   have k2 := k G2 l3 _ ((E1.trans E2).s.trans ⟨g3, Gx.refl, by rw [en3, ZnJ, q2]; rfl, .of v3⟩)
   rw [v3, E2.vs] at k2
   rw [List.map_set] at k2
   rw [E1.vs] at k2 ⊢
   exact k2
  ·exact hi E1.gd e5 (fun d hd => nomatch hd) fun C' hC' => by cases hC'; exact k.xc.at E1
 ·exact hv g e2 (fun d hd => nomatch hd) fun C' hC' => by cases hC'; exact k.xc⟩
theorem Zim {T : OT} {d : PyData} (h : leafD T = some d) : T = .leaf d := by
 cases T <;> simp [leafD] at h
 rw [h]
theorem ZpS {c : List (Lab × LT)} {n : Nat} {x : Lab × OT} {d : PyData} (h : (LT.erL c)[n]? = some x) (hd : leafD x.2 = some d) : ∃ l v, c[n]? = some (l, .leaf v d) := by
 rw [LT.erL_map, List.getElem?_map] at h
 obtain ⟨y, hy, e⟩ := Option.map_eq_some_iff.mp h
 obtain ⟨l, t⟩ := y
 have e2 : t.er = x.2 := by rw [← e]
 have := Zim hd
 rw [this] at e2
 cases t with
 | leaf v d' =>
  have e3 : OT.leaf d' = .leaf d := e2
  cases e3
  exact ⟨l, v, hy⟩
 | node k a dx cs => rw [LT.er] at e2; cases e2
theorem ZrE {i : Nat} : SS kp W (tDrop (tBM0 K "list" rReverse (tVar i))) (sRev i) := ⟨fun {F G ls H o en'} g e D k => by
 obtain ⟨c0, hc0, e⟩ := bnd e
 cases e
 obtain ⟨p, dx, c, h1, h2, h3, h4, h5, h6⟩ := ZgP (K := K) g hc0
 obtain ⟨l2, g2, en2, v2⟩ := Zdh (cs' := c.reverse) g.non0 h1 (fun b => by
  have : (LT.adsL c.reverse).Perm (LT.adsL c) := by rw [LT.adsL_map, LT.adsL_map]; exact List.Perm.flatMap_right _ (List.reverse_perm c)
  rw [this.count_eq]
  exact Nat.le_add_right _ _) (fun y hy => .inl ⟨y, List.mem_reverse.mp hy, rfl⟩)
 rw [ZaZ] at g2
 refine ⟨_, h3, h5, p, _, rfl, rfl, h4, ?_⟩
 have k2 := k G l2 _ ⟨g2, Gx.refl, by rw [en2, LT.erL_map, List.map_reverse, ← LT.erL_map, h2], .of v2⟩
 rw [v2, List.map_reverse] at k2
 exact k2⟩
end
noncomputable def nMove (i : Nat) : FN := fun en => (en[i]?).join.map fun T => (.ok T, en.set i none)
noncomputable def xTell (i : Nat) : FX := fun en => (en[i]?).join.map fun T => (.ok T.data, en.set i (some (.leaf T.data)))
theorem join_some {en : En} {i : Nat} {T : OT} (h : (en[i]?).join = some T) : en[i]? = some (some T) := by
 cases z : en[i]? with
 | none => rw [z] at h; cases h
 | some o => rw [z] at h; cases o with
  | none => cases h
  | some y => cases h; rfl
theorem Good.pull {F G H : Hp} {ls : Ls} {i : Nat} {t : LT} (g : Good F G ls H) (hi : ls[i]? = some (some t)) : Good F G (some t :: ls.set i none) H := by
 have hc : ∀ b, (adsS (some t :: ls.set i none)).count b = (adsS ls).count b := fun b => by
  have h1 := Za6 (b := b) hi none
  show (t.ads ++ adsS (ls.set i none)).count b = _
  rw [List.count_append]
  have e1 : (oads (some t)).count b = t.ads.count b := rfl
  have e2 : (oads none).count b = 0 := rfl
  omega
 have hm : ∀ b, b ∈ adsS (some t :: ls.set i none) → b ∈ adsS ls := fun b hb => by rw [ZP, ← hc b]; exact ZP.mp hb
 refine ⟨g.fh, g.gh, List.nodup_iff_count.mpr fun b => by rw [hc b]; exact List.nodup_iff_count.mp g.nd b, fun b hb => g.gn b (hm b hb), fun b hb => g.fn b (hm b hb), fun t2 ht2 => ?_⟩
 rcases List.mem_cons.mp ht2 with z | z
 ·cases z; exact g.ok t (List.mem_of_getElem? hi)
 ·rcases List.mem_or_eq_of_mem_set z with z | z
  ·exact g.ok t2 z
  ·cases z
/-- return x: x's own thing goes along -/
theorem Zjx {kp : Nat → Bool} {W : WX} {i : Nat} (hi : kp i = false) : SS kp W (tRet (tVar i)) (sRet (nMove i)) := ⟨fun {F G ls H o en'} g e D k => by
 rcases ZF e with ⟨T0, e1, e2, e3⟩ | ⟨C, e2, rfl⟩
 ·cases e3
  obtain ⟨T, hT, e3⟩ := Option.map_eq_some_iff.mp e2
  cases e3
  have hT := join_some hT
  unfold ens at hT
  rw [List.getElem?_map] at hT
  obtain ⟨o, ho, h⟩ := Option.map_eq_some_iff.mp hT
  cases o with
  | none => cases h
  | some t =>
   have h : some t.er = some T0 := h
   cases h
   refine ⟨t.val, by unfold vals; rw [List.getElem?_map, ho]; rfl, ?_⟩
   exact k t G (ls.set i none) H (g.pull ho) Gx.refl (by simp [ens, List.map_set]) (Kept.set hi) rfl
 ·obtain ⟨T, _, e3⟩ := Option.map_eq_some_iff.mp e2
  cases e3⟩
end Kb
namespace Kb
open PySem L2 Evl
noncomputable def start0 (n : Nat) (ts : List OT) : En := ts.map some ++ List.replicate (n - ts.length) none
noncomputable def startL (n : Nat) (ts : List LT) : Ls := ts.map some ++ List.replicate (n - ts.length) none
theorem Zc3 {n : Nat} {ts : List LT} : ens (startL n ts) = start0 n (ts.map LT.er) := by simp [ens, startL, start0, Function.comp_def]
theorem Zbw {N : List Str} {ts : List LT} : vals (startL N.length ts) = L2.start N (ts.map LT.val) := by simp [vals, startL, L2.start, Function.comp_def]
theorem Zr (a b : Ls) : adsS (a ++ b) = adsS a ++ adsS b := by simp [adsS]
theorem ZcG (n : Nat) : adsS (List.replicate n none) = [] := by
 induction n with
 | zero => rfl
 | succ n ih => rw [List.replicate_succ]; show [] ++ adsS (List.replicate n none) = _; rw [ih]; rfl
theorem Good.start {F G H : Hp} {ts : List LT} (g : Good F G (ts.map some) H) (n : Nat) : Good F G (startL n ts) H := by
 have e : adsS (startL n ts) = adsS (ts.map some) := by unfold startL; rw [Zr, ZcG, List.append_nil]
 refine ⟨g.fh, g.gh, by rw [e]; exact g.nd, by rw [e]; exact g.gn, by rw [e]; exact g.fn, fun t ht => ?_⟩
 rcases List.mem_append.mp ht with h | h
 ·exact g.ok t h
 ·have := List.eq_of_mem_replicate h
  cases this
theorem Zb9 {F G H : Hp} (fh : Ex F H) (gh : Ex G H) : ∀ {vs : List V} {ds : List PyData}, DtAll G vs ds → ∃ ts : List LT, Good F G (ts.map some) H ∧ ts.map LT.val = vs ∧ ts.map LT.er = ds.map OT.leaf ∧ adsS (ts.map some) = []
 | _, _, .nil => ⟨[], ⟨fh, gh, List.nodup_nil, fun _ h => (nomatch h), fun _ h => (nomatch h), fun _ h => (nomatch h)⟩, rfl, rfl, rfl⟩
 | _, _, .cons (v := v) (d := d) h r => by
  obtain ⟨ts, g, h1, h2, h3⟩ := Zb9 fh gh r
  refine ⟨.leaf v d :: ts, ZaJ g h, by rw [List.map_cons, h1]; rfl, by rw [List.map_cons, List.map_cons, h2]; rfl, ?_⟩
  show [] ++ adsS (ts.map some) = []
  rw [h3]
  rfl
/-- from the body of a def -/
noncomputable def fnD (np n : Nat) (body : FS) (ds : List PyData) : Option PyData := if ds.length = np then (match body (start0 n (ds.map OT.leaf)) with
 | some (.rt T, _) => some T.data
 | some (.nx, _) => some .none
 | _ => none) else none
noncomputable def freshR : OT → Bool
 | .leaf d => flatD d
 | .node _ _ => true
noncomputable def fnF (np n : Nat) (body : FS) (ds : List PyData) : Option PyData := if ds.length = np then (match body (start0 n (ds.map OT.leaf)) with
 | some (.rt T, _) => if freshR T = true then some T.data else none
 | some (.nx, _) => some .none
 | _ => none) else none
noncomputable def fnX (np n : Nat) (body : FS) (ds : List PyData) : Option (PyData ⊕ Addr) := if ds.length = np then (match body (start0 n (ds.map OT.leaf)) with
 | some (.rt T, _) => some (.inl T.data)
 | some (.nx, _) => some (.inl .none)
 | some (.ex C, _) => some (.inr C)
 | _ => none) else none
theorem ZgW {G G' H H' : Hp} (gx : Gx H G G') (g : Ex G' H') : Ex G' (grow G H H') := fun a o h => by
 cases z : H a with
 | none => rw [Zx z]; exact g a o h
 | some u => rw [Zt z, ← gx.no a u z]; exact h
theorem Z4 {α : Type} {p : Prop} [Decidable p] {o : Option α} {d : α} (h : (if p then o else none) = some d) : p ∧ o = some d := by
 split at h
 ·exact ⟨by assumption, h⟩
 ·cases h
section
variable {kp : Nat → Bool} {W : WX} {t : TS} {s : FS} {N : List Str} {np : Nat} {vs : List V} {G H : Hp} {ds : List PyData} {Q : VK}
theorem Zdg {d : PyData} (hs : SS kp (fun _ _ _ _ => False) t s) (gh : Ex G H) (dv : DtAll G vs ds) (hd : fnD np N.length s ds = some d) (q : ∀ x H2, Ex H H2 → Dt (grow G H H2) x d → Q x H2) : t { nx := fun _ H' => Q .non H', rt := Q } (L2.start N vs) H := by
 obtain ⟨_, hd⟩ := Z4 hd
 obtain ⟨ts, g, rfl, h2, _⟩ := Zb9 (Ex.refl H) gh dv
 rw [← Zbw]
 rw [← h2, ← Zc3] at hd
 cases z : s (ens (startL N.length ts)) with
 | none => rw [z] at hd; cases hd
 | some r =>
  obtain ⟨o, en'⟩ := r
  rw [z] at hd
  refine hs (g.start _) z ?_
  cases o with
  | nx => cases hd; exact fun G' ls' H' E => q .non H' E.gd.fh .non
  | rt T0 =>
   cases hd
   refine fun T G' ls' H' g' gx _ _ hT => q T.val H' g'.fh ?_
   obtain ⟨g2, gx2, dt⟩ := g'.freeze
   rw [← hT]
   exact dt.up (ZgW (gx.trans gx2) g2.gh)
  | bk => cases hd
  | ct => cases hd
  | ex C => cases hd
theorem ZoR {F G' H' : Hp} {ls : Ls} {T : LT} (g : Good F G' (some T :: ls) H') (h : freshR T.er = true) : Fr F T.val := by
 cases T with
 | leaf v d =>
  have h : flatD d = true := h
  have dt : Dt G' v d := g.ok _ List.mem_cons_self
  rw [show (LT.leaf v d).val = v from rfl, Zcl dt h]
  exact ZC fun p z => by cases d <;> first | cases z | cases h
 | node k a dx cs => exact Za9 (g.fn a (List.mem_append_left _ (LT.ads_node.mpr (.inl LT.mem_own))))
theorem ZkK {d : PyData} (hs : SS kp (fun _ _ _ _ => False) t s) (gh : Ex G H) (dv : DtAll G vs ds) (hd : fnF np N.length s ds = some d) (q : ∀ x H2, Ex H H2 → Fr H x → Dt (grow G H H2) x d → Q x H2) : t { nx := fun _ H' => Q .non H', rt := Q } (L2.start N vs) H := by
 obtain ⟨_, hd⟩ := Z4 hd
 obtain ⟨ts, g, rfl, h2, _⟩ := Zb9 (Ex.refl H) gh dv
 rw [← Zbw]
 rw [← h2, ← Zc3] at hd
 cases z : s (ens (startL N.length ts)) with
 | none => rw [z] at hd; cases hd
 | some r =>
  obtain ⟨o, en'⟩ := r
  rw [z] at hd
  refine hs (g.start _) z ?_
  cases o with
  | nx => cases hd; exact fun G' ls' H' E => q .non H' E.gd.fh (ZC fun _ z => nomatch z) .non
  | rt T0 =>
   obtain ⟨hf, hd⟩ := Z4 hd
   cases hd
   refine fun T G' ls' H' g' gx _ _ hT => q T.val H' g'.fh (ZoR g' (by rw [hT]; exact hf)) ?_
   obtain ⟨g2, gx2, dt⟩ := g'.freeze
   rw [← hT]
   exact dt.up (ZgW (gx.trans gx2) g2.gh)
  | bk => cases hd
  | ct => cases hd
  | ex C => cases hd
theorem Znr {o : PyData ⊕ Addr} {E : XK} (hs : SS kp (fun cls d _ H => E cls d H) t s) (gh : Ex G H) (dv : DtAll G vs ds) (hd : fnX np N.length s ds = some o) (q1 : ∀ d, o = .inl d → ∀ x H2, Ex H H2 → Dt (grow G H H2) x d → Q x H2) (q2 : ∀ C, o = .inr C → ∀ H2, Ex H H2 → E (.ref C) none H2) : t { nx := fun _ H' => Q .non H', rt := Q } (L2.start N vs) H := by
 obtain ⟨_, hd⟩ := Z4 hd
 obtain ⟨ts, g, rfl, h2, _⟩ := Zb9 (Ex.refl H) gh dv
 rw [← Zbw]
 rw [← h2, ← Zc3] at hd
 cases z : s (ens (startL N.length ts)) with
 | none => rw [z] at hd; cases hd
 | some r =>
  obtain ⟨o, en'⟩ := r
  rw [z] at hd
  refine hs (g.start _) z ?_
  cases o with
  | nx => cases hd; exact fun G' ls' H' E => q1 _ rfl .non H' E.gd.fh .non
  | rt T0 =>
   cases hd
   refine fun T G' ls' H' g' gx _ _ hT => q1 _ rfl T.val H' g'.fh ?_
   obtain ⟨g2, gx2, dt⟩ := g'.freeze
   rw [← hT]
   exact dt.up (ZgW (gx.trans gx2) g2.gh)
  | bk => cases hd
  | ct => cases hd
  | ex C => cases hd; exact fun G' ls' H' E => q2 _ rfl H' E.gd.fh
end
noncomputable abbrev FD := List OT → Option (Rx OT × List OT)
noncomputable def ISp (fd : FD) : Sp := fun vs H Q E => ∃ (F G : Hp) (ts : List LT) (r : Rx OT) (as : List OT), vs = ts.map LT.val ∧ Good F G (ts.map some) H ∧ fd (ts.map LT.er) = some (r, as) ∧
 (∀ T0, r = .ok T0 → ∀ (T : LT) (G' : Hp) (ts' : List LT) (H' : Hp), Good F G' (some T :: ts'.map some) H' → Gx F G G' → ts'.map LT.er = as → ts'.map LT.val = vs → T.er = T0 → Q T.val H') ∧
 (∀ C, r = .ex C → ∀ (G' : Hp) (ts' : List LT) (H' : Hp), Good F G' (ts'.map some) H' → Gx F G G' → ts'.map LT.er = as → ts'.map LT.val = vs → E (.ref C) none H')
/-- what the handed things are at the end -/
noncomputable def takeA : (Nat → Bool) → List OT → En → Option (List OT)
 | _, [], _ => some []
 | kp, T :: r, o :: en => if kp 0 = true then o.bind fun T' => (takeA (fun i => kp (i + 1)) r en).map (T' :: ·) else (match T with
  | .leaf d => (takeA (fun i => kp (i + 1)) r en).map (.leaf d :: ·)
  | _ => none)
 | _, _ :: _, [] => none
noncomputable def fnI (np n : Nat) (kp : Nat → Bool) (body : FS) : FD := fun as => if as.length = np then (match body (start0 n as) with
 | some (.rt T, en') => (takeA kp as en').map fun as' => (.ok T, as')
 | some (.nx, en') => (takeA kp as en').map fun as' => (.ok (.leaf .none), as')
 | some (.ex C, en') => (takeA kp as en').map fun as' => (.ex C, as')
 | _ => none) else none
theorem ZdX {G G' H H' : Hp} (gg : Ex G G') : ∀ {ts : List LT} {l' : Ls} {kp : Nat → Bool} {as : List OT}, takeA kp (ts.map LT.er) (ens l') = some as → (∀ i t, ts[i]? = some t → kp i = true → (vals l')[i]? = some (some t.val)) → (∀ t ∈ ts, t.ok G H) → (∀ t, some t ∈ l' → t.ok G' H') →
  ∃ ts' : List LT, ts'.map LT.er = as ∧ ts'.map LT.val = ts.map LT.val ∧ (∀ b, (adsS (ts'.map some)).count b ≤ (adsS l').count b) ∧ ∀ t ∈ ts', t.ok G' H'
 | [], l', kp, as, h, _, _, _ => by
  unfold takeA at h
  cases h
  exact ⟨[], rfl, rfl, fun b => Nat.zero_le _, fun _ h => (nomatch h)⟩
 | t :: ts, [], kp, as, h, _, _, _ => by cases h
 | t :: ts, o :: l', kp, as, h, hk, ho, hl => by
  have h : (if kp 0 = true then (o.map LT.er).bind (fun T' => (takeA (fun i => kp (i + 1)) (ts.map LT.er) (ens l')).map (T' :: ·)) else (match t.er with
   | .leaf d => (takeA (fun i => kp (i + 1)) (ts.map LT.er) (ens l')).map (.leaf d :: ·)
   | _ => none)) = some as := h
  split at h
  ·rename_i hkp
   obtain ⟨T', hT', h2⟩ := bnd h
   obtain ⟨as2, h3, rfl⟩ := Option.map_eq_some_iff.mp h2
   obtain ⟨ts', q1, q2, q3, q4⟩ := ZdX gg h3 (fun i t' hi hki => hk (i + 1) t' (by simpa using hi) hki) (fun x hx => ho x (List.mem_cons_of_mem _ hx)) (fun x hx => hl x (List.mem_cons_of_mem _ hx))
   obtain ⟨t', rfl, rfl⟩ := Option.map_eq_some_iff.mp hT'
   have hv : t'.val = t.val := by
    have := hk 0 t rfl hkp
    have : some (some t'.val) = some (some t.val) := this
    exact Option.some.inj (Option.some.inj this)
   refine ⟨t' :: ts', by rw [List.map_cons, q1], by rw [List.map_cons, List.map_cons, q2, hv], fun b => ?_, fun x hx => ?_⟩
   ·show (t'.ads ++ adsS (ts'.map some)).count b ≤ (t'.ads ++ adsS l').count b
    rw [List.count_append, List.count_append]
    have := q3 b
    omega
   ·rcases List.mem_cons.mp hx with rfl | hx
    ·exact hl _ List.mem_cons_self
    ·exact q4 x hx
  ·split at h
   ·rename_i d hd
    obtain ⟨as2, h3, rfl⟩ := Option.map_eq_some_iff.mp h
    obtain ⟨ts', q1, q2, q3, q4⟩ := ZdX gg h3 (fun i t' hi hki => hk (i + 1) t' (by simpa using hi) hki) (fun x hx => ho x (List.mem_cons_of_mem _ hx)) (fun x hx => hl x (List.mem_cons_of_mem _ hx))
    cases t with
    | leaf v d' =>
     have hd : OT.leaf d' = .leaf d := hd
     cases hd
     refine ⟨.leaf v d :: ts', by rw [List.map_cons, q1]; rfl, by rw [List.map_cons, List.map_cons, q2], fun b => ?_, fun x hx => ?_⟩
     ·show ([] ++ adsS (ts'.map some)).count b ≤ (oads o ++ adsS l').count b
      rw [List.nil_append, List.count_append]
      have := q3 b
      omega
     ·rcases List.mem_cons.mp hx with rfl | hx
      ·exact Dt.up (show Dt G v d from ho _ List.mem_cons_self) gg
      ·exact q4 x hx
    | node k a dx cs => rw [LT.er] at hd; cases hd
   ·cases h
theorem Good.pick {F G H : Hp} {l l2 : Ls} (g : Good F G l H) (hc : ∀ b, (adsS l2).count b ≤ (adsS l).count b) (hk : ∀ t, some t ∈ l2 → t.ok G H) : Good F G l2 H :=
 g.sub (List.nodup_iff_count.mpr fun b => Nat.le_trans (hc b) (List.nodup_iff_count.mp g.nd b)) (fun a ha => ZP.mpr (Nat.lt_of_lt_of_le (ZP.mp ha) (hc a))) hk
theorem Zac {kp : Nat → Bool} {t : TS} {s : FS} {N : List Str} {np : Nat} {vs : List V} {H : Hp} {Q : VK} {E : XK} (hs : SS kp (fun cls d _ H => E cls d H) t s) (h : ISp (fnI np N.length kp s) vs H Q E) : t { nx := fun _ H' => Q .non H', rt := Q } (L2.start N vs) H := by
 obtain ⟨F, G, ts, r, as, rfl, g, hd, q1, q2⟩ := h
 obtain ⟨hlen, hd⟩ := Z4 hd
 rw [← Zbw]
 rw [← Zc3] at hd
 have hok0 : ∀ t ∈ ts, t.ok G H := fun t ht => g.ok t (List.mem_map.mpr ⟨t, ht, rfl⟩)
 have hkt : ∀ {ls' : Ls}, Kept kp (startL N.length ts) ls' → ∀ i t, ts[i]? = some t → kp i = true → (vals ls')[i]? = some (some t.val) := fun hK i t hi hk => by
  rw [hK.at' i hk, Zbw]
  unfold L2.start
  rw [List.getElem?_append_left (by rw [List.length_map, List.length_map]; exact (List.getElem?_eq_some_iff.mp hi).1), List.getElem?_map, List.getElem?_map, hi]
  rfl
 cases z : s (ens (startL N.length ts)) with
 | none => rw [z] at hd; cases hd
 | some rr =>
  obtain ⟨o, en'⟩ := rr
  rw [z] at hd
  refine hs (g.start _) z ?_
  cases o with
  | nx =>
   obtain ⟨as', h3, h4⟩ := Option.map_eq_some_iff.mp hd
   cases h4
   intro G' ls' H' E1
   rw [← E1.en] at h3
   obtain ⟨ts', r1, r2, r3, r4⟩ := ZdX E1.gx.ex h3 (hkt E1.kt) hok0 E1.gd.ok
   exact q1 _ rfl (.leaf .non .none) G' ts' H' (ZaJ (E1.gd.pick r3 fun t ht => by obtain ⟨t', ht', e⟩ := List.mem_map.mp ht; cases e; exact r4 _ ht') .non) E1.gx r1 r2 rfl
  | rt T0 =>
   obtain ⟨as', h3, h4⟩ := Option.map_eq_some_iff.mp hd
   cases h4
   intro T G' ls' H' g' gx he hK hT
   rw [← he] at h3
   obtain ⟨ts', r1, r2, r3, r4⟩ := ZdX gx.ex h3 (hkt hK) hok0 fun t ht => g'.ok t (List.mem_cons_of_mem _ ht)
   refine q1 _ rfl T G' ts' H' (g'.pick (fun b => ?_) fun t ht => ?_) gx r1 r2 hT
   ·show (T.ads ++ adsS (ts'.map some)).count b ≤ (T.ads ++ adsS ls').count b
    rw [List.count_append, List.count_append]
    have := r3 b
    omega
   ·rcases List.mem_cons.mp ht with e | ht
    ·cases e; exact g'.ok _ List.mem_cons_self
    ·obtain ⟨t', ht', e⟩ := List.mem_map.mp ht
     cases e
     exact r4 _ ht'
  | bk => cases hd
  | ct => cases hd
  | ex C =>
   obtain ⟨as', h3, h4⟩ := Option.map_eq_some_iff.mp hd
   cases h4
   intro G' ls' H' E1
   rw [← E1.en] at h3
   obtain ⟨ts', r1, r2, r3, r4⟩ := ZdX E1.gx.ex h3 (hkt E1.kt) hok0 E1.gd.ok
   exact q2 _ rfl G' ts' H' (E1.gd.pick r3 fun t ht => by obtain ⟨t', ht', e⟩ := List.mem_map.mp ht; cases e; exact r4 _ ht') E1.gx r1 r2
theorem ISp.len {np n : Nat} {kp : Nat → Bool} {s : FS} {vs : List V} {H : Hp} {Q : VK} {E : XK} (h : ISp (fnI np n kp s) vs H Q E) : vs.length = np := by
 obtain ⟨F, G, ts, r, as, rfl, g, hd, _⟩ := h
 obtain ⟨hlen, _⟩ := Z4 hd
 rw [List.length_map] at hlen ⊢
 exact hlen
noncomputable def pullE : List Nat → En → Option (List OT × En)
 | [], en => some ([], en)
 | i :: is, en => ((en[i]?).join).bind fun T => (pullE is (en.set i none)).map fun r => (T :: r.1, r.2)
noncomputable def putE : List Nat → List OT → En → En
 | i :: is, T :: Ts, en => (putE is Ts en).set i (some T)
 | _, _, en => en
noncomputable def TAo : List Nat → TA → TA
 | [], t => t
 | i :: is, t => tCons (tVar i) (TAo is t)
noncomputable def nCallI (fd : FD) (is : List Nat) (args : FA) : FN := fun en => (pullE is en).bind fun _ => bx (args en) fun ds e1 => (pullE is e1).bind fun r => (fd (r.1 ++ ds.map OT.leaf)).bind fun q => match q.1 with
 | .ok T => some (.ok T, putE is q.2 r.2)
 | .ex C => some (.ex C, putE is q.2 r.2)
/-- the frame and what is left behind -/
noncomputable def fadd (F H : Hp) (as : List Addr) : Hp := fun a => if a ∈ as then H a else F a
theorem Good.split {F G H : Hp} {A B : Ls} (g : Good F G (A ++ B) H) : Good (fadd F H (adsS B)) G A H := by
 have hnd : ∀ b, (adsS A).count b + (adsS B).count b ≤ 1 := fun b => by
  have := List.nodup_iff_count.mp g.nd b
  rw [Zr, List.count_append] at this
  exact this
 refine ⟨fun a o h => ?_, g.gh, List.nodup_iff_count.mpr fun b => by have := hnd b; omega, fun a ha => g.gn a (by rw [Zr]; exact List.mem_append_left _ ha), fun a ha => ?_, fun t ht => g.ok t (List.mem_append_left _ ht)⟩
 ·unfold fadd at h
  split at h
  ·exact h
  ·exact g.fh a o h
 ·unfold fadd
  rw [if_neg fun z => by have := hnd a; have h1 := ZP.mp ha; have h2 := ZP.mp z; omega]
  exact g.fn a (by rw [Zr]; exact List.mem_append_left _ ha)
theorem Good.merge {F G G' H H' : Hp} {A B A' : Ls} (g : Good F G (A ++ B) H) (g' : Good (fadd F H (adsS B)) G' A' H') (gx : Gx (fadd F H (adsS B)) G G') : Good F G' (A' ++ B) H' ∧ Gx F G G' := by
 have hB : ∀ a ∈ adsS B, a ∈ adsS (A ++ B) := fun a ha => by rw [Zr]; exact List.mem_append_right _ ha
 have hBs : ∀ a ∈ adsS B, ∃ o, H a = some o ∧ fadd F H (adsS B) a = some o := fun a ha => by
  obtain ⟨o, ho⟩ := g.has (hB a ha)
  exact ⟨o, ho, by unfold fadd; rw [if_pos ha]; exact ho⟩
 have hF : ∀ a o, F a = some o → fadd F H (adsS B) a = some o := fun a o h => by
  unfold fadd
  rw [if_neg fun z => by rw [g.fn a (hB a z)] at h; cases h]
  exact h
 have hndB : ∀ b, (adsS B).count b ≤ 1 := fun b => by
  have := List.nodup_iff_count.mp g.nd b
  rw [Zr, List.count_append] at this
  omega
 refine ⟨⟨fun a o h => g'.fh a o (hF a o h), g'.gh, List.nodup_iff_count.mpr fun b => ?_, fun a ha => ?_, fun a ha => ?_, fun t ht => ?_⟩, gx.ex, fun a o h => gx.no a o (hF a o h)⟩
 ·rw [Zr, List.count_append]
  by_cases z : b ∈ adsS B
  ·have : (adsS A').count b = 0 := by
    rw [List.count_eq_zero]
    intro hb
    obtain ⟨o, _, h2⟩ := hBs b z
    rw [g'.fn b hb] at h2
    cases h2
   have := hndB b
   omega
  ·rw [List.count_eq_zero.mpr z]
   exact List.nodup_iff_count.mp g'.nd b
 ·rw [Zr] at ha
  rcases List.mem_append.mp ha with ha | ha
  ·exact g'.gn a ha
  ·obtain ⟨o, _, h2⟩ := hBs a ha
   rw [gx.no a o h2]
   exact g.gn a (hB a ha)
 ·rw [Zr] at ha
  rcases List.mem_append.mp ha with ha | ha
  ·have := g'.fn a ha
   unfold fadd at this
   split at this
   ·rename_i z
    obtain ⟨o, h1, _⟩ := hBs a z
    rw [this] at h1
    cases h1
   ·exact this
  ·exact g.fn a (hB a ha)
 ·rcases List.mem_append.mp ht with ht | ht
  ·exact g'.ok t ht
  ·refine LT.ok_mono gx.ex t (LT.ok_heap t (fun a ha => ?_) (g.ok t (List.mem_append_right _ ht)))
   obtain ⟨o, h1, h2⟩ := hBs a (ZaM.mpr ⟨t, ht, ha⟩)
   rw [h1, g'.fh a o h2]
noncomputable def AtV (σ : L2.St) : List Nat → List V → Prop
 | [], [] => True
 | i :: is, v :: vs => σ[i]? = some (some v) ∧ AtV σ is vs
 | _, _ => False
theorem AtV.back {σ : L2.St} {j : Nat} : ∀ {is : List Nat} {vs : List V}, AtV (σ.set j none) is vs → AtV σ is vs
 | [], [], h => h
 | i :: is, v :: vs, h => ⟨by
   have := h.1
   rw [List.getElem?_set] at this
   split at this
   ·split at this <;> cases this
   ·exact this, h.2.back⟩
 | [], _ :: _, h => h.elim
 | _ :: _, [], h => h.elim
theorem Zfb {σ : L2.St} {H : Hp} {t : TA} : ∀ {is : List Nat} {vs : List V} {Q : List V → Hp → Prop}, AtV σ is vs → t σ H (fun us H1 => Q (vs ++ us) H1) → TAo is t σ H Q
 | [], [], Q, _, h => h
 | i :: is, v :: vs, Q, a, h => ⟨v, a.1, Zfb a.2 h⟩
 | [], _ :: _, Q, a, h => a.elim
 | _ :: _, [], Q, a, h => a.elim
theorem Zfh {F G H : Hp} : ∀ {is : List Nat} {A ls : Ls} {Ts : List OT} {e2 : En}, Good F G (A ++ ls) H → pullE is (ens ls) = some (Ts, e2) → ∃ (ts : List LT) (l2 : Ls), ts.map LT.er = Ts ∧ ens l2 = e2 ∧ Good F G (A ++ (ts.map some ++ l2)) H ∧ AtV (vals ls) is (ts.map LT.val) ∧
  ∀ ts' : List LT, ts'.map LT.val = ts.map LT.val → ∀ {A' : Ls} {G' H' : Hp}, Good F G' (A' ++ (ts'.map some ++ l2)) H' → ∃ l3, Good F G' (A' ++ l3) H' ∧ ens l3 = putE is (ts'.map LT.er) e2 ∧ vals l3 = vals ls
 | [], A, ls, Ts, e2, g, h => by
  cases h
  refine ⟨[], ls, rfl, rfl, g, trivial, fun ts' hts A' G' H' g' => ?_⟩
  cases ts' with
  | nil => exact ⟨ls, g', rfl, rfl⟩
  | cons a b => simp at hts
 | i :: is, A, ls, Ts, e2, g, h => by
  obtain ⟨T, hT, h2⟩ := bnd h
  obtain ⟨r, hr, h3⟩ := Option.map_eq_some_iff.mp h2
  cases h3
  have hT := join_some hT
  unfold ens at hT
  rw [List.getElem?_map] at hT
  obtain ⟨o, ho, hh⟩ := Option.map_eq_some_iff.mp hT
  cases o with
  | none => cases hh
  | some t0 =>
   have hh : some t0.er = some T := hh
   cases hh
   have hcnt : ∀ b, (adsS (ls.set i none)).count b + t0.ads.count b = (adsS ls).count b := fun b => by
    have := Za6 (b := b) ho none
    have e1 : (oads (some t0)).count b = t0.ads.count b := rfl
    have e2 : (oads none).count b = 0 := rfl
    omega
   have g1 : Good F G ((A ++ [some t0]) ++ ls.set i none) H := by
    refine g.pick (fun b => ?_) fun t ht => ?_
    ·rw [Zr, Zr, Zr, List.count_append, List.count_append, List.count_append]
     have h0 : (adsS [some t0]).count b = t0.ads.count b := by show (t0.ads ++ []).count b = _; rw [List.append_nil]
     have := hcnt b
     omega
    ·rcases List.mem_append.mp ht with ht | ht
     ·rcases List.mem_append.mp ht with ht | ht
      ·exact g.ok t (List.mem_append_left _ ht)
      ·simp at ht; subst ht; exact g.ok _ (List.mem_append_right _ (List.mem_of_getElem? ho))
     ·rcases List.mem_or_eq_of_mem_set ht with ht | ht
      ·exact g.ok t (List.mem_append_right _ ht)
      ·cases ht
   have er : ens (ls.set i none) = (ens ls).set i none := by simp [ens, List.map_set]
   have vr : vals (ls.set i none) = (vals ls).set i none := by simp [vals, List.map_set]
   rw [← er] at hr
   obtain ⟨ts, l2, q1, q2, q3, q4, q5⟩ := Zfh g1 hr
   have hvi : (vals ls)[i]? = some (some t0.val) := by unfold vals; rw [List.getElem?_map, ho]; rfl
   refine ⟨t0 :: ts, l2, by rw [List.map_cons, q1], q2, by rw [List.append_assoc] at q3; exact q3, ⟨hvi, (by rw [vr] at q4; exact q4.back)⟩, fun ts' hts A' G' H' g' => ?_⟩
   cases ts' with
   | nil => simp at hts
   | cons t' ts' =>
    simp only [List.map_cons, List.cons.injEq] at hts
    obtain ⟨l3, g3, en3, v3⟩ := q5 ts' hts.2 (A' := A' ++ [some t']) (G' := G') (H' := H') (by rw [List.append_assoc]; exact g')
    have hi3 : l3[i]? = some none := by
     have h1 : (vals l3)[i]? = some none := by
      rw [v3, vr, List.getElem?_set, if_pos rfl, ZH, if_pos (List.getElem?_eq_some_iff.mp ho).1]
     unfold vals at h1
     rw [List.getElem?_map] at h1
     obtain ⟨o, ho3, ho4⟩ := Option.map_eq_some_iff.mp h1
     cases o with
     | none => exact ho3
     | some z => cases ho4
    refine ⟨l3.set i (some t'), g3.pick (fun b => ?_) fun t ht => ?_, by rw [ZbQ, en3]; rfl, ?_⟩
    ·have h1 := Za6 (b := b) hi3 (some t')
     have h0 : (adsS [some t']).count b = t'.ads.count b := by show (t'.ads ++ []).count b = _; rw [List.append_nil]
     have e1 : (oads (some t')).count b = t'.ads.count b := rfl
     have e2 : (oads none).count b = 0 := rfl
     rw [Zr, Zr, Zr, List.count_append, List.count_append, List.count_append]
     omega
    ·rcases List.mem_append.mp ht with ht | ht
     ·exact g3.ok t (List.mem_append_left _ (List.mem_append_left _ ht))
     ·rcases List.mem_or_eq_of_mem_set ht with ht | ht
      ·exact g3.ok t (List.mem_append_right _ ht)
      ·exact g3.ok t (List.mem_append_left _ (List.mem_append_right _ (by rw [ht]; exact List.mem_cons_self)))
    ·rw [ZbF, v3, vr, List.set_set, hts.1]
     apply List.ext_getElem?
     intro j
     rw [List.getElem?_set]
     split
     ·rename_i z
      subst z
      rw [ZH, if_pos (List.getElem?_eq_some_iff.mp ho).1, hvi]
     ·rfl
section
variable {W : WX} {ta : TA} {args : FA} {fd : FD}
/-- the heart of a call -/
theorem Zh7 {F G H : Hp} {ls : Ls} {ds : List PyData} {vs : List V} {is : List Nat} {r : Rx OT} {en' : En} {Q : VK} {E : XK} (g : Good F G ls H) (dv : DtAll G vs ds)
  (h : ((pullE is (ens ls)).bind fun r => (fd (r.1 ++ ds.map OT.leaf)).bind fun q => match q.1 with | .ok T => some (Rx.ok T, putE is q.2 r.2) | .ex C => some (.ex C, putE is q.2 r.2)) = some (r, en'))
  (hfd : ∀ as r bs, fd as = some (r, bs) → bs.length = as.length)
  (k : ∀ T0, r = .ok T0 → ∀ T G' ls' H', Good F G' (some T :: ls') H' → Gx F G G' → ens ls' = en' → vals ls' = vals ls → T.er = T0 → Q T.val H') (kx : ∀ C, r = .ex C → ∀ G' ls' H', End F G ls G' ls' H' en' → E (.ref C) none H') :
  ∃ us, AtV (vals ls) is us ∧ ISp fd (us ++ vs) H Q E := by
 obtain ⟨⟨Ts, e2⟩, hp, h2⟩ := bnd h
 obtain ⟨⟨r1, as⟩, hf, h3⟩ := bnd h2
 dsimp only at hf h3
 obtain ⟨ts, l2, q1, q2, q3, q4, q5⟩ := Zfh (A := []) g hp
 have q3 : Good F G (ts.map some ++ l2) H := q3
 obtain ⟨td, gd, d1, d2, d3⟩ := Zb9 g.fh g.gh dv
 refine ⟨ts.map LT.val, q4, ?_⟩
 have g0 : Good F G ((ts ++ td).map some ++ l2) H := by
  refine q3.pick (fun b => ?_) fun t ht => ?_
  ·rw [List.map_append, Zr, Zr, d3, List.append_nil, ← Zr]
   exact Nat.le_refl _
  ·rcases List.mem_append.mp ht with ht | ht
   ·rw [List.map_append] at ht
    rcases List.mem_append.mp ht with ht | ht
    ·exact q3.ok t (List.mem_append_left _ ht)
    ·exact gd.ok t ht
   ·exact q3.ok t (List.mem_append_right _ ht)
 have hlen := hfd _ _ _ hf
 have back : ∀ {A' : Ls} {ts' : List LT} {G' H' : Hp}, ts'.map LT.er = as → ts'.map LT.val = ts.map LT.val ++ vs → Good F G' (A' ++ (ts'.map some ++ l2)) H' → ∃ l3, Good F G' (A' ++ l3) H' ∧ ens l3 = putE is as e2 ∧ vals l3 = vals ls := fun {A' ts' G' H'} h1 h2 g' => by
  have hl : ts.length ≤ ts'.length := by
   have := congrArg List.length h2
   simp at this
   omega
  have e1 : (ts'.take ts.length).map LT.val = ts.map LT.val := by
   rw [List.map_take, h2]
   have : (ts.map LT.val).length = ts.length := by simp
   rw [← this, List.take_left']
   rfl
  obtain ⟨l3, g3, en3, v3⟩ := q5 (ts'.take ts.length) e1 (A' := A') (G' := G') (H' := H') (g'.pick (fun b => by
   rw [Zr, Zr, Zr, Zr, List.count_append, List.count_append, List.count_append, List.count_append]
   have : (adsS ((ts'.take ts.length).map some)).count b ≤ (adsS (ts'.map some)).count b := by
    conv => rhs; rw [← List.take_append_drop ts.length ts']
    rw [List.map_append, Zr, List.count_append]
    exact Nat.le_add_right _ _
   omega) fun t ht => by
    rcases List.mem_append.mp ht with ht | ht
    ·exact g'.ok t (List.mem_append_left _ ht)
    ·rcases List.mem_append.mp ht with ht | ht
     ·obtain ⟨t', ht', e⟩ := List.mem_map.mp ht
      cases e
      exact g'.ok _ (List.mem_append_right _ (List.mem_append_left _ (List.mem_map.mpr ⟨_, List.mem_of_mem_take ht', rfl⟩)))
     ·exact g'.ok t (List.mem_append_right _ (List.mem_append_right _ ht)))
  refine ⟨l3, g3, ?_, v3⟩
  rw [en3, List.map_take, h1]
  -- putE looks at the first things alone
  have key : ∀ (is : List Nat) (n : Nat) (as : List OT) (e : En), is.length = n → putE is (as.take n) e = putE is as e := by
   intro is
   induction is with
   | nil => intro n as e h; subst h; cases as <;> rfl
   | cons i is ih =>
    intro n as e h
    cases n with
    | zero => simp at h
    | succ n =>
     cases as with
     | nil => rfl
     | cons a as =>
      show (putE is (as.take n) e).set i (some a) = _
      rw [ih n as e (by simpa using h)]
      rfl
  have hi : is.length = ts.length := by
   have key2 : ∀ (σ : L2.St) (is : List Nat) (us : List V), AtV σ is us → is.length = us.length := by
    intro σ is
    induction is with
    | nil => intro us h; cases us with
     | nil => rfl
     | cons a b => exact h.elim
    | cons i is ih => intro us h; cases us with
     | nil => exact h.elim
     | cons a b => rw [List.length_cons, List.length_cons, ih b h.2]
   have := key2 _ _ _ q4
   rw [List.length_map] at this
   exact this
  exact key is ts.length as e2 hi
 refine ⟨fadd F H (adsS l2), G, ts ++ td, r1, as, by rw [List.map_append, d1], g0.split, by rw [List.map_append, q1, d2]; exact hf, fun T0 hT0 T G' ts' H' g' gx b1 b2 hT => ?_, fun C hC G' ts' H' g' gx b1 b2 => ?_⟩
 ·subst hT0
  cases h3
  obtain ⟨gm, gxm⟩ := g0.merge g' gx
  obtain ⟨l3, g3, en3, v3⟩ := back (A' := [some T]) b1 b2 gm
  exact k T0 rfl T G' l3 H' g3 gxm en3 v3 hT
 ·subst hC
  cases h3
  obtain ⟨gm, gxm⟩ := g0.merge g' gx
  obtain ⟨l3, g3, en3, v3⟩ := back (A' := []) b1 b2 gm
  exact kx C rfl G' l3 H' ⟨g3, gxm, en3, v3⟩
theorem Ze9 : ∀ {kp : Nat → Bool} {as : List OT} {en : En} {bs : List OT}, takeA kp as en = some bs → bs.length = as.length
 | _, [], _, _, h => by unfold takeA at h; cases h; rfl
 | kp, T :: r, [], _, h => by cases h
 | kp, T :: r, o :: en, bs, h => by
  unfold takeA at h
  split at h
  ·obtain ⟨T', _, h2⟩ := bnd h
   obtain ⟨bs2, h3, rfl⟩ := Option.map_eq_some_iff.mp h2
   rw [List.length_cons, List.length_cons, Ze9 h3]
  ·split at h
   ·obtain ⟨bs2, h3, rfl⟩ := Option.map_eq_some_iff.mp h
    rw [List.length_cons, List.length_cons, Ze9 h3]
   ·cases h
theorem Zi {np n : Nat} {kp : Nat → Bool} {s : FS} : ∀ as r bs, fnI np n kp s as = some (r, bs) → bs.length = as.length := fun as r bs h => by
 obtain ⟨_, h⟩ := Z4 h
 split at h
 all_goals first
  | (obtain ⟨as', h3, h4⟩ := Option.map_eq_some_iff.mp h; cases h4; exact Ze9 h3)
  | cases h
theorem AtV.uniq {σ : L2.St} : ∀ {is : List Nat} {a b : List V}, AtV σ is a → AtV σ is b → a = b
 | [], [], [], _, _ => rfl
 | [], _ :: _, _, h, _ => h.elim
 | [], [], _ :: _, _, h => h.elim
 | _ :: _, [], _, h, _ => h.elim
 | _ :: _, _ :: _, [], _, h => h.elim
 | i :: is, a :: as, b :: bs, ha, hb => by
  have h1 := ha.1
  rw [hb.1] at h1
  cases h1
  rw [AtV.uniq ha.2 hb.2]
/-- the things of one's own and the data of a call, and what is reached behind it; for all kinds of calls -/
theorem ISp.imp {fd fd2 : FD} (h12 : ∀ as r, fd as = some r → fd2 as = some r) {vs : List V} {H : Hp} {Q : VK} {E : XK} (h : ISp fd vs H Q E) : ISp fd2 vs H Q E := by
 obtain ⟨F, G, ts, r, as, h1, h2, h3, h4, h5⟩ := h
 exact ⟨F, G, ts, r, as, h1, h2, h12 _ _ h3, h4, h5⟩
theorem Zjr {fd2 : FD} (h12 : ∀ as r, fd as = some r → fd2 as = some r) {is : List Nat} {F G H : Hp} {ls : Ls} {r : Rx OT} {en' : En} {Q : VK} (hfd : ∀ as r bs, fd as = some (r, bs) → bs.length = as.length) (ha : SXA W ta args) (g : Good F G ls H) (e : nCallI fd is args (ens ls) = some (r, en'))
  (k : ∀ T0, r = .ok T0 → ∀ T G' ls' H', Good F G' (some T :: ls') H' → Gx F G G' → ens ls' = en' → vals ls' = vals ls → T.er = T0 → Q T.val H') (kx : ∀ C, r = .ex C → XC W F G ls C en') {E : XK} (hE : (∀ as C bs, fd as ≠ some (.ex C, bs)) ∨ E = fun cls d H => W cls d (vals ls) H) :
  ∃ us, AtV (vals ls) is us ∧ ta (vals ls) H fun vs H1 => ISp fd2 (us ++ vs) H1 Q E := by
 obtain ⟨⟨Ts, e0⟩, hp, e⟩ := bnd e
 obtain ⟨ts, l2, q1, q2, q3, q4, q5⟩ := Zfh (A := []) g hp
 refine ⟨ts.map LT.val, q4, ?_⟩
 rcases Zu e with ⟨ds, e1, h1, h2⟩ | ⟨C, h1, rfl⟩
 ·refine ha g h1 (fun d hd vs G1 l1 H1 E1 dv => ?_) (fun C hC => nomatch hC)
  cases hd
  rw [← E1.en] at h2
  obtain ⟨us', hus', hI⟩ := Zh7 (Q := Q) (E := E) E1.gd dv h2 hfd (fun T0 hT0 T G' ls' H' g' gx he hv hT => k T0 hT0 T G' ls' H' g' (E1.gx.trans gx) he (hv.trans E1.vs) hT) (fun C hC G' ls' H' E2 => by
   rcases hE with hE | hE
   ·subst hC
    obtain ⟨r', hr', h3⟩ := bnd h2
    obtain ⟨⟨q1, q2⟩, hq', h4⟩ := bnd h3
    cases q1 with
    | ok T => cases h4
    | ex C' => exact absurd hq' (hE _ _ _)
   ·rw [hE]
    exact kx C hC G' ls' H' (E1.trans E2))
  rw [E1.vs] at hus'
  rw [AtV.uniq q4 hus']
  exact hI.imp h12
 ·exact ha g h1 (fun d hd => nomatch hd) fun C' hC' => kx C' (rxc hC')
/-- where it does not raise -/
noncomputable def noX (fd : FD) : FD := fun as => (fd as).bind fun r => match r with
 | (.ok T, bs) => some (.ok T, bs)
 | _ => none
theorem ZbR {fd : FD} {as bs : List OT} {r : Rx OT} (h : noX fd as = some (r, bs)) : fd as = some (r, bs) ∧ ∃ T, r = .ok T := by
 obtain ⟨⟨r', b'⟩, h1, h2⟩ := bnd h
 cases r' with
 | ok T => cases h2; exact ⟨h1, T, rfl⟩
 | ex C => cases h2
theorem Zm {is : List Nat} (hfd : ∀ as r bs, fd as = some (r, bs) → bs.length = as.length) (ha : SXA W ta args) : SN W (tCall (ISp fd) [] E0 (TAo is ta)) (nCallI (noX fd) is args) := ⟨fun {F G ls H r en'} g e Q k kx => by
 obtain ⟨us, hus, h⟩ := Zjr (E := E0) (fd2 := fd) (fun as r h => (ZbR h).1) (fun as r bs h => hfd as r bs (ZbR h).1) ha g e k kx (.inl fun as C bs h => by
  obtain ⟨_, T, hT⟩ := ZbR h
  cases hT)
 refine Zfb hus ?_
 have e2 : ∀ (x : List V), x ++ [] = x := List.append_nil
 show ta (vals ls) H fun vs H1 => ISp fd ((us ++ vs) ++ []) H1 Q E0
 simp only [e2]
 exact h⟩
/-- a call that may raise -/
theorem Zal {is : List Nat} (hfd : ∀ as r bs, fd as = some (r, bs) → bs.length = as.length) (ha : SXA W ta args) : SN W (tCallS (ISp fd) (WE W) (TAo is ta)) (nCallI fd is args) := ⟨fun {F G ls H r en'} g e Q k kx => by
 obtain ⟨us, hus, h⟩ := Zjr (E := fun cls d H => W cls d (vals ls) H) (fd2 := fd) (fun _ _ h => h) hfd ha g e k kx (.inr rfl)
 exact Zfb hus h⟩
end
end Kb
namespace Kb
open PySem L2 Evl
noncomputable def rxO : PyData ⊕ Addr → Rx PyData
 | .inl d => .ok d
 | .inr C => .ex C
noncomputable def xCallX (f : List PyData → Option (PyData ⊕ Addr)) (a : FA) : FX := fun en => bx (a en) fun xs e1 => (f xs).map fun o => (rxO o, e1)
noncomputable def nCallF (f : List PyData → Option PyData) (a : FA) : FN := fun en => bx (a en) fun xs e1 => okx e1 ((f xs).map freshT)
noncomputable def rxF : PyData ⊕ Addr → Rx OT
 | .inl d => .ok (freshT d)
 | .inr C => .ex C
noncomputable def nCallXF (f : List PyData → Option (PyData ⊕ Addr)) (a : FA) : FN := fun en => bx (a en) fun xs e1 => (f xs).map fun o => (rxF o, e1)
section
variable {K : PySem.W.Frag} {w : World} {W : WX} {ta : TA} {s : FA} {te : TE} {tt : TT}
theorem Zed {R : List PyData → PyData ⊕ Addr → Prop} {f : List PyData → Option (PyData ⊕ Addr)} (hf : ∀ {ds d}, f ds = some d → R ds d) (ha : SXA W ta s) : SX W (tCallS (XSp R) (WE W) ta) (xCallX f s) := ⟨fun {F G ls H r en'} g e Q k kx => by
 rcases Zu e with ⟨x, e1, h1, h2⟩ | ⟨C, h1, rfl⟩
 ·refine ha g h1 (fun d hd v G1 l1 H1 E1 dv => ?_) (fun C hC => nomatch hC)
  cases hd
  obtain ⟨o, ho, h3⟩ := Option.map_eq_some_iff.mp h2
  cases h3
  refine ⟨G1, x, o, E1.gd.gh, dv, hf ho, fun d hd z H3 e3 dz => ?_, fun C hC H3 e3 => ?_⟩
  ·subst hd
   obtain ⟨g3, gx3⟩ := E1.gd.grow e3
   exact k d rfl z _ l1 H3 (E1.trans ⟨g3, gx3, E1.en, rfl⟩) dz
  ·subst hC
   exact kx C rfl _ l1 H3 (E1.trans ⟨E1.gd.stay e3, Gx.refl, E1.en, rfl⟩)
 ·exact ha g h1 (fun d hd => nomatch hd) fun C' hC' => kx C' (rxc hC')⟩
end
noncomputable def wipeE (en : En) : List Nat → En
 | [] => en
 | v :: vs => (wipeE en vs).set v none
noncomputable def wipeL (ls : Ls) : List Nat → Ls
 | [] => ls
 | v :: vs => (wipeL ls vs).set v none
theorem ZdH (ls : Ls) : ∀ vs, ens (wipeL ls vs) = wipeE (ens ls) vs
 | [] => rfl
 | v :: vs => by show ens ((wipeL ls vs).set v none) = (wipeE (ens ls) vs).set v none; rw [← ZdH ls vs]; simp [ens, List.map_set]
theorem Zas (ls : Ls) : ∀ vs, vals (wipeL ls vs) = wipe (vals ls) vs
 | [] => rfl
 | v :: vs => by show vals ((wipeL ls vs).set v none) = (wipe (vals ls) vs).set v none; rw [← Zas ls vs]; simp [vals, List.map_set]
theorem ZgL {F G H : Hp} {ls : Ls} (g : Good F G ls H) : ∀ vs, Good F G (wipeL ls vs) H
 | [] => g
 | v :: vs => ((ZgL g vs).non0).set v
noncomputable def lcT (b : PyData → En → Option En) (c : FB) (x : FX) (vs : List Nat) : List PyData → En → Option (List PyData × En)
 | [], en => some ([], en)
 | d :: ds, en => (b d en).bind fun e1 => match c e1 with
  | some (.ok true, e2) => (match x e2 with
   | some (.ok y, e3) => (lcT b c x vs ds (wipeE e3 vs)).map fun r => (y :: r.1, r.2)
   | _ => none)
  | some (.ok false, e2) => lcT b c x vs ds (wipeE e2 vs)
  | _ => none
/-- no thing of one's own lies in these slots -/
noncomputable def noOwn (en : En) (vs : List Nat) : Bool := vs.all fun v => match en[v]? with
 | some (some (.node _ _)) => false
 | _ => true
noncomputable def backE (e1 e2 : En) : List Nat → En
 | [] => e2
 | v :: vs => (backE e1 e2 vs).set v (e1[v]?).join
noncomputable def nLcT (it : FA) (b : PyData → En → Option En) (c : FB) (x : FX) (vs : List Nat) : FN := fun en => bx (it en) fun ds e1 => if noOwn e1 vs = true ∧ ds.length ≤ 50000 then (lcT b c x vs ds (wipeE e1 vs)).map fun r => (.ok (lstT r.1), backE e1 r.2 vs) else none
theorem ZlH {ls l2 : Ls} {vs : List Nat} (h : Kept (fun i => !decide (i ∈ vs)) (wipeL ls vs) l2) : wipe (vals l2) vs = wipe (vals ls) vs := by
 apply List.ext_getElem?
 intro j
 by_cases hj : j ∈ vs
 ·have key : ∀ (σ : L2.St) (us : List Nat), j ∈ us → (wipe σ us)[j]? = if j < σ.length then some none else none := by
   intro σ us
   induction us with
   | nil => intro h; exact nomatch h
   | cons u us ih =>
    intro h
    show ((wipe σ us).set u none)[j]? = _
    rw [List.getElem?_set]
    split
    ·rename_i e
     rw [wipe_length, e]
    ·exact ih (by rcases List.mem_cons.mp h with z | z; exact absurd z.symm (by assumption); exact z)
  rw [key _ _ hj, key _ _ hj, ZH, ZH, h.len]
  have : (wipeL ls vs).length = ls.length := by
   have := congrArg List.length (Zas ls vs)
   rwa [ZH, wipe_length, ZH] at this
  rw [this]
 ·rw [wipe_out hj, wipe_out hj, h.at' j (by simp [hj]), Zas, wipe_out hj]
/-- the slots as they were: told things stay told -/
theorem Zjt {F G G' H' : Hp} {l1 l2 : Ls} (g2 : Good F G' l2 H') (gg : Ex G G') (hv : vals l2 = vals l2) (hl : l2.length = l1.length) : ∀ (vs : List Nat), (∀ v ∈ vs, ∀ t, l1[v]? = some (some t) → t.ads = [] ∧ t.ok G' H') → ∃ l3, Good F G' l3 H' ∧ ens l3 = backE (ens l1) (ens l2) vs ∧ ∀ j, (vals l3)[j]? = if j ∈ vs ∧ j < l1.length then (vals l1)[j]? else (vals l2)[j]?
 | [], _ => ⟨l2, g2, rfl, fun j => by rw [if_neg (by simp)]⟩
 | v :: vs, h => by
  obtain ⟨l3, g3, e3, v3⟩ := Zjt g2 gg hv hl vs fun u hu => h u (List.mem_cons_of_mem _ hu)
  have hl3 : l3.length = l1.length := by
   have h1 := congrArg List.length e3
   have h2 : ∀ us : List Nat, (backE (ens l1) (ens l2) us).length = l2.length := by
    intro us
    induction us with
    | nil => simp [backE, ens]
    | cons u us ih => rw [backE, List.length_set, ih]
   rw [h2] at h1
   simp [ens] at h1
   omega
  let o : Option LT := (l1[v]?).join
  have ho : ∀ t, o = some t → t.ads = [] ∧ t.ok G' H' := fun t ht => h v List.mem_cons_self t (by
   show l1[v]? = _
   cases z : l1[v]? with
   | none => rw [show o = (l1[v]?).join from rfl, z] at ht; cases ht
   | some u => rw [show o = (l1[v]?).join from rfl, z] at ht; have ht : u = some t := ht; rw [ht])
  have go : Good F G' (o :: l3) H' := by
   refine g3.pick (fun b => ?_) fun t ht => ?_
   ·show (oads o ++ adsS l3).count b ≤ _
    have : oads o = [] := by
     cases z : o with
     | none => rfl
     | some t => exact (ho t z).1
    rw [this]
    exact Nat.le_refl _
   ·rcases List.mem_cons.mp ht with e | ht
    ·exact (ho t e.symm).2
    ·exact g3.ok t ht
  refine ⟨l3.set v o, go.set v, ?_, fun j => ?_⟩
  ·show _ = (backE (ens l1) (ens l2) vs).set v ((ens l1)[v]?).join
   rw [← e3]
   unfold ens
   rw [List.map_set]
   congr 1
   rw [List.getElem?_map]
   show Option.map LT.er ((l1[v]?).join) = _
   cases l1[v]? with
   | none => rfl
   | some u => cases u <;> rfl
  ·unfold vals
   rw [List.map_set, List.getElem?_set, List.length_map, hl3]
   by_cases z : v = j
   ·subst z
    rw [if_pos rfl]
    by_cases hlt : v < l1.length
    ·rw [if_pos hlt, if_pos ⟨List.mem_cons_self, hlt⟩, List.getElem?_map]
     show some (Option.map LT.val ((l1[v]?).join)) = _
     rw [List.getElem?_eq_getElem hlt]
     rfl
    ·rw [if_neg hlt, if_neg fun z => hlt z.2, List.getElem?_eq_none (by rw [List.length_map]; omega)]
   ·rw [if_neg z]
    have := v3 j
    unfold vals at this
    rw [this]
    have e : (j ∈ v :: vs) ↔ (j ∈ vs) := ⟨fun h => by rcases List.mem_cons.mp h with h | h; exact absurd h.symm z; exact h, fun h => List.mem_cons_of_mem _ h⟩
    by_cases hq : j ∈ vs ∧ j < l1.length
    ·rw [if_pos hq, if_pos ⟨e.mpr hq.1, hq.2⟩]
    ·rw [if_neg hq, if_neg fun h => hq ⟨e.mp h.1, h.2⟩]
theorem Zhf (ls : Ls) (b : Addr) : ∀ vs, (adsS (wipeL ls vs)).count b ≤ (adsS ls).count b
 | [] => Nat.le_refl _
 | v :: vs => by
  refine Nat.le_trans ?_ (Zhf ls b vs)
  show (adsS ((wipeL ls vs).set v none)).count b ≤ _
  by_cases h : v < (wipeL ls vs).length
  ·have h1 := Za6 (b := b) (List.getElem?_eq_getElem h) none
   have h2 : (oads none).count b = 0 := rfl
   omega
  ·rw [List.set_eq_of_length_le (by omega)]
   exact Nat.le_refl _
theorem Zhc {ls : Ls} {t : LT} : ∀ {vs : List Nat}, some t ∈ wipeL ls vs → some t ∈ ls
 | [], h => h
 | v :: vs, h => by
  rcases List.mem_or_eq_of_mem_set (show some t ∈ (wipeL ls vs).set v none from h) with h | h
  ·exact Zhc h
  ·cases h
theorem Good.wipeA {F G H : Hp} {l B : Ls} (g : Good F G (l ++ B) H) (vs : List Nat) : Good F G (wipeL l vs ++ B) H := g.pick (fun b => by
  rw [Zr, Zr, List.count_append, List.count_append]
  have := Zhf l b vs
  omega) fun t ht => by
 rcases List.mem_append.mp ht with ht | ht
 ·exact g.ok t (List.mem_append_left _ (Zhc ht))
 ·exact g.ok t (List.mem_append_right _ ht)
theorem ZgK {K : PySem.W.Frag} {W : WX} {wi : TI} {it : FA} {g : TG} {b : PyData → En → Option En} {tt : TT} {c : FB} {te : TE} {x : FX} {vs : List Nat} (hi : SIX W wi it) (hg : SGE (fun i => !decide (i ∈ vs)) g b) (hc : SXB W tt c) (hx : SX W te x) : SN W (tLc wi g tt te vs) (nLcT it b c x vs) := ⟨fun {F G ls H r en'} gd e Q k kx => by
 rcases Zu e with ⟨ds, e1, h1, h2⟩ | ⟨C, h1, rfl⟩
 ·refine hi gd h1 (fun d' hd' J G1 l1 H1 Gd Y E1 wk hGd hY => ?_) (fun C hC => nomatch hC)
  cases hd'
  rw [← E1.en] at h2
  split at h2
  case isFalse => cases h2
  rename_i hcond
  obtain ⟨⟨ys, e2⟩, hlc, h3⟩ := Option.map_eq_some_iff.mp h2
  cases h3
  rw [← E1.vs]
  intro D hD
  have gw := ZgL E1.gd vs
  have hDF : F D = none := fresh_back E1.gd.fh hD
  have hDG : G1 D = none := fresh_back E1.gd.gh hD
  -- the list that is made, behind the others
  refine lc_it wk (Qd := fun H' => Q (.ref D) H') (fun i H' => ∃ (G' : Hp) (l' : Ls) (cs : List (Lab × LT)) (acc : List PyData), Good F G' (l' ++ [some (.node .lst D 0 cs)]) H' ∧ Gx F G1 G' ∧ vals l' = wipe (vals l1) vs ∧ LT.erL cs = oLeafs acc ∧ LT.adsL cs = [] ∧ acc.length ≤ i ∧ ∃ rest, lcT b c x vs (ds.drop i) (ens l') = some (rest, e2) ∧ ys = acc ++ rest) ?_ ?_ ?_ ?_
  ·refine ⟨G1, wipeL l1 vs, [], [], ?_, Gx.refl, Zas l1 vs, rfl, rfl, Nat.zero_le _, ys, by rw [ZdH]; exact hlc, rfl⟩
   have hl : D ∉ adsS (wipeL l1 vs) := fun h => by
    obtain ⟨o, ho⟩ := gw.has h
    rw [hD] at ho
    cases ho
   have := ZcF (k := .lst) (cs := []) (gw.stay (Ex.new (o := .lst []) hD)) rfl trivial upd_same hDG hDF hl (fun _ h => nomatch h) rfl
   refine this.pick (fun b => ?_) fun t ht => ?_
   ·rw [Zr, List.count_append]
    show _ ≤ ((LT.node .lst D 0 []).ads ++ adsS (wipeL l1 vs)).count b
    rw [List.count_append]
    show _ + ((LT.node .lst D 0 []).ads ++ []).count b ≤ _
    rw [List.append_nil]
    omega
   ·rcases List.mem_append.mp ht with ht | ht
    ·exact this.ok t (List.mem_cons_of_mem _ ht)
    ·simp at ht; subst ht; exact this.ok _ List.mem_cons_self
  ·rintro i H' hi' ⟨G', l', cs, acc, g', gx', _⟩
   exact hGd H' (gx'.ex.trans g'.gh)
  ·rintro i x0 Ha Hb hlt ⟨G', l', cs, acc, g', gx', hv', he', ha', hlen, rest, hrest, hys⟩ hy
   obtain ⟨eab, d, hd, dx⟩ := hY i x0 Ha Hb G' hlt gx'.ex g'.gh hy
   obtain ⟨g2, gx2⟩ := g'.grow eab
   have hdr : ds.drop i = d :: ds.drop (i + 1) := by
    rw [List.drop_eq_getElem_cons hlt]
    congr 1
    rw [List.getElem?_eq_getElem hlt] at hd
    exact Option.some.inj hd
   rw [hdr] at hrest
   obtain ⟨e3, hb3, hrest⟩ := bnd hrest
   have gs := g2.split
   have hDn : Hb D = some (.lst (cs.map fun y => y.2.val)) := by
    have := (LT.ok_node.mp (g2.ok _ (List.mem_append_right _ List.mem_cons_self))).1
    rw [ZaZ] at this
    exact this
   rw [← hv']
   refine hg gs dx hb3 fun l3 E3 => ?_
   have hw : wipe (vals l3) vs = wipe (vals l1) vs := ZlH (ls := l1) (l2 := l3) (vs := vs) ⟨by
     have h1 := E3.kt.len
     have h2 := congrArg List.length hv'
     rw [ZH, wipe_length, ZH] at h2
     have h3 := congrArg List.length (Zas l1 vs)
     rw [ZH, wipe_length, ZH] at h3
     omega, fun j hj => by rw [E3.kt.at' j hj, hv', Zas]⟩
   refine ⟨by rw [hw, hv'], ?_⟩
   rw [← E3.en] at hrest
   cases hc3 : c (ens l3) with
   | none => rw [hc3] at hrest; cases hrest
   | some rc =>
    obtain ⟨rb, e4⟩ := rc
    rw [hc3] at hrest
    cases rb with
    | ex C => cases hrest
    | ok bb =>
     refine hc E3.gd hc3 (fun b1 hb1 G4 l4 H4 E4 => ?_) (fun C hC => nomatch hC)
     cases hb1
     cases bb with
     | false =>
      refine iteF ?_
      obtain ⟨gm, gxm⟩ := g2.merge E4.gd (E3.gx.trans E4.gx)
      exact ⟨G4, wipeL l4 vs, cs, acc, gm.wipeA vs, (gx'.trans gx2).trans gxm, by rw [Zas, E4.vs, hw, hv'], he', ha', by omega, rest, by rw [ZdH, E4.en]; exact hrest, hys⟩
     | true =>
      refine iteT ?_
      rw [← E4.vs]
      rw [← E4.en] at hrest
      dsimp only at hrest
      cases hx5 : x (ens l4) with
      | none => rw [hx5] at hrest; cases hrest
      | some rx =>
       obtain ⟨rd, e5⟩ := rx
       rw [hx5] at hrest
       cases rd with
       | ex C => cases hrest
       | ok yd =>
        refine hx E4.gd hx5 (fun b1 hb1 y G5 l5 H5 E5 dy => ?_) (fun C hC => nomatch hC)
        cases hb1
        obtain ⟨gm, gxm⟩ := g2.merge E5.gd ((E3.gx.trans E4.gx).trans E5.gx)
        obtain ⟨⟨rest2, e6⟩, hr2, hr3⟩ := Option.map_eq_some_iff.mp hrest
        cases hr3
        have hD5 : H5 D = some (.lst (cs.map fun y => y.2.val)) := by
         have := (LT.ok_node.mp (gm.ok _ (List.mem_append_right _ List.mem_cons_self))).1
         rw [ZaZ] at this
         exact this
        have hcl : cs.length = acc.length := by
         have := congrArg List.length he'
         rw [ZbN] at this
         rw [this]
         simp [oLeafs]
        refine ⟨_, hD5, sz_lt (by rw [List.length_map]; omega), ?_⟩
        have hidx : (l5 ++ [some (LT.node .lst D 0 cs)])[l5.length]? = some (some (.node .lst D 0 cs)) := by simp
        have gmod := Good.mod (p := []) (cs' := cs ++ [(.no, .leaf y yd)]) gm.non0 hidx rfl (fun b => by rw [Zdd, List.count_append]; show _ + ([] ++ LT.adsL []).count b ≤ _; simp [LT.adsL, oads]) (fun z hz => by
         rcases List.mem_append.mp hz with hz | hz
         ·exact .inl ⟨z, hz, rfl⟩
         ·simp at hz; subst hz; exact .inr (.inr ⟨y, yd, rfl, dy⟩))
        rw [ZaZ, List.set_append_right _ _ (Nat.le_refl _), Nat.sub_self] at gmod
        rw [List.map_append] at gmod
        have gw2 := gmod.wipeA vs
        have gw2 : Good F G5 (wipeL l5 vs ++ [some (LT.node .lst D 0 (cs ++ [(.no, .leaf y yd)]))]) (upd H5 D (.lst (cs.map (fun x => x.2.val) ++ [y]))) := gw2
        refine ⟨G5, wipeL l5 vs, cs ++ [(.no, .leaf y yd)], acc ++ [yd], gw2, (gx'.trans gx2).trans gxm, by rw [Zas, E5.vs, E4.vs, hw, hv'], ?_, ?_, ?_, rest2, by rw [ZdH, E5.en]; exact hr2, by rw [hys, List.append_assoc]; rfl⟩
        ·rw [Zfe, he']
         simp [oLeafs, LT.erL, LT.er]
        ·rw [Zdd, ha']
         rfl
        ·rw [List.length_append]
         show _ + 1 ≤ _
         omega
  ·rintro H' ⟨G', l', cs, acc, g', gx', hv', he', ha', hlen, rest, hrest, hys⟩
   rw [List.drop_length] at hrest
   cases hrest
   rw [List.append_nil] at hys
   subst hys
   have hll : l'.length = l1.length := by
    have := congrArg List.length hv'
    rwa [ZH, wipe_length, ZH] at this
   obtain ⟨l3, g3, e3, v3⟩ := Zjt (l1 := l1) g'.split gx'.ex rfl hll vs fun v hv t ht => by
    have hno := List.all_eq_true.mp hcond.1 v hv
    have het : (ens l1)[v]? = some (some t.er) := by unfold ens; rw [List.getElem?_map, ht]; rfl
    cases t with
    | leaf u d => exact ⟨rfl, Dt.up (show Dt G1 u d from E1.gd.ok _ (List.mem_of_getElem? ht)) gx'.ex⟩
    | node k a dx cs2 => rw [LT.er] at het; rw [het] at hno; cases hno
   obtain ⟨gm, gxm⟩ := g'.merge g3 Gx.refl
   have v4 : vals l3 = vals l1 := by
    apply List.ext_getElem?
    intro j
    rw [v3 j]
    by_cases hj : j ∈ vs
    ·by_cases hlt : j < l1.length
     ·rw [if_pos ⟨hj, hlt⟩]
     ·rw [if_neg fun z => hlt z.2, List.getElem?_eq_none (by rw [ZH]; omega), List.getElem?_eq_none (by rw [ZH]; omega)]
    ·rw [if_neg fun z => hj z.1, hv', wipe_out hj]
   refine k _ rfl (.node .lst D 0 cs) G' l3 H' (gm.pick (fun b => ?_) fun t ht => ?_) (E1.gx.trans gx') e3 (v4.trans E1.vs) (by rw [LT.er, he']; rfl)
   ·show ((LT.node .lst D 0 cs).ads ++ adsS l3).count b ≤ _
    rw [Zr, List.count_append, List.count_append]
    show _ ≤ _ + ((LT.node .lst D 0 cs).ads ++ []).count b
    rw [List.append_nil]
    omega
   ·rcases List.mem_cons.mp ht with e | ht
    ·cases e; exact gm.ok _ (List.mem_append_right _ List.mem_cons_self)
    ·exact gm.ok t (List.mem_append_left _ ht)
 ·exact hi gd h1 (fun d hd => nomatch hd) fun C' hC' => kx C' (rxc hC')⟩
end Kb
namespace Kb
open PySem L2 Evl
/-- an old promise as a function -/
noncomputable def gR {α : Type} (R : List PyData → α → Prop) : List PyData → Option α := fun ds => by
 classical
 exact if h : ∃ d, R ds d then some (Classical.choose h) else none
theorem ZhC {α : Type} {R : List PyData → α → Prop} {ds : List PyData} {d : α} (h : gR R ds = some d) : R ds d := by
 unfold gR at h
 split at h
 ·rename_i hd
  cases h
  exact Classical.choose_spec hd
 ·cases h
theorem Zkh {α : Type} {R : List PyData → α → Prop} {ds : List PyData} {d : α} (h : R ds d) (u : ∀ e, R ds e → e = d) : gR R ds = some d := by
 unfold gR
 have hd : ∃ d, R ds d := ⟨d, h⟩
 rw [dif_pos hd]
 rw [u _ (Classical.choose_spec hd)]
section
variable {kp : Nat → Bool} {K : PySem.W.Frag} {P : Program} {w : World} {W : WX} {te ta tb : TE} {a b x : FX} {f : FW}
/-- x op= e -/
noncomputable def sAug (i : Nat) (o : Int → Int → Int) (x : FX) : FS := fun en => (((strong en)[i]?).join.bind asI).bind fun _ => bs (x en) fun d e1 => (((strong e1)[i]?).join.bind asI).bind fun n => (asI d).map fun m => (.nx, e1.set i (some (.leaf (.int (o n m)))))
/-- xs[e], xs of one's own -/
noncomputable def xIxV (i : Nat) (x : FX) : FX := fun en => (lstAt en i).bind fun _ => bx (x en) fun j e1 => (lstAt e1 i).bind fun cs => (asI j).bind fun j => (L2.atI cs j).bind fun c => (leafD c.2).map fun d => (.ok d, e1)
noncomputable def oRg1 : PyData → Option PyData
 | .int n => if 0 ≤ n ∧ n ≤ 100000 then some (dLI (rangeI n.toNat)) else none
 | _ => none
theorem Zl4 (ha : SW ta f) : SF (tLstRg (tRg1 ta)) (wUn oRg1 f) := ⟨fun h e => by
 obtain ⟨x, hx, e⟩ := bnd e
 unfold oRg1 at e
 split at e
 case h_2 => cases e
 split at e
 case isFalse => cases e
 rename_i hn
 cases e
 exact (Zlu (ha h hx) hn.1 hn.2).toF⟩
noncomputable def oIsi (n : String) : PyData → Option PyData := fun d => if notDict d = true then (kitB (tyD d) n).map PyData.bool else none
theorem Zgb {n : String} (ha : SW ta f) : SF (tCB (rIsi K) (tCons ta (tCons (tC (.ty n)) tNil))) (wUn (oIsi n) f) := ⟨fun {en σ G d} h e H gh Q k => by
 obtain ⟨x, hx, e⟩ := bnd e
 unfold oIsi at e
 split at e
 case isFalse => cases e
 rename_i hn
 obtain ⟨b, hb, rfl⟩ := Option.map_eq_some_iff.mp e
 exact ha h hx H gh _ fun x1 H1 e1 dx => ⟨x1, .ty n, .type (tyD x), .type n, b, rfl, .ty n, (dx.up (Zh gh e1)).ty hn, kit_ty hb, k _ H1 e1 (ZC fun _ z => nomatch z) (.bl _)⟩⟩
end
end Kb
namespace Kb
open PySem L2 Evl
theorem Inv.forget {X : Cx} {pins : List (Addr × Obj)} {σ : L2.St} {H : Hp} {s : Shared} (I : Inv X pins σ H s) (i : Nat) : Inv X pins (σ.set i none) H s :=
 ⟨I.ok, I.os, I.bare, I.base, by
  obtain ⟨m, h1, h2⟩ := I.loc
  refine ⟨m, h1, fun j x v hj hv => h2 j x v hj ?_⟩
  rw [List.getElem?_set] at hv
  split at hv
  ·split at hv <;> cases hv
  ·exact hv, I.cell, I.free, I.freeC, I.pin, I.hok, by rw [List.length_set]; exact I.len⟩
noncomputable def tForget (i : Nat) (t : TS) : TS := fun D σ H => t D (σ.set i none) H
theorem Zkg {X : Cx} {sts : List Stmt} {t : TS} (i : Nat) (h : PSs X sts t) : PSs X sts (tForget i t) := ⟨fun pins s σ H D I q => h.run pins s _ H D (Inv.forget I i) q⟩
/-- the draw's list as a tree -/
noncomputable def drT (ns : List Int) (i c z : Int) : OT := .node .lst [(.no, .leaf (dLI ns)), (.no, .leaf (.int i)), (.no, .leaf (.int c)), (.no, .leaf (.int z))]
noncomputable def DrOk (T : OT) : Prop := ∃ (ns : List Int) (i c z : Int), T = drT ns i c z ∧ 0 ≤ i ∧ 0 ≤ c ∧ 0 ≤ z ∧ z < 2147483647
noncomputable def spBegin (K : PySem.W.Frag) : Sp := fun vs H Q _ => ∃ (a : Addr) (ns : List Int), vs = [.ref a] ∧ SqL K H a (ns.map V.int) ∧ ns.length ≤ 63 ∧ ∀ (d : Dw) G H2, H d.a = none → Ex H H2 → Ex G H2 → (∀ b o, H b = some o → G b = none) → Dr G H2 d → Q (.ref d.a) H2
noncomputable def spLaw (K : PySem.W.Frag) : Sp := fun vs H Q _ => ∃ (a : Addr) (ns : List Int), vs = [.ref a] ∧ SqL K H a (ns.map V.int) ∧ ns.length ≤ 63 ∧ ∀ H', Q (.bl true) H'
/-- the law returns True -/
noncomputable def lawOk (n : Nat) (s : FS) : Prop := ∀ T, DrOk T → ∃ en', s (none :: some T :: List.replicate (n - 2) none) = some (.rt (.leaf (.bool true)), en')
theorem ZoO {K : PySem.W.Frag} {kp : Nat → Bool} {t : TS} {s : FS} {N : List Str} {vs : List V} {H : Hp} {Q : VK} {E : XK} (hN : 2 ≤ N.length) (hs : SS kp (fun _ _ _ _ => False) t s) (hl : lawOk N.length s) (h : spLaw K vs H Q E) :
  tSeq (tAsg (tCall (spBegin K) [] E0 (tCons (tVar 0) tNil)) (gName 1)) (tForget 0 t) { nx := fun _ H' => Q .non H', rt := Q } (L2.start N vs) H := by
 obtain ⟨a, ns, rfl, hS, hlen, q⟩ := h
 refine ⟨_, rfl, a, ns, rfl, hS, hlen, fun d G H2 hd0 e1 gh _ r => ?_⟩
 obtain ⟨no, sc, i, c, z, hd, i0, c0, z0, z1⟩ := r
 let cs : List (Lab × LT) := [(.no, .leaf (.ref d.s) (dLI d.ns)), (.no, .leaf (.int i) (.int i)), (.no, .leaf (.int c) (.int c)), (.no, .leaf (.int z) (.int z))]
 have g0 : Good (fun _ => none) G (List.replicate (N.length - 2) (none : Option LT)) H2 := ⟨fun _ _ h => (nomatch h), gh, (by rw [ZcG]; exact List.nodup_nil), (by rw [ZcG]; exact fun _ h => (nomatch h)), (by rw [ZcG]; exact fun _ h => (nomatch h)), fun t ht => (nomatch (List.eq_of_mem_replicate ht))⟩
 have g1 := ZcF (k := .lst) (p := d.a) (cs := cs) g0 rfl trivial (by rw [ZaZ]; exact hd) no rfl (by rw [ZcG]; exact fun h => nomatch h) (fun x hx => by
  simp only [cs, List.mem_cons, List.not_mem_nil, or_false] at hx
  rcases hx with rfl | rfl | rfl | rfl
  ·exact Dt.li sc
  ·exact .int _
  ·exact .int _
  ·exact .int _) rfl
 obtain ⟨en', he⟩ := hl (drT d.ns i c z) ⟨d.ns, i, c, z, rfl, i0, c0, z0, z1⟩
 have ev : ((L2.start N [.ref a]).set 1 (some (.ref d.a))).set 0 none = vals (none :: some (.node .lst d.a 0 cs) :: List.replicate (N.length - 2) none) := by
  obtain ⟨n1, n2, Nr, rfl⟩ : ∃ n1 n2 Nr, N = n1 :: n2 :: Nr := by
   cases N with
   | nil => simp at hN
   | cons n1 N => cases N with
    | nil => simp at hN
    | cons n2 N => exact ⟨n1, n2, N, rfl⟩
  simp [L2.start, vals, LT.val, List.replicate_succ]
 show t _ (((L2.start N [.ref a]).set 1 (some (.ref d.a))).set 0 none) H2
 rw [ev]
 refine hs.run g1.non0 (o := .rt (.leaf (.bool true))) (en' := en') ?_ ?_
 ·rw [← he]
  congr 1
  simp [ens]
  rw [LT.er]
  rfl
 ·intro T G' ls' H' g' gx _ _ hT
  have : T.val = .bl true := by
   cases T with
   | leaf v d =>
    have hT : OT.leaf d = .leaf (.bool true) := hT
    cases hT
    exact (show Dt G' v (.bool true) from g'.ok _ List.mem_cons_self).ob
   | node k a dx cs => rw [LT.er] at hT; cases hT
  show Q T.val H'
  rw [this]
  exact q H'
end Kb
namespace Kb
open PySem L2 Evl
theorem ZcH {α : Type} {a : α} {l : List α} : L2.atI (a :: l) 0 = some a := atI_nat (j := 0) rfl
theorem Zb4 {α : Type} {a b : α} {l : List α} : L2.atI (a :: b :: l) 1 = some b := atI_nat (j := 1) rfl
theorem Za1 {α : Type} {a b c : α} {l : List α} : L2.atI (a :: b :: c :: l) 2 = some c := atI_nat (j := 2) rfl
theorem Zdn {α : Type} {a b c d : α} {l : List α} : L2.atI (a :: b :: c :: d :: l) 3 = some d := atI_nat (j := 3) rfl
theorem ZhA {n : Nat} : ixN (n + 2) 1 = some 1 := ixN_nat (j := 1) (by omega)
theorem ZhH {n : Nat} : ixN (n + 3) 2 = some 2 := ixN_nat (j := 2) (by omega)
theorem Zhy {n : Nat} : ixN (n + 4) 3 = some 3 := ixN_nat (j := 3) (by omega)
theorem ZlI {i j : Int} (h0 : -(2 ^ 64) < i) (h1 : i < 2 ^ 64) : cMul i j = true := by unfold cMul; rw [Bool.or_eq_true]; exact .inl (Nat.ble_eq.mpr (by omega))
theorem Zif {i j : Int} (h0 : -(2 ^ 64) < j) (h1 : j < 2 ^ 64) : cMul i j = true := by unfold cMul; rw [Bool.or_eq_true]; exact .inr (Nat.ble_eq.mpr (by omega))
theorem Zh3 {i j : Int} (h : 0 < j) : cMod i j = true := by simp [cMod, h]
theorem ZlJ {i j : Int} (h : 0 < j) (h1 : j < 1073741824) : cDiv i j = true := by unfold cDiv; rw [Bool.and_eq_true]; exact ⟨decide_eq_true h, Nat.ble_eq.mpr (by omega)⟩
theorem ZgH {a b : FS} {en e1 : En} (h : a en = some (.nx, e1)) : sSeq a b en = b e1 := by unfold sSeq; rw [h]
theorem Zqb {i : Nat} {x : FX} {en e1 : En} {d : PyData} (h : x en = some (.ok d, e1)) : sAsg i x en = some (.nx, e1.set i (some (.leaf d))) := by unfold sAsg bs; rw [h]
theorem Zs1 {c : FB} {a b : FS} {en e1 : En} {t : Bool} (h : c en = some (.ok t, e1)) : sIf c a b en = if t = true then a e1 else b e1 := by unfold sIf bs; rw [h]
theorem ZkF {n : FN} {en e1 : En} {T : OT} (h : n en = some (.ok T, e1)) : sRet n en = some (.rt T, e1) := by unfold sRet bs; rw [h]
theorem ZsB {n : FN} {en e1 : En} {T : OT} (h : n en = some (.ok T, e1)) : xN n en = some (.ok T.data, e1) := by unfold xN bx; rw [h]
theorem Zrg {o : PyData → PyData → Option PyData} {a b : FX} {en e1 e2 : En} {x y d : PyData} (h1 : a en = some (.ok x, e1)) (h2 : b e1 = some (.ok y, e2)) (h3 : o x y = some d) : xOp o a b en = some (.ok d, e2) := by
 unfold xOp bx
 rw [h1]
 dsimp only
 rw [h2]
 dsimp only [okx]
 rw [h3]
 rfl
theorem Zrc {a : FX} {en e1 : En} {b : Bool} (h : a en = some (.ok (.bool b), e1)) : bXx a en = some (.ok b, e1) := by unfold bXx bx; rw [h]; rfl
theorem Zqh {a : FX} {r : FA} {en e1 e2 : En} {x : PyData} {xs : List PyData} (h1 : a en = some (.ok x, e1)) (h2 : r e1 = some (.ok xs, e2)) : aConsX a r en = some (.ok (x :: xs), e2) := by
 unfold aConsX bx
 rw [h1]
 dsimp only
 rw [h2]
theorem ZoQ {a : FA} {en e1 : En} {xs : List PyData} (h1 : a en = some (.ok xs, e1)) (h2 : xs.length ≤ 100000) : nLst a en = some (.ok (lstT xs), e1) := by
 unfold nLst bx
 rw [h1]
 dsimp only
 rw [if_pos (by unfold big; exact decide_eq_true h2)]
 rfl
/-- a call of a def that draws -/
theorem callI1 {i : Nat} {f : FD} {args : FA} {en : En} {T T' R : OT} {ds : List PyData} {rest : List OT} (h0 : en[i]? = some (some T)) (ha : args en = some (.ok ds, en)) (hf : f (T :: ds.map OT.leaf) = some (.ok R, T' :: rest)) : nCallI (noX f) [i] args en = some (.ok R, en.set i (some T')) := by
 unfold nCallI pullE
 rw [h0]
 simp [pullE, bx, ha, h0, noX, hf, putE]
theorem ZcK (ds : List PyData) : (lstT ds).data = .list ds := by
 unfold lstT
 rw [OT.data, OT.datas_map]
 simp [oLeafs, OT.data, Function.comp_def]
theorem Zl1 (d : PyData) : (OT.leaf d).data = d := by rw [OT.data]
/-- from the body of a def whose first argument is the draw -/
theorem ZjE {np n : Nat} {s : FS} {T T' R : OT} {ds : List PyData} {en' : En} (hl : ds.length + 1 = np) (h : s (start0 n (T :: ds.map OT.leaf)) = some (.rt R, some T' :: en')) (hn : ds.length ≤ en'.length) : fnI np n (fun i => Nat.blt i 1) s (T :: ds.map OT.leaf) = some (.ok R, T' :: ds.map OT.leaf) := by
 have key : ∀ (ds : List PyData) (en' : En), ds.length ≤ en'.length → takeA (fun i => Nat.blt (i + 1) 1) (ds.map OT.leaf) en' = some (ds.map OT.leaf) := by
  intro ds
  have gen : ∀ (ds : List PyData) (kp : Nat → Bool), (∀ i, kp i = false) → ∀ en' : En, ds.length ≤ en'.length → takeA kp (ds.map OT.leaf) en' = some (ds.map OT.leaf) := by
   intro ds
   induction ds with
   | nil => intro kp _ en' _; cases en' <;> rfl
   | cons d ds ih =>
    intro kp hk en' hl
    cases en' with
    | nil => simp at hl
    | cons o en' =>
     show (if kp 0 = true then _ else (takeA (fun i => kp (i + 1)) (ds.map OT.leaf) en').map (OT.leaf d :: ·)) = _
     rw [if_neg (by rw [hk]; exact Bool.false_ne_true), ih _ (fun i => hk (i + 1)) en' (by simpa using hl)]
     rfl
  exact gen ds _ (fun i => rfl)
 unfold fnI
 rw [if_pos (by simp [hl]), h]
 show (takeA (fun i => Nat.blt i 1) (T :: ds.map OT.leaf) (some T' :: en')).map (fun as' => (Rx.ok R, as')) = _
 have : takeA (fun i => Nat.blt i 1) (T :: ds.map OT.leaf) (some T' :: en') = some (T' :: ds.map OT.leaf) := by
  show (if Nat.blt 0 1 = true then (some T').bind (fun T'' => (takeA (fun i => Nat.blt (i + 1) 1) (ds.map OT.leaf) en').map (T'' :: ·)) else _) = _
  rw [if_pos (show Nat.blt 0 1 = true from rfl), key ds en' hn]
  rfl
 rw [this]
 rfl
/-- a comprehension that leaves out by a draw -/
theorem Zg1 {b : PyData → En → Option En} {c : FB} {x : FX} {vs : List Nat} {I : En → Prop} {F : PyData → PyData} : ∀ {ds : List PyData}, (∀ d ∈ ds, ∀ en, I en → ∃ e1, b d en = some e1 ∧ ∃ bb e2, c e1 = some (.ok bb, e2) ∧ (bb = false → I (wipeE e2 vs)) ∧ (bb = true → ∃ e3, x e2 = some (.ok (F d), e3) ∧ I (wipeE e3 vs))) →
  ∀ en, I en → ∃ (es : List PyData) (en' : En), lcT b c x vs ds en = some (es.map F, en') ∧ I en' ∧ es.Sublist ds
 | [], _, en, hI => ⟨[], en, rfl, hI, List.Sublist.refl _⟩
 | d :: ds, h, en, hI => by
  obtain ⟨e1, h1, bb, e2, h2, h3, h4⟩ := h d List.mem_cons_self en hI
  cases bb with
  | false =>
   obtain ⟨es, en', h5, h6, h7⟩ := Zg1 (fun d' hd' => h d' (List.mem_cons_of_mem _ hd')) _ (h3 rfl)
   refine ⟨es, en', ?_, h6, h7.cons _⟩
   unfold lcT
   rw [h1]
   dsimp only [Option.bind]
   rw [h2]
   exact h5
  | true =>
   obtain ⟨e3, h8, h9⟩ := h4 rfl
   obtain ⟨es, en', h5, h6, h7⟩ := Zg1 (fun d' hd' => h d' (List.mem_cons_of_mem _ hd')) _ h9
   refine ⟨d :: es, en', ?_, h6, h7.cons_cons _⟩
   unfold lcT
   rw [h1]
   dsimp only [Option.bind]
   rw [h2]
   dsimp only
   rw [h8]
   dsimp only
   rw [h5]
   rfl
end Kb
namespace Kb
open PySem L2 Evl
noncomputable def lookD (f : Str) : List (PyData × PyData) → Option PyData
 | [] => none
 | (.str g, d) :: r => if f = g then some d else lookD f r
 | _ :: r => lookD f r
noncomputable def oFld (C : Addr) (f : Str) : PyData → Option PyData
 | .dict ((.none, .int c) :: r) => if c = ((C : Nat) : Int) then lookD f r else none
 | _ => none
theorem ZiK {G : Hp} {f : Str} : ∀ {fs : List (Str × V)} {ds : List PyData} {d : PyData}, DtAll G (fs.map (·.2)) ds → lookD f ((fs.map fun kv => PyData.str kv.1).zip ds) = some d → ∃ v, fs.lookup f = some v ∧ Dt G v d
 | [], _, d, _, h => by
  simp [lookD] at h
 | (g, v) :: fs, ds, d, hd, h => by
  obtain ⟨e, ds', rfl, hv, hr⟩ : ∃ e ds', ds = e :: ds' ∧ Dt G v e ∧ DtAll G (fs.map (·.2)) ds' := by
   cases hd with
   | cons h1 h2 => exact ⟨_, _, rfl, h1, h2⟩
  rw [Zkm]
  simp only [List.map_cons, List.zip_cons_cons, lookD] at h
  by_cases z : f = g
  ·rw [if_pos z] at h ⊢
   cases h
   exact ⟨v, rfl, hv⟩
  ·rw [if_neg z] at h ⊢
   exact ZiK hr h
theorem Dt.insOf {G : Hp} {v : V} {c : Int} {r : List (PyData × PyData)} (h : Dt G v (.dict ((.none, .int c) :: r))) : ∃ (p C dx : Addr) (fs : List (Str × V)) (ds : List PyData), v = .ref p ∧ G p = some (.ins C dx fs) ∧ c = ((C : Nat) : Int) ∧ DtAll G (fs.map (·.2)) ds ∧ r = (fs.map fun kv => PyData.str kv.1).zip ds := by
 generalize hk : (PyData.dict ((.none, .int c) :: r)) = k at h
 cases h with
 | dct h1 h2 h3 =>
  rename_i a kvs ds kd
  injection hk with hk
  rw [h3] at hk
  cases kvs with
  | nil => simp at hk
  | cons kv kvs =>
   cases ds with
   | nil => simp at hk
   | cons d ds =>
    simp only [List.map_cons, List.zip_cons_cons, List.cons.injEq, Prod.mk.injEq] at hk
    obtain ⟨⟨h, _⟩, _⟩ := hk
    obtain ⟨k, v⟩ := kv
    cases k <;> cases h
 | ins h1 h2 h3 =>
  rename_i a C dx fs ds kd
  injection hk with hk
  rw [h3] at hk
  simp only [List.cons.injEq, Prod.mk.injEq, true_and, PyData.int.injEq] at hk
  exact ⟨a, C, dx, fs, ds, rfl, h1, hk.1, h2, hk.2⟩
 | lkd h1 h2 h3 =>
  injection hk with hk
  rw [h3] at hk
  simp at hk
 | lkl h1 h2 h3 =>
  injection hk with hk
  rw [h3] at hk
  simp at hk
 | _ => cases hk
section
variable {K : PySem.W.Frag} {ta : TE} {w : FW}
theorem Zqw {C : Addr} {f : Str} {ns : List Str} (F : Fls K C ns) (hn : f ∈ ns) : UnOk (fun x H1 Q => ∃ a C dx fs v, x = .ref a ∧ H1 a = some (.ins C dx fs) ∧ Cls K C ∧ NoAttr K C f ∧ fs.lookup f = some v ∧ Q v H1) (oFld C f) := ⟨fun {x G a d} dx e H gh Q q => by
 unfold oFld at e
 split at e
 case h_2 => cases e
 rename_i c r
 split at e
 case isFalse => cases e
 rename_i hc
 obtain ⟨p, C', dx', fs, ds, rfl, hp, hc', hd, rfl⟩ := dx.insOf
 have : C' = C := Int.ofNat.inj (hc'.symm.trans hc)
 subst this
 obtain ⟨v, hv, dv⟩ := ZiK hd e
 exact ⟨p, C', dx', fs, v, rfl, gh _ _ hp, F.cl, F.no f hn, hv, q v H (Ex.refl H) (dv.up (Zp gh))⟩⟩
/-- e.f -/
theorem Zd2 {C : Addr} {f : Str} {ns : List Str} (F : Fls K C ns) (hn : f ∈ ns) (h : SW ta w) : SW (tFld K ta f) (wUn (oFld C f) w) := Zb8 (Zqw F hn) h
end
noncomputable def putT (f : Str) (T : OT) : List (Lab × OT) → List (Lab × OT)
 | [] => [(.fld f, T)]
 | (l, x) :: r => if l.f = f then (l, T) :: r else (l, x) :: putT f T r
noncomputable def putL (f : Str) (T : LT) : List (Lab × LT) → List (Lab × LT)
 | [] => [(.fld f, T)]
 | (l, x) :: r => if l.f = f then (l, T) :: r else (l, x) :: putL f T r
theorem ZgX (f : Str) (T : LT) : ∀ cs : List (Lab × LT), LT.erL (putL f T cs) = putT f T.er (LT.erL cs)
 | [] => by simp [putL, putT, LT.erL]
 | (l, x) :: r => by
  unfold putL
  rw [LT.erL, putT]
  by_cases z : l.f = f
  ·rw [if_pos z, if_pos z, LT.erL]
  ·rw [if_neg z, if_neg z, LT.erL, ZgX f T r]
theorem Ze7 (f : Str) (T : LT) : ∀ cs : List (Lab × LT), ((LT.vals (putL f T cs)).map fun x => (x.1.f, x.2)) = putF f T.val ((LT.vals cs).map fun x => (x.1.f, x.2))
 | [] => rfl
 | (l, x) :: r => by
  have ih := Ze7 f T r
  unfold LT.vals at ih ⊢
  simp only [List.map_cons, putL, putF]
  by_cases z : l.f = f
  ·rw [if_pos z, if_pos z]
   rfl
  ·rw [if_neg z, if_neg z]
   simp only [List.map_cons]
   rw [ih]
theorem Zf2 (f : Str) (T : LT) (b : Addr) : ∀ cs : List (Lab × LT), (LT.adsL (putL f T cs)).count b ≤ (LT.adsL cs).count b + T.ads.count b
 | [] => by simp [putL, LT.adsL]
 | (l, x) :: r => by
  have ih := Zf2 f T b r
  unfold putL
  by_cases z : l.f = f
  ·rw [if_pos z, LT.adsL, LT.adsL, List.count_append, List.count_append]
   omega
  ·rw [if_neg z, LT.adsL, LT.adsL, List.count_append, List.count_append]
   omega
theorem ZfU (f : Str) (T : LT) : ∀ (cs : List (Lab × LT)) (x : Lab × LT), x ∈ putL f T cs → (∃ y ∈ cs, y.2 = x.2) ∨ x.2 = T
 | [], x, h => by
  simp [putL] at h
  subst h
  exact .inr rfl
 | (l, y) :: r, x, h => by
  unfold putL at h
  by_cases z : l.f = f
  ·rw [if_pos z] at h
   rcases List.mem_cons.mp h with rfl | h
   ·exact .inr rfl
   ·exact .inl ⟨x, List.mem_cons_of_mem _ h, rfl⟩
  ·rw [if_neg z] at h
   rcases List.mem_cons.mp h with rfl | h
   ·exact .inl ⟨_, List.mem_cons_self, rfl⟩
   ·rcases ZfU f T r x h with ⟨q, hq, e⟩ | e
    ·exact .inl ⟨q, List.mem_cons_of_mem _ hq, e⟩
    ·exact .inr e
noncomputable def insAt (en : En) (i : Nat) (C : Addr) : Option (List (Lab × OT)) := match en[i]? with
 | some (some (.node (.ins C') cs)) => if C' = C then some cs else none
 | _ => none
theorem Zme {en : En} {i : Nat} {C : Addr} {cs : List (Lab × OT)} (h : insAt en i C = some cs) : en[i]? = some (some (.node (.ins C) cs)) := by
 unfold insAt at h
 split at h
 ·rename_i C' cs' e
  split at h
  ·rename_i hc
   subst hc
   cases h
   exact e
  ·cases h
 ·cases h
theorem Zlo {F G H : Hp} {ls : Ls} {i : Nat} {C : Addr} {cs : List (Lab × OT)} (g : Good F G ls H) (h : insAt (ens ls) i C = some cs) : ∃ p dx c, ls[i]? = some (some (.node (.ins C) p dx c)) ∧ LT.erL c = cs ∧ (vals ls)[i]? = some (some (.ref p)) ∧ H p = some (.ins C dx ((LT.vals c).map fun x => (x.1.f, x.2))) ∧ ∀ x ∈ c, x.2.ok G H := by
 obtain ⟨p, dx, c, h1, h2, h3⟩ := Zd0 (Zme h)
 have h4 := g.node_at h1
 exact ⟨p, dx, c, h1, h2, h3, h4.1, h4.2⟩
noncomputable def sSetF (C : Addr) (f : Str) (i : Nat) (x : FX) : FS := fun en => bs (x en) fun d e1 => (insAt e1 i C).bind fun cs => if cs.length < 1000 then some (.nx, e1.set i (some (.node (.ins C) (putT f (.leaf d) cs)))) else none
noncomputable def sSetFN (C : Addr) (f : Str) (i : Nat) (n : FN) : FS := fun en => bs (n en) fun T e1 => (insAt e1 i C).bind fun cs => if cs.length < 1000 then some (.nx, e1.set i (some (.node (.ins C) (putT f T cs)))) else none
section
variable {K : PySem.W.Frag} {kp : Nat → Bool} {W : WX} {te : TE} {x : FX} {n : FN}
/-- self.f = e, e told -/
theorem Zpv {C : Addr} {f : Str} {ns : List Str} {i : Nat} (FL : Fls K C ns) (hn : f ∈ ns) (h : SX W te x) : SS kp W (sFld K (tVar i) te f) (sSetF C f i x) := ⟨fun {F G ls H o en'} g e D k => by
 rcases ZF e with ⟨d, e1, e2, e3⟩ | ⟨C', e2, rfl⟩
 ·refine h g e2 (fun d' hd' v G1 l1 H1 E1 dv => ?_) (fun C hC => nomatch hC)
  cases hd'
  rw [← E1.en] at e3
  obtain ⟨c1, hc1, e4⟩ := bnd e3
  split at e4
  case isFalse => cases e4
  rename_i hz
  cases e4
  obtain ⟨p, dx, c', q1, q2, q3, q4, q6⟩ := Zlo E1.gd hc1
  obtain ⟨l2, g2, en2, v2⟩ := Zdh (cs' := putL f (.leaf v d) c') E1.gd.non0 q1 (fun b => by have := Zf2 f (.leaf v d) b c'; simpa [LT.ads, oads] using this) (fun y hy => by
   rcases ZfU _ _ _ _ hy with h | h
   ·exact .inl h
   ·exact .inr (.inr ⟨v, d, h, dv⟩))
  rw [show hoOf (.ins C) dx (LT.vals (putL f (.leaf v d) c')) = .ins C dx (putF f v ((LT.vals c').map fun x => (x.1.f, x.2))) from congrArg (HO.ins C dx) (Ze7 f _ c')] at g2
  refine ⟨_, E1.vs ▸ q3, p, C, dx, _, rfl, q4, FL.cl, FL.no f hn, by rw [List.length_map, LT.vals, List.length_map, ← ZbN, q2]; exact hz, ?_⟩
  have k2 := k G1 l2 _ (E1.s.trans ⟨g2, Gx.refl, by rw [en2, ZgX, q2]; rfl, .of v2⟩)
  rw [v2, E1.vs] at k2
  exact k2
 ·exact h g e2 (fun d hd => nomatch hd) fun C' hC' => by cases hC'; exact k.xc⟩
theorem ZmC {C : Addr} {f : Str} {ns : List Str} {i : Nat} (FL : Fls K C ns) (hn : f ∈ ns) (h : SN W te n) : SS kp W (sFld K (tVar i) te f) (sSetFN C f i n) := ⟨fun {F G ls H o en'} g e D k => by
 rcases ZF e with ⟨T0, e1, e2, e3⟩ | ⟨C', e2, rfl⟩
 ·refine h g e2 (fun T0' hT0 T G1 l1 H1 g1 gx1 he1 hv1 hT => ?_) (fun C hC => nomatch hC)
  cases hT0
  rw [← he1] at e3
  obtain ⟨c1, hc1, e4⟩ := bnd e3
  split at e4
  case isFalse => cases e4
  rename_i hz
  cases e4
  obtain ⟨p, dx, c', q1, q2, q3, q4, q6⟩ := Zlo g1.tail hc1
  obtain ⟨l2, g2, en2, v2⟩ := Zdh (cs' := putL f T c') g1 q1 (fun b => Zf2 f T b c') (fun y hy => by
   rcases ZfU _ _ _ _ hy with h | h
   ·exact .inl h
   ·exact .inr (.inl (congrArg some h)))
  rw [show hoOf (.ins C) dx (LT.vals (putL f T c')) = .ins C dx (putF f T.val ((LT.vals c').map fun x => (x.1.f, x.2))) from congrArg (HO.ins C dx) (Ze7 f _ c')] at g2
  refine ⟨_, hv1 ▸ q3, p, C, dx, _, rfl, q4, FL.cl, FL.no f hn, by rw [List.length_map, LT.vals, List.length_map, ← ZbN, q2]; exact hz, ?_⟩
  have k2 := k G1 l2 _ ⟨g2, gx1, by rw [en2, ZgX, q2, ← hT], .of (v2.trans hv1)⟩
  rw [v2, hv1] at k2
  exact k2
 ·exact h g e2 (fun d hd => nomatch hd) fun C' hC' => by cases hC'; exact k.xc⟩
end
end Kb
namespace Kb
open PySem L2 Evl
theorem Znh {F G H : Hp} {ls : Ls} {C x dx : Addr} (g : Good F G ls H) (hx : H x = none) (hd : H dx = none) (hne : dx ≠ x) : Good F G (some (.node (.ins C) x dx []) :: ls) (upd (upd H dx (.own x)) x (.ins C dx [])) := by
 have e : Ex H (upd (upd H dx (.own x)) x (.ins C dx [])) := fun a o h => by rw [upd_ne (ne_of_none h hx), upd_ne (ne_of_none h hd)]; exact h
 have g2 := g.stay e
 have hads : (LT.node (.ins C) x dx []).ads = [x, dx] := by rw [LT.ads]; simp [Kd.own, LT.adsL]
 have no : ∀ a, H a = none → a ∉ adsS ls := fun a ha h => by
  obtain ⟨o, ho⟩ := g.has h
  rw [ha] at ho
  cases ho
 have gno : ∀ a, H a = none → G a = none := fun a ha => fresh_back g.gh ha
 have fno : ∀ a, H a = none → F a = none := fun a ha => fresh_back g.fh ha
 refine ⟨g2.fh, g2.gh, ?_, fun a h => ?_, fun a h => ?_, fun t ht => ?_⟩
 ·show ((LT.node (.ins C) x dx []).ads ++ adsS ls).Nodup
  rw [hads]
  refine List.nodup_cons.mpr ⟨fun h => ?_, List.nodup_cons.mpr ⟨no dx hd, g.nd⟩⟩
  rcases List.mem_cons.mp h with h | h
  ·exact hne h.symm
  ·exact no x hx h
 ·have h : a ∈ (LT.node (.ins C) x dx []).ads ++ adsS ls := h
  rw [hads] at h
  rcases List.mem_cons.mp h with rfl | h
  ·exact gno _ hx
  rcases List.mem_cons.mp h with rfl | h
  ·exact gno _ hd
  ·exact g.gn a h
 ·have h : a ∈ (LT.node (.ins C) x dx []).ads ++ adsS ls := h
  rw [hads] at h
  rcases List.mem_cons.mp h with rfl | h
  ·exact fno _ hx
  rcases List.mem_cons.mp h with rfl | h
  ·exact fno _ hd
  ·exact g.fn a h
 ·rcases List.mem_cons.mp ht with z | z
  ·cases z
   exact LT.ok_node.mpr ⟨upd_same, by show upd (upd H dx (.own x)) x (.ins C dx []) dx = _; rw [upd_ne hne, upd_same], fun _ h => nomatch h⟩
  ·exact g2.ok t z
/-- C(e, ..): a new instance, made by its __init__ -/
noncomputable def nNew (C : Addr) (fd : FD) (a : FA) : FN := fun en => bx (a en) fun ds e1 => (fd (.node (.ins C) [] :: ds.map OT.leaf)).bind fun q => match q with
 | (.ok (.leaf .none), T :: _) => some (.ok T, e1)
 | (.ex c, _ :: _) => some (.ex c, e1)
 | _ => none
section
variable {W : WX} {ta : TA} {args : FA} {fd : FD} {C : Addr}
theorem ZqE (hfd : ∀ as r bs, fd as = some (r, bs) → bs.length = as.length) (ha : SXA W ta args) : SN W (tMakeS C (ISp fd) (WE W) ta) (nNew C fd args) := ⟨fun {F G ls H r en'} g e Q k kx => by
 rcases Zu e with ⟨ds, e1, h1, h2⟩ | ⟨C', h1, rfl⟩
 ·refine ha g h1 (fun d hd vs G1 l1 H1 E1 dv => ?_) (fun C hC => nomatch hC)
  cases hd
  intro x dx hx hdx hne
  have g2 := Znh (C := C) E1.gd hx hdx hne
  obtain ⟨⟨r1, as⟩, hf, h3⟩ := bnd h2
  have split : ∀ {ls' : Ls} {T : OT}, ens ls' = some T :: ens l1 → vals ls' = vals (some (.node (.ins C) x dx []) :: l1) → ∃ T1 l3, ls' = some T1 :: l3 ∧ T1.er = T ∧ T1.val = .ref x ∧ ens l3 = ens l1 ∧ vals l3 = vals l1 := fun {ls' T} he hv => by
   cases ls' with
   | nil => cases he
   | cons o l3 =>
    cases o with
    | none => cases he
    | some T1 =>
     have he := List.cons.inj he
     have hv := List.cons.inj hv
     exact ⟨T1, l3, rfl, Option.some.inj he.1, Option.some.inj hv.1, he.2, hv.2⟩
  have fin : ∀ (r2 : Rx OT) (e2 : En) (Q2 : VK) (hcall : ((pullE [0] (ens (some (.node (.ins C) x dx []) :: l1))).bind fun r => (fd (r.1 ++ ds.map OT.leaf)).bind fun q => match q.1 with | .ok T => some (Rx.ok T, putE [0] q.2 r.2) | .ex C => some (.ex C, putE [0] q.2 r.2)) = some (r2, e2))
    (k2 : ∀ T0, r2 = .ok T0 → ∀ T G' ls' H', Good F G' (some T :: ls') H' → Gx F G1 G' → ens ls' = e2 → vals ls' = vals (some (.node (.ins C) x dx []) :: l1) → T.er = T0 → Q2 T.val H') (kx2 : ∀ C', r2 = .ex C' → ∀ G' ls' H', End F G1 (some (.node (.ins C) x dx []) :: l1) G' ls' H' e2 → WE W (vals ls) (.ref C') none H'),
    ISp fd (.ref x :: vs) (upd (upd H1 dx (.own x)) x (.ins C dx [])) Q2 (WE W (vals ls)) := fun r2 e2 Q2 hcall k2 kx2 => by
   obtain ⟨us, hus, hI⟩ := Zh7 (Q := Q2) (E := WE W (vals ls)) g2 dv hcall hfd k2 kx2
   cases us with
   | nil => exact hus.elim
   | cons u us =>
    cases us with
    | cons _ _ => exact hus.2.elim
    | nil =>
     have : u = .ref x := (Option.some.inj (Option.some.inj hus.1)).symm
     subst this
     exact hI
  have hlen := hfd _ _ _ hf
  cases as with
  | nil => simp at hlen
  | cons T rest =>
   cases r1 with
   | ex c =>
    cases h3
    refine fin (.ex c) (some T :: ens l1) _ (by show ((fd (OT.node (Kd.ins C) [] :: ds.map OT.leaf)).bind _) = _; rw [hf]; rfl) (fun T0 h => nomatch h) fun C' hC' G' ls' H' E2 => ?_
    cases hC'
    obtain ⟨T1, l3, rfl, t1, t2, t3, t4⟩ := split E2.en E2.vs
    exact kx c rfl G' l3 H' (E1.trans ⟨E2.gd.tail, E2.gx, t3.trans E1.en, t4⟩)
   | ok R =>
    cases R with
    | node _ _ => cases h3
    | leaf d =>
     cases d with
     | none =>
      cases h3
      refine fin (.ok (.leaf .none)) (some T :: ens l1) _ (by show ((fd (OT.node (Kd.ins C) [] :: ds.map OT.leaf)).bind _) = _; rw [hf]; rfl) (fun T0 h Tr G' ls' H' g' gx' he hv hT => ?_) fun C' hC' => nomatch hC'
      cases h
      obtain ⟨T1, l3, rfl, t1, t2, t3, t4⟩ := split he hv
      have hr : Tr.val = .non := by
       cases Tr with
       | leaf v d =>
        have hd : d = .none := by injection hT
        subst hd
        have := g'.ok _ List.mem_cons_self
        have : Dt G' v .none := this
        cases this
        rfl
       | node k a dx cs => rw [LT.er] at hT; cases hT
      have := k T rfl T1 G' l3 H' g'.tail (E1.gx.trans gx') (t3.trans E1.en) (t4.trans E1.vs) t1
      rw [t2] at this
      exact ⟨hr, this⟩
     | _ => cases h3
 ·exact ha g h1 (fun d hd => nomatch hd) fun C' hC' => kx C' (rxc hC')⟩
end
end Kb
namespace Kb
open PySem L2 Evl
theorem LT.sub_app : ∀ {p q : List Nat} {t s : LT}, t.sub p = some s → t.sub (p ++ q) = s.sub q
 | [], q, t, s, h => by cases t <;> (cases h; rfl)
 | i :: p, q, .leaf v d, s, h => by cases h
 | i :: p, q, .node k a dx cs, s, h => by
  have h : ((cs[i]?).bind fun x => x.2.sub p) = some s := h
  obtain ⟨x, hx, h⟩ := bnd h
  show ((cs[i]?).bind fun x => x.2.sub (p ++ q)) = _
  rw [hx]
  exact LT.sub_app h
noncomputable abbrev FP := En → Option (Nat × List Nat)
structure SP (te : TE) (pl : FP) : Prop where
 run : ∀ {F G : Hp} {ls : Ls} {H : Hp} {i : Nat} {p : List Nat}, Good F G ls H → pl (ens ls) = some (i, p) → ∀ {Q : VK}, (∀ t s H1, Ex H H1 → ls[i]? = some (some t) → t.sub p = some s → Q s.val H1) → te (vals ls) H Q
noncomputable def subE (en : En) (i : Nat) (p : List Nat) : Option OT := ((en[i]?).join).bind fun T => T.sub p
theorem ZdW {ls : Ls} {i : Nat} {p : List Nat} {S : OT} (h : subE (ens ls) i p = some S) : ∃ t s, ls[i]? = some (some t) ∧ t.sub p = some s ∧ s.er = S := by
 obtain ⟨T, hT, h⟩ := bnd h
 have hT := join_some hT
 unfold ens at hT
 rw [List.getElem?_map] at hT
 obtain ⟨o, ho, h2⟩ := Option.map_eq_some_iff.mp hT
 cases o with
 | none => cases h2
 | some t =>
  cases h2
  rw [LT.sub_er] at h
  obtain ⟨s, hs, h3⟩ := Option.map_eq_some_iff.mp h
  exact ⟨t, s, ho, hs, h3⟩
noncomputable def pV (i : Nat) : FP := fun en => (subE en i []).map fun _ => (i, [])
theorem ZaF {i : Nat} : SP (tVar i) (pV i) := ⟨fun {F G ls H i' p} g e Q k => by
 obtain ⟨S, hS, h⟩ := Option.map_eq_some_iff.mp e
 cases h
 obtain ⟨t, s, h1, h2, h3⟩ := ZdW hS
 have : t = s := by cases t <;> (cases h2; rfl)
 subst this
 refine ⟨t.val, ?_, k t t H (Ex.refl H) h1 h2⟩
 unfold vals
 rw [List.getElem?_map, h1]
 rfl⟩
/-- where a field stands -/
noncomputable def idxF (f : Str) {α : Type} : List (Lab × α) → Option Nat
 | [] => none
 | (l, _) :: r => if f = l.f then some 0 else (idxF f r).map (· + 1)
theorem ZjX (f : Str) : ∀ cs : List (Lab × LT), idxF f (LT.erL cs) = idxF f cs
 | [] => by rw [LT.erL]; rfl
 | (l, x) :: r => by
  rw [LT.erL]
  unfold idxF
  rw [ZjX f r]
theorem ZjJ {f : Str} : ∀ {cs : List (Lab × LT)} {j : Nat}, idxF f cs = some j → ∃ x, cs[j]? = some x ∧ ((LT.vals cs).map fun x => (x.1.f, x.2)).lookup f = some x.2.val
 | [], _, h => by cases h
 | (l, x) :: r, j, h => by
  unfold idxF at h
  show ∃ y, ((l, x) :: r)[j]? = some y ∧ ((l.f, x.val) :: ((LT.vals r).map fun x => (x.1.f, x.2))).lookup f = some y.2.val
  rw [Zkm]
  by_cases z : f = l.f
  ·rw [if_pos z] at h ⊢
   cases h
   exact ⟨(l, x), rfl, rfl⟩
  ·rw [if_neg z] at h ⊢
   obtain ⟨j', hj, rfl⟩ := Option.map_eq_some_iff.mp h
   obtain ⟨y, h1, h2⟩ := ZjJ hj
   exact ⟨y, h1, h2⟩
noncomputable def pF (C : Addr) (f : Str) (pl : FP) : FP := fun en => (pl en).bind fun q => (subE en q.1 q.2).bind fun S => match S with
 | .node (.ins C') cs => if C' = C then (idxF f cs).map fun j => (q.1, q.2 ++ [j]) else none
 | _ => none
theorem Zbd {s : LT} {k : Kd} {cs : List (Lab × OT)} (h : s.er = .node k cs) : ∃ a dx c, s = .node k a dx c ∧ LT.erL c = cs := by
 cases s with
 | leaf v d => cases h
 | node k' a dx c =>
  rw [LT.er] at h
  injection h with h1 h2
  subst h1
  exact ⟨a, dx, c, rfl, h2⟩
theorem Good.at_sub {F G H : Hp} {ls : Ls} {i : Nat} {p : List Nat} {t : LT} {k : Kd} {a dx : Addr} {cs : List (Lab × LT)} (g : Good F G ls H) (h : ls[i]? = some (some t)) (hs : t.sub p = some (.node k a dx cs)) : H a = some (hoOf k dx (LT.vals cs)) ∧ ∀ x ∈ cs, x.2.ok G H :=
 let ⟨h1, _, h3⟩ := LT.ok_node.mp (LT.sub_ok hs (g.ok _ (List.mem_of_getElem? h)))
 ⟨h1, h3⟩
section
variable {K : PySem.W.Frag} {kp : Nat → Bool} {W : WX} {te ta : TE} {x : FX} {n : FN} {pl : FP}
/-- place.f -/
theorem ZdU {C : Addr} {f : Str} {ns : List Str} (FL : Fls K C ns) (hn : f ∈ ns) (h : SP ta pl) : SP (tFld K ta f) (pF C f pl) := ⟨fun {F G ls H i p} g e Q k => by
 obtain ⟨⟨i0, p0⟩, h1, e⟩ := bnd e
 obtain ⟨S, h2, e5⟩ := bnd e
 split at e5
 case h_2 => cases e5
 rename_i C' cs
 split at e5
 case isFalse => cases e5
 rename_i hc
 subst hc
 obtain ⟨j, hj, e6⟩ := Option.map_eq_some_iff.mp e5
 cases e6
 obtain ⟨t, s, q1, q2, q3⟩ := ZdW h2
 obtain ⟨a, dx, c, rfl, q4⟩ := Zbd q3
 obtain ⟨z1, z2⟩ := g.at_sub q1 q2
 rw [← q4, ZjX] at hj
 obtain ⟨y, y1, y2⟩ := ZjJ hj
 refine h.run g h1 fun t' s' H1 x1 r1 r2 => ?_
 rw [q1] at r1
 cases r1
 rw [q2] at r2
 cases r2
 refine ⟨a, C', dx, _, y.2.val, rfl, x1 _ _ z1, FL.cl, FL.no f hn, y2, k t y.2 H1 x1 q1 ?_⟩
 rw [LT.sub_app q2]
 show ((c[j]?).bind fun x => x.2.sub []) = some y.2
 rw [y1]
 show y.2.sub [] = _
 cases y.2 <;> rfl⟩
end
end Kb
namespace Kb
open PySem L2 Evl
/-- place.append(e), e told -/
noncomputable def sAppP (pl : FP) (w : FW) : FS := fun en => (w (strong en)).bind fun d => (pl en).bind fun q => ((en[q.1]?).join).bind fun T => (T.sub q.2).bind fun S => match S with
 | .node .lst cs => if lenOk cs = true then some (.nx, en.set q.1 (some (T.put q.2 (.node .lst (cs ++ [(.no, .leaf d)]))))) else none
 | _ => none
noncomputable def pI (pl : FP) (w : FW) : FP := fun en => (w (strong en)).bind fun d => (asI d).bind fun j => (pl en).bind fun q => (subE en q.1 q.2).bind fun S => match S with
 | .node .lst cs => (L2.ixN cs.length j).map fun n => (q.1, q.2 ++ [n])
 | _ => none
theorem ZiI {F G H : Hp} {o : Option LT} {ls : Ls} {i : Nat} {p : List Nat} {t : LT} {k : Kd} {a dx : Addr} {cs cs' : List (Lab × LT)} (g : Good F G (o :: ls) H) (hi : ls[i]? = some (some t)) (hs : t.sub p = some (.node k a dx cs))
  (hcnt : ∀ b, (LT.adsL cs').count b ≤ (LT.adsL cs).count b + (oads o).count b) (hc : ∀ x ∈ cs', (∃ y ∈ cs, y.2 = x.2) ∨ some x.2 = o ∨ ∃ v d, x.2 = .leaf v d ∧ Dt G v d) :
  ∃ ls', Good F G ls' (upd H a (hoOf k dx (LT.vals cs'))) ∧ ens ls' = (ens ls).set i (some (t.er.put p (.node k (LT.erL cs')))) ∧ vals ls' = vals ls := by
 have h := Good.mod (p := p) g hi hs hcnt hc
 refine ⟨_, h, ?_, Zil hi hs rfl⟩
 rw [ZbQ]
 show (ens ls).set i (some ((t.put p (.node k a dx cs')).er)) = _
 rw [LT.put_er, LT.er]
theorem Zc9 {ls : Ls} {i : Nat} {T : OT} (h : ((ens ls)[i]?).join = some T) : ∃ t, ls[i]? = some (some t) ∧ t.er = T := by
 have hT := join_some h
 unfold ens at hT
 rw [List.getElem?_map] at hT
 obtain ⟨o, ho, h2⟩ := Option.map_eq_some_iff.mp hT
 cases o with
 | none => cases h2
 | some t => cases h2; exact ⟨t, ho, rfl⟩
section
variable {K : PySem.W.Frag} {kp : Nat → Bool} {W : WX} {te ta : TE} {w : FW} {pl : FP}
theorem Zon (hp : SP ta pl) (hw : SW te w) : SS kp W (tDrop (tBM K "list" rAppend ta (tCons te tNil))) (sAppP pl w) := ⟨fun {F G ls H o en'} g e D k => by
 obtain ⟨d, h1, e1⟩ := bnd e
 obtain ⟨⟨i, p⟩, h2, e2⟩ := bnd e1
 obtain ⟨T, h3, e3⟩ := bnd e2
 obtain ⟨S, h4, e4⟩ := bnd e3
 split at e4
 case h_2 => cases e4
 rename_i cs
 split at e4
 case isFalse => cases e4
 rename_i hz
 cases e4
 obtain ⟨t, q1, rfl⟩ := Zc9 h3
 rw [LT.sub_er] at h4
 obtain ⟨s, q2, h5⟩ := Option.map_eq_some_iff.mp h4
 obtain ⟨a, dx, c, rfl, q3⟩ := Zbd h5
 obtain ⟨z1, z2⟩ := g.at_sub q1 q2
 rw [ZaZ] at z1
 refine hp.run g h2 fun t' s' H0 x0 r1 r2 => ?_
 rw [q1] at r1
 cases r1
 rw [q2] at r2
 cases r2
 refine ⟨.inl ⟨rfl, _, sq_of (x0 _ _ z1)⟩, ?_⟩
 have g0 := g.stay x0
 refine hw (Z0 g0) h1 H0 g0.gh _ fun v H1 x1 dv => ?_
 obtain ⟨g1, gx1⟩ := g0.grow x1
 have hlen : c.length < 100000 := by have := of_decide_eq_true hz; rw [← q3, ZbN] at this; exact this
 obtain ⟨l2, g2, en2, v2⟩ := ZiI (cs' := c ++ [(.no, .leaf v d)]) g1.non0 q1 q2 (fun b => by rw [Zdd, List.count_append]; show _ + ([] ++ LT.adsL []).count b ≤ _; simp [LT.adsL, oads]) (fun y hy => by
  rcases List.mem_append.mp hy with hy | hy
  ·exact .inl ⟨y, hy, rfl⟩
  ·simp at hy; subst hy; exact .inr (.inr ⟨v, d, rfl, dv⟩))
 rw [ZaZ] at g2
 refine ⟨a, _, v, rfl, rfl, x1 _ _ (x0 _ _ z1), sz_lt (by rw [List.length_map]; exact hlen), ?_⟩
 have k2 := k _ l2 _ ⟨g2, gx1, by rw [en2, Zfe, q3]; rfl, .of v2⟩
 rw [v2] at k2
 rw [List.map_append] at k2
 exact k2⟩
end
end Kb
namespace Kb
open PySem L2 Evl
noncomputable def keyOf : PyData → Option Key
 | .int i => some (.inl i)
 | .str s => some (.inr s)
 | _ => none
theorem Zgt (k : Key) : keyOf (keyD k) = some k := by cases k <;> rfl
theorem Zct {d : PyData} {k : Key} (h : keyOf d = some k) : d = keyD k := by
 unfold keyOf at h
 split at h
 ·cases h; rfl
 ·cases h; rfl
 ·cases h
noncomputable def lookK (k : Key) : List (PyData × PyData) → Option PyData
 | [] => none
 | (e, d) :: r => if keyOf e = some k then some d else lookK k r
noncomputable def isDct : List (PyData × PyData) → Bool
 | (.none, _) :: _ => false
 | _ => true
theorem Dt.dctOf {G : Hp} {v : V} {kd : List (PyData × PyData)} (h : Dt G v (.dict kd)) (hd : isDct kd = true) : ∃ (p : Addr) (kvs : List (Key × V)) (ds : List PyData), v = .ref p ∧ G p = some (.dK kvs) ∧ DtAll G (kvs.map (·.2)) ds ∧ kd = (kvs.map fun kv => keyD kv.1).zip ds := by
 generalize hk : PyData.dict kd = k at h
 cases h with
 | dct h1 h2 h3 =>
  injection hk with hk
  exact ⟨_, _, _, rfl, h1, h2, hk.trans h3⟩
 | ins h1 h2 h3 =>
  injection hk with hk
  rw [hk, h3] at hd
  cases hd
 | lkd h1 h2 h3 =>
  injection hk with hk
  rw [hk, h3] at hd
  cases hd
 | lkl h1 h2 h3 =>
  injection hk with hk
  rw [hk, h3] at hd
  cases hd
 | _ => cases hk
theorem Ze4 {G : Hp} {k : Key} : ∀ {kvs : List (Key × V)} {ds : List PyData}, DtAll G (kvs.map (·.2)) ds → (∃ v d, valV kvs k = some v ∧ lookK k ((kvs.map fun kv => keyD kv.1).zip ds) = some d ∧ Dt G v d) ∨ (valV kvs k = none ∧ lookK k ((kvs.map fun kv => keyD kv.1).zip ds) = none)
 | [], ds, h => .inr ⟨rfl, by simp [lookK]⟩
 | (g, v) :: kvs, ds, h => by
  obtain ⟨e, ds', rfl, hv, hr⟩ : ∃ e ds', ds = e :: ds' ∧ Dt G v e ∧ DtAll G (kvs.map (·.2)) ds' := by
   cases h with
   | cons h1 h2 => exact ⟨_, _, rfl, h1, h2⟩
  simp only [List.map_cons, List.zip_cons_cons, lookK, Zgt]
  by_cases z : g = k
  ·subst z
   refine .inl ⟨v, e, ?_, by rw [if_pos rfl], hv⟩
   simp [valV]
  ·have e1 : valV ((g, v) :: kvs) k = valV kvs k := by
    unfold valV
    rw [List.find?_cons_of_neg (by simpa using z)]
   rw [e1, if_neg (fun h => z (Option.some.inj h))]
   exact Ze4 hr
/-- d[k] -/
noncomputable def oDGet : PyData → PyData → Option PyData
 | .dict kd, y => if isDct kd = true then (keyOf y).bind fun k => lookK k kd else none
 | _, _ => none
/-- k in d -/
noncomputable def oDIn (neg : Bool) : PyData → PyData → Option PyData
 | y, .dict kd => if isDct kd = true then (keyOf y).map fun k => .bool (if neg then !(lookK k kd).isSome else (lookK k kd).isSome) else none
 | _, _ => none
theorem Dt.keyV {G : Hp} {v : V} {k : Key} (h : Dt G v (keyD k)) : v = kV k := by
 cases k <;> (cases h; rfl)
section
variable {ta tb : TE} {a b : FW}
theorem ZjZ (ha : SW ta a) (hb : SW tb b) : SW (tDGet ta tb) (wOp oDGet a b) := Zw (r := fun x y H2 Q => ∃ a v, x = .ref a ∧ DGet H2 a y (some v) ∧ Q v H2) ⟨fun {x y G d e r} dx dy h H gh Q q => by
 unfold oDGet at h
 split at h
 case h_2 => cases h
 rename_i kd
 split at h
 case isFalse => cases h
 rename_i hd
 obtain ⟨k, hk, h7⟩ := bnd h
 obtain rfl := Zct hk
 obtain ⟨p, kvs, ds, rfl, hp, dv, rfl⟩ := dx.dctOf hd
 obtain rfl := dy.keyV
 rcases Ze4 (k := k) dv with ⟨v, e, h1, h2, h3⟩ | ⟨_, h2⟩
 ·rw [h2] at h7
  cases h7
  exact ⟨p, v, rfl, h1 ▸ DGet.k (gh _ _ hp), q v H (Ex.refl H) (h3.up (Zp gh))⟩
 ·rw [h2] at h7
  cases h7⟩ ha hb
theorem ZkE (neg : Bool) : OpF (fun y x H2 Q => ∃ a o, x = V.ref a ∧ DGet H2 a y o ∧ Q (.bl (if neg then !o.isSome else o.isSome)) H2) (oDIn neg) := ⟨fun {y x G e d r} dy dx h H gh Q q => by
 unfold oDIn at h
 split at h
 case h_2 => cases h
 rename_i kd
 split at h
 case isFalse => cases h
 rename_i hd
 obtain ⟨k, hk, h⟩ := Option.map_eq_some_iff.mp h
 subst h
 obtain rfl := Zct hk
 obtain ⟨p, kvs, ds, rfl, hp, dv, rfl⟩ := dx.dctOf hd
 obtain rfl := dy.keyV
 refine ⟨p, valV kvs k, rfl, DGet.k (gh _ _ hp), ?_⟩
 rcases Ze4 (k := k) dv with ⟨v, e, h1, h2, h3⟩ | ⟨h1, h2⟩
 ·rw [h1]
  rw [h2] at q
  exact q _ H (Ex.refl H) (ZC fun _ z => nomatch z) (.bl _)
 ·rw [h1]
  rw [h2] at q
  exact q _ H (Ex.refl H) (ZC fun _ z => nomatch z) (.bl _)⟩
theorem Zrv (ha : SW ta a) (hb : SW tb b) : SF (tDIn ta tb) (wOp (oDIn false) a b) := Zg (r := fun y x H2 Q => ∃ a o, x = V.ref a ∧ DGet H2 a y o ∧ Q (.bl (if false then !o.isSome else o.isSome)) H2) (ZkE false) ha hb
theorem ZoF (ha : SW ta a) (hb : SW tb b) : SF (tDNotIn ta tb) (wOp (oDIn true) a b) := Zg (r := fun y x H2 Q => ∃ a o, x = V.ref a ∧ DGet H2 a y o ∧ Q (.bl (if true then !o.isSome else o.isSome)) H2) (ZkE true) ha hb
end
end Kb
namespace Kb
open PySem L2 Evl
noncomputable def nDct : FN := fun en => some (.ok (.node .dct []), en)
theorem Zla {W : WX} : SN W tDNewK nDct := ⟨fun {F G ls H r en'} g e Q k kx => by
 cases e
 intro p hp
 refine k _ rfl (.node .dct p 0 []) G ls _ (ZcF (g.stay (Ex.new hp)) rfl trivial ?_ (fresh_back g.gh hp) (fresh_back g.fh hp) (fun h => ?_) (fun _ h => nomatch h) ?_) Gx.refl rfl rfl ?_
 ·rw [upd_same]
  rfl
 ·obtain ⟨o, ho⟩ := g.has h
  rw [hp] at ho
  cases ho
 ·simp [LT.adsL]
 ·rw [LT.er, LT.erL]⟩
/-- where a key stands -/
noncomputable def idxK (k : Key) {α : Type} : List (Lab × α) → Option Nat
 | [] => none
 | (l, _) :: r => if l.k = k then some 0 else (idxK k r).map (· + 1)
theorem Zfn (k : Key) : ∀ cs : List (Lab × LT), idxK k (LT.erL cs) = idxK k cs
 | [] => by rw [LT.erL]; rfl
 | (l, x) :: r => by
  rw [LT.erL]
  unfold idxK
  rw [Zfn k r]
theorem Zfg {k : Key} : ∀ {cs : List (Lab × LT)} {j : Nat}, idxK k cs = some j → ∃ x, cs[j]? = some x ∧ valV ((LT.vals cs).map fun x => (x.1.k, x.2)) k = some x.2.val
 | [], _, h => by cases h
 | (l, x) :: r, j, h => by
  unfold idxK at h
  show ∃ y, ((l, x) :: r)[j]? = some y ∧ valV ((l.k, x.val) :: ((LT.vals r).map fun x => (x.1.k, x.2))) k = some y.2.val
  by_cases z : l.k = k
  ·rw [if_pos z] at h
   cases h
   exact ⟨(l, x), rfl, by simp [valV, z]⟩
  ·rw [if_neg z] at h
   obtain ⟨j', hj, rfl⟩ := Option.map_eq_some_iff.mp h
   obtain ⟨y, h1, h2⟩ := Zfg hj
   refine ⟨y, h1, ?_⟩
   unfold valV at h2 ⊢
   rw [List.find?_cons_of_neg (by simpa using z)]
   exact h2
noncomputable def putKT (k : Key) (d : PyData) (cs : List (Lab × OT)) : List (Lab × OT) := if (cs.any fun x => decide (x.1.k = k)) = true then cs.map (fun x => if x.1.k = k then (x.1, .leaf d) else x) else cs ++ [(.key k, .leaf d)]
noncomputable def putKL (k : Key) (v : V) (d : PyData) (cs : List (Lab × LT)) : List (Lab × LT) := if (cs.any fun x => decide (x.1.k = k)) = true then cs.map (fun x => if x.1.k = k then (x.1, .leaf v d) else x) else cs ++ [(.key k, .leaf v d)]
theorem ZmT (k : Key) (v : V) (d : PyData) (cs : List (Lab × LT)) : LT.erL (putKL k v d cs) = putKT k d (LT.erL cs) := by
 unfold putKL putKT
 have h : ((LT.erL cs).any fun x => decide (x.1.k = k)) = cs.any fun x => decide (x.1.k = k) := by rw [LT.erL_map, List.any_map]; rfl
 rw [h]
 split
 ·rw [LT.erL_map, LT.erL_map, List.map_map, List.map_map]
  refine List.map_congr_left fun x _ => ?_
  show (_, LT.er _) = _
  by_cases z : x.1.k = k
  ·simp [z, LT.er]
  ·simp [z]
 ·rw [Zfe, LT.erL_map [(Lab.key k, LT.leaf v d)]]
  rfl
theorem ZkC (k : Key) (v : V) (d : PyData) (cs : List (Lab × LT)) : ((LT.vals (putKL k v d cs)).map fun x => (x.1.k, x.2)) = putK ((LT.vals cs).map fun x => (x.1.k, x.2)) k v := by
 unfold putKL putK LT.vals
 have h : (((cs.map fun x => (x.1, x.2.val)).map fun x : Lab × V => (x.1.k, x.2)).any fun kv => decide (kv.1 = k)) = cs.any fun x => decide (x.1.k = k) := by rw [List.map_map, List.any_map]; rfl
 rw [h]
 split
 ·simp only [List.map_map]
  refine List.map_congr_left fun x _ => ?_
  by_cases z : x.1.k = k
  ·simp [z, LT.val]
  ·simp [z]
 ·simp [LT.val, Lab.k]
theorem ZlP (k : Key) (v : V) (d : PyData) (cs : List (Lab × LT)) (b : Addr) : (LT.adsL (putKL k v d cs)).count b ≤ (LT.adsL cs).count b + (oads none).count b := by
 unfold putKL
 split
 ·refine Nat.le_trans ?_ (Nat.le_add_right _ _)
  induction cs with
  | nil => exact Nat.le_refl _
  | cons x r ih =>
   rename_i h
   have ih' : (LT.adsL (r.map fun x => if x.1.k = k then (x.1, .leaf v d) else x)).count b ≤ (LT.adsL r).count b := by
    clear ih h
    induction r with
    | nil => exact Nat.le_refl _
    | cons y r ih =>
     obtain ⟨l, y⟩ := y
     simp only [List.map_cons]
     by_cases z : l.k = k
     ·simp only [z, if_true, LT.adsL, LT.ads, List.nil_append, List.count_append]
      omega
     ·simp only [z, if_false, LT.adsL, List.count_append]
      omega
   obtain ⟨l, x⟩ := x
   simp only [List.map_cons]
   by_cases z : l.k = k
   ·simp only [z, if_true, LT.adsL, LT.ads, List.nil_append, List.count_append]
    omega
   ·simp only [z, if_false, LT.adsL, List.count_append]
    omega
 ·rw [Zdd, List.count_append]
  simp [LT.adsL, LT.ads]
theorem Zll {k : Key} {v : V} {d : PyData} {cs : List (Lab × LT)} {x : Lab × LT} (h : x ∈ putKL k v d cs) : (∃ y ∈ cs, y.2 = x.2) ∨ x.2 = .leaf v d := by
 unfold putKL at h
 split at h
 ·obtain ⟨y, hy, rfl⟩ := List.mem_map.mp h
  split
  ·exact .inr rfl
  ·exact .inl ⟨y, hy, rfl⟩
 ·rcases List.mem_append.mp h with h | h
  ·exact .inl ⟨x, h, rfl⟩
  ·simp at h
   subst h
   exact .inr rfl
noncomputable def pD (pl : FP) (w : FW) : FP := fun en => (w (strong en)).bind fun d => (keyOf d).bind fun kk => (pl en).bind fun q => (subE en q.1 q.2).bind fun S => match S with
 | .node .dct cs => (idxK kk cs).map fun n => (q.1, q.2 ++ [n])
 | _ => none
theorem Zec (dx : Addr) (cs : List (Lab × LT)) : hoOf .dct dx (LT.vals cs) = .dK ((LT.vals cs).map fun x => (x.1.k, x.2)) := rfl
section
variable {K : PySem.W.Frag} {kp : Nat → Bool} {W : WX} {te ta tv : TE} {w wv : FW} {pl : FP}
/-- place[key] -/
theorem Zfd (hp : SP ta pl) (hw : SW te w) : SP (tDGet ta te) (pD pl w) := ⟨fun {F G ls H i p} g e Q k => by
 obtain ⟨d, h1, e1⟩ := bnd e
 obtain ⟨kk, hj, e1⟩ := bnd e1
 obtain ⟨⟨i0, p0⟩, h2, e2⟩ := bnd e1
 obtain ⟨S, h3, e3⟩ := bnd e2
 split at e3
 case h_2 => cases e3
 rename_i cs
 obtain ⟨m, hm, e4⟩ := Option.map_eq_some_iff.mp e3
 cases e4
 obtain ⟨t, s, q1, q2, q3⟩ := ZdW h3
 obtain ⟨a, dx, c, rfl, q4⟩ := Zbd q3
 obtain ⟨z1, z2⟩ := g.at_sub q1 q2
 rw [Zec] at z1
 rw [← q4, Zfn] at hm
 obtain ⟨y, y1, y2⟩ := Zfg hm
 refine hp.run g h2 fun t' s' H0 x0 r1 r2 => ?_
 rw [q1] at r1
 cases r1
 rw [q2] at r2
 cases r2
 have g0 := g.stay x0
 refine hw (Z0 g0) h1 H0 g0.gh _ fun v H1 x1 dv => ?_
 obtain rfl := Zct hj
 obtain rfl := dv.keyV
 refine ⟨a, y.2.val, rfl, y2 ▸ DGet.k (x1 _ _ (x0 _ _ z1)), k t y.2 H1 (x0.trans x1) q1 ?_⟩
 rw [LT.sub_app q2]
 show ((c[m]?).bind fun x => x.2.sub []) = some y.2
 rw [y1]
 show y.2.sub [] = _
 cases y.2 <;> rfl⟩
end
end Kb
namespace Kb
open PySem L2 Evl
theorem DtAll.keys {G : Hp} : ∀ kvs : List (Key × V), DtAll G (kvs.map fun kv => kV kv.1) (kvs.map fun kv => keyD kv.1)
 | [] => .nil
 | (k, v) :: r => .cons (by cases k <;> constructor) (DtAll.keys r)
end Kb
namespace Kb
open PySem L2 Evl
noncomputable def isI (C : Addr) (m : Str) : PyData → Bool
 | .dict ((.none, .int c) :: r) => decide (c = ((C : Nat) : Int)) && (lookD m r).isNone
 | _ => false
noncomputable def wMth (C : Addr) (m : Str) (f : List PyData → Option PyData) (a : FW) (s : DE → Option (List PyData)) : FW := fun ρ => (a ρ).bind fun x => if isI C m x = true then (s ρ).bind fun xs => f (x :: xs) else none
structure GlT (K : PySem.W.Frag) (mg : Str → Option Value) (x : Str) (a : Addr) (ns : List Int) : Prop where
 m : mg x = some (.ref a)
 t : ∀ H : Hp, SqT K H a (ns.map V.int)
theorem ZjF {α β : Type} (f : α → β) (l : List α) (i : Int) : L2.atI (l.map f) i = (L2.atI l i).map f := by
 unfold L2.atI
 rw [List.length_map]
 cases ixN l.length i with
 | none => rfl
 | some j => exact List.getElem?_map
section
variable {K : PySem.W.Frag} {te : TE} {w : FW} {W : WX}
noncomputable def cTupL : List PyData → Option PyData
 | [.list ds] => some (.tuple ds)
 | _ => none
theorem Zff : CbF (fun xs H Q => ∃ p ys, xs = [V.ref p] ∧ ((SqL K H p ys ∧ ∀ l, H l = none → Q (.ref l) (upd H l (.tup ys))) ∨ (SqT K H p ys ∧ Q (.ref p) H))) cTupL := ⟨fun {xs G ds d} dx e H gh Q q => by
 unfold cTupL at e
 split at e
 case h_2 => cases e
 rename_i ds
 cases e
 obtain ⟨v1, rfl, dv1⟩ := dx.one
 obtain ⟨p, xs, rfl, hp, r⟩ := dv1.ol
 refine ⟨p, xs, rfl, .inl ⟨sq_of (gh _ _ hp), fun l hl => q _ _ (Ex.new hl) (Za9 hl) (.tup (a := l) (xs := xs) ?_ (r.up ?_))⟩⟩
 ·rw [Zx hl, upd_same]
 ·exact Zp gh⟩
end
end Kb
namespace Kb
open PySem L2 Evl
section
variable {kp : Nat → Bool} {K : PySem.W.Frag} {W : WX} {te ti : TE} {x xi xv : FX} {n : FN}
noncomputable def sInsP (i : Nat) (xj xv : FX) : FS := fun en => (lstAt en i).bind fun _ => bs (xj en) fun j e1 => bs (xv e1) fun d e2 => (lstAt e2 i).bind fun cs => (asI j).bind fun j => if 0 ≤ j ∧ j ≤ 100000 ∧ lenOk cs = true then some (.nx, e2.set i (some (.node .lst ((cs.take j.toNat ++ [(.no, .leaf d)] ++ cs.drop j.toNat))))) else none
end
end Kb
namespace Kb
open PySem L2 Evl
noncomputable abbrev FT := En → Option (Rx (List OT) × En)
noncomputable def aNilT : FT := fun en => some (.ok [], en)
noncomputable def aConsT (n : FN) (r : FT) : FT := fun en => bx (n en) fun T e1 => bx (r e1) fun Ts e2 => some (.ok (T :: Ts), e2)
noncomputable def nLstT (a : FT) : FN := fun en => bx (a en) fun Ts e1 => if Ts.length ≤ 100000 then some (.ok (.node .lst (Ts.map fun T => (Lab.no, T))), e1) else none
section
variable {W : WX} {te : TE} {tr : TA} {n : FN} {s : FT}
theorem ZE (o : Option LT) (ls : Ls) : adsS (o :: ls) = oads o ++ adsS ls := rfl
end
end Kb
namespace Kb
open PySem L2 Evl
noncomputable abbrev H0 : Hp := fun _ => none
structure Own (H : Hp) (Ts : List LT) (H2 : Hp) : Prop where
 ok : ∀ T ∈ Ts, T.ok H0 H2
 nd : (Ts.flatMap LT.ads).Nodup
 fr : ∀ a ∈ Ts.flatMap LT.ads, H a = none
theorem Own.has {H H2 : Hp} {Ts : List LT} (h : Own H Ts H2) {a : Addr} (ha : a ∈ Ts.flatMap LT.ads) : ∃ o, H2 a = some o := by
 obtain ⟨T, hT, ha⟩ := List.mem_flatMap.mp ha
 exact LT.ads_some T (h.ok T hT) a ha
theorem Own.up {H H2 H3 : Hp} {Ts : List LT} (h : Own H Ts H2) (e : Ex H2 H3) : Own H Ts H3 := ⟨fun T hT => LT.ok_heap T (fun a ha => by
 obtain ⟨o, ho⟩ := h.has (List.mem_flatMap.mpr ⟨T, hT, ha⟩)
 rw [ho, e _ _ ho]) (h.ok T hT), h.nd, h.fr⟩
theorem Own.back {H H1 H2 : Hp} {Ts : List LT} (h : Own H1 Ts H2) (e : Ex H H1) : Own H Ts H2 := ⟨h.ok, h.nd, fun a ha => fresh_back e (h.fr a ha)⟩
theorem Own.cons {H H1 H2 : Hp} {T : LT} {Ts : List LT} (h1 : Own H [T] H1) (e1 : Ex H H1) (h2 : Own H1 Ts H2) (e2 : Ex H1 H2) : Own H (T :: Ts) H2 := by
 have u := h1.up e2
 have b := h2.back e1
 have m1 : ∀ a, a ∈ [T].flatMap LT.ads ↔ a ∈ T.ads := fun a => by simp
 refine ⟨fun t ht => ?_, ?_, fun a ha => ?_⟩
 ·rcases List.mem_cons.mp ht with rfl | ht
  ·exact u.ok _ List.mem_cons_self
  ·exact b.ok t ht
 ·rw [List.flatMap_cons]
  refine List.nodup_append.mpr ⟨by have := h1.nd; simpa using this, h2.nd, fun a ha c hc e => ?_⟩
  subst e
  obtain ⟨o, ho⟩ := h1.has ((m1 a).mpr ha)
  rw [h2.fr a hc] at ho
  cases ho
 ·rw [List.flatMap_cons] at ha
  rcases List.mem_append.mp ha with ha | ha
  ·exact h1.fr a ((m1 a).mpr ha)
  ·exact b.fr a ha
theorem Own.snoc {H H1 H2 : Hp} {T : LT} {Ts : List LT} (h1 : Own H Ts H1) (e1 : Ex H H1) (h2 : Own H1 [T] H2) (e2 : Ex H1 H2) : Own H (Ts ++ [T]) H2 := by
 have u := h1.up e2
 have b := h2.back e1
 refine ⟨fun t ht => ?_, ?_, fun a ha => ?_⟩
 ·rcases List.mem_append.mp ht with ht | ht
  ·exact u.ok t ht
  ·exact b.ok t ht
 ·rw [List.flatMap_append]
  refine List.nodup_append.mpr ⟨h1.nd, h2.nd, fun a ha c hc e => ?_⟩
  subst e
  obtain ⟨o, ho⟩ := h1.has ha
  rw [h2.fr a hc] at ho
  cases ho
 ·rw [List.flatMap_append] at ha
  rcases List.mem_append.mp ha with ha | ha
  ·exact h1.fr a ha
  ·exact b.fr a ha
noncomputable abbrev FO := DE → Option OT
noncomputable abbrev FOs := DE → Option (List OT)
noncomputable def tF (w : FW) : FO := fun ρ => (w ρ).bind fun d => if flatD d = true then some (.leaf d) else none
noncomputable def tNilO : FOs := fun _ => some []
noncomputable def tConsO (t : FO) (r : FOs) : FOs := fun ρ => (t ρ).bind fun T => (r ρ).map (T :: ·)
noncomputable def tNode (k : Kd) (r : FOs) : FO := fun ρ => (r ρ).bind fun Ts => if Ts.length ≤ 100000 then some (.node k (Ts.map fun T => (Lab.no, T))) else none
section
variable {K : PySem.W.Frag} {te : TE} {ta : TA} {tt : TT} {w : FW} {t : FO} {r : FOs} {W : WX}
/-- what is new and flat within: list(e), sorted(e), [..] of flat things -/
noncomputable def tNew (w : FW) : FO := fun ρ => (w ρ).bind fun d => match d with
 | .list ds => if ds.all flatD = true then some (lstT ds) else none
 | _ => none
/-- an own thing, all being read -/
noncomputable def nT (t : FO) : FN := fun en => okx en (t (weak en))
theorem Good.own {F G H H2 : Hp} {ls : Ls} {T : LT} (g : Good F G ls H) (e : Ex H H2) (o : Own H [T] H2) : Good F G (some T :: ls) H2 := by
 have gs := g.stay e
 have m1 : ∀ a, a ∈ [T].flatMap LT.ads ↔ a ∈ T.ads := fun a => by simp
 refine ⟨gs.fh, gs.gh, ?_, fun a ha => ?_, fun a ha => ?_, fun t ht => ?_⟩
 ·rw [ZE]
  refine List.nodup_append.mpr ⟨by have := o.nd; show T.ads.Nodup; simpa using this, gs.nd, fun a ha c hc z => ?_⟩
  subst z
  obtain ⟨u, hu⟩ := g.has hc
  rw [o.fr a ((m1 a).mpr ha)] at hu
  cases hu
 ·rw [ZE] at ha
  rcases List.mem_append.mp ha with ha | ha
  ·exact fresh_back g.gh (o.fr a ((m1 a).mpr ha))
  ·exact gs.gn a ha
 ·rw [ZE] at ha
  rcases List.mem_append.mp ha with ha | ha
  ·exact fresh_back g.fh (o.fr a ((m1 a).mpr ha))
  ·exact gs.fn a ha
 ·rcases List.mem_cons.mp ht with z | z
  ·cases z
   exact LT.ok_mono (fun _ _ h => by cases h) T (o.ok T List.mem_cons_self)
  ·exact gs.ok t z
noncomputable def tCal (f : List PyData → Option OT) (s : DE → Option (List PyData)) : FO := fun ρ => (s ρ).bind f
mutual
noncomputable def OT.deep : OT → Bool
 | .leaf d => flatD d
 | .node _ cs => OT.deepL cs
noncomputable def OT.deepL : List (Lab × OT) → Bool
 | [] => true
 | (_, t) :: r => t.deep && OT.deepL r
end
end
end Kb
namespace Kb
open PySem L2 Evl
inductive Itm
 | t (T : OT)
 | m (i : Nat)
noncomputable abbrev FM := En → Option (Rx (List Itm) × En)
noncomputable def aNilM : FM := fun en => some (.ok [], en)
noncomputable def aConsV (i : Nat) (r : FM) : FM := fun en => ((en[i]?).join).bind fun _ => bx (r en) fun Ts e2 => some (.ok (.m i :: Ts), e2)
noncomputable def mkIts : List Itm → En → Option (List OT × En)
 | [], en => some ([], en)
 | .t T :: r, en => (mkIts r en).map fun q => (T :: q.1, q.2)
 | .m i :: r, en => ((en[i]?).join).bind fun T => (mkIts r (en.set i none)).map fun q => (T :: q.1, q.2)
section
variable {kp : Nat → Bool} {W : WX} {te : TE} {tr : TA} {n : FN} {s : FM}
noncomputable def keptOk (kp : Nat → Bool) (its : List Itm) : Bool := its.all fun x => match x with
 | .m i => !kp i
 | _ => true
noncomputable def sRetMk (kp : Nat → Bool) (k : Kd) (a : FM) : FS := fun en => bs (a en) fun its e1 => if keptOk kp its = true then (mkIts its e1).bind fun q => if q.1.length ≤ 100000 then some (.rt (.node k (q.1.map fun T => (Lab.no, T))), q.2) else none else none
end
end Kb
namespace Kb
open PySem L2 Evl
noncomputable def sPutP (pl : FP) (w : FW) (xv : FX) : FS := fun en => bs (xv en) fun d e1 => (pl e1).bind fun q => (w (strong e1)).bind fun dj => (asI dj).bind fun j => ((e1[q.1]?).join).bind fun T => (T.sub q.2).bind fun S => match S with
 | .node .lst cs => (L2.ixN cs.length j).map fun n => (.nx, e1.set q.1 (some (T.put q.2 (.node .lst (cs.set n (.no, .leaf d))))))
 | _ => none
end Kb
namespace L2
open PySem PySem.Spec PyProof.Rows
section
variable {X : Cx} {tg : Expr}
noncomputable def iSeq (K : PySem.W.Frag) (tl : TE) : TI := fun σ H R => tl σ H fun x H1 => ∃ a, x = .ref a ∧ (((∃ xs, SqL K H1 a xs) ∧ R (Itl K a) H1) ∨ ((∃ xs, SqT K H1 a xs) ∧ R (Itt K a) H1))
/-- for x in e, e a list or a tuple -/
theorem Zrt {l : Expr} {tl : TE} (hl : PE X l tl) : PI X tg l (iSeq X.K tl) := by
 refine ⟨fun pins s σ H R I h => ?_⟩
 refine thn (hl.run pins s σ H _ I h) fun v s1 ⟨x, H1, I1, r1, q1⟩ => ?_
 obtain ⟨a, e, ⟨⟨xs, hq⟩, q⟩ | ⟨⟨xs, hq⟩, q⟩⟩ := q1
 ·subst e
  cases r1
  obtain ⟨its, rv, p, hz⟩ := I1.list hq
  refine wpAny_pyIter_list p.isList ?_
  refine ⟨s1.heap.objs.size, [s1.heap.objs.size], _, _, H1, rfl, I1.kept (t' := s1.toks) fun b o e => Heap.get?_push_of_some _ e, turn_list a _, ⟨_, Heap.get?_push_size _ rfl, rfl, rfl⟩, fun b hb => ?_, q⟩
  have e : b = s1.heap.objs.size := by simpa using hb
  subst e
  exact I1.fpOk (Nat.le_refl _) (I1.hok.fresh (Nat.le_refl _))
 ·subst e
  cases r1
  obtain ⟨its, rv, p, hz⟩ := I1.tuple hq
  refine wpAny_pyIter_tuple (show s1.heap.IsTuple a its.toArray from p) ?_
  refine ⟨s1.heap.objs.size, [s1.heap.objs.size], _, _, H1, rfl, I1.kept (t' := s1.toks) fun b o e => Heap.get?_push_of_some _ e, turn_tuple a _, ⟨_, Heap.get?_push_size _ rfl, rfl, rfl⟩, fun b hb => ?_, q⟩
  have e : b = s1.heap.objs.size := by simpa using hb
  subst e
  exact I1.fpOk (Nat.le_refl _) (I1.hok.fresh (Nat.le_refl _))
end
section
variable {P : Program} {w : World} {A : Around} {E : Value → Shared → Prop} {s : Shared}
/-- set(xs), xs a tuple of ints -/
theorem Zi5 {l : Addr} {items : Array Value} (ns : List Int) {Q : Value → Shared → Prop} (hh : A.handled = none) (hl : s.heap.IsTuple l items) (hit : IntsAre items.toList ns) (hb : ns.length + 1 < scanBound)
  (h : ∀ (h' : Heap) (tk c : Nat), SetR w h' s.heap.objs.size (fun j => decide (j ∈ ns)) c → c ≤ ns.length → (∀ b o, s.heap.get? b = some o → h'.get? b = some o) → Q (.ref s.heap.objs.size) { s with heap := h', toks := tk }) :
  wpAny (model P w) A (call (.type "set") [.ref l]) Q E s := by
 have hisz : items.size = ns.length := by
  have q := IntsAre.length hit
  rw [Array.length_toList] at q
  exact q
 have hval : ∀ (i : Nat) (v : Value), items[i]? = some v → ∃ k t, ns[i]? = some k ∧ v = .int k t := fun i v hv => by
  have hi : i < ns.length := by rw [← hisz]; exact (Array.getElem?_eq_some_iff.mp hv).1
  obtain ⟨t, e⟩ := PyProof.Rows.IntsAre.int_at hit i v (by rw [Array.getElem?_toList]; exact hv)
  refine ⟨ns[i], t, List.getElem?_eq_getElem hi, ?_⟩
  rw [e, List.getD_eq_getElem?_getD, List.getElem?_eq_getElem hi] <;> rfl
 refine ZgB (fun h' => ∃ c, SetR w h' s.heap.objs.size (fun j => decide (j ∈ ns)) c ∧ c ≤ ns.length) hh (fun A' R E' hA hR => ?_) fun h' tk ⟨c, hS, hc⟩ hk => h h' tk c hS hc hk
 obtain ⟨ol, hol, hcl, hdl⟩ := id hl
 have hlS : l < s.heap.objs.size := Heap.lt_size hol
 have hS : (s.heap.push (kbSet0 w)).get? s.heap.objs.size = some (kbSet0 w) := Heap.get?_push_size _ rfl
 have hl1 : (s.heap.push (kbSet0 w)).IsTuple l items := hl.push _
 refine ZjM (T := "tuple") ⟨ol, Heap.get?_push_of_some _ hol, hcl⟩ F.sub_tuple_set F.sub_tuple_frozenset (by decide) hS (wpAny_pyIter_tuple hl1 fun Rc hRc => ?_)
 have hneI : l ≠ (s.heap.push (kbSet0 w)).objs.size := by
  rw [Heap.size_push]; exact Nat.ne_of_lt (Nat.lt_succ_of_lt hlS)
 have hSf : s.heap.objs.size ∉ [(s.heap.push (kbSet0 w)).objs.size, l] := by
  rw [Heap.size_push]; simp only [List.mem_cons, List.mem_singleton, List.not_mem_nil, or_false, not_or]
  exact ⟨Nat.ne_of_lt (Nat.lt_succ_self _), Nat.ne_of_gt hlS⟩
 refine set_update_ints ((Walks.tuple (by simp [hA]) _ l hneI items).toS) s.heap.objs.size hSf ns hisz hb hval (items.size - 0) 0 _ (by omega) (Nat.zero_le _)
  ⟨⟨_, Heap.get?_push_size _ rfl, rfl, rfl⟩, (hl1.push _)⟩ ⟨0, Nat.le_refl 0, setR_new_at (Heap.get?_push_of_some _ hS)⟩ fun s' c' hm hc' hS' => hRc s' ?_
 obtain ⟨h', g2, d', tk', os'⟩ := s'
 have eg : g2 = s.gens := hm.gens
 have ed : d' = s.drawn := hm.drawn
 have eo : os' = s.os := hm.os
 subst eg; subst ed; subst eo
 rw [hisz] at hc'
 refine hR h' tk' ⟨c', hS', hc'⟩ fun b o e => ?_
 have hb0 : b < s.heap.objs.size := Heap.lt_size e
 have hb1 : b ≠ s.heap.objs.size := Nat.ne_of_lt hb0
 have hb2 : b ≠ (s.heap.push (kbSet0 w)).objs.size := by
  rw [Heap.size_push]; exact Nat.ne_of_lt (Nat.lt_succ_of_lt hb0)
 exact hm.heap b o (by simp only [List.mem_cons, List.mem_singleton, List.not_mem_nil, or_false, not_or]; exact ⟨hb1, hb2⟩) (Heap.get?_push_of_some _ (Heap.get?_push_of_some _ e))
end
section
variable {X : Cx}
/-- set(xs), xs a list or a tuple of ints -/
noncomputable def rSetQ (K : PySem.W.Frag) (w : World) : List V → Hp → VK → Prop := fun vs H Q => ∃ (a : Addr) (ns : List Int), vs = [V.ref a] ∧ (SqL K H a (ns.map V.int) ∨ SqT K H a (ns.map V.int)) ∧ ns.length ≤ 1000 ∧
 ∀ p c, H p = none → c ≤ ns.length → Q (.ref p) (upd H p (SetO w p (fun j => decide (j ∈ ns)) c))
theorem ZgV (hc : X.calm = true) : CallR X (.type "set") (rSetQ X.K X.w) := by
 intro pins s σ H xs us Q I r h
 obtain ⟨l, ns, rfl, hl | hl, hf, q⟩ := h
 ·exact Zox hc pins s σ H _ us Q I r ⟨l, ns, rfl, hl, hf, q⟩
 ·rw [Vals.ref1 r]
  obtain ⟨its, rv, pl, hz⟩ := I.tuple hl
  have hn : H s.heap.objs.size = none := I.hok.fresh (Nat.le_refl _)
  refine Zi5 (P := X.prog) (w := X.w) ns (I.ok.hd hc) (show s.heap.IsTuple l its.toArray from pl) (by simpa using ints_of_vals rv) (by unfold scanBound; omega) fun h' tk c R hcn k => ?_
  exact ⟨.ref s.heap.objs.size, upd H s.heap.objs.size (SetO X.w s.heap.objs.size _ c), I.laid (t' := tk) k (Nat.le_refl _) (setO_new R), rfl, q _ c hn hcn⟩
end
end L2
namespace Kb
open PySem L2 Evl
noncomputable def asQ : PyData → Option (List PyData)
 | .list ds => some ds
 | .tuple ds => some ds
 | _ => none
noncomputable def itQ (a : FW) : DE → Option (List PyData) := fun en => (a en).bind asQ
section
variable {K : PySem.W.Frag} {w : World} {W : WX} {ta : TE} {a : FW} {x : FX}
theorem Zp9 (ha : SW ta a) : SI (iSeq K ta) (itQ a) := ⟨fun {en σ G ds} h e H gh R k => by
 obtain ⟨y, hy, e⟩ := bnd e
 refine ha h hy H gh _ fun v H1 e1 dv => ?_
 have g1 := Zh gh e1
 cases y with
 | list es =>
  cases e
  obtain ⟨p, xs, rfl, hp, r⟩ := dv.ol
  refine ⟨p, rfl, .inl ⟨⟨xs, sq_of (g1 _ _ hp)⟩, k _ H1 _ _ e1 (r.len ▸ walk_list (K := K) (a := p) (xs := xs)) (fun H' e' => sq_of (e' _ _ hp)) fun i x Ha Hb Gi hi gg gi hy => ?_⟩⟩
  obtain ⟨rfl, hxi⟩ := hy
  obtain ⟨dd, hd, ddt⟩ := r.at' hxi
  exact ⟨Ex.refl _, dd, hd, (ddt.up gg).up (Zp gi)⟩
 | tuple es =>
  cases e
  obtain ⟨p, xs, rfl, hp, r⟩ := dv.ot
  refine ⟨p, rfl, .inr ⟨⟨xs, st_of (g1 _ _ hp)⟩, k _ H1 _ _ e1 (r.len ▸ walk_tup (K := K) (a := p) (xs := xs)) (fun H' e' => st_of (e' _ _ hp)) fun i x Ha Hb Gi hi gg gi hy => ?_⟩⟩
  obtain ⟨rfl, hxi⟩ := hy
  obtain ⟨dd, hd, ddt⟩ := r.at' hxi
  exact ⟨Ex.refl _, dd, hd, (ddt.up gg).up (Zp gi)⟩
 | _ => cases e⟩
end
end Kb
namespace Kb
open PySem L2 Evl
section
variable {kp : Nat → Bool} {K : PySem.W.Frag} {W : WX} {te ti : TE} {ta : TA} {s : FA} {n : FN} {xi : FX}
noncomputable def nCallO (f : List PyData → Option OT) (a : FA) : FN := fun en => bx (a en) fun xs e1 => okx e1 (f xs)
noncomputable def nCallXO (f : List PyData → Option (Rx OT)) (a : FA) : FN := fun en => bx (a en) fun xs e1 => (f xs).map fun r => (r, e1)
/-- n[j], n a new tuple of one's own: the other parts are left behind -/
noncomputable def nIxT (n : FN) (j : Nat) : FN := fun en => bx (n en) fun T e1 => match T with
 | .node .tup cs => okx e1 ((cs[j]?).map Prod.snd)
 | _ => none
/-- i.insert(j, n), n a new thing of one's own -/
noncomputable def sInsN (i : Nat) (xj : FX) (n : FN) : FS := fun en => (lstAt en i).bind fun _ => bs (xj en) fun j e1 => bs (n e1) fun T e2 => (lstAt e2 i).bind fun cs => (asI j).bind fun j => if 0 ≤ j ∧ j ≤ 100000 ∧ lenOk cs = true then some (.nx, e2.set i (some (.node .lst ((cs.take j.toNat ++ [(.no, T)] ++ cs.drop j.toNat))))) else none
end
end Kb
namespace Kb
open PySem L2 Evl
section
variable {α β : Type}
noncomputable def wvM : List Bool → List α → List α → List α
 | true :: m, a :: A, B => a :: wvM m A B
 | false :: m, A, b :: B => b :: wvM m A B
 | _, _, _ => []
noncomputable def uoM : List Bool → List α → List α
 | true :: m, x :: xs => x :: uoM m xs
 | false :: m, _ :: xs => uoM m xs
 | _, _ => []
noncomputable def utM : List Bool → List α → List α
 | true :: m, _ :: xs => utM m xs
 | false :: m, x :: xs => x :: utM m xs
 | _, _ => []
theorem Zfc (f : α → β) : ∀ (m : List Bool) (A B : List α), (wvM m A B).map f = wvM m (A.map f) (B.map f)
 | [], _, _ => rfl
 | true :: m, a :: A, B => by simp only [wvM, List.map_cons, Zfc f m A B]
 | true :: m, [], B => rfl
 | false :: m, A, b :: B => by simp only [wvM, List.map_cons, Zfc f m A B]
 | false :: m, A, [] => rfl
theorem Zc5 (f : α → β) : ∀ (m : List Bool) (A : List α), (uoM m A).map f = uoM m (A.map f)
 | [], _ => rfl
 | true :: m, a :: A => by simp only [uoM, List.map_cons, Zc5 f m A]
 | true :: m, [] => rfl
 | false :: m, b :: B => by simp only [uoM, List.map_cons, Zc5 f m B]
 | false :: m, [] => rfl
theorem Zc6 (f : α → β) : ∀ (m : List Bool) (A : List α), (utM m A).map f = utM m (A.map f)
 | [], _ => rfl
 | true :: m, a :: A => by simp only [utM, List.map_cons, Zc6 f m A]
 | true :: m, [] => rfl
 | false :: m, b :: B => by simp only [utM, List.map_cons, Zc6 f m B]
 | false :: m, [] => rfl
theorem Zgq : ∀ (m : List Bool) (A B : List α), A.length = m.count true → B.length = m.count false → uoM m (wvM m A B) = A ∧ utM m (wvM m A B) = B ∧ (wvM m A B).length = m.length
 | [], [], [], _, _ => ⟨rfl, rfl, rfl⟩
 | [], _ :: _, _, h, _ => by simp at h
 | [], _, _ :: _, _, h => by simp at h
 | true :: m, [], B, h, _ => by simp at h
 | true :: m, a :: A, B, h, h' => by
  obtain ⟨q1, q2, q3⟩ := Zgq m A B (by simpa using h) (by simpa using h')
  exact ⟨by rw [wvM, uoM, q1], by rw [wvM, utM, q2], by rw [wvM, List.length_cons, List.length_cons, q3]⟩
 | false :: m, A, [], _, h => by simp at h
 | false :: m, A, b :: B, h, h' => by
  obtain ⟨q1, q2, q3⟩ := Zgq m A B (by simpa using h) (by simpa using h')
  exact ⟨by rw [wvM, uoM, q1], by rw [wvM, utM, q2], by rw [wvM, List.length_cons, List.length_cons, q3]⟩
theorem Zit : ∀ (m : List Bool) (X : List α), X.length = m.length → (uoM m X).length = m.count true ∧ (utM m X).length = m.count false
 | [], [], _ => ⟨rfl, rfl⟩
 | [], _ :: _, h => by simp at h
 | true :: m, [], h => by simp at h
 | false :: m, [], h => by simp at h
 | true :: m, a :: A, h => by
  obtain ⟨q1, q2⟩ := Zit m A (by simpa using h)
  exact ⟨by rw [uoM, List.length_cons, q1]; simp, by rw [utM, q2]; simp⟩
 | false :: m, a :: A, h => by
  obtain ⟨q1, q2⟩ := Zit m A (by simpa using h)
  exact ⟨by rw [uoM, q1]; simp, by rw [utM, List.length_cons, q2]; simp⟩
theorem Zie {x : α} : ∀ {m : List Bool} {A B : List α}, x ∈ wvM m A B → x ∈ A ∨ x ∈ B
 | [], _, _, h => by simp [wvM] at h
 | true :: m, [], B, h => by simp [wvM] at h
 | false :: m, A, [], h => by simp [wvM] at h
 | true :: m, a :: A, B, h => by
  rcases List.mem_cons.mp h with rfl | h
  ·exact .inl List.mem_cons_self
  ·exact (Zie h).imp (List.mem_cons_of_mem _) id
 | false :: m, A, b :: B, h => by
  rcases List.mem_cons.mp h with rfl | h
  ·exact .inr List.mem_cons_self
  ·exact (Zie h).imp id (List.mem_cons_of_mem _)
theorem Ze1 {x : α} : ∀ {m : List Bool} {A : List α}, x ∈ uoM m A ∨ x ∈ utM m A → x ∈ A
 | [], _, h => by simp [uoM, utM] at h
 | true :: m, [], h => by simp [uoM, utM] at h
 | false :: m, [], h => by simp [uoM, utM] at h
 | true :: m, a :: A, h => by
  rcases h with h | h
  ·rcases List.mem_cons.mp h with rfl | h
   ·exact List.mem_cons_self
   ·exact List.mem_cons_of_mem _ (Ze1 (.inl h))
  ·exact List.mem_cons_of_mem _ (Ze1 (.inr h))
 | false :: m, a :: A, h => by
  rcases h with h | h
  ·exact List.mem_cons_of_mem _ (Ze1 (.inl h))
  ·rcases List.mem_cons.mp h with rfl | h
   ·exact List.mem_cons_self
   ·exact List.mem_cons_of_mem _ (Ze1 (.inr h))
end
theorem ZiJ (b : Addr) : ∀ (m : List Bool) (A B : List LT), (adsS ((wvM m A B).map some)).count b ≤ (adsS (A.map some)).count b + (adsS (B.map some)).count b
 | [], _, _ => Nat.zero_le _
 | true :: m, [], B => Nat.zero_le _
 | false :: m, A, [] => Nat.zero_le _
 | true :: m, a :: A, B => by
  have := ZiJ b m A B
  rw [wvM, List.map_cons, List.map_cons, ZE, ZE, List.count_append, List.count_append]
  omega
 | false :: m, A, a :: B => by
  have := ZiJ b m A B
  rw [wvM, List.map_cons, List.map_cons, ZE, ZE, List.count_append, List.count_append]
  omega
theorem Ziq (b : Addr) : ∀ (m : List Bool) (A : List LT), (adsS ((uoM m A).map some)).count b + (adsS ((utM m A).map some)).count b ≤ (adsS (A.map some)).count b
 | [], _ => Nat.zero_le _
 | true :: m, [] => Nat.zero_le _
 | false :: m, [] => Nat.zero_le _
 | true :: m, a :: A => by
  have := Ziq b m A
  rw [uoM, utM, List.map_cons, List.map_cons, ZE, ZE, List.count_append, List.count_append]
  omega
 | false :: m, a :: A => by
  have := Ziq b m A
  rw [uoM, utM, List.map_cons, List.map_cons, ZE, ZE, List.count_append, List.count_append]
  omega
noncomputable def prm (m : List Bool) (fd : FD) : FD := fun as => if as.length = m.length then (fd (wvM m (as.take (m.count true)) (as.drop (m.count true)))).map fun q => (q.1, uoM m q.2 ++ utM m q.2) else none
theorem ISp.prm {m : List Bool} {fd : FD} (hfd : ∀ as r bs, fd as = some (r, bs) → bs.length = as.length) {us vs : List V} (hu : us.length = m.count true) (hv : vs.length = m.count false) {H : Hp} {Q : VK} {E : XK} (h : ISp (prm m fd) (us ++ vs) H Q E) : ISp fd (wvM m us vs) H Q E := by
 obtain ⟨F, G, ts, r, as, e1, g, hd, q1, q2⟩ := h
 obtain ⟨t1, t2, rfl, h1, h2⟩ := List.map_eq_append_iff.mp e1.symm
 obtain ⟨_, hd⟩ := Z4 hd
 obtain ⟨⟨r', bs⟩, hb, he⟩ := Option.map_eq_some_iff.mp hd
 cases he
 have l1 : t1.length = m.count true := by rw [← hu, ← h1, List.length_map]
 have l2 : t2.length = m.count false := by rw [← hv, ← h2, List.length_map]
 rw [List.map_append, List.take_left' (by rw [List.length_map, l1]), List.drop_left' (by rw [List.length_map, l1]), ← Zfc] at hb
 have hl := hfd _ _ _ hb
 rw [List.length_map, (Zgq m t1 t2 l1 l2).2.2] at hl
 obtain ⟨w1, w2, w3⟩ := Zgq m us vs hu hv
 have pk : ∀ {o : Ls} {ts' : List LT} {G' H' : Hp}, Good F G' (o ++ ts'.map some) H' → Good F G' (o ++ (uoM m ts' ++ utM m ts').map some) H' := fun {o ts' G' H'} g' => g'.pick (fun b => by
  rw [Zr, Zr, List.map_append, Zr, List.count_append, List.count_append, List.count_append]
  have := Ziq b m ts'
  omega) fun t ht => by
  rcases List.mem_append.mp ht with ht | ht
  ·exact g'.ok t (List.mem_append_left _ ht)
  ·obtain ⟨t', ht', e⟩ := List.mem_map.mp ht
   cases e
   exact g'.ok _ (List.mem_append_right _ (List.mem_map.mpr ⟨_, Ze1 (List.mem_append.mp ht'), rfl⟩))
 refine ⟨F, G, wvM m t1 t2, r', bs, by rw [Zfc, h1, h2], g.pick (fun b => ?_) (fun t ht => ?_), hb, fun T0 hT0 T G' ts' H' g' gx b1 b2 hT => ?_, fun C hC G' ts' H' g' gx b1 b2 => ?_⟩
 ·rw [List.map_append, Zr, List.count_append]
  exact ZiJ b m t1 t2
 ·obtain ⟨t', ht', e⟩ := List.mem_map.mp ht
  cases e
  exact g.ok _ (List.mem_map.mpr ⟨_, List.mem_append.mpr (Zie ht'), rfl⟩)
 ·exact q1 T0 hT0 T G' _ H' (pk (o := [some T]) g') gx (by rw [List.map_append, Zc5, Zc6, b1]) (by rw [List.map_append, Zc5, Zc6, b2, w1, w2]) hT
 ·exact q2 C hC G' _ H' (pk (o := []) g') gx (by rw [List.map_append, Zc5, Zc6, b1]) (by rw [List.map_append, Zc5, Zc6, b2, w1, w2])
theorem ZpA {m : List Bool} {fd : FD} (hfd : ∀ as r bs, fd as = some (r, bs) → bs.length = as.length) : ∀ as r bs, prm m fd as = some (r, bs) → bs.length = as.length := fun as r bs h => by
 have hl : as.length = m.length := by
  unfold prm at h
  split at h
  ·assumption
  ·cases h
 unfold prm at h
 rw [if_pos hl] at h
 obtain ⟨⟨r', b'⟩, hb, he⟩ := Option.map_eq_some_iff.mp h
 cases he
 have hc : m.count true + m.count false = m.length := by
  clear h hb hl
  induction m with
  | nil => rfl
  | cons a m ih => cases a <;> simp <;> omega
 have := hfd _ _ _ hb
 rw [(Zgq m _ _ (by rw [List.length_take]; omega) (by rw [List.length_drop]; omega)).2.2] at this
 obtain ⟨q1, q2⟩ := Zit m b' this
 rw [List.length_append, q1, q2]
 omega
inductive DtM (G : Hp) (σ : L2.St) : List (Option Nat) → List V → List PyData → Prop
 | nil : DtM G σ [] [] []
 | own {i : Nat} {v : V} {ms : List (Option Nat)} {vs : List V} {ds : List PyData} : σ[i]? = some (some v) → DtM G σ ms vs ds → DtM G σ (some i :: ms) (v :: vs) ds
 | dat {v : V} {d : PyData} {ms : List (Option Nat)} {vs : List V} {ds : List PyData} : Dt G v d → DtM G σ ms vs ds → DtM G σ (none :: ms) (v :: vs) (d :: ds)
theorem DtM.up {G G' : Hp} {σ : L2.St} (e : Ex G G') {ms : List (Option Nat)} {vs : List V} {ds : List PyData} (h : DtM G σ ms vs ds) : DtM G' σ ms vs ds := by
 induction h with
 | nil => exact .nil
 | own h _ ih => exact .own h ih
 | dat h _ ih => exact .dat (h.up e) ih
theorem DtM.cut {G : Hp} {σ : L2.St} {ms : List (Option Nat)} {vs : List V} {ds : List PyData} (h : DtM G σ ms vs ds) : ∃ us vd, AtV σ (ms.filterMap id) us ∧ DtAll G vd ds ∧ vs = wvM (ms.map Option.isSome) us vd ∧ us.length = (ms.map Option.isSome).count true ∧ vd.length = (ms.map Option.isSome).count false := by
 induction h with
 | nil => exact ⟨[], [], trivial, .nil, rfl, rfl, rfl⟩
 | own h _ ih =>
  obtain ⟨us, vd, h1, h2, h3, h4, h5⟩ := ih
  exact ⟨_ :: us, vd, ⟨h, h1⟩, h2, by rw [h3]; rfl, by simp [h4], by simp [h5]⟩
 | dat h _ ih =>
  obtain ⟨us, vd, h1, h2, h3, h4, h5⟩ := ih
  exact ⟨us, _ :: vd, h1, .cons h h2, by rw [h3]; cases us <;> rfl, by simp [h4], by simp [h5]⟩
structure SXK (W : WX) (ta : TA) (ms : List (Option Nat)) (x : FA) : Prop where
 run : ∀ {F G : Hp} {ls : Ls} {H : Hp} {r : Rx (List PyData)} {en' : En}, Good F G ls H → x (ens ls) = some (r, en') → ∀ {Q : List V → Hp → Prop}, (∀ ds, r = .ok ds → ∀ vs G' ls' H', End F G ls G' ls' H' en' → DtM G' (vals ls) ms vs ds → Q vs H') → (∀ C, r = .ex C → XC W F G ls C en') → ta (vals ls) H Q
noncomputable def aOwn (i : Nat) (s : FA) : FA := fun en => ((en[i]?).join).bind fun _ => s en
section
variable {W : WX} {ta tr : TA} {te : TE} {x : FX} {s args : FA} {ms : List (Option Nat)} {fd : FD}
theorem Zeb : SXK W tNil [] aNilX := ⟨fun {F G ls H r en'} g e Q k kx => by
 cases e
 exact k [] rfl [] G ls H ⟨g, Gx.refl, rfl, rfl⟩ .nil⟩
theorem Zbt {i : Nat} (hr : SXK W tr ms s) : SXK W (tCons (tVar i) tr) (some i :: ms) (aOwn i s) := ⟨fun {F G ls H r en'} g e Q k kx => by
 obtain ⟨T, hT, e⟩ := bnd e
 obtain ⟨t, ht, _⟩ := Zc9 hT
 have hv : (vals ls)[i]? = some (some t.val) := by unfold vals; rw [List.getElem?_map, ht]; rfl
 exact ⟨_, hv, hr.run g e (fun ds hd vs G1 l1 H1 E1 dv => k ds hd (t.val :: vs) G1 l1 H1 E1 (.own hv dv)) kx⟩⟩
theorem ZbW (ha : SX W te x) (hr : SXK W tr ms s) : SXK W (tCons te tr) (none :: ms) (aConsX x s) := ⟨fun {F G ls H r en'} g e Q k kx => by
 rcases Zu e with ⟨d0, e1, h1, h2⟩ | ⟨C, h1, rfl⟩
 ·refine ha g h1 (fun d hd v G1 l1 H1 E1 dv => ?_) (fun C hC => nomatch hC)
  cases hd
  show tr (vals ls) H1 _
  rw [← E1.vs]
  rw [← E1.en] at h2
  rcases Zu h2 with ⟨ds, e2, h3, h4⟩ | ⟨C, h3, rfl⟩
  ·refine hr.run E1.gd h3 (fun ds' hd vs G2 l2 H2 E2 dvs => ?_) (fun C hC => nomatch hC)
   cases hd
   cases h4
   rw [E1.vs] at dvs
   exact k _ rfl (v :: vs) G2 l2 H2 (E1.trans E2) (.dat (dv.up E2.gx.ex) dvs)
  ·exact hr.run E1.gd h3 (fun d hd => nomatch hd) fun C' hC' => (kx C' (rxc hC')).at E1
 ·exact ha g h1 (fun d hd => nomatch hd) fun C' hC' => kx C' (rxc hC')⟩
theorem Znm {fd2 : FD} {m : List Bool} (hm : m = ms.map Option.isSome) (h12 : ∀ as r, fd as = some r → fd2 as = some r) {is : List Nat} (his : is = ms.filterMap id) {F G H : Hp} {ls : Ls} {r : Rx OT} {en' : En} {Q : VK} (hfd : ∀ as r bs, fd as = some (r, bs) → bs.length = as.length) (ha : SXK W ta ms args) (g : Good F G ls H) (e : nCallI (prm m fd) is args (ens ls) = some (r, en'))
  (k : ∀ T0, r = .ok T0 → ∀ T G' ls' H', Good F G' (some T :: ls') H' → Gx F G G' → ens ls' = en' → vals ls' = vals ls → T.er = T0 → Q T.val H') (kx : ∀ C, r = .ex C → XC W F G ls C en') {E : XK} (hE : (∀ as C bs, fd as ≠ some (.ex C, bs)) ∨ E = fun cls d H => W cls d (vals ls) H) :
  ta (vals ls) H fun vs H1 => ISp fd2 vs H1 Q E := by
 subst hm his
 obtain ⟨⟨Ts, e0⟩, hp, e⟩ := bnd e
 rcases Zu e with ⟨ds, e1, h1, h2⟩ | ⟨C, h1, rfl⟩
 ·refine ha.run g h1 (fun d hd vs G1 l1 H1 E1 dv => ?_) (fun C hC => nomatch hC)
  cases hd
  obtain ⟨us, vd, c1, c2, rfl, c4, c5⟩ := dv.cut
  rw [← E1.en] at h2
  obtain ⟨us', hus', hI⟩ := Zh7 (Q := Q) (E := E) E1.gd c2 h2 (ZpA hfd) (fun T0 hT0 T G' ls' H' g' gx he hv hT => k T0 hT0 T G' ls' H' g' (E1.gx.trans gx) he (hv.trans E1.vs) hT) (fun C hC G' ls' H' E2 => by
   rcases hE with hE | hE
   ·subst hC
    obtain ⟨r', hr', h3⟩ := bnd h2
    obtain ⟨⟨q1, q2⟩, hq', h4⟩ := bnd h3
    cases q1 with
    | ok T => cases h4
    | ex C' =>
     obtain ⟨_, hq'⟩ := Z4 hq'
     obtain ⟨⟨r3, b3⟩, hb3, he3⟩ := Option.map_eq_some_iff.mp hq'
     cases he3
     exact absurd hb3 (hE _ _ _)
   ·rw [hE]
    exact kx C hC G' ls' H' (E1.trans E2))
  rw [E1.vs] at hus'
  rw [AtV.uniq c1 hus'] at c4 ⊢
  exact (ISp.prm hfd c4 c5 hI).imp h12
 ·exact ha.run g h1 (fun d hd => nomatch hd) fun C' hC' => kx C' (rxc hC')
theorem Zci (hfd : ∀ as r bs, fd as = some (r, bs) → bs.length = as.length) (ha : SXK W ta ms args) {m : List Bool} {is : List Nat} (hm : m = ms.map Option.isSome := by rfl) (his : is = ms.filterMap id := by rfl) : SN W (tCall (ISp fd) [] E0 ta) (nCallI (prm m (noX fd)) is args) := ⟨fun {F G ls H r en'} g e Q k kx => by
 have h := Znm (E := E0) (fd2 := fd) hm (fun as r h => (ZbR h).1) his (fun as r bs h => hfd as r bs (ZbR h).1) ha g e k kx (.inl fun as C bs h => by
  obtain ⟨_, T, hT⟩ := ZbR h
  cases hT)
 have e2 : ∀ (x : List V), x ++ [] = x := List.append_nil
 show ta (vals ls) H fun vs H1 => ISp fd (vs ++ []) H1 Q E0
 simp only [e2]
 exact h⟩
end
end Kb
namespace Kb
open PySem L2 Evl
noncomputable def sAsgMv (i j : Nat) : FS := fun en => ((en[j]?).join).map fun T => (.nx, (en.set j none).set i (some (.node .lst [(Lab.no, T)])))
noncomputable def cInt : List PyData → Option PyData
 | [.int i] => some (.int i)
 | [.bool b] => some (.int (if b then 1 else 0))
 | _ => none
theorem ZqF : CbF (fun xs H Q => (∃ i, xs = [.int i] ∧ Q (.int i) H) ∨ ∃ k, xs = [.bl k] ∧ Q (.int (if k then 1 else 0)) H) cInt := ⟨fun {xs G ds d} dx e H gh Q q => by
 unfold cInt at e
 split at e
 case h_3 => cases e
 ·cases e
  obtain ⟨v, rfl, dv⟩ := dx.one
  cases dv
  exact .inl ⟨_, rfl, q _ H (Ex.refl _) (ZC fun _ z => nomatch z) (.int _)⟩
 ·cases e
  obtain ⟨v, rfl, dv⟩ := dx.one
  cases dv
  exact .inr ⟨_, rfl, q _ H (Ex.refl _) (ZC fun _ z => nomatch z) (.int _)⟩⟩
end Kb
namespace Kb
open PySem L2 Evl
noncomputable def noF (m : Str) : List (Lab × OT) → Bool
 | [] => true
 | (l, _) :: r => if m = l.f then false else noF m r
noncomputable def insNo (en : En) (i : Nat) (C : Addr) (m : Str) : Bool := match en[i]? with
 | some (some (.node (.ins C') cs)) => decide (C' = C) && noF m cs
 | _ => false
/-- slot i holds an own instance of C that has no field m -/
noncomputable def nAsk (C : Addr) (m : Str) (i : Nat) (n : FN) : FN := fun en => if insNo en i C m = true then n en else none
theorem Zk1 {m : Str} : ∀ {cs : List (Lab × LT)}, noF m (LT.erL cs) = true → ((LT.vals cs).map fun x => (x.1.f, x.2)).lookup m = none
 | [], _ => rfl
 | (l, t) :: r, h => by
  rw [LT.erL] at h
  unfold noF at h
  split at h
  ·cases h
  ·rename_i hne
   show (((l.f, t.val) :: ((LT.vals r).map fun x => (x.1.f, x.2)))).lookup m = none
   rw [Zkm, if_neg hne]
   exact Zk1 h
theorem ZiB {F G H : Hp} {ls : Ls} {i : Nat} {C : Addr} {m : Str} (g : Good F G ls H) (h : insNo (ens ls) i C m = true) : ∃ a dx fs, (vals ls)[i]? = some (some (.ref a)) ∧ H a = some (.ins C dx fs) ∧ fs.lookup m = none := by
 unfold insNo at h
 split at h
 case h_2 => cases h
 rename_i C' cs0 he
 rw [Bool.and_eq_true] at h
 obtain ⟨h1, h2⟩ := h
 have h1 := of_decide_eq_true h1
 subst h1
 obtain ⟨a, dx, cs, hl, rfl, hv⟩ := Zd0 he
 exact ⟨a, dx, _, hv, (g.node_at hl).1, Zk1 h2⟩
section
variable {W : WX} {ta : TA} {fd : FD} {C : Addr} {m : Str} {i : Nat} {n : FN}
theorem Zbh (h : SN W (tCallS (ISp fd) (WE W) (tCons (tVar i) ta)) n) : SN W (tMthX C m (ISp fd) (WE W) (tVar i) ta) (nAsk C m i n) := ⟨fun {F G ls H r en'} g e Q k kx => by
 unfold nAsk at e
 split at e
 case isFalse => cases e
 rename_i hz
 obtain ⟨a, dx, fs, hv, ha, hm⟩ := ZiB g hz
 obtain ⟨v, h1, h2⟩ := h.run g e k kx
 rw [hv] at h1
 cases h1
 exact ⟨_, hv, a, dx, fs, rfl, ha, hm, h2⟩⟩
theorem Zql (h : SN W (tCall (ISp fd) [] E0 (tCons (tVar i) ta)) n) : SN W (tMeth C m (ISp fd) [] E0 (tVar i) ta) (nAsk C m i n) := ⟨fun {F G ls H r en'} g e Q k kx => by
 unfold nAsk at e
 split at e
 case isFalse => cases e
 rename_i hz
 obtain ⟨a, dx, fs, hv, ha, hm⟩ := ZiB g hz
 obtain ⟨v, h1, h2⟩ := h.run g e k kx
 rw [hv] at h1
 cases h1
 exact ⟨_, hv, a, dx, fs, rfl, ha, hm, h2⟩⟩
end
noncomputable def xP (pl : FP) : FX := fun en => (pl en).bind fun q => (subE en q.1 q.2).bind fun S => (leafD S).map fun d => (.ok d, en)
theorem ZoG {s : LT} {d : PyData} (h : s.er = .leaf d) : ∃ v, s = .leaf v d := by
 cases s with
 | leaf v d' => cases h; exact ⟨v, rfl⟩
 | node k a dx cs => rw [LT.er] at h; cases h
theorem Zkl {W : WX} {te : TE} {pl : FP} (hp : SP te pl) : SX W te (xP pl) := ⟨fun {F G ls H r en'} g e Q k _ => by
 obtain ⟨⟨i, p⟩, h1, e1⟩ := bnd e
 obtain ⟨S, h2, e2⟩ := bnd e1
 obtain ⟨d, h3, e3⟩ := Option.map_eq_some_iff.mp e2
 cases e3
 obtain ⟨t, s, q1, q2, q3⟩ := ZdW h2
 rw [Zim h3] at q3
 obtain ⟨v, rfl⟩ := ZoG q3
 refine hp.run g h1 fun t' s' H1 x1 r1 r2 => ?_
 rw [q1] at r1
 cases r1
 rw [q2] at r2
 cases r2
 exact k d rfl v G ls H1 ⟨g.stay x1, Gx.refl, rfl, rfl⟩ (LT.sub_ok q2 (g.ok _ (List.mem_of_getElem? q1)))⟩
noncomputable def dctAt (en : En) (i : Nat) : Option (List (Lab × OT)) := match en[i]? with
 | some (some (.node .dct cs)) => some cs
 | _ => none
theorem Ziu {en : En} {i : Nat} {cs : List (Lab × OT)} (h : dctAt en i = some cs) : en[i]? = some (some (.node .dct cs)) := by
 unfold dctAt at h
 split at h
 ·cases h; assumption
 ·cases h
/-- d[e], d one's own in a slot -/
noncomputable def xDGetV (i : Nat) (x : FX) : FX := fun en => (dctAt en i).bind fun _ => bx (x en) fun dk e1 => (keyOf dk).bind fun k => (dctAt e1 i).bind fun cs => (idxK k cs).bind fun n => (cs[n]?).bind fun c => (leafD c.2).map fun d => (.ok d, e1)
theorem Zoh {σ σ' : L2.St} {i : Nat} {a b : Addr} (h : σ' = σ) (h1 : σ[i]? = some (some (.ref a))) (h2 : σ'[i]? = some (some (.ref b))) : b = a := by
 rw [h, h1] at h2
 cases h2
 rfl
theorem Zm6 {W : WX} {te : TE} {x : FX} {i : Nat} (h : SX W te x) : SX W (tDGet (tVar i) te) (xDGetV i x) := ⟨fun {F G ls H r en'} g e Q k kx => by
 obtain ⟨c0, hc0, e⟩ := bnd e
 obtain ⟨a, dx, cs, h1, h2, h3⟩ := Zd0 (Ziu hc0)
 refine ⟨_, h3, ?_⟩
 rcases Zu e with ⟨dk, e1, e2, e3⟩ | ⟨C, e2, rfl⟩
 ·refine h g e2 (fun d' hd' v0 G1 l1 H1 E1 dv0 => ?_) (fun C hC => nomatch hC)
  cases hd'
  rw [← E1.en] at e3
  obtain ⟨kk, hk, e4⟩ := bnd e3
  obtain ⟨c1, hc1, e5⟩ := bnd e4
  obtain ⟨n, hn, e6⟩ := bnd e5
  obtain ⟨c, hc, e7⟩ := bnd e6
  obtain ⟨d, hd, e8⟩ := Option.map_eq_some_iff.mp e7
  cases e8
  obtain rfl := Zct hk
  obtain rfl := dv0.keyV
  obtain ⟨a', dx', cs', q1, q2, q3⟩ := Zd0 (Ziu hc1)
  obtain rfl := Zoh E1.vs h3 q3
  obtain ⟨z1, z2⟩ := E1.gd.node_at q1
  rw [Zec] at z1
  rw [← q2, Zfn] at hn
  obtain ⟨y, y1, y2⟩ := Zfg hn
  rw [← q2] at hc
  obtain ⟨l, v, hv⟩ := ZpS hc hd
  have ey : y = (l, .leaf v d) := Option.some.inj (y1.symm.trans hv)
  rw [ey] at y2
  have hdv : Dt G1 v d := z2 _ (List.mem_of_getElem? hv)
  exact ⟨_, v, rfl, y2 ▸ DGet.k z1, k d rfl v G1 l1 H1 ⟨E1.gd, E1.gx, rfl, E1.vs⟩ hdv⟩
 ·exact h g e2 (fun d hd => nomatch hd) fun C' hC' => kx C' (rxc hC')⟩
/-- place[e] = x, x told -/
noncomputable def sDPutX (pl : FP) (w : FW) (x : FX) : FS := fun en => bs (x en) fun d e1 => (pl e1).bind fun q => (w (strong e1)).bind fun dk => (keyOf dk).bind fun kk => ((e1[q.1]?).join).bind fun T => (T.sub q.2).bind fun S => match S with
 | .node .dct cs => if cs.length < 100000 then some (.nx, e1.set q.1 (some (T.put q.2 (.node .dct (putKT kk d cs))))) else none
 | _ => none
section
variable {K : PySem.W.Frag} {kp : Nat → Bool} {W : WX} {te ta tv : TE} {w : FW} {x : FX} {pl : FP}
theorem Zcp (hp : SP ta pl) (hk : SW te w) (hv : SX W tv x) : SS kp W (sDPut ta te tv) (sDPutX pl w x) := ⟨fun {F G ls H o en'} g e D k => by
 rcases ZF e with ⟨d, e1, h1, e1'⟩ | ⟨C, h1, rfl⟩
 ·refine hv g h1 (fun d' hd' v G0 l0 H1 E1 dv => ?_) (fun C hC => nomatch hC)
  cases hd'
  rw [← E1.en] at e1'
  obtain ⟨⟨i, p⟩, h2, e2⟩ := bnd e1'
  obtain ⟨dk, h1k, e2⟩ := bnd e2
  obtain ⟨kk, hj, e2⟩ := bnd e2
  obtain ⟨T, h3, e3⟩ := bnd e2
  obtain ⟨S, h4, e4⟩ := bnd e3
  split at e4
  case h_2 => cases e4
  rename_i cs
  split at e4
  case isFalse => cases e4
  rename_i hz
  cases e4
  obtain ⟨t, q1, rfl⟩ := Zc9 h3
  rw [LT.sub_er] at h4
  obtain ⟨s, q2, h5⟩ := Option.map_eq_some_iff.mp h4
  obtain ⟨a, dx, c, rfl, q3⟩ := Zbd h5
  rw [← E1.vs]
  refine hp.run E1.gd h2 fun t' s' H2 x2 r1 r2 => ?_
  rw [q1] at r1
  cases r1
  rw [q2] at r2
  cases r2
  have g2 := E1.gd.stay x2
  refine hk (Z0 g2) h1k H2 g2.gh _ fun vk H3 x3 dk' => ?_
  obtain rfl := Zct hj
  obtain rfl := dk'.keyV
  obtain ⟨g3, gx3⟩ := g2.grow x3
  obtain ⟨z1, z2⟩ := g3.at_sub q1 q2
  rw [Zec] at z1
  have dv3 := dv.up gx3.ex
  obtain ⟨l2, g4, en2, v2⟩ := ZiI (cs' := putKL kk v d c) g3.non0 q1 q2 (ZlP kk v d c) (fun y hy => by
   rcases Zll hy with h | h
   ·exact .inl h
   ·exact .inr (.inr ⟨v, d, h, dv3⟩))
  rw [Zec, ZkC] at g4
  refine ⟨a, _, rfl, DPut.k z1 (by rw [List.length_map, LT.vals, List.length_map, ← ZbN, q3]; exact sz_lt (by omega)), ?_⟩
  have k2 := k _ l2 _ ⟨g4, E1.gx.trans gx3, by rw [en2, ZmT, q3], (Kept.of E1.vs).trans (.of v2)⟩
  rw [v2] at k2
  exact k2
 ·exact hv g h1 (fun d hd => nomatch hd) fun C' hC' => by cases hC'; exact k.xc⟩
/-- place.pop(e), what it tells is dropped -/
noncomputable def dropKT {α : Type} (k : Key) (cs : List (Lab × α)) : List (Lab × α) := cs.filter fun x => decide (x.1.k ≠ k)
noncomputable def sDPopP (pl : FP) (w : FW) : FS := fun en => (pl en).bind fun q => (w (strong en)).bind fun dk => (keyOf dk).bind fun kk => ((en[q.1]?).join).bind fun T => (T.sub q.2).bind fun S => match S with
 | .node .dct cs => (idxK kk cs).map fun _ => (.nx, en.set q.1 (some (T.put q.2 (.node .dct (dropKT kk cs)))))
 | _ => none
theorem ZkY (k : Key) : ∀ cs : List (Lab × LT), LT.erL (dropKT k cs) = dropKT k (LT.erL cs) := fun cs => by
 unfold dropKT
 rw [LT.erL_map, LT.erL_map, List.filter_map]
 rfl
theorem Zja (k : Key) (cs : List (Lab × LT)) : ((LT.vals (dropKT k cs)).map fun x => (x.1.k, x.2)) = dropK ((LT.vals cs).map fun x => (x.1.k, x.2)) k := by
 unfold dropKT dropK LT.vals
 rw [List.map_map, List.map_map, List.filter_map]
 rfl
theorem Zmw {cs' cs : List (Lab × LT)} (h : cs'.Sublist cs) (b : Addr) : (LT.adsL cs').count b ≤ (LT.adsL cs).count b := by
 induction h with
 | slnil => exact Nat.le_refl _
 | cons x _ ih => obtain ⟨l, t⟩ := x; rw [LT.adsL, List.count_append]; omega
 | cons_cons x _ ih => obtain ⟨l, t⟩ := x; rw [LT.adsL, LT.adsL, List.count_append, List.count_append]; omega
theorem Zh1 (hp : SP ta pl) (hk : SW te w) : SS kp W (tDrop (tDPop1 ta te)) (sDPopP pl w) := ⟨fun {F G ls H o en'} g e D k => by
 obtain ⟨⟨i, p⟩, h2, e2⟩ := bnd e
 obtain ⟨dk, h1k, e2⟩ := bnd e2
 obtain ⟨kk, hj, e2⟩ := bnd e2
 obtain ⟨T, h3, e3⟩ := bnd e2
 obtain ⟨S, h4, e4⟩ := bnd e3
 split at e4
 case h_2 => cases e4
 rename_i cs
 obtain ⟨n, hn, e5⟩ := Option.map_eq_some_iff.mp e4
 cases e5
 obtain ⟨t, q1, rfl⟩ := Zc9 h3
 rw [LT.sub_er] at h4
 obtain ⟨s, q2, h5⟩ := Option.map_eq_some_iff.mp h4
 obtain ⟨a, dx, c, rfl, q3⟩ := Zbd h5
 refine hp.run g h2 fun t' s' H2 x2 r1 r2 => ?_
 rw [q1] at r1
 cases r1
 rw [q2] at r2
 cases r2
 have g2 := g.stay x2
 obtain ⟨z1, z2⟩ := g2.at_sub q1 q2
 rw [Zec] at z1
 refine ⟨a, rfl, .inl ⟨_, .of z1⟩, ?_⟩
 refine hk (Z0 g2) h1k H2 g2.gh _ fun vk H3 x3 dk' => ?_
 obtain rfl := Zct hj
 obtain rfl := dk'.keyV
 obtain ⟨g3, gx3⟩ := g2.grow x3
 rw [← q3, Zfn] at hn
 obtain ⟨y, y1, y2⟩ := Zfg hn
 obtain ⟨l2, g4, en2, v2⟩ := ZiI (cs' := dropKT kk c) g3.non0 q1 q2 (fun b => Nat.le_trans (Zmw List.filter_sublist b) (Nat.le_add_right _ _)) (fun y hy => .inl ⟨y, (List.mem_filter.mp hy).1, rfl⟩)
 rw [Zec, Zja] at g4
 refine ⟨_, kk, _, x3 _ _ z1, rfl, y2, ?_⟩
 have k2 := k _ l2 _ ⟨g4, gx3, by rw [en2, ZkY, q3], .of v2⟩
 rw [v2] at k2
 exact k2⟩
noncomputable def allLeaf (cs : List (Lab × OT)) : Bool := cs.all fun x => (leafD x.2).isSome
noncomputable def nDctC (pl : FP) : FN := fun en => (pl en).bind fun q => (subE en q.1 q.2).bind fun S => match S with
 | .node .dct cs => if allLeaf cs = true then some (.ok (.node .dct cs), en) else none
 | _ => none
/-- {} as a datum -/
theorem ZjG : SF tDNewK (wC (.dict [])) := ⟨fun h e H gh Q k => by
 cases e
 intro p hp
 refine k _ _ (Ex.new hp) (Za9 hp) ?_
 refine .dct (kvs := []) (ds := []) ?_ .nil rfl
 exact Zx hp ▸ upd_same⟩
end
end Kb
namespace Kb
open PySem L2 Evl PySem.Spec PyProof.Rows
theorem Zej : ∀ a b : List Nat, ltCps a b = decide (a < b)
 | [], [] => by simp [ltCps]
 | [], b :: t => by simp [ltCps]
 | a :: r, [] => by simp [ltCps]
 | a :: r, b :: t => by
  rw [ltCps, Zej r t]
  rw [Bool.eq_iff_iff]
  simp [List.cons_lt_cons_iff]
noncomputable abbrev leS (a b : Str) : Prop := a.cps.toList ≤ b.cps.toList
theorem Zho {a b c : Str} (h1 : leS a b) (h2 : leS b c) : leS a c := List.le_trans h1 h2
theorem ZmU {a b : Str} (h1 : leS a b) (h2 : leS b a) : a = b := by
 have := List.le_antisymm h1 h2
 cases a; cases b
 simp at this
 simp [this]
theorem Zgw : ∀ (p : Str) (ss : List Str), risingS p ss = true ↔ (p :: ss).Pairwise leS
 | p, [] => by simp [risingS]
 | p, x :: r => by
  rw [risingS, Bool.and_eq_true, Zgw x r, Zej, List.pairwise_cons (a := p)]
  constructor
  ·rintro ⟨h1, h2⟩
   have h1 : leS p x := by simpa using h1
   refine ⟨fun y hy => ?_, h2⟩
   rcases List.mem_cons.mp hy with rfl | hy
   ·exact h1
   ·exact Zho h1 ((List.pairwise_cons.mp h2).1 y hy)
  ·rintro ⟨h1, h2⟩
   exact ⟨by have : leS p x := h1 x List.mem_cons_self
             simpa using this, h2⟩
theorem Zjc (ss : List Str) : sortedS ss = true ↔ ss.Pairwise leS := by
 cases ss with
 | nil => simp [sortedS]
 | cons x r => exact Zgw x r
noncomputable def insS (x : Str) : List Str → List Str
 | [] => [x]
 | y :: r => if ltCps y.cps.toList x.cps.toList = true then y :: insS x r else x :: y :: r
noncomputable def srtS : List Str → List Str
 | [] => []
 | x :: r => insS x (srtS r)
theorem Ze8 (x : Str) : ∀ l, (insS x l).Perm (x :: l)
 | [] => .refl _
 | y :: r => by
  unfold insS
  split
  ·exact ((Ze8 x r).cons y).trans (List.Perm.swap _ _ _)
  ·exact .refl _
theorem Zaz : ∀ l, (srtS l).Perm l
 | [] => .refl _
 | x :: r => (Ze8 x _).trans ((Zaz r).cons x)
theorem ZjQ (x : Str) : ∀ l : List Str, l.Pairwise leS → (insS x l).Pairwise leS
 | [], _ => by simp [insS]
 | y :: r, h => by
  obtain ⟨h1, h2⟩ := List.pairwise_cons.mp h
  unfold insS
  split
  ·rename_i hl
   rw [Zej] at hl
   have hl : y.cps.toList < x.cps.toList := of_decide_eq_true hl
   refine List.pairwise_cons.mpr ⟨fun z hz => ?_, ZjQ x r h2⟩
   rcases List.mem_cons.mp ((Ze8 x r).mem_iff.mp hz) with rfl | hz
   ·exact List.le_of_lt hl
   ·exact h1 z hz
  ·rename_i hl
   rw [Zej] at hl
   have hl : leS x y := by simpa using hl
   refine List.pairwise_cons.mpr ⟨fun z hz => ?_, h⟩
   rcases List.mem_cons.mp hz with rfl | hz
   ·exact hl
   ·exact Zho hl (h1 z hz)
theorem ZjL : ∀ l, (srtS l).Pairwise leS
 | [] => .nil
 | x :: r => ZjQ x _ (ZjL r)
theorem ZkN {ys ks : List Str} (h : ys.Perm ks) (hs : sortedS ys = true) : ys = srtS ks := by
 have h1 := (Zjc ys).mp hs
 have h2 := ZjL ks
 exact List.Perm.eq_of_pairwise (fun a b _ _ h1 h2 => ZmU h1 h2) h1 h2 (h.trans (Zaz ks).symm)
section
variable {K : PySem.W.Frag} {W : WX} {ta tb : TE} {a b : FW}
noncomputable def keysS : List (PyData × PyData) → Option (List Str)
 | [] => some []
 | (.str s, _) :: r => (keysS r).map (s :: ·)
 | _ => none
theorem Zig {G : Hp} : ∀ {kvs : List (Key × V)} {ds : List PyData} {ks : List Str}, DtAll G (kvs.map (·.2)) ds → keysS ((kvs.map fun kv => keyD kv.1).zip ds) = some ks → kvs.map (·.1) = ks.map Sum.inr
 | [], ds, ks, _, h => by
  have h : keysS [] = some ks := h
  cases h
  rfl
 | (k, v) :: kvs, ds, ks, h0, h => by
  obtain ⟨e, ds', rfl, hv, hr⟩ : ∃ e ds', ds = e :: ds' ∧ Dt G v e ∧ DtAll G (kvs.map (·.2)) ds' := by
   cases h0 with
   | cons h1 h2 => exact ⟨_, _, rfl, h1, h2⟩
  rw [List.map_cons, List.zip_cons_cons] at h
  cases k with
  | inl i => cases h
  | inr s =>
   obtain ⟨r, hr2, rfl⟩ := Option.map_eq_some_iff.mp h
   rw [List.map_cons, List.map_cons, Zig hr hr2]
/-- sorted(d) -/
noncomputable def cSortDS : List PyData → Option PyData
 | [.dict kd] => if isDct kd = true then (keysS kd).bind fun ks => if ks.length < 64 then some (dLS (srtS ks)) else none else none
 | _ => none
noncomputable abbrev rSortedDS : List V → Hp → VK → Prop := fun xs H Q => ∃ (a : Addr) (kvs : List (Key × V)) (ks : List Str), xs = [.ref a] ∧ Rd H a (.dK kvs) ∧ kvs.map (·.1) = ks.map Sum.inr ∧ ks.length < 64 ∧
  ∀ ys p, ys.Perm ks → sortedS ys = true → H p = none → Q (.ref p) (upd H p (.lst (ys.map V.str)))
theorem ZdE : CbF rSortedDS cSortDS := ⟨fun {xs G ds d} dx e H gh Q q => by
 unfold cSortDS at e
 split at e
 case h_2 => cases e
 rename_i kd
 split at e
 case isFalse => cases e
 rename_i hd
 obtain ⟨ks, hk, e⟩ := bnd e
 split at e
 case isFalse => cases e
 rename_i hl
 cases e
 obtain ⟨v, rfl, dv⟩ := dx.one
 obtain ⟨p, kvs, es, rfl, hp, r, rfl⟩ := dv.dctOf hd
 refine ⟨p, kvs, ks, rfl, .of (gh _ _ hp), Zig r hk, hl, fun ys z hy hs hz => ?_⟩
 rw [ZkN hy hs]
 exact q _ _ (Ex.new hz) (Za9 hz) (ZcB hz gh (Zg8 _))⟩
noncomputable def rNeD0 : R2 := fun x y H Q => ∃ a b ks, x = .ref a ∧ y = .ref b ∧ H a = some (.dK ks) ∧ H b = some (.dK []) ∧ Q (.bl (!ks.isEmpty)) H
noncomputable def oNeD0 : PyData → PyData → Option PyData
 | .dict kd, .dict [] => if isDct kd = true then some (.bool (!kd.isEmpty)) else none
 | _, _ => none
theorem Zjm : OpF rNeD0 oNeD0 := ⟨fun {x y G a b d} dx dy e H gh Q q => by
 unfold oNeD0 at e
 split at e
 case h_2 => cases e
 rename_i kd
 split at e
 case isFalse => cases e
 rename_i hd
 cases e
 obtain ⟨p, kvs, es, rfl, hp, r, rfl⟩ := dx.dctOf hd
 obtain ⟨p', kvs', es', rfl, hp', r', he'⟩ := dy.dctOf rfl
 have hn : kvs' = [] := by
  cases kvs' with
  | nil => rfl
  | cons k kvs' =>
   cases es' with
   | nil => cases r'
   | cons _ _ => cases he'
 subst hn
 refine ⟨p, p', kvs, rfl, rfl, gh _ _ hp, gh _ _ hp', ?_⟩
 have e2 : (!((kvs.map fun kv => keyD kv.1).zip es).isEmpty) = !kvs.isEmpty := by
  cases kvs with
  | nil => rfl
  | cons k kvs =>
   cases r
   rfl
 rw [← e2]
 exact q _ H (Ex.refl H) (ZC fun _ z => nomatch z) (.bl _)⟩
noncomputable def oSplit : PyData → PyData → Option PyData
 | .str a, .str b => if b.length ≠ 0 ∧ a.length ≤ 100000 then some (dLS (Txt.split a b)) else none
 | _, _ => none
noncomputable abbrev rSplit : V → List V → Hp → VK → Prop := fun x xs H Q => ∃ a b, x = .str a ∧ xs = [.str b] ∧ (b.length == 0) = false ∧ a.length + 2 ≤ sizeLine ∧ rNewStrs (Txt.split a b) H Q
structure SlO (r : V → Option Int → Option Int → Hp → VK → Prop) (o : PyData → Option Int → Option Int → Option PyData) : Prop where
 run : ∀ {x : V} {G : Hp} {i j : Option Int} {a d : PyData}, Dt G x a → o a i j = some d → ∀ {H : Hp}, Ex G H → ∀ {Q : VK}, (∀ z H2, Ex H H2 → Dt (grow G H H2) z d → Q z H2) → r x i j H Q
theorem SlF.o {r : V → Option Int → Option Int → Hp → VK → Prop} {o : PyData → Option Int → Option Int → Option PyData} (h : SlF r o) : SlO r o := ⟨fun dx e _ gh _ q => h dx e gh fun z H2 e2 _ dz => q z H2 e2 dz⟩
theorem Zf9 {rr : V → Option Int → Option Int → Hp → VK → Prop} {o : PyData → Option Int → Option Int → Option PyData} {tl th : TO} {l u : DE → Option (Option Int)} (ho : SlO rr o) (ha : SW ta a) (hl : SO tl l) (hh : SO th u) : SW (tSl rr ta tl th) (wSl o a l u) := ⟨fun h e H gh Q k => by
 obtain ⟨x, hx, e⟩ := bnd e
 obtain ⟨i, hi, e⟩ := bnd e
 obtain ⟨j, hj, e⟩ := bnd e
 exact ha h hx H gh _ fun v H1 e1 dv => hl h hi H1 (gh.trans e1) _ fun H2 e2 => hh h hj H2 ((gh.trans e1).trans e2) _ fun H3 e3 =>
  ho.run (dv.up (Zd3 (e2.trans e3))) e (Zh gh ((e1.trans e2).trans e3)) fun z H4 e4 dz => k z H4 (((e1.trans e2).trans e3).trans e4) (dz.up (ZM ((e1.trans e2).trans e3) e4))⟩
theorem Zka {xs : List V} {i j : Option Int} (h : HT.sIx xs.length 0 i = 0 ∧ HT.sIx xs.length xs.length j = xs.length) : cutV xs i j = xs := by
 unfold cutV
 rw [h.1, h.2]
 simp
theorem Zcr : SlO (rSlA K) oSlT := ⟨fun {x G i j a d} dx e H gh Q q => by
 unfold oSlT at e
 split at e
 case h_2 => cases e
 rename_i as
 cases e
 have dx' := dx
 obtain ⟨p, xs, rfl, hp, r⟩ := dx.ot
 have r2 := r.cut i j
 refine ⟨p, xs, rfl, st_of (gh _ _ hp), fun hw => ?_, fun hw l hl => q _ _ (Ex.new hl) (ZkA hl gh r2)⟩
 rw [Zka hw] at r2
 refine q _ H (Ex.refl H) ?_
 have : Dt G (.ref p) (.tuple (cutA as i j)) := .tup hp r2
 exact this.up (Zp gh)⟩
noncomputable def oCatA : PyData → PyData → Option PyData
 | .tuple as, .tuple bs => if as.length + bs.length ≤ 100000 then some (.tuple (as ++ bs)) else none
 | _, _ => none
theorem Zc7 : OpOk (rCatA K) oCatA := ⟨fun {x y G a b d} dx dy e H gh Q q => by
 unfold oCatA at e
 split at e
 case h_2 => cases e
 rename_i as bs
 split at e
 case isFalse => cases e
 rename_i hl
 cases e
 have dx' := dx
 have dy' := dy
 obtain ⟨p, xs, rfl, hp, r⟩ := dx.ot
 obtain ⟨p', ys, rfl, hp', r'⟩ := dy.ot
 have h1 := r.len
 have h2 := r'.len
 have hz : (100000 : Nat) ≤ sizeLine := by decide
 refine ⟨p, p', xs, ys, rfl, rfl, st_of (gh _ _ hp), st_of (gh _ _ hp'), by omega, fun hx => ?_, fun _ hy => ?_, fun _ _ l hl => q _ _ (Ex.new hl) (.tup (a := l) (xs := xs ++ ys) ?_ ?_)⟩
 ·subst hx
  cases as with
  | cons _ _ => simp at h1
  | nil => exact q _ H (Ex.refl H) (dy'.up (Zp gh))
 ·subst hy
  cases bs with
  | cons _ _ => simp at h2
  | nil =>
   refine q _ H (Ex.refl H) ?_
   rw [List.append_nil]
   exact dx'.up (Zp gh)
 ·rw [Zx hl, upd_same]
 ·exact DtAll.app (r.up (Zp gh)) (r'.up (Zp gh))⟩
noncomputable abbrev FOi := En → Option (Rx (Option Int) × En)
structure SXO (W : WX) (to : TO) (x : FOi) : Prop where
 run : ∀ {F G : Hp} {ls : Ls} {H : Hp} {r : Rx (Option Int)} {en' : En}, Good F G ls H → x (ens ls) = some (r, en') → ∀ {Q : Option Int → Hp → Prop}, (∀ o, r = .ok o → ∀ G' ls' H', End F G ls G' ls' H' en' → Q o H') → (∀ C, r = .ex C → XC W F G ls C en') → to (vals ls) H Q
noncomputable def xpNo : FOi := fun en => some (.ok none, en)
noncomputable def xpSo (x : FX) : FOi := fun en => bx (x en) fun d e1 => okx e1 ((asI d).map some)
noncomputable def xSl (o : PyData → Option Int → Option Int → Option PyData) (a : FX) (l h : FOi) : FX := fun en => bx (a en) fun x e1 => bx (l e1) fun i e2 => bx (h e2) fun j e3 => okx e3 (o x i j)
theorem Ziz : SXO W tNoPart xpNo := ⟨fun {F G ls H r en'} g e Q k _ => by
 cases e
 exact k none rfl G ls H ⟨g, Gx.refl, rfl, rfl⟩⟩
theorem ZhY {x : FX} (ha : SX W ta x) : SXO W (tPart ta) (xpSo x) := ⟨fun {F G ls H r en'} g e Q k kx => by
 rcases Zu e with ⟨d, e1, h1, h2⟩ | ⟨C, h1, rfl⟩
 ·refine ha g h1 (fun d' hd v G1 l1 H1 E1 dv => ?_) (fun C hC => nomatch hC)
  cases hd
  obtain ⟨o, ho, rfl, rfl⟩ := ZO h2
  obtain ⟨i, hi, rfl⟩ := Option.map_eq_some_iff.mp ho
  obtain rfl := Zga hi
  obtain rfl := dv.oi
  exact ⟨i, rfl, k _ rfl G1 l1 H1 E1⟩
 ·exact ha g h1 (fun d hd => nomatch hd) fun C' hC' => kx C' (rxc hC')⟩
theorem Zkd {rr : V → Option Int → Option Int → Hp → VK → Prop} {o : PyData → Option Int → Option Int → Option PyData} {x : FX} {tl th : TO} {l h : FOi} (ho : SlO rr o) (ha : SX W ta x) (hl : SXO W tl l) (hh : SXO W th h) : SX W (tSl rr ta tl th) (xSl o x l h) := ⟨fun {F G ls H r en'} g e Q k kx => by
 rcases Zu e with ⟨d, e1, h1, h2⟩ | ⟨C, h1, rfl⟩
 ·refine ha g h1 (fun d' hd v G1 l1 H1 E1 dv => ?_) (fun C hC => nomatch hC)
  cases hd
  show tl (vals ls) H1 _
  rw [← E1.vs]
  rw [← E1.en] at h2
  rcases Zu h2 with ⟨i, e2, h3, h4⟩ | ⟨C, h3, rfl⟩
  ·refine hl.run E1.gd h3 (fun i' hi G2 l2 H2 E2 => ?_) (fun C hC => nomatch hC)
   cases hi
   show th (vals l1) H2 _
   rw [← E2.vs]
   rw [← E2.en] at h4
   rcases Zu h4 with ⟨j, e3, h5, h6⟩ | ⟨C, h5, rfl⟩
   ·refine hh.run E2.gd h5 (fun j' hj G3 l3 H3 E3 => ?_) (fun C hC => nomatch hC)
    cases hj
    obtain ⟨d, hd, rfl, rfl⟩ := ZO h6
    refine ho.run ((dv.up E2.gx.ex).up E3.gx.ex) hd E3.gd.gh fun z H4 e4 dz => ?_
    obtain ⟨g4, gx4⟩ := E3.gd.grow e4
    exact k d rfl z _ l3 H4 (((E1.trans E2).trans E3).trans ⟨g4, gx4, E3.en, rfl⟩) dz
   ·exact hh.run E2.gd h5 (fun d hd => nomatch hd) fun C' hC' => ((kx C' (rxc hC')).at E1).at E2
  ·exact hl.run E1.gd h3 (fun d hd => nomatch hd) fun C' hC' => (kx C' (rxc hC')).at E1
 ·exact ha g h1 (fun d hd => nomatch hd) fun C' hC' => kx C' (rxc hC')⟩
end
section
variable {X : Cx}
theorem ZfE (hu : X.A.units + 64 < cLine) : OpR X (compareOp .NotEq) rNeD0 := by
 intro pins s σ H x y v u Q I rx ry h
 obtain ⟨a, b, ks, rfl, rfl, ea, eb, q⟩ := h
 obtain rfl : v = Value.ref a := rx
 obtain rfl : u = Value.ref b := ry
 obtain ⟨_, ya, va, ra, da⟩ := (show ObjOk X.prog X.w H s.heap a (.dK ks) from I.hok a _ ea)
 obtain ⟨_, yb, vb, rb, db⟩ := (show ObjOk X.prog X.w H s.heap b (.dK []) from I.hok b _ eb)
 have l1 := ra.length
 have l2 := rb.length
 rw [List.length_nil] at l2
 refine PySem.W.keq_ne (knd := mixKind X.prog X.w) (r := true) ya yb da db (by omega) (fun hl => ?_) (fin_bl I q ?_)
 ·have : ks = [] := List.length_eq_zero_iff.mp (by omega)
  subst this
  exact hits_all rb ra (fun p hp => nomatch hp)
 ·rw [← l1, ← l2]
  cases ks with
  | nil => rfl
  | cons k ks => simp
end
end Kb
namespace Kb
open PySem L2 Evl
structure EBs (K : PySem.W.Frag) (mg : Str → Option Value) (B : Addr) (cs : List Addr) : Prop where
 all : ∀ C ∈ cs, (∃ x, EB K mg B x C) ∧ C ≠ B
theorem EBs.nil {K : PySem.W.Frag} {mg : Str → Option Value} {B : Addr} : EBs K mg B [] := ⟨fun _ h => nomatch h⟩
theorem EBs.cons {K : PySem.W.Frag} {mg : Str → Option Value} {B C : Addr} {cs : List Addr} {x : Str} (e : EB K mg B x C) (h : C ≠ B) (r : EBs K mg B cs) : EBs K mg B (C :: cs) := ⟨fun D hD => by
 rcases List.mem_cons.mp hD with rfl | hD
 ·exact ⟨⟨x, e⟩, h⟩
 ·exact r.all D hD⟩
/-- expressions behind 'as e', e in slot i -/
structure SWH (i : Nat) (te : Addr → TE) (w : FW) : Prop where
 run : ∀ {a : Addr} {en : DE} {σ : L2.St} {G : Hp} {d : PyData}, i < σ.length → DRel en σ G → w en = some d → EvX (te a) (σ.set i (some (.ref a))) G d
structure TAb (i : Nat) (ta : Addr → TA) (bs : List Bool) : Prop where
 run : ∀ {a : Addr} {σ : L2.St} {H : Hp} {Q : List V → Hp → Prop}, i < σ.length → Q (bs.map V.bl) H → ta a (σ.set i (some (.ref a))) H Q
section
variable {K : PySem.W.Frag} {mg : Str → Option Value} {W : WX} {kp : Nat → Bool} {i j : Nat} {te tf : Addr → TE} {ta : Addr → TA} {w v : FW} {bs : List Bool} {B C D : Addr} {x y : Str}
theorem ZjS : TAb i (fun _ => tNil) [] := ⟨fun _ q => q⟩
theorem Zdl (e : EB K mg B x D) (f : EB K mg B y C) (hB : C ≠ B) (h : TAb i ta bs) : TAb i (fun a => tCons (tCB (rIsEG K (.ref D) none a) (tCons (tVar i) (tCons (tC (.ref C)) tNil))) (ta a)) (decide (D = C) :: bs) := ⟨fun {a σ H Q} hi q =>
 ⟨_, List.getElem?_set_self hi, D, rfl, rfl, e.exc, .ref C, .ref C, decide (D = C), rfl, fun u hu => by cases hu; rfl, e.kit f hB, h.run hi q⟩⟩
theorem Zne (h : TAb i ta bs) : TAb i (fun a => tCons (tC (.bl true)) (ta a)) (true :: bs) := ⟨fun {a σ H Q} hi q => h.run hi q⟩
theorem ZjH (h : TAb i ta bs) (hl : bs.length ≤ 100 := by simp) : SWH i (fun a => tLst (ta a)) (wC (dLB bs)) := ⟨fun {a en σ G d} hi r e H gh Q q => by
 cases e
 refine h.run hi ⟨by rw [List.length_map, sizeLine_eq]; omega, fun p hp => q _ _ (Ex.new hp) (ZcB hp gh (Zl5 _))⟩⟩
theorem ZjC (hij : j ≠ i) : SWH i (fun _ => tVar j) (wV j) := ⟨fun {a en σ G d} hi r e H gh Q q => by
 obtain ⟨u, h1, h2⟩ := Za (i := j) r e H gh Q q
 exact ⟨u, by rw [List.getElem?_set_ne (fun h => hij h.symm)]; exact h1, h2⟩⟩
theorem Zhn {t : TE} (h : SW t w) (hc : ∀ σ (o : Option V) H Q, t (σ.set i o) H Q = t σ H Q := by intros; rfl) : SWH i (fun _ => t) w := ⟨fun {a en σ G d} hi r e H gh Q q => by
 rw [hc]
 exact h r e H gh Q q⟩
theorem ZlK {r : R2} {o : PyData → PyData → Option PyData} (ho : OpOk r o) (ha : SWH i te w) (hb : SWH i tf v) : SWH i (fun a => tOp r (te a) (tf a)) (wOp o w v) := ⟨fun {a en σ G d} hi h e H gh Q k => by
 obtain ⟨x, hx, e⟩ := bnd e
 obtain ⟨y, hy, e⟩ := bnd e
 exact ha.run hi h hx H gh _ fun v1 H1 e1 d1 => hb.run hi h hy H1 (gh.trans e1) _ fun v2 H2 e2 d2 =>
  ho (d1.up (Zd3 e2)) (d2.up (by
   have : Ex (grow G H1 H2) (grow G H H2) := fun b o h => by
    cases z : H b with
    | none =>
     rw [Zx z]
     cases z1 : H1 b with
     | none => rw [Zx z1] at h; exact h
     | some u => rw [Zt z1] at h; rw [gh b o h] at z; cases z
    | some u =>
     rw [Zt z]
     rw [Zt (e1 b u z)] at h
     exact h
   exact this)) e (Zh gh (e1.trans e2)) fun z H3 e3 dz => k z H3 ((e1.trans e2).trans e3) (dz.up (ZM (e1.trans e2) e3))⟩
/-- marks.index(True) -/
noncomputable def oIdxT : PyData → Option PyData
 | .list ds => (asLB ds).bind fun bs => if true ∈ bs then some (.int (bs.idxOf true : Nat)) else none
 | _ => none
theorem ZkZ (h : SWH i te w) : SWH i (fun a => tBM K "list" (rIndex K) (te a) (tCons (tC (.bl true)) tNil)) (wUn oIdxT w) := ⟨fun {a en σ G d} hi r e => by
 obtain ⟨x, hx, e⟩ := bnd e
 unfold oIdxT at e
 split at e
 case h_2 => cases e
 obtain ⟨bs, hb, e2⟩ := bnd e
 obtain rfl := Zg2 hb
 split at e2
 case isFalse => cases e2
 rename_i hm
 cases e2
 have hlt := List.idxOf_lt_length_iff.mpr hm
 refine Zk4 (h.run hi r hx) ZsC ?_ fun m hlm => ?_
 ·rw [List.getElem?_eq_getElem hlt, List.getElem_idxOf hlt]
 ·have hml : m < bs.length := by omega
  rw [List.getElem?_eq_getElem hml]
  cases hbm : bs[m] with
  | false => rfl
  | true =>
   exfalso
   have := List.not_of_lt_findIdx (p := (· == true)) (xs := bs) (i := m) hlm
   simp [hbm] at this⟩
/-- the suite behind 'as e' -/
structure HS (kp : Nat → Bool) (W : WX) (i : Nat) (ts : Addr → TS) (s : FS) : Prop where
 run : ∀ {a : Addr} {F G : Hp} {ls : Ls} {H : Hp} {o : Ot} {en' : En}, i < ls.length → Good F G ls H → s (ens ls) = some (o, en') → ∀ {D : Ends}, Post kp W F G ls { D with nx := fun σ H' => D.nx (σ.set i (some (.ref a))) H' } o en' → ts a D ((vals ls).set i (some (.ref a))) H
theorem ZhO (hj : kp j = false) (hij : j ≠ i) (h : SWH i te w) : HS kp W i (fun a => tAsg (te a) (gName j)) (sAsg j (xS w)) := ⟨fun {a F G ls H o en'} hi g e D k => by
 rcases ZF e with ⟨d, e1, h1, h2⟩ | ⟨C, h1, rfl⟩
 ·cases h2
  obtain ⟨d', hd, hr, rfl⟩ := ZO h1
  cases hr
  refine h.run (by rw [ZH]; exact hi) (Z0 g) hd H g.gh _ fun x H1 x1 dx => ?_
  obtain ⟨g1, gx1⟩ := g.grow x1
  have k2 := k _ (ls.set j (some (.leaf x d))) H1 ⟨(ZaJ g1 dx).set j, gx1, by rw [ZbQ]; rfl, Kept.set hj⟩
  rw [ZbF] at k2
  show D.nx (((vals ls).set i (some (.ref a))).set j (some x)) H1
  rw [List.set_comm _ _ (fun h => hij h.symm)]
  exact k2
 ·obtain ⟨d', hd, hr, _⟩ := ZO h1
  cases hr⟩
theorem ZlM {t1 t2 : Addr → TS} {s1 s2 : FS} (h1 : HS kp W i t1 s1) (h2 : HS kp W i t2 s2) : HS kp W i (fun a => tSeq (t1 a) (t2 a)) (sSeq s1 s2) := ⟨fun {a F G ls H o en'} hi g e D k => by
 unfold sSeq at e
 show t1 a { D with nx := t2 a D } _ H
 cases z : s1 (ens ls) with
 | none => rw [z] at e; cases e
 | some r =>
  obtain ⟨o1, e1⟩ := r
  rw [z] at e
  cases o1 with
  | nx =>
   refine h1.run hi g z (D := { D with nx := t2 a D }) fun G' ls' H' E1 => ?_
   have e : s2 e1 = some (o, en') := e
   rw [← E1.en] at e
   exact h2.run (by rw [E1.kt.len]; exact hi) E1.gd e (k.at E1)
  | rt T => cases e; exact h1.run hi g z (D := { D with nx := t2 a D }) k
  | bk => cases e; exact h1.run hi g z (D := { D with nx := t2 a D }) k
  | ct => cases e; exact h1.run hi g z (D := { D with nx := t2 a D }) k
  | ex C => cases e; exact h1.run hi g z (D := { D with nx := t2 a D }) k⟩
noncomputable def noneAt (en : En) (i : Nat) : Bool := match en[i]? with
 | some none => true
 | _ => false
theorem Zg9 {en : En} {i : Nat} (h : noneAt en i = true) : en[i]? = some none := by
 unfold noneAt at h
 split at h
 ·assumption
 ·cases h
noncomputable def sTryAs (i : Nat) (cs : List Addr) (body : FS) (hs : Addr → FS) : FS := fun en => match body en with
 | some (.ex C, e1) => if C ∈ cs ∧ noneAt e1 i = true then (match hs C e1 with
   | some (.nx, e2) => if noneAt e2 i = true then some (.nx, e2) else none
   | some (.rt T, e2) => some (.rt T, e2)
   | _ => none) else none
 | r => r
theorem Zjl {ls : Ls} (h : (ens ls)[i]? = some none) : i < ls.length ∧ (vals ls).set i none = vals ls := by
 have hl : i < ls.length := by
  have := (List.getElem?_eq_some_iff.mp h).1
  simpa [ens] using this
 refine ⟨hl, ?_⟩
 unfold ens at h
 rw [List.getElem?_map, List.getElem?_eq_getElem hl] at h
 have hn : ls[i] = none := by
  cases z : ls[i] with
  | none => rfl
  | some t => rw [z] at h; cases h
 apply List.ext_getElem?
 intro m
 rw [List.getElem?_set]
 split
 ·rename_i z
  subst z
  rw [ZH, if_pos hl]
  unfold vals
  rw [List.getElem?_map, List.getElem?_eq_getElem hl, hn]
  rfl
 ·rfl
theorem Zmh {cs : List Addr} {tb : WX → TS} {body : FS} {ts : Addr → Value → Option Addr → TS} {hs : Addr → FS} (E : EBase K mg B) (Es : EBs K mg B cs) (hb : ∀ W', SS kp W' (tb W') body) (hh : ∀ C x, C ∈ cs → EB K mg B x C → HS kp W i (fun a => ts a (.ref C) none) (hs C)) :
  SS kp W (fun D σ H => tb (wAs K (.ref B) i ts W D) D σ H) (sTryAs i cs body hs) := ⟨fun {F G ls H o en'} g e D k => by
 unfold sTryAs at e
 cases z : body (ens ls) with
 | none => rw [z] at e; cases e
 | some r =>
  obtain ⟨o1, e1⟩ := r
  rw [z] at e
  cases o1 with
  | nx => cases e; exact (hb _) g z k
  | rt T => cases e; exact (hb _) g z k
  | bk => cases e; exact (hb _) g z k
  | ct => cases e; exact (hb _) g z k
  | ex C =>
   refine (hb _) g z (D := D) fun G' ls' H' E1 => ?_
   split at e
   case h_2 => rename_i hne; exact absurd rfl (hne C e1)
   rename_i C' e1' he
   cases he
   split at e
   case isFalse => cases e
   rename_i hc
   obtain ⟨hC, hi⟩ := hc
   have hi := Zg9 hi
   obtain ⟨⟨x, eb⟩, _⟩ := Es.all C hC
   rw [← E1.en] at hi e
   obtain ⟨hl, _⟩ := Zjl hi
   refine ⟨true, E.catches eb, fun _ a _ => ?_, fun z => nomatch z⟩
   split at e
   case h_1 e2 z2 =>
    split at e
    case isFalse => cases e
    rename_i h2
    have h2 := Zg9 h2
    cases e
    refine (hh C x hC eb).run hl E1.gd z2 fun G2 l2 H2 E2 => ?_
    rw [← E2.en] at h2
    have := k G2 l2 H2 (E1.trans E2)
    show D.nx (((vals l2).set i _).set i none) H2
    rw [List.set_set, (Zjl h2).2]
    exact this
   case h_2 T e2 z2 =>
    cases e
    exact (hh C x hC eb).run hl E1.gd z2 (k.at E1)
   case h_3 => cases e⟩
noncomputable def sTryOnly (cs : List Addr) (body h : FS) : FS := fun en => match body en with
 | some (.ex C, e1) => if C ∈ cs then h e1 else none
 | r => r
end
end Kb
namespace L2
open PySem PySem.Spec PyProof.Rows
end L2
namespace Kb
open PySem L2 Evl
noncomputable abbrev rAddS : R2 := fun x y H Q => ∃ i j, x = .str i ∧ y = .str j ∧ i.length + j.length ≤ sizeLine ∧ Q (.str (i ++ j)) H
/-- len(d) -/
noncomputable abbrev rLenD : List V → Hp → VK → Prop := fun xs H Q => ∃ a kvs, xs = [V.ref a] ∧ H a = some (.dK kvs) ∧ Q (.int kvs.length) H
noncomputable def cLenD : List PyData → Option PyData
 | [.dict kd] => if isDct kd = true then some (.int (kd.length : Nat)) else none
 | _ => none
theorem Zfj : CbF rLenD cLenD := ⟨fun {xs G ds d} dx e H gh Q q => by
 unfold cLenD at e
 split at e
 case h_2 => cases e
 rename_i kd
 split at e
 case isFalse => cases e
 rename_i hd
 cases e
 obtain ⟨v, rfl, dv⟩ := dx.one
 obtain ⟨p, kvs, es, rfl, hp, r, rfl⟩ := dv.dctOf hd
 refine ⟨p, kvs, rfl, gh _ _ hp, ?_⟩
 have hl := r.len
 rw [List.length_map] at hl
 have e2 : (((kvs.map fun kv => keyD kv.1).zip es).length : Nat) = kvs.length := by rw [List.length_zip, List.length_map, ← hl, Nat.min_self]
 rw [e2] at q
 exact q _ H (Ex.refl H) (ZC fun _ z => nomatch z) (.int _)⟩
theorem Zlg {ta tb : TE} {a b : FW} (ha : SW ta a) (hb : SW tb b) : SW (tDIn ta tb) (wOp (oDIn false) a b) := (Zrv ha hb).w
theorem Zk3 {ta tb : TE} {a b : FW} (ha : SW ta a) (hb : SW tb b) : SW (tDNotIn ta tb) (wOp (oDIn true) a b) := (ZoF ha hb).w
/-- no error gets out -/
noncomputable def noEx (s : FS) : FS := fun en => match s en with
 | some (.ex _, _) => none
 | r => r
theorem Zpb {kp : Nat → Bool} {W : WX} {t : TS} {s : FS} (h : SS kp (fun _ _ _ _ => False) t s) : SS kp W t (noEx s) := ⟨fun {F G ls H o en'} g e D k => by
 unfold noEx at e
 cases z : s (ens ls) with
 | none => rw [z] at e; cases e
 | some r =>
  obtain ⟨o1, e1⟩ := r
  rw [z] at e
  cases o1 with
  | ex C => cases e
  | nx => cases e; exact h g z k
  | rt T => cases e; exact h g z k
  | bk => cases e; exact h g z k
  | ct => cases e; exact h g z k⟩
end Kb
namespace Kb
open PySem L2 Evl
noncomputable def putQ (k : Key) (d : PyData) (l : List (Key × PyData)) : List (Key × PyData) := if (l.any fun kv => decide (kv.1 = k)) = true then l.map (fun kv => if kv.1 = k then (kv.1, d) else kv) else l ++ [(k, d)]
inductive KvR (G : Hp) : List (Key × V) → List (Key × PyData) → Prop
 | nil : KvR G [] []
 | cons {k : Key} {v : V} {d : PyData} {l : List (Key × V)} {m : List (Key × PyData)} : Dt G v d → KvR G l m → KvR G ((k, v) :: l) ((k, d) :: m)
theorem KvR.any {G : Hp} {k : Key} {l : List (Key × V)} {m : List (Key × PyData)} (h : KvR G l m) : (l.any fun kv => decide (kv.1 = k)) = m.any fun kv => decide (kv.1 = k) := by
 induction h with
 | nil => rfl
 | cons _ _ ih => simp only [List.any_cons, ih]
theorem KvR.put1 {G : Hp} {k : Key} {v : V} {d : PyData} (hv : Dt G v d) {l : List (Key × V)} {m : List (Key × PyData)} (h : KvR G l m) : KvR G (l.map fun kv => if kv.1 = k then (kv.1, v) else kv) (m.map fun kv => if kv.1 = k then (kv.1, d) else kv) := by
 induction h with
 | nil => exact .nil
 | cons hd _ ih =>
  rename_i k' v' d' l m _
  rw [List.map_cons, List.map_cons]
  by_cases z : k' = k
  ·subst z
   simp only [if_true]
   exact .cons hv ih
  ·simp only [z, if_false]
   exact .cons hd ih
theorem KvR.put2 {G : Hp} {k : Key} {v : V} {d : PyData} (hv : Dt G v d) {l : List (Key × V)} {m : List (Key × PyData)} (h : KvR G l m) : KvR G (l ++ [(k, v)]) (m ++ [(k, d)]) := by
 induction h with
 | nil => exact .cons hv .nil
 | cons hd _ ih => exact .cons hd ih
theorem KvR.put {G : Hp} {k : Key} {v : V} {d : PyData} (hv : Dt G v d) {l : List (Key × V)} {m : List (Key × PyData)} (h : KvR G l m) : KvR G (putK l k v) (putQ k d m) := by
 unfold putK putQ
 rw [h.any]
 split
 ·exact h.put1 hv
 ·exact h.put2 hv
theorem KvR.merge {G : Hp} {l : List (Key × V)} {m : List (Key × PyData)} (h : KvR G l m) : ∀ {l0 : List (Key × V)} {m0 : List (Key × PyData)}, KvR G l0 m0 → KvR G (mergeK l0 l) (m.foldl (fun acc kv => putQ kv.1 kv.2 acc) m0) := by
 induction h with
 | nil => exact fun h0 => h0
 | cons hd _ ih => exact fun h0 => ih (h0.put hd)
end Kb
namespace Kb
open PySem L2 Evl
/-- the entries of a dict of the module, texts to ints -/
inductive TabE : List DictEntry → List (String × Int) → Prop
 | nil : TabE [] []
 | cons {e : DictEntry} {es : List DictEntry} {k : String} {t : Nat} {i : Int} {ts : List (String × Int)} : e.key = .str (Str.ofString k) t → RelV (.int i) e.val → TabE es ts → TabE (e :: es) ((k, i) :: ts)
structure GlD (K : PySem.W.Frag) (w : World) (mg : Str → Option Value) (x : Str) (u : Addr) (tab : List (String × Int)) : Prop where
 m : mg x = some (.ref u)
 kd : ∃ (es : Array DictEntry) (n : Nat), K.lookup u = some ⟨.type "dict", none, .dict es n, #[]⟩ ∧ PySem.W.KeysLit w.params es.toList ∧ TabE es.toList tab ∧ (u == sysModules) = false
noncomputable def tabAt (z : Str) (tab : List (String × Int)) : Option Int := (tab.find? fun p => decide (Str.ofString p.1 = z)).map (·.2)
theorem TabE.find {z : Str} : ∀ {es : List DictEntry} {tab : List (String × Int)}, TabE es tab → (match es.find? (·.key.isStr z) with
   | some e => ∃ i, tabAt z tab = some i ∧ RelV (.int i) e.val
   | none => tabAt z tab = none ∧ es.any (·.refKey) = false)
 | _, _, .nil => ⟨rfl, rfl⟩
 | e :: es, _, .cons (k := k) (t := t) (i := i) (ts := ts) hk hv r => by
  have ih := TabE.find (z := z) r
  have hs : e.key.isStr z = decide (Str.ofString k = z) := by
   rw [hk]
   show (Str.ofString k == z) = _
   by_cases h : Str.ofString k = z
   ·rw [decide_eq_true h, h]; exact beq_self_eq_true z
   ·rw [decide_eq_false h]; exact beq_eq_false_iff_ne.mpr h
  rw [List.find?_cons]
  by_cases h : Str.ofString k = z
  ·rw [hs, decide_eq_true h]
   exact ⟨i, by unfold tabAt; rw [List.find?_cons, decide_eq_true h]; rfl, hv⟩
  ·rw [hs, decide_eq_false h]
   dsimp only
   have e1 : tabAt z ((k, i) :: ts) = tabAt z ts := by unfold tabAt; rw [List.find?_cons, decide_eq_false h]
   rw [e1]
   have e2 : e.refKey = false := by unfold DictEntry.refKey; rw [hk]
   cases q : es.find? (·.key.isStr z) with
   | some e' => rw [q] at ih; exact ih
   | none =>
    rw [q] at ih
    exact ⟨ih.1, by rw [List.any_cons, e2, ih.2]; rfl⟩
theorem GlD.at' {K : PySem.W.Frag} {w : World} {mg : Str → Option Value} {x : Str} {u : Addr} {tab : List (String × Int)} (g : GlD K w mg x u tab) (z : Str) : ∃ r, PySem.W.nsIn K u z = some r ∧ (match tabAt z tab with
  | some i => ∃ u0, r = some u0 ∧ RelV (.int i) u0
  | none => r = none) := by
 obtain ⟨es, n, hl, _, ht, _⟩ := g.kd
 have h := ht.find (z := z)
 unfold PySem.W.nsIn
 rw [hl]
 dsimp only
 cases q : es.toList.find? (·.key.isStr z) with
 | some e =>
  rw [q] at h
  obtain ⟨i, h1, h2⟩ := h
  exact ⟨_, rfl, by rw [h1]; exact ⟨_, rfl, h2⟩⟩
 | none =>
  rw [q] at h
  obtain ⟨h1, h2⟩ := h
  rw [h2]
  exact ⟨_, rfl, by rw [h1]⟩
end Kb
namespace Kb
open PySem PySem.Spec PyProof.Rows L2 Evl
section
variable {K : PySem.W.Frag} {mg : Str → Option Value} {W : WX} {kp : Nat → Bool} {i j : Nat} {te tf : Addr → TE} {w v : FW} {B C : Addr}
theorem ZkG {t t2 : Addr → TE} (ha : SWH i t w) (hb : SWH i t2 v) : SWH i (fun a => tM1 rSplit (t a) (t2 a)) (wOp oSplit w v) := ⟨fun {a en σ G d} hi h e H gh Q k => by
 obtain ⟨x, hx, e⟩ := bnd e
 obtain ⟨y, hy, e⟩ := bnd e
 unfold oSplit at e
 split at e
 case h_2 => cases e
 rename_i s t _
 split at e
 case isFalse => cases e
 rename_i hz
 cases e
 refine ha.run hi h hx H gh _ fun v1 H1 e1 d1 => ?_
 obtain rfl := d1.os
 refine ⟨⟨_, rfl⟩, ?_⟩
 refine hb.run hi h hy H1 (gh.trans e1) _ fun v2 H2 e2 d2 => ?_
 obtain rfl := d2.os
 refine ⟨s, t, rfl, rfl, beq_eq_false_iff_ne.mpr hz.1, by have := hz.2; rw [sizeLine_eq]; omega, fun p hp => ?_⟩
 exact k _ _ ((e1.trans e2).trans (Ex.new hp)) ((ZcB hp (Zh gh (e1.trans e2)) (Zg8 _)).up (ZM (e1.trans e2) (Ex.new hp)))⟩
end
end Kb
namespace L2
open PySem PySem.Spec PyProof.Rows
end L2
namespace L2
open PySem PySem.Spec PyProof.Rows
end L2
namespace Kb
open PySem L2 Evl
theorem AtV.succ {σ : L2.St} {o : Option V} : ∀ {is : List Nat} {vs : List V}, AtV (o :: σ) (is.map (· + 1)) vs → AtV σ is vs
 | [], [], h => h
 | i :: is, v :: vs, h => ⟨h.1, AtV.succ h.2⟩
 | [], _ :: _, h => h.elim
 | _ :: _, [], h => h.elim
end Kb
namespace Kb
open PySem L2 Evl
noncomputable def kidsL (cs : List (Lab × LT)) : Ls := cs.map fun x => some x.2
noncomputable def kidsE (cs : List (Lab × OT)) : En := cs.map fun x => some x.2
theorem Znc (cs : List (Lab × LT)) : ens (kidsL cs) = kidsE (LT.erL cs) := by simp [ens, kidsL, kidsE, LT.erL_map, Function.comp_def]
theorem ZmI (cs : List (Lab × LT)) : adsS (kidsL cs) = LT.adsL cs := by rw [LT.adsL_map]; simp [adsS, kidsL, List.flatMap_map, oads]
theorem Zhu {ls : Ls} {i : Nat} {t : LT} (hi : ls[i]? = some (some t)) (b : Addr) : (adsS (ls.set i none)).count b + t.ads.count b = (adsS ls).count b := by
 have := Za6 (b := b) hi none
 have e1 : (oads (some t)).count b = t.ads.count b := rfl
 have e2 : (oads none).count b = 0 := rfl
 omega
section
variable {F G H : Hp} {ls : Ls} {i : Nat} {k : Kd} {a dx : Addr} {cs : List (Lab × LT)}
theorem Zin (a b : Ls) : vals (a ++ b) = vals a ++ vals b := by simp [vals]
/-- parts that are all there -/
noncomputable def allS : En → Option (List OT)
 | [] => some []
 | some T :: r => (allS r).map (T :: ·)
 | none :: _ => none
theorem Zhm : ∀ {cs : List (Lab × LT)} {Kd : Ls}, vals Kd = vals (kidsL cs) → ∃ cs' : List (Lab × LT), Kd = kidsL cs' ∧ LT.vals cs' = LT.vals cs ∧ cs'.map (·.1) = cs.map (·.1)
 | [], Kd, h => by
  cases Kd with
  | nil => exact ⟨[], rfl, rfl, rfl⟩
  | cons a b => cases h
 | (l, t) :: cs, Kd, h => by
  cases Kd with
  | nil => cases h
  | cons o r =>
   have h1 := List.cons.inj h
   obtain ⟨cs', e1, e2, e3⟩ := Zhm (cs := cs) (Kd := r) h1.2
   cases o with
   | none => cases h1.1
   | some t' =>
    have hv : t'.val = t.val := Option.some.inj h1.1
    refine ⟨(l, t') :: cs', by rw [e1]; rfl, ?_, by simp [e3]⟩
    show (l, t'.val) :: LT.vals cs' = (l, t.val) :: LT.vals cs
    rw [hv, e2]
theorem Zhd : ∀ (cs : List (Lab × OT)), allS (kidsE cs) = some (cs.map (·.2))
 | [] => rfl
 | (l, t) :: r => by
  show (allS (kidsE r)).map _ = _
  rw [Zhd r]
  rfl
noncomputable def impl (n i : Nat) (k : Kd) (labs : List Lab) (e : En) : Option En := (allS (e.drop n)).map fun Ts => (e.take n).set i (some (.node k (labs.zip Ts)))
theorem ZiL : ∀ (cs : List (Lab × OT)), (cs.map (·.1)).zip (cs.map (·.2)) = cs
 | [] => rfl
 | (l, t) :: r => by simp [ZiL r]
/-- put together again -/
theorem Good.join {G' H' : Hp} {A B : Ls} (g : Good F G ls H) (hi : ls[i]? = some (some (.node k a dx cs))) (g' : Good (fadd F H (k.own a dx)) G' (A ++ B) H') (gx : Gx (fadd F H (k.own a dx)) G G') (hv : vals B = vals (ls.set i none ++ kidsL cs)) :
  ∃ l3, Good F G' (A ++ l3) H' ∧ Gx F G G' ∧ impl ls.length i k (cs.map (·.1)) (ens B) = some (ens l3) ∧ vals l3 = vals ls := by
 have hnd : ∀ b, (adsS ls).count b ≤ 1 := fun b => List.nodup_iff_count.mp g.nd b
 obtain ⟨k1, k2, k3⟩ := LT.ok_node.mp (g.ok _ (List.mem_of_getElem? hi))
 have hlB : B.length = ls.length + cs.length := by
  have := congrArg List.length hv
  simp [ZH, kidsL] at this
  exact this
 have eB : B = B.take ls.length ++ B.drop ls.length := (List.take_append_drop _ _).symm
 have hl1 : (B.take ls.length).length = ls.length := by rw [List.length_take]; omega
 have hv1 : vals (B.take ls.length) = vals (ls.set i none) ∧ vals (B.drop ls.length) = vals (kidsL cs) := by
  rw [eB, Zin, Zin] at hv
  exact List.append_inj hv (by rw [ZH, ZH, List.length_set, hl1])
 obtain ⟨cs', e1, e2, e3⟩ := Zhm hv1.2
 have hil : i < ls.length := (List.getElem?_eq_some_iff.mp hi).1
 have hB1 : (B.take ls.length)[i]? = some none := by
  have h1 : (vals (B.take ls.length))[i]? = some none := by
   rw [hv1.1]
   unfold vals
   rw [List.map_set, List.getElem?_set, if_pos rfl, List.length_map, if_pos hil]
   rfl
  unfold vals at h1
  rw [List.getElem?_map] at h1
  obtain ⟨o, ho, ho2⟩ := Option.map_eq_some_iff.mp h1
  cases o with
  | none => exact ho
  | some z => cases ho2
 have ownF : ∀ b ∈ k.own a dx, ∃ o, H b = some o ∧ fadd F H (k.own a dx) b = some o ∧ F b = none ∧ G b = none := fun b hb => by
  have hm : b ∈ adsS ls := ZaM.mpr ⟨_, List.mem_of_getElem? hi, LT.ads_node.mpr (.inl hb)⟩
  obtain ⟨o, ho⟩ := g.has hm
  exact ⟨o, ho, by unfold fadd; rw [if_pos hb]; exact ho, g.fn b hm, g.gn b hm⟩
 have hFF : ∀ b o, F b = some o → fadd F H (k.own a dx) b = some o := fun b o h => by
  unfold fadd
  rw [if_neg fun z => by obtain ⟨_, _, _, h2, _⟩ := ownF b z; rw [h2] at h; cases h]
  exact h
 have hcnt : ∀ b, (adsS (A ++ (B.take ls.length).set i (some (.node k a dx cs')))).count b = (adsS (A ++ B)).count b + (k.own a dx).count b := fun b => by
  have e5 : (adsS B).count b = (adsS (B.take ls.length)).count b + (LT.adsL cs').count b := by
   conv => lhs; rw [eB]
   rw [Zr, List.count_append, e1, ZmI]
  rw [Zr, Zr, List.count_append, List.count_append]
  have h1 := Za6 (b := b) hB1 (some (.node k a dx cs'))
  have h2 : (oads (some (LT.node k a dx cs'))).count b = (k.own a dx).count b + (LT.adsL cs').count b := by
   show (LT.node k a dx cs').ads.count b = _
   rw [LT.ads_eq, List.count_append]
  have h3 : (oads none).count b = 0 := rfl
  omega
 have hno : ∀ b ∈ k.own a dx, (adsS (A ++ B)).count b = 0 := fun b hb => by
  rw [List.count_eq_zero]
  intro hb2
  obtain ⟨o, _, h2, _⟩ := ownF b hb
  rw [g'.fn b hb2] at h2
  cases h2
 have hown1 : ∀ b, (k.own a dx).count b ≤ 1 := fun b => by
  have h1 := Zhu hi b
  rw [LT.ads_eq, List.count_append] at h1
  have := hnd b
  omega
 have hcase : ∀ b ∈ adsS (A ++ (B.take ls.length).set i (some (.node k a dx cs'))), b ∈ adsS (A ++ B) ∨ b ∈ k.own a dx := fun b hb => by
  have h1 := ZP.mp hb
  rw [hcnt b] at h1
  by_cases z : 0 < (k.own a dx).count b
  ·exact .inr (ZP.mpr z)
  ·exact .inl (ZP.mpr (by omega))
 have gx2 : Gx F G G' := ⟨gx.ex, fun b o h => gx.no b o (hFF b o h)⟩
 refine ⟨(B.take ls.length).set i (some (.node k a dx cs')), ⟨fun b o h => g'.fh b o (hFF b o h), g'.gh, List.nodup_iff_count.mpr fun b => ?_, fun b hb => ?_, fun b hb => ?_, fun t ht => ?_⟩, gx2, ?_, ?_⟩
 ·rw [hcnt b]
  by_cases z : b ∈ k.own a dx
  ·have := hno b z
   have := hown1 b
   omega
  ·rw [List.count_eq_zero.mpr z]
   exact List.nodup_iff_count.mp g'.nd b
 ·rcases hcase b hb with hb | hb
  ·exact g'.gn b hb
  ·obtain ⟨o, _, h2, _, h4⟩ := ownF b hb
   rw [gx.no b o h2]
   exact h4
 ·rcases hcase b hb with hb | hb
  ·have := g'.fn b hb
   unfold fadd at this
   split at this
   ·rename_i z
    obtain ⟨o, h1, _⟩ := ownF b z
    rw [this] at h1
    cases h1
   ·exact this
  ·exact (ownF b hb).choose_spec.2.2.1
 ·rcases List.mem_append.mp ht with ht | ht
  ·exact g'.ok t (List.mem_append_left _ ht)
  ·rcases List.mem_or_eq_of_mem_set ht with ht | ht
   ·exact g'.ok t (List.mem_append_right _ (List.mem_of_mem_take ht))
   ·cases ht
    have hH : ∀ b ∈ k.own a dx, H' b = H b := fun b hb => by
     obtain ⟨o, h1, h2, _⟩ := ownF b hb
     rw [h1, g'.fh b o h2]
    refine LT.ok_node.mpr ⟨?_, ?_, fun x hx => g'.ok _ (List.mem_append_right _ ?_)⟩
    ·rw [hH a LT.mem_own, k1, e2]
    ·cases k <;> try trivial
     exact (hH dx (by simp [Kd.own])).trans k2
    ·rw [eB, e1]
     exact List.mem_append_right _ (List.mem_map.mpr ⟨x, hx, rfl⟩)
 ·unfold impl
  have h1 : (ens B).drop ls.length = kidsE (LT.erL cs') := by
   rw [← Znc, ← e1]
   unfold ens
   rw [List.map_drop]
  have h2 : (ens B).take ls.length = ens (B.take ls.length) := by unfold ens; rw [List.map_take]
  rw [h1, Zhd, h2, ZbQ]
  have : cs.map (·.1) = (LT.erL cs').map (·.1) := by rw [LT.erL_map, List.map_map, ← e3]; rfl
  rw [LT.er, this]
  show some _ = _
  dsimp only
  rw [ZiL]
 ·rw [ZbF, hv1.1]
  apply List.ext_getElem?
  intro j
  rw [List.getElem?_set]
  split
  ·rename_i z
   subst z
   rw [ZH, List.length_set, if_pos hil]
   unfold vals
   rw [List.getElem?_map, hi]
   rfl
  ·rename_i z
   unfold vals
   rw [List.map_set, List.getElem?_set, if_neg z]
end
end Kb
namespace Kb
open PySem L2 Evl
noncomputable def xCbW (f : List PyData → Option PyData) (i : Nat) (x : FX) : FX := fun en => ((en[i]?).join).bind fun _ => bx (x en) fun d2 e1 => ((e1[i]?).join).bind fun T => (f [T.data, d2]).bind fun d => if flatD d = true then some (.ok d, e1) else none
theorem ZqQ {W : WX} {te : TE} {x : FX} {i : Nat} {R : List PyData → PyData → Prop} {f : List PyData → Option PyData} (hf : ∀ {ds d}, f ds = some d → R ds d) (hx : SX W te x) : SX W (tCall (PSp R) [] E0 (tCons (tVar i) (tCons te tNil))) (xCbW f i x) := ⟨fun {F G ls H r en'} g e Q k kx => by
 obtain ⟨T0, hT0, e⟩ := bnd e
 obtain ⟨t0, p1, _⟩ := Zc9 hT0
 have p3 : (vals ls)[i]? = some (some t0.val) := by unfold vals; rw [List.getElem?_map, p1]; rfl
 refine ⟨_, p3, ?_⟩
 rcases Zu e with ⟨d2, e1, h1, h2⟩ | ⟨C, h1, rfl⟩
 ·refine hx g h1 (fun d hd v G1 l1 H1 E1 dv => ?_) (fun C hC => nomatch hC)
  cases hd
  obtain ⟨T, hT, h3⟩ := bnd h2
  obtain ⟨d, hd, h4⟩ := bnd h3
  split at h4
  case isFalse => cases h4
  rename_i hfl
  cases h4
  rw [← E1.en] at hT
  have q3 : (vals l1)[i]? = some (some t0.val) := by rw [E1.vs]; exact p3
  have dw : Dt (seen G1 H1 (adsS l1)) t0.val T.data := by
   have hwk : (weak (ens l1))[i]? = some (some T.data) := by
    unfold weak
    rw [List.getElem?_map, join_some hT]
    rfl
   obtain ⟨v', hv', dv'⟩ := (ZdF E1.gd).2 i T.data hwk
   rw [q3] at hv'
   cases hv'
   exact dv'
  refine ⟨seen G1 H1 (adsS l1), [T.data, d2], d, Zds E1.gd.gh, .cons dw (.cons (dv.up (Zd6 E1.gd.gn)) .nil), hf hd, fun z H3 e3 dz => ?_⟩
  exact k d rfl z _ l1 H3 (E1.trans ⟨E1.gd.stay e3, Gx.refl, E1.en, rfl⟩) (Zg7 dz hfl)
 ·exact hx g h1 (fun d hd => nomatch hd) fun C' hC' => kx C' (rxc hC')⟩
/-- place[e] of a tuple -/
noncomputable def pT (pl : FP) (w : FW) : FP := fun en => (w (strong en)).bind fun d => (asI d).bind fun j => (pl en).bind fun q => (subE en q.1 q.2).bind fun S => match S with
 | .node .tup cs => (L2.ixN cs.length j).map fun n => (q.1, q.2 ++ [n])
 | _ => none
theorem Zjw (dx : Addr) (cs : List (Lab × LT)) : hoOf .tup dx (LT.vals cs) = .tup (cs.map fun x => x.2.val) := by
 simp [hoOf, LT.vals, Function.comp_def]
theorem Zqu {K : PySem.W.Frag} {ta te : TE} {w : FW} {pl : FP} (hp : SP ta pl) (hw : SW te w) : SP (tOp (rIxT K) ta te) (pT pl w) := ⟨fun {F G ls H i p} g e Q k => by
 obtain ⟨d, h1, e1⟩ := bnd e
 obtain ⟨j, hj, e1⟩ := bnd e1
 obtain ⟨⟨i0, p0⟩, h2, e2⟩ := bnd e1
 obtain ⟨S, h3, e3⟩ := bnd e2
 split at e3
 case h_2 => cases e3
 rename_i cs
 obtain ⟨m, hm, e4⟩ := Option.map_eq_some_iff.mp e3
 cases e4
 obtain ⟨t, s, q1, q2, q3⟩ := ZdW h3
 obtain ⟨a, dx, c, rfl, q4⟩ := Zbd q3
 obtain ⟨z1, z2⟩ := g.at_sub q1 q2
 rw [Zjw] at z1
 rw [← q4, ZbN] at hm
 have hlt := (L2.ixN_seq hm).2.1
 refine hp.run g h2 fun t' s' H0 x0 r1 r2 => ?_
 rw [q1] at r1
 cases r1
 rw [q2] at r2
 cases r2
 have g0 := g.stay x0
 refine hw (Z0 g0) h1 H0 g0.gh _ fun v H1 x1 dv => ?_
 unfold asI at hj
 split at hj
 case h_2 => cases hj
 cases hj
 cases dv
 refine ⟨a, _, _, (c[m]).2.val, rfl, rfl, st_of (x1 _ _ (x0 _ _ z1)), ?_, k t (c[m]).2 H1 (x0.trans x1) q1 ?_⟩
 ·unfold L2.atI
  rw [List.length_map, hm]
  show (c.map fun x => x.2.val)[m]? = _
  rw [List.getElem?_map, List.getElem?_eq_getElem hlt]
  rfl
 ·rw [LT.sub_app q2]
  show ((c[m]?).bind fun x => x.2.sub []) = some (c[m]).2
  rw [List.getElem?_eq_getElem hlt]
  show (c[m]).2.sub [] = _
  cases (c[m]).2 <;> rfl⟩
end Kb
namespace Kb
open PySem L2 Evl
noncomputable def nCatT1 (w : FW) (n : FN) : FN := fun en => (w (strong en)).bind fun d => match d with
 | .tuple ds => if ds.all flatD = true ∧ ds.length < 1000 then bx (n en) fun T e1 => some (.ok (.node .tup ((ds.map OT.leaf ++ [T]).map fun T => (Lab.no, T))), e1) else none
 | _ => none
theorem Zha {F G H : Hp} {Ts : List LT} {ls : Ls} {p : Addr} (g : Good F G (Ts.map some ++ ls) H) (hp : H p = none) : Good F G (some (.node .tup p 0 (Ts.map fun T => (Lab.no, T))) :: ls) (upd H p (.tup (Ts.map LT.val))) := by
 have gs := g.stay (Ex.new (o := .tup (Ts.map LT.val)) hp)
 have hads : (LT.node .tup p 0 (Ts.map fun T => (Lab.no, T))).ads = p :: adsS (Ts.map some) := by
  rw [LT.ads]
  show [p] ++ _ = _
  rw [LT.adsL_map, List.flatMap_map]
  unfold adsS
  rw [List.flatMap_map]
  rfl
 have hn : p ∉ adsS (Ts.map some ++ ls) := fun h => by
  obtain ⟨o, ho⟩ := g.has h
  rw [hp] at ho
  cases ho
 have e : adsS (some (.node .tup p 0 (Ts.map fun T => (Lab.no, T))) :: ls) = p :: adsS (Ts.map some ++ ls) := by
  rw [ZE, Zr]
  show LT.ads _ ++ _ = _
  rw [hads]
  rfl
 refine ⟨gs.fh, gs.gh, ?_, ?_, ?_, ?_⟩
 ·rw [e]
  exact List.nodup_cons.mpr ⟨hn, gs.nd⟩
 ·intro a ha
  rw [e] at ha
  rcases List.mem_cons.mp ha with rfl | h
  ·exact fresh_back g.gh hp
  ·exact gs.gn a h
 ·intro a ha
  rw [e] at ha
  rcases List.mem_cons.mp ha with rfl | h
  ·exact fresh_back g.fh hp
  ·exact gs.fn a h
 ·intro t ht
  rcases List.mem_cons.mp ht with z | z
  ·cases z
   refine LT.ok_node.mpr ⟨?_, trivial, fun x hx => ?_⟩
   ·rw [upd_same]
    simp [hoOf, LT.vals, Function.comp_def]
   ·obtain ⟨T, hT, rfl⟩ := List.mem_map.mp hx
    exact gs.ok T (List.mem_append_left _ (List.mem_map.mpr ⟨T, hT, rfl⟩))
  ·exact gs.ok t (List.mem_append_right _ z)
theorem Zkc {Ts : List LT} (h : Ts.flatMap LT.ads = []) : adsS (Ts.map some) = [] := by
 rw [← h]
 unfold adsS
 rw [List.flatMap_map]
 rfl
theorem Ziw {G H : Hp} : ∀ {vs : List V} {ds : List PyData}, DtAll G vs ds → ∃ Ts : List LT, (∀ T ∈ Ts, T.ok G H) ∧ Ts.map LT.val = vs ∧ Ts.map LT.er = ds.map OT.leaf ∧ Ts.flatMap LT.ads = []
 | _, _, .nil => ⟨[], fun _ h => (nomatch h), rfl, rfl, rfl⟩
 | _, _, .cons (v := v) (d := d) h r => by
  obtain ⟨Ts, o, h1, h2, h3⟩ := Ziw (H := H) r
  refine ⟨.leaf v d :: Ts, fun T hT => ?_, by rw [List.map_cons, h1]; rfl, by rw [List.map_cons, List.map_cons, h2]; rfl, ?_⟩
  ·rcases List.mem_cons.mp hT with rfl | hT
   ·exact h
   ·exact o T hT
  ·rw [List.flatMap_cons, h3]; rfl
/-- the frame may hold one thing more -/
theorem Zg6 {F F' G H : Hp} {ls : Ls} (e : Ex F F') (g : Good F' G ls H) : Good F G ls H := ⟨e.trans g.fh, g.gh, g.nd, g.gn, fun a ha => fresh_back e (g.fn a ha), g.ok⟩
theorem Zko {F F' G G' : Hp} (e : Ex F F') (x : Gx F' G G') : Gx F G G' := ⟨x.ex, fun a o h => x.no a o (e a o h)⟩
theorem Zsj {W : WX} {F F' G : Hp} {ls : Ls} {C : Addr} {en' : En} (e : Ex F F') (h : XC W F G ls C en') : XC W F' G ls C en' := fun G' ls' H' E => h G' ls' H' ⟨Zg6 e E.gd, Zko e E.gx, E.en, E.vs⟩
theorem Zlz {F G H : Hp} {ls : Ls} {q : Addr} {o : HO} (g : Good F G ls H) (hq : H q = some o) (hn : q ∉ adsS ls) : Ex F (upd F q o) ∧ Good (upd F q o) G ls H := by
 have e : Ex F (upd F q o) := fun a x h => by
  unfold upd
  split
  ·rename_i z
   rw [z] at h
   have := g.fh _ _ h
   rw [hq] at this
   exact this
  ·exact h
 refine ⟨e, ⟨fun a x h => ?_, g.gh, g.nd, g.gn, fun a ha => ?_, g.ok⟩⟩
 ·unfold upd at h
  split at h
  ·rename_i z
   cases h
   rw [z]
   exact hq
  ·exact g.fh a x h
 ·unfold upd
  split
  ·rename_i z
   rw [z] at ha
   exact absurd ha hn
  ·exact g.fn a ha
theorem Zmo {K : PySem.W.Frag} {W : WX} {ta te : TE} {w : FW} {n : FN} (hw : SW ta w) (hn : SN W te n) : SN W (tOp (rCatA K) ta (tTup (tCons te tNil))) (nCatT1 w n) := ⟨fun {F G ls H r en'} g e Q k kx => by
 obtain ⟨d, hd, e⟩ := bnd e
 split at e
 case h_2 => cases e
 rename_i ds
 split at e
 case isFalse => cases e
 rename_i hf
 obtain ⟨hf, hlen⟩ := hf
 refine hw (Z0 g) hd H g.gh _ fun v H1 x1 dv => ?_
 obtain ⟨q, xs, rfl, hq, rr⟩ := dv.ot
 have hq1 : H1 q = some (.tup xs) := Zh g.gh x1 _ _ hq
 have hnq : q ∉ adsS ls := fun ha => by
  obtain ⟨o, ho⟩ := g.has ha
  rw [Zt ho, g.gn q ha] at hq
  cases hq
 have hxl := rr.len
 obtain ⟨eF, g1⟩ := Zlz (g.stay x1) hq1 hnq
 rcases Zu e with ⟨T, e1, h1, h2⟩ | ⟨C, h1, rfl⟩
 ·cases h2
  refine hn g1 h1 (fun d hd T0 G1 l1 H2 g2 gx2 he2 hv2 hT => ?_) (fun C hC => nomatch hC)
  cases hd
  refine ⟨by show 1 ≤ sizeLine; decide, fun p hp => ?_⟩
  have hq2 : H2 q = some (.tup xs) := g2.fh _ _ upd_same
  obtain ⟨Ts, o, t1, t2, t3⟩ := Ziw (G := G1) (H := upd H2 p (.tup [T0.val])) (Zf6 rr hf)
  have g3 := (Zg6 eF g2).stay (Ex.new (o := .tup [T0.val]) hp)
  have g4 : Good F G1 ((Ts ++ [T0]).map some ++ l1) (upd H2 p (.tup [T0.val])) := g3.pick (fun b => by
   rw [List.map_append, Zr, Zr, Zkc t3, ZE]
   show (([] ++ adsS [some T0]) ++ adsS l1).count b ≤ _
   rw [ZE, List.nil_append]
   show ((oads (some T0) ++ []) ++ adsS l1).count b ≤ _
   rw [List.append_nil]
   exact Nat.le_refl _) fun t ht => by
    rcases List.mem_append.mp ht with h | h
    ·rw [List.map_append] at h
     rcases List.mem_append.mp h with h | h
     ·obtain ⟨T9, hT, z⟩ := List.mem_map.mp h
      cases z
      exact o _ hT
     ·simp at h
      subst h
      exact g3.ok t List.mem_cons_self
    ·exact g3.ok t (List.mem_cons_of_mem _ h)
  have hz : (1000 : Nat) < sizeLine := by decide
  refine ⟨q, p, xs, [T0.val], rfl, rfl, st_of (Ex.new hp _ _ hq2), st_of upd_same, ?_, ?_, fun _ h => (nomatch h), fun _ _ l hl => ?_⟩
  ·show xs.length + 1 ≤ sizeLine
   omega
  ·intro hx
   have hT0 : Ts = [] := List.map_eq_nil_iff.mp (t1.trans hx)
   subst hT0
   refine k _ rfl (.node .tup p 0 ([T0].map fun T => (Lab.no, T))) G1 l1 _ ?_ (Zko eF gx2) he2 hv2 ?_
   ·exact Zha (Ts := [T0]) (by
     have := Zg6 eF g2
     exact this) hp
   ·rw [LT.er, LT.erL_map, List.map_map, List.map_append, ← t2, ← hT]
    rfl
  ·have hv : (Ts ++ [T0]).map LT.val = xs ++ [T0.val] := by rw [List.map_append, t1]; rfl
   rw [← hv]
   refine k _ rfl (.node .tup l 0 ((Ts ++ [T0]).map fun T => (Lab.no, T))) G1 l1 _ (Zha g4 hl) (Zko eF gx2) he2 hv2 ?_
   rw [LT.er, LT.erL_map, List.map_map, ← t2, ← hT, List.map_append, List.map_append, List.map_map]
   rfl
 ·exact hn g1 h1 (fun d hd => nomatch hd) fun C' hC' => Zsj eF (by
   have := kx C' (rxc hC')
   exact this)⟩
end Kb
namespace L2
open PySem PySem.Spec PyProof.Rows
/-- sorted of a set whose things are few -/
noncomputable def rSortedSetB (w : World) : List V → Hp → VK → Prop := fun vs H Q => ∃ (a : Addr) (S : Int → Bool) (n : Nat) (ms : List Int), vs = [V.ref a] ∧ H a = some (SetO w a S n) ∧ ms.Nodup ∧ (∀ k : Int, k ∈ ms ↔ S k = true) ∧ ms.length < 64 ∧
 ∀ (ns : List Int) (p : Addr), ns.Pairwise (· < ·) → (∀ k : Int, k ∈ ns ↔ S k = true) → H p = none → Q (.ref p) (upd H p (.lst (ns.map V.int)))
section
variable {X : Cx}
theorem ZcR (hc : X.calm = true) : CallR X (.builtin "sorted") (rSortedSetB X.w) := by
 intro pins s σ H vs us Q I r h
 obtain ⟨a, S, n, ms, rfl, ha, hm, hS, h64, q⟩ := h
 have R := setO_get I ha
 have hn : n < 64 := by
  obtain ⟨o, es, ep, t, _, _, _, _, hnd, hk, _, _, hz, _⟩ := R
  have hp : (es.toList.map keyOf).Perm ms := (List.perm_ext_iff_of_nodup hnd hm).mpr fun k => by rw [← hk k, ← hS k]
  have := hp.length_eq
  rw [List.length_map, Array.length_toList] at this
  omega
 exact cr_sortedSet hc pins s σ H _ us Q I r ⟨a, S, n, rfl, ha, hn, fun ns p h1 h2 _ hp => q ns p h1 h2 hp⟩
end
end L2
namespace Kb
open PySem L2 Evl
noncomputable def oRiseB (d : PyData) : Option PyData := (asQ d).bind fun ds => (asLI ds).bind fun ns => if ns.length ≤ 1000 ∧ (rise ns).length < 64 then some (dLI (rise ns)) else none
section
variable {K : PySem.W.Frag} {w : World} {W : WX} {ta : TE} {a : FW}
theorem ZfR (ha : SW ta a) : SF (tCB (rSortedSetB w) (tCons (tCB (rSetQ K w) (tCons ta tNil)) tNil)) (wUn oRiseB a) := ⟨fun {en σ G d} h e => by
 obtain ⟨y, hy, e⟩ := bnd e
 obtain ⟨ds, hds, e⟩ := bnd e
 obtain ⟨ns, hn, e⟩ := bnd e
 split at e
 case isFalse => cases e
 rename_i hl
 cases e
 obtain rfl := Zjs hn
 have key : EvN (tCB (rSortedSetB w) (tCons (tCB (rSetQ K w) (tCons ta tNil)) tNil)) σ G (dLI (rise ns)) := fun H gh Q q => ha h hy H gh _ fun x H1 e1 dx => by
  have gh1 := Zh gh e1
  have hq : ∃ p, x = .ref p ∧ (SqL K H1 p (ns.map V.int) ∨ SqT K H1 p (ns.map V.int)) := by
   cases y with
   | list es =>
    cases hds
    obtain ⟨p, rfl, hp⟩ := dx.oli
    exact ⟨p, rfl, .inl (sq_of (gh1 _ _ hp))⟩
   | tuple es =>
    cases hds
    obtain ⟨p, xs, rfl, hp, r⟩ := dx.ot
    obtain rfl := Zg4 r
    exact ⟨p, rfl, .inr (st_of (gh1 _ _ hp))⟩
   | _ => cases hds
  obtain ⟨p0, rfl, hs⟩ := hq
  refine ⟨p0, ns, rfl, hs, hl.1, fun p c hp hc => ?_⟩
  refine ⟨p, _, c, rise ns, rfl, upd_same, (Zdw ns).imp (fun h => by omega), fun k => by rw [Zcw]; simp, hl.2, fun ns' p' hr hm hp' => ?_⟩
  have e2 : Ex H1 (upd (upd H1 p (SetO w p (fun j => decide (j ∈ ns)) c)) p' (.lst (ns'.map V.int))) := (Ex.new hp).trans (Ex.new hp')
  refine q p' _ (e1.trans e2) (fresh_back (e1.trans (Ex.new hp)) hp') ?_
  have en : ns' = rise ns := Zh0 hr (Zdw ns) fun k => by rw [hm k, Zcw]; simp
  subst en
  exact Dt.li (by rw [Zx (fresh_back (e1.trans (Ex.new hp)) hp'), upd_same])
 exact key.toF⟩
end
end Kb
namespace Kb
open PySem L2 Evl
mutual
noncomputable def noL : PyData → Bool
 | .none => true
 | .bool _ => true
 | .int _ => true
 | .str _ => true
 | .tuple ds => noLs ds
 | _ => false
noncomputable def noLs : List PyData → Bool
 | [] => true
 | d :: r => noL d && noLs r
end
theorem ZiG : ∀ ds : List PyData, noLs ds = ds.all noL
 | [] => by rw [noLs]; rfl
 | d :: r => by rw [noLs, ZiG r]; rfl
mutual
noncomputable def noLT : OT → Bool
 | .leaf d => noL d
 | .node _ cs => noLTs cs
noncomputable def noLTs : List (Lab × OT) → Bool
 | [] => true
 | (_, t) :: r => noLT t && noLTs r
end
theorem ZeW : ∀ cs : List (Lab × OT), noLTs cs = cs.all fun x => noLT x.2
 | [] => by rw [noLTs]; rfl
 | (l, t) :: r => by rw [noLTs, ZeW r]; rfl
noncomputable def isLf : OT → Bool
 | .leaf _ => true
 | _ => false
noncomputable def lsLf : OT → Bool
 | .node .lst cs => cs.all fun x => isLf x.2
 | _ => false
noncomputable def lendT : OT → Bool
 | .leaf _ => true
 | .node .tup cs => (cs.any fun x => lsLf x.2) && cs.all fun x => isLf x.2 || lsLf x.2
 | _ => false
/-- f(own, lent): the second thing is told while the call runs -/
noncomputable def nCallL (fd : FD) (i j : Nat) : FN := fun en => (pullE [i, j] en).bind fun r => match r.1 with
 | [A, B] => if lendT B = true then (fd [A, .leaf B.data]).bind fun q => match q with
  | (.ok (.leaf d), [A', _]) => if noL d = true ∧ noLT A' = true then some (.ok (.leaf d), putE [i, j] [A', B] r.2) else none
  | _ => none else none
 | _ => none
/-- what is told but for some cells -/
noncomputable def lessH (G : Hp) (as : List Addr) : Hp := fun a => if a ∈ as then none else G a
mutual
theorem Dt.less {G : Hp} {as : List Addr} (hS : ∀ a ∈ as, ∀ d, Dt G (.ref a) d → noL d = false) : ∀ (d : PyData) (v : V), Dt G v d → noL d = true → Dt (lessH G as) v d
 | _, _, .non, _ => .non
 | _, _, .bl b, _ => .bl b
 | _, _, .int i, _ => .int i
 | _, _, .str x, _ => .str x
 | _, _, .lst h r, c => by rw [noL] at c; cases c; all_goals (intros; contradiction)
 | _, _, .tup (a := a) h r, c => by
  have hd := Dt.tup h r
  have ha : a ∉ as := fun z => by
   have := hS a z _ hd
   rw [c] at this
   cases this
  refine .tup (by unfold lessH; rw [if_neg ha]; exact h) (DtAll.less hS _ _ r (by rw [noL] at c; exact c))
 | _, _, .dct h r z, c => by rw [noL] at c; cases c; all_goals (intros; contradiction)
 | _, _, .ins h r z, c => by rw [noL] at c; cases c; all_goals (intros; contradiction)
 | _, _, .lkd h r z, c => by rw [noL] at c; cases c; all_goals (intros; contradiction)
 | _, _, .lkl h r z, c => by rw [noL] at c; cases c; all_goals (intros; contradiction)
theorem DtAll.less {G : Hp} {as : List Addr} (hS : ∀ a ∈ as, ∀ d, Dt G (.ref a) d → noL d = false) : ∀ (ds : List PyData) (vs : List V), DtAll G vs ds → noLs ds = true → DtAll (lessH G as) vs ds
 | _, _, .nil, _ => .nil
 | _, _, .cons h r, c => by
  rw [noLs, Bool.and_eq_true] at c
  exact .cons (Dt.less hS _ _ h c.1) (DtAll.less hS _ _ r c.2)
end
theorem LT.less {G H : Hp} {as : List Addr} (hS : ∀ a ∈ as, ∀ d, Dt G (.ref a) d → noL d = false) (t : LT) : noLT t.er = true → t.ok G H → t.ok (lessH G as) H := by
 induction t using LT.ind with
 | hl v d => exact fun c h => Dt.less hS d v h (by rw [LT.er, noLT] at c; exact c)
 | hn k a dx cs ih =>
  intro c
  rw [LT.ok_node, LT.ok_node]
  rintro ⟨h1, h2, h3⟩
  refine ⟨h1, h2, fun x hx => ih x hx ?_ (h3 x hx)⟩
  rw [LT.er, noLT, ZeW, LT.erL_map, List.all_map] at c
  exact List.all_eq_true.mp c x hx
theorem Zjo {G : Hp} {l : Addr} {xs : List V} {d : PyData} (h : Dt G (.ref l) d) (hl : G l = some (.lst xs)) : noL d = false := by
 cases h with
 | lst h1 h2 => simp [noL]
 | tup h1 h2 => rw [hl] at h1; cases h1
 | dct h1 h2 z => simp [noL]
 | ins h1 h2 z => simp [noL]
 | lkd h1 h2 z => simp [noL]
 | lkl h1 h2 z => simp [noL]
theorem ZjN : ∀ {vs : List V} {ds : List PyData} {G : Hp} {l : Addr} {xs : List V}, DtAll G vs ds → V.ref l ∈ vs → G l = some (.lst xs) → noLs ds = false
 | _, _, _, _, _, .nil, h, _ => nomatch h
 | _, _, _, _, _, .cons h r, hm, hl => by
  rw [noLs]
  rcases List.mem_cons.mp hm with e | hm
  ·subst e
   rw [Zjo h hl]
   rfl
  ·rw [ZjN r hm hl, Bool.and_false]
theorem ZjO {t : LT} (h : lsLf t.er = true) : ∃ l dx cs, t = .node .lst l dx cs ∧ ∀ x ∈ cs, x.2.ads = [] := by
 cases t with
 | leaf v d => rw [LT.er] at h; cases h
 | node k a dx cs =>
  rw [LT.er] at h
  cases k <;> try (cases h; done)
  refine ⟨a, dx, cs, rfl, fun x hx => ?_⟩
  have h : ((LT.erL cs).all fun x => isLf x.2) = true := h
  rw [LT.erL_map, List.all_map] at h
  have := List.all_eq_true.mp h x hx
  cases hx2 : x.2 with
  | leaf v d => rfl
  | node k a dx cs =>
   have h9 : isLf x.2.er = true := this
   rw [hx2, LT.er] at h9
   cases h9
theorem Zpn {G G1 H : Hp} {t : LT} (hT : lendT t.er = true) (ok : t.ok G H) (hg : ∀ a ∈ t.ads, G1 a = H a) : ∀ a ∈ t.ads, ∀ d, Dt G1 (.ref a) d → noL d = false := by
 cases t with
 | leaf v d => exact fun a ha => nomatch ha
 | node k a dx cs =>
  rw [LT.er] at hT
  cases k <;> try (cases hT; done)
  have hT : (((LT.erL cs).any fun x => lsLf x.2) && (LT.erL cs).all fun x => isLf x.2 || lsLf x.2) = true := hT
  rw [Bool.and_eq_true, LT.erL_map, List.any_map, List.all_map] at hT
  obtain ⟨h1, h2⟩ := hT
  obtain ⟨x, hx, hl⟩ := List.any_eq_true.mp h1
  have hl : lsLf x.2.er = true := hl
  obtain ⟨l, dl, cl, hx2, _⟩ := ZjO hl
  rw [LT.ok_node] at ok
  obtain ⟨o1, _, o3⟩ := ok
  have lat : ∀ y ∈ cs, ∀ l dl cl, y.2 = .node .lst l dl cl → ∃ xs, G1 l = some (.lst xs) := fun y hy l dl cl e => by
   have := o3 y hy
   rw [e, LT.ok_node] at this
   refine ⟨(LT.vals cl).map (·.2), ?_⟩
   rw [hg l (LT.ads_node.mpr (.inr ⟨y, hy, by rw [e]; exact LT.ads_node.mpr (.inl LT.mem_own)⟩))]
   exact this.1
  intro b hb d hd
  rcases LT.ads_node.mp hb with hb | ⟨y, hy, hb⟩
  ·simp only [Kd.own, List.mem_cons, List.not_mem_nil, or_false] at hb
   subst hb
   have hG : G1 b = some (hoOf .tup dx (LT.vals cs)) := by
    rw [hg b (LT.ads_node.mpr (.inl LT.mem_own))]
    exact o1
   rw [Zjw] at hG
   obtain ⟨xs, hxs⟩ := lat x hx l dl cl hx2
   have hm : V.ref l ∈ cs.map fun x => x.2.val := List.mem_map.mpr ⟨x, hx, by rw [hx2]; rfl⟩
   cases hd with
   | lst h1 h2 => rw [hG] at h1; cases h1
   | tup h1 h2 =>
    rw [hG] at h1
    cases h1
    rw [noL]
    exact ZjN h2 hm hxs
   | dct h1 h2 z => rw [hG] at h1; cases h1
   | ins h1 h2 z => rw [hG] at h1; cases h1
   | lkd h1 h2 z => rw [hG] at h1; cases h1
   | lkl h1 h2 z => rw [hG] at h1; cases h1
  ·have h3 : (isLf y.2.er || lsLf y.2.er) = true := List.all_eq_true.mp h2 y hy
   rcases Bool.or_eq_true _ _ ▸ h3 with h3 | h3
   ·cases hy2 : y.2 with
    | leaf v d => rw [hy2] at hb; cases hb
    | node k a dx cs => rw [hy2, LT.er] at h3; cases h3
   ·obtain ⟨l2, d2, c2, e, hc⟩ := ZjO h3
    rw [e] at hb
    rcases LT.ads_node.mp hb with hb | ⟨z, hz, hb⟩
    ·simp only [Kd.own, List.mem_cons, List.not_mem_nil, or_false] at hb
     subst hb
     obtain ⟨xs, hxs⟩ := lat y hy _ _ _ e
     exact Zjo hd hxs
    ·rw [hc z hz] at hb
     cases hb
theorem ZmP {W : WX} {fd : FD} {i j : Nat} : SN W (tCall (ISp fd) [] E0 (tCons (tVar i) (tCons (tVar j) tNil))) (nCallL fd i j) := ⟨fun {F G ls H r en'} g e Q k kx => by
 unfold nCallL at e
 obtain ⟨⟨Ts, e2⟩, hp, e⟩ := bnd e
 obtain ⟨ts, l2, q1, q2, q3, q4, q5⟩ := Zfh (A := []) g hp
 dsimp only at e
 split at e
 case h_2 => cases e
 rename_i A B
 split at e
 case isFalse => cases e
 rename_i hlT
 obtain ⟨q, hf, e⟩ := bnd e
 split at e
 case h_2 => cases e
 rename_i d A' X
 split at e
 case isFalse => cases e
 rename_i hc
 obtain ⟨hd, hA⟩ := hc
 cases e
 obtain ⟨ti, tj, rfl⟩ : ∃ ti tj, ts = [ti, tj] := by
  match ts, q1 with
  | [a, b], _ => exact ⟨a, b, rfl⟩
 cases q1
 have q3 : Good F G ([some ti, some tj] ++ l2) H := q3
 have g1 := q3.split
 have g1s : Good (fadd F H (adsS l2)) G (some tj :: [some ti]) H := g1.pick (fun b => by
  rw [ZE, ZE, ZE, ZE]
  simp only [List.count_append]
  omega) fun t ht => by
   rcases List.mem_cons.mp ht with z | z
   ·cases z; exact g1.ok _ (List.mem_cons_of_mem _ List.mem_cons_self)
   ·rcases List.mem_cons.mp z with z | z
    ·cases z; exact g1.ok _ List.mem_cons_self
    ·cases z
 have okj : tj.ok G H := g1s.ok _ List.mem_cons_self
 have hts : ∀ a ∈ tj.ads, a ∈ adsS (some tj :: [some ti]) := fun a ha => ZaM.mpr ⟨tj, List.mem_cons_self, ha⟩
 obtain ⟨g2, gx2, dt⟩ := g1s.freeze
 have g3 : Good (fadd F H (adsS l2)) (seen G H tj.ads) ([ti, .leaf tj.val tj.er.data].map some) H := (ZaJ g2 dt).pick (fun b => by
  show (adsS [some ti, some (.leaf tj.val tj.er.data)]).count b ≤ _
  rw [ZE, ZE, ZE, ZE]
  show (oads (some ti) ++ ([] ++ adsS [])).count b ≤ ([] ++ (oads (some ti) ++ adsS [])).count b
  simp) fun t ht => by
   rcases List.mem_cons.mp ht with z | z
   ·cases z; exact g2.ok _ List.mem_cons_self
   ·rcases List.mem_cons.mp z with z | z
    ·cases z; exact dt
    ·cases z
 refine Zfb (is := [i, j]) (t := tNil) q4 ?_
 show ISp fd (([ti, tj].map LT.val ++ []) ++ []) H Q E0
 rw [List.append_nil, List.append_nil]
 refine ⟨fadd F H (adsS l2), seen G H tj.ads, [ti, .leaf tj.val tj.er.data], _, _, rfl, g3, hf, fun T0 hr TT G1 ts' H1 g4 gx4 hes hvs hT1 => ?_, fun C hC => nomatch hC⟩
 cases hr
 cases TT with
 | node k a dx cs => rw [LT.er] at hT1; cases hT1
 | leaf v d9 =>
 rw [LT.er] at hT1
 cases hT1
 obtain ⟨t1, t2, rfl⟩ : ∃ t1 t2, ts' = [t1, t2] := by
  match ts', hes with
  | [a, b], _ => exact ⟨a, b, rfl⟩
 have he1 : t1.er = A' := by
  have := congrArg List.head? hes
  cases this
  rfl
 have hv1 : t1.val = ti.val := by
  have := congrArg List.head? hvs
  simpa using this
 have hGs : ∀ a ∈ tj.ads, G1 a = H a := fun a ha => by
  obtain ⟨o, ho⟩ := g1s.has (hts a ha)
  rw [ho]
  exact gx4.ex _ _ (by rw [Zg5 ha]; exact ho)
 have hS := Zpn hlT okj hGs
 have hH1 : ∀ a ∈ tj.ads, H1 a = H a := fun a ha => by
  obtain ⟨o, ho⟩ := g1s.has (hts a ha)
  have := hGs a ha
  rw [ho] at this ⊢
  exact g4.gh _ _ this
 have hex : Ex G (lessH G1 tj.ads) := fun a o h => by
  unfold lessH
  rw [if_neg fun z => by rw [g1s.gn a (hts a z)] at h; cases h]
  exact gx4.ex _ _ (gx2.ex _ _ h)
 have m1 : some t1 ∈ some (LT.leaf v d) :: [t1, t2].map some := List.mem_cons_of_mem _ List.mem_cons_self
 have hmm : ∀ a ∈ t1.ads, a ∈ adsS (some (LT.leaf v d) :: [t1, t2].map some) := fun a ha => ZaM.mpr ⟨t1, m1, ha⟩
 have htn : tj.ads.Nodup := by
  have h := g1s.nd
  rw [ZE] at h
  exact (List.nodup_append.mp h).1
 have h1n : t1.ads.Nodup := by
  have h := g4.nd
  have h : (([] : List Addr) ++ (t1.ads ++ adsS [some t2])).Nodup := h
  rw [List.nil_append] at h
  exact (List.nodup_append.mp h).1
 have hnl : ∀ b ∈ tj.ads, b ∉ t1.ads := fun b hb hb2 => by
  obtain ⟨o, ho⟩ := g1s.has (hts b hb)
  have h2 := g4.gn b (hmm b hb2)
  rw [hGs b hb, ho] at h2
  cases h2
 have e3 : adsS [some (LT.leaf v d), some t1, some tj] = t1.ads ++ tj.ads := by
  show [] ++ (t1.ads ++ (tj.ads ++ [])) = _
  rw [List.nil_append, List.append_nil]
 have g5 : Good (fadd F H (adsS l2)) (lessH G1 tj.ads) [some (LT.leaf v d), some t1, some tj] H1 := by
  refine ⟨g4.fh, fun a o h => ?_, ?_, ?_, ?_, ?_⟩
  ·unfold lessH at h
   split at h
   ·cases h
   ·exact g4.gh a o h
  ·rw [e3]
   refine List.nodup_append.mpr ⟨h1n, htn, fun a ha b hb z => ?_⟩
   subst z
   exact hnl a hb ha
  ·intro a ha
   rw [e3] at ha
   unfold lessH
   split
   ·rfl
   ·rename_i z
    rcases List.mem_append.mp ha with ha | ha
    ·exact g4.gn a (hmm a ha)
    ·exact absurd ha z
  ·intro a ha
   rw [e3] at ha
   rcases List.mem_append.mp ha with ha | ha
   ·exact g4.fn a (hmm a ha)
   ·exact g1s.fn a (hts a ha)
  ·intro t9 ht9
   rcases List.mem_cons.mp ht9 with z | z
   ·cases z
    exact Dt.less hS d v (g4.ok _ List.mem_cons_self) hd
   ·rcases List.mem_cons.mp z with z | z
    ·cases z
     exact LT.less hS t1 (by rw [he1]; exact hA) (g4.ok _ m1)
    ·rcases List.mem_cons.mp z with z | z
     ·cases z
      exact LT.ok_mono hex tj (LT.ok_heap tj hH1 okj)
     ·cases z
 have gx5 : Gx (fadd F H (adsS l2)) G (lessH G1 tj.ads) := ⟨hex, fun a o h => by
  unfold lessH
  split
  ·rename_i z
   rw [g1s.gn a (hts a z)]
  ·rw [gx4.no a o h, gx2.no a o h]⟩
 obtain ⟨g6, gx6⟩ := q3.merge g5 gx5
 obtain ⟨l3, g7, en3, v3⟩ := q5 [t1, tj] (by rw [List.map_cons, List.map_cons, hv1]; rfl) (A' := [some (LT.leaf v d)]) g6
 refine k _ rfl (.leaf v d) _ l3 H1 g7 gx6 ?_ v3 rfl
 rw [en3, ← he1]
 rfl⟩
end Kb
namespace Kb
open PySem L2 Evl
/-- the function answers, and what it answers is as wanted -/
noncomputable def Wp {α : Type} (m : En → Option (α × En)) (en : En) (Q : α → En → Prop) : Prop := ∃ a e, m en = some (a, e) ∧ Q a e
theorem Wp.mono {α : Type} {m : En → Option (α × En)} {en : En} {Q Q' : α → En → Prop} (h : Wp m en Q) (k : ∀ a e, Q a e → Q' a e) : Wp m en Q' := let ⟨a, e, h1, h2⟩ := h; ⟨a, e, h1, k a e h2⟩
theorem ZbA {α : Type} {m : En → Option (α × En)} {en e : En} {a : α} {Q : α → En → Prop} (h : m en = some (a, e)) : Wp m en Q ↔ Q a e := ⟨fun ⟨a', e', h1, q⟩ => by rw [h] at h1; cases h1; exact q, fun q => ⟨a, e, h, q⟩⟩
noncomputable def cS (k : En → Prop) (Q : Ot → En → Prop) : Ot → En → Prop
 | .nx, e => k e
 | .rt T, e => Q (.rt T) e
 | .bk, e => Q .bk e
 | .ct, e => Q .ct e
 | .ex C, e => Q (.ex C) e
noncomputable def cX {α β : Type} (k : α → En → Prop) (Q : Rx β → En → Prop) : Rx α → En → Prop
 | .ok a, e => k a e
 | .ex C, e => Q (.ex C) e
noncomputable def cO {α : Type} (k : α → En → Prop) (Q : Ot → En → Prop) : Rx α → En → Prop
 | .ok a, e => k a e
 | .ex C, e => Q (.ex C) e
theorem Zsv {k : En → Prop} {Q : Ot → En → Prop} {e : En} : cS k Q .nx e = k e := id rfl
theorem Zs7 {k : En → Prop} {Q : Ot → En → Prop} {e : En} {T : OT} : cS k Q (.rt T) e = Q (.rt T) e := id rfl
theorem Zsr {k : En → Prop} {Q : Ot → En → Prop} {e : En} : cS k Q .bk e = Q .bk e := id rfl
theorem ZrU {k : En → Prop} {Q : Ot → En → Prop} {e : En} : cS k Q .ct e = Q .ct e := id rfl
theorem Zs9 {k : En → Prop} {Q : Ot → En → Prop} {e : En} {C : Addr} : cS k Q (.ex C) e = Q (.ex C) e := id rfl
theorem Zr4 {α β : Type} {k : α → En → Prop} {Q : Rx β → En → Prop} {a : α} {e : En} : cX k Q (.ok a) e = k a e := id rfl
theorem Zs6 {α β : Type} {k : α → En → Prop} {Q : Rx β → En → Prop} {C : Addr} {e : En} : cX k Q (.ex C) e = Q (.ex C) e := id rfl
theorem Zr6 {α : Type} {k : α → En → Prop} {Q : Ot → En → Prop} {a : α} {e : En} : cO k Q (.ok a) e = k a e := id rfl
theorem Zse {α : Type} {k : α → En → Prop} {Q : Ot → En → Prop} {C : Addr} {e : En} : cO k Q (.ex C) e = Q (.ex C) e := id rfl
section
variable {en : En} {Q : Ot → En → Prop} {a b : FS} {x y : FX} {n n2 : FN} {c c2 : FB} {A : FA} {i : Nat} {w : FW}
theorem ZcD {α : Type} {m : En → Option (Rx α × En)} {f : α → En → Option (Ot × En)} : Wp (fun en => bs (m en) f) en Q ↔ Wp m en (cO (fun a e => Wp (f a) e Q) Q) := by
 unfold Wp
 constructor
 ·rintro ⟨o, e, h, q⟩
  cases z : m en with
  | none => simp [z, bs] at h
  | some r =>
   obtain ⟨r, e1⟩ := r
   cases r with
   | ok v => exact ⟨_, _, rfl, o, e, by simpa [z, bs] using h, q⟩
   | ex C => simp [z, bs] at h; obtain ⟨rfl, rfl⟩ := h; exact ⟨_, _, rfl, q⟩
 ·rintro ⟨r, e1, z, h⟩
  cases r with
  | ok v => obtain ⟨o, e, h1, q⟩ := h; exact ⟨o, e, by simpa [z, bs] using h1, q⟩
  | ex C => exact ⟨.ex C, e1, by simp [z, bs], h⟩
theorem ZK {α β : Type} {Q : Rx β → En → Prop} {m : En → Option (Rx α × En)} {f : α → En → Option (Rx β × En)} : Wp (fun en => bx (m en) f) en Q ↔ Wp m en (cX (fun a e => Wp (f a) e Q) Q) := by
 unfold Wp
 constructor
 ·rintro ⟨o, e, h, q⟩
  cases z : m en with
  | none => simp [z, bx] at h
  | some r =>
   obtain ⟨r, e1⟩ := r
   cases r with
   | ok v => exact ⟨_, _, rfl, o, e, by simpa [z, bx] using h, q⟩
   | ex C => simp [z, bx] at h; obtain ⟨rfl, rfl⟩ := h; exact ⟨_, _, rfl, q⟩
 ·rintro ⟨r, e1, z, h⟩
  cases r with
  | ok v => obtain ⟨o, e, h1, q⟩ := h; exact ⟨o, e, by simpa [z, bx] using h1, q⟩
  | ex C => exact ⟨.ex C, e1, by simp [z, bx], h⟩
theorem ZU {α : Type} {Q : Rx α → En → Prop} {f : En → Option α} : Wp (fun e => okx e (f e)) en Q ↔ ∃ d, f en = some d ∧ Q (.ok d) en := by
 constructor
 ·rintro ⟨a, e, h, q⟩
  obtain ⟨d, hd, h⟩ := Option.map_eq_some_iff.mp h
  cases h
  exact ⟨d, hd, q⟩
 ·rintro ⟨d, hd, q⟩
  exact ⟨_, _, by show okx en (f en) = _; rw [hd]; rfl, q⟩
theorem ZeO {α β : Type} {Q : β → En → Prop} {o : En → Option α} {g : α → En → β × En} : Wp (fun e => (o e).map fun a => g a e) en Q ↔ ∃ d, o en = some d ∧ Q (g d en).1 (g d en).2 := by
 constructor
 ·rintro ⟨a, e, h, q⟩
  obtain ⟨d, hd, h⟩ := Option.map_eq_some_iff.mp h
  exact ⟨d, hd, by rw [h]; exact q⟩
 ·rintro ⟨d, hd, q⟩
  exact ⟨_, _, by show (o en).map _ = _; rw [hd]; rfl, q⟩
theorem Zaq {α : Type} {Q : α → En → Prop} {f : En → α} {g : En → En} : Wp (fun e => some (f e, g e)) en Q ↔ Q (f en) (g en) := ZbA rfl
theorem Zqi : Wp sNil en Q ↔ Q .nx en := ZbA rfl
theorem ZrQ : Wp (sSeq a b) en Q ↔ Wp a en (cS (fun e => Wp b e Q) Q) := by
 unfold Wp
 constructor
 ·rintro ⟨o, e, h, q⟩
  unfold sSeq at h
  cases z : a en with
  | none => simp [z] at h
  | some r =>
   obtain ⟨r, e1⟩ := r
   cases r with
   | nx => exact ⟨_, _, rfl, o, e, by simpa [z] using h, q⟩
   | _ => simp [z] at h; obtain ⟨rfl, rfl⟩ := h; exact ⟨_, _, rfl, q⟩
 ·rintro ⟨r, e1, z, h⟩
  unfold sSeq
  cases r with
  | nx => obtain ⟨o, e, h1, q⟩ := h; exact ⟨o, e, by simpa [z] using h1, q⟩
  | _ => exact ⟨_, e1, by simp [z], h⟩
theorem Zq5 : Wp (sAsg i x) en Q ↔ Wp x en (cO (fun d e => Q .nx (e.set i (some (.leaf d)))) Q) := by
 refine ZcD.trans ?_
 simp only [Zaq]
theorem ZoX : Wp (sAsgN i n) en Q ↔ Wp n en (cO (fun T e => Q .nx (e.set i (some T))) Q) := by
 refine ZcD.trans ?_
 simp only [Zaq]
theorem ZnL : Wp (sDrop x) en Q ↔ Wp x en (cO (fun _ e => Q .nx e) Q) := by
 refine ZcD.trans ?_
 simp only [Zaq]
theorem Zl9 : Wp (sDropN n) en Q ↔ Wp n en (cO (fun _ e => Q .nx e) Q) := by
 refine ZcD.trans ?_
 simp only [Zaq]
theorem Zqx : Wp (sRet n) en Q ↔ Wp n en (cO (fun T e => Q (.rt T) e) Q) := by
 refine ZcD.trans ?_
 simp only [Zaq]
theorem Zn0 : Wp sRetN en Q ↔ Q (.rt (.leaf .none)) en := ZbA rfl
theorem Zm2 {C : Addr} : Wp (sRaise C) en Q ↔ Q (.ex C) en := ZbA rfl
theorem Zs4 : Wp sBk en Q ↔ Q .bk en := ZbA rfl
theorem ZsD : Wp sCt en Q ↔ Q .ct en := ZbA rfl
theorem ZeP {α : Type} {Q : α → En → Prop} {t : Bool} {f g : En → Option (α × En)} : Wp (fun e => if t = true then f e else g e) en Q ↔ (t = true → Wp f en Q) ∧ (t = false → Wp g en Q) := by
 cases t <;> simp [Wp]
theorem Zr2 : Wp (sIf c a b) en Q ↔ Wp c en (cO (fun t e => (t = true → Wp a e Q) ∧ (t = false → Wp b e Q)) Q) := by
 refine ZcD.trans ?_
 simp only [ZeP]
theorem ZrA {bd : PyData → En → Option En} : Wp (sFor A bd a) en Q ↔ Wp A en (cO (fun ds e => Wp (forGo bd a ds) e Q) Q) := by
 refine ZcD.trans ?_
 rfl
theorem ZnR {bd : PyData → En → Option En} : Wp (sAsgG bd x) en Q ↔ Wp x en (cO (fun d e => ∃ e2, bd d e = some e2 ∧ Q .nx e2) Q) := by
 refine ZcD.trans ?_
 have : ∀ d e, Wp (fun e1 => (bd d e1).map fun e2 => (Ot.nx, e2)) e Q ↔ ∃ e2, bd d e = some e2 ∧ Q .nx e2 := fun d e => ZeO (o := bd d) (g := fun e2 _ => (Ot.nx, e2))
 simp only [this]
end
section
variable {en : En} {Q : Rx PyData → En → Prop} {QB : Rx Bool → En → Prop} {QN : Rx OT → En → Prop} {QA : Rx (List PyData) → En → Prop} {a b : FX} {x y : FX} {n n2 : FN} {c c2 : FB} {A : FA} {i : Nat} {w : FW}
theorem Zte : Wp (xS w) en Q ↔ ∃ d, w (strong en) = some d ∧ Q (.ok d) en := ZU
theorem Zsc : Wp (xW w) en Q ↔ ∃ d, w (weak en) = some d ∧ flatD d = true ∧ Q (.ok d) en := by
 refine (ZU (f := fun en => (w (weak en)).bind fun d => if flatD d = true then some d else none)).trans ?_
 constructor
 ·rintro ⟨d, h, q⟩
  obtain ⟨d', h1, h2⟩ := bnd h
  split at h2
  ·cases h2; rename_i hf; exact ⟨_, h1, hf, q⟩
  ·cases h2
 ·rintro ⟨d, h, hf, q⟩
  exact ⟨d, by rw [h]; simp [hf], q⟩
theorem Zsu {f : DE → Option Bool} : Wp (bS f) en QB ↔ ∃ d, f (strong en) = some d ∧ QB (.ok d) en := ZU
theorem Zq3 {f : DE → Option Bool} : Wp (bWk f) en QB ↔ ∃ d, f (weak en) = some d ∧ QB (.ok d) en := ZU
theorem Ztd : Wp (xN n) en Q ↔ Wp n en (cX (fun T e => Q (.ok T.data) e) Q) := by
 refine ZK.trans ?_
 simp only [Zaq]
theorem Zso : Wp (nX x) en QN ↔ Wp x en (cX (fun d e => QN (.ok (.leaf d)) e) QN) := by
 refine ZK.trans ?_
 simp only [Zaq]
theorem ZqW {o : PyData → PyData → Option PyData} : Wp (xOp o a b) en Q ↔ Wp a en (cX (fun x e => Wp b e (cX (fun y e => ∃ d, o x y = some d ∧ Q (.ok d) e) Q)) Q) := by
 refine ZK.trans ?_
 have : ∀ x e, Wp (fun e1 => bx (b e1) fun y e2 => okx e2 (o x y)) e Q ↔ Wp b e (cX (fun y e => ∃ d, o x y = some d ∧ Q (.ok d) e) Q) := fun x e => by
  refine ZK.trans ?_
  simp only [ZU]
 simp only [this]
theorem ZqM {o : PyData → Option PyData} : Wp (xUn o a) en Q ↔ Wp a en (cX (fun x e => ∃ d, o x = some d ∧ Q (.ok d) e) Q) := by
 refine ZK.trans ?_
 simp only [ZU]
theorem Znq : Wp aNilX en QA ↔ QA (.ok []) en := ZbA rfl
theorem ZlA {r : FA} : Wp (aConsX a r) en QA ↔ Wp a en (cX (fun x e => Wp r e (cX (fun xs e => QA (.ok (x :: xs)) e) QA)) QA) := by
 refine ZK.trans ?_
 have : ∀ x e, Wp (fun e1 => bx (r e1) fun xs e2 => some (Rx.ok (x :: xs), e2)) e QA ↔ Wp r e (cX (fun xs e => QA (.ok (x :: xs)) e) QA) := fun x e => by
  refine ZK.trans ?_
  simp only [Zaq]
 simp only [this]
theorem ZrZ {f : DE → Option (List PyData)} : Wp (aS f) en QA ↔ ∃ d, f (strong en) = some d ∧ QA (.ok d) en := ZU
theorem ZqH {o : List PyData → Option PyData} : Wp (xCb o A) en Q ↔ Wp A en (cX (fun xs e => ∃ d, o xs = some d ∧ Q (.ok d) e) Q) := by
 refine ZK.trans ?_
 simp only [ZU]
theorem Zov : Wp (xTup A) en Q ↔ Wp A en (cX (fun xs e => xs.length ≤ 100000 ∧ Q (.ok (.tuple xs)) e) Q) := by
 refine ZK.trans ?_
 have : ∀ (xs : List PyData) e, Wp (fun e1 => okx e1 (if big xs = true then some (PyData.tuple xs) else none)) e Q ↔ (xs.length ≤ 100000 ∧ Q (.ok (.tuple xs)) e) := fun xs e => by
  refine ZU.trans ?_
  unfold big
  by_cases h : xs.length ≤ 100000 <;> simp [h]
 simp only [this]
theorem ZnU : Wp (nLst A) en QN ↔ Wp A en (cX (fun xs e => xs.length ≤ 100000 ∧ QN (.ok (lstT xs)) e) QN) := by
 refine ZK.trans ?_
 have : ∀ (xs : List PyData) e, Wp (fun e1 => okx e1 (if big xs = true then some (lstT xs) else none)) e QN ↔ (xs.length ≤ 100000 ∧ QN (.ok (lstT xs)) e) := fun xs e => by
  refine ZU.trans ?_
  unfold big
  by_cases h : xs.length ≤ 100000 <;> simp [h]
 simp only [this]
theorem ZrN : Wp (bXx x) en QB ↔ Wp x en (cX (fun d e => ∃ t, asB d = some t ∧ QB (.ok t) e) QB) := by
 refine ZK.trans ?_
 simp only [ZU]
theorem ZmV : Wp (bAndX c c2) en QB ↔ Wp c en (cX (fun t e => (t = true → Wp c2 e QB) ∧ (t = false → QB (.ok false) e)) QB) := by
 refine ZK.trans ?_
 simp only [ZeP, Zaq]
theorem Zo4 : Wp (bOrX c c2) en QB ↔ Wp c en (cX (fun t e => (t = true → QB (.ok true) e) ∧ (t = false → Wp c2 e QB)) QB) := by
 refine ZK.trans ?_
 simp only [ZeP, Zaq]
theorem ZmL : Wp (bNotX c) en QB ↔ Wp c en (cX (fun t e => QB (.ok (!t)) e) QB) := by
 refine ZK.trans ?_
 simp only [Zaq]
theorem ZpU : Wp (xIf c x y) en Q ↔ Wp c en (cX (fun t e => (t = true → Wp x e Q) ∧ (t = false → Wp y e Q)) Q) := by
 refine ZK.trans ?_
 simp only [ZeP]
theorem Zrz : Wp (nIf c n n2) en QN ↔ Wp c en (cX (fun t e => (t = true → Wp n e QN) ∧ (t = false → Wp n2 e QN)) QN) := by
 refine ZK.trans ?_
 simp only [ZeP]
theorem ZoY : Wp (xNot x) en Q ↔ Wp x en (cX (fun d e => ∃ t, asB d = some t ∧ Q (.ok (.bool (!t))) e) Q) := by
 refine ZK.trans ?_
 have : ∀ (d : PyData) e, Wp (fun e1 => okx e1 ((asB d).map fun c => PyData.bool (!c))) e Q ↔ ∃ t, asB d = some t ∧ Q (.ok (.bool (!t))) e := fun d e => by
  refine ZU.trans ?_
  cases asB d <;> simp
 simp only [this]
theorem ZsW : Wp (nF w) en QN ↔ ∃ d, w (strong en) = some d ∧ QN (.ok (freshT d)) en := by
 refine (ZU (f := fun en => (w (strong en)).map freshT)).trans ?_
 cases w (strong en) <;> simp
theorem Zq4 : Wp (nFW w) en QN ↔ ∃ ds, w (weak en) = some (.list ds) ∧ ds.all flatD = true ∧ QN (.ok (lstT ds)) en := by
 refine ZU.trans ?_
 constructor
 ·rintro ⟨T, h, q⟩
  obtain ⟨d, h1, h2⟩ := bnd h
  split at h2
  ·split at h2
   ·cases h2; rename_i ds hf; exact ⟨_, h1, hf, q⟩
   ·cases h2
  ·cases h2
 ·rintro ⟨ds, h, hf, q⟩
  exact ⟨_, by rw [h]; show (if ds.all flatD = true then some (lstT ds) else none) = _; rw [if_pos hf], q⟩
theorem Zr8 {o : PyData → Option (List PyData)} : Wp (iX o x) en QA ↔ Wp x en (cX (fun d e => ∃ ds, o d = some ds ∧ QA (.ok ds) e) QA) := by
 refine ZK.trans ?_
 simp only [ZU]
theorem Zsf {o : List PyData → Option (List PyData)} : Wp (iA o A) en QA ↔ Wp A en (cX (fun d e => ∃ ds, o d = some ds ∧ QA (.ok ds) e) QA) := by
 refine ZK.trans ?_
 simp only [ZU]
theorem ZlG {f : List PyData → Option (PyData ⊕ Addr)} : Wp (xCallX f A) en Q ↔ Wp A en (cX (fun xs e => ∃ o, f xs = some o ∧ Q (rxO o) e) Q) := by
 refine ZK.trans ?_
 have : ∀ xs e, Wp (fun e1 => (f xs).map fun o => (rxO o, e1)) e Q ↔ ∃ o, f xs = some o ∧ Q (rxO o) e := fun xs e => by
  exact ZeO (o := fun _ => f xs) (g := fun o e1 => (_, e1))
 simp only [this]
theorem Zly {f : List PyData → Option PyData} : Wp (nCallF f A) en QN ↔ Wp A en (cX (fun xs e => ∃ d, f xs = some d ∧ QN (.ok (freshT d)) e) QN) := by
 refine ZK.trans ?_
 have : ∀ xs e, Wp (fun e1 => okx e1 ((f xs).map freshT)) e QN ↔ ∃ o, f xs = some o ∧ QN (.ok (freshT o)) e := fun xs e => by
  refine ZU.trans ?_
  cases f xs <;> simp
 simp only [this]
theorem Zkz {f : List PyData → Option (PyData ⊕ Addr)} : Wp (nCallXF f A) en QN ↔ Wp A en (cX (fun xs e => ∃ o, f xs = some o ∧ QN (rxF o) e) QN) := by
 refine ZK.trans ?_
 have : ∀ xs e, Wp (fun e1 => (f xs).map fun o => (rxF o, e1)) e QN ↔ ∃ o, f xs = some o ∧ QN (rxF o) e := fun xs e => by
  exact ZeO (o := fun _ => f xs) (g := fun o e1 => (_, e1))
 simp only [this]
end
end Kb
namespace Kb
open PySem L2 Evl
noncomputable def retD (d : PyData) : Ot → En → Prop
 | .rt T, _ => T.data = d
 | .nx, _ => d = .none
 | _, _ => False
noncomputable def retF (d : PyData) : Ot → En → Prop
 | .rt T, _ => freshR T = true ∧ T.data = d
 | .nx, _ => d = .none
 | _, _ => False
noncomputable def retX (r : PyData ⊕ Addr) : Ot → En → Prop
 | .rt T, _ => r = .inl T.data
 | .nx, _ => r = .inl .none
 | .ex C, _ => r = .inr C
 | _, _ => False
noncomputable def retXF (r : PyData ⊕ Addr) : Ot → En → Prop
 | .rt T, _ => freshR T = true ∧ r = .inl T.data
 | .nx, _ => r = .inl .none
 | .ex C, _ => r = .inr C
 | _, _ => False
theorem Zpe {d : PyData} {T : OT} {e : En} : retD d (.rt T) e = (T.data = d) := id rfl
theorem ZnN {d : PyData} {e : En} : retD d .nx e = (d = .none) := id rfl
theorem ZoL {d : PyData} {T : OT} {e : En} : retF d (.rt T) e = (freshR T = true ∧ T.data = d) := id rfl
theorem ZpJ {d : PyData} {e : En} : retF d .nx e = (d = .none) := id rfl
theorem Zps {r : PyData ⊕ Addr} {T : OT} {e : En} : retX r (.rt T) e = (r = .inl T.data) := id rfl
theorem Zoy {r : PyData ⊕ Addr} {e : En} : retX r .nx e = (r = .inl .none) := id rfl
theorem ZpD {r : PyData ⊕ Addr} {C : Addr} {e : En} : retX r (.ex C) e = (r = .inr C) := id rfl
theorem Zng {r : PyData ⊕ Addr} {T : OT} {e : En} : retXF r (.rt T) e = (freshR T = true ∧ r = .inl T.data) := id rfl
theorem Zmj {r : PyData ⊕ Addr} {e : En} : retXF r .nx e = (r = .inl .none) := id rfl
theorem Zl7 {r : PyData ⊕ Addr} {C : Addr} {e : En} : retXF r (.ex C) e = (r = .inr C) := id rfl
theorem Zro {np n : Nat} {s : FS} {ds : List PyData} {d : PyData} (h : Wp s (start0 n (ds.map OT.leaf)) (retD d)) (hl : ds.length = np := by rfl) : fnD np n s ds = some d := by
 obtain ⟨o, e, h1, h2⟩ := h
 unfold fnD
 rw [if_pos hl, h1]
 cases o with
 | rt T => exact congrArg some h2
 | nx => exact congrArg some (h2 : d = .none).symm
 | _ => exact h2.elim
theorem ZrB {np n : Nat} {s : FS} {ds : List PyData} {d : PyData} (h : Wp s (start0 n (ds.map OT.leaf)) (retF d)) (hl : ds.length = np := by rfl) : fnF np n s ds = some d := by
 obtain ⟨o, e, h1, h2⟩ := h
 unfold fnF
 rw [if_pos hl, h1]
 cases o with
 | rt T =>
  obtain ⟨a, b⟩ := h2
  dsimp only
  rw [if_pos a, b]
 | nx => exact congrArg some (h2 : d = .none).symm
 | _ => exact h2.elim
theorem Zqk {np n : Nat} {s : FS} {ds : List PyData} {r : PyData ⊕ Addr} (h : Wp s (start0 n (ds.map OT.leaf)) (retX r)) (hl : ds.length = np := by rfl) : fnX np n s ds = some r := by
 obtain ⟨o, e, h1, h2⟩ := h
 unfold fnX
 rw [if_pos hl, h1]
 cases o with
 | rt T => exact congrArg some (h2 : r = _).symm
 | nx => exact congrArg some (h2 : r = _).symm
 | ex C => exact congrArg some (h2 : r = _).symm
 | _ => exact h2.elim
/-- behind one turn -/
noncomputable def cL (k : En → Prop) (Q : Ot → En → Prop) : Ot → En → Prop
 | .nx, e => k e
 | .ct, e => k e
 | .bk, e => Q .nx e
 | .rt T, e => Q (.rt T) e
 | .ex C, e => Q (.ex C) e
theorem Zst {k : En → Prop} {Q : Ot → En → Prop} {e : En} : cL k Q .nx e = k e := id rfl
theorem Zsi {k : En → Prop} {Q : Ot → En → Prop} {e : En} : cL k Q .ct e = k e := id rfl
theorem ZsS {k : En → Prop} {Q : Ot → En → Prop} {e : En} : cL k Q .bk e = Q .nx e := id rfl
theorem Zs3 {k : En → Prop} {Q : Ot → En → Prop} {e : En} {T : OT} : cL k Q (.rt T) e = Q (.rt T) e := id rfl
theorem ZsE {k : En → Prop} {Q : Ot → En → Prop} {e : En} {C : Addr} : cL k Q (.ex C) e = Q (.ex C) e := id rfl
theorem Zma {b : PyData → En → Option En} {s : FS} {en : En} {Q : Ot → En → Prop} : Wp (forGo b s []) en Q ↔ Q .nx en := ZbA rfl
theorem ZlW {b : PyData → En → Option En} {s : FS} {d : PyData} {ds : List PyData} {en : En} {Q : Ot → En → Prop} : Wp (forGo b s (d :: ds)) en Q ↔ ∃ e1, b d en = some e1 ∧ Wp s e1 (cL (fun e => Wp (forGo b s ds) e Q) Q) := by
 constructor
 ·rintro ⟨o, e, h, q⟩
  unfold forGo at h
  obtain ⟨e1, h1, h2⟩ := bnd h
  refine ⟨e1, h1, ?_⟩
  cases z : s e1 with
  | none => simp [z] at h2
  | some r =>
   obtain ⟨r, e2⟩ := r
   refine ⟨_, _, z, ?_⟩
   cases r with
   | nx => exact ⟨_, _, by simpa [z] using h2, q⟩
   | ct => exact ⟨_, _, by simpa [z] using h2, q⟩
   | bk => simp [z] at h2; obtain ⟨rfl, rfl⟩ := h2; exact q
   | rt T => simp [z] at h2; obtain ⟨rfl, rfl⟩ := h2; exact q
   | ex C => simp [z] at h2; obtain ⟨rfl, rfl⟩ := h2; exact q
 ·rintro ⟨e1, h1, r, e2, z, h2⟩
  have un : ∀ o, (match s e1 with
   | some (.nx, e2) => forGo b s ds e2
   | some (.ct, e2) => forGo b s ds e2
   | some (.bk, e2) => some (.nx, e2)
   | r => r) = some o → forGo b s (d :: ds) en = some o := fun o ho => by
   unfold forGo
   rw [h1]
   exact ho
  cases r with
  | nx => obtain ⟨o, e, h3, q⟩ := h2; exact ⟨o, e, un _ (by rw [z]; exact h3), q⟩
  | ct => obtain ⟨o, e, h3, q⟩ := h2; exact ⟨o, e, un _ (by rw [z]; exact h3), q⟩
  | bk => exact ⟨_, _, un _ (by rw [z]), h2⟩
  | rt T => exact ⟨_, _, un _ (by rw [z]), h2⟩
  | ex C => exact ⟨_, _, un _ (by rw [z]), h2⟩
/-- a for by an invariant over the turns -/
theorem Zjq {α : Type} {b : PyData → En → Option En} {s : FS} {Q : Ot → En → Prop} (g : α → PyData) (xs : List α) (I : Nat → En → Prop) {en : En} (h0 : I 0 en)
  (hs : ∀ i x, xs[i]? = some x → ∀ e, I i e → ∃ e1, b (g x) e = some e1 ∧ Wp s e1 (cL (I (i + 1)) Q)) (hq : ∀ e, I xs.length e → Q .nx e) : Wp (forGo b s (xs.map g)) en Q := by
 have gen : ∀ (ys : List α) (k : Nat), k + ys.length = xs.length → (∀ i, ys[i]? = xs[k + i]?) → ∀ e, I k e → Wp (forGo b s (ys.map g)) e Q := by
  intro ys
  induction ys with
  | nil => intro k hk _ e hI; exact Zma.mpr (hq e (by rw [← hk]; exact hI))
  | cons y ys ih =>
   intro k hk hx e hI
   refine ZlW.mpr ?_
   obtain ⟨e1, h1, h2⟩ := hs k y (by have := hx 0; simp at this; exact this.symm) e hI
   refine ⟨e1, h1, h2.mono fun o e2 h3 => ?_⟩
   have next : I (k + 1) e2 → Wp (forGo b s (ys.map g)) e2 Q := fun h => ih (k + 1) (by simp at hk; omega) (fun i => by have := hx (i + 1); simp at this; rw [this]; congr 1; omega) e2 h
   cases o with
   | nx => exact next h3
   | ct => exact next h3
   | bk => exact h3
   | rt T => exact h3
   | ex C => exact h3
 exact gen xs 0 (by simp) (by simp) en h0
/-- a for over a list as it stands, the invariant by what is behind and what is ahead -/
theorem Zpo {α : Type} {b : PyData → En → Option En} {s : FS} {Q : Ot → En → Prop} (g : α → PyData) (xs : List α) (I : List α → En → Prop) {en : En} (h0 : I [] en)
  (hs : ∀ pre x, (∃ post, pre ++ x :: post = xs) → ∀ e, I pre e → ∃ e1, b (g x) e = some e1 ∧ Wp s e1 (cL (I (pre ++ [x])) Q)) (hq : ∀ e, I xs e → Q .nx e) : Wp (forGo b s (xs.map g)) en Q := by
 refine Zjq g xs (fun i e => I (xs.take i) e) (by simpa using h0) (fun i x hx e hI => ?_) (fun e h => hq e (by simpa using h))
 obtain ⟨hl, hx'⟩ := List.getElem?_eq_some_iff.mp hx
 have : xs.take (i + 1) = xs.take i ++ [x] := by rw [List.take_add_one, hx]; rfl
 rw [this]
 exact hs (xs.take i) x ⟨xs.drop (i + 1), by rw [← hx', List.append_cons, List.take_append_getElem, List.take_append_drop]⟩ e hI
theorem Zta {α : Type} {it : DE → Option (List PyData)} {bd : PyData → DE → Option DE} {c : DE → Option Bool} {el : FW} {vs : List Nat} {ρ : DE} (g : α → PyData) (xs : List α) (p : α → Bool) (f : α → PyData) (hit : it ρ = some (xs.map g)) (hl : xs.length ≤ 50000)
  (h : ∀ x ∈ xs, ∃ ρ1, bd (g x) (wipeD ρ vs) = some ρ1 ∧ c ρ1 = some (p x) ∧ (p x = true → el ρ1 = some (f x))) : wLc it bd c el vs ρ = some (.list ((xs.filter p).map f)) := by
 have go : ∀ ys : List α, (∀ y ∈ ys, y ∈ xs) → lcGo bd c el (wipeD ρ vs) (ys.map g) = some ((ys.filter p).map f) := by
  intro ys
  induction ys with
  | nil => intro _; rfl
  | cons y ys ih =>
   intro hy
   obtain ⟨ρ1, h1, h2, h3⟩ := h y (hy y List.mem_cons_self)
   have ih := ih fun z hz => hy z (List.mem_cons_of_mem _ hz)
   rw [List.map_cons]
   unfold lcGo
   rw [h1]
   dsimp only [Option.bind]
   rw [h2]
   cases z : p y with
   | true =>
    dsimp only [Option.bind]
    rw [if_pos rfl, h3 z]
    dsimp only
    rw [ih]
    simp [List.filter_cons, z]
   | false =>
    dsimp only [Option.bind]
    rw [if_neg Bool.false_ne_true, ih]
    simp [List.filter_cons, z]
 unfold wLc
 rw [hit]
 show (if (xs.map g).length ≤ 50000 then (lcGo bd c el (wipeD ρ vs) (xs.map g)).map PyData.list else none) = _
 rw [List.length_map, if_pos hl, go xs fun _ h => h]
 rfl
/-- without a condition -/
theorem Zrf {α : Type} {it : DE → Option (List PyData)} {bd : PyData → DE → Option DE} {el : FW} {vs : List Nat} {ρ : DE} (g : α → PyData) (xs : List α) (f : α → PyData) (hit : it ρ = some (xs.map g)) (hl : xs.length ≤ 50000)
  (h : ∀ x ∈ xs, ∃ ρ1, bd (g x) (wipeD ρ vs) = some ρ1 ∧ el ρ1 = some (f x)) : wLc it bd bYes el vs ρ = some (.list (xs.map f)) := by
 rw [Zta g xs (fun _ => true) f hit hl fun x hx => by obtain ⟨ρ1, h1, h2⟩ := h x hx; exact ⟨ρ1, h1, rfl, fun _ => h2⟩, List.filter_eq_self.mpr fun _ _ => rfl]
section
variable {en : En} {Q : Ot → En → Prop} {QX : Rx PyData → En → Prop} {QN : Rx OT → En → Prop} {x xi : FX} {n : FN} {i : Nat}
theorem Zfm {α β : Type} {Q : α → En → Prop} {o : En → Option β} {f : β → En → Option (α × En)} : Wp (fun e => (o e).bind fun b => f b e) en Q ↔ ∃ b, o en = some b ∧ Wp (f b) en Q := by
 constructor
 ·rintro ⟨a, e, h, q⟩
  obtain ⟨b, hb, h⟩ := bnd h
  exact ⟨b, hb, a, e, h, q⟩
 ·rintro ⟨b, hb, a, e, h, q⟩
  exact ⟨a, e, by show (o en).bind _ = _; rw [hb]; exact h, q⟩
theorem Zrl : Wp (sApp i x) en Q ↔ (∃ cs, lstAt en i = some cs) ∧ Wp x en (cO (fun d e => ∃ cs, lstAt e i = some cs ∧ cs.length < 100000 ∧ Q .nx (e.set i (some (.node .lst (cs ++ [(.no, .leaf d)]))))) Q) := by
 refine (Zfm (o := fun en => lstAt en i) (f := fun _ en => bs (x en) fun d e1 => (lstAt e1 i).bind fun cs => if lenOk cs = true then some (.nx, e1.set i (some (.node .lst (cs ++ [(.no, .leaf d)])))) else none)).trans ?_
 have : ∀ d e, Wp (fun e1 => (lstAt e1 i).bind fun cs => if lenOk cs = true then some (Ot.nx, e1.set i (some (.node .lst (cs ++ [(.no, .leaf d)])))) else none) e Q ↔ ∃ cs, lstAt e i = some cs ∧ cs.length < 100000 ∧ Q .nx (e.set i (some (.node .lst (cs ++ [(.no, .leaf d)])))) := fun d e => by
  refine (Zfm (o := fun e1 => lstAt e1 i) (f := fun cs e1 => if lenOk cs = true then some (Ot.nx, e1.set i (some (.node .lst (cs ++ [(.no, .leaf d)])))) else none)).trans ?_
  refine exists_congr fun cs => and_congr_right fun _ => ?_
  by_cases h : cs.length < 100000
  ·have hk : lenOk cs = true := decide_eq_true h
   constructor
   ·rintro ⟨a, e', h1, q⟩
    dsimp only at h1
    rw [if_pos hk] at h1
    cases h1
    exact ⟨h, q⟩
   ·rintro ⟨_, q⟩
    exact ⟨_, _, if_pos hk, q⟩
  ·have hk : lenOk cs = false := decide_eq_false h
   constructor
   ·rintro ⟨a, e', h1, q⟩
    dsimp only at h1
    rw [hk] at h1
    cases h1
   ·rintro ⟨z, _⟩
    exact absurd z h
 have t2 : Wp (fun en => bs (x en) fun d e1 => (lstAt e1 i).bind fun cs => if lenOk cs = true then some (Ot.nx, e1.set i (some (.node .lst (cs ++ [(.no, .leaf d)])))) else none) en Q ↔ Wp x en (cO (fun d e => ∃ cs, lstAt e i = some cs ∧ cs.length < 100000 ∧ Q .nx (e.set i (some (.node .lst (cs ++ [(.no, .leaf d)]))))) Q) := by
  refine ZcD.trans ?_
  simp only [this]
 constructor
 ·rintro ⟨cs, h1, h2⟩
  exact ⟨⟨cs, h1⟩, t2.mp h2⟩
 ·rintro ⟨⟨cs, h1⟩, h2⟩
  exact ⟨cs, h1, t2.mpr h2⟩
theorem ZpM : Wp (nMove i) en QN ↔ ∃ T, en[i]? = some (some T) ∧ QN (.ok T) (en.set i none) := by
 refine (ZeO (o := fun en => (en[i]?).join) (g := fun T en => (Rx.ok T, en.set i none))).trans ?_
 refine exists_congr fun T => and_congr_left fun _ => ?_
 cases en[i]? with
 | none => simp
 | some o => cases o <;> simp
theorem Zn3 : Wp (xTell i) en QX ↔ ∃ T, en[i]? = some (some T) ∧ QX (.ok T.data) (en.set i (some (.leaf T.data))) := by
 refine (ZeO (o := fun en => (en[i]?).join) (g := fun T en => (Rx.ok T.data, en.set i (some (.leaf T.data))))).trans ?_
 refine exists_congr fun T => and_congr_left fun _ => ?_
 cases en[i]? with
 | none => simp
 | some o => cases o <;> simp
theorem Zgu (a : List PyData) : (oLeafs a).length = a.length := by simp [oLeafs]
end
end Kb
namespace Kb
open PySem L2 Evl
section
variable {en : En} {Q : Ot → En → Prop} {QX : Rx PyData → En → Prop} {QN : Rx OT → En → Prop} {QB : Rx Bool → En → Prop} {x xi xv : FX} {n : FN} {i : Nat} {A : FA} {f : FD}
theorem Zag {α : Type} {o : Option (Option α)} {a : α} : o.join = some a ↔ o = some (some a) := by
 cases o with
 | none => simp
 | some o => cases o <;> simp
theorem Zhp : Wp (nCallI f [i] A) en QN ↔ (∃ T0, en[i]? = some (some T0)) ∧ Wp A en (cX (fun ds e => ∃ T, e[i]? = some (some T) ∧ ∃ R as, f (T :: ds.map OT.leaf) = some (R, as) ∧ QN R (putE [i] as (e.set i none))) QN) := by
 have h0 : nCallI f [i] A = fun en => (pullE [i] en).bind fun _ => bx (A en) fun ds e1 => (pullE [i] e1).bind fun r => (f (r.1 ++ ds.map OT.leaf)).bind fun q => match q.1 with
  | .ok T => some (.ok T, putE [i] q.2 r.2)
  | .ex C => some (.ex C, putE [i] q.2 r.2) := rfl
 have pl : ∀ e : En, pullE [i] e = (e[i]?).join.map fun T => ([T], e.set i none) := fun e => by
  unfold pullE pullE
  cases (e[i]?).join <;> rfl
 rw [h0]
 refine (Zfm (o := fun en => pullE [i] en) (f := fun _ en => bx (A en) fun ds e1 => (pullE [i] e1).bind fun r => (f (r.1 ++ ds.map OT.leaf)).bind fun q => match q.1 with
  | .ok T => some (Rx.ok T, putE [i] q.2 r.2)
  | .ex C => some (.ex C, putE [i] q.2 r.2))).trans ?_
 have inner : ∀ (ds : List PyData) (e : En), Wp (fun e1 => (pullE [i] e1).bind fun r => (f (r.1 ++ ds.map OT.leaf)).bind fun q => match q.1 with
  | .ok T => some (Rx.ok T, putE [i] q.2 r.2)
  | .ex C => some (.ex C, putE [i] q.2 r.2)) e QN ↔ ∃ T, e[i]? = some (some T) ∧ ∃ R as, f (T :: ds.map OT.leaf) = some (R, as) ∧ QN R (putE [i] as (e.set i none)) := fun ds e => by
  constructor
  ·rintro ⟨r, e2, h, q⟩
   dsimp only at h
   rw [pl] at h
   cases hj : (e[i]?).join with
   | none => rw [hj] at h; cases h
   | some T =>
    rw [hj] at h
    have h : ((f ([T] ++ ds.map OT.leaf)).bind fun q => match q.1 with
     | .ok T => some (Rx.ok T, putE [i] q.2 (e.set i none))
     | .ex C => some (.ex C, putE [i] q.2 (e.set i none))) = some (r, e2) := h
    obtain ⟨⟨R, as⟩, hf, h2⟩ := bnd h
    refine ⟨T, Zag.mp hj, R, as, hf, ?_⟩
    cases R with
    | ok _ => cases h2; exact q
    | ex _ => cases h2; exact q
  ·rintro ⟨T, hT, R, as, hf, q⟩
   refine ⟨R, _, ?_, q⟩
   dsimp only
   rw [pl, Zag.mpr hT]
   show ((f (T :: ds.map OT.leaf)).bind _) = _
   rw [hf]
   cases R <;> rfl
 have mid : Wp (fun en => bx (A en) fun ds e1 => (pullE [i] e1).bind fun r => (f (r.1 ++ ds.map OT.leaf)).bind fun q => match q.1 with
  | .ok T => some (Rx.ok T, putE [i] q.2 r.2)
  | .ex C => some (.ex C, putE [i] q.2 r.2)) en QN ↔ Wp A en (cX (fun ds e => ∃ T, e[i]? = some (some T) ∧ ∃ R as, f (T :: ds.map OT.leaf) = some (R, as) ∧ QN R (putE [i] as (e.set i none))) QN) := by
  refine ZK.trans ?_
  simp only [inner]
 constructor
 ·rintro ⟨b, hb, h⟩
  rw [pl] at hb
  obtain ⟨T, hT, _⟩ := Option.map_eq_some_iff.mp hb
  exact ⟨⟨T, Zag.mp hT⟩, mid.mp h⟩
 ·rintro ⟨⟨T, hT⟩, h⟩
  exact ⟨_, by rw [pl, Zag.mpr hT]; rfl, mid.mpr h⟩
theorem Zl6 {as bs : List OT} {R : OT} : noX f as = some (.ok R, bs) ↔ f as = some (.ok R, bs) := by
 constructor
 ·exact fun h => (ZbR h).1
 ·intro h
  unfold noX
  rw [h]
  rfl
/-- a call that changes its first argument and does not raise -/
theorem Zmi : Wp (nCallI (noX f) [i] A) en QN ↔ (∃ T0, en[i]? = some (some T0)) ∧ Wp A en (cX (fun ds e => ∃ T, e[i]? = some (some T) ∧ ∃ R as, f (T :: ds.map OT.leaf) = some (.ok R, as) ∧ QN (.ok R) (putE [i] as (e.set i none))) QN) := by
 rw [Zhp]
 have : ∀ (ds : List PyData) (e : En), (∃ T, e[i]? = some (some T) ∧ ∃ R as, noX f (T :: ds.map OT.leaf) = some (R, as) ∧ QN R (putE [i] as (e.set i none))) ↔ (∃ T, e[i]? = some (some T) ∧ ∃ R as, f (T :: ds.map OT.leaf) = some (.ok R, as) ∧ QN (.ok R) (putE [i] as (e.set i none))) := fun ds e => by
  refine exists_congr fun T => and_congr_right fun _ => ?_
  constructor
  ·rintro ⟨R, as, h, q⟩
   obtain ⟨h1, T, rfl⟩ := ZbR h
   exact ⟨T, as, h1, q⟩
  ·rintro ⟨R, as, h, q⟩
   exact ⟨.ok R, as, Zl6.mpr h, q⟩
 simp only [this]
/-- list[e] of one's own list -/
theorem Zrh : Wp (xIxV i x) en QX ↔ (∃ cs, lstAt en i = some cs) ∧ Wp x en (cX (fun j e => ∃ cs, lstAt e i = some cs ∧ ∃ k, asI j = some k ∧ ∃ c, L2.atI cs k = some c ∧ ∃ d, leafD c.2 = some d ∧ QX (.ok d) e) QX) := by
 have h0 : xIxV i x = fun en => (lstAt en i).bind fun _ => bx (x en) fun j e1 => (lstAt e1 i).bind fun cs => (asI j).bind fun j => (L2.atI cs j).bind fun c => (leafD c.2).map fun d => (Rx.ok d, e1) := rfl
 rw [h0]
 refine (Zfm (o := fun en => lstAt en i) (f := fun _ en => bx (x en) fun j e1 => (lstAt e1 i).bind fun cs => (asI j).bind fun j => (L2.atI cs j).bind fun c => (leafD c.2).map fun d => (Rx.ok d, e1))).trans ?_
 have inner : ∀ (j : PyData) (e : En), Wp (fun e1 => (lstAt e1 i).bind fun cs => (asI j).bind fun j => (L2.atI cs j).bind fun c => (leafD c.2).map fun d => (Rx.ok d, e1)) e QX ↔ ∃ cs, lstAt e i = some cs ∧ ∃ k, asI j = some k ∧ ∃ c, L2.atI cs k = some c ∧ ∃ d, leafD c.2 = some d ∧ QX (.ok d) e := fun j e => by
  constructor
  ·rintro ⟨r, e2, h, q⟩
   obtain ⟨cs, h1, h⟩ := bnd h
   obtain ⟨k, h2, h⟩ := bnd h
   obtain ⟨c, h3, h⟩ := bnd h
   obtain ⟨d, h4, h⟩ := Option.map_eq_some_iff.mp h
   cases h
   exact ⟨cs, h1, k, h2, c, h3, d, h4, q⟩
  ·rintro ⟨cs, h1, k, h2, c, h3, d, h4, q⟩
   exact ⟨.ok d, e, by dsimp only; rw [h1, Option.bind_some, h2, Option.bind_some, h3, Option.bind_some, h4]; rfl, q⟩
 have mid : Wp (fun en => bx (x en) fun j e1 => (lstAt e1 i).bind fun cs => (asI j).bind fun j => (L2.atI cs j).bind fun c => (leafD c.2).map fun d => (Rx.ok d, e1)) en QX ↔ Wp x en (cX (fun j e => ∃ cs, lstAt e i = some cs ∧ ∃ k, asI j = some k ∧ ∃ c, L2.atI cs k = some c ∧ ∃ d, leafD c.2 = some d ∧ QX (.ok d) e) QX) := by
  refine ZK.trans ?_
  simp only [inner]
 constructor
 ·rintro ⟨b, hb, h⟩
  exact ⟨⟨b, hb⟩, mid.mp h⟩
 ·rintro ⟨⟨b, hb⟩, h⟩
  exact ⟨b, hb, mid.mpr h⟩
noncomputable def retI (np : Nat) (r : Rx OT) (T' : OT) : Ot → En → Prop
 | .rt T, e => r = .ok T ∧ e[0]? = some (some T') ∧ np ≤ e.length
 | .nx, e => r = .ok (.leaf .none) ∧ e[0]? = some (some T') ∧ np ≤ e.length
 | .ex C, e => r = .ex C ∧ e[0]? = some (some T') ∧ np ≤ e.length
 | _, _ => False
theorem Zow {np : Nat} {r : Rx OT} {T T' : OT} {e : En} : retI np r T' (.rt T) e = (r = .ok T ∧ e[0]? = some (some T') ∧ np ≤ e.length) := id rfl
theorem Zpm {np : Nat} {r : Rx OT} {T' : OT} {e : En} : retI np r T' .nx e = (r = .ok (.leaf .none) ∧ e[0]? = some (some T') ∧ np ≤ e.length) := id rfl
theorem Zo5 {np : Nat} {r : Rx OT} {T' : OT} {C : Addr} {e : En} : retI np r T' (.ex C) e = (r = .ex C ∧ e[0]? = some (some T') ∧ np ≤ e.length) := id rfl
theorem ZfJ : ∀ {ds : List PyData} {e : En}, ds.length ≤ e.length → takeA (fun i => Nat.blt (i + 1) 1) (ds.map OT.leaf) e = some (ds.map OT.leaf)
 | [], _, _ => by simp [takeA]
 | d :: ds, [], h => by simp at h
 | d :: ds, o :: e, h => by
  have ih := ZfJ (ds := ds) (e := e) (by simpa using h)
  have hk : (fun i => Nat.blt (i + 1 + 1) 1) = fun i => Nat.blt (i + 1) 1 := by
   funext i
   simp [Nat.blt, Nat.ble]
  rw [List.map_cons]
  unfold takeA
  rw [if_neg (by decide)]
  dsimp only
  rw [hk, ih]
  rfl
theorem ZrK {np n : Nat} {s : FS} {T T' : OT} {ds : List PyData} {r : Rx OT} (h : Wp s (start0 n (T :: ds.map OT.leaf)) (retI np r T')) (hl : ds.length + 1 = np := by rfl) : fnI np n (fun i => Nat.blt i 1) s (T :: ds.map OT.leaf) = some (r, T' :: ds.map OT.leaf) := by
 obtain ⟨o, e, h1, h2⟩ := h
 have ht : e[0]? = some (some T') → np ≤ e.length → takeA (fun i => Nat.blt i 1) (T :: ds.map OT.leaf) e = some (T' :: ds.map OT.leaf) := fun a b => by
  cases e with
  | nil => cases a
  | cons o e =>
   obtain rfl := Option.some.inj a
   unfold takeA
   rw [if_pos (by decide)]
   dsimp only [Option.bind]
   rw [ZfJ (by simp at b; omega)]
   rfl
 unfold fnI
 rw [if_pos (by rw [List.length_cons, List.length_map]; exact hl), h1]
 cases o with
 | rt R => obtain ⟨rfl, a, b⟩ := h2; dsimp only; rw [ht a b]; rfl
 | nx => obtain ⟨rfl, a, b⟩ := h2; dsimp only; rw [ht a b]; rfl
 | ex C => obtain ⟨rfl, a, b⟩ := h2; dsimp only; rw [ht a b]; rfl
 | bk => exact h2.elim
 | ct => exact h2.elim
/-- place[j] = e -/
theorem Zo3 {pl : FP} {w : FW} : Wp (sPutP pl w xv) en Q ↔ Wp xv en (cO (fun d e => ∃ q, pl e = some q ∧ ∃ dj, w (strong e) = some dj ∧ ∃ j, asI dj = some j ∧ ∃ T, e[q.1]? = some (some T) ∧ ∃ cs, T.sub q.2 = some (.node .lst cs) ∧ ∃ n, L2.ixN cs.length j = some n ∧ Q .nx (e.set q.1 (some (T.put q.2 (.node .lst (cs.set n (.no, .leaf d))))))) Q) := by
 constructor
 ·rintro ⟨r, e2, h, q⟩
  rcases ZF h with ⟨d, e1, h0, h⟩ | ⟨C, h0, rfl⟩
  ·refine ⟨.ok d, e1, h0, ?_⟩
   obtain ⟨p, h1, h⟩ := bnd h
   obtain ⟨dj, h2, h⟩ := bnd h
   obtain ⟨j, h3, h⟩ := bnd h
   obtain ⟨T, h4, h⟩ := bnd h
   obtain ⟨S, h5, h⟩ := bnd h
   split at h
   ·obtain ⟨n, h6, h⟩ := Option.map_eq_some_iff.mp h
    cases h
    exact ⟨p, h1, dj, h2, j, h3, T, Zag.mp h4, _, h5, n, h6, q⟩
   ·cases h
  ·exact ⟨.ex C, e2, h0, q⟩
 ·rintro ⟨r, e1, h0, h⟩
  cases r with
  | ex C => exact ⟨.ex C, e1, by unfold sPutP; rw [h0]; rfl, h⟩
  | ok d =>
   obtain ⟨p, h1, dj, h2, j, h3, T, h4, cs, h5, n, h6, q⟩ := h
   refine ⟨.nx, _, ?_, q⟩
   unfold sPutP
   rw [h0]
   show ((pl e1).bind _) = _
   rw [h1, Option.bind_some, h2, Option.bind_some, h3, Option.bind_some, Zag.mpr h4, Option.bind_some, h5, Option.bind_some]
   dsimp only
   rw [h6]
   rfl
end
end Kb
namespace Kb
open PySem L2 Evl
class Kt (α : Type) where
 q : α → Prop
class Ke (α : Type) where
 q : α → En → Prop
class Kp where
 p : Prop
noncomputable def og {α : Type} (o : Option α) [Q : Kt α] : Prop := ∃ a, o = some a ∧ Q.q a
noncomputable def gd (P : Prop) [R : Kp] : Prop := P ∧ R.p
noncomputable def ifP (t : Bool) [P : Kp] [R : Kp] : Prop := (t = true → P.p) ∧ (t = false → R.p)
noncomputable def Ru {α : Type} (m : En → Option (α × En)) (en : En) [Q : Ke α] : Prop := Wp m en Q.q
theorem ZG {α : Type} {a : α} {Q : Kt α} : @og _ (some a) Q = Q.q a := propext ⟨fun ⟨_, h, q⟩ => by cases h; exact q, fun q => ⟨a, rfl, q⟩⟩
theorem ZjR {α : Type} {Q : Kt α} : @og _ none Q = False := propext ⟨fun ⟨_, h, _⟩ => (nomatch h), fun h => h.elim⟩
theorem Zn {α β : Type} {o : Option α} {f : α → Option β} {Q : Kt β} : @og _ (o.bind f) Q = @og _ o ⟨fun a => @og _ (f a) Q⟩ := propext ⟨fun ⟨b, h, q⟩ => let ⟨a, h1, h2⟩ := bnd h; ⟨a, h1, b, h2, q⟩, fun ⟨a, h1, b, h2, q⟩ => ⟨b, by rw [h1]; exact h2, q⟩⟩
theorem ZaU {α β : Type} {o : Option α} {f : α → β} {Q : Kt β} : @og _ (o.map f) Q = @og _ o ⟨fun a => Q.q (f a)⟩ := propext ⟨fun ⟨b, h, q⟩ => let ⟨a, h1, h2⟩ := Option.map_eq_some_iff.mp h; ⟨a, h1, by show Q.q (f a); rw [h2]; exact q⟩, fun ⟨a, h1, q⟩ => ⟨_, by rw [h1]; rfl, q⟩⟩
theorem Zeu {α : Type} {t : Bool} {a b : Option α} {Q : Kt α} : @og _ (if t = true then a else b) Q = @ifP t ⟨@og _ a Q⟩ ⟨@og _ b Q⟩ := by
 cases t with
 | true => rw [if_pos rfl]; exact propext ⟨fun h => ⟨fun _ => h, fun z => (nomatch z)⟩, fun h => h.1 rfl⟩
 | false => rw [if_neg Bool.false_ne_true]; exact propext ⟨fun h => ⟨fun z => (nomatch z), fun _ => h⟩, fun h => h.2 rfl⟩
theorem Zbi {α : Type} {c : Prop} [Decidable c] {a : Option α} {Q : Kt α} : @og _ (if c then a else none) Q = @gd c ⟨@og _ a Q⟩ := by
 by_cases h : c
 ·rw [if_pos h]; exact propext ⟨fun q => ⟨h, q⟩, fun q => q.2⟩
 ·rw [if_neg h]; exact propext ⟨fun ⟨_, z, _⟩ => (nomatch z), fun q => absurd q.1 h⟩
theorem ZpN {R : Kp} : @gd True R = R.p := propext ⟨fun h => h.2, fun h => ⟨trivial, h⟩⟩
theorem Zl8 {P R : Kp} : @ifP true P R = P.p := propext ⟨fun h => h.1 rfl, fun h => ⟨fun _ => h, fun z => (nomatch z)⟩⟩
theorem Zlb {P R : Kp} : @ifP false P R = R.p := propext ⟨fun h => h.2 rfl, fun h => ⟨fun z => (nomatch z), fun _ => h⟩⟩
section
variable {en : En} {Q : Ke Ot} {a b : FS} {x y xi xv : FX} {n n2 : FN} {c c2 : FB} {A : FA} {i : Nat} {w : FW}
theorem ZlR : @Ru _ (sSeq a b) en Q = @Ru _ a en ⟨cS (fun e => @Ru _ b e Q) Q.q⟩ := propext ZrQ
theorem Zq8 : @Ru _ sNil en Q = Q.q .nx en := propext Zqi
theorem Zq1 : @Ru _ (sAsg i x) en Q = @Ru _ x en ⟨cO (fun d e => Q.q .nx (e.set i (some (.leaf d)))) Q.q⟩ := propext Zq5
theorem ZnS : @Ru _ (sAsgN i n) en Q = @Ru _ n en ⟨cO (fun T e => Q.q .nx (e.set i (some T))) Q.q⟩ := propext ZoX
theorem Zos : @Ru _ (sDrop x) en Q = @Ru _ x en ⟨cO (fun _ e => Q.q .nx e) Q.q⟩ := propext ZnL
theorem Zmp : @Ru _ (sDropN n) en Q = @Ru _ n en ⟨cO (fun _ e => Q.q .nx e) Q.q⟩ := propext Zl9
theorem Zq2 : @Ru _ (sRet n) en Q = @Ru _ n en ⟨cO (fun T e => Q.q (.rt T) e) Q.q⟩ := propext Zqx
theorem Zo1 : @Ru _ sRetN en Q = Q.q (.rt (.leaf .none)) en := propext Zn0
theorem Zmq {C : Addr} : @Ru _ (sRaise C) en Q = Q.q (.ex C) en := propext Zm2
theorem ZsU : @Ru _ sBk en Q = Q.q .bk en := propext Zs4
theorem Zs5 : @Ru _ sCt en Q = Q.q .ct en := propext ZsD
theorem Ztg : @Ru _ (sIf c a b) en Q = @Ru _ c en ⟨cO (fun t e => @ifP t ⟨@Ru _ a e Q⟩ ⟨@Ru _ b e Q⟩) Q.q⟩ := propext Zr2
theorem Zp2 {bd : PyData → En → Option En} : @Ru _ (sFor A bd a) en Q = @Ru _ A en ⟨cO (fun ds e => @Ru _ (forGo bd a ds) e Q) Q.q⟩ := propext ZrA
theorem Zn9 {bd : PyData → En → Option En} : @Ru _ (sAsgG bd x) en Q = @Ru _ x en ⟨cO (fun d e => @og _ (bd d e) ⟨fun e2 => Q.q .nx e2⟩) Q.q⟩ := propext ZnR
theorem Zqe : @Ru _ (sApp i x) en Q = @gd (∃ cs, lstAt en i = some cs) ⟨@Ru _ x en ⟨cO (fun d e => @og _ (lstAt e i) ⟨fun cs => @gd (cs.length < 100000) ⟨Q.q .nx (e.set i (some (.node .lst (cs ++ [(.no, .leaf d)]))))⟩⟩) Q.q⟩⟩ := propext Zrl
theorem Zoa {pl : FP} : @Ru _ (sPutP pl w xv) en Q = @Ru _ xv en ⟨cO (fun d e => @og _ (pl e) ⟨fun q => @og _ (w (strong e)) ⟨fun dj => @og _ (asI dj) ⟨fun j => @og _ (e[q.1]?.join) ⟨fun T => @og _ (T.sub q.2) ⟨fun S => ∃ cs, S = .node .lst cs ∧ @og _ (L2.ixN cs.length j) ⟨fun n => Q.q .nx (e.set q.1 (some (T.put q.2 (.node .lst (cs.set n (.no, .leaf d))))))⟩⟩⟩⟩⟩⟩) Q.q⟩ := by
 refine (propext Zo3).trans ?_
 congr 2
 funext d e
 refine propext ?_
 constructor
 ·rintro ⟨q, h1, dj, h2, j, h3, T, h4, cs, h5, n, h6, k⟩
  exact ⟨q, h1, dj, h2, j, h3, T, Zag.mpr h4, _, h5, cs, rfl, n, h6, k⟩
 ·rintro ⟨q, h1, dj, h2, j, h3, T, h4, S, h5, cs, rfl, n, h6, k⟩
  exact ⟨q, h1, dj, h2, j, h3, T, Zag.mp h4, cs, h5, n, h6, k⟩
theorem Zn2 {cs : List (Lab × OT)} {P : List (Lab × OT) → Prop} : (∃ cs', OT.node .lst cs = .node .lst cs' ∧ P cs') = P cs := propext ⟨fun ⟨_, h, p⟩ => by cases h; exact p, fun p => ⟨cs, rfl, p⟩⟩
end
section
variable {en : En} {Q : Ke (Rx PyData)} {QB : Ke (Rx Bool)} {QN : Ke (Rx OT)} {QA : Ke (Rx (List PyData))} {a b : FX} {x y : FX} {n n2 : FN} {c c2 : FB} {A : FA} {i : Nat} {w : FW} {f : FD}
theorem Zr3 : @Ru _ (xS w) en Q = @og _ (w (strong en)) ⟨fun d => Q.q (.ok d) en⟩ := propext Zte
theorem Zs8 : @Ru _ (xW w) en Q = @og _ (w (weak en)) ⟨fun d => @gd (flatD d = true) ⟨Q.q (.ok d) en⟩⟩ := propext Zsc
theorem ZsH {f : DE → Option Bool} : @Ru _ (bS f) en QB = @og _ (f (strong en)) ⟨fun d => QB.q (.ok d) en⟩ := propext Zsu
theorem Zp5 {f : DE → Option Bool} : @Ru _ (bWk f) en QB = @og _ (f (weak en)) ⟨fun d => QB.q (.ok d) en⟩ := propext Zq3
theorem ZsQ : @Ru _ (xN n) en Q = @Ru _ n en ⟨cX (fun T e => Q.q (.ok T.data) e) Q.q⟩ := propext Ztd
theorem ZsZ : @Ru _ (nX x) en QN = @Ru _ x en ⟨cX (fun d e => QN.q (.ok (.leaf d)) e) QN.q⟩ := propext Zso
theorem ZrM {o : PyData → PyData → Option PyData} : @Ru _ (xOp o a b) en Q = @Ru _ a en ⟨cX (fun x e => @Ru _ b e ⟨cX (fun y e => @og _ (o x y) ⟨fun d => Q.q (.ok d) e⟩) Q.q⟩) Q.q⟩ := propext ZqW
theorem Zp4 {o : PyData → Option PyData} : @Ru _ (xUn o a) en Q = @Ru _ a en ⟨cX (fun x e => @og _ (o x) ⟨fun d => Q.q (.ok d) e⟩) Q.q⟩ := propext ZqM
theorem Znd : @Ru _ aNilX en QA = QA.q (.ok []) en := propext Znq
theorem Zlk {r : FA} : @Ru _ (aConsX a r) en QA = @Ru _ a en ⟨cX (fun x e => @Ru _ r e ⟨cX (fun xs e => QA.q (.ok (x :: xs)) e) QA.q⟩) QA.q⟩ := propext ZlA
theorem Zsh {f : DE → Option (List PyData)} : @Ru _ (aS f) en QA = @og _ (f (strong en)) ⟨fun d => QA.q (.ok d) en⟩ := propext ZrZ
theorem ZqR {o : List PyData → Option PyData} : @Ru _ (xCb o A) en Q = @Ru _ A en ⟨cX (fun xs e => @og _ (o xs) ⟨fun d => Q.q (.ok d) e⟩) Q.q⟩ := propext ZqH
theorem Zof : @Ru _ (xTup A) en Q = @Ru _ A en ⟨cX (fun xs e => @gd (xs.length ≤ 100000) ⟨Q.q (.ok (.tuple xs)) e⟩) Q.q⟩ := propext Zov
theorem Zn6 : @Ru _ (nLst A) en QN = @Ru _ A en ⟨cX (fun xs e => @gd (xs.length ≤ 100000) ⟨QN.q (.ok (lstT xs)) e⟩) QN.q⟩ := propext ZnU
theorem ZqC : @Ru _ (bXx x) en QB = @Ru _ x en ⟨cX (fun d e => @og _ (asB d) ⟨fun t => QB.q (.ok t) e⟩) QB.q⟩ := propext ZrN
theorem Zni : @Ru _ (bAndX c c2) en QB = @Ru _ c en ⟨cX (fun t e => @ifP t ⟨@Ru _ c2 e QB⟩ ⟨QB.q (.ok false) e⟩) QB.q⟩ := propext ZmV
theorem Zol : @Ru _ (bOrX c c2) en QB = @Ru _ c en ⟨cX (fun t e => @ifP t ⟨QB.q (.ok true) e⟩ ⟨@Ru _ c2 e QB⟩) QB.q⟩ := propext Zo4
theorem Zmc : @Ru _ (bNotX c) en QB = @Ru _ c en ⟨cX (fun t e => QB.q (.ok (!t)) e) QB.q⟩ := propext ZmL
theorem Zqv : @Ru _ (xIf c x y) en Q = @Ru _ c en ⟨cX (fun t e => @ifP t ⟨@Ru _ x e Q⟩ ⟨@Ru _ y e Q⟩) Q.q⟩ := propext ZpU
theorem Zrn : @Ru _ (nIf c n n2) en QN = @Ru _ c en ⟨cX (fun t e => @ifP t ⟨@Ru _ n e QN⟩ ⟨@Ru _ n2 e QN⟩) QN.q⟩ := propext Zrz
theorem ZpQ : @Ru _ (xNot x) en Q = @Ru _ x en ⟨cX (fun d e => @og _ (asB d) ⟨fun t => Q.q (.ok (.bool (!t))) e⟩) Q.q⟩ := propext ZoY
theorem ZsO : @Ru _ (nF w) en QN = @og _ (w (strong en)) ⟨fun d => QN.q (.ok (freshT d)) en⟩ := propext ZsW
theorem ZqA : @Ru _ (nFW w) en QN = @og _ (w (weak en)) ⟨fun d => ∃ ds, d = .list ds ∧ @gd (ds.all flatD = true) ⟨QN.q (.ok (lstT ds)) en⟩⟩ := by
 refine (propext Zq4).trans (propext ?_)
 constructor
 ·rintro ⟨ds, h1, h2, q⟩
  exact ⟨_, h1, ds, rfl, h2, q⟩
 ·rintro ⟨_, h1, ds, rfl, h2, q⟩
  exact ⟨ds, h1, h2, q⟩
theorem ZiP {ds : List PyData} {P : List PyData → Prop} : (∃ ds', PyData.list ds = .list ds' ∧ P ds') = P ds := propext ⟨fun ⟨_, h, p⟩ => by cases h; exact p, fun p => ⟨ds, rfl, p⟩⟩
theorem Zr5 {o : PyData → Option (List PyData)} : @Ru _ (iX o x) en QA = @Ru _ x en ⟨cX (fun d e => @og _ (o d) ⟨fun ds => QA.q (.ok ds) e⟩) QA.q⟩ := propext Zr8
theorem Zsx {o : List PyData → Option (List PyData)} : @Ru _ (iA o A) en QA = @Ru _ A en ⟨cX (fun d e => @og _ (o d) ⟨fun ds => QA.q (.ok ds) e⟩) QA.q⟩ := propext Zsf
theorem Zli {f : List PyData → Option (PyData ⊕ Addr)} : @Ru _ (xCallX f A) en Q = @Ru _ A en ⟨cX (fun xs e => @og _ (f xs) ⟨fun o => Q.q (rxO o) e⟩) Q.q⟩ := propext ZlG
theorem Zle {f : List PyData → Option PyData} : @Ru _ (nCallF f A) en QN = @Ru _ A en ⟨cX (fun xs e => @og _ (f xs) ⟨fun d => QN.q (.ok (freshT d)) e⟩) QN.q⟩ := propext Zly
theorem Zkw {f : List PyData → Option (PyData ⊕ Addr)} : @Ru _ (nCallXF f A) en QN = @Ru _ A en ⟨cX (fun xs e => @og _ (f xs) ⟨fun o => QN.q (rxF o) e⟩) QN.q⟩ := propext Zkz
theorem ZnF : @Ru _ (nMove i) en QN = @og _ (en[i]?.join) ⟨fun T => QN.q (.ok T) (en.set i none)⟩ := by
 refine (propext ZpM).trans (propext ?_)
 exact exists_congr fun T => and_congr_left fun _ => Zag.symm
theorem ZoP : @Ru _ (xTell i) en Q = @og _ (en[i]?.join) ⟨fun T => Q.q (.ok T.data) (en.set i (some (.leaf T.data)))⟩ := by
 refine (propext Zn3).trans (propext ?_)
 exact exists_congr fun T => and_congr_left fun _ => Zag.symm
/-- what a call told and left -/
noncomputable def kI (Q : Rx OT → List OT → Prop) (r : Rx OT × List OT) : Prop := Q r.1 r.2
theorem ZsV {Q : Rx OT → List OT → Prop} {r : Rx OT} {as : List OT} : kI Q (r, as) = Q r as := id rfl
noncomputable def kN (Q : OT → List OT → Prop) : Rx OT × List OT → Prop
 | (.ok R, as) => Q R as
 | _ => False
theorem Zr7 {Q : OT → List OT → Prop} {R : OT} {as : List OT} : kN Q (.ok R, as) = Q R as := id rfl
theorem Zlp : @Ru _ (nCallI f [i] A) en QN = @gd (∃ T0, en[i]? = some (some T0)) ⟨@Ru _ A en ⟨cX (fun ds e => @og _ (e[i]?.join) ⟨fun T => @og _ (f (T :: ds.map OT.leaf)) ⟨kI fun R as => QN.q R (putE [i] as (e.set i none))⟩⟩) QN.q⟩⟩ := by
 refine (propext Zhp).trans ?_
 show (_ ∧ _) = (_ ∧ _)
 congr 3
 funext ds e
 refine propext ?_
 constructor
 ·rintro ⟨T, h1, R, as, h2, q⟩
  exact ⟨T, Zag.mpr h1, (R, as), h2, q⟩
 ·rintro ⟨T, h1, ⟨R, as⟩, h2, q⟩
  exact ⟨T, Zag.mp h1, R, as, h2, q⟩
theorem Znp : @Ru _ (nCallI (noX f) [i] A) en QN = @gd (∃ T0, en[i]? = some (some T0)) ⟨@Ru _ A en ⟨cX (fun ds e => @og _ (e[i]?.join) ⟨fun T => @og _ (f (T :: ds.map OT.leaf)) ⟨kN fun R as => QN.q (.ok R) (putE [i] as (e.set i none))⟩⟩) QN.q⟩⟩ := by
 refine (propext Zmi).trans ?_
 show (_ ∧ _) = (_ ∧ _)
 congr 3
 funext ds e
 refine propext ?_
 constructor
 ·rintro ⟨T, h1, R, as, h2, q⟩
  exact ⟨T, Zag.mpr h1, (.ok R, as), h2, q⟩
 ·rintro ⟨T, h1, ⟨R, as⟩, h2, q⟩
  cases R with
  | ok R => exact ⟨T, Zag.mp h1, R, as, h2, q⟩
  | ex C => exact q.elim
theorem Zp0 : @Ru _ (xIxV i x) en Q = @gd (∃ cs, lstAt en i = some cs) ⟨@Ru _ x en ⟨cX (fun j e => @og _ (lstAt e i) ⟨fun cs => @og _ (asI j) ⟨fun k => @og _ (L2.atI cs k) ⟨fun c => @og _ (leafD c.2) ⟨fun d => Q.q (.ok d) e⟩⟩⟩⟩) Q.q⟩⟩ := propext Zrh
theorem ZrW {t : FO} : @Ru _ (nT t) en QN = @og _ (t (weak en)) ⟨fun T => QN.q (.ok T) en⟩ := propext ZU
end
theorem ZrG {α : Type} {it : DE → Option (List PyData)} {bd : PyData → DE → Option DE} {el : FW} {vs : List Nat} {ρ : DE} {Q : Kt PyData} (g : α → PyData) (xs : List α) (f : α → PyData) (hit : it ρ = some (xs.map g)) (hl : xs.length ≤ 50000)
  (h : ∀ x ∈ xs, @og _ (bd (g x) (wipeD ρ vs)) ⟨fun ρ1 => @og _ (el ρ1) ⟨fun d => d = f x⟩⟩) (k : Q.q (.list (xs.map f))) : @og _ (wLc it bd bYes el vs ρ) Q :=
 ⟨_, Zrf g xs f hit hl fun x hx => by
  obtain ⟨ρ1, h1, d, h2, rfl⟩ := h x hx
  exact ⟨ρ1, h1, h2⟩, k⟩
theorem Zan {t : Bool} {P R : Kp} (h1 : t = true → P.p) (h2 : t = false → R.p) : @ifP t P R := ⟨h1, h2⟩
theorem ZT {P : Prop} {R : Kp} (h1 : P) (h2 : R.p) : @gd P R := ⟨h1, h2⟩
/-- a for, the invariant over what is behind -/
theorem Zok {α : Type} {b : PyData → En → Option En} {s : FS} {Q : Ke Ot} (g : α → PyData) (xs : List α) (I : List α → En → Prop) {en : En} (h0 : I [] en)
  (hs : ∀ pre x, (∃ post, pre ++ x :: post = xs) → ∀ e, I pre e → @og _ (b (g x) e) ⟨fun e1 => @Ru _ s e1 ⟨cL (I (pre ++ [x])) Q.q⟩⟩) (hq : ∀ e, I xs e → Q.q .nx e) : @Ru _ (forGo b s (xs.map g)) en Q := Zpo g xs I h0 hs hq
theorem ZjA {α : Type} {b : PyData → En → Option En} {s : FS} {Q : Ke Ot} (g : α → PyData) (xs : List α) (I : Nat → En → Prop) {en : En} (h0 : I 0 en)
  (hs : ∀ i x, xs[i]? = some x → ∀ e, I i e → @og _ (b (g x) e) ⟨fun e1 => @Ru _ s e1 ⟨cL (I (i + 1)) Q.q⟩⟩) (hq : ∀ e, I xs.length e → Q.q .nx e) : @Ru _ (forGo b s (xs.map g)) en Q := Zjq g xs I h0 hs hq
end Kb
namespace Kb
open PySem L2 Evl
section
variable {ρ : DE} {Q : Kt PyData} {QB : Kt Bool} {QA : Kt (List PyData)} {QE : Kt DE} {QO : Kt (Option Int)} {a b c : FW} {s : DE → Option (List PyData)} {p q : DE → Option Bool} {i : Nat}
theorem Zss : @og _ (wV i ρ) Q = @og _ (ρ[i]?.join) Q := id rfl
theorem Ztb {d : PyData} : @og _ (wC d ρ) Q = Q.q d := ZG
theorem Zri {o : PyData → PyData → Option PyData} : @og _ (wOp o a b ρ) Q = @og _ (a ρ) ⟨fun x => @og _ (b ρ) ⟨fun y => @og _ (o x y) Q⟩⟩ := by
 refine (Zn (o := a ρ)).trans ?_
 congr 2
 funext x
 exact Zn
theorem Zre {o : PyData → Option PyData} : @og _ (wUn o a ρ) Q = @og _ (a ρ) ⟨fun x => @og _ (o x) Q⟩ := Zn
theorem ZpV {o : List PyData → Option PyData} : @og _ (wCb o s ρ) Q = @og _ (s ρ) ⟨fun x => @og _ (o x) Q⟩ := Zn
theorem ZoS : @og _ (aNil ρ) QA = QA.q [] := ZG
theorem Zm0 : @og _ (aCons a s ρ) QA = @og _ (a ρ) ⟨fun x => @og _ (s ρ) ⟨fun xs => QA.q (x :: xs)⟩⟩ := by
 refine (Zn (o := a ρ)).trans ?_
 congr 2
 funext x
 refine Zn.trans ?_
 congr 2
 funext xs
 exact ZG
theorem ZsR : @og _ (bW a ρ) QB = @og _ (a ρ) ⟨fun x => @og _ (asB x) QB⟩ := Zn
theorem Zph : @og _ (bAnd p q ρ) QB = @og _ (p ρ) ⟨fun x => @ifP x ⟨@og _ (q ρ) QB⟩ ⟨QB.q false⟩⟩ := by
 refine (Zn (o := p ρ)).trans ?_
 congr 2
 funext x
 refine Zeu.trans ?_
 rw [ZG]
theorem ZqV : @og _ (bOr p q ρ) QB = @og _ (p ρ) ⟨fun x => @ifP x ⟨QB.q true⟩ ⟨@og _ (q ρ) QB⟩⟩ := by
 refine (Zn (o := p ρ)).trans ?_
 congr 2
 funext x
 refine Zeu.trans ?_
 rw [ZG]
theorem ZnP : @og _ (bNot p ρ) QB = @og _ (p ρ) ⟨fun x => QB.q (!x)⟩ := ZaU
theorem Zpf : @og _ (bYes ρ) QB = QB.q true := ZG
theorem Zoj : @og _ (wAnd a b ρ) Q = @og _ (a ρ) ⟨fun x => @og _ (asB x) ⟨fun t => @ifP t ⟨@og _ (b ρ) ⟨fun y => @og _ (asB y) ⟨fun u => Q.q (.bool u)⟩⟩⟩ ⟨Q.q (.bool false)⟩⟩⟩ := by
 refine (Zn (o := a ρ)).trans ?_
 congr 2
 funext x
 refine (Zn (o := asB x)).trans ?_
 congr 2
 funext t
 refine Zeu.trans ?_
 rw [ZG]
 congr 2
 refine (Zn (o := b ρ)).trans ?_
 congr 2
 funext y
 exact ZaU
theorem Zrb : @og _ (wOr a b ρ) Q = @og _ (a ρ) ⟨fun x => @og _ (asB x) ⟨fun t => @ifP t ⟨Q.q (.bool true)⟩ ⟨@og _ (b ρ) ⟨fun y => @og _ (asB y) ⟨fun u => Q.q (.bool u)⟩⟩⟩⟩⟩ := by
 refine (Zn (o := a ρ)).trans ?_
 congr 2
 funext x
 refine (Zn (o := asB x)).trans ?_
 congr 2
 funext t
 refine Zeu.trans ?_
 rw [ZG]
 congr 2
 refine (Zn (o := b ρ)).trans ?_
 congr 2
 funext y
 exact ZaU
theorem ZnD : @og _ (wNot a ρ) Q = @og _ (a ρ) ⟨fun x => @og _ (asB x) ⟨fun u => Q.q (.bool (!u))⟩⟩ := by
 refine (Zn (o := a ρ)).trans ?_
 congr 2
 funext x
 exact ZaU
theorem ZrC : @og _ (wIf p a b ρ) Q = @og _ (p ρ) ⟨fun t => @ifP t ⟨@og _ (a ρ) Q⟩ ⟨@og _ (b ρ) Q⟩⟩ := by
 refine (Zn (o := p ρ)).trans ?_
 congr 2
 funext x
 exact Zeu
theorem ZjI : @og _ (wLst s ρ) Q = @og _ (s ρ) ⟨fun xs => @gd (xs.length ≤ 100000) ⟨Q.q (.list xs)⟩⟩ := by
 refine (Zn (o := s ρ)).trans ?_
 congr 2
 funext x
 refine Zbi.trans ?_
 rw [ZG, big_eq]
where big_eq {x : List PyData} : (big x = true) = (x.length ≤ 100000) := by unfold big; simp
theorem Zpt : @og _ (wTup s ρ) Q = @og _ (s ρ) ⟨fun xs => @gd (xs.length ≤ 100000) ⟨Q.q (.tuple xs)⟩⟩ := by
 refine (Zn (o := s ρ)).trans ?_
 congr 2
 funext x
 refine Zbi.trans ?_
 rw [ZG, ZjI.big_eq]
theorem ZqY {o : PyData → Option Int → Option Int → Option PyData} {l h : DE → Option (Option Int)} : @og _ (wSl o a l h ρ) Q = @og _ (a ρ) ⟨fun x => @og _ (l ρ) ⟨fun i => @og _ (h ρ) ⟨fun j => @og _ (o x i j) Q⟩⟩⟩ := by
 refine (Zn (o := a ρ)).trans ?_
 congr 2
 funext x
 refine (Zn (o := l ρ)).trans ?_
 congr 2
 funext y
 exact Zn
theorem Zqs : @og _ (pNo ρ) QO = QO.q none := ZG
theorem Zp3 : @og _ (pSo a ρ) QO = @og _ (a ρ) ⟨fun x => @og _ (asI x) ⟨fun i => QO.q (some i)⟩⟩ := by
 refine (Zn (o := a ρ)).trans ?_
 congr 2
 funext x
 exact ZaU
theorem Zlw {o o2 : PyData → PyData → Option PyData} : @og _ (wChain o o2 a b c ρ) Q = @og _ (a ρ) ⟨fun x => @og _ (b ρ) ⟨fun y => @og _ (o x y) ⟨fun k => @og _ (asB k) ⟨fun t => @ifP t ⟨@og _ (c ρ) ⟨fun z => @og _ (o2 y z) Q⟩⟩ ⟨Q.q (.bool false)⟩⟩⟩⟩⟩ := by
 refine (Zn (o := a ρ)).trans ?_
 congr 2
 funext x
 refine (Zn (o := b ρ)).trans ?_
 congr 2
 funext y
 refine (Zn (o := o x y)).trans ?_
 congr 2
 funext k
 refine (Zn (o := asB k)).trans ?_
 congr 2
 funext t
 refine Zeu.trans ?_
 rw [ZG]
 congr 2
 exact Zn
theorem ZqJ : @og _ (itL a ρ) QA = @og _ (a ρ) ⟨fun x => @og _ (asL x) QA⟩ := Zn
theorem Zqf : @og _ (itT a ρ) QA = @og _ (a ρ) ⟨fun x => @og _ (asT x) QA⟩ := Zn
theorem Zqd : @og _ (itS a ρ) QA = @og _ (a ρ) ⟨fun x => @og _ (asS x) ⟨fun s => QA.q (signs s)⟩⟩ := by
 refine (Zn (o := a ρ)).trans ?_
 congr 2
 funext x
 exact ZaU
theorem Zrw {o : List PyData → Option (List PyData)} : @og _ (itA o s ρ) QA = @og _ (s ρ) ⟨fun x => @og _ (o x) QA⟩ := Zn
theorem ZoE {C : Addr} {m : Str} {f : List PyData → Option PyData} : @og _ (wMth C m f a s ρ) Q = @og _ (a ρ) ⟨fun x => @gd (isI C m x = true) ⟨@og _ (s ρ) ⟨fun xs => @og _ (f (x :: xs)) Q⟩⟩⟩ := by
 refine (Zn (o := a ρ)).trans ?_
 congr 2
 funext x
 refine Zbi.trans ?_
 congr 2
 exact Zn
theorem Zmf {j : Nat} {d : PyData} : @og _ (bName j d ρ) QE = QE.q (ρ.set j (some d)) := ZG
theorem ZnW : @og _ (bNil [] ρ) QE = QE.q ρ := ZG
theorem Zm8 {bd : PyData → DE → Option DE} {r : List PyData → DE → Option DE} {d : PyData} {ds : List PyData} : @og _ (bCons bd r (d :: ds) ρ) QE = @og _ (bd d ρ) ⟨fun e => @og _ (r ds e) QE⟩ := Zn
theorem ZoT {n : Nat} {r : List PyData → DE → Option DE} {ds : List PyData} : @og _ (bTup n r (.tuple ds) ρ) QE = @gd (ds.length = n) ⟨@og _ (r ds ρ) QE⟩ := Zbi
theorem Zo6 {n : Nat} {r : List PyData → DE → Option DE} {ds : List PyData} : @og _ (bLst n r (.list ds) ρ) QE = @gd (ds.length = n) ⟨@og _ (r ds ρ) QE⟩ := Zbi
end
section
variable {e : En} {QE : Kt En}
theorem Znn {j : Nat} {d : PyData} : @og _ (eName j d e) QE = QE.q (e.set j (some (.leaf d))) := ZG
theorem ZoU : @og _ (eNil [] e) QE = QE.q e := ZG
theorem Zmd {bd : PyData → En → Option En} {r : List PyData → En → Option En} {d : PyData} {ds : List PyData} : @og _ (eCons bd r (d :: ds) e) QE = @og _ (bd d e) ⟨fun e => @og _ (r ds e) QE⟩ := Zn
theorem ZoV {n : Nat} {r : List PyData → En → Option En} {ds : List PyData} : @og _ (eTup n r (.tuple ds) e) QE = @gd (ds.length = n) ⟨@og _ (r ds e) QE⟩ := Zbi
theorem Zod {n : Nat} {r : List PyData → En → Option En} {ds : List PyData} : @og _ (eLst n r (.list ds) e) QE = @gd (ds.length = n) ⟨@og _ (r ds e) QE⟩ := Zbi
end
theorem ZeM {α : Type} {it : DE → Option (List PyData)} {bd : PyData → DE → Option DE} {el : FW} {vs : List Nat} {ρ : DE} {Q : Kt PyData} (g : α → PyData) (xs : List α) (f : α → PyData) (hl : xs.length ≤ 50000) (hit : @og _ (it ρ) ⟨fun l => l = xs.map g⟩)
  (h : ∀ x ∈ xs, @og _ (bd (g x) (wipeD ρ vs)) ⟨fun ρ1 => @og _ (el ρ1) ⟨fun d => d = f x⟩⟩) (k : Q.q (.list (xs.map f))) : @og _ (wLc it bd bYes el vs ρ) Q :=
 ZrG g xs f (let ⟨_, h, e⟩ := hit; h.trans (congrArg some e)) hl h k
section
variable {ρ : DE} {QT : Kt OT} {QTs : Kt (List OT)} {w : FW} {t : FO} {r : FOs}
theorem Zsk : @og _ (tF w ρ) QT = @og _ (w ρ) ⟨fun d => @gd (flatD d = true) ⟨QT.q (.leaf d)⟩⟩ := by
 refine (Zn (o := w ρ)).trans ?_
 congr 2
 funext x
 refine Zbi.trans ?_
 rw [ZG]
theorem Zmr : @og _ (tNilO ρ) QTs = QTs.q [] := ZG
theorem Zk5 : @og _ (tConsO t r ρ) QTs = @og _ (t ρ) ⟨fun T => @og _ (r ρ) ⟨fun Ts => QTs.q (T :: Ts)⟩⟩ := by
 refine (Zn (o := t ρ)).trans ?_
 congr 2
 funext x
 exact ZaU
theorem Zml {k : Kd} : @og _ (tNode k r ρ) QT = @og _ (r ρ) ⟨fun Ts => @gd (Ts.length ≤ 100000) ⟨QT.q (.node k (Ts.map fun T => (Lab.no, T)))⟩⟩ := by
 refine (Zn (o := r ρ)).trans ?_
 congr 2
 funext x
 refine Zbi.trans ?_
 rw [ZG]
theorem Zor : @og _ (tNew w ρ) QT = @og _ (w ρ) ⟨fun d => ∃ ds, d = .list ds ∧ @gd (ds.all flatD = true) ⟨QT.q (lstT ds)⟩⟩ := by
 refine (Zn (o := w ρ)).trans ?_
 congr 2
 funext d
 cases d with
 | list ds =>
  rw [ZiP]
  refine Zbi.trans ?_
  rw [ZG]
 | _ => exact ZjR.trans (propext ⟨fun h => h.elim, fun ⟨_, h, _⟩ => nomatch h⟩)
theorem ZnB {f : List PyData → Option OT} {s : DE → Option (List PyData)} : @og _ (tCal f s ρ) QT = @og _ (s ρ) ⟨fun xs => @og _ (f xs) QT⟩ := Zn
end
theorem Zqc {i : Nat} {is : List Nat} {T : OT} {Ts : List OT} {e : En} : putE (i :: is) (T :: Ts) e = (putE is Ts e).set i (some T) := id rfl
theorem Zrd {Ts : List OT} {e : En} : putE [] Ts e = e := by cases Ts <;> rfl
theorem Zd8 {α : Type} {a : α} : (∃ T0, some a = some T0) = True := propext ⟨fun _ => trivial, fun _ => ⟨a, rfl⟩⟩
theorem ZrO {α : Type} {a : α} : (∃ T0, some (some a) = some (some T0)) = True := propext ⟨fun _ => trivial, fun _ => ⟨a, rfl⟩⟩
theorem ZdY {np n : Nat} {s : FS} {ds : List PyData} {d : PyData} (h : @Ru _ s (start0 n (ds.map OT.leaf)) ⟨retD d⟩) (hl : ds.length = np := by rfl) : fnD np n s ds = some d := Zro h hl
theorem ZqZ {np n : Nat} {s : FS} {ds : List PyData} {d : PyData} (h : @Ru _ s (start0 n (ds.map OT.leaf)) ⟨retF d⟩) (hl : ds.length = np := by rfl) : fnF np n s ds = some d := ZrB h hl
theorem ZkR {np n : Nat} {s : FS} {ds : List PyData} {r : PyData ⊕ Addr} (h : @Ru _ s (start0 n (ds.map OT.leaf)) ⟨retX r⟩) (hl : ds.length = np := by rfl) : fnX np n s ds = some r := Zqk h hl
theorem Zak {np n : Nat} {s : FS} {T T' : OT} {ds : List PyData} {r : Rx OT} (h : @Ru _ s (start0 n (T :: ds.map OT.leaf)) ⟨retI np r T'⟩) (hl : ds.length + 1 = np := by rfl) : fnI np n (fun i => Nat.blt i 1) s (T :: ds.map OT.leaf) = some (r, T' :: ds.map OT.leaf) := ZrK h hl
theorem ZoB {n : Nat} {T : OT} {ts : List OT} : start0 (n + 1) (T :: ts) = some T :: start0 n ts := by simp [start0]
theorem Zoc {n : Nat} : start0 (n + 1) [] = none :: start0 n [] := by simp [start0, List.replicate_succ]
theorem ZnQ : start0 0 [] = [] := rfl
/-- a word between two statements -/
theorem Zaf {a b : FS} {en : En} {Q : Ke Ot} (P : En → Prop) (h : @Ru _ a en ⟨cS P Q.q⟩) (k : ∀ e, P e → @Ru _ b e Q) : @Ru _ (sSeq a b) en Q := by
 rw [ZlR]
 refine Wp.mono h fun o e ho => ?_
 cases o with
 | nx => exact k e ho
 | _ => exact ho
end Kb
namespace Kb
open PySem L2 Evl
section
variable {en : En} {Q : Ke Ot} {QX : Ke (Rx PyData)} {QN : Ke (Rx OT)} {x xi xv : FX} {n : FN} {i : Nat} {A it : FA} {b : PyData → En → Option En} {c : FB} {vs : List Nat}
theorem ZnG : @Ru _ (nLcT it b c x vs) en QN = @Ru _ it en ⟨cX (fun ds e => @gd (noOwn e vs = true ∧ ds.length ≤ 50000) ⟨@og _ (lcT b c x vs ds (wipeE e vs)) ⟨fun r => QN.q (.ok (lstT r.1)) (backE e r.2 vs)⟩⟩) QN.q⟩ := by
 refine (propext ZK).trans ?_
 show Wp it en _ = Wp it en _
 congr 2
 funext ds e
 refine propext ?_
 constructor
 ·rintro ⟨r, e', h, q⟩
  dsimp only at h
  split at h
  ·rename_i hc
   obtain ⟨⟨ys, e2⟩, h1, h2⟩ := Option.map_eq_some_iff.mp h
   cases h2
   exact ⟨hc, _, h1, q⟩
  ·cases h
 ·rintro ⟨hc, ⟨ys, e2⟩, h1, q⟩
  exact ⟨_, _, by dsimp only; rw [if_pos hc, h1]; rfl, q⟩
theorem Zik {α : Type} {Qr : Kt (List PyData × En)} (g : α → PyData) (xs : List α) (I : List α → List PyData → En → Prop) {e0 : En} (h0 : I [] [] e0)
  (hs : ∀ pre y, (∃ post, pre ++ y :: post = xs) → ∀ ys e, I pre ys e → @og _ (b (g y) e) ⟨fun e1 => @Ru _ c e1 ⟨cX (β := Unit) (fun t e2 => @ifP t ⟨@Ru _ x e2 ⟨cX (β := Unit) (fun d e3 => I (pre ++ [y]) (ys ++ [d]) (wipeE e3 vs)) (fun _ _ => False)⟩⟩ ⟨I (pre ++ [y]) ys (wipeE e2 vs)⟩) (fun _ _ => False)⟩⟩)
  (hq : ∀ ys e, I xs ys e → Qr.q (ys, e)) : @og _ (lcT b c x vs (xs.map g) e0) Qr := by
 have gen : ∀ (zs pre : List α) (ys : List PyData) (e : En), pre ++ zs = xs → I pre ys e → ∃ ws e', lcT b c x vs (zs.map g) e = some (ws, e') ∧ I xs (ys ++ ws) e' := by
  intro zs
  induction zs with
  | nil =>
   intro pre ys e hp hI
   rw [List.append_nil] at hp
   subst hp
   exact ⟨[], e, rfl, by rw [List.append_nil]; exact hI⟩
  | cons z zs ih =>
   intro pre ys e hp hI
   obtain ⟨e1, h1, r, e2, h2, h3⟩ := hs pre z ⟨zs, hp⟩ ys e hI
   cases r with
   | ex C => exact h3.elim
   | ok t =>
    cases t with
    | true =>
     obtain ⟨r, e3, h4, h5⟩ := h3.1 rfl
     cases r with
     | ex C => exact h5.elim
     | ok d =>
      obtain ⟨ws, e', h6, h7⟩ := ih (pre ++ [z]) (ys ++ [d]) _ (by rw [List.append_assoc]; exact hp) h5
      refine ⟨d :: ws, e', ?_, by rw [List.append_assoc] at h7; exact h7⟩
      rw [List.map_cons]
      unfold lcT
      rw [h1]
      dsimp only [Option.bind]
      rw [h2]
      dsimp only
      rw [h4]
      dsimp only
      rw [h6]
      rfl
    | false =>
     have h5 := h3.2 rfl
     obtain ⟨ws, e', h6, h7⟩ := ih (pre ++ [z]) ys _ (by rw [List.append_assoc]; exact hp) h5
     refine ⟨ws, e', ?_, h7⟩
     rw [List.map_cons]
     unfold lcT
     rw [h1]
     dsimp only [Option.bind]
     rw [h2]
     dsimp only
     exact h6
 obtain ⟨ws, e', h1, h2⟩ := gen xs [] [] e0 rfl h0
 exact ⟨(ws, e'), h1, hq ws e' h2⟩
theorem ZbK {α : Type} (l : List α) (k : Nat) : cutA l none (some (k : Int)) = l.take k := by
 unfold cutA
 rw [HT.sIx_nat, HT.sIx_none, List.drop_zero, Nat.sub_zero, ← List.take_eq_take_min]
theorem ZiA {α : Type} (l : List α) (k : Nat) : cutA l (some (k : Int)) none = l.drop k := by
 unfold cutA
 rw [HT.sIx_nat, HT.sIx_none]
 by_cases h : k ≤ l.length
 ·rw [Nat.min_eq_left h, List.take_of_length_le (by rw [List.length_drop]; omega)]
 ·rw [Nat.min_eq_right (by omega), List.drop_eq_nil_of_le (Nat.le_refl _), List.drop_eq_nil_of_le (by omega)]
  simp
theorem Znj {α : Type} (l : List α) : cutA l none (some (-1)) = l.dropLast := by
 unfold cutA
 rw [HT.sIx_none, List.drop_zero, Nat.sub_zero]
 have : HT.sIx l.length l.length (some (-1)) = l.length - 1 := by
  show (if (-1 : Int) < 0 then (-1 + (l.length : Int)).toNat else min (-1 : Int).toNat l.length) = _
  rw [if_pos (by decide)]
  omega
 rw [this, List.dropLast_eq_take]
theorem Zo9 {α : Type} (l : List α) : cutA l none none = l := by
 unfold cutA
 rw [HT.sIx_none, HT.sIx_none, List.drop_zero, Nat.sub_zero, List.take_length]
theorem Zrk (l : List PyData) (i j : Option Int) : oSlL (.list l) i j = some (.list (cutA l i j)) := id rfl
theorem ZqL (l : List PyData) (i j : Option Int) : oSlT (.tuple l) i j = some (.tuple (cutA l i j)) := id rfl
theorem Zqa {a c : List PyData} {Q : Kt PyData} : @og _ (oCat (.list a) (.list c)) Q = @gd (a.length + c.length ≤ 100000) ⟨Q.q (.list (a ++ c))⟩ := by
 refine Zbi.trans ?_
 rw [ZG]
theorem Zq0 {o : Int → Int → Int} : @Ru _ (sAug i o x) en Q = @gd (∃ n, ((strong en)[i]?).join.bind asI = some n) ⟨@Ru _ x en ⟨cO (fun d e => @og _ (((strong e)[i]?).join.bind asI) ⟨fun n => @og _ (asI d) ⟨fun m => Q.q .nx (e.set i (some (.leaf (.int (o n m)))))⟩⟩) Q.q⟩⟩ := by
 refine propext ⟨?_, ?_⟩
 ·rintro ⟨r, e, h, q⟩
  obtain ⟨k, hk, h⟩ := bnd h
  refine ⟨⟨k, hk⟩, ?_⟩
  rcases ZF h with ⟨d, e1, h1, h2⟩ | ⟨C, h1, rfl⟩
  ·obtain ⟨k2, hk2, h3⟩ := bnd h2
   obtain ⟨m, hm, h4⟩ := Option.map_eq_some_iff.mp h3
   cases h4
   exact ⟨.ok d, e1, h1, k2, hk2, m, hm, q⟩
  ·exact ⟨.ex C, e, h1, q⟩
 ·rintro ⟨⟨k, hk⟩, r, e, h1, h2⟩
  cases r with
  | ex C => exact ⟨.ex C, e, by unfold sAug; rw [hk, Option.bind_some, h1]; rfl, h2⟩
  | ok d =>
   obtain ⟨k2, hk2, m, hm, q⟩ := h2
   refine ⟨.nx, _, ?_, q⟩
   unfold sAug
   rw [hk, Option.bind_some, h1]
   show ((((strong e)[i]?).join.bind asI).bind _) = _
   rw [hk2, Option.bind_some, hm]
   rfl
theorem ZqG : @Ru _ (sExt i x) en Q = @gd (∃ cs, lstAt en i = some cs) ⟨@Ru _ x en ⟨cO (fun d e => @og _ (lstAt e i) ⟨fun cs => @og _ (asL d) ⟨fun ds => @gd (cs.length + ds.length ≤ 100000) ⟨Q.q .nx (e.set i (some (.node .lst (cs ++ oLeafs ds))))⟩⟩⟩) Q.q⟩⟩ := by
 refine propext ⟨?_, ?_⟩
 ·rintro ⟨r, e, h, q⟩
  obtain ⟨k, hk, h⟩ := bnd h
  refine ⟨⟨k, hk⟩, ?_⟩
  rcases ZF h with ⟨d, e1, h1, h2⟩ | ⟨C, h1, rfl⟩
  ·obtain ⟨cs, hcs, h3⟩ := bnd h2
   obtain ⟨ds, hds, h4⟩ := bnd h3
   split at h4
   case isTrue hl => cases h4; exact ⟨.ok d, e1, h1, cs, hcs, ds, hds, hl, q⟩
   case isFalse => cases h4
  ·exact ⟨.ex C, e, h1, q⟩
 ·rintro ⟨⟨k, hk⟩, r, e, h1, h2⟩
  cases r with
  | ex C => exact ⟨.ex C, e, by unfold sExt; rw [hk, Option.bind_some, h1]; rfl, h2⟩
  | ok d =>
   obtain ⟨cs, hcs, ds, hds, hl, q⟩ := h2
   refine ⟨.nx, _, ?_, q⟩
   unfold sExt
   rw [hk, Option.bind_some, h1]
   show ((lstAt e i).bind _) = _
   rw [hcs, Option.bind_some, hds, Option.bind_some, if_pos hl]
theorem Zog : @Ru _ (sAppN i n) en Q = @gd (∃ cs, lstAt en i = some cs) ⟨@Ru _ n en ⟨cO (fun T e => @og _ (lstAt e i) ⟨fun cs => @gd (cs.length < 100000) ⟨Q.q .nx (e.set i (some (.node .lst (cs ++ [(.no, T)]))))⟩⟩) Q.q⟩⟩ := by
 refine propext ⟨?_, ?_⟩
 ·rintro ⟨r, e, h, q⟩
  obtain ⟨k, hk, h⟩ := bnd h
  refine ⟨⟨k, hk⟩, ?_⟩
  rcases ZF h with ⟨d, e1, h1, h2⟩ | ⟨C, h1, rfl⟩
  ·obtain ⟨cs, hcs, h3⟩ := bnd h2
   split at h3
   case isTrue hl => cases h3; exact ⟨.ok d, e1, h1, cs, hcs, of_decide_eq_true hl, q⟩
   case isFalse => cases h3
  ·exact ⟨.ex C, e, h1, q⟩
 ·rintro ⟨⟨k, hk⟩, r, e, h1, h2⟩
  cases r with
  | ex C => exact ⟨.ex C, e, by unfold sAppN; rw [hk, Option.bind_some, h1]; rfl, h2⟩
  | ok d =>
   obtain ⟨cs, hcs, hl, q⟩ := h2
   refine ⟨.nx, _, ?_, q⟩
   unfold sAppN
   rw [hk, Option.bind_some, h1]
   show ((lstAt e i).bind _) = _
   rw [hcs, Option.bind_some, if_pos (show lenOk cs = true from decide_eq_true hl)]
/-- insert(0, e) -/
theorem ZpF : @Ru _ (sInsP i (xS (wC (.int 0))) xv) en Q = @gd (∃ cs, lstAt en i = some cs) ⟨@Ru _ xv en ⟨cO (fun d e => @og _ (lstAt e i) ⟨fun cs => @gd (cs.length < 100000) ⟨Q.q .nx (e.set i (some (.node .lst ((.no, .leaf d) :: cs))))⟩⟩) Q.q⟩⟩ := by
 have hj : xS (wC (.int 0)) en = some (.ok (.int 0), en) := rfl
 refine propext ⟨?_, ?_⟩
 ·rintro ⟨r, e, h, q⟩
  obtain ⟨k, hk, h⟩ := bnd h
  refine ⟨⟨k, hk⟩, ?_⟩
  rw [hj] at h
  rcases ZF h with ⟨d, e1, h1, h2⟩ | ⟨C, h1, rfl⟩
  ·cases h1
   rcases ZF h2 with ⟨d, e1, h1, h2⟩ | ⟨C, h1, rfl⟩
   ·obtain ⟨cs, hcs, h3⟩ := bnd h2
    obtain ⟨j, hj2, h4⟩ := bnd h3
    cases hj2
    split at h4
    case isTrue hl =>
     cases h4
     exact ⟨.ok d, e1, h1, cs, hcs, of_decide_eq_true hl.2.2, q⟩
    case isFalse => cases h4
   ·exact ⟨.ex C, e, h1, q⟩
  ·cases h1
 ·rintro ⟨⟨k, hk⟩, r, e, h1, h2⟩
  cases r with
  | ex C => exact ⟨.ex C, e, by unfold sInsP; rw [hk, Option.bind_some, hj]; show bs (xv en) _ = _; rw [h1]; rfl, h2⟩
  | ok d =>
   obtain ⟨cs, hcs, hl, q⟩ := h2
   refine ⟨.nx, _, ?_, q⟩
   unfold sInsP
   rw [hk, Option.bind_some, hj]
   show bs (xv en) _ = _
   rw [h1]
   show ((lstAt e i).bind _) = _
   rw [hcs, Option.bind_some]
   show (if (0 : Int) ≤ 0 ∧ (0 : Int) ≤ 100000 ∧ lenOk cs = true then _ else none) = _
   rw [if_pos ⟨by decide, by decide, decide_eq_true hl⟩]
   rfl
theorem Zmb {QT : Ke (Rx (List OT))} : @Ru _ aNilT en QT = QT.q (.ok []) en := propext (ZbA rfl)
theorem ZlV {QT : Ke (Rx (List OT))} {r : FT} : @Ru _ (aConsT n r) en QT = @Ru _ n en ⟨cX (fun T e => @Ru _ r e ⟨cX (fun Ts e => QT.q (.ok (T :: Ts)) e) QT.q⟩) QT.q⟩ := by
 refine (propext ZK).trans ?_
 show Wp n en _ = Wp n en _
 congr 2
 funext T e
 refine (propext ZK).trans ?_
 show Wp r e _ = Wp r e _
 congr 2
 funext Ts e
 exact propext (Zaq (f := fun _ => Rx.ok (T :: Ts)) (g := fun e => e))
theorem Zmm {a : FT} : @Ru _ (nLstT a) en QN = @Ru _ a en ⟨cX (fun Ts e => @gd (Ts.length ≤ 100000) ⟨QN.q (.ok (.node .lst (Ts.map fun T => (Lab.no, T)))) e⟩) QN.q⟩ := by
 refine (propext ZK).trans ?_
 show Wp a en _ = Wp a en _
 congr 2
 funext Ts e
 refine propext ?_
 constructor
 ·rintro ⟨r, e', h, q⟩
  dsimp only at h
  split at h
  ·cases h; rename_i hl; exact ⟨hl, q⟩
  ·cases h
 ·rintro ⟨hl, q⟩
  exact ⟨_, _, by dsimp only; rw [if_pos hl], q⟩
theorem ZqI {ρ : DE} {a : FW} {QA : Kt (List PyData)} : @og _ (itQ a ρ) QA = @og _ (a ρ) ⟨fun x => @og _ (asQ x) QA⟩ := Zn
theorem Zsz (ds : List PyData) : asQ (.list ds) = some ds := id rfl
theorem ZsA (ds : List PyData) : asQ (.tuple ds) = some ds := id rfl
end
end Kb
namespace Kb
open PySem L2 Evl
theorem ZjD {a b : String} : (Str.ofString a = Str.ofString b) = (a = b) := by
 refine propext ⟨fun h => ?_, fun h => by rw [h]⟩
 rw [Str.ofString_eq_toList, Str.ofString_eq_toList] at h
 injection h with h
 have h := congrArg Array.toList h
 simp only at h
 have : a.toList = b.toList := by
  have inj : ∀ {l m : List Char}, l.map Char.toNat = m.map Char.toNat → l = m := by
   intro l
   induction l with
   | nil => intro m h; cases m with
    | nil => rfl
    | cons => cases h
   | cons c l ih =>
    intro m h
    cases m with
    | nil => cases h
    | cons e m =>
     rw [List.map_cons, List.map_cons] at h
     injection h with h1 h2
     rw [ih h2, Char.toNat_inj.mp h1]
  exact inj h
 exact String.toList_inj.mp this
section
variable {en : En} {Q : Ke Ot} {QX : Ke (Rx PyData)} {QN : Ke (Rx OT)} {x xi xv : FX} {n : FN} {i : Nat} {A it : FA} {C : Addr} {f : Str} {w : FW} {pl : FP} {fd : FD}
theorem ZpG {cs : List (Lab × OT)} {l : En} : insAt (some (.node (.ins C) cs) :: l) 0 C = some cs := by
 show (if C = C then some cs else none) = _
 rw [if_pos rfl]
theorem Zpj {o : Option OT} {l : En} {k : Nat} : insAt (o :: l) (k + 1) C = insAt l k C := id rfl
theorem ZqD {T : OT} : putT f T [] = [(.fld f, T)] := id rfl
theorem ZqK {T X : OT} {g : Str} {r : List (Lab × OT)} : putT f T ((.fld g, X) :: r) = if g = f then (.fld g, T) :: r else (.fld g, X) :: putT f T r := id rfl
theorem ZpR : @Ru _ (sSetF C f i x) en Q = @Ru _ x en ⟨cO (fun d e => @og _ (insAt e i C) ⟨fun cs => @gd (cs.length < 1000) ⟨Q.q .nx (e.set i (some (.node (.ins C) (putT f (.leaf d) cs))))⟩⟩) Q.q⟩ := by
 refine propext ⟨?_, ?_⟩
 ·rintro ⟨r, e, h, q⟩
  rcases ZF h with ⟨d, e1, h1, h2⟩ | ⟨C', h1, rfl⟩
  ·obtain ⟨cs, hcs, h3⟩ := bnd h2
   split at h3
   case isTrue hl => cases h3; exact ⟨.ok d, e1, h1, cs, hcs, hl, q⟩
   case isFalse => cases h3
  ·exact ⟨.ex C', e, h1, q⟩
 ·rintro ⟨r, e, h1, h2⟩
  cases r with
  | ex C' => exact ⟨.ex C', e, by unfold sSetF; rw [h1]; rfl, h2⟩
  | ok d =>
   obtain ⟨cs, hcs, hl, q⟩ := h2
   refine ⟨.nx, _, ?_, q⟩
   unfold sSetF
   rw [h1]
   show ((insAt e i C).bind _) = _
   rw [hcs, Option.bind_some, if_pos hl]
theorem Zm7 : @Ru _ (sSetFN C f i n) en Q = @Ru _ n en ⟨cO (fun T e => @og _ (insAt e i C) ⟨fun cs => @gd (cs.length < 1000) ⟨Q.q .nx (e.set i (some (.node (.ins C) (putT f T cs))))⟩⟩) Q.q⟩ := by
 refine propext ⟨?_, ?_⟩
 ·rintro ⟨r, e, h, q⟩
  rcases ZF h with ⟨d, e1, h1, h2⟩ | ⟨C', h1, rfl⟩
  ·obtain ⟨cs, hcs, h3⟩ := bnd h2
   split at h3
   case isTrue hl => cases h3; exact ⟨.ok d, e1, h1, cs, hcs, hl, q⟩
   case isFalse => cases h3
  ·exact ⟨.ex C', e, h1, q⟩
 ·rintro ⟨r, e, h1, h2⟩
  cases r with
  | ex C' => exact ⟨.ex C', e, by unfold sSetFN; rw [h1]; rfl, h2⟩
  | ok d =>
   obtain ⟨cs, hcs, hl, q⟩ := h2
   refine ⟨.nx, _, ?_, q⟩
   unfold sSetFN
   rw [h1]
   show ((insAt e i C).bind _) = _
   rw [hcs, Option.bind_some, if_pos hl]
/-- C(e, ..) -/
noncomputable def kNew (Q : Rx OT → Prop) : Rx OT × List OT → Prop
 | (.ok (.leaf .none), T :: _) => Q (.ok T)
 | (.ex c, _ :: _) => Q (.ex c)
 | _ => False
theorem ZnE {Q : Rx OT → Prop} {T : OT} {r : List OT} : kNew Q (.ok (.leaf .none), T :: r) = Q (.ok T) := id rfl
theorem Zo0 {Q : Rx OT → Prop} {c : Addr} {T : OT} {r : List OT} : kNew Q (.ex c, T :: r) = Q (.ex c) := id rfl
theorem Zp1 : @Ru _ (nNew C fd A) en QN = @Ru _ A en ⟨cX (fun ds e => @og _ (fd (.node (.ins C) [] :: ds.map OT.leaf)) ⟨kNew fun r => QN.q r e⟩) QN.q⟩ := by
 refine (propext ZK).trans ?_
 show Wp A en _ = Wp A en _
 congr 2
 funext ds e
 refine propext ⟨?_, ?_⟩
 ·rintro ⟨r, e', h, q⟩
  obtain ⟨⟨r1, as⟩, hf, h2⟩ := bnd h
  refine ⟨(r1, as), hf, ?_⟩
  split at h2
  ·rename_i hq; cases hq; cases h2; exact q
  ·rename_i hq; cases hq; cases h2; exact q
  ·cases h2
 ·rintro ⟨⟨r1, as⟩, hf, q⟩
  dsimp only at hf q
  have un : ∀ o, (match (r1, as) with
   | (.ok (.leaf .none), T :: _) => some (Rx.ok T, e)
   | (.ex c, _ :: _) => some (.ex c, e)
   | _ => none) = some o → ((fd (.node (.ins C) [] :: ds.map OT.leaf)).bind fun q => match q with
   | (.ok (.leaf .none), T :: _) => some (Rx.ok T, e)
   | (.ex c, _ :: _) => some (.ex c, e)
   | _ => none) = some o := fun o ho => by rw [hf]; exact ho
  cases r1 with
  | ex c =>
   cases as with
   | nil => exact q.elim
   | cons T r => exact ⟨.ex c, e, un _ rfl, q⟩
  | ok R =>
   cases R with
   | node k cs => exact q.elim
   | leaf d =>
    cases d with
    | none =>
     cases as with
     | nil => exact q.elim
     | cons T r => exact ⟨.ok T, e, un _ rfl, q⟩
    | _ => exact q.elim
theorem ZrY {QP : Kt (Nat × List Nat)} : @og _ (pV i en) QP = @og _ (en[i]?.join) ⟨fun _ => QP.q (i, [])⟩ := by
 refine propext ⟨?_, ?_⟩
 ·rintro ⟨p, h, q⟩
  obtain ⟨S, hS, h2⟩ := Option.map_eq_some_iff.mp h
  obtain ⟨T, hT, _⟩ := bnd hS
  cases h2
  exact ⟨T, hT, q⟩
 ·rintro ⟨T, hT, q⟩
  refine ⟨_, ?_, q⟩
  unfold pV subE
  rw [hT]
  cases T <;> rfl
noncomputable def kIns (C : Addr) (Q : List (Lab × OT) → Prop) : OT → Prop
 | .node (.ins C') cs => C' = C ∧ Q cs
 | _ => False
theorem Zn4 {Q : List (Lab × OT) → Prop} {cs : List (Lab × OT)} : kIns C Q (.node (.ins C) cs) = Q cs := propext ⟨fun h => h.2, fun h => ⟨rfl, h⟩⟩
noncomputable def kLst (Q : List (Lab × OT) → Prop) : OT → Prop
 | .node .lst cs => Q cs
 | _ => False
theorem ZnK {Q : List (Lab × OT) → Prop} {cs : List (Lab × OT)} : kLst Q (.node .lst cs) = Q cs := id rfl
theorem Zqt {Q : List (Lab × OT) → Prop} {ds : List PyData} : kLst Q (lstT ds) = Q (oLeafs ds) := id rfl
theorem ZsY {QP : Kt (Nat × List Nat)} : @og _ (pF C f pl en) QP = @og _ (pl en) ⟨fun q => @og _ (subE en q.1 q.2) ⟨kIns C fun cs => @og _ (idxF f cs) ⟨fun j => QP.q (q.1, q.2 ++ [j])⟩⟩⟩ := by
 refine propext ⟨?_, ?_⟩
 ·rintro ⟨p, h, qq⟩
  obtain ⟨q, h1, h⟩ := bnd h
  obtain ⟨S, h2, h⟩ := bnd h
  refine ⟨q, h1, S, h2, ?_⟩
  split at h
  ·split at h
   ·rename_i hc
    obtain ⟨j, hj, h3⟩ := Option.map_eq_some_iff.mp h
    cases h3
    exact ⟨hc, j, hj, qq⟩
   ·cases h
  ·cases h
 ·rintro ⟨q, h1, S, h2, h3⟩
  unfold pF
  rw [h1, Option.bind_some, h2, Option.bind_some]
  cases S with
  | leaf d => exact h3.elim
  | node k cs =>
   cases k with
   | ins C' =>
    obtain ⟨hc, j, hj, qq⟩ := h3
    refine ⟨_, ?_, qq⟩
    dsimp only
    rw [if_pos hc, hj]
    rfl
   | _ => exact h3.elim
theorem ZsX {QP : Kt (Nat × List Nat)} : @og _ (pI pl w en) QP = @og _ (w (strong en)) ⟨fun d => @og _ (asI d) ⟨fun j => @og _ (pl en) ⟨fun q => @og _ (subE en q.1 q.2) ⟨kLst fun cs => @og _ (L2.ixN cs.length j) ⟨fun n => QP.q (q.1, q.2 ++ [n])⟩⟩⟩⟩⟩ := by
 refine propext ⟨?_, ?_⟩
 ·rintro ⟨p, h, qq⟩
  obtain ⟨d, h0, h⟩ := bnd h
  obtain ⟨j, hj, h⟩ := bnd h
  obtain ⟨q, h1, h⟩ := bnd h
  obtain ⟨S, h2, h⟩ := bnd h
  refine ⟨d, h0, j, hj, q, h1, S, h2, ?_⟩
  split at h
  ·obtain ⟨n, hn, h3⟩ := Option.map_eq_some_iff.mp h
   cases h3
   exact ⟨n, hn, qq⟩
  ·cases h
 ·rintro ⟨d, h0, j, hj, q, h1, S, h2, h3⟩
  unfold pI
  rw [h0, Option.bind_some, hj, Option.bind_some, h1, Option.bind_some, h2, Option.bind_some]
  cases S with
  | leaf d => exact h3.elim
  | node k cs =>
   cases k with
   | lst =>
    obtain ⟨n, hn, qq⟩ := h3
    refine ⟨_, ?_, qq⟩
    dsimp only
    rw [hn]
    rfl
   | _ => exact h3.elim
theorem ZpH {p : List Nat} {QT : Kt OT} : @og _ (subE en i p) QT = @og _ (en[i]?.join) ⟨fun T => @og _ (T.sub p) QT⟩ := Zn
theorem Zku {T : OT} : T.sub [] = some T := by cases T <;> rfl
theorem Zr0 {k : Kd} {cs : List (Lab × OT)} {j : Nat} {p : List Nat} : (OT.node k cs).sub (j :: p) = (cs[j]?).bind fun x => x.2.sub p := id rfl
theorem Zsn {T S : OT} : T.put [] S = S := by cases T <;> rfl
theorem ZsG {k : Kd} {cs : List (Lab × OT)} {j : Nat} {p : List Nat} {S : OT} : (OT.node k cs).put (j :: p) S = .node k (cs.modify j fun x => (x.1, x.2.put p S)) := id rfl
theorem ZsP {α : Type} {a : α} {l : List α} {g : α → α} : (a :: l).modify 0 g = g a :: l := id rfl
theorem Zsl {α : Type} {a : α} {l : List α} {g : α → α} {j : Nat} : (a :: l).modify (j + 1) g = a :: l.modify j g := id rfl
theorem Zq7 {α : Type} {g : Str} {X : α} {r : List (Lab × α)} : idxF f ((.fld g, X) :: r) = if f = g then some 0 else (idxF f r).map (· + 1) := id rfl
theorem ZpE : @Ru _ (sAppP pl w) en Q = @og _ (w (strong en)) ⟨fun d => @og _ (pl en) ⟨fun q => @og _ (en[q.1]?.join) ⟨fun T => @og _ (T.sub q.2) ⟨kLst fun cs => @gd (cs.length < 100000) ⟨Q.q .nx (en.set q.1 (some (T.put q.2 (.node .lst (cs ++ [(.no, .leaf d)])))))⟩⟩⟩⟩⟩ := by
 refine propext ⟨?_, ?_⟩
 ·rintro ⟨r, e, h, qq⟩
  obtain ⟨d, h0, h⟩ := bnd h
  obtain ⟨q, h1, h⟩ := bnd h
  obtain ⟨T, h2, h⟩ := bnd h
  obtain ⟨S, h3, h⟩ := bnd h
  refine ⟨d, h0, q, h1, T, h2, S, h3, ?_⟩
  split at h
  ·split at h
   case isTrue hl => cases h; exact ⟨of_decide_eq_true hl, qq⟩
   case isFalse => cases h
  ·cases h
 ·rintro ⟨d, h0, q, h1, T, h2, S, h3, h4⟩
  cases S with
  | leaf d => exact h4.elim
  | node k cs =>
   cases k with
   | lst =>
    obtain ⟨hl, qq⟩ := h4
    refine ⟨.nx, _, ?_, qq⟩
    unfold sAppP
    rw [h0, Option.bind_some, h1, Option.bind_some, h2, Option.bind_some, h3, Option.bind_some]
    dsimp only
    rw [if_pos (show lenOk cs = true from decide_eq_true hl)]
   | _ => exact h4.elim
noncomputable def lookT (f : Str) : List (Lab × OT) → Option OT
 | [] => none
 | (l, T) :: r => if f = l.f then some T else lookT f r
theorem ZpB {g : Str} {T : OT} {r : List (Lab × OT)} : lookT f ((.fld g, T) :: r) = if f = g then some T else lookT f r := id rfl
theorem Zhk (f : Str) : ∀ cs : List (Lab × OT), lookD f ((cs.map fun x => PyData.str x.1.f).zip (OT.datas cs)) = (lookT f cs).map OT.data
 | [] => rfl
 | (l, T) :: r => by
  rw [OT.datas, List.map_cons, List.zip_cons_cons, lookD, lookT, Zhk f r]
  split <;> rfl
theorem ZpK {cs : List (Lab × OT)} : oFld C f (OT.node (.ins C) cs).data = (lookT f cs).map OT.data := by
 rw [OT.data]
 show (if ((C : Nat) : Int) = ((C : Nat) : Int) then lookD f ((cs.map fun x => PyData.str x.1.f).zip (OT.datas cs)) else none) = _
 rw [if_pos rfl, Zhk]
end
end Kb
namespace Kb
open PySem L2 Evl
section
variable {en : En} {Q : Ke Ot} {QN : Ke (Rx OT)} {QA : Ke (Rx (List PyData))} {A : FA} {n : FN} {i j : Nat}
theorem ZlB {f : List PyData → Option OT} : @Ru _ (nCallO f A) en QN = @Ru _ A en ⟨cX (fun xs e => @og _ (f xs) ⟨fun T => QN.q (.ok T) e⟩) QN.q⟩ := by
 refine propext (ZK.trans ?_)
 have : ∀ xs e, Wp (fun e1 => okx e1 (f xs)) e QN.q ↔ @og _ (f xs) ⟨fun T => QN.q (.ok T) e⟩ := fun xs e => ZU (f := fun _ => f xs)
 simp only [this]
 rfl
theorem Zkq {f : List PyData → Option (Rx OT)} : @Ru _ (nCallXO f A) en QN = @Ru _ A en ⟨cX (fun xs e => @og _ (f xs) ⟨fun r => QN.q r e⟩) QN.q⟩ := by
 refine propext (ZK.trans ?_)
 have : ∀ xs e, Wp (fun e1 => (f xs).map fun r => (r, e1)) e QN.q ↔ @og _ (f xs) ⟨fun r => QN.q r e⟩ := fun xs e => ⟨fun ⟨a, e', h, q⟩ => by
  obtain ⟨r, h1, h2⟩ := Option.map_eq_some_iff.mp h
  cases h2
  exact ⟨_, h1, q⟩, fun ⟨r, h, q⟩ => ⟨r, e, by rw [h]; rfl, q⟩⟩
 simp only [this]
 rfl
noncomputable def kidT : OT → Nat → Option OT
 | .node .tup cs, j => (cs[j]?).map Prod.snd
 | _, _ => none
theorem Zoz {cs : List (Lab × OT)} : kidT (.node .tup cs) j = (cs[j]?).map Prod.snd := id rfl
theorem ZnZ : @Ru _ (nIxT n j) en QN = @Ru _ n en ⟨cX (fun T e => @og _ (kidT T j) ⟨fun U => QN.q (.ok U) e⟩) QN.q⟩ := by
 have e0 : nIxT n j = fun en => bx (n en) fun T e1 => (kidT T j).map fun U => (Rx.ok U, e1) := by
  funext en
  unfold nIxT
  congr 1
  funext T e1
  cases T with
  | leaf d => rfl
  | node k cs => cases k <;> rfl
 rw [e0]
 refine propext (ZK.trans ?_)
 have : ∀ (T : OT) e, Wp (fun e1 => (kidT T j).map fun U => (Rx.ok U, e1)) e QN.q ↔ @og _ (kidT T j) ⟨fun U => QN.q (.ok U) e⟩ := fun T e => ZU (f := fun _ => kidT T j)
 simp only [this]
 rfl
theorem Zm5 : @Ru _ (sInsN i (xS (wC (.int 0))) n) en Q = @gd (∃ cs, lstAt en i = some cs) ⟨@Ru _ n en ⟨cO (fun T e => @og _ (lstAt e i) ⟨fun cs => @gd (cs.length < 100000) ⟨Q.q .nx (e.set i (some (.node .lst ((.no, T) :: cs))))⟩⟩) Q.q⟩⟩ := by
 have hj : xS (wC (.int 0)) en = some (.ok (.int 0), en) := rfl
 refine propext ⟨?_, ?_⟩
 ·rintro ⟨r, e, h, q⟩
  obtain ⟨k, hk, h⟩ := bnd h
  refine ⟨⟨k, hk⟩, ?_⟩
  rw [hj] at h
  rcases ZF h with ⟨d, e1, h1, h2⟩ | ⟨C, h1, rfl⟩
  ·cases h1
   rcases ZF h2 with ⟨d, e1, h1, h2⟩ | ⟨C, h1, rfl⟩
   ·obtain ⟨cs, hcs, h3⟩ := bnd h2
    obtain ⟨j, hj2, h4⟩ := bnd h3
    cases hj2
    split at h4
    case isTrue hl =>
     cases h4
     exact ⟨.ok d, e1, h1, cs, hcs, of_decide_eq_true hl.2.2, q⟩
    case isFalse => cases h4
   ·exact ⟨.ex C, e, h1, q⟩
  ·cases h1
 ·rintro ⟨⟨k, hk⟩, r, e, h1, h2⟩
  cases r with
  | ex C => exact ⟨.ex C, e, by unfold sInsN; rw [hk, Option.bind_some, hj]; show bs (n en) _ = _; rw [h1]; rfl, h2⟩
  | ok d =>
   obtain ⟨cs, hcs, hl, q⟩ := h2
   refine ⟨.nx, _, ?_, q⟩
   unfold sInsN
   rw [hk, Option.bind_some, hj]
   show bs (n en) _ = _
   rw [h1]
   show ((lstAt e i).bind _) = _
   rw [hcs, Option.bind_some]
   show (if (0 : Int) ≤ 0 ∧ (0 : Int) ≤ 100000 ∧ lenOk cs = true then _ else none) = _
   rw [if_pos ⟨by decide, by decide, decide_eq_true hl⟩]
   rfl
theorem Zti : @Ru _ (sAsgMv i j) en Q = @og _ (en[j]?.join) ⟨fun T => Q.q .nx ((en.set j none).set i (some (.node .lst [(Lab.no, T)])))⟩ := propext ⟨fun ⟨a, e', h, q⟩ => by
  obtain ⟨T, h1, h2⟩ := Option.map_eq_some_iff.mp h
  cases h2
  exact ⟨T, h1, q⟩, fun ⟨T, h, q⟩ => ⟨_, _, by unfold sAsgMv; rw [h]; rfl, q⟩⟩
theorem Zou : @Ru _ (aOwn i A) en QA = @gd (∃ T, en[i]?.join = some T) ⟨@Ru _ A en QA⟩ := propext ⟨fun ⟨a, e', h, q⟩ => by
  obtain ⟨T, h1, h2⟩ := bnd h
  exact ⟨⟨T, h1⟩, a, e', h2, q⟩, fun ⟨⟨T, h⟩, a, e', h2, q⟩ => ⟨a, e', by unfold aOwn; rw [h]; exact h2, q⟩⟩
theorem ZmW {m : List Bool} {f : FD} {is : List Nat} : @Ru _ (nCallI (prm m f) is A) en QN = @gd (∃ r, pullE is en = some r) ⟨@Ru _ A en ⟨cX (fun ds e => @og _ (pullE is e) ⟨fun r => @og _ (prm m f (r.1 ++ ds.map OT.leaf)) ⟨kI fun R as => QN.q R (putE is as r.2)⟩⟩) QN.q⟩⟩ := by
 refine propext ⟨?_, ?_⟩
 ·rintro ⟨a, e', h, q⟩
  obtain ⟨r0, h0, h⟩ := bnd h
  refine ⟨⟨r0, h0⟩, ?_⟩
  rcases Zu h with ⟨ds, e1, h1, h2⟩ | ⟨C, h1, rfl⟩
  ·refine ⟨.ok ds, e1, h1, ?_⟩
   obtain ⟨r, h3, h4⟩ := bnd h2
   obtain ⟨⟨R, as⟩, h5, h6⟩ := bnd h4
   refine ⟨r, h3, (R, as), h5, ?_⟩
   cases R <;> (cases h6; exact q)
  ·exact ⟨.ex C, e', h1, q⟩
 ·rintro ⟨⟨r0, h0⟩, r, e, h1, h2⟩
  cases r with
  | ex C => exact ⟨.ex C, e, by unfold nCallI; rw [h0, Option.bind_some, h1]; rfl, h2⟩
  | ok ds =>
   obtain ⟨r, h3, ⟨R, as⟩, h5, q⟩ := h2
   refine ⟨R, putE is as r.2, ?_, q⟩
   unfold nCallI
   rw [h0, Option.bind_some, h1]
   show (pullE is e).bind _ = _
   rw [h3, Option.bind_some, h5, Option.bind_some]
   cases R <;> rfl
theorem ZmG {is : List Nat} {K : Kt (List OT × En)} : @og _ (pullE (i :: is) en) K = @og _ (en[i]?.join) ⟨fun T => @og _ (pullE is (en.set i none)) ⟨fun r => K.q (T :: r.1, r.2)⟩⟩ := by
 show @og _ (((en[i]?).join).bind fun T => (pullE is (en.set i none)).map fun r => (T :: r.1, r.2)) K = _
 rw [Zn]
 congr 1
 congr 1
 funext T
 exact ZaU
theorem Zno {K : Kt (List OT × En)} : @og _ (pullE [] en) K = K.q ([], en) := ZG
theorem Zp6 {m : List Bool} {f : FD} {as : List OT} {K : Kt (Rx OT × List OT)} : @og _ (prm m f as) K = @gd (as.length = m.length) ⟨@og _ (f (wvM m (as.take (m.count true)) (as.drop (m.count true)))) ⟨kI fun R bs => K.q (R, uoM m bs ++ utM m bs)⟩⟩ := by
 unfold prm
 rw [Zbi, ZaU]
 rfl
theorem ZqB {f : FD} {as : List OT} {K : Kt (Rx OT × List OT)} : @og _ (noX f as) K = @og _ (f as) ⟨kN fun R bs => K.q (.ok R, bs)⟩ := by
 refine propext ⟨?_, ?_⟩
 ·rintro ⟨⟨R, bs⟩, h, q⟩
  obtain ⟨h1, T, rfl⟩ := ZbR h
  exact ⟨_, h1, q⟩
 ·rintro ⟨⟨R, bs⟩, h, q⟩
  cases R with
  | ok R => exact ⟨_, by unfold noX; rw [h]; rfl, q⟩
  | ex C => exact q.elim
section
variable {QM : Ke (Rx (List Itm))} {r : FM}
theorem ZmX : @Ru _ aNilM en QM = QM.q (.ok []) en := propext (ZbA rfl)
theorem Zlf : @Ru _ (aConsV i r) en QM = @gd (∃ T, en[i]?.join = some T) ⟨@Ru _ r en ⟨cX (fun Ts e => QM.q (.ok (.m i :: Ts)) e) QM.q⟩⟩ := propext ⟨fun ⟨a, e', h, q⟩ => by
  obtain ⟨T, h1, h2⟩ := bnd h
  refine ⟨⟨T, h1⟩, ?_⟩
  rcases Zu h2 with ⟨x, e1, h3, h4⟩ | ⟨C, h3, rfl⟩
  ·cases h4; exact ⟨_, _, h3, q⟩
  ·exact ⟨.ex C, e', h3, q⟩, fun ⟨⟨T, h⟩, a, e', h2, q⟩ => by
  cases a with
  | ok x => exact ⟨.ok (.m i :: x), e', by unfold aConsV; rw [h, Option.bind_some, h2]; rfl, q⟩
  | ex C => exact ⟨.ex C, e', by unfold aConsV; rw [h, Option.bind_some, h2]; rfl, q⟩⟩
theorem Zm4 {kp : Nat → Bool} {k : Kd} : @Ru _ (sRetMk kp k r) en Q = @Ru _ r en ⟨cO (fun its e => @gd (keptOk kp its = true) ⟨@og _ (mkIts its e) ⟨fun q => @gd (q.1.length ≤ 100000) ⟨Q.q (.rt (.node k (q.1.map fun T => (Lab.no, T)))) q.2⟩⟩⟩) Q.q⟩ := by
 refine propext ⟨?_, ?_⟩
 ·rintro ⟨o, e, h, q⟩
  rcases ZF h with ⟨its, e1, h1, h2⟩ | ⟨C, h1, rfl⟩
  ·refine ⟨.ok its, e1, h1, ?_⟩
   split at h2
   case isFalse => cases h2
   rename_i hk
   obtain ⟨p, hp, h3⟩ := bnd h2
   split at h3
   case isFalse => cases h3
   rename_i hl
   cases h3
   exact ⟨hk, p, hp, hl, q⟩
  ·exact ⟨.ex C, e, h1, q⟩
 ·rintro ⟨a, e, h, q⟩
  cases a with
  | ex C => exact ⟨.ex C, e, by unfold sRetMk; rw [h]; rfl, q⟩
  | ok its =>
   obtain ⟨hk, p, hp, hl, q⟩ := q
   refine ⟨_, _, ?_, q⟩
   unfold sRetMk
   rw [h]
   show (if keptOk kp its = true then (mkIts its e).bind _ else none) = _
   rw [if_pos hk, hp, Option.bind_some, if_pos hl]
theorem Zqj {K : Kt (List OT × En)} : @og _ (mkIts [] en) K = K.q ([], en) := ZG
theorem ZqX {its : List Itm} {K : Kt (List OT × En)} : @og _ (mkIts (.m i :: its) en) K = @og _ (en[i]?.join) ⟨fun T => @og _ (mkIts its (en.set i none)) ⟨fun q => K.q (T :: q.1, q.2)⟩⟩ := by
 show @og _ (((en[i]?).join).bind fun T => (mkIts its (en.set i none)).map fun q => (T :: q.1, q.2)) K = _
 rw [Zn]
 congr 1
 congr 1
 funext T
 exact ZaU
end
end
noncomputable def retO2 (T0 : OT) : Ot → En → Prop
 | .rt T, _ => T = T0 ∧ T0.deep = true
 | _, _ => False
theorem ZmD {T0 T : OT} {e : En} : retO2 T0 (.rt T) e = (T = T0 ∧ T0.deep = true) := id rfl
noncomputable def retXO (r : Rx OT) : Ot → En → Prop
 | .rt T, _ => r = .ok T ∧ T.deep = true
 | .ex C, _ => r = .ex C
 | _, _ => False
theorem Zmx {r : Rx OT} {T : OT} {e : En} : retXO r (.rt T) e = (r = .ok T ∧ T.deep = true) := id rfl
theorem Znb {r : Rx OT} {C : Addr} {e : En} : retXO r (.ex C) e = (r = .ex C) := id rfl
/-- what a def left of what it was handed -/
noncomputable def retM (kp : Nat → Bool) (as : List OT) (r : Rx OT) (as' : List OT) : Ot → En → Prop
 | .rt T, e => r = .ok T ∧ takeA kp as e = some as'
 | .nx, e => r = .ok (.leaf .none) ∧ takeA kp as e = some as'
 | .ex C, e => r = .ex C ∧ takeA kp as e = some as'
 | _, _ => False
theorem Zpu {kp : Nat → Bool} {as as' : List OT} {r : Rx OT} {T : OT} {e : En} : retM kp as r as' (.rt T) e = (r = .ok T ∧ takeA kp as e = some as') := id rfl
theorem ZnT {kp : Nat → Bool} {as as' : List OT} {r : Rx OT} {e : En} : retM kp as r as' .nx e = (r = .ok (.leaf .none) ∧ takeA kp as e = some as') := id rfl
theorem ZnI {kp : Nat → Bool} {as as' : List OT} {r : Rx OT} {C : Addr} {e : En} : retM kp as r as' (.ex C) e = (r = .ex C ∧ takeA kp as e = some as') := id rfl
theorem Zrr {np n : Nat} {kp : Nat → Bool} {s : FS} {as as' : List OT} {r : Rx OT} (h : @Ru _ s (start0 n as) ⟨retM kp as r as'⟩) (hl : as.length = np := by rfl) : fnI np n kp s as = some (r, as') := by
 obtain ⟨o, e, h1, h2⟩ := h
 unfold fnI
 rw [if_pos hl, h1]
 cases o with
 | rt T => obtain ⟨rfl, h3⟩ := h2; show (takeA kp as e).map _ = _; rw [h3]; rfl
 | nx => obtain ⟨rfl, h3⟩ := h2; show (takeA kp as e).map _ = _; rw [h3]; rfl
 | ex C => obtain ⟨rfl, h3⟩ := h2; show (takeA kp as e).map _ = _; rw [h3]; rfl
 | _ => exact h2.elim
end Kb
namespace Kb
open PySem L2 Evl
section
variable {en : En} {Q : Ke Ot} {QX : Ke (Rx PyData)} {QN : Ke (Rx OT)} {QI : Ke (Rx (Option Int))} {A : FA} {n : FN} {i j : Nat} {x a : FX} {w : FW} {pl : FP} {C : Addr} {m : Str}
theorem Zkr {α β : Type} {o : En → Option α} {f : α → En → Option (β × En)} {Qb : Ke β} : @Ru _ (fun e => (o e).bind fun y => f y e) en Qb = @og _ (o en) ⟨fun y => @Ru _ (f y) en Qb⟩ := propext ⟨fun ⟨b, e', h, q⟩ => by
  obtain ⟨y, h1, h2⟩ := bnd h
  exact ⟨y, h1, b, e', h2, q⟩, fun ⟨y, h, b, e', h2, q⟩ => ⟨b, e', by show (o en).bind _ = _; rw [h]; exact h2, q⟩⟩
theorem Zsm {α : Type} {f : En → Option α} {Qa : Ke (Rx α)} : @Ru _ (fun e => (f e).map fun d => (Rx.ok d, e)) en Qa = @og _ (f en) ⟨fun d => Qa.q (.ok d) en⟩ := propext ZU
theorem ZgE {α β : Type} {g : En → Option (Rx α × En)} {f : α → En → Option (Rx β × En)} {Qb : Ke (Rx β)} : @Ru _ (fun e => bx (g e) f) en Qb = @Ru _ g en ⟨cX (fun y e => @Ru _ (f y) e Qb) Qb.q⟩ := propext ZK
theorem Zsa {α : Type} {g : En → Option (Rx α × En)} {f : α → En → Option (Ot × En)} : @Ru _ (fun e => bs (g e) f) en Q = @Ru _ g en ⟨cO (fun y e => @Ru _ (f y) e Q) Q.q⟩ := propext ZcD
theorem Zrp : @Ru _ (nAsk C m i n) en QN = @gd (insNo en i C m = true) ⟨@Ru _ n en QN⟩ := by
 refine propext ⟨fun ⟨a, e', h, q⟩ => ?_, fun ⟨h0, a, e', h, q⟩ => ⟨a, e', by unfold nAsk; rw [if_pos h0]; exact h, q⟩⟩
 unfold nAsk at h
 split at h
 ·exact ⟨by assumption, a, e', h, q⟩
 ·cases h
theorem Zpg {cs : List (Lab × OT)} {l : En} : insNo (some (.node (.ins C) cs) :: l) 0 C m = noF m cs := by
 show (decide (C = C) && noF m cs) = _
 simp
theorem ZnY {o : Option OT} {l : En} : insNo (o :: l) (j + 1) C m = insNo l j C m := id rfl
theorem Zsg : noF m [] = true := id rfl
theorem ZsJ {g : Str} {X : OT} {r : List (Lab × OT)} : noF m ((.fld g, X) :: r) = if m = g then false else noF m r := id rfl
theorem Znz : @Ru _ (xP pl) en QX = @og _ (pl en) ⟨fun q => @og _ (subE en q.1 q.2) ⟨fun S => @og _ (leafD S) ⟨fun d => QX.q (.ok d) en⟩⟩⟩ := by
 refine (Zkr (o := pl) (f := fun q en => (subE en q.1 q.2).bind fun S => (leafD S).map fun d => (Rx.ok d, en))).trans ?_
 congr 2
 funext q
 refine (Zkr (o := fun en => subE en q.1 q.2) (f := fun S en => (leafD S).map fun d => (Rx.ok d, en))).trans ?_
 congr 2
 funext S
 exact Zsm (f := fun _ => leafD S)
noncomputable def kDct (Q : List (Lab × OT) → Prop) : OT → Prop
 | .node .dct cs => Q cs
 | _ => False
theorem Zo7 {Q : List (Lab × OT) → Prop} {cs : List (Lab × OT)} : kDct Q (.node .dct cs) = Q cs := id rfl
/-- what stands at a key -/
noncomputable def valT (k : Key) (cs : List (Lab × OT)) : Option PyData := (idxK k cs).bind fun n => (cs[n]?).bind fun c => leafD c.2
/-- place[w], read -/
theorem Zp8 : @Ru _ (xP (pD pl w)) en QX = @og _ (w (strong en)) ⟨fun d => @og _ (keyOf d) ⟨fun k => @og _ (pl en) ⟨fun q => @og _ (subE en q.1 q.2) ⟨kDct fun cs => @og _ (valT k cs) ⟨fun d => QX.q (.ok d) en⟩⟩⟩⟩⟩ := by
 rw [Znz]
 refine propext ⟨?_, ?_⟩
 ·rintro ⟨q, h, S, h2, d, h3, qq⟩
  obtain ⟨dk, h4, h⟩ := bnd h
  obtain ⟨k, h5, h⟩ := bnd h
  obtain ⟨q0, h6, h⟩ := bnd h
  obtain ⟨S0, h7, h⟩ := bnd h
  split at h
  case h_2 => cases h
  rename_i cs
  obtain ⟨n, h8, h9⟩ := Option.map_eq_some_iff.mp h
  cases h9
  refine ⟨dk, h4, k, h5, q0, h6, _, h7, d, ?_, qq⟩
  unfold valT
  rw [h8, Option.bind_some]
  obtain ⟨T, hT, h7⟩ := bnd h7
  obtain ⟨T', hT', h2⟩ := bnd h2
  have : T' = T := by rw [hT] at hT'; cases hT'; rfl
  subst this
  have e : ∀ {p q : List Nat} {t s : OT}, t.sub p = some s → t.sub (p ++ q) = s.sub q := by
   intro p
   induction p with
   | nil => intro q t s h; cases t <;> (cases h; rfl)
   | cons i p ih =>
    intro q t s h
    cases t with
    | leaf d => cases h
    | node k cs =>
     have h : ((cs[i]?).bind fun x => x.2.sub p) = some s := h
     obtain ⟨x, hx, h⟩ := bnd h
     show ((cs[i]?).bind fun x => x.2.sub (p ++ q)) = _
     rw [hx]
     exact ih h
  rw [e h7] at h2
  have h2 : ((cs[n]?).bind fun x => x.2.sub []) = some S := h2
  obtain ⟨c, hc, h2⟩ := bnd h2
  rw [Zku] at h2
  cases h2
  rw [hc]
  exact h3
 ·rintro ⟨dk, h4, k, h5, q0, h6, S0, h7, h⟩
  cases S0 with
  | leaf d => exact h.elim
  | node kd cs =>
   cases kd with
   | dct =>
    obtain ⟨d, h8, qq⟩ := h
    obtain ⟨n, h9, h10⟩ := bnd h8
    obtain ⟨c, h11, h12⟩ := bnd h10
    refine ⟨(q0.1, q0.2 ++ [n]), ?_, c.2, ?_, d, h12, qq⟩
    ·unfold pD
     rw [h4, Option.bind_some, h5, Option.bind_some, h6, Option.bind_some, h7, Option.bind_some]
     dsimp only
     rw [h9]
     rfl
    ·obtain ⟨T, hT, h7⟩ := bnd h7
     show ((en[q0.1]?).join.bind fun T => T.sub (q0.2 ++ [n])) = some c.2
     rw [hT, Option.bind_some]
     have e : ∀ {p q : List Nat} {t s : OT}, t.sub p = some s → t.sub (p ++ q) = s.sub q := by
      intro p
      induction p with
      | nil => intro q t s h; cases t <;> (cases h; rfl)
      | cons i p ih =>
       intro q t s h
       cases t with
       | leaf d => cases h
       | node k cs =>
        have h : ((cs[i]?).bind fun x => x.2.sub p) = some s := h
        obtain ⟨x, hx, h⟩ := bnd h
        show ((cs[i]?).bind fun x => x.2.sub (p ++ q)) = _
        rw [hx]
        exact ih h
     rw [e h7]
     show ((cs[n]?).bind fun x => x.2.sub []) = some c.2
     rw [h11, Option.bind_some, Zku]
   | _ => exact h.elim
theorem Zqg {f : Str} : @Ru _ (xP (pF C f pl)) en QX = @og _ (pF C f pl en) ⟨fun q => @og _ (subE en q.1 q.2) ⟨fun S => @og _ (leafD S) ⟨fun d => QX.q (.ok d) en⟩⟩⟩ := Znz
theorem ZnO {cs : List (Lab × OT)} {l : En} : dctAt (some (.node .dct cs) :: l) 0 = some cs := id rfl
theorem ZoD {o : Option OT} {l : En} : dctAt (o :: l) (j + 1) = dctAt l j := id rfl
theorem ZgS {s : Str} : keyOf (.str s) = some (.inr s) := id rfl
theorem ZoC {s : Int} : keyOf (.int s) = some (.inl s) := id rfl
theorem ZmM : @Ru _ (xDGetV i x) en QX = @gd (∃ cs, dctAt en i = some cs) ⟨@Ru _ x en ⟨cX (fun dk e => @og _ (keyOf dk) ⟨fun k => @og _ (dctAt e i) ⟨fun cs => @og _ (valT k cs) ⟨fun d => QX.q (.ok d) e⟩⟩⟩) QX.q⟩⟩ := by
 refine (Zkr (o := fun en => dctAt en i) (f := fun _ en => bx (x en) fun dk e1 => (keyOf dk).bind fun k => (dctAt e1 i).bind fun cs => (idxK k cs).bind fun n => (cs[n]?).bind fun c => (leafD c.2).map fun d => (Rx.ok d, e1))).trans ?_
 have inner : ∀ (dk : PyData) (e : En), @Ru _ (fun e1 => (keyOf dk).bind fun k => (dctAt e1 i).bind fun cs => (idxK k cs).bind fun n => (cs[n]?).bind fun c => (leafD c.2).map fun d => (Rx.ok d, e1)) e QX = @og _ (keyOf dk) ⟨fun k => @og _ (dctAt e i) ⟨fun cs => @og _ (valT k cs) ⟨fun d => QX.q (.ok d) e⟩⟩⟩ := fun dk e => by
  refine propext ⟨?_, ?_⟩
  ·rintro ⟨r, e2, h, q⟩
   obtain ⟨k, h1, h⟩ := bnd h
   obtain ⟨cs, h2, h⟩ := bnd h
   obtain ⟨n, h3, h⟩ := bnd h
   obtain ⟨c, h4, h⟩ := bnd h
   obtain ⟨d, h5, h⟩ := Option.map_eq_some_iff.mp h
   cases h
   exact ⟨k, h1, cs, h2, d, by unfold valT; rw [h3, Option.bind_some, h4]; exact h5, q⟩
  ·rintro ⟨k, h1, cs, h2, d, h3, q⟩
   obtain ⟨n, h4, h5⟩ := bnd h3
   obtain ⟨c, h6, h7⟩ := bnd h5
   exact ⟨.ok d, e, by simp only [h1, h2, h4, h6, h7, Option.bind_some, Option.map_some], q⟩
 have key : @Ru _ (fun en => bx (x en) fun dk e1 => (keyOf dk).bind fun k => (dctAt e1 i).bind fun cs => (idxK k cs).bind fun n => (cs[n]?).bind fun c => (leafD c.2).map fun d => (Rx.ok d, e1)) en QX = @Ru _ x en ⟨cX (fun dk e => @og _ (keyOf dk) ⟨fun k => @og _ (dctAt e i) ⟨fun cs => @og _ (valT k cs) ⟨fun d => QX.q (.ok d) e⟩⟩⟩) QX.q⟩ := by
  refine ZgE.trans ?_
  congr 2
  congr 1
  funext dk e
  exact inner dk e
 exact propext ⟨fun ⟨cs, h, q⟩ => ⟨⟨cs, h⟩, key ▸ q⟩, fun ⟨⟨cs, h⟩, q⟩ => ⟨cs, h, key.symm ▸ q⟩⟩
theorem ZmR : @Ru _ (sDPutX pl w x) en Q = @Ru _ x en ⟨cO (fun d e => @og _ (pl e) ⟨fun q => @og _ (w (strong e)) ⟨fun dk => @og _ (keyOf dk) ⟨fun k => @og _ (e[q.1]?.join) ⟨fun T => @og _ (T.sub q.2) ⟨kDct fun cs => @gd (cs.length < 100000) ⟨Q.q .nx (e.set q.1 (some (T.put q.2 (.node .dct (putKT k d cs)))))⟩⟩⟩⟩⟩⟩) Q.q⟩ := by
 refine Zsa.trans ?_
 congr 2
 congr 1
 funext d e
 refine propext ⟨?_, ?_⟩
 ·rintro ⟨r, e2, h, qq⟩
  obtain ⟨q, h1, h⟩ := bnd h
  obtain ⟨dk, h2, h⟩ := bnd h
  obtain ⟨k, h3, h⟩ := bnd h
  obtain ⟨T, h4, h⟩ := bnd h
  obtain ⟨S, h5, h⟩ := bnd h
  refine ⟨q, h1, dk, h2, k, h3, T, h4, S, h5, ?_⟩
  split at h
  case h_2 => cases h
  split at h
  case isFalse => cases h
  cases h
  exact ⟨by assumption, qq⟩
 ·rintro ⟨q, h1, dk, h2, k, h3, T, h4, S, h5, h⟩
  cases S with
  | leaf d => exact h.elim
  | node kd cs =>
   cases kd with
   | dct =>
    obtain ⟨hl, qq⟩ := h
    refine ⟨.nx, _, ?_, qq⟩
    simp only [h1, h2, h3, h4, h5, Option.bind_some]
    rw [if_pos hl]
   | _ => exact h.elim
theorem Zmv : @Ru _ (sDPopP pl w) en Q = @og _ (pl en) ⟨fun q => @og _ (w (strong en)) ⟨fun dk => @og _ (keyOf dk) ⟨fun k => @og _ (en[q.1]?.join) ⟨fun T => @og _ (T.sub q.2) ⟨kDct fun cs => @og _ (idxK k cs) ⟨fun _ => Q.q .nx (en.set q.1 (some (T.put q.2 (.node .dct (dropKT k cs)))))⟩⟩⟩⟩⟩⟩ := by
 refine propext ⟨?_, ?_⟩
 ·rintro ⟨r, e2, h, qq⟩
  obtain ⟨q, h1, h⟩ := bnd h
  obtain ⟨dk, h2, h⟩ := bnd h
  obtain ⟨k, h3, h⟩ := bnd h
  obtain ⟨T, h4, h⟩ := bnd h
  obtain ⟨S, h5, h⟩ := bnd h
  refine ⟨q, h1, dk, h2, k, h3, T, h4, S, h5, ?_⟩
  split at h
  case h_2 => cases h
  obtain ⟨n, h6, h⟩ := Option.map_eq_some_iff.mp h
  cases h
  exact ⟨n, h6, qq⟩
 ·rintro ⟨q, h1, dk, h2, k, h3, T, h4, S, h5, h⟩
  cases S with
  | leaf d => exact h.elim
  | node kd cs =>
   cases kd with
   | dct =>
    obtain ⟨n, h6, qq⟩ := h
    refine ⟨.nx, _, ?_, qq⟩
    unfold sDPopP
    simp only [h1, h2, h3, h4, h5, Option.bind_some]
    rw [h6]
    rfl
   | _ => exact h.elim
theorem ZpP : @Ru _ (nDctC pl) en QN = @og _ (pl en) ⟨fun q => @og _ (subE en q.1 q.2) ⟨kDct fun cs => @gd (allLeaf cs = true) ⟨QN.q (.ok (.node .dct cs)) en⟩⟩⟩ := by
 refine propext ⟨?_, ?_⟩
 ·rintro ⟨r, e2, h, qq⟩
  obtain ⟨q, h1, h⟩ := bnd h
  obtain ⟨S, h5, h⟩ := bnd h
  refine ⟨q, h1, S, h5, ?_⟩
  split at h
  case h_2 => cases h
  split at h
  case isFalse => cases h
  cases h
  exact ⟨by assumption, qq⟩
 ·rintro ⟨q, h1, S, h5, h⟩
  cases S with
  | leaf d => exact h.elim
  | node kd cs =>
   cases kd with
   | dct =>
    obtain ⟨h6, qq⟩ := h
    refine ⟨.ok _, _, ?_, qq⟩
    unfold nDctC
    simp only [h1, h5, Option.bind_some]
    rw [if_pos h6]
   | _ => exact h.elim
theorem Zqq : @Ru _ nDct en QN = QN.q (.ok (.node .dct [])) en := propext (ZbA rfl)
theorem ZpI : @Ru _ xpNo en QI = QI.q (.ok none) en := propext (ZbA rfl)
theorem Zpr : @Ru _ (xpSo x) en QI = @Ru _ x en ⟨cX (fun d e => @og _ (asI d) ⟨fun i => QI.q (.ok (some i)) e⟩) QI.q⟩ := by
 refine ZgE.trans ?_
 congr 2
 congr 1
 funext d e
 exact (show _ = @og _ ((asI d).map some) ⟨fun o => QI.q (.ok o) e⟩ from propext (ZU (f := fun _ => (asI d).map some))).trans ZaU
theorem Zqm {o : PyData → Option Int → Option Int → Option PyData} {l h : FOi} : @Ru _ (xSl o a l h) en QX = @Ru _ a en ⟨cX (fun y e => @Ru _ l e ⟨cX (fun i e => @Ru _ h e ⟨cX (fun j e => @og _ (o y i j) ⟨fun d => QX.q (.ok d) e⟩) QX.q⟩) QX.q⟩) QX.q⟩ := by
 refine ZgE.trans ?_
 congr 2
 congr 1
 funext y e
 refine ZgE.trans ?_
 congr 2
 congr 1
 funext i e
 refine ZgE.trans ?_
 congr 2
 congr 1
 funext j e
 exact propext (ZU (f := fun _ => o y i j))
/-- what stands behind a try's body -/
noncomputable def cT (cs : List Addr) (k : Addr → En → Prop) (Q : Ot → En → Prop) : Ot → En → Prop
 | .ex C, e => C ∈ cs ∧ k C e
 | o, e => Q o e
theorem Zsb {cs : List Addr} {k : Addr → En → Prop} {Q : Ot → En → Prop} {e : En} : cT cs k Q .nx e = Q .nx e := id rfl
theorem ZsM {cs : List Addr} {k : Addr → En → Prop} {Q : Ot → En → Prop} {e : En} {T : OT} : cT cs k Q (.rt T) e = Q (.rt T) e := id rfl
theorem Zs2 {cs : List Addr} {k : Addr → En → Prop} {Q : Ot → En → Prop} {e : En} {C : Addr} : cT cs k Q (.ex C) e = (C ∈ cs ∧ k C e) := id rfl
theorem Zki {cs : List Addr} {b h : FS} : @Ru _ (sTryOnly cs b h) en Q = @Ru _ b en ⟨cT cs (fun _ e => @Ru _ h e Q) Q.q⟩ := by
 refine propext ⟨?_, ?_⟩
 ·rintro ⟨o, e, hh, q⟩
  unfold sTryOnly at hh
  cases z : b en with
  | none => rw [z] at hh; cases hh
  | some r =>
   obtain ⟨o1, e1⟩ := r
   rw [z] at hh
   cases o1 with
   | ex C =>
    dsimp only at hh
    split at hh
    case isFalse => cases hh
    exact ⟨.ex C, e1, z, by assumption, o, e, hh, q⟩
   | nx => cases hh; exact ⟨_, _, z, q⟩
   | rt T => cases hh; exact ⟨_, _, z, q⟩
   | bk => cases hh; exact ⟨_, _, z, q⟩
   | ct => cases hh; exact ⟨_, _, z, q⟩
 ·rintro ⟨o, e, hh, q⟩
  cases o with
  | ex C =>
   obtain ⟨hC, o, e2, h2, q⟩ := q
   exact ⟨o, e2, by unfold sTryOnly; rw [hh]; dsimp only; rw [if_pos hC]; exact h2, q⟩
  | nx => exact ⟨_, _, by unfold sTryOnly; rw [hh], q⟩
  | rt T => exact ⟨_, _, by unfold sTryOnly; rw [hh], q⟩
  | bk => exact ⟨_, _, by unfold sTryOnly; rw [hh], q⟩
  | ct => exact ⟨_, _, by unfold sTryOnly; rw [hh], q⟩
noncomputable def cH (i : Nat) (Q : Ot → En → Prop) : Ot → En → Prop
 | .nx, e => noneAt e i = true ∧ Q .nx e
 | .rt T, e => Q (.rt T) e
 | _, _ => False
theorem Zsw {Q : Ot → En → Prop} {e : En} : cH i Q .nx e = (noneAt e i = true ∧ Q .nx e) := id rfl
theorem ZsI {Q : Ot → En → Prop} {e : En} {T : OT} : cH i Q (.rt T) e = Q (.rt T) e := id rfl
theorem Zna {l : En} : noneAt (none :: l) 0 = true := id rfl
theorem Zm9 {o : Option OT} {l : En} : noneAt (o :: l) (j + 1) = noneAt l j := id rfl
theorem ZmY {cs : List Addr} {b : FS} {h : Addr → FS} : @Ru _ (sTryAs i cs b h) en Q = @Ru _ b en ⟨cT cs (fun C e => noneAt e i = true ∧ @Ru _ (h C) e ⟨cH i Q.q⟩) Q.q⟩ := by
 refine propext ⟨?_, ?_⟩
 ·rintro ⟨o, e, hh, q⟩
  unfold sTryAs at hh
  cases z : b en with
  | none => rw [z] at hh; cases hh
  | some r =>
   obtain ⟨o1, e1⟩ := r
   rw [z] at hh
   cases o1 with
   | ex C =>
    dsimp only at hh
    split at hh
    case isFalse => cases hh
    rename_i hc
    refine ⟨.ex C, e1, z, hc.1, hc.2, ?_⟩
    split at hh
    ·rename_i e2 z2
     split at hh
     case isFalse => cases hh
     rename_i h3
     cases hh
     exact ⟨_, _, z2, h3, q⟩
    ·rename_i T e2 z2
     cases hh
     exact ⟨_, _, z2, q⟩
    ·cases hh
   | nx => cases hh; exact ⟨_, _, z, q⟩
   | rt T => cases hh; exact ⟨_, _, z, q⟩
   | bk => cases hh; exact ⟨_, _, z, q⟩
   | ct => cases hh; exact ⟨_, _, z, q⟩
 ·rintro ⟨o, e, hh, q⟩
  cases o with
  | ex C =>
   obtain ⟨hC, h1, o, e2, h2, q⟩ := q
   unfold Ru Wp sTryAs
   rw [hh]
   dsimp only
   rw [if_pos ⟨hC, h1⟩, h2]
   cases o with
   | nx => obtain ⟨h3, q⟩ := q; dsimp only; rw [if_pos h3]; exact ⟨_, _, rfl, q⟩
   | rt T => exact ⟨_, _, rfl, q⟩
   | _ => exact q.elim
  | nx => exact ⟨_, _, by unfold sTryAs; rw [hh], q⟩
  | rt T => exact ⟨_, _, by unfold sTryAs; rw [hh], q⟩
  | bk => exact ⟨_, _, by unfold sTryAs; rw [hh], q⟩
  | ct => exact ⟨_, _, by unfold sTryAs; rw [hh], q⟩
noncomputable def cN (Q : Ot → En → Prop) : Ot → En → Prop
 | .ex _, _ => False
 | o, e => Q o e
theorem ZsN {Q : Ot → En → Prop} {e : En} : cN Q .nx e = Q .nx e := id rfl
theorem Zr1 {Q : Ot → En → Prop} {e : En} {T : OT} : cN Q (.rt T) e = Q (.rt T) e := id rfl
theorem Zsq {Q : Ot → En → Prop} {e : En} {D : Addr} : cN Q (.ex D) e = False := id rfl
theorem Zpi {b : FS} : @Ru _ (noEx b) en Q = @Ru _ b en ⟨cN Q.q⟩ := by
 refine propext ⟨?_, ?_⟩
 ·rintro ⟨o, e, hh, q⟩
  unfold noEx at hh
  cases z : b en with
  | none => rw [z] at hh; cases hh
  | some r =>
   obtain ⟨o1, e1⟩ := r
   rw [z] at hh
   cases o1 with
   | ex C => cases hh
   | nx => cases hh; exact ⟨_, _, z, q⟩
   | rt T => cases hh; exact ⟨_, _, z, q⟩
   | bk => cases hh; exact ⟨_, _, z, q⟩
   | ct => cases hh; exact ⟨_, _, z, q⟩
 ·rintro ⟨o, e, hh, q⟩
  cases o with
  | ex C => exact q.elim
  | nx => exact ⟨_, _, by unfold noEx; rw [hh], q⟩
  | rt T => exact ⟨_, _, by unfold noEx; rw [hh], q⟩
  | bk => exact ⟨_, _, by unfold noEx; rw [hh], q⟩
  | ct => exact ⟨_, _, by unfold noEx; rw [hh], q⟩
noncomputable def dT {α : Type} (f : α → PyData) (l : List (Key × α)) : List (Lab × OT) := l.map fun kv => (Lab.key kv.1, OT.leaf (f kv.2))
noncomputable def dM {α : Type} (f : α → PyData) (l : List (Key × α)) : PyData := .dict (l.map fun kv => (keyD kv.1, f kv.2))
noncomputable def lkM {α : Type} (k : Key) (l : List (Key × α)) : Option α := (l.find? fun kv => decide (kv.1 = k)).map (·.2)
noncomputable def putM {α : Type} (k : Key) (v : α) (l : List (Key × α)) : List (Key × α) := if (l.any fun kv => decide (kv.1 = k)) = true then l.map (fun kv => if kv.1 = k then (kv.1, v) else kv) else l ++ [(k, v)]
noncomputable def dropM {α : Type} (k : Key) (l : List (Key × α)) : List (Key × α) := l.filter fun kv => decide (kv.1 ≠ k)
section
variable {α : Type} {f : α → PyData} {l : List (Key × α)} {k : Key} {v : α}
theorem ZoH : (OT.node .dct (dT f l)).data = dM f l := by
 rw [OT.data, OT.datas_map]
 unfold dM dT
 congr 1
 rw [List.map_map, List.map_map, List.zip_map']
 rfl
theorem Zdf : isDct (l.map fun kv => (keyD kv.1, f kv.2)) = true := by
 cases l with
 | nil => rfl
 | cons kv l => obtain ⟨k, v⟩ := kv; cases k <;> rfl
theorem ZjV : valT k (dT f l) = (lkM k l).map f := by
 unfold valT lkM
 induction l with
 | nil => rfl
 | cons kv l ih =>
  obtain ⟨k', v⟩ := kv
  show (idxK k ((Lab.key k', OT.leaf (f v)) :: dT f l)).bind _ = _
  unfold idxK
  by_cases h : k' = k
  ·have : (Lab.key k').k = k := h
   rw [if_pos this, List.find?_cons_of_pos (by simpa using h)]
   rfl
  ·have : ¬ (Lab.key k').k = k := h
   rw [if_neg this, List.find?_cons_of_neg (by simpa using h), ← ih]
   cases idxK k (dT f l) <;> rfl
theorem Zj0 : (idxK k (dT f l)).isSome = (lkM k l).isSome := by
 unfold lkM
 induction l with
 | nil => rfl
 | cons kv l ih =>
  obtain ⟨k', v⟩ := kv
  show (idxK k ((Lab.key k', OT.leaf (f v)) :: dT f l)).isSome = _
  unfold idxK
  by_cases h : k' = k
  ·have : (Lab.key k').k = k := h
   rw [if_pos this, List.find?_cons_of_pos (by simpa using h)]
   rfl
  ·have : ¬ (Lab.key k').k = k := h
   rw [if_neg this, List.find?_cons_of_neg (by simpa using h), ← ih]
   cases idxK k (dT f l) <;> rfl
theorem Zcv : putKT k (f v) (dT f l) = dT f (putM k v l) := by
 unfold putKT putM dT
 rw [List.any_map]
 have e : ((fun x : Lab × OT => decide (x.1.k = k)) ∘ fun kv : Key × α => (Lab.key kv.1, OT.leaf (f kv.2))) = fun kv => decide (kv.1 = k) := rfl
 rw [e]
 split
 ·rw [List.map_map, List.map_map]
  refine List.map_congr_left fun kv _ => ?_
  show (if kv.1 = k then (Lab.key kv.1, OT.leaf (f v)) else (Lab.key kv.1, OT.leaf (f kv.2))) = _
  dsimp only [Function.comp]
  by_cases h : kv.1 = k
  ·rw [if_pos h, if_pos h]
  ·rw [if_neg h, if_neg h]
 ·rw [List.map_append]
  rfl
theorem Zhg : dropKT k (dT f l) = dT f (dropM k l) := by
 unfold dropKT dropM dT
 rw [List.filter_map]
 rfl
theorem Zdo : (dT f l).length = l.length := by unfold dT; rw [List.length_map]
theorem Zir : lookK k (l.map fun kv => (keyD kv.1, f kv.2)) = (lkM k l).map f := by
 unfold lkM
 induction l with
 | nil => rfl
 | cons kv l ih =>
  obtain ⟨k', v⟩ := kv
  rw [List.map_cons]
  unfold lookK
  rw [Zgt]
  by_cases h : k' = k
  ·rw [if_pos (congrArg some h), List.find?_cons_of_pos (by simpa using h)]
   rfl
  ·rw [if_neg (fun e => h (Option.some.inj e)), List.find?_cons_of_neg (by simpa using h)]
   exact ih
theorem ZS {s : Str} (neg : Bool) : oDIn neg (.str s) (dM f l) = some (.bool (if neg then !(lkM (.inr s) l).isSome else (lkM (.inr s) l).isSome)) := by
 unfold oDIn dM
 dsimp only
 rw [if_pos Zdf, ZgS, Option.map_some, Zir, Option.isSome_map]
theorem ZgU {s : Str} : oDGet (dM f l) (.str s) = (lkM (.inr s) l).map f := by
 unfold oDGet dM
 dsimp only
 rw [if_pos Zdf, ZgS, Option.bind_some, Zir]
theorem ZbD : cLenD [dM f l] = some (.int (l.length : Nat)) := by
 unfold cLenD dM
 dsimp only
 rw [if_pos Zdf, List.length_map]
theorem ZhS : oNeD0 (dM f l) (.dict []) = some (.bool (!l.isEmpty)) := by
 unfold oNeD0 dM
 dsimp only
 rw [if_pos Zdf]
 cases l <;> rfl
theorem ZiT : ∀ {l : List (Key × α)} {ks : List Str}, l.map (·.1) = ks.map Sum.inr → keysS (l.map fun kv => (keyD kv.1, f kv.2)) = some ks
 | [], [], _ => rfl
 | [], _ :: _, h => by cases h
 | _ :: _, [], h => by cases h
 | (k, v) :: l, s :: ks, h => by
  rw [List.map_cons, List.map_cons] at h
  injection h with h1 h2
  have h1 : k = Sum.inr s := h1
  subst h1
  rw [List.map_cons]
  show (keysS _).map _ = _
  rw [ZiT h2]
  rfl
theorem Zkf {ks : List Str} (h : l.map (·.1) = ks.map Sum.inr) (hl : ks.length < 64) : cSortDS [dM f l] = some (dLS (srtS ks)) := by
 unfold cSortDS dM
 dsimp only
 rw [if_pos Zdf, ZiT h, Option.bind_some, if_pos hl]
end
end
end Kb
namespace Kb
open PySem L2 Evl
section
variable {en : En} {QN : Ke (Rx OT)} {A : FA} {i j : Nat}
theorem ZmS {f : FD} {is : List Nat} : @Ru _ (nCallI f (i :: j :: is) A) en QN = @gd (∃ r, pullE (i :: j :: is) en = some r) ⟨@Ru _ A en ⟨cX (fun ds e => @og _ (pullE (i :: j :: is) e) ⟨fun r => @og _ (f (r.1 ++ ds.map OT.leaf)) ⟨kI fun R as => QN.q R (putE (i :: j :: is) as r.2)⟩⟩) QN.q⟩⟩ := by
 refine propext ⟨?_, ?_⟩
 ·rintro ⟨a, e', h, q⟩
  obtain ⟨r0, h0, h⟩ := bnd h
  refine ⟨⟨r0, h0⟩, ?_⟩
  rcases Zu h with ⟨ds, e1, h1, h2⟩ | ⟨C, h1, rfl⟩
  ·refine ⟨.ok ds, e1, h1, ?_⟩
   obtain ⟨r, h3, h4⟩ := bnd h2
   obtain ⟨⟨R, as⟩, h5, h6⟩ := bnd h4
   refine ⟨r, h3, (R, as), h5, ?_⟩
   cases R <;> (cases h6; exact q)
  ·exact ⟨.ex C, e', h1, q⟩
 ·rintro ⟨⟨r0, h0⟩, r, e, h1, h2⟩
  cases r with
  | ex C => exact ⟨.ex C, e, by unfold nCallI; rw [h0, Option.bind_some, h1]; rfl, h2⟩
  | ok ds =>
   obtain ⟨r, h3, ⟨R, as⟩, h5, q⟩ := h2
   refine ⟨R, putE (i :: j :: is) as r.2, ?_, q⟩
   unfold nCallI
   rw [h0, Option.bind_some, h1]
   show (pullE (i :: j :: is) e).bind _ = _
   rw [h3, Option.bind_some, h5, Option.bind_some]
   cases R <;> rfl
end
end Kb
namespace Kb
open PySem L2 Evl
section
variable {en : En} {Q : Ke Ot} {QX : Ke (Rx PyData)} {QN : Ke (Rx OT)} {QT : Kt OT} {pl : FP} {w : FW} {A : FA} {C : Addr} {f m : Str} {i j : Nat} {ρ : DE} {o : List PyData → Option PyData}
theorem Zth {α : Type} {m : En → Option (α × En)} {Q : Ke α} : @Ru α m en Q = @og (α × En) (m en) ⟨fun p => Q.q p.1 p.2⟩ := propext ⟨fun ⟨a, e, h, q⟩ => ⟨(a, e), h, q⟩, fun ⟨p, h, q⟩ => ⟨p.1, p.2, h, q⟩⟩
theorem ZrV {α : Type} {a : Option α} {P R : α → Prop} (h : ∀ x, P x = R x) : @og _ a ⟨P⟩ = @og _ a ⟨R⟩ := by rw [funext h]
end
end Kb
namespace Kb
open PySem L2 Evl
theorem Zqo {i : Nat} {en : En} {Q : Ke Ot} : @Ru _ (sRev i) en Q = @og _ (lstAt en i) ⟨fun cs => Q.q .nx (en.set i (some (.node .lst cs.reverse)))⟩ := by
 refine Zth.trans ?_
 unfold sRev
 exact Zn.trans (ZrV fun cs => ZG)
noncomputable def cF (k : En → Prop) (Q : Ot → En → Prop) : Ot → En → Prop
 | .nx, e => k e
 | .ct, e => k e
 | .rt T, e => Q (.rt T) e
 | _, _ => False
end Kb
namespace Kb
open PySem L2 Evl
noncomputable def getT (k : Key) (z : PyData) (cs : List (Lab × OT)) : Option PyData := match idxK k cs with
 | some n => (cs[n]?).bind fun y => leafD y.2
 | none => some z
end Kb
namespace Kb
open PySem L2 Evl
theorem ZrH {f : List PyData → Option PyData} {i : Nat} {x : FX} {en : En} {Q : Ke (Rx PyData)} : @Ru _ (xCbW f i x) en Q = @gd (∃ T, (en[i]?).join = some T) ⟨@Ru _ x en ⟨cX (fun d2 e1 => @og _ ((e1[i]?).join) ⟨fun T => @og _ (f [T.data, d2]) ⟨fun d => @gd (flatD d = true) ⟨Q.q (.ok d) e1⟩⟩⟩) Q.q⟩⟩ := by
 refine propext ⟨?_, ?_⟩
 ·rintro ⟨r, e, h, q⟩
  obtain ⟨T0, h0, h⟩ := bnd h
  refine ⟨⟨T0, h0⟩, ?_⟩
  rcases Zu h with ⟨U, e2, h1, h2⟩ | ⟨C, h1, rfl⟩
  ·obtain ⟨T, h3, h4⟩ := bnd h2
   obtain ⟨d, h5, h6⟩ := bnd h4
   split at h6
   case isFalse => cases h6
   rename_i hl
   cases h6
   exact ⟨.ok U, _, h1, T, h3, d, h5, hl, q⟩
  ·exact ⟨.ex C, e, h1, q⟩
 ·rintro ⟨⟨T0, h0⟩, r, e, h1, q⟩
  cases r with
  | ex C => exact ⟨.ex C, e, by unfold xCbW; rw [h0, Option.bind_some, h1]; rfl, q⟩
  | ok U =>
   obtain ⟨T, h3, d, h5, hl, q⟩ := q
   exact ⟨_, _, by unfold xCbW; rw [h0, Option.bind_some, h1]; show ((e[i]?).join).bind _ = _; rw [h3, Option.bind_some, h5, Option.bind_some, if_pos hl], q⟩
end Kb
namespace Kb
open PySem L2 Evl
theorem ZhK {w : FW} {n : FN} {en : En} {QN : Ke (Rx OT)} : @Ru _ (nCatT1 w n) en QN = @og _ (w (strong en)) ⟨fun d => ∃ ds, d = .tuple ds ∧ @gd (ds.all flatD = true ∧ ds.length < 1000) ⟨@Ru _ n en ⟨cX (fun T e1 => QN.q (.ok (.node .tup ((ds.map OT.leaf ++ [T]).map fun T => (Lab.no, T)))) e1) QN.q⟩⟩⟩ := by
 refine propext ⟨?_, ?_⟩
 ·rintro ⟨r, e, h, q⟩
  obtain ⟨d, h0, h⟩ := bnd h
  cases d <;> try (cases h; done)
  rename_i ds
  dsimp only at h
  split at h
  case isFalse => cases h
  rename_i hl
  refine ⟨_, h0, ds, rfl, hl, ?_⟩
  rcases Zu h with ⟨U, e2, h1, h2⟩ | ⟨C, h1, rfl⟩
  ·cases h2
   exact ⟨.ok U, _, h1, q⟩
  ·exact ⟨.ex C, e, h1, q⟩
 ·rintro ⟨d, h0, ds, rfl, hl, r, e, h1, q⟩
  cases r with
  | ex C => exact ⟨.ex C, e, by unfold nCatT1; rw [h0, Option.bind_some]; dsimp only; rw [if_pos hl, h1]; rfl, q⟩
  | ok U => exact ⟨_, _, by unfold nCatT1; rw [h0, Option.bind_some]; dsimp only; rw [if_pos hl, h1]; rfl, q⟩
noncomputable def kTup (Q : List (Lab × OT) → Prop) : OT → Prop
 | .node .tup cs => Q cs
 | _ => False
theorem Zjy {Q : List (Lab × OT) → Prop} {cs : List (Lab × OT)} : kTup Q (.node .tup cs) = Q cs := id rfl
theorem Znt {pl : FP} {w : FW} {en : En} {QP : Kt (Nat × List Nat)} : @og _ (pT pl w en) QP = @og _ (w (strong en)) ⟨fun d => @og _ (asI d) ⟨fun j => @og _ (pl en) ⟨fun q => @og _ (subE en q.1 q.2) ⟨kTup fun cs => @og _ (L2.ixN cs.length j) ⟨fun n => QP.q (q.1, q.2 ++ [n])⟩⟩⟩⟩⟩ := by
 refine propext ⟨?_, ?_⟩
 ·rintro ⟨p, h, qq⟩
  obtain ⟨d, h0, h⟩ := bnd h
  obtain ⟨j, hj, h⟩ := bnd h
  obtain ⟨q, h1, h⟩ := bnd h
  obtain ⟨S, h2, h⟩ := bnd h
  refine ⟨d, h0, j, hj, q, h1, S, h2, ?_⟩
  split at h
  ·obtain ⟨n, hn, h3⟩ := Option.map_eq_some_iff.mp h
   cases h3
   exact ⟨n, hn, qq⟩
  ·cases h
 ·rintro ⟨d, h0, j, hj, q, h1, S, h2, h3⟩
  unfold pT
  rw [h0, Option.bind_some, hj, Option.bind_some, h1, Option.bind_some, h2, Option.bind_some]
  cases S with
  | leaf d => exact h3.elim
  | node k cs =>
   cases k with
   | tup =>
    obtain ⟨n, hn, qq⟩ := h3
    refine ⟨_, ?_, qq⟩
    dsimp only
    rw [hn]
    rfl
   | _ => exact h3.elim
/-- f(own, lent), where it is known what f comes to -/
theorem ZmQ {fd : FD} {i j : Nat} {en : En} {Q : Ke (Rx OT)} (A B A' X : OT) (d : PyData) (e2 : En) (h1 : pullE [i, j] en = some ([A, B], e2)) (h2 : lendT B = true) (h3 : fd [A, .leaf B.data] = some (.ok (.leaf d), [A', X])) (h4 : noL d = true) (h5 : noLT A' = true) (q : Q.q (.ok (.leaf d)) (putE [i, j] [A', B] e2)) : @Ru _ (nCallL fd i j) en Q := by
 refine ⟨_, _, ?_, q⟩
 unfold nCallL
 rw [h1, Option.bind_some]
 dsimp only
 rw [if_pos h2, h3, Option.bind_some]
 dsimp only
 rw [if_pos ⟨h4, h5⟩]
end Kb
namespace Kb
open PySem PySem.Spec PyProof.Rows L2
section
variable {h : Hd} {K : PySem.W.Frag} {w : World} {hp : Heap} {mg : Str → Option Value}
structure Hd.Ok (h : Hd) (K : PySem.W.Frag) (w : World) : Prop where
 al : ∀ p ∈ h.al, He.eqO (PySem.W.nsIn K mainGlobals p.1) (some (some (.ref (He.ga K p.2)))) = true
 g : ∀ x ∈ h.g, gB K x = true
 m : ∀ x ∈ h.m, mB K x = true
 c : ∀ x ∈ h.c, cB K x = true
 n : ∀ p ∈ h.n, He.eqO (PySem.W.findIn K (.ref (He.ga K p.1)) p.2) (some none) = true
 x : ∀ x ∈ h.x, xB K x = true
 e : ∀ x ∈ h.e, eB K x = true
 b : h.b = true → bB K = true ∧ ((He.ga K "BlockError") :: h.e.map (He.ga K)).Nodup
 i : ∀ p ∈ h.i, (He.Fa.int p.1 p.2).ok K = true
 s : ∀ p ∈ h.s, (He.Fa.str p.1 p.2).ok K = true
 t : ∀ p ∈ h.t, He.tupB K p.1 (p.2.map He.Dv.int) = true
 d : ∀ p ∈ h.d, tabAtB K p.1 p.2 = true
 f : ∀ x ∈ h.f, (He.Fa.free x).ok K = true
 fn : ∀ d ∈ h.fn, ((He.Fa.code d.at_ d.qual).ok K && PySem.W.keepIn K (.ref (He.fAd K d.at_))) = true ∧ He.fnObs K d.at_ = d.val
 tb : ∀ p ∈ h.d, He.dicW K (He.ga K p.1) = some (He.keysIn w.params (p.2.map fun q => Str.ofString q.1))
theorem Zh2 {α β : Type} {f g : α → β} : ∀ {l : List α}, l.map f = l.map g → ∀ a ∈ l, f a = g a
 | b :: r, e, a, h => by
  obtain ⟨e1, e2⟩ := List.cons.inj e
  cases h with
  | head => exact e1
  | tail _ h => exact Zh2 e2 a h
theorem Hd.ok (c : h.obs K = h.val w) : h.Ok K w := by
 have c1 : h.chk K = true := congrArg (fun z : AlX => z.1) c
 have c2 : h.fn.map (fun d => He.fnObs K d.at_) = h.fn.map He.FnD.val := congrArg (fun z : AlX => z.2.1) c
 have c3 : h.d.map (fun t => He.dicW K (He.ga K t.1)) = h.d.map fun t => some (He.keysIn w.params (t.2.map fun q => Str.ofString q.1)) := congrArg (fun z : AlX => z.2.2) c
 unfold Hd.chk at c1
 obtain ⟨a0, c1⟩ := He.ba c1
 obtain ⟨a1, c1⟩ := He.ba c1
 obtain ⟨a2, c1⟩ := He.ba c1
 obtain ⟨a3, c1⟩ := He.ba c1
 obtain ⟨a4, c1⟩ := He.ba c1
 obtain ⟨a5, c1⟩ := He.ba c1
 obtain ⟨a6, c1⟩ := He.ba c1
 obtain ⟨a7, c1⟩ := He.ba c1
 obtain ⟨a8, c1⟩ := He.ba c1
 obtain ⟨a9, c1⟩ := He.ba c1
 obtain ⟨a10, c1⟩ := He.ba c1
 obtain ⟨a11, c1⟩ := He.ba c1
 obtain ⟨a12, a13⟩ := He.ba c1
 refine ⟨List.all_eq_true.mp a0, List.all_eq_true.mp a1, List.all_eq_true.mp a2, List.all_eq_true.mp a3, List.all_eq_true.mp a4, List.all_eq_true.mp a5, List.all_eq_true.mp a6, fun hb => ?_, List.all_eq_true.mp a8, List.all_eq_true.mp a9, List.all_eq_true.mp a10, List.all_eq_true.mp a11, List.all_eq_true.mp a12, fun d hd => ⟨List.all_eq_true.mp a13 d hd, Zh2 c2 d hd⟩, Zh2 c3⟩
 rw [hb] at a7
 obtain ⟨b1, b2⟩ := He.ba (show (bB K && decide (((He.ga K "BlockError") :: h.e.map (He.ga K)).Nodup)) = true from a7)
 exact ⟨b1, of_decide_eq_true b2⟩
theorem Zao {α : Type} {l : List α} {i : Nat} {a : α} (e : l[i]? = some a) : a ∈ l := List.mem_of_getElem? e
theorem Hd.Ok.glo (c : h.Ok K w) (X : K.In hp) (G : hp.Ns mainGlobals mg) (i : Nat) {x : Str} (e : h.g[i]? = some x) : mg x = some (.ref (He.ga K x)) := PySem.W.mg_of X G (He.eqO_ok (c.g x (Zao e)))
theorem Hd.Ok.free (c : h.Ok K w) (X : K.In hp) (G : hp.Ns mainGlobals mg) (i : Nat) {x : Str} (e : h.f[i]? = some x) : mg x = none := He.free_ok X G (c.f x (Zao e))
theorem Hd.Ok.fun_ (c : h.Ok K w) (i : Nat) {p : Str × Option Str} {x q : Str} (st : Stmt) (e : h.fn[i]? = some ⟨p, x, q, defArgs st, defBody st, defScope st⟩) : ∃ fd, L2.Fun K x q st (He.fAd K p) fd := by
 obtain ⟨c1, c2⟩ := c.fn _ (Zao e)
 obtain ⟨c3, c4⟩ := He.ba c1
 obtain ⟨oc, od, osl, kV, doc, pm, an, cdv, ct, l, k⟩ := He.fn_ok (d := ⟨p, x, q, defArgs st, defBody st, defScope st⟩) c2 c3
 exact ⟨_, L2.fun_mk l k c4⟩
theorem Hd.Ok.funG (c : h.Ok K w) (i : Nat) {x : Str} (st : Stmt) (e : h.fn[i]? = some (fnG x st)) : ∃ fd, L2.Fun K x x st (He.ga K x) fd := c.fun_ i st e
theorem Hd.Ok.funM (c : h.Ok K w) (i : Nat) {C m q : Str} (st : Stmt) (e : h.fn[i]? = some (fnM C m q st)) : ∃ fd, L2.Fun K m q st (He.ma K (He.ga K C) m) fd := c.fun_ i st e
theorem Hd.Ok.lawF (c : h.Ok K w) (i : Nat) {x : Str} (st : Stmt) (e : h.fn[i]? = some (fnG x st)) : ∃ (kV doc pm : Value) (an : Option Addr) (cdv ct : Value), L2.Fun K x x st (He.ga K x) (PySem.W.fnOf x x (defArgs st) (defBody st) (defScope st) .none kV doc pm an cdv ct) := by
 obtain ⟨c1, c2⟩ := c.fn _ (Zao e)
 obtain ⟨c3, c4⟩ := He.ba c1
 obtain ⟨oc, od, osl, kV, doc, pm, an, cdv, ct, l, k⟩ := He.fn_ok (d := fnG x st) c2 c3
 exact ⟨kV, doc, pm, an, cdv, ct, L2.fun_mk l k c4⟩
theorem Hd.Ok.cls (c : h.Ok K w) (i : Nat) {x : Str} (e : h.c[i]? = some x) : Cls K (He.ga K x) := He.cls_ok (He.ba (c.c x (Zao e))).1
theorem Hd.Ok.mks (c : h.Ok K w) (i : Nat) {x : Str} (e : h.c[i]? = some x) : PySem.W.makesIn K (He.ga K x) = true := (He.ba (He.ba (c.c x (Zao e))).2).1
theorem Hd.Ok.kc (c : h.Ok K w) (i : Nat) {x : Str} (e : h.c[i]? = some x) : PySem.W.keepIn K (.ref (He.ga K x)) = true := (He.ba (He.ba (c.c x (Zao e))).2).2
theorem Hd.Ok.mA (c : h.Ok K w) (i : Nat) {x m : Str} (e : h.m[i]? = some (x, m)) : PySem.W.findIn K (.ref (He.ga K x)) m = some (some (.ref (He.ma K (He.ga K x) m))) := He.eqO_ok (He.ba (c.m _ (Zao e))).1
theorem Hd.Ok.mF (c : h.Ok K w) (i : Nat) {x m : Str} (e : h.m[i]? = some (x, m)) : PySem.W.isFn K (.ref (He.ma K (He.ga K x) m)) = true := (He.ba (c.m _ (Zao e))).2
theorem Hd.Ok.no (c : h.Ok K w) (i : Nat) {x f : Str} (e : h.n[i]? = some (x, f)) : PySem.W.findIn K (.ref (He.ga K x)) f = some none := He.eqO_ok (c.n _ (Zao e))
theorem Hd.Ok.exc (c : h.Ok K w) (X : K.In hp) (G : hp.Ns mainGlobals mg) (j : Nat) (i : Nat) {x : Str} (eg : h.g[j]? = some x) (e : h.x[i]? = some x) : ExC K mg x (He.ga K x) := by
 obtain ⟨c1, c2⟩ := He.ba (c.x x (Zao e))
 obtain ⟨c3, c4⟩ := He.ba c2
 obtain ⟨d1, d2, d3, d4⟩ := He.exc_ok c1
 exact ⟨c.glo X G j eg, d1, d2, d3, d4, ZiU d3 c3 d4 (of_decide_eq_true c4)⟩
theorem Hd.Ok.base (c : h.Ok K w) (X : K.In hp) (G : hp.Ns mainGlobals mg) (j : Nat) (eg : h.g[j]? = some "BlockError") (e : h.b = true) : EBase K mg (He.ga K "BlockError") := by
 obtain ⟨c1, c2⟩ := He.ba (c.b e).1
 obtain ⟨c3, c4⟩ := He.ba c2
 obtain ⟨c5, _⟩ := He.ba c4
 exact ⟨c.glo X G j eg, c1, of_decide_eq_true c3, of_decide_eq_true c5⟩
theorem Hd.Ok.nd (c : h.Ok K w) (e : h.b = true) : ((He.ga K "BlockError") :: h.e.map (He.ga K)).Nodup := (c.b e).2
theorem Hd.Ok.eb (c : h.Ok K w) (X : K.In hp) (G : hp.Ns mainGlobals mg) (j : Nat) (i : Nat) {x : Str} (eg : h.g[j]? = some x) (e : h.e[i]? = some x) (eb : h.b = true) : EB K mg (He.ga K "BlockError") x (He.ga K x) := by
 obtain ⟨c1, c2⟩ := He.ba (c.e x (Zao e))
 obtain ⟨c3, c4⟩ := He.ba c2
 obtain ⟨c5, c6⟩ := He.ba c4
 obtain ⟨c7, c8⟩ := He.ba c6
 obtain ⟨c9, c10⟩ := He.ba c8
 obtain ⟨d1, d2, d3, d4⟩ := He.exc_ok c1
 obtain ⟨_, k2⟩ := He.ba (c.b eb).1
 obtain ⟨_, k4⟩ := He.ba k2
 obtain ⟨_, k6⟩ := He.ba k4
 obtain ⟨k7, k8⟩ := He.ba k6
 cases q : PySem.W.clsIn K (He.ga K x) with
 | none =>
  rw [q] at c3
  cases c3
 | some cd =>
  rw [q] at c3
  exact Zr9 (c.glo X G j eg) d1 d2 q (of_decide_eq_true c3) d4 (He.eqO_ok c5) (He.eqO_ok c7) c9 (He.eqO_ok c10) (He.eqO_ok k7) (of_decide_eq_true k8)
theorem Hd.Ok.int (c : h.Ok K w) (X : K.In hp) (G : hp.Ns mainGlobals mg) (i : Nat) {x : Str} {z : Int} (e : h.i[i]? = some (x, z)) : GlV mg x (.int z) := by
 obtain ⟨t, e1⟩ := He.int_ok X G (c.i _ (Zao e))
 exact ⟨_, e1, ⟨t, rfl⟩⟩
theorem Hd.Ok.str (c : h.Ok K w) (X : K.In hp) (G : hp.Ns mainGlobals mg) (i : Nat) {x z : Str} (e : h.s[i]? = some (x, z)) : GlV mg x (.str z) := by
 obtain ⟨t, e1⟩ := He.str_ok X G (c.s _ (Zao e))
 exact ⟨_, e1, ⟨t, rfl⟩⟩
theorem Hd.Ok.tup (c : h.Ok K w) (X : K.In hp) (G : hp.Ns mainGlobals mg) (j : Nat) (i : Nat) {x : Str} {ns : List Int} (eg : h.g[j]? = some x) (e : h.t[i]? = some (x, ns)) : GlT K mg x (He.ga K x) ns := by
 refine ⟨c.glo X G j eg, fun H => ?_⟩
 have := He.tupB_ok (c.t _ (Zao e)) H
 have e2 : (ns.map He.Dv.int).map (He.Dv.v K) = ns.map V.int := by
  rw [List.map_map]
  rfl
 rw [e2] at this
 exact this
end
@[elab_as_elim] theorem ll1 {P : List Value → Prop} (us : List Value) (h : us.length = 1) (k : ∀ a0, P [a0]) : P us := match us, h with | [_], _ => k _
@[elab_as_elim] theorem ll2 {P : List Value → Prop} (us : List Value) (h : us.length = 2) (k : ∀ a0 a1, P [a0, a1]) : P us := match us, h with | [_, _], _ => k _ _
@[elab_as_elim] theorem ll3 {P : List Value → Prop} (us : List Value) (h : us.length = 3) (k : ∀ a0 a1 a2, P [a0, a1, a2]) : P us := match us, h with | [_, _, _], _ => k _ _ _
@[elab_as_elim] theorem ll4 {P : List Value → Prop} (us : List Value) (h : us.length = 4) (k : ∀ a0 a1 a2 a3, P [a0, a1, a2, a3]) : P us := match us, h with | [_, _, _, _], _ => k _ _ _ _
end Kb
namespace Kb
open PySem L2 Evl
noncomputable abbrev fl_Album : List Str := ["field", "kept"]
noncomputable def top (i : Nat) : Stmt := PySem.Challenge.pw_keyblock_k36_impressions_kept.main.body.getD i (.Pass ⟨0, 0, 0, 0⟩)
section
variable {P : Program} {w : World} {K : PySem.W.Frag} {mg : Str → Option Value} {base : Heap}
noncomputable abbrev Zbl : Stmt := inClass (top 23) 8
noncomputable abbrev Zcg : List Str := ["self", "name"]
noncomputable abbrev Zbm : List Str := ["self"]
theorem Zdz : FnScope Zcg Zbm (defScope Zbl) := ⟨rfl, rfl, rfl, by decide +kernel, rfl, by decide +kernel, by decide +kernel⟩
noncomputable def Zcs (cAlbum : Addr) : FS := (sRet (nLcT (iX asL (xN (nFW (wCb cSortDS (aCons (wUn (oFld cAlbum "kept") (wV 0)) aNil))))) (eName 1) (bS bYes) (xOp oCatA (xS (wTup (aCons (wV 1) aNil))) (xP (pD (pF cAlbum "kept" (pV 0)) (wV 1)))) [1]))
noncomputable def ZaG (cAlbum : Addr) := fnI 1 2 (fun i => Nat.blt i 1) (Zcs cAlbum)
set_option maxHeartbeats 8000000 in
theorem ZgD {f : Addr} {fd : FuncData} {cAlbum : Addr} (T : Tx mg) (F : Fun K "prints" "Album.prints" Zbl f fd)
  (FL_Album : Fls K cAlbum fl_Album) : FnOk P w K mg base CX0 1 f fd Zbm (ISp (ZaG cAlbum)) := by
 have nd := Zdz.nd
 refine F.ok Zdz (fun vs H Q E h => h.len) (fun cdv A outer s H vs Q E hr h => ?_)
 have hu := hu_of hr
 refine ⟨_, (pss_one (ps_ret (pe_lc (own := [("name", 1)]) (g := gName 1) (tt := tYes) (te := (tOp (rCatA K) (tTup (tCons (tVar 1) tNil)) (tDGet (tFld K (tVar 0) "kept") (tVar 1)))) (by rfl) nd (pi_list (pe_callB (call_sortedD rfl) (by rfl) T.sorted (by decide +kernel) (pa_cons (pe_fld (pv 0) rfl) pa_nil))) (blkOk_by (N := Zcg) (sc := defScope Zbl) (by decide +kernel)) (fun _ _ _ _ _ => (pg_name (i := 1) nd rfl (.inl rfl))) (fun _ _ _ _ _ => pts_nil) (fun _ _ _ _ _ => (pe_op op_catA (pe_tup (pa_cons (pv 1) pa_nil)) (pe_dget hu (pe_fld (pv 0) rfl) (pv 1) (fun _ _ => rfl))))))), ?_⟩
 exact Zac (kp := fun i => Nat.blt i 1) (N := Zcg) (s := Zcs cAlbum) (Zv (ZgK (K := K) (vs := [1]) (ZfW (ZD (ZhG (ZQ ZdE (Zb (Zd2 FL_Album (by simp) (Za (i := 0))) Ze))))) (ZaE (j := 1) rfl) (Z2 Zdi) (ZN Zc7 (Zj (ZaW (Zb (Za (i := 1)) Ze)).w) (Zkl (Zfd (ZdU FL_Album (by simp) (ZaF (i := 0))) (Za (i := 1))))))) h
noncomputable abbrev Zdq : Stmt := top 25
noncomputable abbrev Zh6 : List Str := ["_law_script"]
noncomputable abbrev Zb2 : List Str := ["_law_script"]
theorem Zez : FnScope Zh6 Zb2 (defScope Zdq) := ⟨rfl, rfl, rfl, by decide +kernel, rfl, by decide +kernel, by decide +kernel⟩
theorem Zhv {f : Addr} {fd : FuncData} (T : Tx mg) (F : Fun K "_law_begin" "_law_begin" Zdq f fd) : FnOk P w K mg base CX0 1 f fd Zb2 (spBegin K) := by
 have nd := Zez.nd
 refine F.ok Zez (fun vs H Q E h => ?_) (fun cdv A outer s H vs Q E hr h => ?_)
 ·obtain ⟨a, ns, rfl, _⟩ := h
  rfl
 ·obtain ⟨a, ns, rfl, hS, hl, q⟩ := h
  refine ⟨_, (pss_one (ps_ret (pe_lst (pa_cons (pe_callTy call_list_of (by rfl) T.list (by decide +kernel) (pa_cons (pe_slice sl_list (pv 0) po_none (po_some pe_int)) pa_nil)) (pa_cons pe_int (pa_cons pe_int (pa_cons pe_int pa_nil))))))), ?_⟩
  refine ⟨.ref a, rfl, 63, rfl, a, ns.map V.int, rfl, hS, fun p hp => ⟨p, _, rfl, .inl (sq_of upd_same), fun l hl' => ⟨(by show 4 ≤ sizeLine; decide), fun d hd => ?_⟩⟩⟩
  have ecut : cutV (ns.map V.int) none (some 63) = (ns.take 63).map V.int := by
   unfold cutV
   rw [HT.sIx_none, show HT.sIx (ns.map V.int).length (ns.map V.int).length (some 63) = min 63 (ns.map V.int).length from HT.sIx_nat _ _ 63, List.map_take]
   show List.take (min 63 (ns.map V.int).length) (ns.map V.int) = List.take 63 (ns.map V.int)
   rw [List.take_eq_take_iff]
   omega
  have nl : H l = none := fresh_back (Ex.new hp) hl'
  have nd' : H d = none := fresh_back ((Ex.new hp).trans (Ex.new hl')) hd
  have nld : l ≠ d := fun z => by
   subst z
   rw [upd_same] at hd
   cases hd
  refine q ⟨d, l, ns.take 63⟩ (fun b => if b = l then some (.lst ((ns.take 63).map V.int)) else none) _ nd' (((Ex.new hp).trans (Ex.new hl')).trans (Ex.new hd)) ?_ ?_ ⟨?_, if_pos rfl, 0, 0, 17, upd_same, by decide, by decide, by decide, by decide⟩
  ·intro b o h
   by_cases z : b = l
   ·subst z
    simp only [if_pos] at h
    cases h
    rw [upd_ne nld, upd_same, ecut]
   ·simp only [if_neg z] at h
    cases h
  ·intro b o h
   show (if b = l then _ else none) = none
   rw [if_neg (ne_of_none h nl)]
  ·show (if d = l then _ else none) = none
   rw [if_neg nld.symm]
noncomputable abbrev ZdR : Stmt := top 26
noncomputable abbrev ZfH : List Str := ["_law_draw", "_law_many", "_law_cell", "_law_got"]
noncomputable abbrev Z1 : List Str := ["_law_draw", "_law_many"]
theorem ZeT : FnScope ZfH Z1 (defScope ZdR) := ⟨rfl, rfl, rfl, by decide +kernel, rfl, by decide +kernel, by decide +kernel⟩
noncomputable def Zcy : FS := (sSeq (sIf (bWk (bAnd (bW (wOp oLt (wOp oIxL (wV 0) (wC (.int 2))) (wV 1))) (bW (wOp oLt (wOp oIxL (wV 0) (wC (.int 1))) (wCb cLen (aCons (wOp oIxL (wV 0) (wC (.int 0))) aNil))))))
  (sSeq (sAsg 2 (xW (wOp oIxL (wOp oIxL (wV 0) (wC (.int 0))) (wOp oIxL (wV 0) (wC (.int 1))))))
  (sSeq (sPut 0 (xS (wC (.int 1))) (xW (wOp oAdd (wOp oIxL (wV 0) (wC (.int 1))) (wC (.int 1)))))
  (sSeq (sPut 0 (xS (wC (.int 2))) (xS (wC (.int 0))))
  (sIf (bS (bW (wOp oGe (wCb cAbs (aCons (wV 2) aNil)) (wOp oPow (wC (.int 10)) (wC (.int 18))))))
  (sPut 0 (xS (wC (.int 2))) (xS (wCb cAbs (aCons (wV 2) aNil))))
  (sPut 0 (xS (wC (.int 3))) (xW (wOp oMod (wOp oAdd (wOp oAdd (wOp oMul (wOp oIxL (wV 0) (wC (.int 3))) (wC (.int 48271))) (wOp oMul (wOp oMod (wV 2) (wC (.int 2147483629))) (wC (.int 69621)))) (wC (.int 12345))) (wC (.int 2147483647)))))))))
  sNil)
  (sSeq (sIf (bWk (bW (wOp oGe (wOp oIxL (wV 0) (wC (.int 2))) (wV 1))))
  (sSeq (sAsg 3 (xW (wOp oMod (wOp oIxL (wV 0) (wC (.int 2))) (wV 1))))
  (sSeq (sPut 0 (xS (wC (.int 2))) (xW (wOp oDiv (wOp oIxL (wV 0) (wC (.int 2))) (wV 1))))
  (sRet (nMove 3))))
  sNil)
  (sSeq (sPut 0 (xS (wC (.int 3))) (xW (wOp oMod (wOp oAdd (wOp oAdd (wOp oMul (wOp oMod (wOp oMul (wOp oIxL (wV 0) (wC (.int 3))) (wOp oIxL (wV 0) (wC (.int 3)))) (wC (.int 2147483629))) (wC (.int 5))) (wOp oMul (wOp oIxL (wV 0) (wC (.int 3))) (wC (.int 16811)))) (wC (.int 2531011))) (wC (.int 2147483647)))))
  (sRet (nX (xW (wOp oMod (wOp oAdd (wOp oDiv (wOp oIxL (wV 0) (wC (.int 3))) (wC (.int 61))) (wOp oMul (wOp oMod (wOp oIxL (wV 0) (wC (.int 3))) (wC (.int 8191))) (wC (.int 31)))) (wV 1))))))))
noncomputable def f__law_take := fnI 2 4 (fun i => Nat.blt i 1) (Zcy)
set_option maxHeartbeats 8000000 in
theorem Zia {f : Addr} {fd : FuncData} (T : Tx mg) (F : Fun K "_law_take" "_law_take" ZdR f fd) : FnOk P w K mg base CX0 1 f fd Z1 (ISp f__law_take) := by
 have nd := ZeT.nd
 refine F.ok ZeT (fun vs H Q E h => h.len) (fun cdv A outer s H vs Q E hr h => ?_)
 have hu := hu_of hr
 refine ⟨_, (pss_cons (ps_if (PW.pt (pw_and (pt_cmpR op_lt (pe_ix ix_list (pv 0) pe_int (fun _ _ => rfl)) (pv 1) (nomark _)) (pw_and1 (pt_cmpR op_lt (pe_ix ix_list (pv 0) pe_int (fun _ _ => rfl)) (pe_callB call_len_seq (by rfl) T.len PySem.boot_len (pa_cons (pe_ix ix_list (pv 0) pe_int (fun _ _ => rfl)) pa_nil)) (nomark _)))))
   (pss_cons (ps_set (i := 2) nd rfl (.inl rfl) (pe_ix ix_list (pe_ix ix_list (pv 0) pe_int (fun _ _ => rfl)) (pe_ix ix_list (pv 0) pe_int (fun _ _ => rfl)) (fun _ _ => rfl)))
   (pss_cons (ps_asg (pe_op op_add (pe_ix ix_list (pv 0) pe_int (fun _ _ => rfl)) pe_int) (pg_sub (pv 0) pe_int set_list))
   (pss_cons (ps_asg pe_int (pg_sub (pv 0) pe_int set_list))
   (pss_one (ps_if (pt_cmpR op_ge (pe_callB call_abs (by rfl) T.abs (by decide +kernel) (pa_cons (pv 2) pa_nil)) (pe_op op_pow pe_int pe_int) (nomark _))
    (pss_one (ps_asg (pe_callB call_abs (by rfl) T.abs (by decide +kernel) (pa_cons (pv 2) pa_nil)) (pg_sub (pv 0) pe_int set_list)))
    (pss_one (ps_asg (pe_op op_mod (pe_op op_add (pe_op op_add (pe_op op_mul (pe_ix ix_list (pv 0) pe_int (fun _ _ => rfl)) pe_int) (pe_op op_mul (pe_op op_mod (pv 2) pe_int) pe_int)) pe_int) pe_int) (pg_sub (pv 0) pe_int set_list))))))))
   pss_nil)
  (pss_cons (ps_if (pt_cmpR op_ge (pe_ix ix_list (pv 0) pe_int (fun _ _ => rfl)) (pv 1) (nomark _))
   (pss_cons (ps_set (i := 3) nd rfl (.inl rfl) (pe_op op_mod (pe_ix ix_list (pv 0) pe_int (fun _ _ => rfl)) (pv 1)))
   (pss_cons (ps_asg (pe_op op_fdiv (pe_ix ix_list (pv 0) pe_int (fun _ _ => rfl)) (pv 1)) (pg_sub (pv 0) pe_int set_list))
   (pss_one (ps_ret (pv 3)))))
   pss_nil)
  (pss_cons (ps_asg (pe_op op_mod (pe_op op_add (pe_op op_add (pe_op op_mul (pe_op op_mod (pe_op op_mul (pe_ix ix_list (pv 0) pe_int (fun _ _ => rfl)) (pe_ix ix_list (pv 0) pe_int (fun _ _ => rfl))) pe_int) pe_int) (pe_op op_mul (pe_ix ix_list (pv 0) pe_int (fun _ _ => rfl)) pe_int)) pe_int) pe_int) (pg_sub (pv 0) pe_int set_list))
  (pss_one (ps_ret (pe_op op_mod (pe_op op_add (pe_op op_fdiv (pe_ix ix_list (pv 0) pe_int (fun _ _ => rfl)) pe_int) (pe_op op_mul (pe_op op_mod (pe_ix ix_list (pv 0) pe_int (fun _ _ => rfl)) pe_int) pe_int)) (pv 1))))))), ?_⟩
 exact Zac (kp := fun i => Nat.blt i 1) (N := ZfH) (s := Zcy) (Zf (ZB (ZdQ (ZdV (Zs (Zg ZhE (Zw Z3 (Za (i := 0)) Zd.w) (Za (i := 1))).w) (Zs (Zg ZhE (Zw Z3 (Za (i := 0)) Zd.w) (ZQ Zge (Zb (Zw Z3 (Za (i := 0)) Zd.w) Ze)).w).w)))
  (Zf (ZI (i := 2) rfl (ZcT (Zw Z3 (Zw Z3 (Za (i := 0)) Zd.w) (Zw Z3 (Za (i := 0)) Zd.w))))
  (Zf (ZdZ (i := 0) (Zj Zd.w) (ZcT (Zg ZaH (Zw Z3 (Za (i := 0)) Zd.w) Zd.w).w))
  (Zf (ZdZ (i := 0) (Zj Zd.w) (Zj Zd.w))
  (ZB (Z2 (Zs (Zg Znv (ZQ ZlQ (Zb (Za (i := 2)) Ze)).w (Zg Ze0 Zd.w Zd.w).w).w))
  (ZdZ (i := 0) (Zj Zd.w) (Zj (ZQ ZlQ (Zb (Za (i := 2)) Ze)).w))
  (ZdZ (i := 0) (Zj Zd.w) (ZcT (Zg ZbU (Zg ZaH (Zg ZaH (Zg Zbv (Zw Z3 (Za (i := 0)) Zd.w) Zd.w).w (Zg Zbv (Zg ZbU (Za (i := 2)) Zd.w).w Zd.w).w).w Zd.w).w Zd.w).w))))))
  Zy)
  (Zf (ZB (ZdQ (Zs (Zg Znv (Zw Z3 (Za (i := 0)) Zd.w) (Za (i := 1))).w))
  (Zf (ZI (i := 3) rfl (ZcT (Zg ZbU (Zw Z3 (Za (i := 0)) Zd.w) (Za (i := 1))).w))
  (Zf (ZdZ (i := 0) (Zj Zd.w) (ZcT (Zg ZkO (Zw Z3 (Za (i := 0)) Zd.w) (Za (i := 1))).w))
  (Zjx (i := 3) rfl)))
  Zy)
  (Zf (ZdZ (i := 0) (Zj Zd.w) (ZcT (Zg ZbU (Zg ZaH (Zg ZaH (Zg Zbv (Zg ZbU (Zg Zbv (Zw Z3 (Za (i := 0)) Zd.w) (Zw Z3 (Za (i := 0)) Zd.w)).w Zd.w).w Zd.w).w (Zg Zbv (Zw Z3 (Za (i := 0)) Zd.w) Zd.w).w).w Zd.w).w Zd.w).w))
  (Zv (ZZ (ZcT (Zg ZbU (Zg ZaH (Zg ZkO (Zw Z3 (Za (i := 0)) Zd.w) Zd.w).w (Zg Zbv (Zg ZbU (Zw Z3 (Za (i := 0)) Zd.w) Zd.w).w Zd.w).w).w (Za (i := 1))).w)))))) h
noncomputable abbrev ZdL : Stmt := top 29
noncomputable abbrev ZfM : List Str := ["_law_draw"]
noncomputable abbrev ZcA : List Str := ["_law_draw"]
theorem ZeU : FnScope ZfM ZcA (defScope ZdL) := ⟨rfl, rfl, rfl, by decide +kernel, rfl, by decide +kernel, by decide +kernel⟩
noncomputable def ZdO : FS := (sRet (nX (xOp oIxT (xTup (aConsX (xOp oAdd (xS (wC (.int 1))) (xN (nCallI (noX f__law_take) [0] (aS (aCons (wC (.int 24)) aNil))))) (aConsX (xOp oAdd (xS (wC (.int 1))) (xN (nCallI (noX f__law_take) [0] (aS (aCons (wC (.int 6)) aNil))))) (aConsX (xOp oAdd (xS (wC (.int 3))) (xN (nCallI (noX f__law_take) [0] (aS (aCons (wC (.int 5)) aNil))))) aNilX)))) (xN (nCallI (noX f__law_take) [0] (aS (aCons (wC (.int 3)) aNil)))))))
noncomputable def f__law_size := fnI 1 1 (fun i => Nat.blt i 1) (ZdO)
set_option maxHeartbeats 8000000 in
theorem Zid {f : Addr} {fd : FuncData} (T : Tx mg) (F : Fun K "_law_size" "_law_size" ZdL f fd)
  (C__law_take : Cal P w K mg base "_law_take" 1 Z1 (ISp f__law_take)) : FnOk P w K mg base CX0 2 f fd ZcA (ISp f__law_size) := by
 have nd := ZeU.nd
 refine F.ok ZeU (fun vs H Q E h => h.len) (fun cdv A outer s H vs Q E hr h => ?_)
 have hu := hu_of hr
 refine ⟨_, (pss_one (ps_ret (pe_ix ix_tup (pe_tup (pa_cons (pe_op op_add pe_int (Zk C__law_take (hr.mono (by omega)) (by rfl) (pa_cons (pv 0) (pa_cons pe_int pa_nil)))) (pa_cons (pe_op op_add pe_int (Zk C__law_take (hr.mono (by omega)) (by rfl) (pa_cons (pv 0) (pa_cons pe_int pa_nil)))) (pa_cons (pe_op op_add pe_int (Zk C__law_take (hr.mono (by omega)) (by rfl) (pa_cons (pv 0) (pa_cons pe_int pa_nil)))) pa_nil)))) (Zk C__law_take (hr.mono (by omega)) (by rfl) (pa_cons (pv 0) (pa_cons pe_int pa_nil))) (fun _ _ => rfl)))), ?_⟩
 exact Zac (kp := fun i => Nat.blt i 1) (N := ZfM) (s := ZdO) (Zv (ZZ (ZN (ZA) (Zb5 (Zo (ZN (OpF.ok ZaH) (Zj Zd.w) (ZD (Zm (is := [0]) Zi (Zz (Zb Zd.w Ze))))) (Zo (ZN (OpF.ok ZaH) (Zj Zd.w) (ZD (Zm (is := [0]) Zi (Zz (Zb Zd.w Ze))))) (Zo (ZN (OpF.ok ZaH) (Zj Zd.w) (ZD (Zm (is := [0]) Zi (Zz (Zb Zd.w Ze))))) Zaa)))) (ZD (Zm (is := [0]) Zi (Zz (Zb Zd.w Ze))))))) h
noncomputable abbrev ZeX : Stmt := top 13
noncomputable abbrev Zk0 : List Str := ["number", "low", "high"]
noncomputable abbrev ZbO : List Str := ["number", "low", "high"]
theorem ZgA : FnScope Zk0 ZbO (defScope ZeX) := ⟨rfl, rfl, rfl, by decide +kernel, rfl, by decide +kernel, by decide +kernel⟩
noncomputable def ZaK (ds : List PyData) (d : PyData) : Prop := ∃ a lo hi : Int, ds = [.int a, .int lo, .int hi] ∧ d = .bool (decide (lo ≤ a) && decide (a ≤ hi))
theorem Zky {f : Addr} {fd : FuncData} (T : Tx mg) (F : Fun K "between" "between" ZeX f fd) : FnOk P w K mg base CX0 1 f fd ZbO (PSp ZaK) := by
 have nd := ZgA.nd
 refine F.ok ZgA (fun vs H Q E h => ?_) (fun cdv A outer s H vs Q E hr h => ?_)
 ·obtain ⟨G, ds, d, gh, dv, ⟨a, lo, hi, rfl, _⟩, _⟩ := h
  exact dv.len
 ·obtain ⟨G, ds, d, gh, dv, ⟨a, lo, hi, rfl, rfl⟩, q⟩ := h
  obtain ⟨v0, v1, v2, rfl, d0, d1, d2⟩ := dv.three
  refine ⟨_, (pss_one (ps_ret (pe_chain op_le op_le (pv 1) (pv 0) (pv 2)))), ?_⟩
  exact Zdx gh (ZmF (f := fun i j => decide (i ≤ j)) (g := fun i j => decide (i ≤ j)) (Zl rfl d1) (Zl rfl d0) fun _ => Zl rfl d2) q
noncomputable abbrev ZdP : Stmt := top 14
noncomputable abbrev Zjb : List Str := ["size"]
noncomputable abbrev ZcC : List Str := ["size"]
theorem ZeL : FnScope Zjb ZcC (defScope ZdP) := ⟨rfl, rfl, rfl, by decide +kernel, rfl, by decide +kernel, by decide +kernel⟩
noncomputable def sizeB (n : Int) : Bool := decide (1 ≤ n) && decide (n ≤ 24)
noncomputable def Zcz (C : Addr) (ds : List PyData) (o : PyData ⊕ Addr) : Prop := ∃ n : Int, ds = [.int n] ∧ o = if sizeB n then .inl .none else .inr C
theorem ZiW {f : Addr} {fd : FuncData} {cBadSize : Addr} (T : Tx mg) (F : Fun K "need_size" "need_size" ZdP f fd) (C_between : Cal P w K mg base "between" 1 ZbO (PSp ZaK)) (EX_BadSize : ExC K mg "BadSize" cBadSize) : FnOk P w K mg base (L2.CX P w) 2 f fd ZcC (XSp (Zcz cBadSize)) := by
 have nd := ZeL.nd
 refine F.okX ZeL (fun vs H Q E h => ?_) (fun cdv A outer s H vs Q E hr h => ?_)
 ·obtain ⟨G, ds, o, gh, dv, ⟨n, rfl, _⟩, _⟩ := h
  exact dv.len
 ·obtain ⟨G, ds, o, gh, dv, ⟨n, rfl, rfl⟩, q1, q2⟩ := h
  obtain ⟨v0, rfl, d0⟩ := dv.one
  refine ⟨_, (pss_one (ps_if (pt_not (pt_val (Zk C_between (hr.mono (by omega)) (by rfl) (pa_cons (pv 0) (pa_cons pe_int (pa_cons pe_int pa_nil))))))
   (pss_one (ZaL rfl (takes_of rfl rfl rfl rfl) EX_BadSize rfl))
   pss_nil)), ?_⟩
  refine Zrj (b := !sizeB n) gh (ZlO (ZeN (Zfa (ea1 (Zl rfl d0) (ea1 ZkH (ea1 ZkH ea0))) ⟨n, 1, 24, rfl, rfl⟩))) (fun hb H3 go3 => ?_) (fun hb H3 go3 => ?_)
  ·have hb' : sizeB n = false := by simpa using hb
   exact q2 cBadSize (by rw [hb']; rfl) H3 go3.hh
  ·have hb' : sizeB n = true := by simpa using hb
   exact q1 .none (by rw [hb']; rfl) .non H3 go3.hh .non
noncomputable abbrev ZbH : Stmt := inClass (top 23) 0
noncomputable abbrev Zdv : List Str := ["self", "size"]
noncomputable abbrev ZaO : List Str := ["self", "size"]
theorem ZcX : FnScope Zdv ZaO (defScope ZbH) := ⟨rfl, rfl, rfl, by decide +kernel, rfl, by decide +kernel, by decide +kernel⟩
noncomputable def ZbL (cAlbum cBadSize : Addr) : FS := (sSeq (sDropN (nX (xCallX (gR (Zcz cBadSize)) (aS (aCons (wV 1) aNil)))))
  (sSeq (sSetF cAlbum "field" 0 (xS (wV 1)))
  (sSetFN cAlbum "kept" 0 nDct)))
noncomputable def Zap (cAlbum cBadSize : Addr) := fnI 2 2 (fun i => Nat.blt i 1) (ZbL cAlbum cBadSize)
set_option maxHeartbeats 8000000 in
theorem Zft {f : Addr} {fd : FuncData} {cAlbum cBadSize : Addr} (T : Tx mg) (F : Fun K "__init__" "Album.__init__" ZbH f fd)
  (C_need_size : CalX P w K mg base "need_size" 2 ZcC (XSp (Zcz cBadSize)))
  (FL_Album : Fls K cAlbum fl_Album) : FnOk P w K mg base (L2.CX P w) 3 f fd ZaO (ISp (Zap cAlbum cBadSize)) := by
 have nd := ZcX.nd
 refine F.okX ZcX (fun vs H Q E h => h.len) (fun cdv A outer s H vs Q E hr h => ?_)
 have hu := hu_of hr
 refine ⟨_, (pss_cons (ps_expr (Zea C_need_size (hr.mono (by omega)) (by rfl) (takes_of rfl rfl rfl rfl) (pa_cons (pv 1) pa_nil)))
  (pss_cons (ps_fld (pv 0) (pv 1) rfl)
  (pss_one (ps_fld (pv 0) pe_dnewK rfl)))), ?_⟩
 exact Zac (kp := fun i => Nat.blt i 1) (N := Zdv) (s := ZbL cAlbum cBadSize) (Zf (ZaQ (ZZ (Zed ZhC (Zz (Zb (Za (i := 1)) Ze)))))
  (Zf (Zpv (i := 0) FL_Album (by simp) (Zj (Za (i := 1))))
  (ZmC (i := 0) FL_Album (by simp) Zla))) h
noncomputable abbrev Zb1 : Stmt := top 32
noncomputable abbrev Zde : List Str := ["_law_draw", "_law_start", "_law_letters", "_law_k"]
noncomputable abbrev Zb6 : List Str := ["_law_draw"]
theorem Zex : FnScope Zde Zb6 (defScope Zb1) := ⟨rfl, rfl, rfl, by decide +kernel, rfl, by decide +kernel, by decide +kernel⟩
noncomputable def Zdm : FS := (sSeq (sAsg 1 (xN (nCallI (noX f__law_take) [0] (aS (aCons (wC (.int 26)) aNil)))))
  (sSeq (sAsg 2 (xS (wC (.str (Str.ofString "abcdefghijklmnopqrstuvwxyz")))))
  (sRet (nF (wLc (itA rg1 (aCons (wC (.int 10)) aNil)) (bName 3) bYes (wOp oAddS (wOp oIxS (wV 2) (wOp oMod (wOp oAdd (wV 1) (wV 3)) (wC (.int 26)))) (wSl oSlS (wC (.str (Str.ofString "keyblock"))) pNo (pSo (wOp oMod (wOp oAdd (wV 1) (wOp oMul (wC (.int 3)) (wV 3))) (wC (.int 8)))))) [3])))))
noncomputable def f__law_names := fnI 1 4 (fun i => Nat.blt i 1) (Zdm)
set_option maxHeartbeats 8000000 in
theorem Zhw {f : Addr} {fd : FuncData} (T : Tx mg) (F : Fun K "_law_names" "_law_names" Zb1 f fd)
  (C__law_take : Cal P w K mg base "_law_take" 1 Z1 (ISp f__law_take)) : FnOk P w K mg base CX0 2 f fd Zb6 (ISp f__law_names) := by
 have nd := Zex.nd
 refine F.ok Zex (fun vs H Q E h => h.len) (fun cdv A outer s H vs Q E hr h => ?_)
 have hu := hu_of hr
 refine ⟨_, (pss_cons (ps_set (i := 1) nd rfl (.inr rfl) (Zk C__law_take (hr.mono (by omega)) (by rfl) (pa_cons (pv 0) (pa_cons pe_int pa_nil))))
  (pss_cons (ps_set (i := 2) nd rfl (.inr rfl) pe_str)
  (pss_one (ps_ret (pe_lc (own := [("_law_k", 3)]) (g := gName 3) (tt := tYes) (te := (tOp rAddS (tOp rIxS (tVar 2) (tOp (rI (fun _ j => 0 < j) fun i j => .int (i % j)) (tOp (rI0 fun i j => .int (i + j)) (tVar 1) (tVar 3)) (tC (.int 26)))) (tSl rSlS (tC (.str "keyblock")) tNoPart (tPart (tOp (rI (fun _ j => 0 < j) fun i j => .int (i % j)) (tOp (rI0 fun i j => .int (i + j)) (tVar 1) (tOp (rI CMul fun i j => .int (i * j)) (tC (.int 3)) (tVar 3))) (tC (.int 8))))))) (by rfl) nd (pi_range1 (by rfl) T.range (pa_cons pe_int pa_nil)) (blkOk_by (N := Zde) (sc := defScope Zb1) (by decide +kernel)) (fun _ _ _ _ _ => (pg_name (i := 3) nd rfl (.inl rfl))) (fun _ _ _ _ _ => pts_nil) (fun _ _ _ _ _ => (pe_op op_add_str (pe_ix ix_str (pv 2) (pe_op op_mod (pe_op op_add (pv 1) (pv 3)) pe_int) (fun _ _ => rfl)) (pe_slice sl_str pe_str po_none (po_some (pe_op op_mod (pe_op op_add (pv 1) (pe_op op_mul pe_int (pv 3))) pe_int)))))))))), ?_⟩
 exact Zac (kp := fun i => Nat.blt i 1) (N := Zde) (s := Zdm) (Zf (ZI (i := 1) rfl (ZD (Zm (is := [0]) Zi (Zz (Zb Zd.w Ze)))))
  (Zf (ZI (i := 2) rfl (Zj Zq.w))
  (Zv (ZiX (Zgp (vs := [3]) (ZqO (Zb Zd.w Ze)) (Zd1 (j := 3)) (by decide) Zdi (Zg Zpd (Zg Zih (Za (i := 2)) (Zg ZbU (Zg ZaH (Za (i := 1)) (Za (i := 3))).w Zd.w).w).w (ZsT ZqS Zq.w Zfr (Zfi (Zg ZbU (Zg ZaH (Za (i := 1)) (Zg Zbv Zd.w (Za (i := 3))).w).w Zd.w).w)).w).w))))) h
noncomputable abbrev Za0 : Stmt := top 40
noncomputable abbrev ZcI : List Str := ["_law_draw"]
noncomputable abbrev Zat : List Str := ["_law_draw"]
theorem Zcc : FnScope ZcI Zat (defScope Za0) := ⟨rfl, rfl, rfl, by decide +kernel, rfl, by decide +kernel, by decide +kernel⟩
noncomputable def Zbc : FS := (sRet (nX (xOp oCat (xN (nCallI (noX f__law_names) [0] (aS aNil))) (xS (wLst (aCons (wC (.str (Str.ofString "zz"))) (aCons (wC (.str (Str.ofString "zy"))) (aCons (wC (.str (Str.ofString "yz"))) (aCons (wC (.str (Str.ofString "xxxxxxxx"))) aNil)))))))))
noncomputable def f__law_album_names := fnI 1 1 (fun i => Nat.blt i 1) (Zbc)
set_option maxHeartbeats 8000000 in
theorem ZeD {f : Addr} {fd : FuncData} (T : Tx mg) (F : Fun K "_law_album_names" "_law_album_names" Za0 f fd)
  (C__law_names : Cal P w K mg base "_law_names" 2 Zb6 (ISp f__law_names)) : FnOk P w K mg base CX0 3 f fd Zat (ISp f__law_album_names) := by
 have nd := Zcc.nd
 refine F.ok Zcc (fun vs H Q E h => h.len) (fun cdv A outer s H vs Q E hr h => ?_)
 have hu := hu_of hr
 refine ⟨_, (pss_one (ps_ret (pe_op op_cat (Zk C__law_names (hr.mono (by omega)) (by rfl) (pa_cons (pv 0) pa_nil)) (pe_lst (pa_cons pe_str (pa_cons pe_str (pa_cons pe_str (pa_cons pe_str pa_nil)))))))), ?_⟩
 exact Zac (kp := fun i => Nat.blt i 1) (N := ZcI) (s := Zbc) (Zv (ZZ (ZN (OpF.ok ZeQ) (ZD (Zm (is := [0]) Zi (Zz Ze))) (Zj (Zb3 (Zb Zq.w (Zb Zq.w (Zb Zq.w (Zb Zq.w Ze))))).w)))) h
noncomputable abbrev Zav : Stmt := top 30
noncomputable abbrev Za7 : List Str := ["_law_draw", "_law_size_here", "_law_way", "_law_cell"]
noncomputable abbrev Zaw : List Str := ["_law_draw", "_law_size_here"]
theorem Zcb : FnScope Za7 Zaw (defScope Zav) := ⟨rfl, rfl, rfl, by decide +kernel, rfl, by decide +kernel, by decide +kernel⟩
noncomputable def Zax : FS := (sSeq (sAsg 2 (xN (nCallI (noX f__law_take) [0] (aS (aCons (wC (.int 6)) aNil)))))
  (sSeq (sIf (bS (bW (wOp (oEq false) (wV 2) (wC (.int 0)))))
  (sRet (nF (wUn oRg1 (wV 1))))
  sNil)
  (sSeq (sIf (bS (bW (wOp (oEq false) (wV 2) (wC (.int 1)))))
  (sRet (nLst (aConsX (xN (nCallI (noX f__law_take) [0] (aS (aCons (wV 1) aNil)))) aNilX)))
  sNil)
  (sRet (nLcT (iA rg1 (aS (aCons (wV 1) aNil))) (eName 3) (bXx (xOp (oEq false) (xN (nCallI (noX f__law_take) [0] (aS (aCons (wC (.int 2)) aNil)))) (xS (wC (.int 0))))) (xS (wV 3)) [3])))))
noncomputable def f__law_drawn_cells := fnI 2 4 (fun i => Nat.blt i 1) (Zax)
set_option maxHeartbeats 8000000 in
theorem ZeB {f : Addr} {fd : FuncData} (T : Tx mg) (F : Fun K "_law_drawn_cells" "_law_drawn_cells" Zav f fd)
  (C__law_take : Cal P w K mg base "_law_take" 1 Z1 (ISp f__law_take)) : FnOk P w K mg base CX0 2 f fd Zaw (ISp f__law_drawn_cells) := by
 have nd := Zcb.nd
 refine F.ok Zcb (fun vs H Q E h => h.len) (fun cdv A outer s H vs Q E hr h => ?_)
 have hu := hu_of hr
 refine ⟨_, (pss_cons (ps_set (i := 2) nd rfl (.inl rfl) (Zk C__law_take (hr.mono (by omega)) (by rfl) (pa_cons (pv 0) (pa_cons pe_int pa_nil))))
  (pss_cons (ps_if (pt_cmpR op_eq (pv 2) pe_int (nomark _))
   (pss_one (ps_ret (pe_listRg rfl (by rfl) T.list (prg_1 (by rfl) T.range (pv 1)))))
   pss_nil)
  (pss_cons (ps_if (pt_cmpR op_eq (pv 2) pe_int (nomark _))
   (pss_one (ps_ret (pe_lst (pa_cons (Zk C__law_take (hr.mono (by omega)) (by rfl) (pa_cons (pv 0) (pa_cons (pv 1) pa_nil))) pa_nil))))
   pss_nil)
  (pss_one (ps_ret (pe_lc (own := [("_law_cell", 3)]) (g := gName 3) (tt := (tTest (tOp rEq (tCall (ISp f__law_take) [] E0 (tCons (tVar 0) (tCons (tC (.int 2)) tNil))) (tC (.int 0))))) (te := (tVar 3)) (by rfl) nd (pi_range1 (by rfl) T.range (pa_cons (pv 1) pa_nil)) (blkOk_by (N := Za7) (sc := defScope Zav) (by decide +kernel)) (fun _ _ _ _ _ => (pg_name (i := 3) nd rfl (.inl rfl))) (fun _ _ _ _ _ => (pts_one (pt_cmpR op_eq (Zk C__law_take (hr.mono (by omega)) (by rfl) (pa_cons (pv 0) (pa_cons pe_int pa_nil))) pe_int (nomark _)))) (fun _ _ _ _ _ => (pv 3)))))))), ?_⟩
 exact Zac (kp := fun i => Nat.blt i 1) (N := Za7) (s := Zax) (Zf (ZI (i := 2) rfl (ZD (Zm (is := [0]) Zi (Zz (Zb Zd.w Ze)))))
  (Zf (ZB (Z2 (Zs (Zg Z6 (Za (i := 2)) Zd.w).w))
  (Zv (ZiX (Zl4 (Za (i := 1)))))
  Zy)
  (Zf (ZB (Z2 (Zs (Zg Z6 (Za (i := 2)) Zd.w).w))
  (Zv (ZlE (Zo (ZD (Zm (is := [0]) Zi (Zz (Zb (Za (i := 1)) Ze)))) Zaa)))
  Zy)
  (Zv (ZgK (K := K) (vs := [3]) (ZgQ (Zz (Zb (Za (i := 1)) Ze))) (ZaE (j := 3) rfl) (ZdI (ZN (OpF.ok Z6) (ZD (Zm (is := [0]) Zi (Zz (Zb Zd.w Ze)))) (Zj Zd.w))) (Zj (Za (i := 3)))))))) h
noncomputable abbrev Zau : Stmt := top 38
noncomputable abbrev Za8 : List Str := ["_law_draw", "_law_size_here", "_law_a", "_law_cells", "_law_other", "_law_fewer", "_law_cell"]
noncomputable abbrev Zae : List Str := ["_law_draw", "_law_size_here", "_law_a"]
theorem Zcf : FnScope Za8 Zae (defScope Zau) := ⟨rfl, rfl, rfl, by decide +kernel, rfl, by decide +kernel, by decide +kernel⟩
noncomputable def Zar : FS := (sSeq (sAsg 3 (xN (nCallI (noX f__law_drawn_cells) [0] (aS (aCons (wV 1) aNil)))))
  (sSeq (sIf (bAndX (bWk (bW (wOp oNeD0 (wV 2) (wC (.dict []))))) (bXx (xOp (oEq false) (xN (nCallI (noX f__law_take) [0] (aS (aCons (wC (.int 2)) aNil)))) (xS (wC (.int 0))))))
  (sSeq (sAsg 4 (xOp oIxT (xDGetV 2 (xOp oIxL (xN (nFW (wCb cSortDS (aCons (wV 2) aNil)))) (xN (nCallI (noX f__law_take) [0] (aConsX (xW (wCb cLenD (aCons (wV 2) aNil))) aNilX))))) (xS (wC (.int 1)))))
  (sSeq (sIf (bXx (xOp (oEq false) (xN (nCallI (noX f__law_take) [0] (aS (aCons (wC (.int 3)) aNil)))) (xS (wC (.int 0)))))
  (sRet (nF (wCb cList (aCons (wV 4) aNil))))
  sNil)
  (sSeq (sAsg 5 (xN (nLcT (iX asT (xS (wV 4))) (eName 6) (bXx (xOp oGt (xN (nCallI (noX f__law_take) [0] (aS (aCons (wC (.int 4)) aNil)))) (xS (wC (.int 0))))) (xS (wV 6)) [6])))
  (sAsg 3 (xS (wIf (bW (wOp (oEqD true) (wV 5) (wLst aNil))) (wV 5) (wCb cList (aCons (wV 4) aNil))))))))
  sNil)
  (sRet (nIf (bS (bW (wOp (oEqD true) (wV 3) (wLst aNil)))) (nX (xS (wV 3))) (nLst (aConsX (xN (nCallI (noX f__law_take) [0] (aS (aCons (wV 1) aNil)))) aNilX))))))
noncomputable def f__law_print_cells := fnI 3 7 (fun i => Nat.beq i 0 || Nat.beq i 2) (Zar)
set_option maxHeartbeats 8000000 in
theorem ZeF {f : Addr} {fd : FuncData} (T : Tx mg) (F : Fun K "_law_print_cells" "_law_print_cells" Zau f fd)
  (C__law_drawn_cells : Cal P w K mg base "_law_drawn_cells" 2 Zaw (ISp f__law_drawn_cells))
  (C__law_take : Cal P w K mg base "_law_take" 1 Z1 (ISp f__law_take)) : FnOk P w K mg base CX0 3 f fd Zae (ISp f__law_print_cells) := by
 have nd := Zcf.nd
 refine F.ok Zcf (fun vs H Q E h => h.len) (fun cdv A outer s H vs Q E hr h => ?_)
 have hu := hu_of hr
 refine ⟨_, (pss_cons (ps_set (i := 3) nd rfl (.inl rfl) (Zk C__law_drawn_cells (hr.mono (by omega)) (by rfl) (pa_cons (pv 0) (pa_cons (pv 1) pa_nil))))
  (pss_cons (ps_if (PW.pt (pw_and (pt_cmpR (ZfE hr.units) (pv 2) pe_dnewK (nomark _)) (pw_and1 (pt_cmpR op_eq (Zk C__law_take (hr.mono (by omega)) (by rfl) (pa_cons (pv 0) (pa_cons pe_int pa_nil))) pe_int (nomark _)))))
   (pss_cons (ps_set (i := 4) nd rfl (.inl rfl) (pe_ix ix_tup (pe_dget hu (pv 2) (pe_ix ix_list (pe_callB (call_sortedD rfl) (by rfl) T.sorted (by decide +kernel) (pa_cons (pv 2) pa_nil)) (Zk C__law_take (hr.mono (by omega)) (by rfl) (pa_cons (pv 0) (pa_cons (pe_callB call_lenD (by rfl) T.len PySem.boot_len (pa_cons (pv 2) pa_nil)) pa_nil))) (fun _ _ => rfl)) (fun _ _ => rfl)) pe_int (fun _ _ => rfl)))
   (pss_cons (ps_if (pt_cmpR op_eq (Zk C__law_take (hr.mono (by omega)) (by rfl) (pa_cons (pv 0) (pa_cons pe_int pa_nil))) pe_int (nomark _))
    (pss_one (ps_ret (pe_callTy call_list_of (by rfl) T.list (by decide +kernel) (pa_cons (pv 4) pa_nil))))
    pss_nil)
   (pss_cons (ps_setLc (i := 5) (own := [("_law_cell", 6)]) (g := gName 6) (tt := (tTest (tOp (rI0 fun i j => .bl (decide (j < i))) (tCall (ISp f__law_take) [] E0 (tCons (tVar 0) (tCons (tC (.int 4)) tNil))) (tC (.int 0))))) (te := (tVar 6)) (by rfl) nd rfl rfl (sw_true rfl rfl rfl (by decide +kernel)) (pi_tup (pv 4)) (blkOk_by (N := Za8) (sc := defScope Zau) (by decide +kernel)) (fun _ _ _ _ _ => (pg_name (i := 6) nd rfl (.inl rfl))) (fun _ _ _ _ _ => (pts_one (pt_cmpR op_gt (Zk C__law_take (hr.mono (by omega)) (by rfl) (pa_cons (pv 0) (pa_cons pe_int pa_nil))) pe_int (nomark _)))) (fun _ _ _ _ _ => (pv 6)))
   (pss_one (ps_set (i := 3) nd rfl (.inl rfl) (pe_ifExp (pt_cmpR (op_neD hr.units) (pv 5) (pe_lst pa_nil) (nomark _)) (pv 5) (pe_callTy call_list_of (by rfl) T.list (by decide +kernel) (pa_cons (pv 4) pa_nil))))))))
   pss_nil)
  (pss_one (ps_ret (pe_ifExp (pt_cmpR (op_neD hr.units) (pv 3) (pe_lst pa_nil) (nomark _)) (pv 3) (pe_lst (pa_cons (Zk C__law_take (hr.mono (by omega)) (by rfl) (pa_cons (pv 0) (pa_cons (pv 1) pa_nil))) pa_nil))))))), ?_⟩
 exact Zac (kp := fun i => Nat.beq i 0 || Nat.beq i 2) (N := Za8) (s := Zar) (Zf (ZI (i := 3) rfl (ZD (Zm (is := [0]) Zi (Zz (Zb (Za (i := 1)) Ze)))))
  (Zf (ZB (Zoi (ZdQ (Zs (Zg Zjm (Za (i := 2)) ZjG.w).w)) (ZdI (ZN (OpF.ok Z6) (ZD (Zm (is := [0]) Zi (Zz (Zb Zd.w Ze)))) (Zj Zd.w))))
  (Zf (ZI (i := 4) rfl (ZN (ZA) (Zm6 (i := 2) (ZN (Z3) (ZD (ZhG (ZQ ZdE (Zb (Za (i := 2)) Ze)))) (ZD (Zm (is := [0]) Zi (Zo (ZcT (ZQ Zfj (Zb (Za (i := 2)) Ze)).w) Zaa))))) (Zj Zd.w)))
  (Zf (ZB (ZdI (ZN (OpF.ok Z6) (ZD (Zm (is := [0]) Zi (Zz (Zb Zd.w Ze)))) (Zj Zd.w)))
  (Zv (ZiX (ZQ Zg3 (Zb (Za (i := 4)) Ze))))
  Zy)
  (Zf (ZI (i := 5) rfl (ZD (ZgK (K := K) (vs := [6]) (ZnX (Zj (Za (i := 4)))) (ZaE (j := 6) rfl) (ZdI (ZN (OpF.ok ZhD) (ZD (Zm (is := [0]) Zi (Zz (Zb Zd.w Ze)))) (Zj Zd.w))) (Zj (Za (i := 6))))))
  (ZI (i := 3) rfl (Zj (Zkk (Zs (Zg Zix (Za (i := 5)) (Zb3 Ze).w).w) (Za (i := 5)) (ZQ Zg3 (Zb (Za (i := 4)) Ze)).w))))))
  Zy)
  (Zv (ZsL (Z2 (Zs (Zg Zix (Za (i := 3)) (Zb3 Ze).w).w)) (ZZ (Zj (Za (i := 3)))) (ZlE (Zo (ZD (Zm (is := [0]) Zi (Zz (Zb (Za (i := 1)) Ze)))) Zaa)))))) h
noncomputable abbrev Zbq : Stmt := top 39
noncomputable abbrev ZcY : List Str := ["_law_draw", "_law_size_here", "_law_a", "_law_names_here", "_law_way", "_law_name", "_law_ink"]
noncomputable abbrev ZaC : List Str := ["_law_draw", "_law_size_here", "_law_a", "_law_names_here"]
theorem ZcO : FnScope ZcY ZaC (defScope Zbq) := ⟨rfl, rfl, rfl, by decide +kernel, rfl, by decide +kernel, by decide +kernel⟩
noncomputable def ZaD : FS := (sSeq (sAsg 4 (xN (nCallI (noX f__law_take) [0] (aS (aCons (wC (.int 9)) aNil)))))
  (sSeq (sAsg 5 (xOp oIxL (xS (wV 3)) (xN (nCallI (noX f__law_take) [0] (aS (aCons (wCb cLen (aCons (wV 3) aNil)) aNil))))))
  (sSeq (sIf (bWk (bAnd (bW (wOp oGt (wV 4) (wC (.int 5)))) (bW (wOp oNeD0 (wV 2) (wC (.dict []))))))
  (sAsg 5 (xOp oIxL (xN (nFW (wCb cSortDS (aCons (wV 2) aNil)))) (xN (nCallI (noX f__law_take) [0] (aConsX (xW (wCb cLenD (aCons (wV 2) aNil))) aNilX)))))
  sNil)
  (sSeq (sAsg 6 (xOp oIxS (xS (wC (.str (Str.ofString "abcdefghijklmnopqrstuvwxyz")))) (xN (nCallI (noX f__law_take) [0] (aS (aCons (wC (.int 26)) aNil))))))
  (sSeq (sIf (bS (bW (wOp (oEq false) (wV 4) (wC (.int 6)))))
  (sRet (nX (xTup (aConsX (xS (wC (.str (Str.ofString "amend")))) (aConsX (xS (wV 5)) (aConsX (xS (wV 6)) (aConsX (xN (nCallI (prm [true, false, true] (noX f__law_print_cells)) [0, 2] (aOwn 0 (aConsX (xS (wV 1)) (aOwn 2 aNilX))))) aNilX)))))))
  sNil)
  (sSeq (sIf (bS (bW (wOp (oEq false) (wV 4) (wC (.int 7)))))
  (sRet (nX (xTup (aConsX (xS (wC (.str (Str.ofString "date")))) (aConsX (xS (wV 5)) (aConsX (xOp oIxT (xTup (aConsX (xS (wC .none)) (aConsX (xN (nCallI (noX f__law_take) [0] (aS (aCons (wC (.int 10000)) aNil)))) (aConsX (xN (nCallI (noX f__law_take) [0] (aS (aCons (wC (.int 5)) aNil)))) aNilX)))) (xN (nCallI (noX f__law_take) [0] (aS (aCons (wC (.int 3)) aNil))))) aNilX))))))
  sNil)
  (sSeq (sIf (bS (bW (wOp (oEq false) (wV 4) (wC (.int 8)))))
  (sRet (nX (xS (wTup (aCons (wC (.str (Str.ofString "strike"))) (aCons (wV 5) aNil))))))
  sNil)
  (sRet (nX (xTup (aConsX (xS (wC (.str (Str.ofString "add")))) (aConsX (xS (wV 5)) (aConsX (xS (wV 6)) (aConsX (xN (nCallI (prm [true, false, true] (noX f__law_print_cells)) [0, 2] (aOwn 0 (aConsX (xS (wV 1)) (aOwn 2 aNilX))))) aNilX))))))))))))))
noncomputable def f__law_album_next := fnI 4 7 (fun i => Nat.beq i 0 || Nat.beq i 2) (ZaD)
set_option maxHeartbeats 8000000 in
theorem ZeJ {f : Addr} {fd : FuncData} (T : Tx mg) (F : Fun K "_law_album_next" "_law_album_next" Zbq f fd)
  (C__law_take : Cal P w K mg base "_law_take" 1 Z1 (ISp f__law_take))
  (C__law_print_cells : Cal P w K mg base "_law_print_cells" 3 Zae (ISp f__law_print_cells)) : FnOk P w K mg base CX0 4 f fd ZaC (ISp f__law_album_next) := by
 have nd := ZcO.nd
 refine F.ok ZcO (fun vs H Q E h => h.len) (fun cdv A outer s H vs Q E hr h => ?_)
 have hu := hu_of hr
 refine ⟨_, (pss_cons (ps_set (i := 4) nd rfl (.inl rfl) (Zk C__law_take (hr.mono (by omega)) (by rfl) (pa_cons (pv 0) (pa_cons pe_int pa_nil))))
  (pss_cons (ps_set (i := 5) nd rfl (.inl rfl) (pe_ix ix_list (pv 3) (Zk C__law_take (hr.mono (by omega)) (by rfl) (pa_cons (pv 0) (pa_cons (pe_callB call_len_seq (by rfl) T.len PySem.boot_len (pa_cons (pv 3) pa_nil)) pa_nil))) (fun _ _ => rfl)))
  (pss_cons (ps_if (PW.pt (pw_and (pt_cmpR op_gt (pv 4) pe_int (nomark _)) (pw_and1 (pt_cmpR (ZfE hr.units) (pv 2) pe_dnewK (nomark _)))))
   (pss_one (ps_set (i := 5) nd rfl (.inl rfl) (pe_ix ix_list (pe_callB (call_sortedD rfl) (by rfl) T.sorted (by decide +kernel) (pa_cons (pv 2) pa_nil)) (Zk C__law_take (hr.mono (by omega)) (by rfl) (pa_cons (pv 0) (pa_cons (pe_callB call_lenD (by rfl) T.len PySem.boot_len (pa_cons (pv 2) pa_nil)) pa_nil))) (fun _ _ => rfl))))
   pss_nil)
  (pss_cons (ps_set (i := 6) nd rfl (.inl rfl) (pe_ix ix_str pe_str (Zk C__law_take (hr.mono (by omega)) (by rfl) (pa_cons (pv 0) (pa_cons pe_int pa_nil))) (fun _ _ => rfl)))
  (pss_cons (ps_if (pt_cmpR op_eq (pv 4) pe_int (nomark _))
   (pss_one (ps_ret (pe_tup (pa_cons pe_str (pa_cons (pv 5) (pa_cons (pv 6) (pa_cons (Zk C__law_print_cells (hr.mono (by omega)) (by rfl) (pa_cons (pv 0) (pa_cons (pv 1) (pa_cons (pv 2) pa_nil)))) pa_nil)))))))
   pss_nil)
  (pss_cons (ps_if (pt_cmpR op_eq (pv 4) pe_int (nomark _))
   (pss_one (ps_ret (pe_tup (pa_cons pe_str (pa_cons (pv 5) (pa_cons (pe_ix ix_tup (pe_tup (pa_cons pe_non (pa_cons (Zk C__law_take (hr.mono (by omega)) (by rfl) (pa_cons (pv 0) (pa_cons pe_int pa_nil))) (pa_cons (Zk C__law_take (hr.mono (by omega)) (by rfl) (pa_cons (pv 0) (pa_cons pe_int pa_nil))) pa_nil)))) (Zk C__law_take (hr.mono (by omega)) (by rfl) (pa_cons (pv 0) (pa_cons pe_int pa_nil))) (fun _ _ => rfl)) pa_nil))))))
   pss_nil)
  (pss_cons (ps_if (pt_cmpR op_eq (pv 4) pe_int (nomark _))
   (pss_one (ps_ret (pe_tup (pa_cons pe_str (pa_cons (pv 5) pa_nil)))))
   pss_nil)
  (pss_one (ps_ret (pe_tup (pa_cons pe_str (pa_cons (pv 5) (pa_cons (pv 6) (pa_cons (Zk C__law_print_cells (hr.mono (by omega)) (by rfl) (pa_cons (pv 0) (pa_cons (pv 1) (pa_cons (pv 2) pa_nil)))) pa_nil)))))))))))))), ?_⟩
 exact Zac (kp := fun i => Nat.beq i 0 || Nat.beq i 2) (N := ZcY) (s := ZaD) (Zf (ZI (i := 4) rfl (ZD (Zm (is := [0]) Zi (Zz (Zb Zd.w Ze)))))
  (Zf (ZI (i := 5) rfl (ZN (Z3) (Zj (Za (i := 3))) (ZD (Zm (is := [0]) Zi (Zz (Zb (ZQ Zge (Zb (Za (i := 3)) Ze)).w Ze))))))
  (Zf (ZB (ZdQ (ZdV (Zs (Zg ZhD (Za (i := 4)) Zd.w).w) (Zs (Zg Zjm (Za (i := 2)) ZjG.w).w)))
  (ZI (i := 5) rfl (ZN (Z3) (ZD (ZhG (ZQ ZdE (Zb (Za (i := 2)) Ze)))) (ZD (Zm (is := [0]) Zi (Zo (ZcT (ZQ Zfj (Zb (Za (i := 2)) Ze)).w) Zaa)))))
  Zy)
  (Zf (ZI (i := 6) rfl (ZN (OpF.ok Zih) (Zj Zq.w) (ZD (Zm (is := [0]) Zi (Zz (Zb Zd.w Ze))))))
  (Zf (ZB (Z2 (Zs (Zg Z6 (Za (i := 4)) Zd.w).w))
  (Zv (ZZ (Zb5 (Zo (Zj Zq.w) (Zo (Zj (Za (i := 5))) (Zo (Zj (Za (i := 6))) (Zo (ZD (Zci Zi (Zbt (i := 0) (ZbW (Zj (Za (i := 1))) (Zbt (i := 2) Zeb))))) Zaa)))))))
  Zy)
  (Zf (ZB (Z2 (Zs (Zg Z6 (Za (i := 4)) Zd.w).w))
  (Zv (ZZ (Zb5 (Zo (Zj Zq.w) (Zo (Zj (Za (i := 5))) (Zo (ZN (ZA) (Zb5 (Zo (Zj ZbZ.w) (Zo (ZD (Zm (is := [0]) Zi (Zz (Zb Zd.w Ze)))) (Zo (ZD (Zm (is := [0]) Zi (Zz (Zb Zd.w Ze)))) Zaa)))) (ZD (Zm (is := [0]) Zi (Zz (Zb Zd.w Ze))))) Zaa))))))
  Zy)
  (Zf (ZB (Z2 (Zs (Zg Z6 (Za (i := 4)) Zd.w).w))
  (Zv (ZZ (Zj (ZaW (Zb Zq.w (Zb (Za (i := 5)) Ze))).w)))
  Zy)
  (Zv (ZZ (Zb5 (Zo (Zj Zq.w) (Zo (Zj (Za (i := 5))) (Zo (Zj (Za (i := 6))) (Zo (ZD (Zci Zi (Zbt (i := 0) (ZbW (Zj (Za (i := 1))) (Zbt (i := 2) Zeb))))) Zaa)))))))))))))) h
noncomputable abbrev Za3 : Stmt := inClass (top 23) 2
noncomputable abbrev ZcL : List Str := ["self", "name"]
noncomputable abbrev Z5 : List Str := ["self", "name"]
theorem Zca : FnScope ZcL Z5 (defScope Za3) := ⟨rfl, rfl, rfl, by decide +kernel, rfl, by decide +kernel, by decide +kernel⟩
noncomputable def Za4 (cAlbum cNoPrint : Addr) : FS := (sIf (bWk (bW (wOp (oDIn true) (wV 1) (wUn (oFld cAlbum "kept") (wV 0)))))
  (sRaise cNoPrint)
  sNil)
noncomputable def ZJ (cAlbum cNoPrint : Addr) := fnI 2 2 (fun i => Nat.blt i 1) (Za4 cAlbum cNoPrint)
set_option maxHeartbeats 8000000 in
theorem ZeC {f : Addr} {fd : FuncData} {cAlbum cNoPrint : Addr} (T : Tx mg) (F : Fun K "need_print" "Album.need_print" Za3 f fd)
  (EX_NoPrint : ExC K mg "NoPrint" cNoPrint)
  (FL_Album : Fls K cAlbum fl_Album) : FnOk P w K mg base (L2.CX P w) 1 f fd Z5 (ISp (ZJ cAlbum cNoPrint)) := by
 have nd := Zca.nd
 refine F.okX Zca (fun vs H Q E h => h.len) (fun cdv A outer s H vs Q E hr h => ?_)
 have hu := hu_of hr
 refine ⟨_, (pss_one (ps_if (pt_cmp (pc_dnotin hu (pv 1) (pe_fld (pv 0) rfl)))
   (pss_one (ZaL rfl (takes_of rfl rfl rfl rfl) EX_NoPrint rfl))
   pss_nil)), ?_⟩
 exact Zac (kp := fun i => Nat.blt i 1) (N := ZcL) (s := Za4 cAlbum cNoPrint) (ZB (ZdQ (ZbY (Zk3 (Za (i := 1)) (Zd2 FL_Album (by simp) (Za (i := 0))))))
  ZbC
  Zy) h
noncomputable abbrev Zcu : Stmt := inClass (top 23) 7
noncomputable abbrev Zd7 : List Str := ["self", "name"]
noncomputable abbrev Zbg : List Str := ["self", "name"]
theorem ZdK : FnScope Zd7 Zbg (defScope Zcu) := ⟨rfl, rfl, rfl, by decide +kernel, rfl, by decide +kernel, by decide +kernel⟩
noncomputable def Zco (cAlbum cNoPrint : Addr) : FS := (sSeq (sDropN (nAsk cAlbum "need_print" 0 (nCallI (ZJ cAlbum cNoPrint) [0] (aS (aCons (wV 1) aNil)))))
  (sDPopP (pF cAlbum "kept" (pV 0)) (wV 1)))
noncomputable def ZaI (cAlbum cNoPrint : Addr) := fnI 2 2 (fun i => Nat.blt i 1) (Zco cAlbum cNoPrint)
set_option maxHeartbeats 8000000 in
theorem Zgg {f : Addr} {fd : FuncData} {cAlbum cNoPrint : Addr} (T : Tx mg) (F : Fun K "strike" "Album.strike" Zcu f fd)
  (C_Album_need_print : CalMX P w K mg base cAlbum "need_print" 1 Z5 (ISp (ZJ cAlbum cNoPrint)))
  (FL_Album : Fls K cAlbum fl_Album) : FnOk P w K mg base (L2.CX P w) 2 f fd Zbg (ISp (ZaI cAlbum cNoPrint)) := by
 have nd := ZdK.nd
 refine F.okX ZdK (fun vs H Q E h => h.len) (fun cdv A outer s H vs Q E hr h => ?_)
 have hu := hu_of hr
 refine ⟨_, (pss_cons (ps_expr (Zbn C_Album_need_print (hr.mono (by omega)) (takes_of rfl rfl rfl rfl) (pv 0) (pa_cons (pv 1) pa_nil)))
  (pss_one (ps_expr (pe_dpop1 (pe_fld (pv 0) rfl) (pv 1) ⟨rfl, rfl, rfl, rfl⟩)))), ?_⟩
 exact Zac (kp := fun i => Nat.blt i 1) (N := Zd7) (s := Zco cAlbum cNoPrint) (Zf (ZaQ (Zbh (Zal (is := [0]) Zi (Zz (Zb (Za (i := 1)) Ze)))))
  (Zh1 (ZdU FL_Album (by simp) (ZaF (i := 0))) (Za (i := 1)))) h
noncomputable abbrev Zc0 : Stmt := top 21
noncomputable abbrev Zem : List Str := ["size", "cells", "cell"]
noncomputable abbrev Zc2 : List Str := ["size", "cells"]
theorem ZfB : FnScope Zem Zc2 (defScope Zc0) := ⟨rfl, rfl, rfl, by decide +kernel, rfl, by decide +kernel, by decide +kernel⟩
noncomputable def Zev : FS := (sRet (nX (xS (wCb cAll (aCons (wLc (itQ (wV 1)) (bName 2) bYes (wChain oLe oLt (wC (.int 0)) (wV 2) (wV 0)) [2]) aNil)))))
noncomputable def f_in_field := fnD 2 3 (Zev)
set_option maxHeartbeats 8000000 in
theorem Zi6 {f : Addr} {fd : FuncData} (T : Tx mg) (F : Fun K "in_field" "in_field" Zc0 f fd) : FnOk P w K mg base CX0 1 f fd Zc2 (PSp fun ds d => f_in_field ds = some d) := by
 have nd := ZfB.nd
 refine F.ok ZfB (fun vs H Q E ⟨G, ds, d, _, dv, hd, _⟩ => by rw [dv.len]; exact (Z4 hd).1) (fun cdv A outer s H vs Q E hr h => ?_)
 have hu := hu_of hr
 obtain ⟨G, ds, d, gh, dv, hd, q⟩ := h
 refine ⟨_, (pss_one (ps_ret (pe_callB (cr_all rfl) (by rfl) T.all (by decide +kernel) (pa_cons (pe_lc (own := [("cell", 2)]) (g := gName 2) (tt := tYes) (te := (tChain (rI0 fun i j => .bl (decide (i ≤ j))) (rI0 fun i j => .bl (decide (i < j))) (tC (.int 0)) (tVar 2) (tVar 0))) (by rfl) nd (Zrt (pv 1)) (blkOk_by (N := Zem) (sc := defScope Zc0) (by decide +kernel)) (fun _ _ _ _ _ => (pg_name (i := 2) nd rfl (.inl rfl))) (fun _ _ _ _ _ => pts_nil) (fun _ _ _ _ _ => (pe_chain op_le op_lt pe_int (pv 2) (pv 0)))) pa_nil)))), ?_⟩
 exact Zdg (kp := fun _ => false) (N := Zem) (s := Zev) (Zv (ZZ (Zj (ZQ Zgy (Zb (Zgp (vs := [2]) (Zp9 (Za (i := 1))) (Zd1 (j := 2)) (by decide) Zdi (Zen (OpF.ok Zfp) (OpF.ok ZhE) Zd.w (Za (i := 2)) (Za (i := 0)))).w Ze)).w))) gh dv hd q
noncomputable abbrev Zbb : Stmt := inClass (top 23) 3
noncomputable abbrev ZcM : List Str := ["self", "cells"]
noncomputable abbrev Zad : List Str := ["self", "cells"]
theorem Zcd : FnScope ZcM Zad (defScope Zbb) := ⟨rfl, rfl, rfl, by decide +kernel, rfl, by decide +kernel, by decide +kernel⟩
noncomputable def Zba (cAlbum cBadCells : Addr) : FS := (sIf (bWk (bOr (bW (wOp (oEq false) (wCb cLen (aCons (wV 1) aNil)) (wC (.int 0)))) (bNot (bW (wCb f_in_field (aCons (wUn (oFld cAlbum "field") (wV 0)) (aCons (wV 1) aNil)))))))
  (sRaise cBadCells)
  sNil)
noncomputable def ZV (cAlbum cBadCells : Addr) := fnI 2 2 (fun i => Nat.blt i 1) (Zba cAlbum cBadCells)
set_option maxHeartbeats 8000000 in
theorem ZeE {f : Addr} {fd : FuncData} {cAlbum cBadCells : Addr} (T : Tx mg) (F : Fun K "need_cells" "Album.need_cells" Zbb f fd)
  (C_in_field : Cal P w K mg base "in_field" 1 Zc2 (PSp fun ds d => f_in_field ds = some d))
  (EX_BadCells : ExC K mg "BadCells" cBadCells)
  (FL_Album : Fls K cAlbum fl_Album) : FnOk P w K mg base (L2.CX P w) 2 f fd Zad (ISp (ZV cAlbum cBadCells)) := by
 have nd := Zcd.nd
 refine F.okX Zcd (fun vs H Q E h => h.len) (fun cdv A outer s H vs Q E hr h => ?_)
 have hu := hu_of hr
 refine ⟨_, (pss_one (ps_if (PW.pt (pw_or (pt_cmpR op_eq (pe_callB call_len_seq (by rfl) T.len PySem.boot_len (pa_cons (pv 1) pa_nil)) pe_int (nomark _)) (pw_or1 (pt_not (pt_val (Zk C_in_field (hr.mono (by omega)) (by rfl) (pa_cons (pe_fld (pv 0) rfl) (pa_cons (pv 1) pa_nil))))))))
   (pss_one (ZaL rfl (takes_of rfl rfl rfl rfl) EX_BadCells rfl))
   pss_nil)), ?_⟩
 exact Zac (kp := fun i => Nat.blt i 1) (N := ZcM) (s := Zba cAlbum cBadCells) (ZB (ZdQ (ZhF (Zs (Zg Z6 (ZQ Zge (Zb (Za (i := 1)) Ze)).w Zd.w).w) (Zdj (ZbY (ZbI (fun h => h) (Zb (Zd2 FL_Album (by simp) (Za (i := 0))) (Zb (Za (i := 1)) Ze)))))))
  ZbC
  Zy) h
noncomputable abbrev ZdD : Stmt := top 17
noncomputable abbrev ZeY : List Str := ["name", "sign"]
noncomputable abbrev ZdB : List Str := ["name"]
theorem Zgm : FnScope ZeY ZdB (defScope ZdD) := ⟨rfl, rfl, rfl, by decide +kernel, rfl, by decide +kernel, by decide +kernel⟩
noncomputable def ZeV : FS := (sRet (nX (xS (wAnd (wCb (gR ZaK) (aCons (wCb cLenS (aCons (wV 0) aNil)) (aCons (wC (.int 1)) (aCons (wC (.int 8)) aNil)))) (wCb cAll (aCons (wLc (itS (wV 0)) (bName 1) bYes (wOp (oInSg false) (wV 1) (wC (.str (Str.ofString "abcdefghijklmnopqrstuvwxyz")))) [1]) aNil))))))
noncomputable def f_is_name := fnD 1 2 (ZeV)
set_option maxHeartbeats 8000000 in
theorem Zkt {f : Addr} {fd : FuncData} (T : Tx mg) (F : Fun K "is_name" "is_name" ZdD f fd)
  (C_between : Cal P w K mg base "between" 1 ZbO (PSp ZaK))
  (GL_LETTERS : GlV mg "LETTERS" (.str (Str.ofString "abcdefghijklmnopqrstuvwxyz"))) : FnOk P w K mg base CX0 2 f fd ZdB (PSp fun ds d => f_is_name ds = some d) := by
 have nd := Zgm.nd
 refine F.ok Zgm (fun vs H Q E ⟨G, ds, d, _, dv, hd, _⟩ => by rw [dv.len]; exact (Z4 hd).1) (fun cdv A outer s H vs Q E hr h => ?_)
 have hu := hu_of hr
 obtain ⟨G, ds, d, gh, dv, hd, q⟩ := h
 refine ⟨_, (pss_one (ps_ret (pe_and (Zk C_between (hr.mono (by omega)) (by rfl) (pa_cons (pe_callB call_len_str (by rfl) T.len PySem.boot_len (pa_cons (pv 0) pa_nil)) (pa_cons pe_int (pa_cons pe_int pa_nil)))) (pe_one (pe_callB (cr_all rfl) (by rfl) T.all (by decide +kernel) (pa_cons (pe_lc (own := [("sign", 1)]) (g := gName 1) (tt := tYes) (te := (tOp rInSign (tVar 1) (tC (.str (Str.ofString "abcdefghijklmnopqrstuvwxyz"))))) (by rfl) nd (pi_str (pv 0)) (blkOk_by (N := ZeY) (sc := defScope ZdD) (by decide +kernel)) (fun _ _ _ _ _ => (pg_name (i := 1) nd rfl (.inl rfl))) (fun _ _ _ _ _ => pts_nil) (fun _ _ _ _ _ => (pe_cmpR op_in_sign (pv 1) (Kb.pe_globS rfl GL_LETTERS) rfl))) pa_nil)))))), ?_⟩
 exact Zdg (kp := fun _ => false) (N := ZeY) (s := ZeV) (Zv (ZZ (Zj (ZhP (ZbI ZhC (Zb (ZQ Zfo (Zb (Za (i := 0)) Ze)).w (Zb Zd.w (Zb Zd.w Ze)))) (ZQ Zgy (Zb (Zgp (vs := [1]) (Zlc (Za (i := 0))) (Zd1 (j := 1)) (by decide) Zdi (Zg ZgN (Za (i := 1)) Zq.w).w).w Ze)).w)))) gh dv hd q
noncomputable abbrev ZdM : Stmt := top 18
noncomputable abbrev ZfK : List Str := ["name"]
noncomputable abbrev Zcx : List Str := ["name"]
theorem ZeI : FnScope ZfK Zcx (defScope ZdM) := ⟨rfl, rfl, rfl, by decide +kernel, rfl, by decide +kernel, by decide +kernel⟩
noncomputable def ZdT (cBadName : Addr) : FS := (sIf (bS (bNot (bW (wCb f_is_name (aCons (wV 0) aNil)))))
  (sRaise cBadName)
  sNil)
noncomputable def Zbu (cBadName : Addr) := fnX 1 1 (ZdT cBadName)
set_option maxHeartbeats 8000000 in
theorem ZhV {f : Addr} {fd : FuncData} {cBadName : Addr} (T : Tx mg) (F : Fun K "need_name" "need_name" ZdM f fd)
  (C_is_name : Cal P w K mg base "is_name" 2 ZdB (PSp fun ds d => f_is_name ds = some d))
  (EX_BadName : ExC K mg "BadName" cBadName) : FnOk P w K mg base (L2.CX P w) 3 f fd Zcx (XSp fun ds d => (Zbu cBadName) ds = some d) := by
 have nd := ZeI.nd
 refine F.okX ZeI (fun vs H Q E ⟨G, ds, d, _, dv, hd, _⟩ => by rw [dv.len]; exact (Z4 hd).1) (fun cdv A outer s H vs Q E hr h => ?_)
 have hu := hu_of hr
 obtain ⟨G, ds, d, gh, dv, hd, q1, q2⟩ := h
 refine ⟨_, (pss_one (ps_if (pt_not (pt_val (Zk C_is_name (hr.mono (by omega)) (by rfl) (pa_cons (pv 0) pa_nil))))
   (pss_one (ZaL rfl (takes_of rfl rfl rfl rfl) EX_BadName rfl))
   pss_nil)), ?_⟩
 exact Znr (kp := fun _ => false) (N := ZfK) (s := ZdT cBadName) (ZB (Z2 (Zdj (ZbY (ZbI (fun h => h) (Zb (Za (i := 0)) Ze)))))
  ZbC
  Zy) gh dv hd q1 q2
noncomputable abbrev Zf1 : Stmt := top 15
noncomputable abbrev ZhT : List Str := ["ink"]
noncomputable abbrev Zet : List Str := ["ink"]
theorem Zhe : FnScope ZhT Zet (defScope Zf1) := ⟨rfl, rfl, rfl, by decide +kernel, rfl, by decide +kernel, by decide +kernel⟩
noncomputable def Zeo : FS := (sRet (nX (xS (wAnd (wOp (oEq false) (wCb cLenS (aCons (wV 0) aNil)) (wC (.int 1))) (wOp (oInSg false) (wV 0) (wC (.str (Str.ofString "abcdefghijklmnopqrstuvwxyz"))))))))
noncomputable def f_is_ink := fnD 1 1 (Zeo)
set_option maxHeartbeats 8000000 in
theorem ZkU {f : Addr} {fd : FuncData} (T : Tx mg) (F : Fun K "is_ink" "is_ink" Zf1 f fd)
  (GL_LETTERS : GlV mg "LETTERS" (.str (Str.ofString "abcdefghijklmnopqrstuvwxyz"))) : FnOk P w K mg base CX0 1 f fd Zet (PSp fun ds d => f_is_ink ds = some d) := by
 have nd := Zhe.nd
 refine F.ok Zhe (fun vs H Q E ⟨G, ds, d, _, dv, hd, _⟩ => by rw [dv.len]; exact (Z4 hd).1) (fun cdv A outer s H vs Q E hr h => ?_)
 have hu := hu_of hr
 obtain ⟨G, ds, d, gh, dv, hd, q⟩ := h
 refine ⟨_, (pss_one (ps_ret (pe_and (pe_cmpR op_eq (pe_callB call_len_str (by rfl) T.len PySem.boot_len (pa_cons (pv 0) pa_nil)) pe_int (nomark _)) (pe_one (pe_cmpR op_in_sign (pv 0) (Kb.pe_globS rfl GL_LETTERS) rfl))))), ?_⟩
 exact Zdg (kp := fun _ => false) (N := ZhT) (s := Zeo) (Zv (ZZ (Zj (ZhP (Zg Z6 (ZQ Zfo (Zb (Za (i := 0)) Ze)).w Zd.w).w (Zg ZgN (Za (i := 0)) Zq.w).w)))) gh dv hd q
noncomputable abbrev Zeq : Stmt := top 16
noncomputable abbrev ZgF : List Str := ["ink"]
noncomputable abbrev ZbT : List Str := ["ink"]
theorem Zfz : FnScope ZgF ZbT (defScope Zeq) := ⟨rfl, rfl, rfl, by decide +kernel, rfl, by decide +kernel, by decide +kernel⟩
noncomputable def Zef (cBadInk : Addr) : FS := (sIf (bS (bNot (bW (wCb f_is_ink (aCons (wV 0) aNil)))))
  (sRaise cBadInk)
  sNil)
noncomputable def ZaP (cBadInk : Addr) := fnX 1 1 (Zef cBadInk)
set_option maxHeartbeats 8000000 in
theorem Zi9 {f : Addr} {fd : FuncData} {cBadInk : Addr} (T : Tx mg) (F : Fun K "need_ink" "need_ink" Zeq f fd)
  (C_is_ink : Cal P w K mg base "is_ink" 1 Zet (PSp fun ds d => f_is_ink ds = some d))
  (EX_BadInk : ExC K mg "BadInk" cBadInk) : FnOk P w K mg base (L2.CX P w) 2 f fd ZbT (XSp fun ds d => (ZaP cBadInk) ds = some d) := by
 have nd := Zfz.nd
 refine F.okX Zfz (fun vs H Q E ⟨G, ds, d, _, dv, hd, _⟩ => by rw [dv.len]; exact (Z4 hd).1) (fun cdv A outer s H vs Q E hr h => ?_)
 have hu := hu_of hr
 obtain ⟨G, ds, d, gh, dv, hd, q1, q2⟩ := h
 refine ⟨_, (pss_one (ps_if (pt_not (pt_val (Zk C_is_ink (hr.mono (by omega)) (by rfl) (pa_cons (pv 0) pa_nil))))
   (pss_one (ZaL rfl (takes_of rfl rfl rfl rfl) EX_BadInk rfl))
   pss_nil)), ?_⟩
 exact Znr (kp := fun _ => false) (N := ZgF) (s := Zef cBadInk) (ZB (Z2 (Zdj (ZbY (ZbI (fun h => h) (Zb (Za (i := 0)) Ze)))))
  ZbC
  Zy) gh dv hd q1 q2
noncomputable abbrev Zf4 : Stmt := top 20
noncomputable abbrev ZiO : List Str := ["cells"]
noncomputable abbrev Zdu : List Str := ["cells"]
theorem Zhb : FnScope ZiO Zdu (defScope Zf4) := ⟨rfl, rfl, rfl, by decide +kernel, rfl, by decide +kernel, by decide +kernel⟩
noncomputable def Zf0 : FS := (sRet (nF (wUn oRiseB (wV 0))))
noncomputable def f_rising := fnF 1 1 (Zf0)
set_option maxHeartbeats 8000000 in
theorem ZlC {f : Addr} {fd : FuncData} (T : Tx mg) (F : Fun K "rising" "rising" Zf4 f fd) : FnOk P w K mg base CX0 1 f fd Zdu (FSp fun ds d => f_rising ds = some d) := by
 have nd := Zhb.nd
 refine F.ok Zhb (fun vs H Q E ⟨G, ds, d, _, dv, hd, _⟩ => by rw [dv.len]; exact (Z4 hd).1) (fun cdv A outer s H vs Q E hr h => ?_)
 have hu := hu_of hr
 obtain ⟨G, ds, d, gh, dv, hd, q⟩ := h
 refine ⟨_, (pss_one (ps_ret (pe_callB (ZcR rfl) (by rfl) T.sorted (by decide +kernel) (pa_cons (pe_callTy (ZgV rfl) (by rfl) T.set (by decide +kernel) (pa_cons (pv 0) pa_nil)) pa_nil)))), ?_⟩
 exact ZkK (kp := fun _ => false) (N := ZiO) (s := Zf0) (Zv (ZiX (ZfR (Za (i := 0))))) gh dv hd q
noncomputable abbrev ZdN : Stmt := inClass (top 23) 4
noncomputable abbrev ZfN : List Str := ["self", "name", "ink", "cells"]
noncomputable abbrev ZcE : List Str := ["self", "name", "ink", "cells"]
theorem Ze2 : FnScope ZfN ZcE (defScope ZdN) := ⟨rfl, rfl, rfl, by decide +kernel, rfl, by decide +kernel, by decide +kernel⟩
noncomputable def ZdS (cAlbum cBadCells cBadInk cBadName cFull cTaken : Addr) : FS := (sSeq (sDropN (nX (xCallX (Zbu cBadName) (aS (aCons (wV 1) aNil)))))
  (sSeq (sIf (bWk (bW (wOp (oDIn false) (wV 1) (wUn (oFld cAlbum "kept") (wV 0)))))
  (sRaise cTaken)
  sNil)
  (sSeq (sDropN (nX (xCallX (ZaP cBadInk) (aS (aCons (wV 2) aNil)))))
  (sSeq (sDropN (nAsk cAlbum "need_cells" 0 (nCallI (ZV cAlbum cBadCells) [0] (aS (aCons (wV 3) aNil)))))
  (sSeq (sIf (bWk (bW (wOp oGt (wCb cLenD (aCons (wUn (oFld cAlbum "kept") (wV 0)) aNil)) (wC (.int 11)))))
  (sRaise cFull)
  sNil)
  (sDPutX (pF cAlbum "kept" (pV 0)) (wV 1) (xS (wTup (aCons (wV 2) (aCons (wCb cTupL (aCons (wCb f_rising (aCons (wV 3) aNil)) aNil)) (aCons (wC .none) aNil)))))))))))
noncomputable def Zbr (cAlbum cBadCells cBadInk cBadName cFull cTaken : Addr) := fnI 4 4 (fun i => Nat.blt i 1) (ZdS cAlbum cBadCells cBadInk cBadName cFull cTaken)
set_option maxHeartbeats 8000000 in
theorem ZiV {f : Addr} {fd : FuncData} {cAlbum cBadCells cBadInk cBadName cFull cTaken : Addr} (T : Tx mg) (F : Fun K "add" "Album.add" ZdN f fd)
  (C_Album_need_cells : CalMX P w K mg base cAlbum "need_cells" 2 Zad (ISp (ZV cAlbum cBadCells)))
  (C_need_name : CalX P w K mg base "need_name" 3 Zcx (XSp fun ds d => (Zbu cBadName) ds = some d))
  (C_need_ink : CalX P w K mg base "need_ink" 2 ZbT (XSp fun ds d => (ZaP cBadInk) ds = some d))
  (C_rising : Cal P w K mg base "rising" 1 Zdu (FSp fun ds d => f_rising ds = some d))
  (EX_Taken : ExC K mg "Taken" cTaken)
  (EX_Full : ExC K mg "Full" cFull)
  (FL_Album : Fls K cAlbum fl_Album) : FnOk P w K mg base (L2.CX P w) 4 f fd ZcE (ISp (Zbr cAlbum cBadCells cBadInk cBadName cFull cTaken)) := by
 have nd := Ze2.nd
 refine F.okX Ze2 (fun vs H Q E h => h.len) (fun cdv A outer s H vs Q E hr h => ?_)
 have hu := hu_of hr
 refine ⟨_, (pss_cons (ps_expr (Zea C_need_name (hr.mono (by omega)) (by rfl) (takes_of rfl rfl rfl rfl) (pa_cons (pv 1) pa_nil)))
  (pss_cons (ps_if (pt_cmp (pc_din hu (pv 1) (pe_fld (pv 0) rfl)))
   (pss_one (ZaL rfl (takes_of rfl rfl rfl rfl) EX_Taken rfl))
   pss_nil)
  (pss_cons (ps_expr (Zea C_need_ink (hr.mono (by omega)) (by rfl) (takes_of rfl rfl rfl rfl) (pa_cons (pv 2) pa_nil)))
  (pss_cons (ps_expr (Zbn C_Album_need_cells (hr.mono (by omega)) (takes_of rfl rfl rfl rfl) (pv 0) (pa_cons (pv 3) pa_nil)))
  (pss_cons (ps_if (pt_cmpR op_gt (pe_callB call_lenD (by rfl) T.len PySem.boot_len (pa_cons (pe_fld (pv 0) rfl) pa_nil)) pe_int (nomark _))
   (pss_one (ZaL rfl (takes_of rfl rfl rfl rfl) EX_Full rfl))
   pss_nil)
  (pss_one (ps_dput hu (pe_fld (pv 0) rfl) (pv 1) (pe_tup (pa_cons (pv 2) (pa_cons (pe_callTy call_tuple_of (by rfl) T.tuple (by decide +kernel) (pa_cons (Zk C_rising (hr.mono (by omega)) (by rfl) (pa_cons (pv 3) pa_nil)) pa_nil)) (pa_cons pe_non pa_nil)))) rfl))))))), ?_⟩
 exact Zac (kp := fun i => Nat.blt i 1) (N := ZfN) (s := ZdS cAlbum cBadCells cBadInk cBadName cFull cTaken) (Zf (ZaQ (ZZ (Zed (fun h => h) (Zz (Zb (Za (i := 1)) Ze)))))
  (Zf (ZB (ZdQ (ZbY (Zlg (Za (i := 1)) (Zd2 FL_Album (by simp) (Za (i := 0))))))
  ZbC
  Zy)
  (Zf (ZaQ (ZZ (Zed (fun h => h) (Zz (Zb (Za (i := 2)) Ze)))))
  (Zf (ZaQ (Zbh (Zal (is := [0]) Zi (Zz (Zb (Za (i := 3)) Ze)))))
  (Zf (ZB (ZdQ (Zs (Zg ZhD (ZQ Zfj (Zb (Zd2 FL_Album (by simp) (Za (i := 0))) Ze)).w Zd.w).w))
  ZbC
  Zy)
  (Zcp (ZdU FL_Album (by simp) (ZaF (i := 0))) (Za (i := 1)) (Zj (ZaW (Zb (Za (i := 2)) (Zb (ZQ Zff (Zb (ZiN (fun h => h) (Zb (Za (i := 3)) Ze)).w Ze)).w (Zb ZbZ.w Ze)))).w))))))) h
noncomputable abbrev ZcP : Stmt := inClass (top 23) 5
noncomputable abbrev Zew : List Str := ["self", "name", "ink", "cells"]
noncomputable abbrev ZbB : List Str := ["self", "name", "ink", "cells"]
theorem Zd9 : FnScope Zew ZbB (defScope ZcP) := ⟨rfl, rfl, rfl, by decide +kernel, rfl, by decide +kernel, by decide +kernel⟩
noncomputable def ZcU (cAlbum cBadCells cBadInk cNoPrint : Addr) : FS := (sSeq (sDropN (nAsk cAlbum "need_print" 0 (nCallI (ZJ cAlbum cNoPrint) [0] (aS (aCons (wV 1) aNil)))))
  (sSeq (sDropN (nX (xCallX (ZaP cBadInk) (aS (aCons (wV 2) aNil)))))
  (sSeq (sDropN (nAsk cAlbum "need_cells" 0 (nCallI (ZV cAlbum cBadCells) [0] (aS (aCons (wV 3) aNil)))))
  (sDPutX (pF cAlbum "kept" (pV 0)) (wV 1) (xTup (aConsX (xS (wV 2)) (aConsX (xS (wCb cTupL (aCons (wCb f_rising (aCons (wV 3) aNil)) aNil))) (aConsX (xW (wOp oIxT (wOp oDGet (wUn (oFld cAlbum "kept") (wV 0)) (wV 1)) (wC (.int 2)))) aNilX))))))))
noncomputable def ZaV (cAlbum cBadCells cBadInk cNoPrint : Addr) := fnI 4 4 (fun i => Nat.blt i 1) (ZcU cAlbum cBadCells cBadInk cNoPrint)
set_option maxHeartbeats 8000000 in
theorem ZgZ {f : Addr} {fd : FuncData} {cAlbum cBadCells cBadInk cNoPrint : Addr} (T : Tx mg) (F : Fun K "amend" "Album.amend" ZcP f fd)
  (C_Album_need_print : CalMX P w K mg base cAlbum "need_print" 1 Z5 (ISp (ZJ cAlbum cNoPrint)))
  (C_Album_need_cells : CalMX P w K mg base cAlbum "need_cells" 2 Zad (ISp (ZV cAlbum cBadCells)))
  (C_need_ink : CalX P w K mg base "need_ink" 2 ZbT (XSp fun ds d => (ZaP cBadInk) ds = some d))
  (C_rising : Cal P w K mg base "rising" 1 Zdu (FSp fun ds d => f_rising ds = some d))
  (FL_Album : Fls K cAlbum fl_Album) : FnOk P w K mg base (L2.CX P w) 3 f fd ZbB (ISp (ZaV cAlbum cBadCells cBadInk cNoPrint)) := by
 have nd := Zd9.nd
 refine F.okX Zd9 (fun vs H Q E h => h.len) (fun cdv A outer s H vs Q E hr h => ?_)
 have hu := hu_of hr
 refine ⟨_, (pss_cons (ps_expr (Zbn C_Album_need_print (hr.mono (by omega)) (takes_of rfl rfl rfl rfl) (pv 0) (pa_cons (pv 1) pa_nil)))
  (pss_cons (ps_expr (Zea C_need_ink (hr.mono (by omega)) (by rfl) (takes_of rfl rfl rfl rfl) (pa_cons (pv 2) pa_nil)))
  (pss_cons (ps_expr (Zbn C_Album_need_cells (hr.mono (by omega)) (takes_of rfl rfl rfl rfl) (pv 0) (pa_cons (pv 3) pa_nil)))
  (pss_one (ps_dput hu (pe_fld (pv 0) rfl) (pv 1) (pe_tup (pa_cons (pv 2) (pa_cons (pe_callTy call_tuple_of (by rfl) T.tuple (by decide +kernel) (pa_cons (Zk C_rising (hr.mono (by omega)) (by rfl) (pa_cons (pv 3) pa_nil)) pa_nil)) (pa_cons (pe_ix ix_tup (pe_dget hu (pe_fld (pv 0) rfl) (pv 1) (fun _ _ => rfl)) pe_int (fun _ _ => rfl)) pa_nil)))) rfl))))), ?_⟩
 exact Zac (kp := fun i => Nat.blt i 1) (N := Zew) (s := ZcU cAlbum cBadCells cBadInk cNoPrint) (Zf (ZaQ (Zbh (Zal (is := [0]) Zi (Zz (Zb (Za (i := 1)) Ze)))))
  (Zf (ZaQ (ZZ (Zed (fun h => h) (Zz (Zb (Za (i := 2)) Ze)))))
  (Zf (ZaQ (Zbh (Zal (is := [0]) Zi (Zz (Zb (Za (i := 3)) Ze)))))
  (Zcp (ZdU FL_Album (by simp) (ZaF (i := 0))) (Za (i := 1)) (Zb5 (Zo (Zj (Za (i := 2))) (Zo (Zj (ZQ Zff (Zb (ZiN (fun h => h) (Zb (Za (i := 3)) Ze)).w Ze)).w) (Zo (ZcT (Zw ZA (ZjZ (Zd2 FL_Album (by simp) (Za (i := 0))) (Za (i := 1))) Zd.w)) Zaa)))))))) h
noncomputable abbrev Zda : Stmt := inClass (top 23) 6
noncomputable abbrev ZeR : List Str := ["self", "name", "day"]
noncomputable abbrev ZbS : List Str := ["self", "name", "day"]
theorem ZeA : FnScope ZeR ZbS (defScope Zda) := ⟨rfl, rfl, rfl, by decide +kernel, rfl, by decide +kernel, by decide +kernel⟩
noncomputable def Zdr (cAlbum cBadDay cNoPrint : Addr) : FS := (sSeq (sDropN (nAsk cAlbum "need_print" 0 (nCallI (ZJ cAlbum cNoPrint) [0] (aS (aCons (wV 1) aNil)))))
  (sSeq (sIf (bS (bAnd (bW (wOp (oIsN true) (wV 2) (wC .none))) (bNot (bW (wCb (gR ZaK) (aCons (wV 2) (aCons (wC (.int 0)) (aCons (wC (.int 9999)) aNil))))))))
  (sRaise cBadDay)
  sNil)
  (sDPutX (pF cAlbum "kept" (pV 0)) (wV 1) (xOp oCatA (xSl oSlT (xP (pD (pF cAlbum "kept" (pV 0)) (wV 1))) xpNo (xpSo (xS (wC (.int 2))))) (xS (wTup (aCons (wV 2) aNil)))))))
noncomputable def ZaY (cAlbum cBadDay cNoPrint : Addr) := fnI 3 3 (fun i => Nat.blt i 1) (Zdr cAlbum cBadDay cNoPrint)
set_option maxHeartbeats 8000000 in
theorem Zht {f : Addr} {fd : FuncData} {cAlbum cBadDay cNoPrint : Addr} (T : Tx mg) (F : Fun K "date" "Album.date" Zda f fd)
  (C_Album_need_print : CalMX P w K mg base cAlbum "need_print" 1 Z5 (ISp (ZJ cAlbum cNoPrint)))
  (C_between : Cal P w K mg base "between" 1 ZbO (PSp ZaK))
  (EX_BadDay : ExC K mg "BadDay" cBadDay)
  (FL_Album : Fls K cAlbum fl_Album) : FnOk P w K mg base (L2.CX P w) 2 f fd ZbS (ISp (ZaY cAlbum cBadDay cNoPrint)) := by
 have nd := ZeA.nd
 refine F.okX ZeA (fun vs H Q E h => h.len) (fun cdv A outer s H vs Q E hr h => ?_)
 have hu := hu_of hr
 refine ⟨_, (pss_cons (ps_expr (Zbn C_Album_need_print (hr.mono (by omega)) (takes_of rfl rfl rfl rfl) (pv 0) (pa_cons (pv 1) pa_nil)))
  (pss_cons (ps_if (PW.pt (pw_and (pt_cmpR op_notN (pv 2) pe_non (nomark _)) (pw_and1 (pt_not (pt_val (Zk C_between (hr.mono (by omega)) (by rfl) (pa_cons (pv 2) (pa_cons pe_int (pa_cons pe_int pa_nil)))))))))
   (pss_one (ZaL rfl (takes_of rfl rfl rfl rfl) EX_BadDay rfl))
   pss_nil)
  (pss_one (ps_dput hu (pe_fld (pv 0) rfl) (pv 1) (pe_op op_catA (pe_slice sl_tupA (pe_dget hu (pe_fld (pv 0) rfl) (pv 1) (fun _ _ => rfl)) po_none (po_some pe_int)) (pe_tup (pa_cons (pv 2) pa_nil))) rfl)))), ?_⟩
 exact Zac (kp := fun i => Nat.blt i 1) (N := ZeR) (s := Zdr cAlbum cBadDay cNoPrint) (Zf (ZaQ (Zbh (Zal (is := [0]) Zi (Zz (Zb (Za (i := 1)) Ze)))))
  (Zf (ZB (Z2 (ZdV (Zs (Zg ZjU (Za (i := 2)) ZbZ.w).w) (Zdj (ZbY (ZbI ZhC (Zb (Za (i := 2)) (Zb Zd.w (Zb Zd.w Ze))))))))
  ZbC
  Zy)
  (Zcp (ZdU FL_Album (by simp) (ZaF (i := 0))) (Za (i := 1)) (ZN Zc7 (Zkd Zcr (Zkl (Zfd (ZdU FL_Album (by simp) (ZaF (i := 0))) (Za (i := 1)))) Ziz (ZhY (Zj Zd.w))) (Zj (ZaW (Zb (Za (i := 2)) Ze)).w))))) h
noncomputable abbrev Zbp : Stmt := top 35
noncomputable abbrev ZcZ : List Str := ["_law_album", "_law_call"]
noncomputable abbrev ZaB : List Str := ["_law_album", "_law_call"]
theorem ZcJ : FnScope ZcZ ZaB (defScope Zbp) := ⟨rfl, rfl, rfl, by decide +kernel, rfl, by decide +kernel, by decide +kernel⟩
noncomputable def Z7 (cAlbum cBadCells cBadDay cBadInk cBadName cFull cNoPrint cTaken : Addr) : FS := (sSeq (sIf (bS (bW (wOp (oEq false) (wOp oIxT (wV 1) (wC (.int 0))) (wC (.str (Str.ofString "add"))))))
  (sRet (nAsk cAlbum "add" 0 (nCallI (Zbr cAlbum cBadCells cBadInk cBadName cFull cTaken) [0] (aS (aCons (wOp oIxT (wV 1) (wC (.int 1))) (aCons (wOp oIxT (wV 1) (wC (.int 2))) (aCons (wOp oIxT (wV 1) (wC (.int 3))) aNil)))))))
  sNil)
  (sSeq (sIf (bS (bW (wOp (oEq false) (wOp oIxT (wV 1) (wC (.int 0))) (wC (.str (Str.ofString "amend"))))))
  (sRet (nAsk cAlbum "amend" 0 (nCallI (ZaV cAlbum cBadCells cBadInk cNoPrint) [0] (aS (aCons (wOp oIxT (wV 1) (wC (.int 1))) (aCons (wOp oIxT (wV 1) (wC (.int 2))) (aCons (wOp oIxT (wV 1) (wC (.int 3))) aNil)))))))
  sNil)
  (sSeq (sIf (bS (bW (wOp (oEq false) (wOp oIxT (wV 1) (wC (.int 0))) (wC (.str (Str.ofString "date"))))))
  (sRet (nAsk cAlbum "date" 0 (nCallI (ZaY cAlbum cBadDay cNoPrint) [0] (aS (aCons (wOp oIxT (wV 1) (wC (.int 1))) (aCons (wOp oIxT (wV 1) (wC (.int 2))) aNil))))))
  sNil)
  (sRet (nAsk cAlbum "strike" 0 (nCallI (ZaI cAlbum cNoPrint) [0] (aS (aCons (wOp oIxT (wV 1) (wC (.int 1))) aNil))))))))
noncomputable def Z8 (cAlbum cBadCells cBadDay cBadInk cBadName cFull cNoPrint cTaken : Addr) := fnI 2 2 (fun i => Nat.blt i 1) (Z7 cAlbum cBadCells cBadDay cBadInk cBadName cFull cNoPrint cTaken)
set_option maxHeartbeats 8000000 in
theorem ZeH {f : Addr} {fd : FuncData} {cAlbum cBadCells cBadDay cBadInk cBadName cFull cNoPrint cTaken : Addr} (T : Tx mg) (F : Fun K "_law_album_call" "_law_album_call" Zbp f fd)
  (C_Album_strike : CalMX P w K mg base cAlbum "strike" 2 Zbg (ISp (ZaI cAlbum cNoPrint)))
  (C_Album_add : CalMX P w K mg base cAlbum "add" 4 ZcE (ISp (Zbr cAlbum cBadCells cBadInk cBadName cFull cTaken)))
  (C_Album_amend : CalMX P w K mg base cAlbum "amend" 3 ZbB (ISp (ZaV cAlbum cBadCells cBadInk cNoPrint)))
  (C_Album_date : CalMX P w K mg base cAlbum "date" 2 ZbS (ISp (ZaY cAlbum cBadDay cNoPrint))) : FnOk P w K mg base (L2.CX P w) 5 f fd ZaB (ISp (Z8 cAlbum cBadCells cBadDay cBadInk cBadName cFull cNoPrint cTaken)) := by
 have nd := ZcJ.nd
 refine F.okX ZcJ (fun vs H Q E h => h.len) (fun cdv A outer s H vs Q E hr h => ?_)
 have hu := hu_of hr
 refine ⟨_, (pss_cons (ps_if (pt_cmpR op_eq (pe_ix ix_tup (pv 1) pe_int (fun _ _ => rfl)) pe_str (nomark _))
   (pss_one (ps_ret (Zbn C_Album_add (hr.mono (by omega)) (takes_of rfl rfl rfl rfl) (pv 0) (pa_cons (pe_ix ix_tup (pv 1) pe_int (fun _ _ => rfl)) (pa_cons (pe_ix ix_tup (pv 1) pe_int (fun _ _ => rfl)) (pa_cons (pe_ix ix_tup (pv 1) pe_int (fun _ _ => rfl)) pa_nil))))))
   pss_nil)
  (pss_cons (ps_if (pt_cmpR op_eq (pe_ix ix_tup (pv 1) pe_int (fun _ _ => rfl)) pe_str (nomark _))
   (pss_one (ps_ret (Zbn C_Album_amend (hr.mono (by omega)) (takes_of rfl rfl rfl rfl) (pv 0) (pa_cons (pe_ix ix_tup (pv 1) pe_int (fun _ _ => rfl)) (pa_cons (pe_ix ix_tup (pv 1) pe_int (fun _ _ => rfl)) (pa_cons (pe_ix ix_tup (pv 1) pe_int (fun _ _ => rfl)) pa_nil))))))
   pss_nil)
  (pss_cons (ps_if (pt_cmpR op_eq (pe_ix ix_tup (pv 1) pe_int (fun _ _ => rfl)) pe_str (nomark _))
   (pss_one (ps_ret (Zbn C_Album_date (hr.mono (by omega)) (takes_of rfl rfl rfl rfl) (pv 0) (pa_cons (pe_ix ix_tup (pv 1) pe_int (fun _ _ => rfl)) (pa_cons (pe_ix ix_tup (pv 1) pe_int (fun _ _ => rfl)) pa_nil)))))
   pss_nil)
  (pss_one (ps_ret (Zbn C_Album_strike (hr.mono (by omega)) (takes_of rfl rfl rfl rfl) (pv 0) (pa_cons (pe_ix ix_tup (pv 1) pe_int (fun _ _ => rfl)) pa_nil))))))), ?_⟩
 exact Zac (kp := fun i => Nat.blt i 1) (N := ZcZ) (s := Z7 cAlbum cBadCells cBadDay cBadInk cBadName cFull cNoPrint cTaken) (Zf (ZB (Z2 (Zs (Zg Z6 (Zw ZA (Za (i := 1)) Zd.w) Zq.w).w))
  (Zv (Zbh (Zal (is := [0]) Zi (Zz (Zb (Zw ZA (Za (i := 1)) Zd.w) (Zb (Zw ZA (Za (i := 1)) Zd.w) (Zb (Zw ZA (Za (i := 1)) Zd.w) Ze)))))))
  Zy)
  (Zf (ZB (Z2 (Zs (Zg Z6 (Zw ZA (Za (i := 1)) Zd.w) Zq.w).w))
  (Zv (Zbh (Zal (is := [0]) Zi (Zz (Zb (Zw ZA (Za (i := 1)) Zd.w) (Zb (Zw ZA (Za (i := 1)) Zd.w) (Zb (Zw ZA (Za (i := 1)) Zd.w) Ze)))))))
  Zy)
  (Zf (ZB (Z2 (Zs (Zg Z6 (Zw ZA (Za (i := 1)) Zd.w) Zq.w).w))
  (Zv (Zbh (Zal (is := [0]) Zi (Zz (Zb (Zw ZA (Za (i := 1)) Zd.w) (Zb (Zw ZA (Za (i := 1)) Zd.w) Ze))))))
  Zy)
  (Zv (Zbh (Zal (is := [0]) Zi (Zz (Zb (Zw ZA (Za (i := 1)) Zd.w) Ze)))))))) h
noncomputable abbrev ZbE : Stmt := top 36
noncomputable abbrev Zdk : List Str := ["_law_album", "_law_call", "_law_why", "_law_told", "e", "_law_marks"]
noncomputable abbrev ZaS : List Str := ["_law_album", "_law_call"]
theorem ZcV : FnScope Zdk ZaS (defScope ZbE) := ⟨rfl, rfl, rfl, by decide +kernel, rfl, by decide +kernel, by decide +kernel⟩
noncomputable def ZbJ (cAlbum cBadCells cBadDay cBadInk cBadName cFull cNoPrint cTaken : Addr) : FS := (noEx (sSeq (sAsg 2 (xS (wC (.str (Str.ofString "")))))
  (sSeq (sAsg 3 (xS (wC .none)))
  (sSeq (sTryAs 4 [cBadName, cTaken, cNoPrint, cBadInk, cBadCells, cFull, cBadDay] (sAsg 3 (xN (nCallI (Z8 cAlbum cBadCells cBadDay cBadInk cBadName cFull cNoPrint cTaken) [0] (aS (aCons (wV 1) aNil))))) fun C => (sSeq (sAsg 5 (xS (wC (dLB [decide (C = cBadName), decide (C = cTaken), decide (C = cNoPrint), decide (C = cBadInk)]))))
  (sSeq (sAsg 5 (xS (wOp oCat (wV 5) (wC (dLB [decide (C = cBadCells), decide (C = cFull), decide (C = cBadDay), true])))))
  (sAsg 2 (xS (wOp oIxL (wOp oSplit (wC (.str (Str.ofString "BadName Taken NoPrint BadInk BadCells Full BadDay other"))) (wC (.str (Str.ofString " ")))) (wUn oIdxT (wV 5))))))))
  (sRet (nX (xS (wIf (bW (wOp (oIsN false) (wV 3) (wC .none))) (wV 2) (wC (.str (Str.ofString "told")))))))))))
noncomputable def Zab (cAlbum cBadCells cBadDay cBadInk cBadName cFull cNoPrint cTaken : Addr) := fnI 2 6 (fun i => Nat.blt i 1) (ZbJ cAlbum cBadCells cBadDay cBadInk cBadName cFull cNoPrint cTaken)
set_option maxHeartbeats 8000000 in
theorem Zfs {f : Addr} {fd : FuncData} {cAlbum cB cBadCells cBadDay cBadInk cBadName cFull cNoPrint cTaken : Addr} (T : Tx mg) (F : Fun K "_law_album_did" "_law_album_did" ZbE f fd)
  (C__law_album_call : CalX P w K mg base "_law_album_call" 5 ZaB (ISp (Z8 cAlbum cBadCells cBadDay cBadInk cBadName cFull cNoPrint cTaken)))
  (EBB : EBase K mg cB)
  (EB_BadName : EB K mg cB "BadName" cBadName)
  (EB_Taken : EB K mg cB "Taken" cTaken)
  (EB_NoPrint : EB K mg cB "NoPrint" cNoPrint)
  (EB_BadInk : EB K mg cB "BadInk" cBadInk)
  (EB_BadCells : EB K mg cB "BadCells" cBadCells)
  (EB_Full : EB K mg cB "Full" cFull)
  (EB_BadDay : EB K mg cB "BadDay" cBadDay)
  (hn : [cB, cBadName, cTaken, cNoPrint, cBadInk, cBadCells, cFull, cBadDay].Nodup) : FnOk P w K mg base CX0 6 f fd ZaS (ISp (Zab cAlbum cBadCells cBadDay cBadInk cBadName cFull cNoPrint cTaken)) := by
 have nd := ZcV.nd
 have hne_BadName : cBadName ≠ cB := fun e => by rw [e] at hn; simp at hn
 have hne_Taken : cTaken ≠ cB := fun e => by rw [e] at hn; simp at hn
 have hne_NoPrint : cNoPrint ≠ cB := fun e => by rw [e] at hn; simp at hn
 have hne_BadInk : cBadInk ≠ cB := fun e => by rw [e] at hn; simp at hn
 have hne_BadCells : cBadCells ≠ cB := fun e => by rw [e] at hn; simp at hn
 have hne_Full : cFull ≠ cB := fun e => by rw [e] at hn; simp at hn
 have hne_BadDay : cBadDay ≠ cB := fun e => by rw [e] at hn; simp at hn
 refine F.ok ZcV (fun vs H Q E h => h.len) (fun cdv A outer s H vs Q E hr h => ?_)
 have hu := hu_of hr
 refine ⟨_, (pss_cons (ps_set (i := 2) nd rfl (.inl rfl) pe_str)
  (pss_cons (ps_set (i := 3) nd rfl (.inl rfl) pe_non)
  (pss_cons (ps_try_as (i := 4) (tb := fun W => (tAsg (tCallS (ISp (Z8 cAlbum cBadCells cBadDay cBadInk cBadName cFull cNoPrint cTaken)) (WE W) (tCons (tVar 0) (tCons (tVar 1) tNil))) (gName 3))) (ts := fun a cls d => (tSeq (tAsg (tLst (tCons (tCB (rIsEG K cls d a) (tCons (tVar 4) (tCons (tC (.ref cBadName)) tNil))) (tCons (tCB (rIsEG K cls d a) (tCons (tVar 4) (tCons (tC (.ref cTaken)) tNil))) (tCons (tCB (rIsEG K cls d a) (tCons (tVar 4) (tCons (tC (.ref cNoPrint)) tNil))) (tCons (tCB (rIsEG K cls d a) (tCons (tVar 4) (tCons (tC (.ref cBadInk)) tNil))) tNil))))) (gName 5)) (tSeq (tAsg (tOp rCat (tVar 5) (tLst (tCons (tCB (rIsEG K cls d a) (tCons (tVar 4) (tCons (tC (.ref cBadCells)) tNil))) (tCons (tCB (rIsEG K cls d a) (tCons (tVar 4) (tCons (tC (.ref cFull)) tNil))) (tCons (tCB (rIsEG K cls d a) (tCons (tVar 4) (tCons (tC (.ref cBadDay)) tNil))) (tCons (tC (.bl true)) tNil)))))) (gName 5)) (tAsg (tOp (rIxL K) (tM1 rSplit (tC (.str "BadName Taken NoPrint BadInk BadCells Full BadDay other")) (tC (.str " "))) (tBM K "list" (rIndex K) (tVar 5) (tCons (tC (.bl true)) tNil))) (gName 2))))) (Wout := fun _ _ _ _ => False) rfl rfl nd rfl rfl ⟨rfl, by decide, .inl EBB.gB⟩ takes0 (fun W pn xe tk po => (pss_one (ps_set (i := 3) nd rfl (.inl rfl) (Zea C__law_album_call (hr.mono (by omega)) (by rfl) tk (pa_cons (pv 0) (pa_cons (pv 1) pa_nil))))))
   (fun a oe cls d pn hz hf => (pss_cons (ps_set (i := 5) nd rfl (.inl rfl) (pe_lst (pa_cons (pe_callB (Za5 List.mem_cons_self hz hf) (by rfl) T.isinstance (by decide +kernel) (pa_cons (pv 4) (pa_cons (pe_glob (v := .ref cBadName) rfl EB_BadName.own.gC rfl) pa_nil))) (pa_cons (pe_callB (Za5 List.mem_cons_self hz hf) (by rfl) T.isinstance (by decide +kernel) (pa_cons (pv 4) (pa_cons (pe_glob (v := .ref cTaken) rfl EB_Taken.own.gC rfl) pa_nil))) (pa_cons (pe_callB (Za5 List.mem_cons_self hz hf) (by rfl) T.isinstance (by decide +kernel) (pa_cons (pv 4) (pa_cons (pe_glob (v := .ref cNoPrint) rfl EB_NoPrint.own.gC rfl) pa_nil))) (pa_cons (pe_callB (Za5 List.mem_cons_self hz hf) (by rfl) T.isinstance (by decide +kernel) (pa_cons (pv 4) (pa_cons (pe_glob (v := .ref cBadInk) rfl EB_BadInk.own.gC rfl) pa_nil))) pa_nil))))))
   (pss_cons (ps_set (i := 5) nd rfl (.inl rfl) (pe_op op_cat (pv 5) (pe_lst (pa_cons (pe_callB (Za5 List.mem_cons_self hz hf) (by rfl) T.isinstance (by decide +kernel) (pa_cons (pv 4) (pa_cons (pe_glob (v := .ref cBadCells) rfl EB_BadCells.own.gC rfl) pa_nil))) (pa_cons (pe_callB (Za5 List.mem_cons_self hz hf) (by rfl) T.isinstance (by decide +kernel) (pa_cons (pv 4) (pa_cons (pe_glob (v := .ref cFull) rfl EB_Full.own.gC rfl) pa_nil))) (pa_cons (pe_callB (Za5 List.mem_cons_self hz hf) (by rfl) T.isinstance (by decide +kernel) (pa_cons (pv 4) (pa_cons (pe_glob (v := .ref cBadDay) rfl EB_BadDay.own.gC rfl) pa_nil))) (pa_cons pe_bl pa_nil)))))))
   (pss_one (ps_set (i := 2) nd rfl (.inl rfl) (pe_ix ix_list (pe_split pe_str pe_str) (pe_bm PySem.F.plainAttrs_list PySem.F.slot_list_index PySem.F.type_list_index mt_index (pv 5) (pa_cons pe_bl pa_nil)) (fun _ _ => rfl))))))))
  (pss_one (ps_ret (pe_ifExp (pt_cmpR op_isN (pv 3) pe_non (nomark _)) (pv 2) pe_str)))))), ?_⟩
 exact Zac (kp := fun i => Nat.blt i 1) (N := Zdk) (s := ZbJ cAlbum cBadCells cBadDay cBadInk cBadName cFull cNoPrint cTaken) (Zpb (Zf (ZI (i := 2) rfl (Zj Zq.w))
  (Zf (ZI (i := 3) rfl (Zj ZbZ.w))
  (Zf (Zmh (i := 4) EBB (EBs.cons EB_BadName hne_BadName (EBs.cons EB_Taken hne_Taken (EBs.cons EB_NoPrint hne_NoPrint (EBs.cons EB_BadInk hne_BadInk (EBs.cons EB_BadCells hne_BadCells (EBs.cons EB_Full hne_Full (EBs.cons EB_BadDay hne_BadDay EBs.nil))))))) (fun W => (ZI (i := 3) rfl (ZD (Zal (is := [0]) Zi (Zz (Zb (Za (i := 1)) Ze)))))) (fun C x hC eb => (ZlM (ZhO (j := 5) rfl (by decide) (ZjH (Zdl eb EB_BadName hne_BadName (Zdl eb EB_Taken hne_Taken (Zdl eb EB_NoPrint hne_NoPrint (Zdl eb EB_BadInk hne_BadInk ZjS))))))
  (ZlM (ZhO (j := 5) rfl (by decide) (ZlK (OpF.ok ZeQ) (ZjC (j := 5) (by decide)) (ZjH (Zdl eb EB_BadCells hne_BadCells (Zdl eb EB_Full hne_Full (Zdl eb EB_BadDay hne_BadDay (Zne ZjS)))))))
  (ZhO (j := 2) rfl (by decide) (ZlK Z3 (ZkG (Zhn Zq.w) (Zhn Zq.w)) (ZkZ (ZjC (j := 5) (by decide)))))))))
  (Zv (ZZ (Zj (Zkk (Zs (Zg ZkD (Za (i := 3)) ZbZ.w).w) (Za (i := 2)) Zq.w)))))))) h
noncomputable abbrev Zbj : Stmt := top 31
noncomputable abbrev Zcq : List Str := ["_law_name", "_law_sign"]
noncomputable abbrev Zbf : List Str := ["_law_name"]
theorem ZdC : FnScope Zcq Zbf (defScope Zbj) := ⟨rfl, rfl, rfl, by decide +kernel, rfl, by decide +kernel, by decide +kernel⟩
noncomputable def Zcm : FS := (sRet (nX (xS (wAnd (wChain oLe oLe (wC (.int 1)) (wCb cLenS (aCons (wV 0) aNil)) (wC (.int 8))) (wCb cAll (aCons (wLc (itS (wV 0)) (bName 1) bYes (wOp (oInSg false) (wV 1) (wC (.str (Str.ofString "abcdefghijklmnopqrstuvwxyz")))) [1]) aNil))))))
noncomputable def f__law_name_ok := fnD 1 2 (Zcm)
set_option maxHeartbeats 8000000 in
theorem Zgj {f : Addr} {fd : FuncData} (T : Tx mg) (F : Fun K "_law_name_ok" "_law_name_ok" Zbj f fd) : FnOk P w K mg base CX0 1 f fd Zbf (PSp fun ds d => f__law_name_ok ds = some d) := by
 have nd := ZdC.nd
 refine F.ok ZdC (fun vs H Q E ⟨G, ds, d, _, dv, hd, _⟩ => by rw [dv.len]; exact (Z4 hd).1) (fun cdv A outer s H vs Q E hr h => ?_)
 have hu := hu_of hr
 obtain ⟨G, ds, d, gh, dv, hd, q⟩ := h
 refine ⟨_, (pss_one (ps_ret (pe_and (pe_chain op_le op_le pe_int (pe_callB call_len_str (by rfl) T.len PySem.boot_len (pa_cons (pv 0) pa_nil)) pe_int) (pe_one (pe_callB (cr_all rfl) (by rfl) T.all (by decide +kernel) (pa_cons (pe_lc (own := [("_law_sign", 1)]) (g := gName 1) (tt := tYes) (te := (tOp rInSign (tVar 1) (tC (.str "abcdefghijklmnopqrstuvwxyz")))) (by rfl) nd (pi_str (pv 0)) (blkOk_by (N := Zcq) (sc := defScope Zbj) (by decide +kernel)) (fun _ _ _ _ _ => (pg_name (i := 1) nd rfl (.inl rfl))) (fun _ _ _ _ _ => pts_nil) (fun _ _ _ _ _ => (pe_cmpR op_in_sign (pv 1) pe_str rfl))) pa_nil)))))), ?_⟩
 exact Zdg (kp := fun _ => false) (N := Zcq) (s := Zcm) (Zv (ZZ (Zj (ZhP (Zen (OpF.ok Zfp) (OpF.ok Zfp) Zd.w (ZQ Zfo (Zb (Za (i := 0)) Ze)).w Zd.w) (ZQ Zgy (Zb (Zgp (vs := [1]) (Zlc (Za (i := 0))) (Zd1 (j := 1)) (by decide) Zdi (Zg ZgN (Za (i := 1)) Zq.w).w).w Ze)).w)))) gh dv hd q
noncomputable abbrev ZaR : Stmt := top 33
noncomputable abbrev ZbG : List Str := ["_law_size_here", "_law_a", "_law_call", "_law_word", "_law_name", "_law_cell"]
noncomputable abbrev ZaN : List Str := ["_law_size_here", "_law_a", "_law_call"]
theorem ZcW : FnScope ZbG ZaN (defScope ZaR) := ⟨rfl, rfl, rfl, by decide +kernel, rfl, by decide +kernel, by decide +kernel⟩
noncomputable def ZW : FS := (sSeq (sAsgG (eTup 2 (eCons (eName 3) (eCons (eName 4) eNil))) (xS (wSl oSlT (wV 2) pNo (pSo (wC (.int 2))))))
  (sSeq (sIf (bS (bW (wOp (oEq false) (wV 3) (wC (.str (Str.ofString "add"))))))
  (sSeq (sIf (bS (bNot (bW (wCb f__law_name_ok (aCons (wV 4) aNil)))))
  (sRet (nX (xS (wC (.str (Str.ofString "BadName"))))))
  sNil)
  (sIf (bS (bW (wOp (oDIn false) (wV 4) (wV 1))))
  (sRet (nX (xS (wC (.str (Str.ofString "Taken"))))))
  sNil))
  (sIf (bS (bW (wOp (oDIn true) (wV 4) (wV 1))))
  (sRet (nX (xS (wC (.str (Str.ofString "NoPrint"))))))
  sNil))
  (sSeq (sIf (bS (bW (wOp (oIn false) (wV 3) (wLst (aCons (wC (.str (Str.ofString "add"))) (aCons (wC (.str (Str.ofString "amend"))) aNil))))))
  (sSeq (sIf (bS (bOr (bW (wOp (oEq true) (wCb cLenS (aCons (wOp oIxT (wV 2) (wC (.int 2))) aNil)) (wC (.int 1)))) (bW (wOp (oInSg true) (wOp oIxT (wV 2) (wC (.int 2))) (wC (.str (Str.ofString "abcdefghijklmnopqrstuvwxyz")))))))
  (sRet (nX (xS (wC (.str (Str.ofString "BadInk"))))))
  sNil)
  (sSeq (sIf (bS (bOr (bW (wOp (oEqD false) (wOp oIxT (wV 2) (wC (.int 3))) (wLst aNil))) (bNot (bW (wCb cAll (aCons (wLc (itL (wOp oIxT (wV 2) (wC (.int 3)))) (bName 5) bYes (wChain oLe oLt (wC (.int 0)) (wV 5) (wV 0)) [5]) aNil))))))
  (sRet (nX (xS (wC (.str (Str.ofString "BadCells"))))))
  sNil)
  (sRet (nX (xS (wIf (bAnd (bW (wOp (oEq false) (wV 3) (wC (.str (Str.ofString "add"))))) (bW (wOp oGt (wCb cLenD (aCons (wV 1) aNil)) (wC (.int 11))))) (wC (.str (Str.ofString "Full"))) (wC (.str (Str.ofString "")))))))))
  sNil)
  (sSeq (sIf (bS (bAnd (bW (wOp (oEq false) (wV 3) (wC (.str (Str.ofString "date"))))) (bAnd (bW (wOp (oIsN true) (wOp oIxT (wV 2) (wC (.int 2))) (wC .none))) (bNot (bW (wChain oLe oLe (wC (.int 0)) (wOp oIxT (wV 2) (wC (.int 2))) (wC (.int 9999))))))))
  (sRet (nX (xS (wC (.str (Str.ofString "BadDay"))))))
  sNil)
  (sRet (nX (xS (wC (.str (Str.ofString ""))))))))))
noncomputable def f__law_album_bad := fnD 3 6 (ZW)
set_option maxHeartbeats 8000000 in
theorem Zfv {f : Addr} {fd : FuncData} (T : Tx mg) (F : Fun K "_law_album_bad" "_law_album_bad" ZaR f fd)
  (C__law_name_ok : Cal P w K mg base "_law_name_ok" 1 Zbf (PSp fun ds d => f__law_name_ok ds = some d)) : FnOk P w K mg base CX0 2 f fd ZaN (PSp fun ds d => f__law_album_bad ds = some d) := by
 have nd := ZcW.nd
 refine F.ok ZcW (fun vs H Q E ⟨G, ds, d, _, dv, hd, _⟩ => by rw [dv.len]; exact (Z4 hd).1) (fun cdv A outer s H vs Q E hr h => ?_)
 have hu := hu_of hr
 obtain ⟨G, ds, d, gh, dv, hd, q⟩ := h
 refine ⟨_, (pss_cons (ps_asg (pe_slice sl_tupA (pv 2) po_none (po_some pe_int)) (pg_tup rfl (pgs_cons (pg_name (i := 3) nd rfl (.inl rfl)) (pgs_cons (pg_name (i := 4) nd rfl (.inl rfl)) pgs_nil))))
  (pss_cons (ps_if (pt_cmpR op_eq (pv 3) pe_str (nomark _))
   (pss_cons (ps_if (pt_not (pt_val (Zk C__law_name_ok (hr.mono (by omega)) (by rfl) (pa_cons (pv 4) pa_nil))))
    (pss_one (ps_ret pe_str))
    pss_nil)
   (pss_one (ps_if (pt_cmp (pc_din hu (pv 4) (pv 1)))
    (pss_one (ps_ret pe_str))
    pss_nil)))
   (pss_one (ps_if (pt_cmp (pc_dnotin hu (pv 4) (pv 1)))
    (pss_one (ps_ret pe_str))
    pss_nil)))
  (pss_cons (ps_if (pt_cmpR op_in_seq (pv 3) (pe_lst (pa_cons pe_str (pa_cons pe_str pa_nil))) (by rfl))
   (pss_cons (ps_if (PW.pt (pw_or (pt_cmpR op_ne (pe_callB call_len_str (by rfl) T.len PySem.boot_len (pa_cons (pe_ix ix_tup (pv 2) pe_int (fun _ _ => rfl)) pa_nil)) pe_int (nomark _)) (pw_or1 (pt_cmpR op_notIn_sign (pe_ix ix_tup (pv 2) pe_int (fun _ _ => rfl)) pe_str rfl))))
    (pss_one (ps_ret pe_str))
    pss_nil)
   (pss_cons (ps_if (PW.pt (pw_or (pt_cmpR (op_eqD hr.units) (pe_ix ix_tup (pv 2) pe_int (fun _ _ => rfl)) (pe_lst pa_nil) (nomark _)) (pw_or1 (pt_not (pt_val (pe_callB (cr_all rfl) (by rfl) T.all (by decide +kernel) (pa_cons (pe_lc (own := [("_law_cell", 5)]) (g := gName 5) (tt := tYes) (te := (tChain (rI0 fun i j => .bl (decide (i ≤ j))) (rI0 fun i j => .bl (decide (i < j))) (tC (.int 0)) (tVar 5) (tVar 0))) (by rfl) nd (pi_list (pe_ix ix_tup (pv 2) pe_int (fun _ _ => rfl))) (blkOk_by (N := ZbG) (sc := defScope ZaR) (by decide +kernel)) (fun _ _ _ _ _ => (pg_name (i := 5) nd rfl (.inl rfl))) (fun _ _ _ _ _ => pts_nil) (fun _ _ _ _ _ => (pe_chain op_le op_lt pe_int (pv 5) (pv 0)))) pa_nil)))))))
    (pss_one (ps_ret pe_str))
    pss_nil)
   (pss_one (ps_ret (pe_ifExp (PW.pt (pw_and (pt_cmpR op_eq (pv 3) pe_str (nomark _)) (pw_and1 (pt_cmpR op_gt (pe_callB call_lenD (by rfl) T.len PySem.boot_len (pa_cons (pv 1) pa_nil)) pe_int (nomark _))))) pe_str pe_str)))))
   pss_nil)
  (pss_cons (ps_if (PW.pt (pw_and (pt_cmpR op_eq (pv 3) pe_str (nomark _)) (pw_and (pt_cmpR op_notN (pe_ix ix_tup (pv 2) pe_int (fun _ _ => rfl)) pe_non (nomark _)) (pw_and1 (pt_not (pt_chain op_le op_le pe_int (pe_ix ix_tup (pv 2) pe_int (fun _ _ => rfl)) pe_int))))))
   (pss_one (ps_ret pe_str))
   pss_nil)
  (pss_one (ps_ret pe_str)))))), ?_⟩
 exact Zdg (kp := fun _ => false) (N := ZbG) (s := ZW) (Zf (ZjP (Zk2 (Zel (ZaE (j := 3) rfl) (Zel (ZaE (j := 4) rfl) ZjW))) (Zj (Zf9 Zcr (Za (i := 2)) Zfr (Zfi Zd.w))))
  (Zf (ZB (Z2 (Zs (Zg Z6 (Za (i := 3)) Zq.w).w))
  (Zf (ZB (Z2 (Zdj (ZbY (ZbI (fun h => h) (Zb (Za (i := 4)) Ze)))))
  (Zv (ZZ (Zj Zq.w)))
  Zy)
  (ZB (Z2 (ZbY (Zlg (Za (i := 4)) (Za (i := 1)))))
  (Zv (ZZ (Zj Zq.w)))
  Zy))
  (ZB (Z2 (ZbY (Zk3 (Za (i := 4)) (Za (i := 1)))))
  (Zv (ZZ (Zj Zq.w)))
  Zy))
  (Zf (ZB (Z2 (Zs (Zg (Zsd false) (Za (i := 3)) (Zb3 (Zb Zq.w (Zb Zq.w Ze))).w).w))
  (Zf (ZB (Z2 (ZhF (Zs (Zg Zhz (ZQ Zfo (Zb (Zw ZA (Za (i := 2)) Zd.w) Ze)).w Zd.w).w) (Zs (Zg ZnV (Zw ZA (Za (i := 2)) Zd.w) Zq.w).w)))
  (Zv (ZZ (Zj Zq.w)))
  Zy)
  (Zf (ZB (Z2 (ZhF (Zs (Zg ZrR (Zw ZA (Za (i := 2)) Zd.w) (Zb3 Ze).w).w) (Zdj (ZbY (ZQ Zgy (Zb (Zgp (vs := [5]) (Zn7 (Zw ZA (Za (i := 2)) Zd.w)) (Zd1 (j := 5)) (by decide) Zdi (Zen (OpF.ok Zfp) (OpF.ok ZhE) Zd.w (Za (i := 5)) (Za (i := 0)))).w Ze)).w))))
  (Zv (ZZ (Zj Zq.w)))
  Zy)
  (Zv (ZZ (Zj (Zkk (ZdV (Zs (Zg Z6 (Za (i := 3)) Zq.w).w) (Zs (Zg ZhD (ZQ Zfj (Zb (Za (i := 1)) Ze)).w Zd.w).w)) Zq.w Zq.w))))))
  Zy)
  (Zf (ZB (Z2 (ZdV (Zs (Zg Z6 (Za (i := 3)) Zq.w).w) (ZdV (Zs (Zg ZjU (Zw ZA (Za (i := 2)) Zd.w) ZbZ.w).w) (Zdj (Zs (Zen (OpF.ok Zfp) (OpF.ok Zfp) Zd.w (Zw ZA (Za (i := 2)) Zd.w) Zd.w))))))
  (Zv (ZZ (Zj Zq.w)))
  Zy)
  (Zv (ZZ (Zj Zq.w))))))) gh dv hd q
noncomputable abbrev Zb7 : Stmt := top 34
noncomputable abbrev ZdJ : List Str := ["_law_size_here", "_law_a", "_law_call", "_law_why", "_law_word", "_law_name"]
noncomputable abbrev ZaX : List Str := ["_law_size_here", "_law_a", "_law_call"]
theorem Zdt : FnScope ZdJ ZaX (defScope Zb7) := ⟨rfl, rfl, rfl, by decide +kernel, rfl, by decide +kernel, by decide +kernel⟩
noncomputable def Zb0 : FS := (sSeq (sAsg 3 (xW (wCb f__law_album_bad (aCons (wV 0) (aCons (wV 1) (aCons (wV 2) aNil))))))
  (sSeq (sIf (bS (bW (wOp (oEq true) (wV 3) (wC (.str (Str.ofString ""))))))
  (sRet (nMove 3))
  sNil)
  (sSeq (sAsgG (eTup 2 (eCons (eName 4) (eCons (eName 5) eNil))) (xS (wSl oSlT (wV 2) pNo (pSo (wC (.int 2))))))
  (sSeq (sIf (bS (bW (wOp (oEq false) (wV 4) (wC (.str (Str.ofString "add"))))))
  (sDPutX (pV 1) (wV 5) (xS (wTup (aCons (wOp oIxT (wV 2) (wC (.int 2))) (aCons (wCb cTupL (aCons (wUn oRiseB (wOp oIxT (wV 2) (wC (.int 3)))) aNil)) (aCons (wC .none) aNil))))))
  sNil)
  (sSeq (sIf (bS (bW (wOp (oEq false) (wV 4) (wC (.str (Str.ofString "amend"))))))
  (sDPutX (pV 1) (wV 5) (xTup (aConsX (xS (wOp oIxT (wV 2) (wC (.int 2)))) (aConsX (xS (wCb cTupL (aCons (wUn oRiseB (wOp oIxT (wV 2) (wC (.int 3)))) aNil))) (aConsX (xW (wOp oIxT (wOp oDGet (wV 1) (wV 5)) (wC (.int 2)))) aNilX)))))
  sNil)
  (sSeq (sIf (bS (bW (wOp (oEq false) (wV 4) (wC (.str (Str.ofString "date"))))))
  (sDPutX (pV 1) (wV 5) (xOp oCatA (xSl oSlT (xP (pD (pV 1) (wV 5))) xpNo (xpSo (xS (wC (.int 2))))) (xS (wTup (aCons (wOp oIxT (wV 2) (wC (.int 2))) aNil)))))
  sNil)
  (sSeq (sIf (bS (bW (wOp (oEq false) (wV 4) (wC (.str (Str.ofString "strike"))))))
  (sDPopP (pV 1) (wV 5))
  sNil)
  (sRet (nX (xS (wC (.str (Str.ofString "")))))))))))))
noncomputable def f__law_album_do := fnI 3 6 (fun i => Nat.beq i 1) (Zb0)
set_option maxHeartbeats 8000000 in
theorem ZfS {f : Addr} {fd : FuncData} (T : Tx mg) (F : Fun K "_law_album_do" "_law_album_do" Zb7 f fd)
  (C__law_album_bad : Cal P w K mg base "_law_album_bad" 2 ZaN (PSp fun ds d => f__law_album_bad ds = some d)) : FnOk P w K mg base CX0 3 f fd ZaX (ISp f__law_album_do) := by
 have nd := Zdt.nd
 refine F.ok Zdt (fun vs H Q E h => h.len) (fun cdv A outer s H vs Q E hr h => ?_)
 have hu := hu_of hr
 refine ⟨_, (pss_cons (ps_set (i := 3) nd rfl (.inl rfl) (Zk C__law_album_bad (hr.mono (by omega)) (by rfl) (pa_cons (pv 0) (pa_cons (pv 1) (pa_cons (pv 2) pa_nil)))))
  (pss_cons (ps_if (pt_cmpR op_ne (pv 3) pe_str (nomark _))
   (pss_one (ps_ret (pv 3)))
   pss_nil)
  (pss_cons (ps_asg (pe_slice sl_tupA (pv 2) po_none (po_some pe_int)) (pg_tup rfl (pgs_cons (pg_name (i := 4) nd rfl (.inl rfl)) (pgs_cons (pg_name (i := 5) nd rfl (.inl rfl)) pgs_nil))))
  (pss_cons (ps_if (pt_cmpR op_eq (pv 4) pe_str (nomark _))
   (pss_one (ps_dput hu (pv 1) (pv 5) (pe_tup (pa_cons (pe_ix ix_tup (pv 2) pe_int (fun _ _ => rfl)) (pa_cons (pe_callTy call_tuple_of (by rfl) T.tuple (by decide +kernel) (pa_cons (pe_callB (ZcR rfl) (by rfl) T.sorted (by decide +kernel) (pa_cons (pe_callTy (ZgV rfl) (by rfl) T.set (by decide +kernel) (pa_cons (pe_ix ix_tup (pv 2) pe_int (fun _ _ => rfl)) pa_nil)) pa_nil)) pa_nil)) (pa_cons pe_non pa_nil)))) rfl))
   pss_nil)
  (pss_cons (ps_if (pt_cmpR op_eq (pv 4) pe_str (nomark _))
   (pss_one (ps_dput hu (pv 1) (pv 5) (pe_tup (pa_cons (pe_ix ix_tup (pv 2) pe_int (fun _ _ => rfl)) (pa_cons (pe_callTy call_tuple_of (by rfl) T.tuple (by decide +kernel) (pa_cons (pe_callB (ZcR rfl) (by rfl) T.sorted (by decide +kernel) (pa_cons (pe_callTy (ZgV rfl) (by rfl) T.set (by decide +kernel) (pa_cons (pe_ix ix_tup (pv 2) pe_int (fun _ _ => rfl)) pa_nil)) pa_nil)) pa_nil)) (pa_cons (pe_ix ix_tup (pe_dget hu (pv 1) (pv 5) (fun _ _ => rfl)) pe_int (fun _ _ => rfl)) pa_nil)))) rfl))
   pss_nil)
  (pss_cons (ps_if (pt_cmpR op_eq (pv 4) pe_str (nomark _))
   (pss_one (ps_dput hu (pv 1) (pv 5) (pe_op op_catA (pe_slice sl_tupA (pe_dget hu (pv 1) (pv 5) (fun _ _ => rfl)) po_none (po_some pe_int)) (pe_tup (pa_cons (pe_ix ix_tup (pv 2) pe_int (fun _ _ => rfl)) pa_nil))) rfl))
   pss_nil)
  (pss_cons (ps_if (pt_cmpR op_eq (pv 4) pe_str (nomark _))
   (pss_one (ps_expr (pe_dpop1 (pv 1) (pv 5) ⟨rfl, rfl, rfl, rfl⟩)))
   pss_nil)
  (pss_one (ps_ret pe_str))))))))), ?_⟩
 exact Zac (kp := fun i => Nat.beq i 1) (N := ZdJ) (s := Zb0) (Zf (ZI (i := 3) rfl (ZcT (ZbI (fun h => h) (Zb (Za (i := 0)) (Zb (Za (i := 1)) (Zb (Za (i := 2)) Ze))))))
  (Zf (ZB (Z2 (Zs (Zg Zhz (Za (i := 3)) Zq.w).w))
  (Zjx (i := 3) rfl)
  Zy)
  (Zf (ZjP (Zk2 (Zel (ZaE (j := 4) rfl) (Zel (ZaE (j := 5) rfl) ZjW))) (Zj (Zf9 Zcr (Za (i := 2)) Zfr (Zfi Zd.w))))
  (Zf (ZB (Z2 (Zs (Zg Z6 (Za (i := 4)) Zq.w).w))
  (Zcp (ZaF (i := 1)) (Za (i := 5)) (Zj (ZaW (Zb (Zw ZA (Za (i := 2)) Zd.w) (Zb (ZQ Zff (Zb (ZfR (Zw ZA (Za (i := 2)) Zd.w)).w Ze)).w (Zb ZbZ.w Ze)))).w))
  Zy)
  (Zf (ZB (Z2 (Zs (Zg Z6 (Za (i := 4)) Zq.w).w))
  (Zcp (ZaF (i := 1)) (Za (i := 5)) (Zb5 (Zo (Zj (Zw ZA (Za (i := 2)) Zd.w)) (Zo (Zj (ZQ Zff (Zb (ZfR (Zw ZA (Za (i := 2)) Zd.w)).w Ze)).w) (Zo (ZcT (Zw ZA (ZjZ (Za (i := 1)) (Za (i := 5))) Zd.w)) Zaa)))))
  Zy)
  (Zf (ZB (Z2 (Zs (Zg Z6 (Za (i := 4)) Zq.w).w))
  (Zcp (ZaF (i := 1)) (Za (i := 5)) (ZN Zc7 (Zkd Zcr (Zkl (Zfd (ZaF (i := 1)) (Za (i := 5)))) Ziz (ZhY (Zj Zd.w))) (Zj (ZaW (Zb (Zw ZA (Za (i := 2)) Zd.w) Ze)).w)))
  Zy)
  (Zf (ZB (Z2 (Zs (Zg Z6 (Za (i := 4)) Zq.w).w))
  (Zh1 (ZaF (i := 1)) (Za (i := 5)))
  Zy)
  (Zv (ZZ (Zj Zq.w)))))))))) h
noncomputable abbrev Zer : Stmt := top 28
noncomputable abbrev Zgs : List Str := ["_law_draw", "_law_number"]
noncomputable abbrev Zc1 : List Str := ["_law_draw"]
theorem ZfI : FnScope Zgs Zc1 (defScope Zer) := ⟨rfl, rfl, rfl, by decide +kernel, rfl, by decide +kernel, by decide +kernel⟩
noncomputable def Zee : FS := (sSeq (sAsg 1 (xN (nCallI (noX f__law_take) [0] (aS (aCons (wOp oPow (wC (.int 10)) (wC (.int 9))) aNil)))))
  (sRet (nX (xOp oIxT (xS (wTup (aCons (wUn oNeg (wC (.int 1))) (aCons (wC (.int 0)) (aCons (wC (.int 1)) (aCons (wC (.int 25)) (aCons (wC (.int 61)) (aCons (wV 1) (aCons (wOp oSub (wUn oNeg (wC (.int 1))) (wV 1)) (aCons (wOp oMul (wV 1) (wOp oPow (wC (.int 10)) (wC (.int 20)))) (aCons (wOp oMul (wUn oNeg (wV 1)) (wOp oPow (wC (.int 10)) (wC (.int 20)))) aNil))))))))))) (xN (nCallI (noX f__law_take) [0] (aS (aCons (wC (.int 9)) aNil))))))))
noncomputable def f__law_odd := fnI 1 2 (fun i => Nat.blt i 1) (Zee)
set_option maxHeartbeats 8000000 in
theorem Zi7 {f : Addr} {fd : FuncData} (T : Tx mg) (F : Fun K "_law_odd" "_law_odd" Zer f fd)
  (C__law_take : Cal P w K mg base "_law_take" 1 Z1 (ISp f__law_take)) : FnOk P w K mg base CX0 2 f fd Zc1 (ISp f__law_odd) := by
 have nd := ZfI.nd
 refine F.ok ZfI (fun vs H Q E h => h.len) (fun cdv A outer s H vs Q E hr h => ?_)
 have hu := hu_of hr
 refine ⟨_, (pss_cons (ps_set (i := 1) nd rfl (.inl rfl) (Zk C__law_take (hr.mono (by omega)) (by rfl) (pa_cons (pv 0) (pa_cons (pe_op op_pow pe_int pe_int) pa_nil))))
  (pss_one (ps_ret (pe_ix ix_tup (pe_tup (pa_cons (pe_un un_neg pe_int) (pa_cons pe_int (pa_cons pe_int (pa_cons pe_int (pa_cons pe_int (pa_cons (pv 1) (pa_cons (pe_op op_sub (pe_un un_neg pe_int) (pv 1)) (pa_cons (pe_op op_mul (pv 1) (pe_op op_pow pe_int pe_int)) (pa_cons (pe_op op_mul (pe_un un_neg (pv 1)) (pe_op op_pow pe_int pe_int)) pa_nil)))))))))) (Zk C__law_take (hr.mono (by omega)) (by rfl) (pa_cons (pv 0) (pa_cons pe_int pa_nil))) (fun _ _ => rfl))))), ?_⟩
 exact Zac (kp := fun i => Nat.blt i 1) (N := Zgs) (s := Zee) (Zf (ZI (i := 1) rfl (ZD (Zm (is := [0]) Zi (Zz (Zb (Zg Ze0 Zd.w Zd.w).w Ze)))))
  (Zv (ZZ (ZN (ZA) (Zj (ZaW (Zb (Zb8 Zbx Zd.w) (Zb Zd.w (Zb Zd.w (Zb Zd.w (Zb Zd.w (Zb (Za (i := 1)) (Zb (Zg ZkX (Zb8 Zbx Zd.w) (Za (i := 1))).w (Zb (Zg Zbv (Za (i := 1)) (Zg Ze0 Zd.w Zd.w).w).w (Zb (Zg Zbv (Zb8 Zbx (Za (i := 1))) (Zg Ze0 Zd.w Zd.w).w).w Ze)))))))))).w) (ZD (Zm (is := [0]) Zi (Zz (Zb Zd.w Ze)))))))) h
noncomputable abbrev Za2 : Stmt := top 41
noncomputable abbrev ZcN : List Str := ["_law_draw", "_law_size_here", "_law_call", "_law_at", "_law_part"]
noncomputable abbrev Zay : List Str := ["_law_draw", "_law_size_here", "_law_call"]
theorem Zce : FnScope ZcN Zay (defScope Za2) := ⟨rfl, rfl, rfl, by decide +kernel, rfl, by decide +kernel, by decide +kernel⟩
noncomputable def ZX : FS := (sSeq (sAsg 3 (xOp oAdd (xS (wC (.int 1))) (xN (nCallI (noX f__law_take) [0] (aS (aCons (wOp oSub (wCb cLen (aCons (wV 2) aNil)) (wC (.int 1))) aNil))))))
  (sSeq (sAsg 4 (xS (wOp oIxT (wV 2) (wV 3))))
  (sSeq (sIf (bS (bOr (bW (wOp (oIsN false) (wV 4) (wC .none))) (bW (wUn (oIsi "int") (wV 4)))))
  (sAsg 4 (xOp oIxT (xTup (aConsX (xS (wUn oNeg (wC (.int 1)))) (aConsX (xS (wC (.int 10000))) (aConsX (xS (wC (.int 9999))) (aConsX (xS (wC (.int 0))) (aConsX (xS (wC .none)) (aConsX (xN (nCallI (noX f__law_odd) [0] (aS aNil))) aNilX))))))) (xN (nCallI (noX f__law_take) [0] (aS (aCons (wC (.int 6)) aNil))))))
  (sIf (bS (bW (wUn (oIsi "str") (wV 4))))
  (sAsg 4 (xOp oIxT (xS (wTup (aCons (wC (.str (Str.ofString ""))) (aCons (wC (.str (Str.ofString "A"))) (aCons (wC (.str (Str.ofString "ab"))) (aCons (wC (.str (Str.ofString "abcdefghi"))) (aCons (wC (.str (Str.ofString "-"))) (aCons (wC (.str (Str.ofString "nobody"))) aNil)))))))) (xN (nCallI (noX f__law_take) [0] (aS (aCons (wC (.int 6)) aNil))))))
  (sAsg 4 (xOp oIxT (xS (wTup (aCons (wLst aNil) (aCons (wOp oCat (wV 4) (wLst (aCons (wV 1) aNil))) (aCons (wOp oCat (wV 4) (wLst (aCons (wUn oNeg (wC (.int 1))) aNil))) (aCons (wOp oCat (wUn oRevL (wV 4)) (wV 4)) (aCons (wLst (aCons (wOp oPow (wC (.int 10)) (wC (.int 25))) aNil)) aNil))))))) (xN (nCallI (noX f__law_take) [0] (aS (aCons (wC (.int 5)) aNil))))))))
  (sRet (nX (xS (wOp oCatA (wOp oCatA (wSl oSlT (wV 2) pNo (pSo (wV 3))) (wTup (aCons (wV 4) aNil))) (wSl oSlT (wV 2) (pSo (wOp oAdd (wV 3) (wC (.int 1)))) pNo))))))))
noncomputable def f__law_spoilt_call := fnI 3 5 (fun i => Nat.blt i 1) (ZX)
set_option maxHeartbeats 8000000 in
theorem ZeG {f : Addr} {fd : FuncData} (T : Tx mg) (F : Fun K "_law_spoilt_call" "_law_spoilt_call" Za2 f fd)
  (C__law_take : Cal P w K mg base "_law_take" 1 Z1 (ISp f__law_take))
  (C__law_odd : Cal P w K mg base "_law_odd" 2 Zc1 (ISp f__law_odd)) : FnOk P w K mg base CX0 3 f fd Zay (ISp f__law_spoilt_call) := by
 have nd := Zce.nd
 refine F.ok Zce (fun vs H Q E h => h.len) (fun cdv A outer s H vs Q E hr h => ?_)
 have hu := hu_of hr
 refine ⟨_, (pss_cons (ps_set (i := 3) nd rfl (.inl rfl) (pe_op op_add pe_int (Zk C__law_take (hr.mono (by omega)) (by rfl) (pa_cons (pv 0) (pa_cons (pe_op op_sub (pe_callB call_len_seq (by rfl) T.len PySem.boot_len (pa_cons (pv 2) pa_nil)) pe_int) pa_nil)))))
  (pss_cons (ps_set (i := 4) nd rfl (.inl rfl) (pe_ix ix_tup (pv 2) (pv 3) (fun _ _ => rfl)))
  (pss_cons (ps_if (PW.pt (pw_or (pt_cmpR op_isN (pv 4) pe_non (nomark _)) (pw_or1 (pt_val (pe_callB call_isi (by rfl) T.isinstance (by decide +kernel) (pa_cons (pv 4) (pa_cons (pe_bltn (v := .ty "int") (u := .type "int") (by rfl) T.int (by decide +kernel) rfl) pa_nil)))))))
   (pss_one (ps_set (i := 4) nd rfl (.inl rfl) (pe_ix ix_tup (pe_tup (pa_cons (pe_un un_neg pe_int) (pa_cons pe_int (pa_cons pe_int (pa_cons pe_int (pa_cons pe_non (pa_cons (Zk C__law_odd (hr.mono (by omega)) (by rfl) (pa_cons (pv 0) pa_nil)) pa_nil))))))) (Zk C__law_take (hr.mono (by omega)) (by rfl) (pa_cons (pv 0) (pa_cons pe_int pa_nil))) (fun _ _ => rfl))))
   (pss_one (ps_if (pt_val (pe_callB call_isi (by rfl) T.isinstance (by decide +kernel) (pa_cons (pv 4) (pa_cons (pe_bltn (v := .ty "str") (u := .type "str") (by rfl) T.str (by decide +kernel) rfl) pa_nil))))
    (pss_one (ps_set (i := 4) nd rfl (.inl rfl) (pe_ix ix_tup (pe_tup (pa_cons pe_str (pa_cons pe_str (pa_cons pe_str (pa_cons pe_str (pa_cons pe_str (pa_cons pe_str pa_nil))))))) (Zk C__law_take (hr.mono (by omega)) (by rfl) (pa_cons (pv 0) (pa_cons pe_int pa_nil))) (fun _ _ => rfl))))
    (pss_one (ps_set (i := 4) nd rfl (.inl rfl) (pe_ix ix_tup (pe_tup (pa_cons (pe_lst pa_nil) (pa_cons (pe_op op_cat (pv 4) (pe_lst (pa_cons (pv 1) pa_nil))) (pa_cons (pe_op op_cat (pv 4) (pe_lst (pa_cons (pe_un un_neg pe_int) pa_nil))) (pa_cons (pe_op op_cat (pe_revL (pv 4)) (pv 4)) (pa_cons (pe_lst (pa_cons (pe_op op_pow pe_int pe_int) pa_nil)) pa_nil)))))) (Zk C__law_take (hr.mono (by omega)) (by rfl) (pa_cons (pv 0) (pa_cons pe_int pa_nil))) (fun _ _ => rfl)))))))
  (pss_one (ps_ret (pe_op op_catA (pe_op op_catA (pe_slice sl_tupA (pv 2) po_none (po_some (pv 3))) (pe_tup (pa_cons (pv 4) pa_nil))) (pe_slice sl_tupA (pv 2) (po_some (pe_op op_add (pv 3) pe_int)) po_none))))))), ?_⟩
 exact Zac (kp := fun i => Nat.blt i 1) (N := ZcN) (s := ZX) (Zf (ZI (i := 3) rfl (ZN (OpF.ok ZaH) (Zj Zd.w) (ZD (Zm (is := [0]) Zi (Zz (Zb (Zg ZkX (ZQ Zge (Zb (Za (i := 2)) Ze)).w Zd.w).w Ze))))))
  (Zf (ZI (i := 4) rfl (Zj (Zw ZA (Za (i := 2)) (Za (i := 3)))))
  (Zf (ZB (Z2 (ZhF (Zs (Zg ZkD (Za (i := 4)) ZbZ.w).w) (ZbY (Zgb (Za (i := 4))).w)))
  (ZI (i := 4) rfl (ZN (ZA) (Zb5 (Zo (Zj (Zb8 Zbx Zd.w)) (Zo (Zj Zd.w) (Zo (Zj Zd.w) (Zo (Zj Zd.w) (Zo (Zj ZbZ.w) (Zo (ZD (Zm (is := [0]) Zi (Zz Ze))) Zaa))))))) (ZD (Zm (is := [0]) Zi (Zz (Zb Zd.w Ze))))))
  (ZB (Z2 (ZbY (Zgb (Za (i := 4))).w))
  (ZI (i := 4) rfl (ZN (ZA) (Zj (ZaW (Zb Zq.w (Zb Zq.w (Zb Zq.w (Zb Zq.w (Zb Zq.w (Zb Zq.w Ze))))))).w) (ZD (Zm (is := [0]) Zi (Zz (Zb Zd.w Ze))))))
  (ZI (i := 4) rfl (ZN (ZA) (Zj (ZaW (Zb (Zb3 Ze).w (Zb (Zg ZeQ (Za (i := 4)) (Zb3 (Zb (Za (i := 1)) Ze)).w).w (Zb (Zg ZeQ (Za (i := 4)) (Zb3 (Zb (Zb8 Zbx Zd.w) Ze)).w).w (Zb (Zg ZeQ (Zq9 (fun _ _ _ h => h) Zob (Za (i := 4))).w (Za (i := 4))).w (Zb (Zb3 (Zb (Zg Ze0 Zd.w Zd.w).w Ze)).w Ze)))))).w) (ZD (Zm (is := [0]) Zi (Zz (Zb Zd.w Ze))))))))
  (Zv (ZZ (Zj (Zw Zc7 (Zw Zc7 (Zf9 Zcr (Za (i := 2)) Zfr (Zfi (Za (i := 3)))) (ZaW (Zb (Za (i := 4)) Ze)).w) (Zf9 Zcr (Za (i := 2)) (Zfi (Zg ZaH (Za (i := 3)) Zd.w).w) Zfr)))))))) h
noncomputable abbrev Zby : Stmt := top 27
noncomputable abbrev ZfA : List Str := ["_law_found", "_law_due", "_law_one", "_law_other"]
noncomputable abbrev ZaA : List Str := ["_law_found", "_law_due"]
theorem Zdp : FnScope ZfA ZaA (defScope Zby) := ⟨rfl, rfl, rfl, by decide +kernel, rfl, by decide +kernel, by decide +kernel⟩
noncomputable def Zd5 : Nat → List PyData → PyData → Prop
 | 0 => fun _ _ => False
 | n + 1 => fun ds d => ∃ e, ds = [e, e] ∧ Sm n e ∧ d = .bool true
theorem Zi0 {α : Type} (xs : List α) : (xs.map fun _ => true).all id = true := by simp
set_option maxHeartbeats 8000000 in
theorem Zhs {f : Addr} {fd : FuncData} (T : Tx mg) (F : Fun K "_law_same" "_law_same" Zby f fd) (n : Nat) (C__law_same : Cal P w K mg base "_law_same" (n + 1) ZaA (PSp (Zd5 n))) : FnOk P w K mg base CX0 (n + 2) f fd ZaA (PSp (Zd5 (n + 1))) := by
 have nd := Zdp.nd
 refine F.ok Zdp (fun vs H Q E h => ?_) (fun cdv A outer s H vs Q E hr h => ?_)
 ·obtain ⟨G, ds, d, gh, dv, ⟨e, rfl, _⟩, _⟩ := h
  exact dv.len
 ·obtain ⟨G, ds, d, gh, dv, ⟨e, rfl, hS, rfl⟩, q⟩ := h
  obtain ⟨v, u, rfl, dv1, du1⟩ := dv.two
  refine ⟨_, (pss_cons (ps_if (pt_val (pe_callB call_isiT (by rfl) T.isinstance (by decide +kernel) (pa_cons (pv 1) (pa_cons (pe_tup (pa_cons (pe_bltn (v := .ty "list") (u := .type "list") (by rfl) T.list (by decide +kernel) rfl) (pa_cons (pe_bltn (v := .ty "tuple") (u := .type "tuple") (by rfl) T.tuple (by decide +kernel) rfl) pa_nil))) pa_nil))))
   (pss_cons (ps_if (PW.pt (pw_or (pt_cmpR op_ne (pe_callB call_isi (by rfl) T.isinstance (by decide +kernel) (pa_cons (pv 0) (pa_cons (pe_bltn (v := .ty "list") (u := .type "list") (by rfl) T.list (by decide +kernel) rfl) pa_nil))) (pe_callB call_isi (by rfl) T.isinstance (by decide +kernel) (pa_cons (pv 1) (pa_cons (pe_bltn (v := .ty "list") (u := .type "list") (by rfl) T.list (by decide +kernel) rfl) pa_nil))) (nomark _)) (pw_or1 (pt_cmpR op_ne (pe_callB call_isi (by rfl) T.isinstance (by decide +kernel) (pa_cons (pv 0) (pa_cons (pe_bltn (v := .ty "tuple") (u := .type "tuple") (by rfl) T.tuple (by decide +kernel) rfl) pa_nil))) (pe_callB call_isi (by rfl) T.isinstance (by decide +kernel) (pa_cons (pv 1) (pa_cons (pe_bltn (v := .ty "tuple") (u := .type "tuple") (by rfl) T.tuple (by decide +kernel) rfl) pa_nil))) (nomark _)))))
    (pss_one (ps_ret pe_bl))
    pss_nil)
   (pss_one (ps_ret (pe_and (pe_cmpR op_eq (pe_callB call_len_seq (by rfl) T.len PySem.boot_len (pa_cons (pv 0) pa_nil)) (pe_callB call_len_seq (by rfl) T.len PySem.boot_len (pa_cons (pv 1) pa_nil)) (nomark _)) (pe_one (pe_callB (cr_all rfl) (by rfl) T.all (by decide +kernel) (pa_cons (pe_lc (own := [("_law_one", 2), ("_law_other", 3)]) (g := gTup K 2 (gCons (gName 2) (gCons (gName 3) gNil))) (tt := tYes) (te := (tCall _ [] E0 (tCons (tVar 2) (tCons (tVar 3) tNil)))) (by rfl) nd (RZ.pi_zipA (by rfl) T.zip (pa_cons (pv 0) (pa_cons (pv 1) pa_nil))) (blkOk_by (N := ZfA) (sc := defScope Zby) (by decide +kernel)) (fun _ _ _ _ _ => (pg_tup rfl (pgs_cons (pg_name (i := 2) nd rfl (.inl rfl)) (pgs_cons (pg_name (i := 3) nd rfl (.inl rfl)) pgs_nil)))) (fun _ _ _ _ _ => pts_nil) (fun _ _ _ _ _ => (Zk C__law_same (hr.mono (by omega)) (by rfl) (pa_cons (pv 2) (pa_cons (pv 3) pa_nil))))) pa_nil)))))))
   pss_nil)
  (pss_cons (ps_if (pt_cmpR op_isN (pv 1) pe_non (nomark _))
   (pss_one (ps_ret (pe_cmpR op_isN (pv 0) pe_non (nomark _))))
   pss_nil)
  (pss_cons (ps_if (PW.pt (pw_or (pt_cmpR op_ne (pe_callB call_isi (by rfl) T.isinstance (by decide +kernel) (pa_cons (pv 0) (pa_cons (pe_bltn (v := .ty "bool") (u := .type "bool") (by rfl) T.bool (by decide +kernel) rfl) pa_nil))) (pe_callB call_isi (by rfl) T.isinstance (by decide +kernel) (pa_cons (pv 1) (pa_cons (pe_bltn (v := .ty "bool") (u := .type "bool") (by rfl) T.bool (by decide +kernel) rfl) pa_nil))) (nomark _)) (pw_or1 (pt_cmpR op_ne (pe_callB call_isi (by rfl) T.isinstance (by decide +kernel) (pa_cons (pv 0) (pa_cons (pe_bltn (v := .ty "str") (u := .type "str") (by rfl) T.str (by decide +kernel) rfl) pa_nil))) (pe_callB call_isi (by rfl) T.isinstance (by decide +kernel) (pa_cons (pv 1) (pa_cons (pe_bltn (v := .ty "str") (u := .type "str") (by rfl) T.str (by decide +kernel) rfl) pa_nil))) (nomark _)))))
   (pss_one (ps_ret pe_bl))
   pss_nil)
  (pss_one (ps_ret (pe_and (pe_cmpR op_eq (pe_callB call_isi (by rfl) T.isinstance (by decide +kernel) (pa_cons (pv 0) (pa_cons (pe_bltn (v := .ty "int") (u := .type "int") (by rfl) T.int (by decide +kernel) rfl) pa_nil))) (pe_callB call_isi (by rfl) T.isinstance (by decide +kernel) (pa_cons (pv 1) (pa_cons (pe_bltn (v := .ty "int") (u := .type "int") (by rfl) T.int (by decide +kernel) rfl) pa_nil))) (nomark _)) (pe_one (pe_cmpR op_eq (pv 0) (pv 1) (nomark _))))))))), ?_⟩
  cases e with
  | dict kvs => exact absurd hS (by cases n <;> exact fun h => h)
  | none =>
   refine ZaT gh (ZeN (Zc4 (c := false) (Zl rfl du1) Zf5 Zfu (by decide))) (fun z => nomatch z) fun _ H1 go => ?_
   refine ZaT go.gh (Z9 (Ze6 (b := true) (Zl rfl du1) rfl)) (fun _ H2 go2 => ?_) (fun z => nomatch z)
   exact Zdx go2.gh (Ze6 (b := true) (Zl rfl dv1) rfl) ((go.trans go2).retX q)
  | bool b =>
   refine ZaT gh (ZeN (Zc4 (c := false) (Zl rfl du1) Zh8 Zhr (by decide))) (fun z => nomatch z) fun _ H1 go => ?_
   refine ZaT go.gh (Z9 (Ze6 (b := false) (Zl rfl du1) rfl)) (fun z => nomatch z) (fun _ H2 go2 => ?_)
   refine ZaT go2.gh (EvB.eq (b := false) (Zep (Z9 (Zbs (ZL (b := true) (Zl rfl dv1) ZeS) (ZL (b := true) (Zl rfl du1) ZeS))) fun _ => (Z9 (Zbs (ZL (b := false) (Zl rfl dv1) ZfP) (ZL (b := false) (Zl rfl du1) ZfP)))) (by decide)) (fun z => nomatch z) (fun _ H3 go3 => ?_)
   exact Zdx go3.gh (EvX.eq (Zdc (ZgJ (ZL (b := true) (Zl rfl dv1) ZfD) (ZL (b := true) (Zl rfl du1) ZfD)) fun _ => ZgJ (Zl rfl dv1) (Zl rfl du1)) (by simp)) (((go.trans go2).trans go3).retX q)
  | int b =>
   refine ZaT gh (ZeN (Zc4 (c := false) (Zl rfl du1) Zi3 Zh9 (by decide))) (fun z => nomatch z) fun _ H1 go => ?_
   refine ZaT go.gh (Z9 (Ze6 (b := false) (Zl rfl du1) rfl)) (fun z => nomatch z) (fun _ H2 go2 => ?_)
   refine ZaT go2.gh (EvB.eq (b := false) (Zep (Z9 (Zbs (ZL (b := false) (Zl rfl dv1) ZfO) (ZL (b := false) (Zl rfl du1) ZfO))) fun _ => (Z9 (Zbs (ZL (b := false) (Zl rfl dv1) Zgi) (ZL (b := false) (Zl rfl du1) Zgi)))) (by decide)) (fun z => nomatch z) (fun _ H3 go3 => ?_)
   exact Zdx go3.gh (EvX.eq (Zdc (ZgJ (ZL (b := true) (Zl rfl dv1) Zf7) (ZL (b := true) (Zl rfl du1) Zf7)) fun _ => ZiF (Zl rfl dv1) (Zl rfl du1)) (by simp)) (((go.trans go2).trans go3).retX q)
  | str b =>
   refine ZaT gh (ZeN (Zc4 (c := false) (Zl rfl du1) Zjg ZhU (by decide))) (fun z => nomatch z) fun _ H1 go => ?_
   refine ZaT go.gh (Z9 (Ze6 (b := false) (Zl rfl du1) rfl)) (fun z => nomatch z) (fun _ H2 go2 => ?_)
   refine ZaT go2.gh (EvB.eq (b := false) (Zep (Z9 (Zbs (ZL (b := false) (Zl rfl dv1) ZfL) (ZL (b := false) (Zl rfl du1) ZfL))) fun _ => (Z9 (Zbs (ZL (b := true) (Zl rfl dv1) Zgr) (ZL (b := true) (Zl rfl du1) Zgr)))) (by decide)) (fun z => nomatch z) (fun _ H3 go3 => ?_)
   exact Zdx go3.gh (EvX.eq (Zdc (ZgJ (ZL (b := false) (Zl rfl dv1) ZgC) (ZL (b := false) (Zl rfl du1) ZgC)) fun _ => Zq6 (Zl rfl dv1) (Zl rfl du1)) (by simp)) (((go.trans go2).trans go3).retX q)
  | list ds =>
   cases n with
   | zero => exact hS.elim
   | succ n =>
   obtain ⟨hS1, hS2⟩ := hS
   refine ZaT gh (ZeN (Zc4 (c := true) (Zl rfl du1) Zdy ZcQ (by decide))) (fun _ H1 go => ?_) (fun z => nomatch z)
   refine ZaT go.gh (EvB.eq (b := false) (Zep (Z9 (Zbs (ZL (b := true) (Zl rfl dv1) Zdy) (ZL (b := true) (Zl rfl du1) Zdy))) fun _ => (Z9 (Zbs (ZL (b := false) (Zl rfl dv1) ZcQ) (ZL (b := false) (Zl rfl du1) ZcQ)))) (by decide)) (fun z => nomatch z) (fun _ H2 go2 => ?_)
   exact Zdx go2.gh (EvX.eq (Zdc (ZiF (Zlh (Zl rfl dv1)) (Zlh (Zl rfl du1))) fun _ => ZkT (bs := (List.range ds.length).map fun _ => true) ((ZjT (fun _ => .bool true) (.inl (ea1 (Zl rfl dv1) (ea1 (Zl rfl du1) ea0))) rfl hS1 (fun _ _ => rfl) (fun i x y d e Gi hd he g dx dy => by
    have ee := Option.some.inj (hd.symm.trans he)
    subst ee
    exact Zfa (ea1 (Zl rfl dx) (ea1 (Zl rfl dy) ea0)) ⟨d, rfl, hS2 d (List.mem_of_getElem? hd), rfl⟩)).eq (Zjz _ _)).toX) (by rw [Zi0]; simp)) ((go.trans go2).retX q)
  | tuple ds =>
   cases n with
   | zero => exact hS.elim
   | succ n =>
   obtain ⟨hS1, hS2⟩ := hS
   refine ZaT gh (ZeN (Zc4 (c := true) (Zl rfl du1) ZcS Zcj (by decide))) (fun _ H1 go => ?_) (fun z => nomatch z)
   refine ZaT go.gh (EvB.eq (b := false) (Zep (Z9 (Zbs (ZL (b := false) (Zl rfl dv1) ZcS) (ZL (b := false) (Zl rfl du1) ZcS))) fun _ => (Z9 (Zbs (ZL (b := true) (Zl rfl dv1) Zcj) (ZL (b := true) (Zl rfl du1) Zcj)))) (by decide)) (fun z => nomatch z) (fun _ H2 go2 => ?_)
   exact Zdx go2.gh (EvX.eq (Zdc (ZiF (Zjn (Zl rfl dv1)) (Zjn (Zl rfl du1))) fun _ => ZkT (bs := (List.range ds.length).map fun _ => true) ((ZjT (fun _ => .bool true) (.inr (ea1 (Zl rfl dv1) (ea1 (Zl rfl du1) ea0))) rfl hS1 (fun _ _ => rfl) (fun i x y d e Gi hd he g dx dy => by
    have ee := Option.some.inj (hd.symm.trans he)
    subst ee
    exact Zfa (ea1 (Zl rfl dx) (ea1 (Zl rfl dy) ea0)) ⟨d, rfl, hS2 d (List.mem_of_getElem? hd), rfl⟩)).eq (Zjz _ _)).toX) (by rw [Zi0]; simp)) ((go.trans go2).retX q)
theorem ZeZ {f : Addr} {fd : FuncData} (T : Tx mg) (F : Fun K "_law_same" "_law_same" Zby f fd) (hm : mg "_law_same" = some (.ref f)) (hb : Binds K fd ZaA []) : ∀ n : Nat, FnOk P w K mg base CX0 (n + 1) f fd ZaA (PSp (Zd5 n))
 | 0 => F.ok Zdp (fun _ _ _ _ ⟨_, _, _, _, _, h, _⟩ => h.elim) (fun _ _ _ _ _ _ _ _ _ ⟨_, _, _, _, _, h, _⟩ => h.elim)
 | n + 1 => Zhs T F n (ZY (ZeZ T F hm hb n) hm F.kp hb)
noncomputable abbrev Zbo : Stmt := top 37
noncomputable abbrev Zck : List Str := ["_law_a", "_law_name"]
noncomputable abbrev Zbk : List Str := ["_law_a"]
theorem ZdG : FnScope Zck Zbk (defScope Zbo) := ⟨rfl, rfl, rfl, by decide +kernel, rfl, by decide +kernel, by decide +kernel⟩
noncomputable def Zcn : FS := (sRet (nLcT (iX asL (xN (nFW (wCb cSortDS (aCons (wV 0) aNil))))) (eName 1) (bS bYes) (xOp oCatA (xS (wTup (aCons (wV 1) aNil))) (xP (pD (pV 0) (wV 1)))) [1]))
noncomputable def f__law_rows_of := fnI 1 2 (fun i => Nat.blt i 1) (Zcn)
set_option maxHeartbeats 8000000 in
theorem Zgo {f : Addr} {fd : FuncData} (T : Tx mg) (F : Fun K "_law_rows_of" "_law_rows_of" Zbo f fd) : FnOk P w K mg base CX0 1 f fd Zbk (ISp f__law_rows_of) := by
 have nd := ZdG.nd
 refine F.ok ZdG (fun vs H Q E h => h.len) (fun cdv A outer s H vs Q E hr h => ?_)
 have hu := hu_of hr
 refine ⟨_, (pss_one (ps_ret (pe_lc (own := [("_law_name", 1)]) (g := gName 1) (tt := tYes) (te := (tOp (rCatA K) (tTup (tCons (tVar 1) tNil)) (tDGet (tVar 0) (tVar 1)))) (by rfl) nd (pi_list (pe_callB (call_sortedD rfl) (by rfl) T.sorted (by decide +kernel) (pa_cons (pv 0) pa_nil))) (blkOk_by (N := Zck) (sc := defScope Zbo) (by decide +kernel)) (fun _ _ _ _ _ => (pg_name (i := 1) nd rfl (.inl rfl))) (fun _ _ _ _ _ => pts_nil) (fun _ _ _ _ _ => (pe_op op_catA (pe_tup (pa_cons (pv 1) pa_nil)) (pe_dget hu (pv 0) (pv 1) (fun _ _ => rfl))))))), ?_⟩
 exact Zac (kp := fun i => Nat.blt i 1) (N := Zck) (s := Zcn) (Zv (ZgK (K := K) (vs := [1]) (ZfW (ZD (ZhG (ZQ ZdE (Zb (Za (i := 0)) Ze))))) (ZaE (j := 1) rfl) (Z2 Zdi) (ZN Zc7 (Zj (ZaW (Zb (Za (i := 1)) Ze)).w) (Zkl (Zfd (ZaF (i := 0)) (Za (i := 1))))))) h
noncomputable abbrev Zfl : Stmt := top 42
noncomputable abbrev Zny : List Str := ["_law_script", "_law_draw", "_law_size_here", "_law_album", "_law_a", "_law_names_here", "_law_name", "_law_call", "_law_k", "_law_handed", "_law_turn", "_law_rows"]
noncomputable abbrev Zns : List Str := ["_law_script"]
theorem Zln : FnScope Zny Zns (defScope Zfl) := ⟨rfl, rfl, rfl, by decide +kernel, rfl, by decide +kernel, by decide +kernel⟩
noncomputable def Zgf (cAlbum cBadCells cBadDay cBadInk cBadName cBadSize cFull cNoPrint cTaken : Addr) : FS := (sSeq (sAsg 2 (xN (nCallI (noX f__law_size) [1] (aS aNil))))
  (sSeq (sAsgN 3 (nNew cAlbum (Zap cAlbum cBadSize) (aS (aCons (wV 2) aNil))))
  (sSeq (sAsgN 4 nDct)
  (sSeq (sAsg 5 (xN (nCallI (noX f__law_album_names) [1] (aS aNil))))
  (sSeq (sFor (iX asL (xSl oSlL (xS (wV 5)) xpNo (xpSo (xOp oMul (xS (wC (.int 12))) (xCb cInt (aConsX (xOp (oEq false) (xN (nCallI (noX f__law_take) [1] (aS (aCons (wC (.int 6)) aNil)))) (xS (wC (.int 0)))) aNilX)))))) (eName 6)
  (sSeq (sAsg 7 (xTup (aConsX (xS (wC (.str (Str.ofString "add")))) (aConsX (xS (wV 6)) (aConsX (xOp oIxS (xS (wC (.str (Str.ofString "abc")))) (xN (nCallI (noX f__law_take) [1] (aS (aCons (wC (.int 3)) aNil))))) (aConsX (xN (nCallI (prm [true, false, true] (noX f__law_print_cells)) [1, 4] (aOwn 1 (aConsX (xS (wV 2)) (aOwn 4 aNilX))))) aNilX))))))
  (sIf (bXx (xOp (oEq true) (xN (nCallI (noX (Zab cAlbum cBadCells cBadDay cBadInk cBadName cFull cNoPrint cTaken)) [3] (aS (aCons (wV 7) aNil)))) (xN (nCallI (prm [false, true, false] (noX f__law_album_do)) [4] (aConsX (xS (wV 2)) (aOwn 4 (aConsX (xS (wV 7)) aNilX)))))))
  (sRet (nX (xS (wC (.bool false)))))
  sNil)))
  (sSeq (sFor (iA rg1 (aConsX (xN (nCallI (noX f__law_take) [1] (aS (aCons (wC (.int 26)) aNil)))) aNilX)) (eName 8)
  (sSeq (sAsg 7 (xN (nCallI (prm [true, false, true, false] (noX f__law_album_next)) [1, 4] (aOwn 1 (aConsX (xS (wV 2)) (aOwn 4 (aConsX (xS (wV 5)) aNilX)))))))
  (sSeq (sIf (bXx (xOp (oEq false) (xN (nCallI (noX f__law_take) [1] (aS (aCons (wC (.int 3)) aNil)))) (xS (wC (.int 0)))))
  (sSeq (sAsg 7 (xN (nCallI (noX f__law_spoilt_call) [1] (aS (aCons (wV 2) (aCons (wV 7) aNil))))))
  (sIf (bXx (xOp (oEq false) (xN (nCallI (noX f__law_take) [1] (aS (aCons (wC (.int 3)) aNil)))) (xS (wC (.int 0)))))
  (sAsg 7 (xN (nCallI (noX f__law_spoilt_call) [1] (aS (aCons (wV 2) (aCons (wV 7) aNil))))))
  sNil))
  sNil)
  (sSeq (sAsgN 9 (nX (xS (wV 7))))
  (sSeq (sIf (bS (bW (wUn (oIsi "list") (wOp oIxT (wV 7) (wUn oNeg (wC (.int 1)))))))
  (sAsgN 9 (nCatT1 (wSl oSlT (wV 7) pNo (pSo (wUn oNeg (wC (.int 1))))) (nF (wCb cList (aCons (wOp oIxT (wV 7) (wUn oNeg (wC (.int 1)))) aNil)))))
  sNil)
  (sSeq (sIf (bOrX (bXx (xOp (oEq true) (xN (nCallL (Zab cAlbum cBadCells cBadDay cBadInk cBadName cFull cNoPrint cTaken) 3 9)) (xN (nCallI (prm [false, true, false] (noX f__law_album_do)) [4] (aConsX (xS (wV 2)) (aOwn 4 (aConsX (xS (wV 7)) aNilX))))))) (bWk (bW (wOp (oEqD true) (wV 9) (wV 7)))))
  (sRet (nX (xS (wC (.bool false)))))
  sNil)
  (sSeq (sIf (bWk (bW (wUn (oIsi "list") (wOp oIxT (wV 9) (wUn oNeg (wC (.int 1)))))))
  (sAppP (pT (pV 9) (wUn oNeg (wC (.int 1)))) (wC (.int 0)))
  sNil)
  (sFor (iA rg1 (aS (aCons (wC (.int 2)) aNil))) (eName 10)
  (sSeq (sAsgN 11 (nAsk cAlbum "prints" 3 (nCallI (noX (ZaG cAlbum)) [3] (aS aNil))))
  (sSeq (sIf (bNotX (bXx (xCbW (gR (Zd5 4)) 11 (xN (nCallI (noX f__law_rows_of) [4] (aS aNil))))))
  (sRet (nX (xS (wC (.bool false)))))
  sNil)
  (sSeq (sRev 11)
  (sApp 11 (xS (wTup (aCons (wC (.str (Str.ofString "a"))) aNil)))))))))))))))
  (sRet (nX (xS (wC (.bool true)))))))))))
set_option maxHeartbeats 8000000 in
theorem ZpY {f : Addr} {fd : FuncData} {cAlbum cBadCells cBadDay cBadInk cBadName cBadSize cFull cNoPrint cTaken : Addr} (T : Tx mg) (F : Fun K "law" "law" Zfl f fd)
  (C_Album_prints : CalM P w K mg base cAlbum "prints" 1 Zbm (ISp (ZaG cAlbum)))
  (C__law_begin : Cal P w K mg base "_law_begin" 1 Zb2 (spBegin K))
  (C__law_size : Cal P w K mg base "_law_size" 2 ZcA (ISp f__law_size))
  (C_Album : CalN P w K mg base "Album" cAlbum 3 ZaO (ISp (Zap cAlbum cBadSize)))
  (C__law_album_names : Cal P w K mg base "_law_album_names" 3 Zat (ISp f__law_album_names))
  (C__law_take : Cal P w K mg base "_law_take" 1 Z1 (ISp f__law_take))
  (C__law_album_next : Cal P w K mg base "_law_album_next" 4 ZaC (ISp f__law_album_next))
  (C__law_print_cells : Cal P w K mg base "_law_print_cells" 3 Zae (ISp f__law_print_cells))
  (C__law_album_did : Cal P w K mg base "_law_album_did" 6 ZaS (ISp (Zab cAlbum cBadCells cBadDay cBadInk cBadName cFull cNoPrint cTaken)))
  (C__law_album_do : Cal P w K mg base "_law_album_do" 3 ZaX (ISp f__law_album_do))
  (C__law_spoilt_call : Cal P w K mg base "_law_spoilt_call" 3 Zay (ISp f__law_spoilt_call))
  (C__law_same : Cal P w K mg base "_law_same" 5 ZaA (PSp (Zd5 4)))
  (C__law_rows_of : Cal P w K mg base "_law_rows_of" 1 Zbk (ISp f__law_rows_of))
  (hl : lawOk 12 (Zgf cAlbum cBadCells cBadDay cBadInk cBadName cBadSize cFull cNoPrint cTaken)) : FnOk P w K mg base CX0 7 f fd Zns (spLaw K) := by
 have nd := Zln.nd
 refine F.ok Zln (fun vs H Q E ⟨a, ns, h, _⟩ => by rw [h]; rfl) (fun cdv A outer s H vs Q E hr h => ?_)
 have hu := hu_of hr
 refine ⟨_, (pss_cons (ps_set (i := 1) nd rfl (.inl rfl) (Zk C__law_begin (hr.mono (by omega)) (by rfl) (pa_cons (pv 0) pa_nil)))
  (Zkg 0 (pss_cons (ps_set (i := 2) nd rfl (.inl rfl) (Zk C__law_size (hr.mono (by omega)) (by rfl) (pa_cons (pv 1) pa_nil)))
  (pss_cons (ps_set (i := 3) nd rfl (.inl rfl) (Zoq C_Album (hr.mono (by omega)) (by rfl) takes0 (pa_cons (pv 2) pa_nil)))
  (pss_cons (ps_set (i := 4) nd rfl (.inl rfl) pe_dnewK)
  (pss_cons (ps_set (i := 5) nd rfl (.inl rfl) (Zk C__law_album_names (hr.mono (by omega)) (by rfl) (pa_cons (pv 1) pa_nil)))
  (pss_cons (ps_for PassesOwn.never rfl (pi_list (pe_slice sl_list (pv 5) po_none (po_some (pe_op op_mul pe_int (pe_callTy call_int1 (by rfl) T.int (by decide +kernel) (pa_cons (pe_cmpR op_eq (Zk C__law_take (hr.mono (by omega)) (by rfl) (pa_cons (pv 1) (pa_cons pe_int pa_nil))) pe_int (nomark _)) pa_nil)))))) (pg_name (i := 6) nd rfl (.inl rfl))
   (pss_cons (ps_set (i := 7) nd rfl (.inl rfl) (pe_tup (pa_cons pe_str (pa_cons (pv 6) (pa_cons (pe_ix ix_str pe_str (Zk C__law_take (hr.mono (by omega)) (by rfl) (pa_cons (pv 1) (pa_cons pe_int pa_nil))) (fun _ _ => rfl)) (pa_cons (Zk C__law_print_cells (hr.mono (by omega)) (by rfl) (pa_cons (pv 1) (pa_cons (pv 2) (pa_cons (pv 4) pa_nil)))) pa_nil))))))
   (pss_one (ps_if (pt_cmpR op_ne (Zk C__law_album_did (hr.mono (by omega)) (by rfl) (pa_cons (pv 3) (pa_cons (pv 7) pa_nil))) (Zk C__law_album_do (hr.mono (by omega)) (by rfl) (pa_cons (pv 2) (pa_cons (pv 4) (pa_cons (pv 7) pa_nil)))) (nomark _))
    (pss_one (ps_ret pe_bl))
    pss_nil))))
  (pss_cons (ps_for PassesOwn.never rfl (pi_range1 (by rfl) T.range (pa_cons (Zk C__law_take (hr.mono (by omega)) (by rfl) (pa_cons (pv 1) (pa_cons pe_int pa_nil))) pa_nil)) (pg_name (i := 8) nd rfl (.inl rfl))
   (pss_cons (ps_set (i := 7) nd rfl (.inl rfl) (Zk C__law_album_next (hr.mono (by omega)) (by rfl) (pa_cons (pv 1) (pa_cons (pv 2) (pa_cons (pv 4) (pa_cons (pv 5) pa_nil))))))
   (pss_cons (ps_if (pt_cmpR op_eq (Zk C__law_take (hr.mono (by omega)) (by rfl) (pa_cons (pv 1) (pa_cons pe_int pa_nil))) pe_int (nomark _))
    (pss_cons (ps_set (i := 7) nd rfl (.inl rfl) (Zk C__law_spoilt_call (hr.mono (by omega)) (by rfl) (pa_cons (pv 1) (pa_cons (pv 2) (pa_cons (pv 7) pa_nil)))))
    (pss_one (ps_if (pt_cmpR op_eq (Zk C__law_take (hr.mono (by omega)) (by rfl) (pa_cons (pv 1) (pa_cons pe_int pa_nil))) pe_int (nomark _))
     (pss_one (ps_set (i := 7) nd rfl (.inl rfl) (Zk C__law_spoilt_call (hr.mono (by omega)) (by rfl) (pa_cons (pv 1) (pa_cons (pv 2) (pa_cons (pv 7) pa_nil))))))
     pss_nil)))
    pss_nil)
   (pss_cons (ps_set (i := 9) nd rfl (.inl rfl) (pv 7))
   (pss_cons (ps_if (pt_val (pe_callB call_isi (by rfl) T.isinstance (by decide +kernel) (pa_cons (pe_ix ix_tup (pv 7) (pe_un un_neg pe_int) (fun _ _ => rfl)) (pa_cons (pe_bltn (v := .ty "list") (u := .type "list") (by rfl) T.list (by decide +kernel) rfl) pa_nil))))
    (pss_one (ps_set (i := 9) nd rfl (.inl rfl) (pe_op op_catA (pe_slice sl_tupA (pv 7) po_none (po_some (pe_un un_neg pe_int))) (pe_tup (pa_cons (pe_callTy call_list_of (by rfl) T.list (by decide +kernel) (pa_cons (pe_ix ix_tup (pv 7) (pe_un un_neg pe_int) (fun _ _ => rfl)) pa_nil)) pa_nil)))))
    pss_nil)
   (pss_cons (ps_if (PW.pt (pw_or (pt_cmpR op_ne (Zk C__law_album_did (hr.mono (by omega)) (by rfl) (pa_cons (pv 3) (pa_cons (pv 9) pa_nil))) (Zk C__law_album_do (hr.mono (by omega)) (by rfl) (pa_cons (pv 2) (pa_cons (pv 4) (pa_cons (pv 7) pa_nil)))) (nomark _)) (pw_or1 (pt_cmpR (op_neD hr.units) (pv 9) (pv 7) (nomark _)))))
    (pss_one (ps_ret pe_bl))
    pss_nil)
   (pss_cons (ps_if (pt_val (pe_callB call_isi (by rfl) T.isinstance (by decide +kernel) (pa_cons (pe_ix ix_tup (pv 9) (pe_un un_neg pe_int) (fun _ _ => rfl)) (pa_cons (pe_bltn (v := .ty "list") (u := .type "list") (by rfl) T.list (by decide +kernel) rfl) pa_nil))))
    (pss_one (ps_expr (pe_bm PySem.F.plainAttrs_list PySem.F.slot_list_append PySem.F.type_list_append mt_append (pe_ix ix_tup (pv 9) (pe_un un_neg pe_int) (fun _ _ => rfl)) (pa_cons pe_int pa_nil))))
    pss_nil)
   (pss_one (ps_for PassesOwn.never rfl (pi_range1 (by rfl) T.range (pa_cons pe_int pa_nil)) (pg_name (i := 10) nd rfl (.inl rfl))
    (pss_cons (ps_set (i := 11) nd rfl (.inl rfl) (Zn5 C_Album_prints (hr.mono (by omega)) (pv 3)))
    (pss_cons (ps_if (pt_not (pt_val (Zk C__law_same (hr.mono (by omega)) (by rfl) (pa_cons (pv 11) (pa_cons (Zk C__law_rows_of (hr.mono (by omega)) (by rfl) (pa_cons (pv 4) pa_nil)) pa_nil)))))
     (pss_one (ps_ret pe_bl))
     pss_nil)
    (pss_cons (ps_expr (pe_bm0 PySem.F.plainAttrs_list PySem.F.slot_list_reverse PySem.F.type_list_reverse mt_reverse (pv 11)))
    (pss_one (ps_expr (pe_bm PySem.F.plainAttrs_list PySem.F.slot_list_append PySem.F.type_list_append mt_append (pv 11) (pa_cons (pe_tup (pa_cons pe_str pa_nil)) pa_nil))))))))))))))))
  (pss_one (ps_ret pe_bl)))))))))), ?_⟩
 exact ZoO (kp := fun _ => false) (N := Zny) (s := Zgf cAlbum cBadCells cBadDay cBadInk cBadName cBadSize cFull cNoPrint cTaken) (by decide) (Zf (ZI (i := 2) rfl (ZD (Zm (is := [1]) Zi (Zz Ze))))
  (Zf (Zd4 (i := 3) rfl (ZqE Zi (Zz (Zb (Za (i := 2)) Ze))))
  (Zf (Zd4 (i := 4) rfl Zla)
  (Zf (ZI (i := 5) rfl (ZD (Zm (is := [1]) Zi (Zz Ze))))
  (Zf (ZiM (ZfW (Zkd ZqP.o (Zj (Za (i := 5))) Ziz (ZhY (ZN (OpF.ok Zbv) (Zj Zd.w) (Ztf (CbF.ok ZqF) (Zo (ZN (OpF.ok Z6) (ZD (Zm (is := [1]) Zi (Zz (Zb Zd.w Ze)))) (Zj Zd.w)) Zaa)))))) (ZaE (j := 6) rfl)
  (Zf (ZI (i := 7) rfl (Zb5 (Zo (Zj Zq.w) (Zo (Zj (Za (i := 6))) (Zo (ZN (OpF.ok Zih) (Zj Zq.w) (ZD (Zm (is := [1]) Zi (Zz (Zb Zd.w Ze))))) (Zo (ZD (Zci Zi (Zbt (i := 1) (ZbW (Zj (Za (i := 2))) (Zbt (i := 4) Zeb))))) Zaa))))))
  (ZB (ZdI (ZN (OpF.ok Zhz) (ZD (Zm (is := [3]) Zi (Zz (Zb (Za (i := 7)) Ze)))) (ZD (Zci Zi (ZbW (Zj (Za (i := 2))) (Zbt (i := 4) (ZbW (Zj (Za (i := 7))) Zeb)))))))
  (Zv (ZZ (Zj Zhx.w)))
  Zy)))
  (Zf (ZiM (ZgQ (Zo (ZD (Zm (is := [1]) Zi (Zz (Zb Zd.w Ze)))) Zaa)) (ZaE (j := 8) rfl)
  (Zf (ZI (i := 7) rfl (ZD (Zci Zi (Zbt (i := 1) (ZbW (Zj (Za (i := 2))) (Zbt (i := 4) (ZbW (Zj (Za (i := 5))) Zeb)))))))
  (Zf (ZB (ZdI (ZN (OpF.ok Z6) (ZD (Zm (is := [1]) Zi (Zz (Zb Zd.w Ze)))) (Zj Zd.w)))
  (Zf (ZI (i := 7) rfl (ZD (Zm (is := [1]) Zi (Zz (Zb (Za (i := 2)) (Zb (Za (i := 7)) Ze))))))
  (ZB (ZdI (ZN (OpF.ok Z6) (ZD (Zm (is := [1]) Zi (Zz (Zb Zd.w Ze)))) (Zj Zd.w)))
  (ZI (i := 7) rfl (ZD (Zm (is := [1]) Zi (Zz (Zb (Za (i := 2)) (Zb (Za (i := 7)) Ze))))))
  Zy))
  Zy)
  (Zf (Zd4 (i := 9) rfl (ZZ (Zj (Za (i := 7)))))
  (Zf (ZB (Z2 (ZbY (Zgb (Zw ZA (Za (i := 7)) (Zb8 Zbx Zd.w))).w))
  (Zd4 (i := 9) rfl (Zmo (Zf9 Zcr (Za (i := 7)) Zfr (Zfi (Zb8 Zbx Zd.w))) (ZiX (ZQ Zg3 (Zb (Zw ZA (Za (i := 7)) (Zb8 Zbx Zd.w)) Ze)))))
  Zy)
  (Zf (ZB (ZpT (ZdI (ZN (OpF.ok Zhz) (ZD ZmP) (ZD (Zci Zi (ZbW (Zj (Za (i := 2))) (Zbt (i := 4) (ZbW (Zj (Za (i := 7))) Zeb))))))) (ZdQ (Zs (Zg Zix (Za (i := 9)) (Za (i := 7))).w)))
  (Zv (ZZ (Zj Zhx.w)))
  Zy)
  (Zf (ZB (ZdQ (ZbY (Zgb (Zw ZA (Za (i := 9)) (Zb8 Zbx Zd.w))).w))
  (Zon (Zqu (ZaF (i := 9)) (Zb8 Zbx Zd.w)) Zd.w)
  Zy)
  (ZiM (ZgQ (Zz (Zb Zd.w Ze))) (ZaE (j := 10) rfl)
  (Zf (Zd4 (i := 11) rfl (Zql (Zm (is := [3]) Zi (Zz Ze))))
  (Zf (ZB (Zpl (Zra (ZqQ (i := 11) ZhC (ZD (Zm (is := [4]) Zi (Zz Ze))))))
  (Zv (ZZ (Zj Zhx.w)))
  Zy)
  (Zf (ZrE (i := 11))
  (Zp7 (i := 11) (Zj (ZaW (Zb Zq.w Ze)).w)))))))))))))
  (Zv (ZZ (Zj Zhx.w))))))))) hl h
end
theorem ZjK {T : OT} (hT : DrOk T) {m : Int} (h0 : 0 < m) (h1 : m < 1073741824) : ∃ r T', f__law_take [T, .leaf (.int m)] = some (.ok (.leaf (.int r)), [T', .leaf (.int m)]) ∧ DrOk T' ∧ 0 ≤ r ∧ r < m := by
 obtain ⟨ns, i, c, z, rfl, i0, c0, z0, z1⟩ := hT
 -- the first part: a number of the script is taken, or none
 have key : ∃ i' c' z' y, (sIf (bWk (bAnd (bW (wOp oLt (wOp oIxL (wV 0) (wC (.int 2))) (wV 1))) (bW (wOp oLt (wOp oIxL (wV 0) (wC (.int 1))) (wCb cLen (aCons (wOp oIxL (wV 0) (wC (.int 0))) aNil))))))
  (sSeq (sAsg 2 (xW (wOp oIxL (wOp oIxL (wV 0) (wC (.int 0))) (wOp oIxL (wV 0) (wC (.int 1))))))
  (sSeq (sPut 0 (xS (wC (.int 1))) (xW (wOp oAdd (wOp oIxL (wV 0) (wC (.int 1))) (wC (.int 1)))))
  (sSeq (sPut 0 (xS (wC (.int 2))) (xS (wC (.int 0))))
  (sIf (bS (bW (wOp oGe (wCb cAbs (aCons (wV 2) aNil)) (wOp oPow (wC (.int 10)) (wC (.int 18))))))
  (sPut 0 (xS (wC (.int 2))) (xS (wCb cAbs (aCons (wV 2) aNil))))
  (sPut 0 (xS (wC (.int 3))) (xW (wOp oMod (wOp oAdd (wOp oAdd (wOp oMul (wOp oIxL (wV 0) (wC (.int 3))) (wC (.int 48271))) (wOp oMul (wOp oMod (wV 2) (wC (.int 2147483629))) (wC (.int 69621)))) (wC (.int 12345))) (wC (.int 2147483647)))))))))
  sNil) [some (drT ns i c z), some (.leaf (.int m)), none, none] = some (.nx, [some (drT ns i' c' z'), some (.leaf (.int m)), y, none]) ∧ 0 ≤ i' ∧ 0 ≤ c' ∧ 0 ≤ z' ∧ z' < 2147483647 := by
  have hc : (bWk (bAnd (bW (wOp oLt (wOp oIxL (wV 0) (wC (.int 2))) (wV 1))) (bW (wOp oLt (wOp oIxL (wV 0) (wC (.int 1))) (wCb cLen (aCons (wOp oIxL (wV 0) (wC (.int 0))) aNil)))))) [some (drT ns i c z), some (.leaf (.int m)), none, none] = some (.ok (decide (c < m) && decide (i < (ns.length : Nat))), [some (drT ns i c z), some (.leaf (.int m)), none, none]) := by
   simp [bWk, okx, weak, drT, OT.data, OT.datas, bAnd, bW, wOp, wV, wC, oIxL, ZcH, Zb4, Za1, oCmp, asB, wCb, aCons, aNil, cLen]
   by_cases h : c < m <;> simp [h]
  rw [Zs1 hc]
  by_cases hcond : (decide (c < m) && decide (i < (ns.length : Nat))) = true
  ·rw [if_pos hcond]
   rw [Bool.and_eq_true, decide_eq_true_eq, decide_eq_true_eq] at hcond
   obtain ⟨k, rfl⟩ : ∃ k : Nat, i = (k : Int) := ⟨i.toNat, by omega⟩
   have hk : k < ns.length := by omega
   have hat : L2.atI (ns.map PyData.int) (k : Int) = some (.int ns[k]) := atI_nat (by rw [List.getElem?_map, List.getElem?_eq_getElem hk]; rfl)
   have hab : (0 : Int) ≤ if ns[k] < 0 then -ns[k] else ns[k] := by split <;> omega
   by_cases hbig : 1000000000000000000 ≤ (if ns[k] < 0 then -ns[k] else ns[k])
   ·refine ⟨(k : Int) + 1, if ns[k] < 0 then -ns[k] else ns[k], z, some (.leaf (.int ns[k])), ?_, by omega, hab, z0, z1⟩
    simp [sSeq, sIf, sAsg, sPut, lstAt, bs, xW, xS, okx, weak, strong, drT, OT.data, OT.datas, wOp, wV, wC, oIxL, ZcH, Zb4, Za1, Zdn, oI, hat, flatD, asI, ZhA, ZhH, Zhy, bS, bW, oCmp, asB, wCb, aCons, aNil, cAbs, oIc, cPow, hbig]
   ·refine ⟨(k : Int) + 1, 0, (z * 48271 + ns[k] % 2147483629 * 69621 + 12345) % 2147483647, some (.leaf (.int ns[k])), ?_, by omega, by omega, by omega, by omega⟩
    simp [sSeq, sIf, sAsg, sPut, lstAt, bs, xW, xS, okx, weak, strong, drT, OT.data, OT.datas, wOp, wV, wC, oIxL, ZcH, Zb4, Za1, Zdn, oI, hat, flatD, asI, ZhA, ZhH, Zhy, bS, bW, oCmp, asB, wCb, aCons, aNil, cAbs, oIc, cPow, hbig, Zif, Zh3]
  ·rw [if_neg hcond]
   exact ⟨i, c, z, none, rfl, i0, c0, z0, z1⟩
 obtain ⟨i', c', z', y, hkey, i0', c0', z0', z1'⟩ := key
 have fin : ∃ r T' en', Zcy (start0 4 (drT ns i c z :: [PyData.int m].map OT.leaf)) = some (.rt (.leaf (.int r)), some T' :: en') ∧ DrOk T' ∧ 0 ≤ r ∧ r < m ∧ en'.length = 3 := by
  have hst : start0 4 (drT ns i c z :: [PyData.int m].map OT.leaf) = [some (drT ns i c z), some (.leaf (.int m)), none, none] := rfl
  rw [hst]
  unfold Zcy
  rw [ZgH hkey]
  by_cases hcm : m ≤ c'
  ·refine ⟨c' % m, drT ns i' (c' / m) z', [some (.leaf (.int m)), y, none], ?_, ⟨ns, i', c' / m, z', rfl, i0', Int.ediv_nonneg c0' (by omega), z0', z1'⟩, Int.emod_nonneg _ (by omega), Int.emod_lt_of_pos _ h0, rfl⟩
   simp [sSeq, sIf, sAsg, sPut, sRet, nMove, lstAt, bs, xW, xS, okx, weak, strong, drT, OT.data, OT.datas, wOp, wV, wC, oIxL, ZcH, Zb4, Za1, Zdn, oI, flatD, asI, ZhA, ZhH, Zhy, bS, bWk, bW, oCmp, asB, wCb, aCons, aNil, oIc, hcm, Zif, Zh3 h0, ZlJ h0 h1]
  ·have e3 : 0 ≤ (z' * z' % 2147483629 * 5 + z' * 16811 + 2531011) % 2147483647 ∧ (z' * z' % 2147483629 * 5 + z' * 16811 + 2531011) % 2147483647 < 2147483647 := by omega
   have hzl : cMul z' z' = true := ZlI (by omega) (by omega)
   refine ⟨((z' * z' % 2147483629 * 5 + z' * 16811 + 2531011) % 2147483647 / 61 + (z' * z' % 2147483629 * 5 + z' * 16811 + 2531011) % 2147483647 % 8191 * 31) % m, drT ns i' c' ((z' * z' % 2147483629 * 5 + z' * 16811 + 2531011) % 2147483647), [some (.leaf (.int m)), y, none], ?_, ⟨ns, i', c', _, rfl, i0', c0', e3.1, e3.2⟩, Int.emod_nonneg _ (by omega), Int.emod_lt_of_pos _ h0, rfl⟩
   simp [sSeq, sIf, sAsg, sPut, sRet, nX, bx, lstAt, bs, xW, xS, okx, weak, strong, drT, OT.data, OT.datas, wOp, wV, wC, oIxL, ZcH, Zb4, Za1, Zdn, oI, flatD, asI, ZhA, ZhH, Zhy, bS, bWk, bW, oCmp, asB, wCb, aCons, aNil, oIc, hcm, Zif, hzl, Zh3, h0, ZlJ, sNil]
 obtain ⟨r, T', en', hf, hT', r0, r1, hl⟩ := fin
 exact ⟨r, T', ZjE (np := 2) (n := 4) (ds := [.int m]) rfl hf (by rw [hl]; show 1 ≤ 3; decide), hT', r0, r1⟩
/-- the same in a body -/
theorem Zij {i : Nat} {en : En} {T : OT} {m : Int} {w : FW} (h : en[i]? = some (some T)) (hT : DrOk T) (hm : w (strong en) = some (.int m)) (h0 : 0 < m) (h1 : m < 1073741824) : ∃ r T', xN (nCallI (noX f__law_take) [i] (aS (aCons w aNil))) en = some (.ok (.int r), en.set i (some T')) ∧ DrOk T' ∧ 0 ≤ r ∧ r < m := by
 obtain ⟨r, T', hf, hT', r0, r1⟩ := ZjK hT h0 h1
 exact ⟨r, T', ZsB (callI1 (ds := [.int m]) h (by simp [aS, aCons, aNil, hm, okx]) hf), hT', r0, r1⟩
theorem Zfw (n : Nat) : Cells n (rangeI n) := by
 refine ⟨?_, fun k hk => ?_⟩
 ·unfold rangeI
  rw [List.pairwise_map]
  exact List.pairwise_lt_range.imp fun h => by show Int.ofNat _ < Int.ofNat _; simp; omega
 ·unfold rangeI at hk
  obtain ⟨i, hi, rfl⟩ := List.mem_map.mp hk
  have := List.mem_range.mp hi
  show 0 ≤ Int.ofNat i ∧ Int.ofNat i < (n : Int)
  simp
  omega
theorem Zqy (n : Nat) : rgI 0 n = (rangeI n).map PyData.int := by
 unfold rgI rangeI
 rw [List.map_map]
 exact List.map_congr_left fun i _ => by simp
theorem Znk {T : OT} (hT : DrOk T) {n : Int} (n0 : 1 ≤ n) (n1 : n ≤ 24) : ∃ (ns : List Int) (T' : OT), f__law_drawn_cells [T, .leaf (.int n)] = some (.ok (lstT (ns.map PyData.int)), [T', .leaf (.int n)]) ∧ DrOk T' ∧ Cells n ns := by
 have fin : ∃ (ns : List Int) (T' : OT) (en' : En), Zax (start0 4 (T :: [PyData.int n].map OT.leaf)) = some (.rt (lstT (ns.map PyData.int)), some T' :: en') ∧ DrOk T' ∧ Cells n ns ∧ 1 ≤ en'.length := by
  have hst : start0 4 (T :: [PyData.int n].map OT.leaf) = [some T, some (.leaf (.int n)), none, none] := rfl
  rw [hst]
  unfold Zax
  obtain ⟨r, T1, e1, hT1, r0, r1⟩ := Zij (i := 0) (en := [some T, some (.leaf (.int n)), none, none]) (w := wC (.int 6)) rfl hT rfl (by decide) (by decide)
  rw [ZgH (Zqb e1)]
  simp only [List.set_cons_zero, List.set_cons_succ]
  by_cases h0 : r = 0
  ·subst h0
   refine ⟨rangeI n.toNat, T1, [some (.leaf (.int n)), some (.leaf (.int 0)), none], ?_, hT1, by have := Zfw n.toNat; rw [show ((n.toNat : Nat) : Int) = n by omega] at this; exact this, by simp⟩
   simp [sSeq, sIf, bS, strong, bW, wOp, wV, wC, oEq, flatD, scal, scV, okx, asB, bs, sRet, nF, wUn, oRg1, show (0 : Int) ≤ n by omega, show n ≤ 100000 by omega, freshT]
  by_cases h1 : r = 1
  ·subst h1
   obtain ⟨k, T2, e2, hT2, k0, k1⟩ := Zij (i := 0) (en := [some T1, some (.leaf (.int n)), some (.leaf (.int 1)), none]) (w := wV 1) (m := n) rfl hT1 rfl (by omega) (by omega)
   simp only [List.set_cons_zero] at e2
   refine ⟨[k], T2, [some (.leaf (.int n)), some (.leaf (.int 1)), none], ?_, hT2, ⟨List.pairwise_singleton _ _, fun j hj => by simp at hj; omega⟩, by simp⟩
   have e3 : sRet (nLst (aConsX (xN (nCallI (noX f__law_take) [0] (aS (aCons (wV 1) aNil)))) aNilX)) [some T1, some (.leaf (.int n)), some (.leaf (.int 1)), none] = some (.rt (lstT [.int k]), [some T2, some (.leaf (.int n)), some (.leaf (.int 1)), none]) := ZkF (ZoQ (Zqh e2 rfl) (by simp))
   simp [sSeq, sIf, bS, strong, bW, wOp, wV, wC, oEq, flatD, scal, scV, okx, asB, bs, e3, sNil]
  ·-- some cells
   have hif : ∀ (a b : FS), sIf (bS (bW (wOp (oEq false) (wV 2) (wC (.int 0))))) a sNil [some T1, some (.leaf (.int n)), some (.leaf (.int r)), none] = some (.nx, [some T1, some (.leaf (.int n)), some (.leaf (.int r)), none]) ∧ sIf (bS (bW (wOp (oEq false) (wV 2) (wC (.int 1))))) b sNil [some T1, some (.leaf (.int n)), some (.leaf (.int r)), none] = some (.nx, [some T1, some (.leaf (.int n)), some (.leaf (.int r)), none]) := fun a b => by
    constructor <;> simp [sIf, bS, strong, bW, wOp, wV, wC, oEq, flatD, scal, scV, okx, asB, bs, sNil, h0, h1]
   rw [ZgH (hif _ sNil).1, ZgH (hif sNil _).2]
   obtain ⟨es, en', hl, ⟨T2, hT2, hen⟩, hsub⟩ := Zg1 (b := eName 3) (c := bXx (xOp (oEq false) (xN (nCallI (noX f__law_take) [0] (aS (aCons (wC (.int 2)) aNil)))) (xS (wC (.int 0))))) (x := xS (wV 3)) (vs := [3]) (F := id) (I := fun en => ∃ T2, DrOk T2 ∧ en = [some T2, some (.leaf (.int n)), some (.leaf (.int r)), none]) (ds := (rangeI n.toNat).map PyData.int) (fun d hd en ⟨T2, hT2, hen⟩ => by
    subst hen
    obtain ⟨i, hi, rfl⟩ := List.mem_map.mp hd
    refine ⟨[some T2, some (.leaf (.int n)), some (.leaf (.int r)), some (.leaf (.int i))], rfl, ?_⟩
    obtain ⟨q, T3, e3, hT3, q0, q1⟩ := Zij (i := 0) (en := [some T2, some (.leaf (.int n)), some (.leaf (.int r)), some (.leaf (.int i))]) (w := wC (.int 2)) rfl hT2 rfl (by decide) (by decide)
    refine ⟨decide (q = 0), [some T3, some (.leaf (.int n)), some (.leaf (.int r)), some (.leaf (.int i))], Zrc (Zrg e3 (y := .int 0) rfl ?_), fun _ => ⟨T3, hT3, rfl⟩, fun _ => ⟨_, rfl, T3, hT3, rfl⟩⟩
    simp [oEq, flatD, scal, scV]) _ ⟨T1, hT1, rfl⟩
   rw [List.map_id] at hl
   subst hen
   have hes : ∃ ns : List Int, es = ns.map PyData.int ∧ ns.Sublist (rangeI n.toNat) := by
    obtain ⟨ns, h1, h2⟩ := List.sublist_map_iff.mp hsub
    exact ⟨ns, h2, h1⟩
   obtain ⟨ns, rfl, hns⟩ := hes
   have hc := Zfw n.toNat
   rw [show ((n.toNat : Nat) : Int) = n by omega] at hc
   refine ⟨ns, T2, [some (.leaf (.int n)), some (.leaf (.int r)), none], ?_, hT2, ⟨hc.1.sublist hns, fun k hk => hc.2 k (hns.subset hk)⟩, by simp⟩
   refine ZkF ?_
   unfold nLcT
   have hit : iA rg1 (aS (aCons (wV 1) aNil)) [some T1, some (.leaf (.int n)), some (.leaf (.int r)), none] = some (.ok ((rangeI n.toNat).map PyData.int), [some T1, some (.leaf (.int n)), some (.leaf (.int r)), none]) := by
    simp [iA, aS, aCons, aNil, wV, strong, okx, bx, rg1, ZlF (show -100000 ≤ n by omega) (show n ≤ 100000 by omega), Zqy]
   rw [hit]
   dsimp only [bx]
   have hlen : (rangeI n.toNat).length = n.toNat := by simp [rangeI]
   rw [if_pos ⟨rfl, by rw [List.length_map, hlen]; omega⟩]
   show (lcT _ _ _ [3] _ [some T1, some (.leaf (.int n)), some (.leaf (.int r)), none]).map _ = _
   rw [hl]
   rfl
 obtain ⟨ns, T', en', hf, hT', hc, hl⟩ := fin
 exact ⟨ns, T', ZjE (np := 2) (n := 4) (ds := [.int n]) rfl hf hl, hT', hc⟩
theorem ZoA {e : PyData} {n : Nat} (h : Sm n e) : gR (Zd5 (n + 1)) [e, e] = some (.bool true) := Zkh ⟨e, rfl, h, rfl⟩ fun d ⟨_, _, _, hd⟩ => hd
theorem ZhN (neg : Bool) (c : Nat) (t : List Nat) : oInSg neg (.str (sg c)) (.str (tx t)) = some (.bool (if neg then !decide (c ∈ t) else decide (c ∈ t))) := by
 unfold oInSg
 dsimp only
 show (match [c] with | [c] => some (PyData.bool (if neg then !decide (c ∈ (tx t).cps.toList) else decide (c ∈ (tx t).cps.toList))) | _ => none) = _
 rw [Zis]
theorem Znf (o : Option OT) (l : En) : strong (o :: l) = (o.bind leafD) :: strong l := by
 cases o with
 | none => rfl
 | some T => cases T <;> rfl
theorem ZmZ : strong [] = [] := id rfl
theorem ZqU (o : Option OT) (l : En) : weak (o :: l) = (o.map OT.data) :: weak l := id rfl
theorem ZrF : weak [] = [] := id rfl
theorem Zkx (d : PyData) : leafD (.leaf d) = some d := id rfl
theorem ZkB (k : Kd) (cs : List (Lab × OT)) : leafD (.node k cs) = none := id rfl
theorem Zl2 (ds : List PyData) : leafD (lstT ds) = none := id rfl
theorem ZoW {i j : Int} : oEq false (.int i) (.int j) = some (.bool (decide (i = j))) := by simp [oEq, flatD, scal, scV]
theorem Zn8 {i j : Int} : oEq true (.int i) (.int j) = some (.bool (!decide (i = j))) := by simp [oEq, flatD, scal, scV]
theorem Zo2 {i j : Str} : oEq false (.str i) (.str j) = some (.bool (decide (i = j))) := by simp [oEq, flatD, scal, scV]
theorem ZgY {i j : Str} : oEq true (.str i) (.str j) = some (.bool (!decide (i = j))) := by simp [oEq, flatD, scal, scV]
theorem ZlU {n : Bool} : oIsN n .none .none = some (.bool (!n)) := by cases n <;> rfl
theorem Znl {n : Bool} {i : Int} : oIsN n (.int i) .none = some (.bool n) := by cases n <;> rfl
theorem Zpz {cs : List (Lab × OT)} {l : En} : lstAt (some (.node .lst cs) :: l) 0 = some cs := id rfl
theorem ZoI {ds : List PyData} {l : En} : lstAt (some (lstT ds) :: l) 0 = some (oLeafs ds) := id rfl
theorem Zom {o : Option OT} {l : En} {i : Nat} : lstAt (o :: l) (i + 1) = lstAt l i := id rfl
theorem ZbX (ds : List PyData) : freshR (lstT ds) = true := id rfl
theorem Zi2 (d : PyData) : freshR (.leaf d) = flatD d := id rfl
theorem Zs0 (ds : List PyData) : asL (.list ds) = some ds := id rfl
theorem Zsy (ds : List PyData) : asT (.tuple ds) = some ds := id rfl
theorem ZrT (b : Bool) : asB (.bool b) = some b := id rfl
theorem ZsK (b : Int) : asI (.int b) = some b := id rfl
theorem Ztj {g : Int → Int → Int} {i j : Int} : oI g (.int i) (.int j) = some (.int (g i j)) := id rfl
theorem ZpX {g : Int → Int → Bool} {i j : Int} : oCmp g (.int i) (.int j) = some (.bool (g i j)) := id rfl
theorem Zmg (ds : List PyData) : freshT (.list ds) = lstT ds := id rfl
theorem ZmJ (i : Int) : freshT (.int i) = .leaf (.int i) := id rfl
theorem Zib (ds : List PyData) : cLen [.list ds] = some (.int (ds.length : Nat)) := id rfl
theorem ZkP (ds : List PyData) : cLen [.tuple ds] = some (.int (ds.length : Nat)) := id rfl
theorem Zpp (ds : List PyData) : cList [.list ds] = some (.list ds) := id rfl
theorem Zoe (ds : List PyData) : cList [.tuple ds] = some (.list ds) := id rfl
theorem ZrX (ds : List PyData) (i : Int) : oIxL (.list ds) (.int i) = L2.atI ds i := id rfl
theorem Ztc (ds : List PyData) (i : Int) : oIxT (.tuple ds) (.int i) = L2.atI ds i := id rfl
theorem ZrD (i : Int) : oNeg (.int i) = some (.int (-i)) := id rfl
theorem ZpL (i : Int) : flatD (.int i) = true := id rfl
theorem ZnM : flatD .none = true := id rfl
theorem Zot (b : Bool) : flatD (.bool b) = true := id rfl
theorem Zkp (ds : List PyData) (d : PyData) : OT.node .lst (oLeafs ds ++ [(.no, .leaf d)]) = lstT (ds ++ [d]) := by simp [lstT, oLeafs]
theorem Zdb {α : Type} (f : α → Bool) (l : List α) : cAll [.list (l.map fun a => PyData.bool (f a))] = some (.bool (l.all f)) := by
 unfold cAll
 dsimp only
 rw [show (l.map fun a => PyData.bool (f a)) = (l.map f).map PyData.bool by rw [List.map_map]; rfl, ZmO]
 simp [List.all_map]
noncomputable def Drw := {T : OT // DrOk T}
theorem Zgx (D : Drw) (m : Int) : ∃ p : Int × Drw, 0 < m → m < 1073741824 → f__law_take [D.1, .leaf (.int m)] = some (.ok (.leaf (.int p.1)), [p.2.1, .leaf (.int m)]) ∧ 0 ≤ p.1 ∧ p.1 < m := by
 by_cases h : 0 < m ∧ m < 1073741824
 ·obtain ⟨r, T', h1, h2, h3, h4⟩ := ZjK D.2 h.1 h.2
  exact ⟨(r, ⟨T', h2⟩), fun _ _ => ⟨h1, h3, h4⟩⟩
 ·exact ⟨(0, D), fun a b => absurd ⟨a, b⟩ h⟩
noncomputable def Drw.r (D : Drw) (m : Int) : Int := (Classical.choose (Zgx D m)).1
noncomputable def Drw.n (D : Drw) (m : Int) : Drw := (Classical.choose (Zgx D m)).2
theorem ZR (D : Drw) (m : Int) (h0 : 0 < m) (h1 : m < 1073741824) : f__law_take [D.1, .leaf (.int m)] = some (.ok (.leaf (.int (D.r m))), [(D.n m).1, .leaf (.int m)]) := (Classical.choose_spec (Zgx D m) h0 h1).1
theorem Zai (D : Drw) (m : Int) (h0 : 0 < m) (h1 : m < 1073741824) : 0 ≤ D.r m := (Classical.choose_spec (Zgx D m) h0 h1).2.1
theorem Zah (D : Drw) (m : Int) (h0 : 0 < m) (h1 : m < 1073741824) : D.r m < m := (Classical.choose_spec (Zgx D m) h0 h1).2.2
theorem ixN_nat {n k : Nat} (h : k < n) : L2.ixN n (k : Int) = some k := by
 unfold L2.ixN
 rw [if_pos (by omega), if_pos (by omega)]
 simp
local macro_rules
 | `(tactic| exists $es,*) => do
  let ts := es.getElems
  `(tactic| simp only [↓Zrp, ↓Zlp, ↓ZmS, Zpg, ZnY, Zsg, ZsJ, ↓Zp8, ↓Zqg, ↓Zo7, ↓ZmM, ZnO, ZoD, ↓ZmR, ↓Zmv, ↓ZpP, ↓Zqq, ↓ZpI, ↓Zpr, ↓Zqm, ↓Zsb, ↓ZsM, ↓Zs2, ↓Zki, ↓ZmY, ↓Zsw, ↓ZsI, Zna, Zm9, ↓Zpi, ↓ZsN, ↓Zr1, ↓Zsq, ZoH, ZjV, ZgS, ZoC, ↓ZlR, ↓Zq8, ↓Zq1, ↓ZnS, ↓Zos, ↓Zmp, ↓Zq2, ↓Zo1, ↓Zmq, ↓ZsU, ↓Zs5, ↓Ztg, ↓Zp2, ↓Zn9, ↓Zr3, ↓Zs8, ↓ZsH, ↓Zp5, ↓ZsQ, ↓ZsZ, ↓ZrM, ↓Zp4, ↓Znd, ↓Zlk, ↓Zsh, ↓ZqR, ↓Zof, ↓Zn6, ↓ZqC, ↓Zni, ↓Zol, ↓Zmc, ↓Zqv, ↓Zrn, ↓ZpQ, ↓ZsO, ↓ZqA, ↓Zr5, ↓Zsx, ↓Zli, ↓Zle, ↓Zkw, ↓Zqe, ↓Zoa, ↓ZnF, ↓ZoP, ↓Znp, ↓Zp0, ↓ZrW, ↓ZnG, ↓ZlB, ↓Zkq, ↓ZnZ, Zoz, ↓Zm5, ↓Zti, ↓Zou, ↓ZmW, ↓ZmG, ↓Zno, ↓Zp6, ↓ZqB, ↓ZmX, ↓Zlf, ↓Zm4, ↓Zqj, ↓ZqX, ZmD, Zmx, Znb, Zpu, ZnT, ZnI, ↓ZpR, ↓Zm7, ↓Zp1, ↓ZnE, ↓Zo0, ↓ZrY, ↓ZsY, ↓ZsX, ↓ZpH, ↓Zn4, ↓ZnK, ↓Zqt, ↓ZpE, ZpG, Zpj, ZqD, ZqK, Zq7, ZpB, ZpK, Zku, Zr0, Zsn, ZsG, ZsP, Zsl, ZjD, String.reduceEq, List.nil_append, List.cons_append, ↓ZqG, ↓Zog, ↓ZpF, ↓Zmb, ↓ZlV, ↓Zmm, ↓ZqI, Zsz, ZsA, ↓Zq0, ↓Zqa, Zrk, ZqL, ZbK, ZiA, Znj, Zo9, ↓Zsv, ↓Zs7, ↓Zsr, ↓ZrU, ↓Zs9, ↓Zr4, ↓Zs6, ↓Zr6, ↓Zse, ↓Zst, ↓Zsi, ↓ZsS, ↓Zs3, ↓ZsE, ↓ZsV, ↓Zr7, ↓ZG, ↓Zn, ↓ZaU, ↓Zss, ↓Ztb, ↓Zri, ↓Zre, ↓ZpV, ↓ZoS, ↓Zm0, ↓ZsR, ↓Zph, ↓ZqV, ↓ZnP, ↓Zpf, ↓Zoj, ↓Zrb, ↓ZnD, ↓ZrC, ↓ZjI, ↓Zpt, ↓ZqY, ↓Zqs, ↓Zp3, ↓Zlw, ↓ZqJ, ↓Zqf, ↓Zqd, ↓Zrw, ↓ZoE, ↓Zmf, ↓ZnW, ↓Zm8, ↓ZoT, ↓Zo6, ↓Znn, ↓ZoU, ↓Zmd, ↓ZoV, ↓Zod, ↓Zsk, ↓Zmr, ↓Zk5, ↓Zml, ↓Zor, ↓ZnB, ZG, ZjR, Zeu, Zbi, ZpN, Zl8, Zlb, Zn2, ZiP, Zqc, Zrd, ZoB, Zoc, ZnQ, Zd8, ZrO, Zpe, ZnN, ZoL, ZpJ, Zps, Zoy, ZpD, Zng, Zmj, Zl7, Zow, Zpm, Zo5,
   Znf, ZmZ, ZqU, ZrF, Zkx, ZkB, Zl2, wipeD, wipeE, backE, Ztj, ZpX, ZoW, Zn8, Zo2, ZgY, ZlU, Znl, Zpz, ZoI, Zom, ZbX, Zi2, ZcK, Zl1, Zs0, Zsy, ZrT, ZsK, Zmg, ZmJ, Zib, ZkP, Zpp, Zoe, ZrX, Ztc, ZrD, ZpL, ZnM, Zot, Zkp, Zgu, List.length_cons, List.length_nil, List.length_map, List.map_cons, List.map_nil, Nat.reduceAdd, Nat.reduceLeDiff, Nat.reduceLT, Nat.reduceEqDiff, decide_true, decide_false, Nat.zero_add,
   Option.bind_some, Option.bind_none, Option.map_some, Option.map_none, Option.join_some, Option.join_none, List.getElem?_cons_zero, List.getElem?_cons_succ, List.set_cons_zero, List.set_cons_succ, Option.some.injEq, true_and, and_true, exists_eq, exists_eq', decide_eq_true_eq, decide_eq_false_iff_not, Bool.not_eq_true', Bool.not_eq_false', if_true, if_false, Bool.false_eq_true, ite_true, ite_false, reduceIte, false_implies, true_implies, forall_const, implies_true, reduceCtorEq, Bool.not_true, Bool.not_false, imp_self, and_self, not_true_eq_false, not_false_eq_true, $[$ts:term],*])
noncomputable def fieldB (n : Int) (cs : List Int) : Bool := cs.all fun c => decide (0 ≤ c) && decide (c < n)
theorem Zgc (a : List Int) : asQ (dLI a) = some (a.map PyData.int) := id rfl
theorem Zfy {d : PyData} {l : List Int} (hd : asQ d = some (l.map PyData.int)) (h : l.length ≤ 1000) (h2 : (rise l).length < 64) : f_rising [d] = some (dLI (rise l)) := by
 have e : oRiseB d = some (dLI (rise l)) := by
  unfold oRiseB
  rw [hd, Option.bind_some, Zic, Option.bind_some, if_pos ⟨h, h2⟩]
 unfold f_rising
 refine ZqZ ?_
 unfold Zf0
 exists e
theorem ZmK {α : Type} {k : Key} {m : List (Key × α)} : (lkM k m).isSome = true ↔ k ∈ m.map (·.1) := by
 unfold lkM
 rw [Option.isSome_map, List.find?_isSome, List.mem_map]
 exact ⟨fun ⟨x, h1, h2⟩ => ⟨x, h1, by simpa using h2⟩, fun ⟨x, h1, h2⟩ => ⟨x, h1, by simpa using h2⟩⟩
theorem Zey {z : Int} {d : PyData} {l : List Int} (hd : asQ d = some (l.map PyData.int)) (h : l.length ≤ 1000) : f_in_field [.int z, d] = some (.bool (fieldB z l)) := by
 have hfb : (l.all fun x => decide (0 ≤ x) && decide (x < z)) = fieldB z l := rfl
 unfold f_in_field
 refine ZdY ?_
 unfold Zev
 exists true_and
 refine ZeM PyData.int l (fun x => .bool (decide (0 ≤ x) && decide (x < z))) (by omega) ?_ (fun x _ => ?_) ?_
 ·exists hd
 ·exists true_and
  refine Zan (fun h => ?_) (fun h => ?_)
  ·exists h, Bool.true_and
  ·exists h, Bool.false_and
 ·exists Zdb, hfb
noncomputable abbrev Pr := Str × List Int × Option Int
noncomputable def dOi : Option Int → PyData
 | none => .none
 | some k => .int k
noncomputable def dTI (c : List Int) : PyData := .tuple (c.map PyData.int)
noncomputable def dPnt (p : Pr) : PyData := .tuple [.str p.1, dTI p.2.1, dOi p.2.2]
noncomputable abbrev AM := List (Key × Pr)
noncomputable def alT (C : Addr) (z : Int) (m : AM) : OT := .node (.ins C) [(.fld "field", .leaf (.int z)), (.fld "kept", .node .dct (dT dPnt m))]
inductive Cl
 | add (n k : Str) (c : List Int)
 | amend (n k : Str) (c : List Int)
 | date (n : Str) (d : Option Int)
 | strike (n : Str)
noncomputable def dCl : Cl → PyData
 | .add n k c => .tuple [.str (Str.ofString "add"), .str n, .str k, dLI c]
 | .amend n k c => .tuple [.str (Str.ofString "amend"), .str n, .str k, dLI c]
 | .date n d => .tuple [.str (Str.ofString "date"), .str n, dOi d]
 | .strike n => .tuple [.str (Str.ofString "strike"), .str n]
inductive Er
 | name | taken | print | ink | cells | full | day
noncomputable def Er.s : Er → String
 | .name => "BadName" | .taken => "Taken" | .print => "NoPrint" | .ink => "BadInk" | .cells => "BadCells" | .full => "Full" | .day => "BadDay"
noncomputable def erS : Option Er → String
 | none => ""
 | some e => e.s
noncomputable def nameOk (s : Str) : Bool := (decide (1 ≤ (s.length : Int)) && decide ((s.length : Int) ≤ 8)) && s.cps.toList.all fun c => decide (c ∈ abc)
noncomputable def inkOk (s : Str) : Bool := decide (s.length = 1) && s.cps.toList.all fun c => decide (c ∈ abc)
noncomputable def cellsOk (z : Int) (c : List Int) : Bool := !decide (c.length = 0) && fieldB z c
noncomputable def dayOk : Option Int → Bool
 | none => true
 | some d => decide (0 ≤ d) && decide (d ≤ 9999)
noncomputable def bad (z : Int) (m : AM) : Cl → Option Er
 | .add n k c => if !nameOk n then some .name else if (lkM (.inr n) m).isSome then some .taken else if !inkOk k then some .ink else if !cellsOk z c then some .cells else if 11 < m.length then some .full else none
 | .amend n k c => if !(lkM (.inr n) m).isSome then some .print else if !inkOk k then some .ink else if !cellsOk z c then some .cells else none
 | .date n d => if !(lkM (.inr n) m).isSome then some .print else if !dayOk d then some .day else none
 | .strike n => if !(lkM (.inr n) m).isSome then some .print else none
noncomputable def doM (m : AM) : Cl → AM
 | .add n k c => putM (.inr n) (k, rise c, none) m
 | .amend n k c => match lkM (.inr n) m with
  | some p => putM (.inr n) (k, rise c, p.2.2) m
  | none => m
 | .date n d => match lkM (.inr n) m with
  | some p => putM (.inr n) (p.1, p.2.1, d) m
  | none => m
 | .strike n => dropM (.inr n) m
noncomputable def stepM (z : Int) (m : AM) (c : Cl) : AM := match bad z m c with
 | none => doM m c
 | some _ => m
/-- what calls are handed -/
noncomputable def Cl.fine : Cl → Prop
 | .add _ k c => k.length ≤ 1000 ∧ c.length ≤ 1000
 | .amend _ k c => k.length ≤ 1000 ∧ c.length ≤ 1000
 | _ => True
theorem Zi1 (s : Str) : signs s = s.cps.toList.map fun c => PyData.str (sg c) := by
 rfl
theorem Zio (c : Nat) : oInSg false (.str (sg c)) (.str (Str.ofString "abcdefghijklmnopqrstuvwxyz")) = some (.bool (decide (c ∈ abc))) := by
 rw [Zgz]
 exact ZhN false c abc
theorem Zeh {a lo hi : Int} : gR ZaK [.int a, .int lo, .int hi] = some (.bool (decide (lo ≤ a) && decide (a ≤ hi))) := Zkh ⟨a, lo, hi, rfl, rfl⟩ fun e ⟨a', lo', hi', h, he⟩ => by
 injection h with h1 h
 injection h with h2 h
 injection h with h3 _
 injection h1 with h1
 injection h2 with h2
 injection h3 with h3
 rw [he, h1, h2, h3]
theorem ZhL (c : Nat) : inkOk (sg c) = decide (c ∈ abc) := by
 unfold inkOk
 simp [ZrS, Str.length]
theorem oInSgQ (c : Nat) (t : List Nat) : oInSg false (.str (sg c)) (.str (tx t)) = some (.bool (decide (c ∈ t))) := by
 unfold oInSg
 dsimp only
 show (match [c] with | [c] => some (PyData.bool (if false then !decide (c ∈ (tx t).cps.toList) else decide (c ∈ (tx t).cps.toList))) | _ => none) = _
 rw [Zis]
 rfl
theorem Zlv (c : Nat) : oInSg false (.str (sg c)) (.str (Str.ofString "abcdefghijklmnopqrstuvwxyz")) = some (.bool (decide (c ∈ abc))) := by
 rw [Zgz]
 exact oInSgQ c abc
theorem Zpk (c : Nat) : cLenS [.str (sg c)] = some (.int 1) := by
 show (if lenS (sg c) = true then some (PyData.int ((sg c).length : Nat)) else none) = _
 rw [if_pos (by unfold lenS; exact decide_eq_true (by show 1 ≤ _; decide))]
 rfl
theorem Zjj (c : Nat) : f_is_ink [.str (sg c)] = some (.bool (decide (c ∈ abc))) := by
 unfold f_is_ink
 refine ZdY ?_
 unfold Zeo
 exists Zpk, Zlv, Int.reduceEq
theorem ZfF (k : Str) (hk : k.length ≤ 1000) : f_is_ink [.str k] = some (.bool (inkOk k)) := by
 by_cases h1 : k.length = 1
 ·obtain ⟨c, rfl⟩ : ∃ c, k = sg c := by
   obtain ⟨⟨l⟩⟩ := k
   match l, h1 with
   | [c], _ => exact ⟨c, rfl⟩
  rw [ZhL]
  exact Zjj c
 ·have hl : cLenS [.str k] = some (.int (k.length : Nat)) := by
   show (if lenS k = true then some (PyData.int (k.length : Nat)) else none) = _
   rw [if_pos (by unfold lenS; exact decide_eq_true (by omega))]
  have hm1 : (((k.length : Nat) : Int) = 1) = False := eq_false (by omega)
  have hb : inkOk k = false := by unfold inkOk; rw [decide_eq_false h1]; rfl
  rw [hb]
  unfold f_is_ink
  refine ZdY ?_
  unfold Zeo
  exists hl, hm1, decide_false
/-- a list in the field holds few things -/
theorem ZiC : ∀ (l : List Int) (a z : Int), l.Pairwise (· < ·) → (∀ x ∈ l, a ≤ x ∧ x < z) → a ≤ z → ((l.length : Nat) : Int) ≤ z - a
 | [], a, z, _, _, h => by show ((0 : Nat) : Int) ≤ _; omega
 | x :: r, a, z, hp, hm, h => by
  have h1 := hm x List.mem_cons_self
  have := ZiC r (x + 1) z (List.pairwise_cons.mp hp).2 (fun y hy => ⟨by have := (List.pairwise_cons.mp hp).1 y hy; omega, (hm y (List.mem_cons_of_mem _ hy)).2⟩) (by omega)
  rw [List.length_cons]
  omega
theorem ZfX {z : Int} {c : List Int} (hz : z ≤ 24) (h : fieldB z c = true) : (rise c).length < 64 := by
 by_cases h0 : 0 ≤ z
 ·have := ZiC (rise c) 0 z (Zdw c) (fun x hx => by
   have := List.all_eq_true.mp h x (by rw [Zcw] at hx; exact hx)
   simpa using this) h0
  omega
 ·have : c = [] := List.eq_nil_iff_forall_not_mem.mpr fun x hx => by
   have := List.all_eq_true.mp h x hx
   simp at this
   omega
  subst this
  exact (by decide : (0 : Nat) < 64)
theorem ZfT (n : Bool) (o : Option Int) : oIsN n (dOi o) .none = some (.bool (if n then o.isSome else o.isNone)) := by cases o <;> cases n <;> rfl
theorem Zeg {c : List Int} : cTupL [dLI c] = some (dTI c) := id rfl
theorem ZbV (C cNP : Addr) (z : Int) (m : AM) (n : Str) : ZJ C cNP [alT C z m, .leaf (.str n)] = some (if (lkM (.inr n) m).isSome then .ok (.leaf .none) else .ex cNP, [alT C z m, .leaf (.str n)]) := by
 unfold ZJ
 refine Zak (ds := [.str n]) ?_
 unfold Za4 alT
 cases h : (lkM (.inr n) m).isSome with
 | true => exists ZS, h, Nat.le_refl
 | false => exists ZS, h, Nat.le_refl
theorem Ze5 (n : Str) (hl : n.length ≤ 1000) : f_is_name [.str n] = some (.bool (nameOk n)) := by
 have e1 : cLenS [.str n] = some (.int (n.length : Nat)) := by
  unfold cLenS
  dsimp only
  rw [if_pos (show lenS n = true from decide_eq_true (by omega))]
 unfold f_is_name
 refine ZdY ?_
 unfold ZeV nameOk
 exists e1, Zeh
 refine Zan (fun h => ?_) (fun h => ?_)
 ·rw [h, Bool.true_and]
  exists true_and
  have hs : (n.cps.toList).length ≤ 50000 := by
   have : n.cps.toList.length = n.length := rfl
   omega
  refine ZeM (fun c => PyData.str (sg c)) n.cps.toList (fun c => .bool (decide (c ∈ abc))) hs ?_ (fun c _ => ?_) ?_
  ·exists asS
   exact Zi1 n
  ·exists Zio
  ·exists Zdb
 ·rw [h, Bool.false_and]
  exists true_and
theorem Zam (cN : Addr) (n : Str) (hl : n.length ≤ 1000) : Zbu cN [.str n] = some (if nameOk n then .inl .none else .inr cN) := by
 unfold Zbu
 refine ZkR ?_
 unfold ZdT
 cases h : nameOk n with
 | true => exists Ze5 n hl, h
 | false => exists Ze5 n hl, h
theorem Zaj (cI : Addr) (k : Str) (hk : k.length ≤ 1000) : ZaP cI [.str k] = some (if inkOk k then .inl .none else .inr cI) := by
 unfold ZaP
 refine ZkR ?_
 unfold Zef
 cases h : inkOk k with
 | true => exists ZfF k hk, h
 | false => exists ZfF k hk, h
theorem ZdA (C cC : Addr) (z : Int) (m : AM) (c : List Int) (hl : c.length ≤ 1000) : ZV C cC [alT C z m, .leaf (dLI c)] = some (if cellsOk z c then .ok (.leaf .none) else .ex cC, [alT C z m, .leaf (dLI c)]) := by
 have e0 : cLen [dLI c] = some (.int (c.length : Nat)) := by
  show cLen [.list (c.map PyData.int)] = _
  rw [Zib, List.length_map]
 have e1 : decide (((c.length : Nat) : Int) = 0) = decide (c.length = 0) := decide_eq_decide.mpr (by omega)
 unfold ZV
 refine Zak (ds := [dLI c]) ?_
 unfold Zba alT cellsOk
 cases h : decide (c.length = 0) with
 | true => exists e0, e1, h, Nat.le_refl, Bool.false_and
 | false =>
  cases h2 : fieldB z c with
  | true => exists e0, e1, h, Zey (Zgc c) hl, h2, Nat.le_refl, Bool.true_and
  | false => exists e0, e1, h, Zey (Zgc c) hl, h2, Nat.le_refl, Bool.true_and
noncomputable def clE (cN cT cP cI cC cF cD : Addr) : Er → Addr
 | .name => cN | .taken => cT | .print => cP | .ink => cI | .cells => cC | .full => cF | .day => cD
noncomputable def rEr (f : Er → Addr) : Option Er → Rx OT
 | none => .ok (.leaf .none)
 | some e => .ex (f e)
theorem ZmN (C cC cI cN cF cT cP cD : Addr) (z : Int) (m : AM) (n : Str) (k : Str) (hk : k.length ≤ 1000) (c : List Int) (hn : n.length ≤ 1000) (hc : c.length ≤ 1000) (hz : z ≤ 24) (hm : m.length ≤ 1000) :
  Zbr C cC cI cN cF cT [alT C z m, .leaf (.str n), .leaf (.str k), .leaf (dLI c)] = some (rEr (clE cN cT cP cI cC cF cD) (bad z m (.add n k c)), [alT C z (stepM z m (.add n k c)), .leaf (.str n), .leaf (.str k), .leaf (dLI c)]) := by
 have e2 : decide ((11 : Int) < (m.length : Nat)) = decide (11 < m.length) := decide_eq_decide.mpr (by omega)
 have hcc := ZdA C cC z m c (by omega)
 unfold alT at hcc
 have hput : putKT (.inr n) (.tuple [.str k, dTI (rise c), .none]) (dT dPnt m) = dT dPnt (putM (.inr n) (k, rise c, none) m) := Zcv (f := dPnt) (v := (k, rise c, none))
 unfold Zbr
 refine Zak (ds := [.str n, .str k, dLI c]) ?_
 unfold ZdS alT stepM
 cases h1 : nameOk n with
 | false =>
  have hb : bad z m (.add n k c) = some .name := by simp [bad, h1]
  exists hb, Zam cN n hn, h1, rxO, rEr, clE, Nat.le_refl
 | true =>
 cases h2 : (lkM (.inr n) m).isSome with
 | true =>
  have hb : bad z m (.add n k c) = some .taken := by simp [bad, h1, h2]
  exists hb, Zam cN n hn, h1, rxO, rEr, clE, Nat.le_refl, ZS, h2
 | false =>
 cases h3 : inkOk k with
 | false =>
  have hb : bad z m (.add n k c) = some .ink := by simp [bad, h1, h2, h3]
  exists hb, Zam cN n hn, h1, rxO, rEr, clE, Nat.le_refl, ZS, h2, Zaj _ k hk, h3
 | true =>
 cases h4 : cellsOk z c with
 | false =>
  have hb : bad z m (.add n k c) = some .cells := by simp [bad, h1, h2, h3, h4]
  exists hb, Zam cN n hn, h1, rxO, rEr, clE, Nat.le_refl, ZS, h2, Zaj _ k hk, h3, hcc, h4
 | true =>
 by_cases h5 : 11 < m.length
 ·have hb : bad z m (.add n k c) = some .full := by simp [bad, h1, h2, h3, h4, h5]
  have h5' : decide (11 < m.length) = true := decide_eq_true h5
  exists hb, Zam cN n hn, h1, rxO, rEr, clE, Nat.le_refl, ZS, h2, Zaj _ k hk, h3, hcc, h4, ZbD, e2, h5'
 ·have hb : bad z m (.add n k c) = none := by simp [bad, h1, h2, h3, h4, h5]
  have h5' : decide (11 < m.length) = false := decide_eq_false h5
  exists hb, Zam cN n hn, h1, rxO, rEr, clE, Nat.le_refl, ZS, h2, Zaj _ k hk, h3, hcc, h4, ZbD, e2, h5', Zfy (Zgc c) hc (ZfX hz (by unfold cellsOk at h4; exact (Bool.and_eq_true _ _ ▸ h4).2)), Zeg, hput, doM, Zdo
  refine ZT (by omega) ?_
  exists hput, hb, rEr, doM, Nat.le_refl
theorem Ze3 {n : Key} {m : AM} (h : (lkM n m).isSome = true) : ∃ p, lkM n m = some p := Option.isSome_iff_exists.mp h
theorem Zj5 (C cC cI cP cN cT cF cD : Addr) (z : Int) (m : AM) (n : Str) (k : Str) (hk : k.length ≤ 1000) (c : List Int) (hc : c.length ≤ 1000) (hz : z ≤ 24) (hm : m.length ≤ 1000) :
  ZaV C cC cI cP [alT C z m, .leaf (.str n), .leaf (.str k), .leaf (dLI c)] = some (rEr (clE cN cT cP cI cC cF cD) (bad z m (.amend n k c)), [alT C z (stepM z m (.amend n k c)), .leaf (.str n), .leaf (.str k), .leaf (dLI c)]) := by
 have hcc := ZdA C cC z m c (by omega)
 have hnp := ZbV C cP z m n
 unfold alT at hcc hnp
 unfold ZaV
 refine Zak (ds := [.str n, .str k, dLI c]) ?_
 unfold ZcU alT stepM
 cases h2 : (lkM (.inr n) m).isSome with
 | false =>
  have hb : bad z m (.amend n k c) = some .print := by simp [bad, h2]
  exists hb, rEr, clE, Nat.le_refl, hnp, h2
 | true =>
 obtain ⟨p, hp⟩ := Ze3 h2
 have hput : putKT (.inr n) (.tuple [.str k, dTI (rise c), dOi p.2.2]) (dT dPnt m) = dT dPnt (putM (.inr n) (k, rise c, p.2.2) m) := Zcv (f := dPnt) (v := (k, rise c, p.2.2))
 cases h3 : inkOk k with
 | false =>
  have hb : bad z m (.amend n k c) = some .ink := by simp [bad, h2, h3]
  exists hb, rEr, clE, Nat.le_refl, hnp, h2, Zaj _ k hk, h3, rxO
 | true =>
 cases h4 : cellsOk z c with
 | false =>
  have hb : bad z m (.amend n k c) = some .cells := by simp [bad, h2, h3, h4]
  exists hb, rEr, clE, Nat.le_refl, hnp, h2, Zaj _ k hk, h3, rxO, hcc, h4
 | true =>
  have hb : bad z m (.amend n k c) = none := by simp [bad, h2, h3, h4]
  have hfl : flatD (dOi p.2.2) = true := by cases p.2.2 <;> rfl
  have ha : L2.atI [PyData.str p.1, dTI p.2.1, dOi p.2.2] 2 = some (dOi p.2.2) := Za1
  exists hb, rEr, clE, Nat.le_refl, hnp, h2, Zaj _ k hk, h3, rxO, hcc, h4, Zfy (Zgc c) hc (ZfX hz (by unfold cellsOk at h4; exact (Bool.and_eq_true _ _ ▸ h4).2)), Zeg, ZgU, Option.isSome_some, hp, dPnt, ha, hfl, doM, Zdo
  refine ZT (by omega) ?_
  exists hput, hb, hp, rEr, doM, Nat.le_refl
theorem ZlL (C cD cP cN cT cI cC cF : Addr) (z : Int) (m : AM) (n : Str) (d : Option Int) (hm : m.length ≤ 1000) :
  ZaY C cD cP [alT C z m, .leaf (.str n), .leaf (dOi d)] = some (rEr (clE cN cT cP cI cC cF cD) (bad z m (.date n d)), [alT C z (stepM z m (.date n d)), .leaf (.str n), .leaf (dOi d)]) := by
 have hnp := ZbV C cP z m n
 unfold alT at hnp
 unfold ZaY
 refine Zak (ds := [.str n, dOi d]) ?_
 unfold Zdr alT stepM
 cases h2 : (lkM (.inr n) m).isSome with
 | false =>
  have hb : bad z m (.date n d) = some .print := by simp [bad, h2]
  exists hb, rEr, clE, Nat.le_refl, hnp, h2
 | true =>
 obtain ⟨p, hp⟩ := Ze3 h2
 have hput : putKT (.inr n) (.tuple [.str p.1, dTI p.2.1, dOi d]) (dT dPnt m) = dT dPnt (putM (.inr n) (p.1, p.2.1, d) m) := Zcv (f := dPnt) (v := (p.1, p.2.1, d))
 have hcut : cutA [PyData.str p.1, dTI p.2.1, dOi p.2.2] none (some 2) = [PyData.str p.1, dTI p.2.1] := ZbK _ 2
 have hcat : oCatA (.tuple [PyData.str p.1, dTI p.2.1]) (.tuple [dOi d]) = some (.tuple [.str p.1, dTI p.2.1, dOi d]) := rfl
 cases d with
 | none =>
  have hb : bad z m (.date n none) = none := by simp [bad, h2, dayOk]
  exists hb, rEr, clE, Nat.le_refl, hnp, h2, ZfT, Option.isSome_none, Option.isSome_some, hp, dPnt, oSlT, hcut, hcat, Zdo
  refine ZT (by omega) ?_
  exists hput, hb, hp, rEr, doM, Nat.le_refl
 | some x =>
  cases h3 : dayOk (some x) with
  | false =>
   have hb : bad z m (.date n (some x)) = some .day := by simp [bad, h2, h3]
   have h3' : (decide (0 ≤ x) && decide (x ≤ 9999)) = false := h3
   exists hb, rEr, clE, Nat.le_refl, hnp, h2, ZfT, Option.isSome_some, dOi, Zeh, h3'
  | true =>
   have hb : bad z m (.date n (some x)) = none := by simp [bad, h2, h3]
   have h3' : (decide (0 ≤ x) && decide (x ≤ 9999)) = true := h3
   have hbt : gR ZaK [dOi (some x), .int 0, .int 9999] = some (.bool (decide (0 ≤ x) && decide (x ≤ 9999))) := Zeh
   exists hb, rEr, clE, Nat.le_refl, hnp, h2, ZfT, Option.isSome_some, hbt, h3', hp, dPnt, oSlT, hcut, hcat, Zdo
   refine ZT (by omega) ?_
   exists hput, hb, hp, rEr, doM, Nat.le_refl
theorem Zi8 (C cP cN cT cI cC cF cD : Addr) (z : Int) (m : AM) (n : Str) :
  ZaI C cP [alT C z m, .leaf (.str n)] = some (rEr (clE cN cT cP cI cC cF cD) (bad z m (.strike n)), [alT C z (stepM z m (.strike n)), .leaf (.str n)]) := by
 have hnp := ZbV C cP z m n
 unfold alT at hnp
 unfold ZaI
 refine Zak (ds := [.str n]) ?_
 unfold Zco alT stepM
 cases h2 : (lkM (.inr n) m).isSome with
 | false =>
  have hb : bad z m (.strike n) = some .print := by simp [bad, h2]
  exists hb, rEr, clE, Nat.le_refl, hnp, h2
 | true =>
  have hb : bad z m (.strike n) = none := by simp [bad, h2]
  obtain ⟨i, hi⟩ := Option.isSome_iff_exists.mp ((Zj0 (f := dPnt) (l := m) (k := .inr n)).trans h2)
  exists hb, rEr, clE, Nat.le_refl, hnp, h2, hi, Zhg, doM
theorem Zls (C cC cD cI cN cF cP cT : Addr) (z : Int) (m : AM) (c : Cl) (hf : c.fine) (hz : z ≤ 24) (hn : ∀ s k l, c = .add s k l → s.length ≤ 1000) (hm : m.length ≤ 1000) :
  Z8 C cC cD cI cN cF cP cT [alT C z m, .leaf (dCl c)] = some (rEr (clE cN cT cP cI cC cF cD) (bad z m c), [alT C z (stepM z m c), .leaf (dCl c)]) := by
 unfold Z8
 refine Zak (ds := [dCl c]) ?_
 have i0 : ∀ (a : PyData) l, L2.atI (a :: l) 0 = some a := fun a l => ZcH
 have i1 : ∀ (a b : PyData) l, L2.atI (a :: b :: l) 1 = some b := fun a b l => Zb4
 have i2 : ∀ (a b d : PyData) l, L2.atI (a :: b :: d :: l) 2 = some d := fun a b d l => Za1
 have i3 : ∀ (a b d e : PyData) l, L2.atI (a :: b :: d :: e :: l) 3 = some e := fun a b d e l => Zdn
 cases c with
 | add n k l =>
  obtain ⟨hk, hl⟩ := hf
  have h := ZmN C cC cI cN cF cT cP cD z m n k hk l (hn _ _ _ rfl) hl hz hm
  unfold alT at h
  generalize bad z m (.add n k l) = B at *
  generalize stepM z m (.add n k l) = M at *
  unfold Z7 alT
  cases B <;> exists dCl, i0, i1, i2, i3, h, rEr, Nat.le_refl
 | amend n k l =>
  obtain ⟨hk, hl⟩ := hf
  have h := Zj5 C cC cI cP cN cT cF cD z m n k hk l hl hz hm
  unfold alT at h
  generalize bad z m (.amend n k l) = B at *
  generalize stepM z m (.amend n k l) = M at *
  unfold Z7 alT
  cases B <;> exists dCl, i0, i1, i2, i3, h, rEr, Nat.le_refl
 | date n d =>
  have h := ZlL C cD cP cN cT cI cC cF z m n d hm
  unfold alT at h
  generalize bad z m (.date n d) = B at *
  generalize stepM z m (.date n d) = M at *
  unfold Z7 alT
  cases B <;> exists dCl, i0, i1, i2, i3, h, rEr, Nat.le_refl
 | strike n =>
  have h := Zi8 C cP cN cT cI cC cF cD z m n
  unfold alT at h
  generalize bad z m (.strike n) = B at *
  generalize stepM z m (.strike n) = M at *
  unfold Z7 alT
  cases B <;> exists dCl, i0, i1, i2, i3, h, rEr, Nat.le_refl
noncomputable def hot : Er → List Bool
 | .name => [true, false, false, false, false, false, false, true]
 | .taken => [false, true, false, false, false, false, false, true]
 | .print => [false, false, true, false, false, false, false, true]
 | .ink => [false, false, false, true, false, false, false, true]
 | .cells => [false, false, false, false, true, false, false, true]
 | .full => [false, false, false, false, false, true, false, true]
 | .day => [false, false, false, false, false, false, true, true]
theorem Zmy : oSplit (.str (Str.ofString "BadName Taken NoPrint BadInk BadCells Full BadDay other")) (.str (Str.ofString " ")) = some (dLS (["BadName", "Taken", "NoPrint", "BadInk", "BadCells", "Full", "BadDay", "other"].map Str.ofString)) := by
 have e : Txt.split (Str.ofString "BadName Taken NoPrint BadInk BadCells Full BadDay other") (Str.ofString " ") = ["BadName", "Taken", "NoPrint", "BadInk", "BadCells", "Full", "BadDay", "other"].map Str.ofString := by decide +kernel
 unfold oSplit
 dsimp only
 rw [if_pos ⟨by decide +kernel, by decide +kernel⟩, e]
theorem Ziy (C cC cD cI cN cF cP cT : Addr) (hnd : [cN, cT, cP, cI, cC, cF, cD].Nodup) (z : Int) (m : AM) (c : Cl) (hf : c.fine) (hz : z ≤ 24) (hn : ∀ s k l, c = .add s k l → s.length ≤ 1000) (hm : m.length ≤ 1000) :
  Zab C cC cD cI cN cF cP cT [alT C z m, .leaf (dCl c)] = some (.ok (.leaf (.str (Str.ofString (erS (bad z m c))))), [alT C z (stepM z m c), .leaf (dCl c)]) := by
 have h := Zls C cC cD cI cN cF cP cT z m c hf hz hn hm
 generalize stepM z m c = M at *
 unfold Zab
 refine Zak (ds := [dCl c]) ?_
 unfold ZbJ
 cases hb : bad z m c with
 | none =>
  rw [hb] at h
  exists h, rEr, erS, Nat.le_refl
 | some e =>
  rw [hb] at h
  have hmem : clE cN cT cP cI cC cF cD e ∈ [cN, cT, cP, cI, cC, cF, cD] := by cases e <;> simp [clE]
  have hh : [decide (clE cN cT cP cI cC cF cD e = cN), decide (clE cN cT cP cI cC cF cD e = cT), decide (clE cN cT cP cI cC cF cD e = cP), decide (clE cN cT cP cI cC cF cD e = cI)] = (hot e).take 4 ∧ [decide (clE cN cT cP cI cC cF cD e = cC), decide (clE cN cT cP cI cC cF cD e = cF), decide (clE cN cT cP cI cC cF cD e = cD), true] = (hot e).drop 4 := by
   simp only [List.nodup_cons, List.mem_cons, List.not_mem_nil, or_false, not_or, not_false_eq_true, List.nodup_nil, and_true] at hnd
   cases e <;> simp_all [clE, hot, eq_comm]
  have hcat : oCat (dLB ((hot e).take 4)) (dLB ((hot e).drop 4)) = some (dLB (hot e)) := by
   cases e <;> rfl
  have hix : ∃ j : Int, oIdxT (dLB (hot e)) = some (.int j) ∧ oIxL (dLS (["BadName", "Taken", "NoPrint", "BadInk", "BadCells", "Full", "BadDay", "other"].map Str.ofString)) (.int j) = some (.str (Str.ofString e.s)) := by
   cases e
   ·exact ⟨0, rfl, rfl⟩
   ·exact ⟨1, rfl, rfl⟩
   ·exact ⟨2, rfl, rfl⟩
   ·exact ⟨3, rfl, rfl⟩
   ·exact ⟨4, rfl, rfl⟩
   ·exact ⟨5, rfl, rfl⟩
   ·exact ⟨6, rfl, rfl⟩
  obtain ⟨j, hj, hx⟩ := hix
  have hl : List.map PyData.bool ((hot e).take 4) ++ List.map PyData.bool ((hot e).drop 4) = (hot e).map PyData.bool := by rw [← List.map_append, List.take_append_drop]
  have hj : oIdxT (.list ((hot e).map PyData.bool)) = some (.int j) := hj
  exists h, rEr, erS, Nat.le_refl, hmem, hh.1, hh.2
  have hlen : (hot e).length = 8 := by cases e <;> rfl
  have h2e : [PyData.bool (decide (clE cN cT cP cI cC cF cD e = cC)), PyData.bool (decide (clE cN cT cP cI cC cF cD e = cF)), PyData.bool (decide (clE cN cT cP cI cC cF cD e = cD)), PyData.bool true] = List.map PyData.bool ((hot e).drop 4) := by rw [← hh.2]; rfl
  refine ZT (by simp [hlen]) ?_
  have hx2 : L2.atI [PyData.str (Str.ofString "BadName"), PyData.str (Str.ofString "Taken"), PyData.str (Str.ofString "NoPrint"), PyData.str (Str.ofString "BadInk"), PyData.str (Str.ofString "BadCells"), PyData.str (Str.ofString "Full"), PyData.str (Str.ofString "BadDay"), PyData.str (Str.ofString "other")] j = some (.str (Str.ofString e.s)) := hx
  exists h2e, hl, Zmy, hj, hx2, erS, Nat.le_refl
theorem ZhW : ∀ (a b : List Int), PyData.eqvAll (a.map PyData.int) (b.map PyData.int) = decide (a = b)
 | [], [] => rfl
 | [], _ :: _ => rfl
 | _ :: _, [] => rfl
 | x :: a, y :: b => by
  have ih := ZhW a b
  show (PyData.eqv (.int x) (.int y) && PyData.eqvAll (a.map PyData.int) (b.map PyData.int)) = _
  rw [ih, Bool.eq_iff_iff]
  simp [PyData.eqv]
theorem ZnH (neg : Bool) (a b : List Int) : oEqD neg (dLI a) (dLI b) = some (.bool (if neg then !decide (a = b) else decide (a = b))) := by
 unfold oEqD
 rw [if_pos ⟨(Sh.li (n := 0) a).ok (by decide), (Sh.li (n := 0) b).ok (by decide)⟩]
 show some (PyData.bool (if neg then !PyData.eqvAll (a.map PyData.int) (b.map PyData.int) else PyData.eqvAll (a.map PyData.int) (b.map PyData.int))) = _
 rw [ZhW]
theorem Zes (neg : Bool) (a : List Int) : oEqD neg (dLI a) (.list []) = some (.bool (if neg then !decide (a = []) else decide (a = []))) := ZnH neg a []
theorem Zgk (n : Str) (hl : n.length ≤ 1000) : f__law_name_ok [.str n] = some (.bool (nameOk n)) := by
 have e1 : cLenS [.str n] = some (.int (n.length : Nat)) := by
  unfold cLenS
  dsimp only
  rw [if_pos (show lenS n = true from decide_eq_true (by omega))]
 have hs : (n.cps.toList).length ≤ 50000 := by
  have : n.cps.toList.length = n.length := rfl
  omega
 have fin : ∀ Q : Kt PyData, Q.q (.list (n.cps.toList.map fun c => PyData.bool (decide (c ∈ abc)))) → @og _ (wLc (itS (wV 0)) (bName 1) bYes (wOp (oInSg false) (wV 1) (wC (.str (Str.ofString "abcdefghijklmnopqrstuvwxyz")))) [1] [some (.str n), none]) Q := fun Q hQ => by
  refine ZeM (fun c => PyData.str (sg c)) n.cps.toList (fun c => .bool (decide (c ∈ abc))) hs ?_ (fun c _ => ?_) hQ
  ·exists asS
   exact Zi1 n
  ·exists Zio
 unfold f__law_name_ok
 refine ZdY ?_
 unfold Zcm nameOk
 exists e1
 refine Zan (fun h => ?_) (fun h => ?_)
 ·exists h, true_and
  refine Zan (fun h2 => ?_) (fun h2 => ?_)
  ·rw [h, h2]
   exists true_and
   refine fin _ ?_
   exists Zdb
   rw [Bool.true_and, Bool.true_and]
  ·rw [h, h2]
   exists true_and
   rfl
 ·rw [h]
  exists true_and
  rfl
theorem Zop {z : Int} {c : List Int} : fieldB z c = true ↔ ∀ x ∈ c, 0 ≤ x ∧ x < z := by
 unfold fieldB
 simp [List.all_eq_true]
theorem Zhh (k : Str) (hk : k.length ≤ 1000) : (∃ c, k = sg c) ∨ (cLenS [.str k] = some (.int (k.length : Nat)) ∧ ((((k.length : Nat) : Int) = 1) = False) ∧ inkOk k = false) := by
 by_cases h1 : k.length = 1
 ·left
  obtain ⟨⟨l⟩⟩ := k
  match l, h1 with
  | [c], _ => exact ⟨c, rfl⟩
 ·right
  refine ⟨?_, eq_false (by omega), by unfold inkOk; rw [decide_eq_false h1]; rfl⟩
  show (if lenS k = true then some (PyData.int (k.length : Nat)) else none) = _
  rw [if_pos (by unfold lenS; exact decide_eq_true (by omega))]
theorem Zkv {z : Int} {m : AM} {n k : Str} {l : List Int} (h : bad z m (.add n k l) = none) : fieldB z l = true := by
 cases h4 : fieldB z l with
 | true => rfl
 | false =>
  exfalso
  unfold bad at h
  simp only [cellsOk, h4, Bool.and_false, Bool.not_false, ↓reduceIte] at h
  repeat' (split at h)
  all_goals first | cases h | contradiction
theorem Zj3 {z : Int} {m : AM} {n k : Str} {l : List Int} (h : bad z m (.amend n k l) = none) : fieldB z l = true := by
 cases h4 : fieldB z l with
 | true => rfl
 | false =>
  exfalso
  unfold bad at h
  simp only [cellsOk, h4, Bool.and_false, Bool.not_false, ↓reduceIte] at h
  repeat' (split at h)
  all_goals first | cases h | contradiction
theorem ZkS (z : Int) (m : AM) (c : Cl) (hf : c.fine) (hn : ∀ s k l, c = .add s k l → s.length ≤ 1000) : f__law_album_bad [.int z, dM dPnt m, dCl c] = some (.str (Str.ofString (erS (bad z m c)))) := by
 have i2 : ∀ (a b d : PyData) l, L2.atI (a :: b :: d :: l) 2 = some d := fun a b d l => Za1
 have i3 : ∀ (a b d e : PyData) l, L2.atI (a :: b :: d :: e :: l) 3 = some e := fun a b d e l => Zdn
 have e2 : decide ((11 : Int) < (m.length : Nat)) = decide (11 < m.length) := decide_eq_decide.mpr (by omega)
 have hc2 : ∀ (a b : PyData) l, cutA (a :: b :: l) none (some 2) = [a, b] := fun a b l => by rw [show (2 : Int) = ((2 : Nat) : Int) from rfl, ZbK]; rfl
 have hin1 : oIn false (.str (Str.ofString "add")) (.list [.str (Str.ofString "add"), .str (Str.ofString "amend")]) = some (.bool true) := by rfl
 have hin2 : oIn false (.str (Str.ofString "amend")) (.list [.str (Str.ofString "add"), .str (Str.ofString "amend")]) = some (.bool true) := by rfl
 have hin3 : oIn false (.str (Str.ofString "date")) (.list [.str (Str.ofString "add"), .str (Str.ofString "amend")]) = some (.bool false) := by rfl
 have hin4 : oIn false (.str (Str.ofString "strike")) (.list [.str (Str.ofString "add"), .str (Str.ofString "amend")]) = some (.bool false) := by rfl
 have hls : ∀ k, cLenS [.str (sg k)] = some (.int 1) := fun k => rfl
 have hng : ∀ k, oInSg true (.str (sg k)) (.str (Str.ofString "abcdefghijklmnopqrstuvwxyz")) = some (.bool (!inkOk (sg k))) := fun k => by
  rw [Zgz, ZhL]
  exact ZhN true k abc
 have hcl : ∀ (l : List Int), l.length ≤ 1000 → ∀ (Q : Kt PyData) (ρ : DE), wOp oIxT (wV 2) (wC (.int 3)) ρ = some (dLI l) → ρ[0]? = some (some (.int z)) → ρ.length = 6 → Q.q (.list (l.map fun x => PyData.bool (decide (0 ≤ x) && decide (x < z)))) → @og _ (wLc (itL (wOp oIxT (wV 2) (wC (.int 3)))) (bName 5) bYes (wChain oLe oLt (wC (.int 0)) (wV 5) (wV 0)) [5] ρ) Q := fun l hl Q ρ h1 h2 h3 hQ => by
  refine ZeM PyData.int l (fun x => .bool (decide (0 ≤ x) && decide (x < z))) (by omega) ⟨l.map PyData.int, by unfold itL; rw [h1]; rfl, rfl⟩ (fun x _ => ?_) hQ
  obtain ⟨a0, a1, a2, a3, a4, a5, rfl⟩ : ∃ a0 a1 a2 a3 a4 a5, ρ = [a0, a1, a2, a3, a4, a5] := by
   match ρ, h3 with
   | [a0, a1, a2, a3, a4, a5], _ => exact ⟨a0, a1, a2, a3, a4, a5, rfl⟩
  have h2 : a0 = some (.int z) := by simpa using h2
  subst h2
  exists true_and
  refine Zan (fun h => ?_) (fun h => ?_)
  ·exists h, Bool.true_and
  ·exists h, Bool.false_and
 unfold f__law_album_bad
 refine ZdY ?_
 cases c with
 | add n k l =>
  obtain ⟨hk, hl⟩ := hf
  rcases Zhh k hk with ⟨s, rfl⟩ | ⟨hl9, hm9, hb9⟩
  ·have hnm := Zgk n (hn _ _ _ rfl)
   unfold ZW
   cases h1 : nameOk n with
   | false =>
    have hb : bad z m (.add n (sg s) l) = some .name := by simp [bad, h1]
    exists dCl, oSlT, hc2, hnm, h1, hb, erS, Er.s
   | true =>
   cases h2 : (lkM (.inr n) m).isSome with
   | true =>
    have hb : bad z m (.add n (sg s) l) = some .taken := by simp [bad, h1, h2]
    exists dCl, oSlT, hc2, hnm, h1, hb, erS, Er.s, ZS, h2
   | false =>
   cases h3 : inkOk (sg s) with
   | false =>
    have hb : bad z m (.add n (sg s) l) = some .ink := by simp [bad, h1, h2, h3]
    exists dCl, oSlT, hc2, hnm, h1, hb, erS, Er.s, ZS, h2, hin1, i2, hls, hng, h3
   | true =>
   by_cases h4 : l = []
   ·have hb : bad z m (.add n (sg s) l) = some .cells := by simp [bad, h1, h2, h3, cellsOk, h4]
    subst h4
    have e0 : oEqD false (dLI []) (.list []) = some (.bool true) := rfl
    exists dCl, oSlT, hc2, hnm, h1, hb, erS, Er.s, ZS, h2, hin1, i2, i3, hls, hng, h3, e0
   ·have e0 : oEqD false (dLI l) (.list []) = some (.bool false) := by rw [Zes]; simp [h4]
    exists dCl, oSlT, hc2, hnm, h1, ZS, h2, hin1, i2, i3, hls, hng, h3, e0
    refine hcl l hl _ _ ?_ rfl rfl ?_
    ·unfold wOp wV wC
     rfl
    exists Zdb
    have hfb : (l.all fun x => decide (0 ≤ x) && decide (x < z)) = fieldB z l := rfl
    have hlen : decide (l.length = 0) = false := by simp [h4]
    cases h5 : fieldB z l with
    | false =>
     have hb : bad z m (.add n (sg s) l) = some .cells := by simp [bad, h1, h2, h3, cellsOk, h5]
     exists hfb, h5, hb, erS, Er.s
    | true =>
    by_cases h6 : 11 < m.length
    ·have hb : bad z m (.add n (sg s) l) = some .full := by simp [bad, h1, h2, h3, cellsOk, h4, h5, h6]
     have h6' : decide (11 < m.length) = true := decide_eq_true h6
     exists hfb, h5, ZbD, e2, h6', hb, erS, Er.s
    ·have hb : bad z m (.add n (sg s) l) = none := by simp [bad, h1, h2, h3, cellsOk, h4, h5, h6]
     have h6' : decide (11 < m.length) = false := decide_eq_false h6
     exists hfb, h5, ZbD, e2, h6', hb, erS
  ·have hnm := Zgk n (hn _ _ _ rfl)
   unfold ZW
   cases h1 : nameOk n with
   | false =>
    have hb : bad z m (.add n k l) = some .name := by simp [bad, h1]
    exists dCl, oSlT, hc2, hnm, h1, hb, erS, Er.s
   | true =>
   cases h2 : (lkM (.inr n) m).isSome with
   | true =>
    have hb : bad z m (.add n k l) = some .taken := by simp [bad, h1, h2]
    exists dCl, oSlT, hc2, hnm, h1, hb, erS, Er.s, ZS, h2
   | false =>
    have hb : bad z m (.add n k l) = some .ink := by simp [bad, h1, h2, hb9]
    exists dCl, oSlT, hc2, hnm, h1, hb, erS, Er.s, ZS, h2, hin1, i2, hl9, hm9, decide_false, not_false_eq_true, decide_true
 | amend n k l =>
  obtain ⟨hk, hl⟩ := hf
  rcases Zhh k hk with ⟨s, rfl⟩ | ⟨hl9, hm9, hb9⟩
  ·unfold ZW
   cases h2 : (lkM (.inr n) m).isSome with
   | false =>
    have hb : bad z m (.amend n (sg s) l) = some .print := by simp [bad, h2]
    exists dCl, oSlT, hc2, hb, erS, Er.s, ZS, h2
   | true =>
   cases h3 : inkOk (sg s) with
   | false =>
    have hb : bad z m (.amend n (sg s) l) = some .ink := by simp [bad, h2, h3]
    exists dCl, oSlT, hc2, hb, erS, Er.s, ZS, h2, hin2, i2, hls, hng, h3
   | true =>
   by_cases h4 : l = []
   ·have hb : bad z m (.amend n (sg s) l) = some .cells := by simp [bad, h2, h3, cellsOk, h4]
    subst h4
    have e0 : oEqD false (dLI []) (.list []) = some (.bool true) := rfl
    exists dCl, oSlT, hc2, hb, erS, Er.s, ZS, h2, hin2, i2, i3, hls, hng, h3, e0
   ·have e0 : oEqD false (dLI l) (.list []) = some (.bool false) := by rw [Zes]; simp [h4]
    exists dCl, oSlT, hc2, ZS, h2, hin2, i2, i3, hls, hng, h3, e0
    refine hcl l hl _ _ ?_ rfl rfl ?_
    ·unfold wOp wV wC
     rfl
    exists Zdb
    have hfb : (l.all fun x => decide (0 ≤ x) && decide (x < z)) = fieldB z l := rfl
    cases h5 : fieldB z l with
    | false =>
     have hb : bad z m (.amend n (sg s) l) = some .cells := by simp [bad, h2, h3, cellsOk, h5]
     exists hfb, h5, hb, erS, Er.s
    | true =>
     have hb : bad z m (.amend n (sg s) l) = none := by simp [bad, h2, h3, cellsOk, h4, h5]
     exists hfb, h5, hb, erS
  ·unfold ZW
   cases h2 : (lkM (.inr n) m).isSome with
   | false =>
    have hb : bad z m (.amend n k l) = some .print := by simp [bad, h2]
    exists dCl, oSlT, hc2, hb, erS, Er.s, ZS, h2
   | true =>
    have hb : bad z m (.amend n k l) = some .ink := by simp [bad, h2, hb9]
    exists dCl, oSlT, hc2, hb, erS, Er.s, ZS, h2, hin2, i2, hl9, hm9, decide_false, not_false_eq_true, decide_true
 | date n d =>
  unfold ZW
  cases h2 : (lkM (.inr n) m).isSome with
  | false =>
   have hb : bad z m (.date n d) = some .print := by simp [bad, h2]
   exists dCl, oSlT, hc2, hb, erS, Er.s, ZS, h2
  | true =>
   cases d with
   | none =>
    have hb : bad z m (.date n none) = none := by simp [bad, h2, dayOk]
    exists dCl, dOi, oSlT, hc2, hb, erS, ZS, h2, hin3, i2
   | some x =>
    have go : dayOk (some x) = (decide (0 ≤ x) && decide (x ≤ 9999)) := rfl
    exists dCl, dOi, oSlT, hc2, ZS, h2, hin3, i2
    refine Zan (fun h3 => ?_) (fun h3 => ?_)
    ·exists h3, true_and
     refine Zan (fun h4 => ?_) (fun h4 => ?_)
     ·have h4 : decide (x ≤ 9999) = false := by simpa using h4
      have hb : bad z m (.date n (some x)) = some .day := by simp only [bad, h2, go, h3, h4]; rfl
      exists hb, erS, Er.s
     ·have h4 : decide (x ≤ 9999) = true := by simpa using h4
      have hb : bad z m (.date n (some x)) = none := by simp only [bad, h2, go, h3, h4]; rfl
      exists hb, erS
    ·have hb : bad z m (.date n (some x)) = some .day := by simp [bad, h2, go, h3]
     exists hb, erS, Er.s
 | strike n =>
  unfold ZW
  cases h2 : (lkM (.inr n) m).isSome with
  | false =>
   have hb : bad z m (.strike n) = some .print := by simp [bad, h2]
   exists dCl, oSlT, hc2, hb, erS, Er.s, ZS, h2
  | true =>
   have hb : bad z m (.strike n) = none := by simp [bad, h2]
   exists dCl, oSlT, hc2, hb, erS, ZS, h2, hin4
theorem Zj8 {n : Str} (h6 : nameOk n = true) : n.length ≤ 8 := by
 unfold nameOk at h6
 simp at h6
 omega
theorem ZkJ {s : Str} (h : nameOk s = true) {n : Nat} : Sh n (.str s) := by
 have : PySem.PyData.canLay0 (.str s) = true := by
  show PySem.PyData.strOk s = true
  unfold PySem.PyData.strOk
  rw [Array.all_eq_true_iff_forall_mem]
  intro x hx
  unfold nameOk at h
  rw [Bool.and_eq_true, List.all_eq_true] at h
  have := of_decide_eq_true (h.2 x (Array.mem_toList_iff.mpr hx))
  have hx : x ≤ 200 := by
   have hm : ∀ y ∈ abc, y ≤ 200 := by decide
   exact hm x this
  simp
  omega
 cases n <;> exact this
structure Mok (z : Int) (m : AM) : Prop where
 len : m.length ≤ 12
 ks : ∃ ns : List Str, m.map (·.1) = ns.map Sum.inr
 val : ∀ kv ∈ m, Cells z kv.2.2.1 ∧ kv.2.2.1 ≠ []
 nd : (m.map (·.1)).Nodup
 nl : ∀ k ∈ m.map (·.1), ∀ s, k = Sum.inr s → nameOk s = true
noncomputable def nms (m : AM) : List Str := m.filterMap fun kv => match kv.1 with
 | .inr s => some s
 | .inl _ => none
theorem ZkW : ∀ {m : AM} {ns : List Str}, m.map (·.1) = ns.map Sum.inr → nms m = ns
 | [], [], _ => rfl
 | [], _ :: _, h => by cases h
 | _ :: _, [], h => by cases h
 | (k, v) :: m, s :: ns, h => by
  rw [List.map_cons, List.map_cons] at h
  injection h with h1 h2
  have h1 : k = Sum.inr s := h1
  subst h1
  show s :: nms m = _
  rw [ZkW h2]
theorem Mok.keys {z : Int} {m : AM} (h : Mok z m) : m.map (·.1) = (nms m).map Sum.inr := by
 obtain ⟨ns, hn⟩ := h.ks
 rw [ZkW hn]
 exact hn
theorem Mok.nlen {z : Int} {m : AM} (h : Mok z m) : (nms m).length = m.length := by
 have := congrArg List.length h.keys
 simpa using this.symm
theorem ZgM {α : Type} {k : Key} {m : List (Key × α)} {p : α} (h : lkM k m = some p) : (k, p) ∈ m := by
 unfold lkM at h
 obtain ⟨kv, h1, h2⟩ := Option.map_eq_some_iff.mp h
 have h3 := List.mem_of_find?_eq_some h1
 have h4 := List.find?_some h1
 have h4 : kv.1 = k := by simpa using h4
 rw [← h4, ← h2]
 exact h3
theorem Zh5 {α : Type} {k : Key} {m : List (Key × α)} (h : k ∈ m.map (·.1)) : ∃ p, lkM k m = some p := by
 obtain ⟨kv, h1, h2⟩ := List.mem_map.mp h
 unfold lkM
 cases hf : m.find? fun kv => decide (kv.1 = k) with
 | none =>
  have := List.find?_eq_none.mp hf kv h1
  simp [h2] at this
 | some q => exact ⟨q.2, rfl⟩
theorem Mok.sort {z : Int} {m : AM} (h : Mok z m) : cSortDS [dM dPnt m] = some (dLS (srtS (nms m))) := Zkf h.keys (by have := h.nlen; have := h.len; omega)
theorem Mok.at {z : Int} {m : AM} (h : Mok z m) {r : Int} (h0 : 0 ≤ r) (h1 : r < (m.length : Nat)) : ∃ s p, L2.atI ((srtS (nms m)).map PyData.str) r = some (.str s) ∧ lkM (.inr s) m = some p ∧ (.inr s, p) ∈ m := by
 have hl : (srtS (nms m)).length = m.length := (Zaz _).length_eq.trans h.nlen
 obtain ⟨i, rfl⟩ : ∃ i : Nat, r = (i : Int) := ⟨r.toNat, by omega⟩
 have hi : i < (srtS (nms m)).length := by omega
 have hmem : (srtS (nms m))[i] ∈ nms m := (Zaz _).mem_iff.mp (List.getElem_mem hi)
 obtain ⟨p, hp⟩ := Zh5 (m := m) (k := .inr (srtS (nms m))[i]) (by rw [h.keys]; exact List.mem_map.mpr ⟨_, hmem, rfl⟩)
 refine ⟨_, p, ?_, hp, ZgM hp⟩
 rw [ZjF]
 have : L2.atI (srtS (nms m)) (i : Int) = some (srtS (nms m))[i] := by
  unfold L2.atI
  rw [ixN_nat hi]
  exact List.getElem?_eq_getElem hi
 rw [this]
 rfl
theorem ZhZ {α : Type} {k : Key} {v : α} {m : List (Key × α)} {kv : Key × α} (h : kv ∈ putM k v m) : kv ∈ m ∨ kv = (k, v) := by
 unfold putM at h
 split at h
 ·obtain ⟨q, hq, rfl⟩ := List.mem_map.mp h
  split
  ·rename_i e; exact .inr (by rw [e])
  ·exact .inl hq
 ·rcases List.mem_append.mp h with h | h
  ·exact .inl h
  ·exact .inr (List.mem_singleton.mp h)
theorem ZiR {α : Type} {k : Key} {m : List (Key × α)} : (m.any fun kv => decide (kv.1 = k)) = true ↔ k ∈ m.map (·.1) := by
 rw [List.any_eq_true, List.mem_map]
 exact ⟨fun ⟨x, h1, h2⟩ => ⟨x, h1, by simpa using h2⟩, fun ⟨x, h1, h2⟩ => ⟨x, h1, by simpa using h2⟩⟩
theorem Zpa {α : Type} {k : Key} {v : α} {m : List (Key × α)} (h : k ∈ m.map (·.1)) : (putM k v m).map (·.1) = m.map (·.1) := by
 unfold putM
 rw [if_pos (ZiR.mpr h), List.map_map]
 refine List.map_congr_left fun kv _ => ?_
 dsimp only [Function.comp]
 split <;> rfl
theorem Zm1 {α : Type} {k : Key} {v : α} {m : List (Key × α)} (h : k ∉ m.map (·.1)) : (putM k v m).map (·.1) = m.map (·.1) ++ [k] := by
 unfold putM
 rw [if_neg (fun e => h (ZiR.mp e)), List.map_append]
 rfl
theorem Zf8 {z : Int} {c : List Int} (h : fieldB z c = true) : Cells z (rise c) := ⟨Zdw c, fun k hk => Zop.mp h k ((Zcw k c).mp hk)⟩
theorem ZjB {c : List Int} (h : c ≠ []) : rise c ≠ [] := fun e => by
 cases c with
 | nil => exact h rfl
 | cons x c =>
  have := (Zcw x (x :: c)).mpr List.mem_cons_self
  rw [e] at this
  cases this
theorem ZfQ {z : Int} {c : List Int} : cellsOk z c = true ↔ c ≠ [] ∧ fieldB z c = true := by
 unfold cellsOk
 simp
theorem Mok.put {z : Int} {m : AM} (h : Mok z m) {n : Str} {p : Pr} (hp : Cells z p.2.1 ∧ p.2.1 ≠ []) (hl : (lkM (.inr n) m).isSome = true ∨ m.length ≤ 11 ∧ nameOk n = true) : Mok z (putM (.inr n) p m) := by
 have hlen : (putM (.inr n) p m).length = ((putM (.inr n) p m).map (·.1)).length := by simp
 by_cases hk : (.inr n) ∈ m.map (·.1)
 ·have e := Zpa (v := p) hk
  refine ⟨?_, ?_, fun kv hkv => ?_, ?_, by rw [e]; exact h.nl⟩
  ·rw [hlen, e, List.length_map]; exact h.len
  ·rw [e]; exact h.ks
  ·rcases ZhZ hkv with h1 | rfl
   ·exact h.val kv h1
   ·exact hp
  ·rw [e]; exact h.nd
 ·have e := Zm1 (v := p) hk
  have hl : m.length ≤ 11 ∧ nameOk n = true := by
   rcases hl with hl | hl
   ·exact absurd (ZmK.mp hl) hk
   ·exact hl
  refine ⟨?_, ⟨nms m ++ [n], ?_⟩, fun kv hkv => ?_, ?_, fun k hk s hs => ?_⟩
  ·rw [hlen, e]; simp; omega
  ·rw [e, h.keys]; simp
  ·rcases ZhZ hkv with h1 | rfl
   ·exact h.val kv h1
   ·exact hp
  ·rw [e]
   exact List.nodup_append.mpr ⟨h.nd, by simp, fun a ha b hb => by rw [List.mem_singleton.mp hb]; rintro rfl; exact hk ha⟩
  ·rw [e] at hk
   rcases List.mem_append.mp hk with hk | hk
   ·exact h.nl k hk s hs
   ·rw [List.mem_singleton.mp hk] at hs
    cases hs
    exact hl.2
theorem Mok.drop {z : Int} {m : AM} (h : Mok z m) (k : Key) : Mok z (dropM k m) := by
 have hs : (dropM k m).Sublist m := List.filter_sublist
 have hk : (dropM k m).map (·.1) = ((nms m).filter fun s => decide (Sum.inr s ≠ k)).map Sum.inr := by
  unfold dropM
  have : (m.filter fun kv => decide (kv.1 ≠ k)).map (·.1) = (m.map (·.1)).filter fun q => decide (q ≠ k) := by rw [List.filter_map]; rfl
  rw [this, h.keys, List.filter_map]
  rfl
 exact ⟨Nat.le_trans hs.length_le h.len, ⟨_, hk⟩, fun kv hkv => h.val kv (hs.subset hkv), h.nd.sublist (hs.map _), fun k hk => h.nl k ((hs.map _).subset hk)⟩
theorem Zpc {z : Int} {m : AM} {n k : Str} {l : List Int} (hb : bad z m (.add n k l) = none) : cellsOk z l = true ∧ m.length ≤ 11 ∧ (lkM (.inr n) m).isSome = false ∧ nameOk n = true := by
 unfold bad at hb
 cases h1 : nameOk n <;> cases h2 : (lkM (.inr n) m).isSome <;> cases h3 : inkOk k <;> cases h4 : cellsOk z l <;> simp [h1, h2, h3, h4] at hb ⊢
 exact hb
theorem Zhl {z : Int} {m : AM} {n k : Str} {l : List Int} (hb : bad z m (.amend n k l) = none) : (lkM (.inr n) m).isSome = true ∧ cellsOk z l = true := by
 unfold bad at hb
 cases h2 : (lkM (.inr n) m).isSome <;> cases h3 : inkOk k <;> cases h4 : cellsOk z l <;> simp [h2, h3, h4] at hb ⊢
theorem Zmu {z : Int} {m : AM} {n : Str} {d : Option Int} (hb : bad z m (.date n d) = none) : (lkM (.inr n) m).isSome = true ∧ dayOk d = true := by
 unfold bad at hb
 cases h2 : (lkM (.inr n) m).isSome <;> cases h3 : dayOk d <;> simp [h2, h3] at hb ⊢
theorem Zj7 {z : Int} {m : AM} {n : Str} (hb : bad z m (.strike n) = none) : (lkM (.inr n) m).isSome = true := by
 unfold bad at hb
 cases h2 : (lkM (.inr n) m).isSome <;> simp [h2] at hb ⊢
theorem Mok.step {z : Int} {m : AM} (h : Mok z m) (c : Cl) : Mok z (stepM z m c) := by
 unfold stepM
 cases hb : bad z m c with
 | some e => exact h
 | none =>
  cases c with
  | add n k l =>
   obtain ⟨h4, h5, _, h6⟩ := Zpc hb
   have h4 := ZfQ.mp h4
   exact h.put ⟨Zf8 h4.2, ZjB h4.1⟩ (.inr ⟨h5, h6⟩)
  | amend n k l =>
   obtain ⟨h2, h4⟩ := Zhl hb
   have h4 := ZfQ.mp h4
   obtain ⟨p, hp⟩ := Ze3 h2
   show Mok z (match lkM (.inr n) m with | some p => putM (.inr n) (k, rise l, p.2.2) m | none => m)
   rw [hp]
   exact h.put ⟨Zf8 h4.2, ZjB h4.1⟩ (.inl h2)
  | date n d =>
   show Mok z (match lkM (.inr n) m with | some p => putM (.inr n) (p.1, p.2.1, d) m | none => m)
   cases hp : lkM (.inr n) m with
   | none => exact h
   | some p => exact h.put (h.val _ (ZgM hp)) (.inl (by rw [hp]; rfl))
  | strike n => exact h.drop _
theorem ZhQ {z : Int} {l : List Int} (h : l.length ≤ 1000) (hz : z ≤ 24) (hf : fieldB z l = true) : oRiseB (dLI l) = some (dLI (rise l)) := by
 show ((asLI (l.map PyData.int)).bind fun ns => if ns.length ≤ 1000 ∧ (rise ns).length < 64 then some (dLI (rise ns)) else none) = _
 rw [Zic, Option.bind_some, if_pos ⟨h, ZfX hz hf⟩]
theorem Zh4 (z : Int) (m : AM) (c : Cl) (hf : c.fine) (hz : z ≤ 24) (hn : ∀ s k l, c = .add s k l → s.length ≤ 1000) (hm : m.length ≤ 1000) : f__law_album_do [.leaf (.int z), .node .dct (dT dPnt m), .leaf (dCl c)] = some (.ok (.leaf (.str (Str.ofString (erS (bad z m c))))), [.leaf (.int z), .node .dct (dT dPnt (stepM z m c)), .leaf (dCl c)]) := by
 have hbad := ZkS z m c hf hn
 have hc2 : ∀ (a b : PyData) l, cutA (a :: b :: l) none (some 2) = [a, b] := fun a b l => by rw [show (2 : Int) = ((2 : Nat) : Int) from rfl, ZbK]; rfl
 have i2 : ∀ (a b d : PyData) l, L2.atI (a :: b :: d :: l) 2 = some d := fun a b d l => Za1
 have i3 : ∀ (a b d e : PyData) l, L2.atI (a :: b :: d :: e :: l) 3 = some e := fun a b d e l => Zdn
 unfold f__law_album_do
 refine Zrr ?_
 unfold Zb0 stepM
 cases hb : bad z m c with
 | some e =>
  rw [hb] at hbad
  have hne : oEq true (.str (Str.ofString (erS (some e)))) (.str (Str.ofString "")) = some (.bool true) := by
   rw [ZgY]
   cases e <;> simp [erS, Er.s, ZjD]
  have hfs : ∀ s, flatD (.str s) = true := fun _ => rfl
  exists hbad, hne, hfs
  rfl
 | none =>
  rw [hb] at hbad
  cases c with
  | add n k l =>
   unfold dCl at hbad
   have hfs : ∀ s, flatD (.str s) = true := fun _ => rfl
   have hput : putKT (.inr n) (.tuple [.str k, dTI (rise l), .none]) (dT dPnt m) = dT dPnt (putM (.inr n) (k, rise l, none) m) := Zcv (f := dPnt) (v := (k, rise l, none))
   exists hbad, hfs, erS, dCl, oSlT, hc2, i2, i3, ZhQ hf.2 hz (Zkv hb), Zeg, Zdo
   refine ZT (by omega) ?_
   exists hput, doM
   exact ⟨rfl, rfl⟩
  | amend n k l =>
   unfold dCl at hbad
   have hfs : ∀ s, flatD (.str s) = true := fun _ => rfl
   have h2 : (lkM (.inr n) m).isSome = true := (Zhl hb).1
   obtain ⟨p, hp⟩ := Ze3 h2
   have hput : putKT (.inr n) (.tuple [.str k, dTI (rise l), dOi p.2.2]) (dT dPnt m) = dT dPnt (putM (.inr n) (k, rise l, p.2.2) m) := Zcv (f := dPnt) (v := (k, rise l, p.2.2))
   have hfl : flatD (dOi p.2.2) = true := by cases p.2.2 <;> rfl
   exists hbad, hfs, erS, dCl, oSlT, hc2, i2, i3, ZhQ hf.2 hz (Zj3 hb), Zeg, Zdo, ZgU, hp, dPnt, hfl
   refine ZT (by omega) ?_
   exists hput, doM, hp
   exact ⟨rfl, rfl⟩
  | date n d =>
   unfold dCl at hbad
   have hfs : ∀ s, flatD (.str s) = true := fun _ => rfl
   have h2 : (lkM (.inr n) m).isSome = true := (Zmu hb).1
   obtain ⟨p, hp⟩ := Ze3 h2
   have hput : putKT (.inr n) (.tuple [.str p.1, dTI p.2.1, dOi d]) (dT dPnt m) = dT dPnt (putM (.inr n) (p.1, p.2.1, d) m) := Zcv (f := dPnt) (v := (p.1, p.2.1, d))
   have hcat : oCatA (.tuple [PyData.str p.1, dTI p.2.1]) (.tuple [dOi d]) = some (.tuple [.str p.1, dTI p.2.1, dOi d]) := rfl
   exists hbad, hfs, erS, dCl, oSlT, hc2, i2, i3, Zdo, ZgU, hp, dPnt, hcat
   refine ZT (by omega) ?_
   exists hput, doM, hp
   exact ⟨rfl, rfl⟩
  | strike n =>
   unfold dCl at hbad
   have hfs : ∀ s, flatD (.str s) = true := fun _ => rfl
   have h2 : (lkM (.inr n) m).isSome = true := Zj7 hb
   obtain ⟨i, hi⟩ := Option.isSome_iff_exists.mp ((Zj0 (f := dPnt) (l := m) (k := .inr n)).trans h2)
   exists hbad, hfs, erS, dCl, oSlT, hc2, hi, Zhg, doM
   rfl
theorem ZkL {r : Int} (h0 : 0 ≤ r) (h1 : r < 26) : oIxS (.str (Str.ofString "abcdefghijklmnopqrstuvwxyz")) (.int r) = some (.str (sg (97 + r.toNat))) := by
 have hls : lenS (Str.ofString "abcdefghijklmnopqrstuvwxyz") = true := by decide +kernel
 have hat := ZrI h0 h1
 rw [← Zgz] at hat
 unfold oIxS
 dsimp only
 rw [if_pos hls, hat]
 rfl
noncomputable def kbs (j : Int) : Str := cutS (Str.ofString "keyblock") none (some j)
theorem ZlY {j : Int} (h0 : 0 ≤ j) (h1 : j < 8) : (kbs j).length ≤ 8 := by
 rcases (show j = 0 ∨ j = 1 ∨ j = 2 ∨ j = 3 ∨ j = 4 ∨ j = 5 ∨ j = 6 ∨ j = 7 by omega) with rfl | rfl | rfl | rfl | rfl | rfl | rfl | rfl <;> decide +kernel
theorem ZqT (j : Int) : oSlS (.str (Str.ofString "keyblock")) none (some j) = some (.str (kbs j)) := by
 have hls : lenS (Str.ofString "keyblock") = true := by decide +kernel
 unfold oSlS
 dsimp only
 rw [if_pos hls]
 rfl
theorem ZnC {a b : Str} (ha : a.length ≤ 50000) (hb : b.length ≤ 50000) : oAddS (.str a) (.str b) = some (.str (a ++ b)) := by
 unfold oAddS
 dsimp only
 rw [if_pos ⟨decide_eq_true ha, decide_eq_true hb⟩]
theorem Zi4 (a b : Str) : (a ++ b).length = a.length + b.length := by
 show (a.cps ++ b.cps).size = _
 rw [Array.size_append]
 rfl
noncomputable def nmAt (r : Int) (k : Nat) : Str := sg (97 + ((r + k) % 26).toNat) ++ kbs ((r + 3 * (k : Int)) % 8)
theorem Zm3 (r : Int) (k : Nat) : (nmAt r k).length ≤ 9 := by
 unfold nmAt
 rw [Zi4]
 have := ZlY (j := (r + 3 * (k : Int)) % 8) (Int.emod_nonneg _ (by decide)) (Int.emod_lt_of_pos _ (by decide))
 have h1 : (sg (97 + ((r + k) % 26).toNat)).length = 1 := rfl
 omega
theorem Zj2 (D : Drw) : ∃ (z : Int) (D' : Drw), f__law_size [D.1] = some (.ok (.leaf (.int z)), [D'.1]) ∧ 1 ≤ z ∧ z ≤ 24 := by
 have d1 := ZR D 24 (by decide) (by decide)
 have d2 := ZR (D.n 24) 6 (by decide) (by decide)
 have d3 := ZR ((D.n 24).n 6) 5 (by decide) (by decide)
 have d4 := ZR (((D.n 24).n 6).n 5) 3 (by decide) (by decide)
 have l1 := Zai D 24 (by decide) (by decide)
 have l2 := Zai (D.n 24) 6 (by decide) (by decide)
 have l3 := Zai ((D.n 24).n 6) 5 (by decide) (by decide)
 have l4 := Zai (((D.n 24).n 6).n 5) 3 (by decide) (by decide)
 have h1 := Zah D 24 (by decide) (by decide)
 have h2 := Zah (D.n 24) 6 (by decide) (by decide)
 have h3 := Zah ((D.n 24).n 6) 5 (by decide) (by decide)
 have h4 := Zah (((D.n 24).n 6).n 5) 3 (by decide) (by decide)
 generalize ((D.n 24).n 6).n 5 = D3 at *
 generalize (D.n 24).n 6 = D2 at *
 generalize D.n 24 = D1 at *
 have hv : ∃ v : Int, L2.atI [PyData.int (1 + D.r 24), .int (1 + D1.r 6), .int (3 + D2.r 5)] (D3.r 3) = some (.int v) ∧ 1 ≤ v ∧ v ≤ 24 := by
  rcases (show D3.r 3 = 0 ∨ D3.r 3 = 1 ∨ D3.r 3 = 2 by omega) with h | h | h
  ·exact ⟨_, by rw [h]; exact ZcH, by omega, by omega⟩
  ·exact ⟨_, by rw [h]; exact Zb4, by omega, by omega⟩
  ·exact ⟨_, by rw [h]; exact Za1, by omega, by omega⟩
 obtain ⟨v, hv, v1, v2⟩ := hv
 refine ⟨v, D3.n 3, ?_, v1, v2⟩
 unfold f__law_size
 refine Zak (ds := []) ?_
 unfold ZdO
 exists d1, d2, d3, d4, hv, Nat.le_refl
theorem Zjd (D : Drw) : f__law_names [D.1] = some (.ok (lstT (((List.range 10).map (nmAt (D.r 26))).map PyData.str)), [(D.n 26).1]) ∧ 0 ≤ D.r 26 ∧ D.r 26 < 26 := by
 have d1 := ZR D 26 (by decide) (by decide)
 have l1 := Zai D 26 (by decide) (by decide)
 have h1 := Zah D 26 (by decide) (by decide)
 refine ⟨?_, l1, h1⟩
 ·unfold f__law_names
  refine Zak (ds := []) ?_
  unfold Zdm
  have hr : rg1 [PyData.int 10] = some ((List.range 10).map fun k : Nat => PyData.int (k : Int)) := rfl
  generalize D.r 26 = r at *
  exists d1
  refine ZeM (fun k : Nat => PyData.int (k : Int)) (List.range 10) (fun k => .str (nmAt r k)) (by simp) ?_ (fun k hk => ?_) ?_
  ·exists hr
  ·have hk := List.mem_range.mp hk
   have e1 := ZkL (r := (r + (k : Int)) % 26) (Int.emod_nonneg _ (by decide)) (Int.emod_lt_of_pos _ (by decide))
   have hm : oMul (.int 3) (.int (k : Int)) = some (.int (3 * (k : Int))) := by
    have hm : cMul 3 ((k : Nat) : Int) = true := ZlI (by decide) (by decide)
    show (if cMul 3 ((k : Nat) : Int) = true then some (PyData.int (3 * (k : Int))) else none) = _
    rw [if_pos hm]
   have m1 : ∀ a : Int, oMod (.int a) (.int 26) = some (.int (a % 26)) := fun a => rfl
   have m2 : ∀ a : Int, oMod (.int a) (.int 8) = some (.int (a % 8)) := fun a => rfl
   have ea : oAddS (.str (sg (97 + ((r + (k : Int)) % 26).toNat))) (.str (kbs ((r + 3 * (k : Int)) % 8))) = some (.str (nmAt r k)) := by
    have := ZlY (j := (r + 3 * (k : Int)) % 8) (Int.emod_nonneg _ (by decide)) (Int.emod_lt_of_pos _ (by decide))
    refine ZnC (by show 1 ≤ 50000; decide) (by omega)
   exists e1, hm, m1, m2, ZqT, ea
  ·have e : PyData.list ((List.range 10).map fun k => PyData.str (nmAt r k)) = .list (((List.range 10).map (nmAt r)).map PyData.str) := by rw [List.map_map]; rfl
   rw [e]
   exists Nat.le_refl
theorem Zkn (D : Drw) : ∃ (ns : List Str) (D' : Drw), f__law_names [D.1] = some (.ok (lstT (ns.map PyData.str)), [D'.1]) ∧ ns.length = 10 ∧ (∀ s ∈ ns, s.length ≤ 9) ∧ ∃ r, 0 ≤ r ∧ r < 26 ∧ ns = (List.range 10).map (nmAt r) := by
 obtain ⟨h1, h2, h3⟩ := Zjd D
 refine ⟨_, _, h1, by simp, fun s hs => ?_, _, h2, h3, rfl⟩
 obtain ⟨k, _, rfl⟩ := List.mem_map.mp hs
 exact Zm3 _ _
theorem Zje (D : Drw) : ∃ (ns : List Str) (D' : Drw), f__law_album_names [D.1] = some (.ok (.leaf (dLS ns)), [D'.1]) ∧ ns.length = 14 ∧ (∀ s ∈ ns, s.length ≤ 9) ∧ ∃ r, 0 ≤ r ∧ r < 26 ∧ ns = (List.range 10).map (nmAt r) ++ ["zz", "zy", "yz", "xxxxxxxx"].map Str.ofString := by
 obtain ⟨ns, D', h1, h2, h3, r, h4, h5, h6⟩ := Zkn D
 refine ⟨ns ++ ["zz", "zy", "yz", "xxxxxxxx"].map Str.ofString, D', ?_, by simp [h2], fun s hs => ?_, r, h4, h5, by rw [h6]⟩
 ·unfold f__law_album_names
  refine Zak (ds := []) ?_
  unfold Zbc
  have e : PyData.list (ns.map PyData.str ++ [PyData.str (Str.ofString "zz"), .str (Str.ofString "zy"), .str (Str.ofString "yz"), .str (Str.ofString "xxxxxxxx")]) = dLS (ns ++ ["zz", "zy", "yz", "xxxxxxxx"].map Str.ofString) := by
   unfold dLS
   rw [List.map_append]
   rfl
  exists h1
  refine ZT (by rw [h2]; decide) ?_
  exists e, Nat.le_refl
 ·rcases List.mem_append.mp hs with hs | hs
  ·exact h3 s hs
  ·simp only [List.map_cons, List.map_nil, List.mem_cons, List.not_mem_nil, or_false] at hs
   rcases hs with rfl | rfl | rfl | rfl <;> decide +kernel
theorem ZkQ {np n : Nat} {kp : Nat → Bool} {s : FS} {as as' : List OT} {T : OT} {e : En} (h : s (start0 n as) = some (.rt T, e)) (h2 : takeA kp as e = some as') (hl : as.length = np := by rfl) : fnI np n kp s as = some (.ok T, as') := by
 unfold fnI
 rw [if_pos hl, h]
 show (takeA kp as e).map _ = _
 rw [h2]
 rfl
theorem ZfC (D : Drw) {z : Int} {m : AM} (h : Mok z m) (z1 : 1 ≤ z) (z2 : z ≤ 24) : ∃ (T : OT) (l : List Int) (D' : Drw), f__law_print_cells [D.1, .leaf (.int z), .node .dct (dT dPnt m)] = some (.ok T, [D'.1, .leaf (.int z), .node .dct (dT dPnt m)]) ∧ T.data = dLI l ∧ Cells z l ∧ l ≠ [] := by
 obtain ⟨ns, T1, hd, hT1, hc⟩ := Znk D.2 z1 z2
 have hlen := hc.len (by omega)
 suffices hs : @Ru _ Zar (start0 7 [D.1, .leaf (.int z), .node .dct (dT dPnt m)]) ⟨fun o e => ∃ (T : OT) (l : List Int) (D' : Drw), o = .rt T ∧ takeA (fun i => Nat.beq i 0 || Nat.beq i 2) [D.1, .leaf (.int z), .node .dct (dT dPnt m)] e = some [D'.1, .leaf (.int z), .node .dct (dT dPnt m)] ∧ T.data = dLI l ∧ Cells z l ∧ l ≠ []⟩ by
  obtain ⟨o, e, h1, T, l, D', rfl, h2, h3⟩ := hs
  exact ⟨T, l, D', ZkQ h1 h2, h3⟩
 let D1 : Drw := ⟨T1, hT1⟩
 have hd : f__law_drawn_cells [D.1, .leaf (.int z)] = some (.ok (lstT (ns.map PyData.int)), [D1.1, .leaf (.int z)]) := hd
 clear_value D1
 have e2 : ∀ l : List Int, oEqD true (.list (l.map PyData.int)) (.list []) = some (.bool (!decide (l = []))) := fun l => Zes true l
 unfold Zar
 refine Zaf (fun e => e = [some D1.1, some (.leaf (.int z)), some (.node .dct (dT dPnt m)), some (.leaf (.list (ns.map PyData.int))), none, none, none]) (by exists hd) ?_
 rintro e rfl
 refine Zaf (fun e => ∃ (D2 : Drw) (l : List Int), ∃ y4 y5 y6, e = [some D2.1, some (.leaf (.int z)), some (.node .dct (dT dPnt m)), some (.leaf (.list (l.map PyData.int))), y4, y5, y6] ∧ Cells z l) ?_ ?_
 ·exists ZhS
  refine Zan (fun hm => ?_) (fun hm => ?_)
  ·have hml : 0 < m.length := by cases m with
    | nil => simp at hm
    | cons => simp
   exists ZR D1 2 (by decide) (by decide)
   refine Zan (fun h1 => ?_) (fun h1 => ?_)
   ·have hl12 := h.len
    have t1 := ZR (D1.n 2) (m.length : Nat) (by omega) (by omega)
    have t2 := Zai (D1.n 2) (m.length : Nat) (by omega) (by omega)
    have t3 := Zah (D1.n 2) (m.length : Nat) (by omega) (by omega)
    obtain ⟨s, p, hs, hp, hpm⟩ := h.at t2 t3
    obtain ⟨hpc, hpn⟩ : Cells z p.2.1 ∧ p.2.1 ≠ [] := h.val _ hpm
    have hpl : (p.2.1.length : Int) ≤ z := hpc.len (by omega)
    have i1 : L2.atI [PyData.str p.1, dTI p.2.1, dOi p.2.2] 1 = some (dTI p.2.1) := Zb4
    have hcl : cList [dTI p.2.1] = some (dLI p.2.1) := rfl
    exists h.sort, ZbX, ZbD, t1, hs, hp, dPnt, i1, ZR ((D1.n 2).n (m.length : Nat)) 3 (by decide) (by decide)
    refine ZT (by rw [List.all_map]; exact List.all_eq_true.mpr fun _ _ => rfl) ?_
    have k3 := ZR ((D1.n 2).n (m.length : Nat)) 3 (by decide) (by decide)
    exists ZbD, t1, hs, ZjV, hp, dPnt, i1, k3
    refine Zan (fun h2 => ?_) (fun h2 => ?_)
    ·exists hcl
     exact ⟨lstT (p.2.1.map PyData.int), p.2.1, _, rfl, rfl, ZcK _, hpc, hpn⟩
    ·generalize ((D1.n 2).n (m.length : Nat)).n 3 = D3 at *
     exists dTI, wipeE
     refine ZT ⟨rfl, by omega⟩ ?_
     exists wipeE
     refine Zik PyData.int p.2.1 (fun pre ys e => ∃ (l : List Int) (D4 : Drw), ys = l.map PyData.int ∧ l.Sublist pre ∧ e = [some D4.1, some (.leaf (.int z)), some (.node .dct (dT dPnt m)), some (.leaf (.list (ns.map PyData.int))), some (.leaf (dTI p.2.1)), none, none]) ⟨[], D3, rfl, List.Sublist.refl _, rfl⟩ ?_ ?_
     ·rintro pre y ⟨post, hpp⟩ ys e ⟨l, D4, rfl, hl, rfl⟩
      exists ZR D4 4 (by decide) (by decide)
      refine Zan (fun hz => ?_) (fun hz => ?_)
      ·exists wipeE
       exact ⟨l ++ [y], D4.n 4, by rw [List.map_append]; rfl, hl.append (List.Sublist.refl _), rfl⟩
      ·exists wipeE
       exact ⟨l, D4.n 4, rfl, hl.trans (List.sublist_append_left _ _), rfl⟩
     ·rintro ys e ⟨l, D4, rfl, hl, rfl⟩
      have hlc : Cells z l := ⟨hpc.1.sublist hl, fun k hk => hpc.2 k (hl.subset hk)⟩
      exists backE, e2
      by_cases hl0 : l = []
      ·have hd0 : decide (l = []) = true := decide_eq_true hl0
       exists backE, e2, hd0, hcl
       exact ⟨D4, p.2.1, _, _, _, rfl, hpc⟩
      ·have hd0 : decide (l = []) = false := decide_eq_false hl0
       exists backE, e2, hd0, hcl
       exact ⟨D4, l, _, _, _, rfl, hlc⟩
   ·exists true_and
    exact ⟨_, _, _, _, _, rfl, hc⟩
  ·exists true_and
   exact ⟨_, _, _, _, _, rfl, hc⟩
 ·rintro e ⟨D2, l, y4, y5, y6, rfl, hl⟩
  by_cases he : l = []
  ·subst he
   have t1 := ZR D2 z (by omega) (by omega)
   have t2 := Zai D2 z (by omega) (by omega)
   have t3 := Zah D2 z (by omega) (by omega)
   have e0 : oEqD true (.list []) (.list []) = some (.bool false) := rfl
   exists e0, t1
   exact ⟨lstT [.int (D2.r z)], [D2.r z], D2.n z, rfl, rfl, ZcK _, ⟨List.pairwise_singleton _ _, fun k hk => by rw [List.mem_singleton.mp hk]; exact ⟨t2, t3⟩⟩, by simp⟩
  ·have hd : decide (l = []) = false := decide_eq_false he
   exists e2, hd
   exact ⟨.leaf (dLI l), l, D2, rfl, rfl, rfl, hl, he⟩
theorem Zms {ns : List Str} {r : Int} (h0 : 0 ≤ r) (h1 : r < (ns.length : Nat)) : ∃ s ∈ ns, L2.atI (ns.map PyData.str) r = some (.str s) := by
 obtain ⟨i, rfl⟩ : ∃ i : Nat, r = (i : Int) := ⟨r.toNat, by omega⟩
 have hi : i < ns.length := by omega
 refine ⟨ns[i], List.getElem_mem hi, ?_⟩
 rw [ZjF]
 have : L2.atI ns (i : Int) = some ns[i] := by
  unfold L2.atI
  rw [ixN_nat hi]
  exact List.getElem?_eq_getElem hi
 rw [this]
 rfl
/-- a call as it is drawn: names of some length -/
noncomputable def Cl.lst : Cl → List Int
 | .add _ _ l => l
 | .amend _ _ l => l
 | _ => []
noncomputable def NmS (s : Str) : Prop := s.length ≤ 1000 ∧ PyData.canLay0 (.str s) = true
theorem Zii {s : Str} (h : nameOk s = true) : NmS s := ⟨by have := Zj8 h; omega, by
 have : PySem.PyData.canLay0 (.str s) = true := ZkJ (n := 0) h
 exact this⟩
theorem Zru : ∀ n, n < 26 → PyData.canLay0 (.str (sg (97 + n))) = true := by decide +kernel
theorem Zek : ∀ l : List Int, PyData.canLayAll0 (l.map PyData.int) = true
 | [] => rfl
 | _ :: r => by rw [List.map_cons, PyData.canLayAll0, Zek r]; rfl
theorem ZoN {n k : Str} {l : List Int} (h1 : PyData.canLay0 (.str n) = true) (h2 : PyData.canLay0 (.str k) = true) : PyData.canLay0 (dCl (.add n k l)) = true := by
 have h3 : PyData.canLay0 (dLI l) = true := by show PyData.canLay0 (.list _) = true; rw [PyData.canLay0]; exact Zek l
 have h0 : PyData.canLay0 (.str (Str.ofString "add")) = true := by decide +kernel
 show PyData.canLay0 (.tuple [_, _, _, _]) = true
 rw [PyData.canLay0, PyData.canLayAll0, PyData.canLayAll0, PyData.canLayAll0, PyData.canLayAll0, h0, h1, h2, h3, PyData.canLayAll0]
 rfl
theorem Zl3 {n k : Str} {l : List Int} (h1 : PyData.canLay0 (.str n) = true) (h2 : PyData.canLay0 (.str k) = true) : PyData.canLay0 (dCl (.amend n k l)) = true := by
 have h3 : PyData.canLay0 (dLI l) = true := by show PyData.canLay0 (.list _) = true; rw [PyData.canLay0]; exact Zek l
 have h0 : PyData.canLay0 (.str (Str.ofString "amend")) = true := by decide +kernel
 show PyData.canLay0 (.tuple [_, _, _, _]) = true
 rw [PyData.canLay0, PyData.canLayAll0, PyData.canLayAll0, PyData.canLayAll0, PyData.canLayAll0, h0, h1, h2, h3, PyData.canLayAll0]
 rfl
theorem ZmB {n : Str} {d : Option Int} (h1 : PyData.canLay0 (.str n) = true) : PyData.canLay0 (dCl (.date n d)) = true := by
 have h3 : PyData.canLay0 (dOi d) = true := by cases d <;> rfl
 have h0 : PyData.canLay0 (.str (Str.ofString "date")) = true := by decide +kernel
 show PyData.canLay0 (.tuple [_, _, _]) = true
 rw [PyData.canLay0, PyData.canLayAll0, PyData.canLayAll0, PyData.canLayAll0, h0, h1, h3, PyData.canLayAll0]
 rfl
theorem Zkb {n : Str} (h1 : PyData.canLay0 (.str n) = true) : PyData.canLay0 (dCl (.strike n)) = true := by
 have h0 : PyData.canLay0 (.str (Str.ofString "strike")) = true := by decide +kernel
 show PyData.canLay0 (.tuple [_, _]) = true
 rw [PyData.canLay0, PyData.canLayAll0, PyData.canLayAll0, h0, h1, PyData.canLayAll0]
 rfl
noncomputable def Cl.good (z : Int) (c : Cl) : Prop := c.fine ∧ (∀ s k l, c = .add s k l → s.length ≤ 1000) ∧ c.lst.length < 64 ∧ PyData.canLay0 (dCl c) = true
theorem Zlm (D : Drw) {z : Int} {m : AM} (h : Mok z m) (z1 : 1 ≤ z) (z2 : z ≤ 24) {ns : List Str} (hn0 : ns ≠ []) (hn1 : ns.length ≤ 100) (hn2 : ∀ s ∈ ns, NmS s) :
  ∃ (c : Cl) (D' : Drw), f__law_album_next [D.1, .leaf (.int z), .node .dct (dT dPnt m), .leaf (dLS ns)] = some (.ok (.leaf (dCl c)), [D'.1, .leaf (.int z), .node .dct (dT dPnt m), .leaf (dLS ns)]) ∧ c.good z := by
 have hnl : 0 < ns.length := List.length_pos_iff.mpr hn0
 have hl12 := h.len
 have hm2 : ∀ s ∈ nms m, NmS s := fun s hs => by
  exact Zii (h.nl (.inr s) (by rw [h.keys]; exact List.mem_map.mpr ⟨s, hs, rfl⟩) s rfl)
 suffices hs : @Ru _ ZaD (start0 7 [D.1, .leaf (.int z), .node .dct (dT dPnt m), .leaf (dLS ns)]) ⟨fun o e => ∃ (c : Cl) (D' : Drw), o = .rt (.leaf (dCl c)) ∧ takeA (fun i => Nat.beq i 0 || Nat.beq i 2) [D.1, .leaf (.int z), .node .dct (dT dPnt m), .leaf (dLS ns)] e = some [D'.1, .leaf (.int z), .node .dct (dT dPnt m), .leaf (dLS ns)] ∧ c.good z⟩ by
  obtain ⟨o, e, h1, c, D', rfl, h2, h3⟩ := hs
  exact ⟨c, D', ZkQ h1 h2, h3⟩
 unfold ZaD
 have t1 := ZR D 9 (by decide) (by decide)
 have t2 := Zai D 9 (by decide) (by decide)
 have t3 := Zah D 9 (by decide) (by decide)
 generalize D.r 9 = w at *
 have u1 := ZR (D.n 9) (ns.length : Nat) (by omega) (by omega)
 have u2 := Zai (D.n 9) (ns.length : Nat) (by omega) (by omega)
 have u3 := Zah (D.n 9) (ns.length : Nat) (by omega) (by omega)
 obtain ⟨s0, hs0, hat0⟩ := Zms u2 u3
 generalize (D.n 9).n (ns.length : Nat) = D2 at *
 have e0 : cLen [dLS ns] = some (.int (ns.length : Nat)) := by
  show cLen [.list (ns.map PyData.str)] = _
  rw [Zib, List.length_map]
 refine Zaf (fun e => e = [some (D.n 9).1, some (.leaf (.int z)), some (.node .dct (dT dPnt m)), some (.leaf (dLS ns)), some (.leaf (.int w)), none, none]) (by exists t1) ?_
 rintro e rfl
 refine Zaf (fun e => e = [some D2.1, some (.leaf (.int z)), some (.node .dct (dT dPnt m)), some (.leaf (dLS ns)), some (.leaf (.int w)), some (.leaf (.str s0)), none]) (by exists e0, u1, hat0) ?_
 rintro e rfl
 refine Zaf (fun e => ∃ (D3 : Drw) (s : Str), e = [some D3.1, some (.leaf (.int z)), some (.node .dct (dT dPnt m)), some (.leaf (dLS ns)), some (.leaf (.int w)), some (.leaf (.str s)), none] ∧ NmS s) ?_ ?_
 ·exists true_and
  refine Zan (fun h1 => ?_) (fun h1 => ?_)
  ·exists ZhS
   refine Zan (fun h2 => ?_) (fun h2 => ?_)
   ·have hml : 0 < m.length := by cases m with
     | nil => simp at h2
     | cons => simp
    have k1 := ZR D2 (m.length : Nat) (by omega) (by omega)
    have k2 := Zai D2 (m.length : Nat) (by omega) (by omega)
    have k3 := Zah D2 (m.length : Nat) (by omega) (by omega)
    obtain ⟨s, p, hs, hp, hpm⟩ := h.at k2 k3
    have hsm : s ∈ nms m := by
     have : (.inr s : Key) ∈ m.map (·.1) := List.mem_map.mpr ⟨_, hpm, rfl⟩
     rw [h.keys] at this
     obtain ⟨s', hs', e⟩ := List.mem_map.mp this
     cases e
     exact hs'
    exists h.sort, ZbX
    refine ZT (by rw [List.all_map]; exact List.all_eq_true.mpr fun _ _ => rfl) ?_
    exists ZbD, k1, hs
    exact ⟨_, s, rfl, hm2 s hsm⟩
   ·exists true_and
    exact ⟨_, s0, rfl, hn2 s0 hs0⟩
  ·exists true_and
   exact ⟨_, s0, rfl, hn2 s0 hs0⟩
 ·rintro e ⟨D3, s, rfl, hsl⟩
  have k1 := ZR D3 26 (by decide) (by decide)
  have k2 := Zai D3 26 (by decide) (by decide)
  have k3 := Zah D3 26 (by decide) (by decide)
  refine Zaf (fun e => e = [some (D3.n 26).1, some (.leaf (.int z)), some (.node .dct (dT dPnt m)), some (.leaf (dLS ns)), some (.leaf (.int w)), some (.leaf (.str s)), some (.leaf (.str (sg (97 + (D3.r 26).toNat))))]) (by exists k1, ZkL k2 k3) ?_
  rintro e rfl
  have hq := Zru (D3.r 26).toNat (by omega)
  generalize 97 + (D3.r 26).toNat = q at *
  generalize D3.n 26 = D4
  obtain ⟨T, l, D5, hp1, hp2, hp3, hp4⟩ := ZfC D4 h z1 z2
  have hpl := hp3.len (by omega)
  have hct : [true, false, true].count true = 2 := rfl
  by_cases w6 : w = 6
  ·subst w6
   exists true_and
   refine ZT ⟨_, rfl⟩ ?_
   exists Zd8, hct, List.take_succ_cons, List.take_zero, List.drop_succ_cons, List.drop_zero, hp1, wvM, uoM, utM, hp2
   exact ⟨.amend s (sg q) l, D5, rfl, rfl, ⟨by show 1 ≤ 1000; decide, by omega⟩, (fun _ _ _ h => by cases h), by show l.length < 64; omega, Zl3 hsl.2 hq⟩
  by_cases w7 : w = 7
  ·subst w7
   have f1 := ZR D4 10000 (by decide) (by decide)
   have f2 := ZR (D4.n 10000) 5 (by decide) (by decide)
   have f3 := ZR ((D4.n 10000).n 5) 3 (by decide) (by decide)
   have l3 := Zai ((D4.n 10000).n 5) 3 (by decide) (by decide)
   have h3 := Zah ((D4.n 10000).n 5) 3 (by decide) (by decide)
   have hv : ∃ d : Option Int, L2.atI [PyData.none, .int (D4.r 10000), .int ((D4.n 10000).r 5)] (((D4.n 10000).n 5).r 3) = some (dOi d) := by
    rcases (show ((D4.n 10000).n 5).r 3 = 0 ∨ ((D4.n 10000).n 5).r 3 = 1 ∨ ((D4.n 10000).n 5).r 3 = 2 by omega) with h | h | h
    ·exact ⟨none, by rw [h]; exact ZcH⟩
    ·exact ⟨some _, by rw [h]; exact Zb4⟩
    ·exact ⟨some _, by rw [h]; exact Za1⟩
   obtain ⟨d, hd⟩ := hv
   have c1 : decide ((7 : Int) = 6) = false := rfl
   exists c1, f1, f2, f3, hd
   exact ⟨.date s d, _, rfl, rfl, trivial, (fun _ _ _ h => by cases h), (by decide : (0 : Nat) < 64), ZmB hsl.2⟩
  by_cases w8 : w = 8
  ·subst w8
   have c1 : decide ((8 : Int) = 6) = false := rfl
   have c2 : decide ((8 : Int) = 7) = false := rfl
   exists c1, c2
   exact ⟨.strike s, _, rfl, rfl, trivial, (fun _ _ _ h => by cases h), (by decide : (0 : Nat) < 64), Zkb hsl.2⟩
  ·have c1 : decide (w = 6) = false := decide_eq_false w6
   have c2 : decide (w = 7) = false := decide_eq_false w7
   have c3 : decide (w = 8) = false := decide_eq_false w8
   exists c1, c2, c3
   refine ZT ⟨_, rfl⟩ ?_
   exists Zd8, hct, List.take_succ_cons, List.take_zero, List.drop_succ_cons, List.drop_zero, hp1, wvM, uoM, utM, hp2
   exact ⟨.add s (sg q) l, D5, rfl, rfl, ⟨by show 1 ≤ 1000; decide, by omega⟩, (fun _ _ _ h => by cases h; exact hsl.1), by show l.length < 64; omega, ZoN hsl.2 hq⟩
theorem Zgd {α : Type} (f : α → PyData) {xs : List α} {r : Int} (h0 : 0 ≤ r) (h1 : r < xs.length) : ∃ x, x ∈ xs ∧ L2.atI (xs.map f) r = some (f x) := by
 obtain ⟨k, rfl⟩ : ∃ k : Nat, r = (k : Int) := ⟨r.toNat, by omega⟩
 have hk : k < xs.length := by omega
 exact ⟨xs[k], List.getElem_mem hk, atI_nat (j := k) (by rw [List.getElem?_map, List.getElem?_eq_getElem hk]; rfl)⟩
theorem Zmk {xs : List Int} {r : Int} (h0 : 0 ≤ r) (h1 : r < xs.length) : ∃ x, x ∈ xs ∧ L2.atI (xs.map PyData.int) r = some (.int x) := Zgd PyData.int h0 h1
theorem Zk7 {i j : Int} (h : i.natAbs ≤ 18446744073709551615) : oMul (.int i) (.int j) = some (.int (i * j)) := by
 show (if cMul _ _ = true then _ else none) = _
 rw [if_pos]
 unfold cMul
 rw [Bool.or_eq_true]
 exact .inl (Nat.ble_eq.mpr h)
theorem ZmH (D : Drw) : ∃ (x : Int) (D' : Drw), f__law_odd [D.1] = some (.ok (.leaf (.int x)), [D'.1]) := by
 have tk9 := ZR D 1000000000 (by decide) (by decide)
 have lo9 := Zai D 1000000000 (by decide) (by decide)
 have hi9 := Zah D 1000000000 (by decide) (by decide)
 generalize D.r 1000000000 = a at *
 generalize D.n 1000000000 = D1 at *
 have tk := ZR D1 9 (by decide) (by decide)
 have lo := Zai D1 9 (by decide) (by decide)
 have hi := Zah D1 9 (by decide) (by decide)
 generalize D1.r 9 = r at *
 generalize D1.n 9 = D2 at *
 obtain ⟨x, _, hx⟩ := Zmk (xs := [-1, 0, 1, 25, 61, a, -1 - a, a * 100000000000000000000, -a * 100000000000000000000]) lo hi
 have hx : L2.atI [PyData.int (-1), PyData.int 0, PyData.int 1, PyData.int 25, PyData.int 61, PyData.int a, PyData.int (-1 - a), PyData.int (a * 100000000000000000000), PyData.int (-a * 100000000000000000000)] r = some (.int x) := hx
 have p9 : oPow (.int 10) (.int 9) = some (.int 1000000000) := rfl
 have p20 : oPow (.int 10) (.int 20) = some (.int 100000000000000000000) := rfl
 have m1 := Zk7 (i := a) (j := 100000000000000000000) (by omega)
 have m2 := Zk7 (i := -a) (j := 100000000000000000000) (by omega)
 refine ⟨x, D2, ?_⟩
 unfold f__law_odd
 refine Zak (ds := []) ?_
 unfold Zee
 exists p9, p20, tk9, m1, m2, tk, hx, Nat.le_refl
inductive Pt
 | i (o : Option Int)
 | s (t : Str)
 | l (xs : List Int)
noncomputable def dPt : Pt → PyData
 | .i o => dOi o
 | .s t => .str t
 | .l xs => dLI xs
noncomputable def Cl.ps : Cl → List Pt
 | .add n k l => [.s n, .s k, .l l]
 | .amend n k l => [.s n, .s k, .l l]
 | .date n d => [.s n, .i d]
 | .strike n => [.s n]
/-- the same kind of part -/
noncomputable def Pt.to (a b : Pt) : Prop := match a, b with
 | .i _, .i _ => True
 | .s _, .s t => t.length ≤ 9
 | .l xs, .l ys => ys.length ≤ 2 * xs.length + 1
 | _, _ => False
noncomputable def Cl.setp (c : Cl) (j : Nat) (p : Pt) : Cl := match c, j, p with
 | .add _ k l, 0, .s n => .add n k l
 | .add n _ l, 1, .s k => .add n k l
 | .add n k _, 2, .l l => .add n k l
 | .amend _ k l, 0, .s n => .amend n k l
 | .amend n _ l, 1, .s k => .amend n k l
 | .amend n k _, 2, .l l => .amend n k l
 | .date _ d, 0, .s n => .date n d
 | .date n _, 1, .i d => .date n d
 | .strike _, 0, .s n => .strike n
 | c, _, _ => c
noncomputable def Cl.word : Cl → PyData
 | .add .. => .str (Str.ofString "add")
 | .amend .. => .str (Str.ofString "amend")
 | .date .. => .str (Str.ofString "date")
 | .strike .. => .str (Str.ofString "strike")
theorem ZgI (c : Cl) : dCl c = .tuple (c.word :: c.ps.map dPt) := by cases c <;> rfl
theorem Zju {c : Cl} {j : Nat} {a b : Pt} (h : c.ps[j]? = some a) (t : a.to b) : (c.setp j b).word = c.word ∧ (c.setp j b).ps = c.ps.set j b := by
 cases c <;> match j, h with
 | 0, h => cases h; cases b <;> first | exact ⟨rfl, rfl⟩ | exact t.elim
 | 1, h => first | (cases h; cases b <;> first | exact ⟨rfl, rfl⟩ | exact t.elim) | cases h
 | 2, h => first | (cases h; cases b <;> first | exact ⟨rfl, rfl⟩ | exact t.elim) | cases h
 | _ + 3, h => cases h
theorem Zrq (c : Cl) : 1 ≤ c.ps.length ∧ c.ps.length ≤ 3 := by cases c <;> simp [Cl.ps]
/-- what may be told of a call that is spoilt -/
noncomputable def Cl.fits (b : Nat) (c : Cl) : Prop := c.lst.length ≤ b ∧ (∀ s k l, c = .add s k l → s.length ≤ 1000 ∧ k.length ≤ 1000) ∧ (∀ s k l, c = .amend s k l → k.length ≤ 1000)
theorem Zch {b : Nat} {n k : Str} {l : List Int} : (Cl.add n k l).fits b ↔ l.length ≤ b ∧ n.length ≤ 1000 ∧ k.length ≤ 1000 :=
 ⟨fun h => ⟨h.1, h.2.1 _ _ _ rfl⟩, fun h => ⟨h.1, fun _ _ _ e => by cases e; exact h.2, fun _ _ _ e => nomatch e⟩⟩
theorem Zbe {b : Nat} {n k : Str} {l : List Int} : (Cl.amend n k l).fits b ↔ l.length ≤ b ∧ k.length ≤ 1000 :=
 ⟨fun h => ⟨h.1, h.2.2 _ _ _ rfl⟩, fun h => ⟨h.1, fun _ _ _ e => (nomatch e), fun _ _ _ e => by cases e; exact h.2⟩⟩
theorem Zhi {b : Nat} {n : Str} {d : Option Int} : (Cl.date n d).fits b := ⟨Nat.zero_le _, fun _ _ _ e => (nomatch e), fun _ _ _ e => nomatch e⟩
theorem Zjh {b : Nat} {n : Str} : (Cl.strike n).fits b := ⟨Nat.zero_le _, fun _ _ _ e => (nomatch e), fun _ _ _ e => nomatch e⟩
theorem ZlX {b : Nat} {c : Cl} (h : c.fits b) (hb : b ≤ 1000) : c.fine ∧ ∀ s k l, c = .add s k l → s.length ≤ 1000 := by
 cases c with
 | add n k l =>
  have h := Zch.mp h
  exact ⟨⟨h.2.2, by omega⟩, fun _ _ _ e => by cases e; exact h.2.1⟩
 | amend n k l =>
  have h := Zbe.mp h
  exact ⟨⟨h.2, by omega⟩, fun _ _ _ e => nomatch e⟩
 | date n d => exact ⟨trivial, fun _ _ _ e => nomatch e⟩
 | strike n => exact ⟨trivial, fun _ _ _ e => nomatch e⟩
theorem ZkV {b : Nat} {c : Cl} {j : Nat} {x y : Pt} (h : c.ps[j]? = some x) (t : x.to y) (f : c.fits b) : (c.setp j y).fits (2 * b + 1) := by
 cases c with
 | add n k l =>
  have f := Zch.mp f
  match j, h with
  | 0, h => cases h; cases y with
   | s u => have t : u.length ≤ 9 := t; exact Zch.mpr ⟨by omega, by omega, f.2.2⟩
   | _ => exact t.elim
  | 1, h => cases h; cases y with
   | s u => have t : u.length ≤ 9 := t; exact Zch.mpr ⟨by omega, f.2.1, by omega⟩
   | _ => exact t.elim
  | 2, h => cases h; cases y with
   | l u => have t : u.length ≤ 2 * l.length + 1 := t; exact Zch.mpr ⟨by omega, f.2⟩
   | _ => exact t.elim
 | amend n k l =>
  have f := Zbe.mp f
  match j, h with
  | 0, h => cases h; cases y with
   | s u => exact Zbe.mpr ⟨by omega, f.2⟩
   | _ => exact t.elim
  | 1, h => cases h; cases y with
   | s u => have t : u.length ≤ 9 := t; exact Zbe.mpr ⟨by omega, by omega⟩
   | _ => exact t.elim
  | 2, h => cases h; cases y with
   | l u => have t : u.length ≤ 2 * l.length + 1 := t; exact Zbe.mpr ⟨by omega, f.2⟩
   | _ => exact t.elim
 | date n d =>
  match j, h with
  | 0, h => cases h; cases y with
   | s u => exact Zhi
   | _ => exact t.elim
  | 1, h => cases h; cases y with
   | i u => exact Zhi
   | _ => exact t.elim
 | strike n =>
  match j, h with
  | 0, h => cases h; cases y with
   | s u => exact Zjh
   | _ => exact t.elim
theorem Zg0 : ∀ ds : List PyData, PyData.canLayAll0 ds = ds.all PyData.canLay0
 | [] => rfl
 | d :: r => by rw [PyData.canLayAll0, Zg0 r]; rfl
theorem Zrx (l : List Int) : PyData.canLay0 (dLI l) = true := by show PyData.canLay0 (.list _) = true; rw [PyData.canLay0]; exact Zek l
theorem Zmt {c : Cl} {j : Nat} {x y : Pt} (h : c.ps[j]? = some x) (t : x.to y) (ly : PyData.canLay0 (dPt y) = true) (lc : PyData.canLay0 (dCl c) = true) : PyData.canLay0 (dCl (c.setp j y)) = true := by
 have hp := Zju h t
 rw [ZgI, PyData.canLay0, PyData.canLayAll0, Zg0, Bool.and_eq_true] at lc
 rw [ZgI, hp.1, hp.2, PyData.canLay0, PyData.canLayAll0, Zg0, lc.1, Bool.true_and, List.all_eq_true]
 intro d hd
 obtain ⟨p, hp2, rfl⟩ := List.mem_map.mp hd
 rcases List.mem_or_eq_of_mem_set hp2 with z | z
 ·exact List.all_eq_true.mp lc.2 _ (List.mem_map.mpr ⟨p, z, rfl⟩)
 ·rw [z]; exact ly
theorem Zfx (D : Drw) (z : Int) (c : Cl) {b : Nat} (hb : b ≤ 400) (f : c.fits b) :
  ∃ (c' : Cl) (D' : Drw), f__law_spoilt_call [D.1, .leaf (.int z), .leaf (dCl c)] = some (.ok (.leaf (dCl c')), [D'.1, .leaf (.int z), .leaf (dCl c)]) ∧ c'.fits (2 * b + 1) ∧ (PyData.canLay0 (dCl c) = true → PyData.canLay0 (dCl c') = true) := by
 obtain ⟨p1, p2⟩ := Zrq c
 have tk := ZR D (c.ps.length : Nat) (by omega) (by omega)
 have lo := Zai D (c.ps.length : Nat) (by omega) (by omega)
 have hi := Zah D (c.ps.length : Nat) (by omega) (by omega)
 generalize D.r (c.ps.length : Nat) = r at *
 generalize D.n (c.ps.length : Nat) = D1 at *
 obtain ⟨j, rfl⟩ : ∃ j : Nat, r = (j : Int) := ⟨r.toNat, by omega⟩
 have hj : j < c.ps.length := by omega
 obtain ⟨x, hx⟩ : ∃ x, c.ps[j]? = some x := ⟨c.ps[j], List.getElem?_eq_getElem hj⟩
 have hat : L2.atI (c.word :: c.ps.map dPt) (1 + (j : Int)) = some (dPt x) := by
  rw [show (1 : Int) + (j : Int) = ((j + 1 : Nat) : Int) by omega]
  exact atI_nat (by rw [List.getElem?_cons_succ, List.getElem?_map, hx]; rfl)
 have hlen : cLen [.tuple (c.word :: c.ps.map dPt)] = some (.int ((c.ps.length + 1 : Nat) : Int)) := by
  rw [ZkP, List.length_cons, List.length_map]
 have hm : (((c.ps.length + 1 : Nat) : Int) - 1) = (c.ps.length : Nat) := by omega
 have hc1 : cutA (c.word :: c.ps.map dPt) none (some (1 + (j : Int))) = c.word :: (c.ps.take j).map dPt := by
  rw [show (1 : Int) + (j : Int) = ((j + 1 : Nat) : Int) by omega, ZbK, List.take_succ_cons, List.map_take]
 have hc2 : cutA (c.word :: c.ps.map dPt) (some (1 + (j : Int) + 1)) none = (c.ps.drop (j + 1)).map dPt := by
  rw [show (1 : Int) + (j : Int) + 1 = ((j + 2 : Nat) : Int) by omega, ZiA, List.drop_succ_cons, List.map_drop]
 have hset : ∀ y, c.word :: ((c.ps.take j).map dPt ++ [dPt y] ++ (c.ps.drop (j + 1)).map dPt) = c.word :: (c.ps.set j y).map dPt := fun y => by
  rw [List.set_eq_take_append_cons_drop, if_pos hj]
  simp
 have l1 : (c.ps.take j).length ≤ 3 := by rw [List.length_take]; omega
 have l2 : (c.ps.drop (j + 1)).length ≤ 3 := by rw [List.length_drop]; omega
 have cat1 : ∀ y, oCatA (.tuple (c.word :: (c.ps.take j).map dPt)) (.tuple [y]) = some (.tuple (c.word :: ((c.ps.take j).map dPt ++ [y]))) := fun y => by
  show (if _ ≤ 100000 then _ else _) = _
  rw [if_pos (by rw [List.length_cons, List.length_map]; show _ + 1 ≤ _; omega)]
  rfl
 have cat2 : ∀ y, oCatA (.tuple (c.word :: ((c.ps.take j).map dPt ++ [dPt y]))) (.tuple ((c.ps.drop (j + 1)).map dPt)) = some (.tuple (c.word :: (c.ps.set j y).map dPt)) := fun y => by
  show (if _ ≤ 100000 then _ else _) = _
  rw [if_pos (by rw [List.length_cons, List.length_append, List.length_map, List.length_map]; show _ + 1 + 1 + _ ≤ _; omega), ← hset y]
  rfl
 have done : ∀ (y : Pt) (D' : Drw), x.to y → PyData.canLay0 (dPt y) = true → @Ru _ ZX (start0 5 [D.1, .leaf (.int z), .leaf (.tuple (c.word :: c.ps.map dPt))]) ⟨retI 3 (.ok (.leaf (.tuple (c.word :: (c.ps.set j y).map dPt)))) D'.1⟩ → ∃ (c' : Cl) (D' : Drw), f__law_spoilt_call [D.1, .leaf (.int z), .leaf (dCl c)] = some (.ok (.leaf (dCl c')), [D'.1, .leaf (.int z), .leaf (dCl c)]) ∧ c'.fits (2 * b + 1) ∧ (PyData.canLay0 (dCl c) = true → PyData.canLay0 (dCl c') = true) := fun y D' t ly h => by
  refine ⟨c.setp j y, D', ?_, ZkV hx t f, Zmt hx t ly⟩
  have hp := Zju hx t
  rw [ZgI c, ZgI (c.setp j y), hp.1, hp.2]
  unfold f__law_spoilt_call
  exact Zak (ds := [.int z, .tuple (c.word :: c.ps.map dPt)]) h
 cases x with
 | i o =>
  obtain ⟨w, D2, ho⟩ := ZmH D1
  have tk6 := ZR D2 6 (by decide) (by decide)
  have lo6 := Zai D2 6 (by decide) (by decide)
  have hi6 := Zah D2 6 (by decide) (by decide)
  obtain ⟨y, _, hy⟩ := Zgd dOi (xs := [some (-1), some 10000, some 9999, some 0, none, some w]) lo6 hi6
  have hy : L2.atI [PyData.int (-1), .int 10000, .int 9999, .int 0, .none, .int w] (D2.r 6) = some (dOi y) := hy
  generalize D2.r 6 = r6 at *
  refine done (.i y) (D2.n 6) trivial (by cases y <;> rfl) ?_
  have cat1 := cat1 (dOi y)
  have cat2 : oCatA (.tuple (c.word :: ((c.ps.take j).map dPt ++ [dOi y]))) (.tuple ((c.ps.drop (j + 1)).map dPt)) = some (.tuple (c.word :: (c.ps.set j (.i y)).map dPt)) := cat2 (.i y)
  cases o with
  | none =>
   have hor : oIsN false .none .none = some (.bool true) := rfl
   have hat : L2.atI (c.word :: c.ps.map dPt) (1 + (j : Int)) = some .none := hat
   unfold ZX
   exists hlen, hm, tk, hat, hor, ho, tk6, hy, hc1, hc2, cat1, cat2, Nat.le_refl
  | some v =>
   have hor : oIsN false (.int v) .none = some (.bool false) := rfl
   have ii : oIsi "int" (.int v) = some (.bool true) := rfl
   have hat : L2.atI (c.word :: c.ps.map dPt) (1 + (j : Int)) = some (.int v) := hat
   unfold ZX
   exists hlen, hm, tk, hat, hor, ii, ho, tk6, hy, hc1, hc2, cat1, cat2, Nat.le_refl
 | s u =>
  have tk6 := ZR D1 6 (by decide) (by decide)
  have lo6 := Zai D1 6 (by decide) (by decide)
  have hi6 := Zah D1 6 (by decide) (by decide)
  obtain ⟨y, hm6, hy⟩ := Zgd PyData.str (xs := ["", "A", "ab", "abcdefghi", "-", "nobody"].map Str.ofString) lo6 hi6
  have hy : L2.atI [PyData.str (Str.ofString ""), .str (Str.ofString "A"), .str (Str.ofString "ab"), .str (Str.ofString "abcdefghi"), .str (Str.ofString "-"), .str (Str.ofString "nobody")] (D1.r 6) = some (.str y) := hy
  generalize D1.r 6 = r6 at *
  have hyl : y.length ≤ 9 ∧ PyData.canLay0 (.str y) = true := by
   have : (["", "A", "ab", "abcdefghi", "-", "nobody"].map Str.ofString).all (fun s => decide (s.length ≤ 9) && PyData.canLay0 (.str s)) = true := by decide +kernel
   have := List.all_eq_true.mp this y hm6
   rw [Bool.and_eq_true] at this
   exact ⟨of_decide_eq_true this.1, this.2⟩
  refine done (.s y) (D1.n 6) hyl.1 hyl.2 ?_
  have cat1 := cat1 (PyData.str y)
  have cat2 : oCatA (.tuple (c.word :: ((c.ps.take j).map dPt ++ [PyData.str y]))) (.tuple ((c.ps.drop (j + 1)).map dPt)) = some (.tuple (c.word :: (c.ps.set j (.s y)).map dPt)) := cat2 (.s y)
  have hat : L2.atI (c.word :: c.ps.map dPt) (1 + (j : Int)) = some (.str u) := hat
  have hor : oIsN false (.str u) .none = some (.bool false) := rfl
  have ii : oIsi "int" (.str u) = some (.bool false) := rfl
  have is : oIsi "str" (.str u) = some (.bool true) := rfl
  unfold ZX
  exists hlen, hm, tk, hat, hor, ii, is, tk6, hy, hc1, hc2, cat1, cat2, Nat.le_refl
 | l xs =>
  have tk5 := ZR D1 5 (by decide) (by decide)
  have lo5 := Zai D1 5 (by decide) (by decide)
  have hi5 := Zah D1 5 (by decide) (by decide)
  have hxl : xs.length ≤ b := by
   have fl := f.1
   cases c <;> match j, hx with
   | 0, h => cases h
   | 1, h => cases h
   | 2, h => first | (cases h; exact fl) | cases h
  obtain ⟨y, hm5, hy⟩ := Zgd dLI (xs := [[], xs ++ [z], xs ++ [-1], xs.reverse ++ xs, [10000000000000000000000000]]) lo5 hi5
  have hy : L2.atI [dLI [], dLI (xs ++ [z]), dLI (xs ++ [-1]), dLI (xs.reverse ++ xs), dLI [10000000000000000000000000]] (D1.r 5) = some (dLI y) := hy
  generalize D1.r 5 = r5 at *
  have hyl : y.length ≤ 2 * xs.length + 1 := by
   simp only [List.mem_cons, List.not_mem_nil, or_false] at hm5
   rcases hm5 with rfl | rfl | rfl | rfl | rfl <;> simp <;> omega
  refine done (.l y) (D1.n 5) hyl (Zrx y) ?_
  have cat1 := cat1 (dLI y)
  have cat2 : oCatA (.tuple (c.word :: ((c.ps.take j).map dPt ++ [dLI y]))) (.tuple ((c.ps.drop (j + 1)).map dPt)) = some (.tuple (c.word :: (c.ps.set j (.l y)).map dPt)) := cat2 (.l y)
  have a1 : xs.map PyData.int ++ [.int z] = (xs ++ [z]).map PyData.int := by rw [List.map_append]; rfl
  have a2 : xs.map PyData.int ++ [.int (-1)] = (xs ++ [-1]).map PyData.int := by rw [List.map_append]; rfl
  have c3 : oRevL (dLI xs) = some (dLI xs.reverse) := by
   show some (PyData.list (xs.map PyData.int).reverse) = _
   rw [← List.map_reverse]
  have c4 : oCat (dLI xs.reverse) (dLI xs) = some (dLI (xs.reverse ++ xs)) := by
   show (if (xs.reverse.map PyData.int).length + (xs.map PyData.int).length ≤ 100000 then some (PyData.list (xs.reverse.map PyData.int ++ xs.map PyData.int)) else none) = _
   rw [if_pos (by rw [List.length_map, List.length_map, List.length_reverse]; omega), ← List.map_append]
  have pw : oPow (.int 10) (.int 25) = some (.int (10000000000000000000000000)) := rfl
  have n0 : (PyData.list []) = dLI [] := rfl
  have hat : L2.atI (c.word :: c.ps.map dPt) (1 + (j : Int)) = some (dLI xs) := hat
  have hor : oIsN false (dLI xs) .none = some (.bool false) := rfl
  have ii : oIsi "int" (dLI xs) = some (.bool false) := rfl
  have is : oIsi "str" (dLI xs) = some (.bool false) := rfl
  have n1 : PyData.list [.int (10000000000000000000000000)] = dLI [10000000000000000000000000] := rfl
  unfold ZX
  exists hlen, hm, tk, hat, hor, ii, is
  refine ZT (by omega) ?_
  exists a1, a2
  refine ZT (by omega) ?_
  exists a1, a2, c3, c4, pw, n0, n1
  refine ZT (by rw [List.length_reverse]; omega) ?_
  have a3 : xs.reverse.map PyData.int ++ xs.map PyData.int = (xs.reverse ++ xs).map PyData.int := by rw [List.map_append]
  have a4 : (xs.map PyData.int).reverse ++ xs.map PyData.int = (xs.reverse ++ xs).map PyData.int := by rw [← List.map_reverse, List.map_append]
  have hy : L2.atI [dLI [], .list (xs.map PyData.int ++ [.int z]), .list (xs.map PyData.int ++ [.int (-1)]), .list ((xs.reverse ++ xs).map PyData.int), dLI [10000000000000000000000000]] r5 = some (dLI y) := by rw [a1, a2]; exact hy
  exists a3, a4, pw, n0, n1, tk5, hy, hc1, hc2, cat1, cat2, Nat.le_refl
theorem rg1A {n : Nat} (h : n ≤ 100000) : rg1 [.int (n : Int)] = some ((List.range n).map fun k : Nat => PyData.int (k : Int)) := by
 show (if okI (n : Int) = true then some (rgI 0 ((n : Int) - 0).toNat) else none) = _
 rw [if_pos (ZlF (by omega) (by omega))]
 unfold rgI
 rw [show ((n : Int) - 0).toNat = n by omega]
 exact congrArg some (List.map_congr_left fun k _ => by show PyData.int ((0 : Int) + k) = _; rw [Int.zero_add])
theorem ZoZ (z : Int) : Mok z [] := ⟨by decide, ⟨[], rfl⟩, fun _ h => (nomatch h), List.nodup_nil, fun _ h => (nomatch h)⟩
theorem Zpx : ∀ n, n < 26 → ∀ k, k < 10 → nameOk (nmAt ((n : Nat) : Int) k) = true := by decide +kernel
theorem Zpq : ∀ n, n < 26 → ((List.range 10).map (nmAt ((n : Nat) : Int))).Nodup := by decide +kernel
theorem Zj9 {r : Int} (h0 : 0 ≤ r) (h1 : r < 26) : (∀ k, k < 10 → nameOk (nmAt r k) = true) ∧ ((List.range 10).map (nmAt r)).Nodup := by
 obtain ⟨n, rfl⟩ : ∃ n : Nat, r = (n : Int) := ⟨r.toNat, by omega⟩
 exact ⟨Zpx n (by omega), Zpq n (by omega)⟩
theorem Zjf (C : Addr) {z : Int} {m : AM} (h : Mok z m) : ZaG C [alT C z m] = some (.ok (lstT ((srtS (nms m)).filterMap fun s => (lkM (.inr s) m).map fun p => PyData.tuple [.str s, .str p.1, dTI p.2.1, dOi p.2.2])), [alT C z m]) := by
 have hl12 := h.len
 have hl : (srtS (nms m)).length ≤ 12 := by rw [(Zaz _).length_eq, h.nlen]; exact hl12
 have hmem : ∀ s ∈ srtS (nms m), ∃ p, lkM (.inr s) m = some p := fun s hs => Zh5 (by rw [h.keys]; exact List.mem_map.mpr ⟨s, (Zaz _).mem_iff.mp hs, rfl⟩)
 unfold ZaG
 refine Zak (ds := []) ?_
 unfold Zcs alT
 exists h.sort, ZbX
 refine ZT (by rw [List.all_map]; exact List.all_eq_true.mpr fun _ _ => rfl) ?_
 exists wipeE
 refine ZT ⟨rfl, by omega⟩ ?_
 exists wipeE
 refine Zik PyData.str (srtS (nms m)) (fun pre ys e => ys = pre.filterMap (fun s => (lkM (.inr s) m).map fun p => PyData.tuple [.str s, .str p.1, dTI p.2.1, dOi p.2.2]) ∧ e = [some (.node (.ins C) [(.fld "field", .leaf (.int z)), (.fld "kept", .node .dct (dT dPnt m))]), none]) ⟨rfl, rfl⟩ ?_ ?_
 ·rintro pre s ⟨post, hp⟩ ys e ⟨rfl, rfl⟩
  obtain ⟨p, hp2⟩ := hmem s (by rw [← hp]; simp)
  have hcat : oCatA (.tuple [.str s]) (.tuple [.str p.1, dTI p.2.1, dOi p.2.2]) = some (.tuple [.str s, .str p.1, dTI p.2.1, dOi p.2.2]) := rfl
  exists hp2, dPnt, hcat, wipeE
  rw [List.filterMap_append, List.filterMap_cons, hp2]
  rfl
 ·rintro ys e ⟨rfl, rfl⟩
  exists backE, Nat.le_refl
theorem Zj6 {z : Int} {m : AM} (h : Mok z m) : f__law_rows_of [.node .dct (dT dPnt m)] = some (.ok (lstT ((srtS (nms m)).filterMap fun s => (lkM (.inr s) m).map fun p => PyData.tuple [.str s, .str p.1, dTI p.2.1, dOi p.2.2])), [.node .dct (dT dPnt m)]) := by
 have hl12 := h.len
 have hl : (srtS (nms m)).length ≤ 12 := by rw [(Zaz _).length_eq, h.nlen]; exact hl12
 have hmem : ∀ s ∈ srtS (nms m), ∃ p, lkM (.inr s) m = some p := fun s hs => Zh5 (by rw [h.keys]; exact List.mem_map.mpr ⟨s, (Zaz _).mem_iff.mp hs, rfl⟩)
 unfold f__law_rows_of
 refine Zak (ds := []) ?_
 unfold Zcn
 exists h.sort, ZbX
 refine ZT (by rw [List.all_map]; exact List.all_eq_true.mpr fun _ _ => rfl) ?_
 exists wipeE
 refine ZT ⟨rfl, by omega⟩ ?_
 exists wipeE
 refine Zik PyData.str (srtS (nms m)) (fun pre ys e => ys = pre.filterMap (fun s => (lkM (.inr s) m).map fun p => PyData.tuple [.str s, .str p.1, dTI p.2.1, dOi p.2.2]) ∧ e = [some (.node .dct (dT dPnt m)), none]) ⟨rfl, rfl⟩ ?_ ?_
 ·rintro pre s ⟨post, hp⟩ ys e ⟨rfl, rfl⟩
  obtain ⟨p, hp2⟩ := hmem s (by rw [← hp]; simp)
  have hcat : oCatA (.tuple [.str s]) (.tuple [.str p.1, dTI p.2.1, dOi p.2.2]) = some (.tuple [.str s, .str p.1, dTI p.2.1, dOi p.2.2]) := rfl
  exists hp2, dPnt, hcat, wipeE
  rw [List.filterMap_append, List.filterMap_cons, hp2]
  rfl
 ·rintro ys e ⟨rfl, rfl⟩
  exists backE, Nat.le_refl
theorem ZmE (cS : Addr) {z : Int} (z1 : 1 ≤ z) (z2 : z ≤ 24) : gR (Zcz cS) [.int z] = some (.inl .none) := Zkh ⟨z, rfl, by unfold sizeB; simp [z1, z2]⟩ fun e ⟨z', h, he⟩ => by
 injection h with h1 _
 injection h1 with h1
 rw [he, ← h1]
 unfold sizeB
 simp [z1, z2]
theorem ZlD (C cS : Addr) {z : Int} (z1 : 1 ≤ z) (z2 : z ≤ 24) : Zap C cS [.node (.ins C) [], .leaf (.int z)] = some (.ok (.leaf .none), [alT C z [], .leaf (.int z)]) := by
 unfold Zap
 refine Zak (ds := [.int z]) ?_
 unfold ZbL alT
 exists ZmE cS z1 z2, rxO, Nat.le_refl
 rfl
theorem Zlq (xs : List Str) (hx : xs.length ≤ 64) {z : Int} {m : AM} (h : Mok z m) (z2 : z ≤ 24) (z1 : 1 ≤ z) : Sm 3 (.list (xs.filterMap fun s => (lkM (.inr s) m).map fun p => PyData.tuple [.str s, .str p.1, dTI p.2.1, dOi p.2.2])) := by
 refine ⟨by have := List.length_filterMap_le (fun s => (lkM (.inr s) m).map fun p => PyData.tuple [.str s, .str p.1, dTI p.2.1, dOi p.2.2]) xs; omega, fun d hd => ?_⟩
 obtain ⟨s, _, hs⟩ := List.mem_filterMap.mp hd
 cases hp : lkM (.inr s) m with
 | none => rw [hp] at hs; cases hs
 | some p =>
  rw [hp] at hs
  cases hs
  obtain ⟨hc, _⟩ : Cells z p.2.1 ∧ p.2.1 ≠ [] := h.val _ (ZgM hp)
  have hl : (p.2.1.length : Int) ≤ z := hc.len (by omega)
  refine ⟨Nat.le_of_ble_eq_true rfl, fun d hd => ?_⟩
  rcases List.mem_cons.mp hd with rfl | hd
  ·exact True.intro
  rcases List.mem_cons.mp hd with rfl | hd
  ·exact True.intro
  rcases List.mem_cons.mp hd with rfl | hd
  ·refine ⟨by rw [List.length_map]; omega, fun d hd => ?_⟩
   obtain ⟨i, _, rfl⟩ := List.mem_map.mp hd
   exact True.intro
  rcases List.mem_cons.mp hd with rfl | hd
  ·cases p.2.2 <;> exact True.intro
  ·cases hd
theorem Zlx {z : Int} {c : Cl} (h : c.good z) : c.fits 63 := ⟨by have := h.2.2.1; omega, fun s k l e => ⟨h.2.1 s k l e, by subst e; exact h.1.1⟩, fun s k l e => by subst e; exact h.1.1⟩
theorem ZmA (l : List Int) : noL (dTI l) = true := by
 show noL (.tuple (l.map PyData.int)) = true
 rw [noL, ZiG, List.all_map]
 exact List.all_eq_true.mpr fun _ _ => rfl
theorem ZpC (p : Pr) : noL (dPnt p) = true := by
 have h1 := ZmA p.2.1
 have h2 : noL (dOi p.2.2) = true := by cases p.2.2 <;> rfl
 show noL (.tuple [.str p.1, dTI p.2.1, dOi p.2.2]) = true
 rw [noL, noLs, noLs, noLs, noLs, h1, h2]
 rfl
theorem ZoJ (m : AM) : noLT (.node .dct (dT dPnt m)) = true := by
 rw [noLT, ZeW]
 unfold dT
 rw [List.all_map]
 exact List.all_eq_true.mpr fun x _ => ZpC x.2
theorem Zo8 (C : Addr) (z : Int) (m : AM) : noLT (alT C z m) = true := by
 unfold alT
 rw [noLT, noLTs, noLTs, noLTs, ZoJ]
 rfl
noncomputable def handT : Cl → OT
 | .add n k l => .node .tup [(.no, .leaf (.str (Str.ofString "add"))), (.no, .leaf (.str n)), (.no, .leaf (.str k)), (.no, lstT (l.map PyData.int))]
 | .amend n k l => .node .tup [(.no, .leaf (.str (Str.ofString "amend"))), (.no, .leaf (.str n)), (.no, .leaf (.str k)), (.no, lstT (l.map PyData.int))]
 | c => .leaf (dCl c)
theorem Zkj (c : Cl) : (handT c).data = dCl c := by
 cases c with
 | add n k l =>
  show OT.data (.node .tup _) = _
  have h := ZcK (ds := l.map PyData.int)
  show PyData.tuple [_, _, _, (lstT (l.map PyData.int)).data] = _
  rw [h]
  rfl
 | amend n k l =>
  show OT.data (.node .tup _) = _
  have h := ZcK (ds := l.map PyData.int)
  show PyData.tuple [_, _, _, (lstT (l.map PyData.int)).data] = _
  rw [h]
  rfl
 | date n d => rfl
 | strike n => rfl
theorem ZiZ (ds : List PyData) : lsLf (lstT ds) = true := by
 show ((oLeafs ds).all fun x => isLf x.2) = true
 unfold oLeafs
 rw [List.all_map]
 exact List.all_eq_true.mpr fun _ _ => rfl
theorem Zks (c : Cl) : lendT (handT c) = true := by
 cases c with
 | add n k l =>
  have h := ZiZ (l.map PyData.int)
  show ((false || (false || (false || (lsLf (lstT (l.map PyData.int)) || false)))) && (true && (true && (true && ((isLf (lstT (l.map PyData.int)) || lsLf (lstT (l.map PyData.int))) && true))))) = true
  rw [h]
  simp
 | amend n k l =>
  have h := ZiZ (l.map PyData.int)
  show ((false || (false || (false || (lsLf (lstT (l.map PyData.int)) || false)))) && (true && (true && (true && ((isLf (lstT (l.map PyData.int)) || lsLf (lstT (l.map PyData.int))) && true))))) = true
  rw [h]
  simp
 | date n d => rfl
 | strike n => rfl
theorem ZiQ : ∀ l : List Int, PyData.depthAll (l.map PyData.int) = 0
 | [] => rfl
 | _ :: r => by rw [List.map_cons, PyData.depthAll, ZiQ r]; rfl
theorem Zjv (a b c : Str) (l : List Int) : PyData.depth (.tuple [.str a, .str b, .str c, dLI l]) ≤ 2 := by
 have h : PyData.depth (dLI l) = 1 := by
  show PyData.depth (.list (l.map PyData.int)) = 1
  rw [PyData.depth, ZiQ]
 rw [PyData.depth, PyData.depthAll, PyData.depthAll, PyData.depthAll, PyData.depthAll, PyData.depthAll, h, PyData.depth, PyData.depth, PyData.depth]
 decide
theorem ZqN (cAlbum cBadCells cBadDay cBadInk cBadName cBadSize cFull cNoPrint cTaken : Addr) (hn : [cBadName, cTaken, cNoPrint, cBadInk, cBadCells, cFull, cBadDay].Nodup) : lawOk 12 (Zgf cAlbum cBadCells cBadDay cBadInk cBadName cBadSize cFull cNoPrint cTaken) := by
 intro T hT
 have main : @Ru _ (Zgf cAlbum cBadCells cBadDay cBadInk cBadName cBadSize cFull cNoPrint cTaken) [none, some T, none, none, none, none, none, none, none, none, none, none] ⟨fun o _ => o = .rt (.leaf (.bool true))⟩ := by
  unfold Zgf
  obtain ⟨z, D1, hz, z1, z2⟩ := Zj2 ⟨T, hT⟩
  have hz : f__law_size [T] = _ := hz
  have hi := ZlD cAlbum cBadSize z1 z2
  obtain ⟨ns, D2, hnm, hl14, _, r, r0, r1, hns⟩ := Zje D1
  have hok : ∀ s ∈ ns, NmS s := by
   intro s hs
   rw [hns] at hs
   rcases List.mem_append.mp hs with hs | hs
   ·obtain ⟨k, hk, rfl⟩ := List.mem_map.mp hs
    exact Zii ((Zj9 r0 r1).1 k (List.mem_range.mp hk))
   ·have h : (["zz", "zy", "yz", "xxxxxxxx"].map Str.ofString).all nameOk = true := by decide +kernel
    exact Zii (List.all_eq_true.mp h s hs)
  have hne : ∀ s : Str, oEq true (.str s) (.str s) = some (.bool false) := fun s => by rw [ZgY]; simp
  have hct : [true, false, true].count true = 2 := rfl
  have hct1 : [false, true, false].count true = 1 := rfl
  have hct4 : [true, false, true, false].count true = 2 := rfl
  have t6 := ZR D2 6 (by decide) (by decide)
  refine Zaf (fun e => e = [none, some D1.1, some (.leaf (.int z)), none, none, none, none, none, none, none, none, none]) (by exists hz) ?_
  rintro _ rfl
  refine Zaf (fun e => e = [none, some D1.1, some (.leaf (.int z)), some (alT cAlbum z []), none, none, none, none, none, none, none, none]) (by exists hi) ?_
  rintro _ rfl
  refine Zaf (fun e => e = [none, some D1.1, some (.leaf (.int z)), some (alT cAlbum z []), some (.node .dct (dT dPnt [])), none, none, none, none, none, none, none]) (by exists true_and; rfl) ?_
  rintro _ rfl
  refine Zaf (fun e => e = [none, some D2.1, some (.leaf (.int z)), some (alT cAlbum z []), some (.node .dct (dT dPnt [])), some (.leaf (dLS ns)), none, none, none, none, none, none]) (by exists hnm) ?_
  rintro _ rfl
  refine Zaf (fun e => ∃ (D : Drw) (m : AM) (y6 y7 : Option OT), Mok z m ∧ e = [none, some D.1, some (.leaf (.int z)), some (alT cAlbum z m), some (.node .dct (dT dPnt m)), some (.leaf (dLS ns)), y6, y7, none, none, none, none]) ?_ ?_
  ·generalize D2.n 6 = D4 at *
   generalize D2.r 6 = r6 at *
   have hsl : ∃ k : Nat, ∃ v w : Int, cInt [.bool (decide (r6 = 0))] = some (.int v) ∧ oMul (.int 12) (.int v) = some (.int w) ∧ oSlL (dLS ns) none (some w) = some (dLS (ns.take k)) := by
    cases decide (r6 = 0) with
    | true => exact ⟨12, 1, 12, rfl, rfl, by
      show some (PyData.list (cutA (ns.map PyData.str) none (some ((12 : Nat) : Int)))) = _
      rw [ZbK, ← List.map_take]⟩
    | false => exact ⟨0, 0, 0, rfl, rfl, by
      show some (PyData.list (cutA (ns.map PyData.str) none (some ((0 : Nat) : Int)))) = _
      rw [ZbK, ← List.map_take]⟩
   obtain ⟨k, v, w, hv, hw, hsl⟩ := hsl
   exists t6, hv, hw, hsl, dLS
   refine Zok PyData.str (ns.take k) (fun _ e => ∃ (D : Drw) (m : AM) (y6 y7 : Option OT), Mok z m ∧ e = [none, some D.1, some (.leaf (.int z)), some (alT cAlbum z m), some (.node .dct (dT dPnt m)), some (.leaf (dLS ns)), y6, y7, none, none, none, none]) ⟨D4, [], _, _, ZoZ z, rfl⟩ ?_ ?_
   ·rintro pre s ⟨post, hps⟩ e ⟨D, m, y6, y7, hm, rfl⟩
    have hs : NmS s := hok s (List.mem_of_mem_take (by rw [← hps]; simp))
    have k3 := ZR D 3 (by decide) (by decide)
    have lo3 := Zai D 3 (by decide) (by decide)
    have hi3 := Zah D 3 (by decide) (by decide)
    have hx : ∃ q : Str, q.length ≤ 1000 ∧ oIxS (.str (Str.ofString "abc")) (.int (D.r 3)) = some (.str q) := by
     have hls : lenS (Str.ofString "abc") = true := by decide +kernel
     have hcp : (Str.ofString "abc").cps.toList = [97, 98, 99] := by decide +kernel
     rcases (show D.r 3 = 0 ∨ D.r 3 = 1 ∨ D.r 3 = 2 by omega) with h | h | h <;> rw [h]
     ·exact ⟨sg 97, by show 1 ≤ 1000; decide, by unfold oIxS; dsimp only; rw [if_pos hls, hcp]; rfl⟩
     ·exact ⟨sg 98, by show 1 ≤ 1000; decide, by unfold oIxS; dsimp only; rw [if_pos hls, hcp]; rfl⟩
     ·exact ⟨sg 99, by show 1 ≤ 1000; decide, by unfold oIxS; dsimp only; rw [if_pos hls, hcp]; rfl⟩
    obtain ⟨q, hq, hx⟩ := hx
    generalize D.r 3 = r3 at *
    generalize D.n 3 = D5 at *
    obtain ⟨T5, l, D6, hp1, hp2, hp3, hp4⟩ := ZfC D5 hm z1 z2
    have hpl := hp3.len (by omega)
    have hm12 := hm.len
    have hf : (Cl.add s q l).fine := ⟨hq, by omega⟩
    have hdid := Ziy cAlbum cBadCells cBadDay cBadInk cBadName cFull cNoPrint cTaken hn z m (.add s q l) hf z2 (fun _ _ _ e => by cases e; exact hs.1) (by omega)
    have hdo := Zh4 z m (.add s q l) hf z2 (fun _ _ _ e => by cases e; exact hs.1) (by omega)
    have hst := hm.step (.add s q l)
    generalize stepM z m (.add s q l) = m2 at *
    generalize bad z m (.add s q l) = bb at *
    have hcl : PyData.tuple [.str (Str.ofString "add"), .str s, .str q, dLI l] = dCl (.add s q l) := rfl
    refine ⟨_, rfl, ?_⟩
    exists k3, hx
    refine ZT ⟨_, rfl⟩ ?_
    exists k3, hx, Zd8, hct, hct1, List.take_succ_cons, List.take_zero, List.drop_succ_cons, List.drop_zero, hp1, wvM, uoM, utM, hp2, hcl, hdid, hdo, hne
    exact ⟨D6, m2, _, _, hst, rfl⟩
   ·rintro e h
    exact h
  rintro _ ⟨D3, m3, y6, y7, hm3, rfl⟩
  have k26 := ZR D3 26 (by decide) (by decide)
  have lo26 := Zai D3 26 (by decide) (by decide)
  have hi26 := Zah D3 26 (by decide) (by decide)
  have hr : rg1 [PyData.int (D3.r 26)] = some ((List.range (D3.r 26).toNat).map fun k : Nat => PyData.int (k : Int)) := by
   have := rg1A (n := (D3.r 26).toNat) (by omega)
   rw [show (((D3.r 26).toNat : Nat) : Int) = D3.r 26 by omega] at this
   exact this
  exists k26, hr
  refine ZjA (fun k : Nat => PyData.int (k : Int)) (List.range (D3.r 26).toNat) (fun _ e => ∃ (D : Drw) (m : AM) (y6 y7 y8 y9 y10 y11 : Option OT), Mok z m ∧ e = [none, some D.1, some (.leaf (.int z)), some (alT cAlbum z m), some (.node .dct (dT dPnt m)), some (.leaf (dLS ns)), y6, y7, y8, y9, y10, y11]) ⟨_, m3, _, _, _, _, _, _, hm3, rfl⟩ ?_ ?_
  ·rintro k x hx e ⟨D, m, y6, y7, y8, y9, y10, y11, hm, rfl⟩
   have hm12 := hm.len
   -- the call drawn
   obtain ⟨c1, D4, hc1, hg1⟩ := Zlm D hm z1 z2 (ns := ns) (by intro h; rw [h] at hl14; cases hl14) (by omega) hok
   refine ⟨_, rfl, ?_⟩
   refine Zaf (fun e => e = [none, some D4.1, some (.leaf (.int z)), some (alT cAlbum z m), some (.node .dct (dT dPnt m)), some (.leaf (dLS ns)), y6, some (.leaf (dCl c1)), some (.leaf (.int (x : Int))), y9, y10, y11]) ?_ ?_
   ·exists true_and
    refine ZT ⟨_, rfl⟩ ?_
    exists Zd8, hct4, List.take_succ_cons, List.take_zero, List.drop_succ_cons, List.drop_zero, hc1, wvM, uoM, utM
   rintro _ rfl
   -- spoilt
   refine Zaf (fun e => ∃ (c : Cl) (D : Drw), (c.fits 255 ∧ PyData.canLay0 (dCl c) = true) ∧ e = [none, some D.1, some (.leaf (.int z)), some (alT cAlbum z m), some (.node .dct (dT dPnt m)), some (.leaf (dLS ns)), y6, some (.leaf (dCl c)), some (.leaf (.int (x : Int))), y9, y10, y11]) ?_ ?_
   ·have hf1 := Zlx hg1
    have q1 := ZR D4 3 (by decide) (by decide)
    generalize D4.r 3 = r4 at *
    generalize D4.n 3 = D5 at *
    exists q1
    refine Zan (fun h1 => ?_) (fun h1 => ?_)
    ·obtain ⟨c2, D6, hs2, hf2, hl2⟩ := Zfx D5 z c1 (by decide : 63 ≤ 400) hf1
     have q2 := ZR D6 3 (by decide) (by decide)
     generalize D6.r 3 = r6 at *
     generalize D6.n 3 = D7 at *
     exists hs2, q2
     refine Zan (fun h2 => ?_) (fun h2 => ?_)
     ·obtain ⟨c3, D8, hs3, hf3, hl3⟩ := Zfx D7 z c2 (by decide : 127 ≤ 400) hf2
      exists hs3
      exact ⟨c3, D8, ⟨hf3, hl3 (hl2 hg1.2.2.2)⟩, rfl⟩
     ·exists true_and
      exact ⟨c2, D7, ⟨⟨by have := hf2.1; omega, hf2.2⟩, hl2 hg1.2.2.2⟩, rfl⟩
    ·exists true_and
     exact ⟨c1, D5, ⟨⟨by have := hf1.1; omega, hf1.2⟩, hg1.2.2.2⟩, rfl⟩
   rintro _ ⟨c, D5, ⟨hfc, hlay⟩, rfl⟩
   -- handed
   refine Zaf (fun e => e = [none, some D5.1, some (.leaf (.int z)), some (alT cAlbum z m), some (.node .dct (dT dPnt m)), some (.leaf (dLS ns)), y6, some (.leaf (dCl c)), some (.leaf (.int (x : Int))), some (.leaf (dCl c)), y10, y11]) (by exists true_and) ?_
   rintro _ rfl
   refine Zaf (fun e => e = [none, some D5.1, some (.leaf (.int z)), some (alT cAlbum z m), some (.node .dct (dT dPnt m)), some (.leaf (dLS ns)), y6, some (.leaf (dCl c)), some (.leaf (.int (x : Int))), some (handT c), y10, y11]) ?_ ?_
   ·have im4 : ∀ a b c d : PyData, L2.atI [a, b, c, d] (-1) = some d := fun _ _ _ _ => rfl
    have im3 : ∀ a b c : PyData, L2.atI [a, b, c] (-1) = some c := fun _ _ _ => rfl
    have im2 : ∀ a b : PyData, L2.atI [a, b] (-1) = some b := fun _ _ => rfl
    have cu4 : ∀ a b c d : PyData, cutA [a, b, c, d] none (some (-1)) = [a, b, c] := fun _ _ _ _ => rfl
    have il : ∀ l : List Int, oIsi "list" (dLI l) = some (.bool true) := fun _ => rfl
    have is : ∀ s : Str, oIsi "list" (.str s) = some (.bool false) := fun _ => rfl
    cases c with
    | add n k l =>
     exists dCl, im4, il, ZhK, cu4
     refine ⟨_, rfl, ?_⟩
     refine ZT ⟨rfl, Nat.le_of_ble_eq_true rfl⟩ ?_
     exists dCl, im4, handT
    | amend n k l =>
     exists dCl, im4, il, ZhK, cu4
     refine ⟨_, rfl, ?_⟩
     refine ZT ⟨rfl, Nat.le_of_ble_eq_true rfl⟩ ?_
     exists dCl, im4, handT
    | date n d =>
     have id : oIsi "list" (dOi d) = some (.bool false) := by cases d <;> rfl
     exists dCl, im3, id, handT
    | strike n => exists dCl, im2, is, handT
   rintro _ rfl
   -- done by the album and by the law
   have hff := ZlX hfc (by decide)
   have hdid := Ziy cAlbum cBadCells cBadDay cBadInk cBadName cFull cNoPrint cTaken hn z m c hff.1 z2 hff.2 (by omega)
   have hdo := Zh4 z m c hff.1 z2 hff.2 (by omega)
   have hst := hm.step c
   have hEq : oEqD true (dCl c) (dCl c) = some (.bool false) := by
    have hd : (dCl c).depth ≤ 64 := by
     cases c with
     | add n k l => exact Nat.le_trans (Zjv _ _ _ l) (by decide)
     | amend n k l => exact Nat.le_trans (Zjv _ _ _ l) (by decide)
     | date n d => cases d <;> exact Nat.le_of_ble_eq_true rfl
     | strike n => exact Nat.le_of_ble_eq_true rfl
    have hs : SeqAt.shaped (dCl c) = true := by
     unfold SeqAt.shaped
     rw [hlay, decide_eq_true hd]
     rfl
    unfold oEqD
    rw [if_pos ⟨hs, hs⟩, SeqAt.eqv_refl _ hlay]
    rfl
   have hal := Zo8 cAlbum z (stepM z m c)
   generalize stepM z m c = m2 at *
   generalize bad z m c = bb at *
   have hdd := Zkj c
   refine Zaf (fun e => e = [none, some D5.1, some (.leaf (.int z)), some (alT cAlbum z m2), some (.node .dct (dT dPnt m2)), some (.leaf (dLS ns)), y6, some (.leaf (dCl c)), some (.leaf (.int (x : Int))), some (handT c), y10, y11]) ?_ ?_
   ·exists true_and
    refine ZmQ (alT cAlbum z m) (handT c) (alT cAlbum z m2) (.leaf (dCl c)) _ _ rfl (Zks c) (by rw [hdd]; exact hdid) rfl hal ?_
    exists hct1, Zd8, List.take_succ_cons, List.take_zero, List.drop_succ_cons, List.drop_zero, hdo, wvM, uoM, utM, hne, hdd, hEq
   rintro _ rfl
   -- the list handed is changed
   refine Zaf (fun e => ∃ y9 : Option OT, e = [none, some D5.1, some (.leaf (.int z)), some (alT cAlbum z m2), some (.node .dct (dT dPnt m2)), some (.leaf (dLS ns)), y6, some (.leaf (dCl c)), some (.leaf (.int (x : Int))), y9, y10, y11]) ?_ ?_
   ·have im4 : ∀ a b c d : PyData, L2.atI [a, b, c, d] (-1) = some d := fun _ _ _ _ => rfl
    have im3 : ∀ a b c : PyData, L2.atI [a, b, c] (-1) = some c := fun _ _ _ => rfl
    have im2 : ∀ a b : PyData, L2.atI [a, b] (-1) = some b := fun _ _ => rfl
    have ix4 : L2.ixN 4 (-1) = some 3 := rfl
    have il : ∀ l : List Int, oIsi "list" (dLI l) = some (.bool true) := fun _ => rfl
    have is : ∀ s : Str, oIsi "list" (.str s) = some (.bool false) := fun _ => rfl
    cases c with
    | add n k l =>
     exists hdd, dCl, im4, il
     exists handT, Znt, Zjy, ix4
     refine ZT (by have := Zch.mp hfc; omega) ?_
     exists true_and
     exact ⟨_, rfl⟩
    | amend n k l =>
     exists hdd, dCl, im4, il
     exists handT, Znt, Zjy, ix4
     refine ZT (by have := Zbe.mp hfc; omega) ?_
     exists true_and
     exact ⟨_, rfl⟩
    | date n d =>
     have id : oIsi "list" (dOi d) = some (.bool false) := by cases d <;> rfl
     exists hdd, dCl, im3, id
     exact ⟨_, rfl⟩
    | strike n =>
     exists hdd, dCl, im2, is
     exact ⟨_, rfl⟩
   rintro _ ⟨y9, rfl⟩
   have hp := Zjf cAlbum hst
   have hrw := Zj6 hst
   have hl2 : (srtS (nms m2)).length ≤ 12 := by rw [(Zaz _).length_eq, hst.nlen]; exact hst.len
   have hsame := ZoA (n := 3) (Zlq (srtS (nms m2)) (by omega) hst z2 z1)
   have hrl := List.length_filterMap_le (fun s => (lkM (.inr s) m2).map fun p => PyData.tuple [.str s, .str p.1, dTI p.2.1, dOi p.2.2]) (srtS (nms m2))
   generalize ((srtS (nms m2)).filterMap fun s => (lkM (.inr s) m2).map fun p => PyData.tuple [.str s, .str p.1, dTI p.2.1, dOi p.2.2]) = rows at *
   have r2 : rg1 [PyData.int 2] = some ((List.range 2).map fun k : Nat => PyData.int (k : Int)) := rg1A (n := 2) (by decide)
   exists r2
   refine ZjA (fun k : Nat => PyData.int (k : Int)) (List.range 2) (fun _ e => ∃ (y10 y11 : Option OT), e = [none, some D5.1, some (.leaf (.int z)), some (alT cAlbum z m2), some (.node .dct (dT dPnt m2)), some (.leaf (dLS ns)), y6, some (.leaf (dCl c)), some (.leaf (.int (x : Int))), y9, y10, y11]) ⟨_, _, rfl⟩ ?_ ?_
   ·rintro k' x' hx' e ⟨y10, y11, rfl⟩
    unfold alT at hp ⊢
    exists hp, hrw, ZrH, hsame, Zqo
    refine ZT (by rw [List.length_reverse, Zgu]; omega) ?_
    exists true_and
    exact ⟨_, _, rfl⟩
   ·rintro e ⟨y10, y11, rfl⟩
    exact ⟨D5, m2, y6, _, _, y9, y10, y11, hst, rfl⟩
  ·rintro e ⟨D, m, y6, y7, y8, y9, y10, y11, hm, rfl⟩
   exists true_and
 obtain ⟨o, e, h1, h2⟩ := main
 subst h2
 exact ⟨e, h1⟩
theorem all_mk {l : PySem.W.OpenLaw} {w : World} {K : PySem.W.Frag} {h : Heap} {mg : Str → Option Value} {fa : Addr} (X : K.In h) (G : h.Ns mainGlobals mg) (hfa : mg "law" = some (.ref fa)) (c0 : hd.obs K = hd.val w) :
  ∃ fd : FuncData, (∀ (s : Shared) (v : Value), BindsTo s fd ⟨[v], []⟩ [("_law_script", v)]) ∧ ∀ base : Heap, K.In base → base.Ns mainGlobals mg → FnOk l.prog w K mg base CX0 7 fa fd ["_law_script"] (spLaw K) := by
 have c := Hd.ok c0
 have A33 := c.glo X G 25 (x := "law") rfl
 have e := hfa.symm.trans A33
 cases e
 have T : Tx mg := ⟨c.free X G 0 (x := "len") rfl, c.free X G 1 (x := "sorted") rfl, c.free X G 2 (x := "set") rfl, c.free X G 3 (x := "dict") rfl, c.free X G 4 (x := "list") rfl, c.free X G 5 (x := "tuple") rfl, c.free X G 6 (x := "range") rfl, c.free X G 7 (x := "enumerate") rfl, c.free X G 8 (x := "zip") rfl, c.free X G 9 (x := "isinstance") rfl, c.free X G 10 (x := "all") rfl, c.free X G 11 (x := "any") rfl, c.free X G 12 (x := "abs") rfl, c.free X G 13 (x := "min") rfl, c.free X G 14 (x := "max") rfl, c.free X G 15 (x := "sum") rfl, c.free X G 16 (x := "int") rfl, c.free X G 17 (x := "bool") rfl, c.free X G 18 (x := "str") rfl⟩
 have EBB : EBase K mg _ := c.base X G 35 rfl rfl
 have yn := c.nd rfl
 have EB_BadName : EB K mg _ "BadName" _ := c.eb X G 27 0 (x := "BadName") rfl rfl rfl
 have EX_BadName := EB_BadName.own
 have EB_Taken : EB K mg _ "Taken" _ := c.eb X G 28 1 (x := "Taken") rfl rfl rfl
 have EX_Taken := EB_Taken.own
 have EB_NoPrint : EB K mg _ "NoPrint" _ := c.eb X G 29 2 (x := "NoPrint") rfl rfl rfl
 have EX_NoPrint := EB_NoPrint.own
 have EB_BadInk : EB K mg _ "BadInk" _ := c.eb X G 30 3 (x := "BadInk") rfl rfl rfl
 have EX_BadInk := EB_BadInk.own
 have EB_BadCells : EB K mg _ "BadCells" _ := c.eb X G 31 4 (x := "BadCells") rfl rfl rfl
 have EX_BadCells := EB_BadCells.own
 have EB_Full : EB K mg _ "Full" _ := c.eb X G 32 5 (x := "Full") rfl rfl rfl
 have EX_Full := EB_Full.own
 have EB_BadDay : EB K mg _ "BadDay" _ := c.eb X G 33 6 (x := "BadDay") rfl rfl rfl
 have EX_BadDay := EB_BadDay.own
 have EX_BadSize : ExC K mg "BadSize" _ := c.exc X G 34 0 (x := "BadSize") rfl rfl
 have CL_Album : Cls K (He.ga K "Album") := c.cls 0 rfl
 have FL_Album : Fls K (He.ga K "Album") fl_Album := ⟨CL_Album, fun f hf => by
  rcases List.mem_cons.mp hf with rfl | hf
  ·exact c.no 0 (x := "Album") rfl
  rcases List.mem_cons.mp hf with rfl | hf
  ·exact c.no 1 (x := "Album") rfl
  cases hf⟩
 have GL_LETTERS : GlV mg "LETTERS" (.str (Str.ofString "abcdefghijklmnopqrstuvwxyz")) := c.str X G 0 rfl
 obtain ⟨fd0, F0⟩ := c.funM 0 (C := "Album") (m := "prints") (q := "Album.prints") Zbl rfl
 obtain ⟨fd1, F1⟩ := c.funG 1 (x := "_law_begin") Zdq rfl
 have A1 := c.glo X G 0 (x := "_law_begin") rfl
 obtain ⟨fd2, F2⟩ := c.funG 2 (x := "_law_take") ZdR rfl
 have A2 := c.glo X G 1 (x := "_law_take") rfl
 obtain ⟨fd3, F3⟩ := c.funG 3 (x := "_law_size") ZdL rfl
 have A3 := c.glo X G 2 (x := "_law_size") rfl
 obtain ⟨fd4, F4⟩ := c.funG 4 (x := "between") ZeX rfl
 have A4 := c.glo X G 3 (x := "between") rfl
 obtain ⟨fd5, F5⟩ := c.funG 5 (x := "need_size") ZdP rfl
 have A5 := c.glo X G 4 (x := "need_size") rfl
 obtain ⟨fd6, F6⟩ := c.funM 6 (C := "Album") (m := "__init__") (q := "Album.__init__") ZbH rfl
 obtain ⟨fd7, F7⟩ := c.funG 7 (x := "_law_names") Zb1 rfl
 have A7 := c.glo X G 5 (x := "_law_names") rfl
 obtain ⟨fd8, F8⟩ := c.funG 8 (x := "_law_album_names") Za0 rfl
 have A8 := c.glo X G 6 (x := "_law_album_names") rfl
 obtain ⟨fd9, F9⟩ := c.funG 9 (x := "_law_drawn_cells") Zav rfl
 have A9 := c.glo X G 7 (x := "_law_drawn_cells") rfl
 obtain ⟨fd10, F10⟩ := c.funG 10 (x := "_law_print_cells") Zau rfl
 have A10 := c.glo X G 8 (x := "_law_print_cells") rfl
 obtain ⟨fd11, F11⟩ := c.funG 11 (x := "_law_album_next") Zbq rfl
 have A11 := c.glo X G 9 (x := "_law_album_next") rfl
 obtain ⟨fd12, F12⟩ := c.funM 12 (C := "Album") (m := "need_print") (q := "Album.need_print") Za3 rfl
 obtain ⟨fd13, F13⟩ := c.funM 13 (C := "Album") (m := "strike") (q := "Album.strike") Zcu rfl
 obtain ⟨fd14, F14⟩ := c.funG 14 (x := "in_field") Zc0 rfl
 have A14 := c.glo X G 10 (x := "in_field") rfl
 obtain ⟨fd15, F15⟩ := c.funM 15 (C := "Album") (m := "need_cells") (q := "Album.need_cells") Zbb rfl
 obtain ⟨fd16, F16⟩ := c.funG 16 (x := "is_name") ZdD rfl
 have A16 := c.glo X G 11 (x := "is_name") rfl
 obtain ⟨fd17, F17⟩ := c.funG 17 (x := "need_name") ZdM rfl
 have A17 := c.glo X G 12 (x := "need_name") rfl
 obtain ⟨fd18, F18⟩ := c.funG 18 (x := "is_ink") Zf1 rfl
 have A18 := c.glo X G 13 (x := "is_ink") rfl
 obtain ⟨fd19, F19⟩ := c.funG 19 (x := "need_ink") Zeq rfl
 have A19 := c.glo X G 14 (x := "need_ink") rfl
 obtain ⟨fd20, F20⟩ := c.funG 20 (x := "rising") Zf4 rfl
 have A20 := c.glo X G 15 (x := "rising") rfl
 obtain ⟨fd21, F21⟩ := c.funM 21 (C := "Album") (m := "add") (q := "Album.add") ZdN rfl
 obtain ⟨fd22, F22⟩ := c.funM 22 (C := "Album") (m := "amend") (q := "Album.amend") ZcP rfl
 obtain ⟨fd23, F23⟩ := c.funM 23 (C := "Album") (m := "date") (q := "Album.date") Zda rfl
 obtain ⟨fd24, F24⟩ := c.funG 24 (x := "_law_album_call") Zbp rfl
 have A24 := c.glo X G 16 (x := "_law_album_call") rfl
 obtain ⟨fd25, F25⟩ := c.funG 25 (x := "_law_album_did") ZbE rfl
 have A25 := c.glo X G 17 (x := "_law_album_did") rfl
 obtain ⟨fd26, F26⟩ := c.funG 26 (x := "_law_name_ok") Zbj rfl
 have A26 := c.glo X G 18 (x := "_law_name_ok") rfl
 obtain ⟨fd27, F27⟩ := c.funG 27 (x := "_law_album_bad") ZaR rfl
 have A27 := c.glo X G 19 (x := "_law_album_bad") rfl
 obtain ⟨fd28, F28⟩ := c.funG 28 (x := "_law_album_do") Zb7 rfl
 have A28 := c.glo X G 20 (x := "_law_album_do") rfl
 obtain ⟨fd29, F29⟩ := c.funG 29 (x := "_law_odd") Zer rfl
 have A29 := c.glo X G 21 (x := "_law_odd") rfl
 obtain ⟨fd30, F30⟩ := c.funG 30 (x := "_law_spoilt_call") Za2 rfl
 have A30 := c.glo X G 22 (x := "_law_spoilt_call") rfl
 obtain ⟨fd31, F31⟩ := c.funG 31 (x := "_law_same") Zby rfl
 have A31 := c.glo X G 23 (x := "_law_same") rfl
 obtain ⟨fd32, F32⟩ := c.funG 32 (x := "_law_rows_of") Zbo rfl
 have A32 := c.glo X G 24 (x := "_law_rows_of") rfl
 obtain ⟨kV, doc, pm, an, cdv, ct, F33⟩ := c.lawF 33 (x := "law") Zfl rfl
 refine ⟨PySem.W.fnOf "law" "law" (defArgs Zfl) (defBody Zfl) (defScope Zfl) .none kV doc pm an cdv ct, fun s v => .of_eq rfl, fun base _ _ => ?_⟩
 have C_Album_prints : CalM l.prog w K mg base (He.ga K "Album") "prints" _ _ _ := ⟨_, _, (ZgD (P := l.prog) (w := w) (base := base) T F0 FL_Album), CL_Album, ⟨c.mA 0 (x := "Album") rfl, c.mF 0 (x := "Album") (m := "prints") rfl, F0.kp⟩, (F0.binds (ps := Zbm) fun _ _ _ _ _ _ us hl => ll1 us hl fun _ => rfl)⟩
 have C__law_begin := ZY (x := "_law_begin") (Zhv (P := l.prog) (w := w) (base := base) T F1) A1 F1.kp (F1.binds (ps := Zb2) fun _ _ _ _ _ _ us hl => ll1 us hl fun _ => rfl)
 have C__law_take := ZY (x := "_law_take") (Zia (P := l.prog) (w := w) (base := base) T F2) A2 F2.kp (F2.binds (ps := Z1) fun _ _ _ _ _ _ us hl => ll2 us hl fun _ _ => rfl)
 have C__law_size := ZY (x := "_law_size") (Zid (P := l.prog) (w := w) (base := base) T F3 C__law_take) A3 F3.kp (F3.binds (ps := ZcA) fun _ _ _ _ _ _ us hl => ll1 us hl fun _ => rfl)
 have C_between := ZY (x := "between") (Zky (P := l.prog) (w := w) (base := base) T F4) A4 F4.kp (F4.binds (ps := ZbO) fun _ _ _ _ _ _ us hl => ll3 us hl fun _ _ _ => rfl)
 have C_need_size := Zfk (x := "need_size") (ZiW (P := l.prog) (w := w) (base := base) T F5 C_between EX_BadSize) A5 F5.kp (F5.binds (ps := ZcC) fun _ _ _ _ _ _ us hl => ll1 us hl fun _ => rfl)
 have C_Album : CalN l.prog w K mg base "Album" (He.ga K "Album") _ _ _ := ⟨_, _, (Zft (P := l.prog) (w := w) (base := base) T F6 C_need_size FL_Album), ⟨c.mks 0 rfl, c.mA 1 (x := "Album") rfl, c.mF 1 (x := "Album") (m := "__init__") rfl, c.kc 0 (x := "Album") rfl⟩, c.glo X G 26 (x := "Album") rfl, (F6.binds (ps := ZaO) fun _ _ _ _ _ _ us hl => ll2 us hl fun _ _ => rfl)⟩
 have C__law_names := ZY (x := "_law_names") (Zhw (P := l.prog) (w := w) (base := base) T F7 C__law_take) A7 F7.kp (F7.binds (ps := Zb6) fun _ _ _ _ _ _ us hl => ll1 us hl fun _ => rfl)
 have C__law_album_names := ZY (x := "_law_album_names") (ZeD (P := l.prog) (w := w) (base := base) T F8 C__law_names) A8 F8.kp (F8.binds (ps := Zat) fun _ _ _ _ _ _ us hl => ll1 us hl fun _ => rfl)
 have C__law_drawn_cells := ZY (x := "_law_drawn_cells") (ZeB (P := l.prog) (w := w) (base := base) T F9 C__law_take) A9 F9.kp (F9.binds (ps := Zaw) fun _ _ _ _ _ _ us hl => ll2 us hl fun _ _ => rfl)
 have C__law_print_cells := ZY (x := "_law_print_cells") (ZeF (P := l.prog) (w := w) (base := base) T F10 C__law_drawn_cells C__law_take) A10 F10.kp (F10.binds (ps := Zae) fun _ _ _ _ _ _ us hl => ll3 us hl fun _ _ _ => rfl)
 have C__law_album_next := ZY (x := "_law_album_next") (ZeJ (P := l.prog) (w := w) (base := base) T F11 C__law_take C__law_print_cells) A11 F11.kp (F11.binds (ps := ZaC) fun _ _ _ _ _ _ us hl => ll4 us hl fun _ _ _ _ => rfl)
 have C_Album_need_print : CalMX l.prog w K mg base (He.ga K "Album") "need_print" _ _ _ := ⟨_, _, (ZeC (P := l.prog) (w := w) (base := base) T F12 EX_NoPrint FL_Album), CL_Album, ⟨c.mA 2 (x := "Album") rfl, c.mF 2 (x := "Album") (m := "need_print") rfl, F12.kp⟩, (F12.binds (ps := Z5) fun _ _ _ _ _ _ us hl => ll2 us hl fun _ _ => rfl)⟩
 have C_Album_strike : CalMX l.prog w K mg base (He.ga K "Album") "strike" _ _ _ := ⟨_, _, (Zgg (P := l.prog) (w := w) (base := base) T F13 C_Album_need_print FL_Album), CL_Album, ⟨c.mA 3 (x := "Album") rfl, c.mF 3 (x := "Album") (m := "strike") rfl, F13.kp⟩, (F13.binds (ps := Zbg) fun _ _ _ _ _ _ us hl => ll2 us hl fun _ _ => rfl)⟩
 have C_in_field := ZY (x := "in_field") (Zi6 (P := l.prog) (w := w) (base := base) T F14) A14 F14.kp (F14.binds (ps := Zc2) fun _ _ _ _ _ _ us hl => ll2 us hl fun _ _ => rfl)
 have C_Album_need_cells : CalMX l.prog w K mg base (He.ga K "Album") "need_cells" _ _ _ := ⟨_, _, (ZeE (P := l.prog) (w := w) (base := base) T F15 C_in_field EX_BadCells FL_Album), CL_Album, ⟨c.mA 4 (x := "Album") rfl, c.mF 4 (x := "Album") (m := "need_cells") rfl, F15.kp⟩, (F15.binds (ps := Zad) fun _ _ _ _ _ _ us hl => ll2 us hl fun _ _ => rfl)⟩
 have C_is_name := ZY (x := "is_name") (Zkt (P := l.prog) (w := w) (base := base) T F16 C_between GL_LETTERS) A16 F16.kp (F16.binds (ps := ZdB) fun _ _ _ _ _ _ us hl => ll1 us hl fun _ => rfl)
 have C_need_name := Zfk (x := "need_name") (ZhV (P := l.prog) (w := w) (base := base) T F17 C_is_name EX_BadName) A17 F17.kp (F17.binds (ps := Zcx) fun _ _ _ _ _ _ us hl => ll1 us hl fun _ => rfl)
 have C_is_ink := ZY (x := "is_ink") (ZkU (P := l.prog) (w := w) (base := base) T F18 GL_LETTERS) A18 F18.kp (F18.binds (ps := Zet) fun _ _ _ _ _ _ us hl => ll1 us hl fun _ => rfl)
 have C_need_ink := Zfk (x := "need_ink") (Zi9 (P := l.prog) (w := w) (base := base) T F19 C_is_ink EX_BadInk) A19 F19.kp (F19.binds (ps := ZbT) fun _ _ _ _ _ _ us hl => ll1 us hl fun _ => rfl)
 have C_rising := ZY (x := "rising") (ZlC (P := l.prog) (w := w) (base := base) T F20) A20 F20.kp (F20.binds (ps := Zdu) fun _ _ _ _ _ _ us hl => ll1 us hl fun _ => rfl)
 have C_Album_add : CalMX l.prog w K mg base (He.ga K "Album") "add" _ _ _ := ⟨_, _, (ZiV (P := l.prog) (w := w) (base := base) T F21 C_Album_need_cells C_need_name C_need_ink C_rising EX_Taken EX_Full FL_Album), CL_Album, ⟨c.mA 5 (x := "Album") rfl, c.mF 5 (x := "Album") (m := "add") rfl, F21.kp⟩, (F21.binds (ps := ZcE) fun _ _ _ _ _ _ us hl => ll4 us hl fun _ _ _ _ => rfl)⟩
 have C_Album_amend : CalMX l.prog w K mg base (He.ga K "Album") "amend" _ _ _ := ⟨_, _, (ZgZ (P := l.prog) (w := w) (base := base) T F22 C_Album_need_print C_Album_need_cells C_need_ink C_rising FL_Album), CL_Album, ⟨c.mA 6 (x := "Album") rfl, c.mF 6 (x := "Album") (m := "amend") rfl, F22.kp⟩, (F22.binds (ps := ZbB) fun _ _ _ _ _ _ us hl => ll4 us hl fun _ _ _ _ => rfl)⟩
 have C_Album_date : CalMX l.prog w K mg base (He.ga K "Album") "date" _ _ _ := ⟨_, _, (Zht (P := l.prog) (w := w) (base := base) T F23 C_Album_need_print C_between EX_BadDay FL_Album), CL_Album, ⟨c.mA 7 (x := "Album") rfl, c.mF 7 (x := "Album") (m := "date") rfl, F23.kp⟩, (F23.binds (ps := ZbS) fun _ _ _ _ _ _ us hl => ll3 us hl fun _ _ _ => rfl)⟩
 have C__law_album_call := Zfk (x := "_law_album_call") (ZeH (P := l.prog) (w := w) (base := base) T F24 C_Album_strike C_Album_add C_Album_amend C_Album_date) A24 F24.kp (F24.binds (ps := ZaB) fun _ _ _ _ _ _ us hl => ll2 us hl fun _ _ => rfl)
 have C__law_album_did := ZY (x := "_law_album_did") (Zfs (P := l.prog) (w := w) (base := base) T F25 C__law_album_call EBB EB_BadName EB_Taken EB_NoPrint EB_BadInk EB_BadCells EB_Full EB_BadDay yn) A25 F25.kp (F25.binds (ps := ZaS) fun _ _ _ _ _ _ us hl => ll2 us hl fun _ _ => rfl)
 have C__law_name_ok := ZY (x := "_law_name_ok") (Zgj (P := l.prog) (w := w) (base := base) T F26) A26 F26.kp (F26.binds (ps := Zbf) fun _ _ _ _ _ _ us hl => ll1 us hl fun _ => rfl)
 have C__law_album_bad := ZY (x := "_law_album_bad") (Zfv (P := l.prog) (w := w) (base := base) T F27 C__law_name_ok) A27 F27.kp (F27.binds (ps := ZaN) fun _ _ _ _ _ _ us hl => ll3 us hl fun _ _ _ => rfl)
 have C__law_album_do := ZY (x := "_law_album_do") (ZfS (P := l.prog) (w := w) (base := base) T F28 C__law_album_bad) A28 F28.kp (F28.binds (ps := ZaX) fun _ _ _ _ _ _ us hl => ll3 us hl fun _ _ _ => rfl)
 have C__law_odd := ZY (x := "_law_odd") (Zi7 (P := l.prog) (w := w) (base := base) T F29 C__law_take) A29 F29.kp (F29.binds (ps := Zc1) fun _ _ _ _ _ _ us hl => ll1 us hl fun _ => rfl)
 have C__law_spoilt_call := ZY (x := "_law_spoilt_call") (ZeG (P := l.prog) (w := w) (base := base) T F30 C__law_take C__law_odd) A30 F30.kp (F30.binds (ps := Zay) fun _ _ _ _ _ _ us hl => ll3 us hl fun _ _ _ => rfl)
 have B_same := F31.binds (ps := ZaA) fun _ _ _ _ _ _ us hl => ll2 us hl fun _ _ => rfl
 have C__law_same := ZY (x := "_law_same") (ZeZ (P := l.prog) (w := w) (base := base) T F31 A31 B_same 4) A31 F31.kp B_same
 have C__law_rows_of := ZY (x := "_law_rows_of") (Zgo (P := l.prog) (w := w) (base := base) T F32) A32 F32.kp (F32.binds (ps := Zbk) fun _ _ _ _ _ _ us hl => ll1 us hl fun _ => rfl)
 exact ZpY T F33 C_Album_prints C__law_begin C__law_size C_Album C__law_album_names C__law_take C__law_album_next C__law_print_cells C__law_album_did C__law_album_do C__law_spoilt_call C__law_same C__law_rows_of (ZqN _ _ _ _ _ _ _ _ _ (List.nodup_cons.mp yn).2)
end Kb
open PySem PySem.W PySem.Calls PyProof.Rows
set_option maxRecDepth 100000 in
set_option maxHeartbeats 0 in
theorem PySem.Challenge.cw_keyblock_k36_impressions_kept_holds : PySem.Challenge.rw_keyblock_k36_impressions_kept.Holds := by
 w_on; o_law
 refine HandSHeadRun.head_any (r := OpenLaw.row PySem.Challenge.rw_keyblock_k36_impressions_kept) (q := view (OpenLaw.row PySem.Challenge.rw_keyblock_k36_impressions_kept).prog [42]) (H := Kb.hd.hook Kb.hdAs) (ob := Kb.hd.ob Kb.hdAs) (M := 3685) (loose := Kb.hdNm) (d := HandSHeadRun.topDef (OpenLaw.row PySem.Challenge.rw_keyblock_k36_impressions_kept).prog 42) (kwd := []) (Kb.Hd.ob_eq Kb.hd Kb.hdAs)
  (by kernel_rfl) (fun s => by kernel_rfl) Kb.hdRun (by kernel_rfl) (by kernel_rfl) (by kernel_rfl) (by rfl) (by first | assumption | decide +kernel) (by decide +kernel) ⟨rfl, rfl, rfl, rfl, rfl, by decide +kernel⟩ ?hw ?hc
 case hw => w_witness2
 case hc =>
  refine L2.walk_ofE (l := PySem.Challenge.rw_keyblock_k36_impressions_kept) (n := 63) (k := 7) (x := "_law_script") (CX := L2.CX0) rfl (by decide) (by kernel_rfl) ⟨rfl, by decide, by decide⟩ ?F (fun _ _ _ _ z => z)
  intro w mg fa h Y G hmg0
  obtain ⟨K, KX, c⟩ := Y
  have hmg : mg ("law" : PySem.Str) = some (.ref fa) := by
   have e : (HandSHeadRun.topDef (OpenLaw.row PySem.Challenge.rw_keyblock_k36_impressions_kept).prog 42).name = ("law" : PySem.Str) := by kernel_rfl
   rw [← e]
   exact hmg0
  obtain ⟨fd, hb, hF⟩ := Kb.all_mk (l := PySem.Challenge.rw_keyblock_k36_impressions_kept) (w := w) KX G hmg c
  exact ⟨K, fd, Kb.spLaw K, KX, hb, fun H a ns hl _ hS => ⟨a, ns, rfl, hS, hl, fun _ => rfl⟩, hF⟩