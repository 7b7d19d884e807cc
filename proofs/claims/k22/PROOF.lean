import PyProof.Rows.All
import Wide.All
import OpenK.AllK
import Wide.FinOn
import HandS.Head2
import HandS.HeadEnd
import HandS.HeadHook3
import HandS.Words
import HandS.ForMost
import HandS.SetFor
import HandS.Strs
import PyProof.SeqRoads2
import HandS.Evl
import HandS.Walk
import HandS.Conv
import HandS.Style
import HandS.IsInst
import HandS.SortInts
import HandS.Zip
import PyProof.ListStr
import HandS.SetTxt0
import PyProof.EnumMake
import PyProof.Draws
import KE.KRevSl
import HandS.TupSets
import KE.SortKeyed
import HandS.WordsExc
import HandS.TryOnly
import HandS.Deep
import HandS.ExcIs
import KE.SortData
import PyProof.WalksMore
import PyProof.FactsAll.subtypes_4
import HandS.TupAny
import HandS.DictComp
import KE.DataMinMax
import HandS.SortKw
import HandS.HotCalls
import HandS.ExcInitHot
import KE.DataFind
import KE.GoesRaise
import PySem.Challenge.RW_keyblock_k22_shops_opened
set_option Elab.async false
set_option linter.all false
set_option maxRecDepth 100000
set_option maxHeartbeats 4000000
namespace Kb
open PySem PySem.Spec PyProof.Rows L2
structure Hd where
 al : List (Str × Str)
 g : List Str
 m : List (Str × Str)
 c : List Str
 n : List (Str × Str)
 x : List Str
 e : List Str
 b : Bool
 i : List (Str × Int)
 s : List (Str × Str)
 t : List (Str × List Int)
 d : List (Str × List (String × Int))
 f : List Str
 fn : List He.FnD
noncomputable abbrev AlX : Type := Bool × List He.FnV × List (Option (List (Option (Str × Int))))
noncomputable def fnG (x : Str) (st : Stmt) : He.FnD := ⟨(x, none), x, x, defArgs st, defBody st, defScope st⟩
noncomputable def fnM (C m q : Str) (st : Stmt) : He.FnD := ⟨(C, some m), m, q, defArgs st, defBody st, defScope st⟩
noncomputable def tabB : List DictEntry → List (String × Int) → Bool
 | [], [] => true
 | e :: es, (k, i) :: ts => (match e.key, e.val with
  | .str z _, .int j _ => decide (z = Str.ofString k) && decide (i = j)
  | _, _ => false) && tabB es ts
 | _, _ => false
noncomputable def tabAtB (K : PySem.W.Frag) (x : Str) (ts : List (String × Int)) : Bool := match K.lookup (He.ga K x) with
 | some ⟨_, _, .dict es _, _⟩ => tabB es.toList ts
 | _ => false
noncomputable def gB (K : PySem.W.Frag) (x : Str) : Bool := He.eqO (PySem.W.nsIn K mainGlobals x) (some (some (.ref (He.ga K x))))
noncomputable def mB (K : PySem.W.Frag) (p : Str × Str) : Bool := He.eqO (PySem.W.findIn K (.ref (He.ga K p.1)) p.2) (some (some (.ref (He.ma K (He.ga K p.1) p.2)))) && PySem.W.isFn K (.ref (He.ma K (He.ga K p.1) p.2))
noncomputable def cB (K : PySem.W.Frag) (x : Str) : Bool := (He.Fa.cls x).ok K && (PySem.W.makesIn K (He.ga K x) && PySem.W.keepIn K (.ref (He.ga K x)))
noncomputable def xB (K : PySem.W.Frag) (x : Str) : Bool := (He.Fa.exc x).ok K && (PySem.W.isClsIn K (He.ga K x) && decide (PySem.W.subIn K (.ref (He.ga K x)) (.ref (He.ga K x)) = some true))
noncomputable def eB (K : PySem.W.Frag) (x : Str) : Bool := (He.Fa.exc x).ok K && ((match PySem.W.clsIn K (He.ga K x) with
  | some cd => decide (cd.mro = [.ref (He.ga K x), .ref (He.ga K "BlockError"), .type "ValueError", .type "Exception", .type "BaseException", .type "object"])
  | none => false) && (He.eqO (PySem.W.findIn K (.ref (He.ga K x)) "__getattribute__") (some (some (.builtin "BaseException.__getattribute__"))) && (He.eqO (PySem.W.findIn K (.ref (He.ga K x)) "__getattr__") (some none) &&
  (PySem.W.hasDictIn K (He.ga K x) && He.eqO (PySem.W.findIn K (.ref (He.ga K x)) "__class__") (some (some (.builtin "object.__class__")))))))
noncomputable def bB (K : PySem.W.Frag) : Bool := PySem.W.isClsIn K (He.ga K "BlockError") && (decide (PySem.W.subIn K (.ref (He.ga K "BlockError")) (.type "BaseException") = some true) && (decide (PySem.W.typeIn K (.ref (He.ga K "BlockError")) = some (.type "type")) &&
 (He.eqO (PySem.W.specialIn K (.builtin "object.__class__") "__get__") (some (some (.builtin "getset_descriptor.__get__"))) && decide (PySem.W.takesIn K (.builtin "object.__class__") = some true))))
noncomputable def Hd.chk (h : Hd) (K : PySem.W.Frag) : Bool :=
 h.al.all (fun p => He.eqO (PySem.W.nsIn K mainGlobals p.1) (some (some (.ref (He.ga K p.2))))) && (h.g.all (gB K) && (h.m.all (mB K) && (h.c.all (cB K) && (h.n.all (fun p => He.eqO (PySem.W.findIn K (.ref (He.ga K p.1)) p.2) (some none)) && (h.x.all (xB K) && (h.e.all (eB K) && ((!h.b || (bB K && decide (((He.ga K "BlockError") :: h.e.map (He.ga K)).Nodup))) &&
 (h.i.all (fun p => (He.Fa.int p.1 p.2).ok K) && (h.s.all (fun p => (He.Fa.str p.1 p.2).ok K) && (h.t.all (fun p => He.tupB K p.1 (p.2.map He.Dv.int)) && (h.d.all (fun p => tabAtB K p.1 p.2) && (h.f.all (fun x => (He.Fa.free x).ok K) &&
 h.fn.all (fun d => (He.Fa.code d.at_ d.qual).ok K && PySem.W.keepIn K (.ref (He.fAd K d.at_)))))))))))))))
noncomputable def Hd.obs (h : Hd) (K : PySem.W.Frag) : AlX := (h.chk K, h.fn.map fun d => He.fnObs K d.at_, h.d.map fun t => He.dicW K (He.ga K t.1))
noncomputable def Hd.val (h : Hd) (w : World) : AlX := (true, h.fn.map He.FnD.val, h.d.map fun t => some (He.keysIn w.params (t.2.map fun q => Str.ofString q.1)))
noncomputable def Hd.hook (h : Hd) (as : List Addr) : PySem.W.Hook where
 α := AlX
 obs := fun s => h.obs (He.frG s.heap.get? as)
 val := fun w => h.val w
 says := fun w hp => ∃ K : PySem.W.Frag, K.In hp ∧ h.obs K = h.val w
 of := fun _ _ e => ⟨_, He.frG_in, e⟩
 keeps := fun _ _ _ ⟨K, hK, c⟩ k => ⟨K, PySem.W.Frag.In.keeps hK k, c⟩
noncomputable def Hd.ob (h : Hd) (as : List Addr) (s : PySem.W.SharedT) : AlX := h.obs (He.frG (HandSHeadRun.getT s) as)
theorem Hd.ob_eq (h : Hd) (as : List Addr) (s : PySem.W.SharedT) : h.ob as s = (h.hook as).obs s.abs := by
 have e : HandSHeadRun.getT s = s.abs.heap.get? := funext (HandSHeadRun.getT_eq s)
 unfold Hd.ob
 rw [e]
 rfl
end Kb
namespace Kb
open PySem PySem.Spec PyProof.Rows L2
noncomputable def hdT (i : Nat) : Stmt := PySem.Challenge.pw_keyblock_k22_shops_opened.main.body.getD i (.Pass ⟨0, 0, 0, 0⟩)
noncomputable def hdAs : List Addr := ([2, 3, 15, 17, 18, 20, 21, 22, 29, 30, 31, 32, 35, 42, 43, 44, 47, 54, 55, 56, 59, 66, 67, 68, 71, 78, 79, 80, 83, 90, 91, 92, 95, 102, 103, 104, 107, 114, 115, 116] : List Addr) ++ ([119, 126, 127, 128, 131, 138, 139, 140, 143, 150, 151, 152, 155, 162, 163, 164, 167, 174, 175, 176, 179, 186, 187, 188, 191, 198, 199, 200, 203, 210, 211, 212, 215, 217, 218, 220, 221, 222, 224, 225] : List Addr) ++ ([227, 228, 229, 231, 232, 234, 235, 236, 238, 239, 241, 242, 243, 245, 246, 248, 249, 250, 253, 254, 255, 257, 258, 260, 261, 262, 264, 265, 267, 268, 269, 272, 273, 274, 276, 277, 279, 280, 281, 284] : List Addr) ++ ([285, 286, 289, 290, 291, 294, 295, 296, 299, 300, 301, 303, 304, 306, 307, 308, 310, 311, 313, 314, 315, 317, 318, 320, 321, 322, 324, 325, 327, 328, 329, 332, 333, 334, 336, 337, 339, 340, 341, 349] : List Addr) ++ ([351, 352, 354, 355, 356, 359, 360, 361, 363, 364, 366, 367, 368, 370, 371, 373, 374, 375, 377, 378, 380, 381, 382, 384, 385, 387, 388, 389, 391, 392, 394, 395, 396, 398, 399, 401, 402, 403, 405, 406] : List Addr) ++ ([408, 409, 410, 412, 413, 415, 416, 417, 420, 421, 422, 424, 425, 427, 428, 429, 431, 432, 434, 435, 436, 438, 439, 441, 442, 443, 445, 446, 448, 449, 450, 452, 453, 455, 456, 457, 459, 460, 462, 463] : List Addr) ++ ([464, 466, 467, 469, 470, 471, 473, 474, 476, 477, 478, 480, 481, 483, 484, 485, 487, 488, 490, 491, 492, 494, 495, 497, 498, 499, 501, 502, 504, 505, 506, 509, 510, 511, 513, 514, 516, 517, 518, 520] : List Addr) ++ ([521, 523, 524, 525, 527, 528, 530, 531, 532, 534, 535, 537, 538, 539, 541, 542, 544, 545, 546, 548, 549, 551, 552, 553, 555, 556, 558, 559, 560, 561, 562, 563, 564, 574, 576, 577, 579, 580, 581, 583] : List Addr) ++ ([584, 586, 587, 588, 590, 591, 593, 594, 595, 597, 598, 600, 601, 602, 604, 605, 607, 608, 609, 611, 612, 614, 615, 616, 618, 619, 621, 622, 623, 625, 626, 628, 629, 630, 632, 633, 635, 636, 637, 639] : List Addr) ++ ([640, 642, 643, 644, 646, 647, 649, 650, 651, 653, 654, 656, 657, 658, 660, 661, 663, 664, 665, 667, 668, 670, 671, 672, 674, 675, 677, 678, 679, 681, 682, 684, 685, 686, 688, 689, 691, 692, 693, 694] : List Addr) ++ ([695, 696, 697, 707, 709, 710, 712, 713, 714, 716, 717, 719, 720, 721, 723, 724, 726, 727, 728, 730, 731, 733, 734, 735, 737, 738, 740, 741, 742, 744, 745, 747, 748, 749, 751, 752, 754, 755, 756, 757] : List Addr) ++ ([758, 759, 760, 770, 772, 773, 775, 776, 777, 779, 780, 782, 783, 784, 786, 787, 789, 790, 791, 793, 794, 796, 797, 798, 799, 800, 801, 802, 805, 807, 808, 810, 811, 812, 814, 815, 817, 818, 819, 822] : List Addr) ++ ([823, 824, 826, 827, 829, 830, 831, 833, 834, 836, 837, 838, 841, 842, 843, 846, 847, 848, 850, 851, 853, 854, 855, 857, 858, 860, 861] : List Addr)
noncomputable def hdNm : List Str := ([("_wall" : Str), ("BlockError" : Str), ("BadSize" : Str), ("BadWear" : Str), ("BadCells" : Str), ("BadInk" : Str), ("BadPicture" : Str), ("BadCount" : Str), ("BadName" : Str), ("BadDeed" : Str), ("NoBlock" : Str), ("NotStanding" : Str), ("NoSheet" : Str), ("NoWish" : Str), ("Worn" : Str), ("Full" : Str), ("Nothing" : Str), ("LETTERS" : Str), ("between" : Str), ("need_size" : Str), ("need_wear" : Str), ("is_ink" : Str), ("need_ink" : Str), ("is_name" : Str), ("need_name" : Str), ("rising" : Str), ("apart" : Str), ("within" : Str), ("in_field" : Str), ("is_heap" : Str), ("is_look" : Str), ("inks" : Str), ("is_picture" : Str), ("heap_with" : Str), ("with_ink" : Str), ("clean" : Str), ("less" : Str), ("beyond" : Str), ("THINGS" : Str), ("Shop" : Str)] : List Str) ++ ([("Album" : Str), ("Book" : Str), ("Desk" : Str), ("_law_begin" : Str), ("_law_take" : Str), ("_law_same" : Str), ("_law_odd" : Str), ("_law_shop" : Str), ("_law_left" : Str), ("_law_facts" : Str), ("_law_made" : Str)] : List Str)
noncomputable def hdG : List Str := ([("_law_begin" : Str), ("_law_take" : Str), ("between" : Str), ("need_size" : Str), ("need_wear" : Str), ("_law_made" : Str), ("_law_odd" : Str), ("_law_same" : Str), ("_law_left" : Str), ("_law_facts" : Str), ("_law_shop" : Str), ("law" : Str), ("Shop" : Str), ("Book" : Str), ("Desk" : Str), ("Album" : Str), ("BadSize" : Str), ("BadWear" : Str), ("NoSheet" : Str), ("NoBlock" : Str), ("NoWish" : Str), ("BlockError" : Str)] : List Str)
noncomputable def hdM : List (Str × Str) := ([(("Shop", "__init__") : Str × Str), (("Shop", "twin") : Str × Str), (("Book", "shop") : Str × Str), (("Shop", "size") : Str × Str), (("Shop", "wear") : Str × Str), (("Book", "__init__") : Str × Str), (("Book", "twin") : Str × Str), (("Desk", "book") : Str × Str), (("Album", "__init__") : Str × Str), (("Desk", "__init__") : Str × Str), (("Shop", "cuts") : Str × Str), (("Shop", "sheets") : Str × Str), (("Shop", "wishes") : Str × Str), (("Shop", "need_sheet") : Str × Str), (("Shop", "look") : Str × Str), (("Shop", "story") : Str × Str), (("Shop", "need_block") : Str × Str), (("Shop", "states") : Str × Str), (("Shop", "left") : Str × Str), (("Shop", "wish") : Str × Str), (("Shop", "standing") : Str × Str)] : List (Str × Str))
noncomputable def hdN : List (Str × Str) := ([("Shop", "field"), ("Shop", "strength"), ("Shop", "block_states"), ("Shop", "sheet_looks"), ("Shop", "sheet_stories"), ("Shop", "sheet_count"), ("Shop", "wished"), ("Book", "house"), ("Book", "done"), ("Book", "past"), ("Book", "gone"), ("Desk", "kept_book"), ("Album", "field"), ("Album", "kept")] : List (Str × Str))
noncomputable def hdF : List He.FnD := ([fnG "_law_begin" (hdT 52), fnG "_law_take" (hdT 53), fnG "between" (hdT 20), fnG "need_size" (hdT 21), fnG "need_wear" (hdT 22), fnM "Shop" "__init__" "Shop.__init__" (inClass (hdT 44) 0), fnM "Shop" "twin" "Shop.twin" (inClass (hdT 44) 1), fnM "Book" "shop" "Book.shop" (inClass (hdT 48) 5), fnM "Shop" "size" "Shop.size" (inClass (hdT 44) 18), fnM "Shop" "wear" "Shop.wear" (inClass (hdT 44) 19), fnM "Book" "__init__" "Book.__init__" (inClass (hdT 48) 0), fnM "Book" "twin" "Book.twin" (inClass (hdT 48) 6), fnM "Desk" "book" "Desk.book" (inClass (hdT 50) 3), fnM "Album" "__init__" "Album.__init__" (inClass (hdT 46) 0), fnM "Desk" "__init__" "Desk.__init__" (inClass (hdT 50) 0), fnG "_law_made" (hdT 59), fnG "_law_odd" (hdT 55), fnM "Shop" "cuts" "Shop.cuts" (inClass (hdT 44) 20), fnM "Shop" "sheets" "Shop.sheets" (inClass (hdT 44) 24), fnM "Shop" "wishes" "Shop.wishes" (inClass (hdT 44) 27), fnM "Shop" "need_sheet" "Shop.need_sheet" (inClass (hdT 44) 6), fnM "Shop" "look" "Shop.look" (inClass (hdT 44) 25), fnM "Shop" "story" "Shop.story" (inClass (hdT 44) 26), fnM "Shop" "need_block" "Shop.need_block" (inClass (hdT 44) 5), fnM "Shop" "states" "Shop.states" (inClass (hdT 44) 21), fnM "Shop" "left" "Shop.left" (inClass (hdT 44) 23), fnM "Shop" "wish" "Shop.wish" (inClass (hdT 44) 28), fnM "Shop" "standing" "Shop.standing" (inClass (hdT 44) 22), fnG "_law_same" (hdT 54), fnG "_law_left" (hdT 57), fnG "_law_facts" (hdT 58), fnG "_law_shop" (hdT 56), fnG "law" (hdT 60)] : List He.FnD)
noncomputable def hd : Hd where
 al := []
 g := hdG
 m := hdM
 c := ([("Shop" : Str), ("Book" : Str), ("Desk" : Str), ("Album" : Str)] : List Str)
 n := hdN
 x := ([("NoSheet" : Str), ("NoBlock" : Str), ("NoWish" : Str)] : List Str)
 e := ([("BadSize" : Str), ("BadWear" : Str)] : List Str)
 b := true
 i := []
 s := []
 t := []
 d := []
 f := ([("len" : Str), ("sorted" : Str), ("set" : Str), ("dict" : Str), ("list" : Str), ("tuple" : Str), ("range" : Str), ("enumerate" : Str), ("zip" : Str), ("isinstance" : Str), ("all" : Str), ("any" : Str), ("abs" : Str), ("min" : Str), ("max" : Str), ("sum" : Str), ("int" : Str), ("bool" : Str), ("str" : Str)] : List Str)
 fn := hdF
noncomputable abbrev HdP : World → Prop := fun w => HandSHeadRun.RunEq (PySem.W.OpenLaw.row PySem.Challenge.rw_keyblock_k22_shops_opened) (PySem.W.view (PySem.W.OpenLaw.row PySem.Challenge.rw_keyblock_k22_shops_opened).prog [60]) (hd.hook hdAs) (hd.ob hdAs) 7367 hdNm w
theorem hdRun0 (w : World) : HdP (w.withFollow "special-get-raises" false) := fun os => by kernel_rfl
theorem hdRun1 (w : World) : HdP (w.withFollow "special-get-raises" true) := fun os => by kernel_rfl
theorem hdRun : ∀ w : World, HdP w := fun w => PySem.W.byRow2 "special-get-raises" (P := HdP) hdRun0 hdRun1 w
end Kb
namespace L2
open PySem PySem.Spec PyProof.Rows
end L2
namespace L2
open PySem PySem.Spec PyProof.Rows
end L2
namespace Kb
open PySem L2 Evl
/-- the built-in names that the program leaves alone -/
structure Tx (mg : Str → Option Value) : Prop where
 len : mg "len" = none
 sorted : mg "sorted" = none
 set : mg "set" = none
 dict : mg "dict" = none
 list : mg "list" = none
 tuple : mg "tuple" = none
 range : mg "range" = none
 enumerate : mg "enumerate" = none
 zip : mg "zip" = none
 isinstance : mg "isinstance" = none
 all : mg "all" = none
 any : mg "any" = none
 abs : mg "abs" = none
 min : mg "min" = none
 max : mg "max" = none
 sum : mg "sum" = none
 int : mg "int" = none
 bool : mg "bool" = none
 str : mg "str" = none
/-- a def that a caller may lean on -/
structure Cal (P : Program) (w : World) (K : PySem.W.Frag) (mg : Str → Option Value) (base : Heap) (x : Str) (k : Nat) (ps : List Str) (sp : Sp) : Prop where
 ex : ∃ f fd, FnOk P w K mg base CX0 k f fd ps sp ∧ mg x = some (.ref f) ∧ PySem.W.keepIn K (.ref f) = true ∧ Binds K fd ps []
theorem ZL {X : Cx} {x : Str} {k : Nat} {ps : List Str} {sp : Sp} {e : Expr} {es : List Expr} {t : TA} {p pos : Pos} (C : Cal X.prog X.w X.K X.mg X.base x k ps sp) (hr : Room k X.A) (hg : Gl X x) (ha : PA X (e :: es) t)
  (hdb : (x == ("__debug__" : Str)) = false := by decide) (he : starEach (e :: es) X.env = (false, eval e X.env) :: starEach es X.env := by rfl) (hpl : (backTo pos (starEach es X.env)).any (·.1) = false := by rfl) :
  PE X (.Call (.Name x p) (e :: es) [] pos) (tCall sp [] E0 t) := by
 obtain ⟨f, fd, F, hm, hk, hb⟩ := C.ex
 exact pe_call F hr hg hm hk hb .nil pass0 ha hdb he hpl
/-- a key as a datum; an instance as a datum: its class, then its fields -/
noncomputable def keyD : Key → PyData
 | .inl i => .int i
 | .inr s => .str s
mutual
inductive Dt (H : Hp) : V → PyData → Prop
 | non : Dt H .non .none
 | bl (b : Bool) : Dt H (.bl b) (.bool b)
 | int (i : Int) : Dt H (.int i) (.int i)
 | str (x : Str) : Dt H (.str x) (.str x)
 | lst {a : Addr} {xs : List V} {ds : List PyData} : H a = some (.lst xs) → DtAll H xs ds → Dt H (.ref a) (.list ds)
 | tup {a : Addr} {xs : List V} {ds : List PyData} : H a = some (.tup xs) → DtAll H xs ds → Dt H (.ref a) (.tuple ds)
 | dct {a : Addr} {kvs : List (Key × V)} {ds : List PyData} {kd : List (PyData × PyData)} : H a = some (.dK kvs) → DtAll H (kvs.map (·.2)) ds → kd = (kvs.map fun kv => keyD kv.1).zip ds → Dt H (.ref a) (.dict kd)
 | ins {a C dx : Addr} {fs : List (Str × V)} {ds : List PyData} {kd : List (PyData × PyData)} : H a = some (.ins C dx fs) → DtAll H (fs.map (·.2)) ds → kd = (.none, .int (C : Nat)) :: (fs.map fun kv => PyData.str kv.1).zip ds → Dt H (.ref a) (.dict kd)
 | lkd {a : Addr} {o : Obj} {kvs : List (Key × V)} {ds : List PyData} {kd : List (PyData × PyData)} : H a = some (.frz o (.dK kvs)) → DtAll H (kvs.map (·.2)) ds → kd = (.none, .tuple [.int (a : Nat)]) :: (kvs.map fun kv => keyD kv.1).zip ds → Dt H (.ref a) (.dict kd)
 | lkl {a : Addr} {o : Obj} {xs : List V} {ds : List PyData} {kd : List (PyData × PyData)} : H a = some (.frz o (.lst xs)) → DtAll H xs ds → kd = [(.none, .tuple [.int (a : Nat), .list ds])] → Dt H (.ref a) (.dict kd)
inductive DtAll (H : Hp) : List V → List PyData → Prop
 | nil : DtAll H [] []
 | cons {v : V} {vs : List V} {d : PyData} {ds : List PyData} : Dt H v d → DtAll H vs ds → DtAll H (v :: vs) (d :: ds)
end
mutual
theorem Dt.ex {H H' : Hp} (e : Ex H H') : ∀ (d : PyData) (v : V), Dt H v d → Dt H' v d
 | _, _, .non => .non
 | _, _, .bl b => .bl b
 | _, _, .int i => .int i
 | _, _, .str x => .str x
 | _, _, .lst h r => .lst (e _ _ h) (DtAll.ex e _ _ r)
 | _, _, .tup h r => .tup (e _ _ h) (DtAll.ex e _ _ r)
 | _, _, .dct h r z => .dct (e _ _ h) (DtAll.ex e _ _ r) z
 | _, _, .ins h r z => .ins (e _ _ h) (DtAll.ex e _ _ r) z
 | _, _, .lkd h r z => .lkd (e _ _ h) (DtAll.ex e _ _ r) z
 | _, _, .lkl h r z => .lkl (e _ _ h) (DtAll.ex e _ _ r) z
theorem DtAll.ex {H H' : Hp} (e : Ex H H') : ∀ (ds : List PyData) (vs : List V), DtAll H vs ds → DtAll H' vs ds
 | _, _, .nil => .nil
 | _, _, .cons h r => .cons (Dt.ex e _ _ h) (DtAll.ex e _ _ r)
end
theorem Dt.up {H H' : Hp} {v : V} {d : PyData} (h : Dt H v d) (e : Ex H H') : Dt H' v d := Dt.ex e d v h
theorem DtAll.up {H H' : Hp} {v : List V} {d : List PyData} (h : DtAll H v d) (e : Ex H H') : DtAll H' v d := DtAll.ex e d v h
mutual
theorem Dt.uniq {H : Hp} : ∀ {d : PyData} {v : V}, Dt H v d → ∀ {e : PyData}, Dt H v e → d = e
 | _, _, .non, _, h2 => by cases h2; rfl
 | _, _, .bl b, _, h2 => by cases h2; rfl
 | _, _, .int i, _, h2 => by cases h2; rfl
 | _, _, .str x, _, h2 => by cases h2; rfl
 | _, _, .lst h r, _, h2 => by
  cases h2 with
  | lst h' r' => rw [h] at h'; cases h'; rw [DtAll.uniq r r']
  | tup h' r' => rw [h] at h'; cases h'
  | dct h' r' => rw [h] at h'; cases h'
  | ins h' r' => rw [h] at h'; cases h'
  | lkd h' r' => rw [h] at h'; cases h'
  | lkl h' r' => rw [h] at h'; cases h'
 | _, _, .tup h r, _, h2 => by
  cases h2 with
  | lst h' r' => rw [h] at h'; cases h'
  | tup h' r' => rw [h] at h'; cases h'; rw [DtAll.uniq r r']
  | dct h' r' => rw [h] at h'; cases h'
  | ins h' r' => rw [h] at h'; cases h'
  | lkd h' r' => rw [h] at h'; cases h'
  | lkl h' r' => rw [h] at h'; cases h'
 | _, _, .dct h r z, _, h2 => by
  cases h2 with
  | lst h' r' => rw [h] at h'; cases h'
  | tup h' r' => rw [h] at h'; cases h'
  | dct h' r' z' => rw [h] at h'; cases h'; rw [z, z', DtAll.uniq r r']
  | ins h' r' => rw [h] at h'; cases h'
  | lkd h' r' => rw [h] at h'; cases h'
  | lkl h' r' => rw [h] at h'; cases h'
 | _, _, .ins h r z, _, h2 => by
  cases h2 with
  | lst h' r' => rw [h] at h'; cases h'
  | tup h' r' => rw [h] at h'; cases h'
  | dct h' r' => rw [h] at h'; cases h'
  | ins h' r' z' => rw [h] at h'; cases h'; rw [z, z', DtAll.uniq r r']
  | lkd h' r' => rw [h] at h'; cases h'
  | lkl h' r' => rw [h] at h'; cases h'
 | _, _, .lkd h r z, _, h2 => by
  cases h2 with
  | lst h' r' => rw [h] at h'; cases h'
  | tup h' r' => rw [h] at h'; cases h'
  | dct h' r' => rw [h] at h'; cases h'
  | ins h' r' => rw [h] at h'; cases h'
  | lkd h' r' z' => rw [h] at h'; cases h'; rw [z, z', DtAll.uniq r r']
  | lkl h' r' => rw [h] at h'; cases h'
 | _, _, .lkl h r z, _, h2 => by
  cases h2 with
  | lst h' r' => rw [h] at h'; cases h'
  | tup h' r' => rw [h] at h'; cases h'
  | dct h' r' => rw [h] at h'; cases h'
  | ins h' r' => rw [h] at h'; cases h'
  | lkd h' r' => rw [h] at h'; cases h'
  | lkl h' r' z' => rw [h] at h'; cases h'; rw [z, z', DtAll.uniq r r']
theorem DtAll.uniq {H : Hp} : ∀ {d : List PyData} {v : List V}, DtAll H v d → ∀ {e : List PyData}, DtAll H v e → d = e
 | _, _, .nil, _, h2 => by cases h2; rfl
 | _, _, .cons h r, _, h2 => by
  cases h2 with
  | cons h' r' => rw [Dt.uniq h h', DtAll.uniq r r']
end
theorem Dt.one {H : Hp} (n : Nat) {d e : PyData} {v : V} (_ : sizeOf d < n) (h1 : Dt H v d) (h2 : Dt H v e) : d = e := h1.uniq h2
/-- the heap without one object -/
noncomputable def hide (H : Hp) (l : Addr) : Hp := fun a => if a = l then none else H a
theorem ZeO {H : Hp} {l : Addr} : hide H l l = none := by unfold hide; rw [if_pos rfl]
theorem ZO {H : Hp} {l a : Addr} (h : a ≠ l) : hide H l a = H a := by unfold hide; rw [if_neg h]
theorem ZjV {H : Hp} {l : Addr} : Ex (hide H l) H := fun a o h => by
 unfold hide at h
 split at h
 ·cases h
 ·exact h
theorem DtAll.len0 {H : Hp} : ∀ {ds : List PyData} {vs : List V}, DtAll H vs ds → vs.length = ds.length
 | _, _, .nil => rfl
 | _, _, .cons _ r => by rw [List.length_cons, List.length_cons, r.len0]
theorem Zel : ∀ (ks ds : List PyData), ks.length = ds.length → sizeOf ds ≤ sizeOf (ks.zip ds)
 | [], [], _ => by simp
 | k :: ks, d :: ds, h => by
  have := Zel ks ds (by simpa using h)
  simp only [List.zip_cons_cons, List.cons.sizeOf_spec, Prod.mk.sizeOf_spec]
  omega
 | [], _ :: _, h => by simp at h
 | _ :: _, [], h => by simp at h
mutual
theorem Dt.hid0 {H : Hp} {p : Addr} {e : PyData} (hp : Dt H (.ref p) e) : ∀ {d : PyData} {v : V}, Dt H v d → sizeOf d < sizeOf e → Dt (hide H p) v d
 | _, _, .non, _ => .non
 | _, _, .bl b, _ => .bl b
 | _, _, .int i, _ => .int i
 | _, _, .str x, _ => .str x
 | _, _, .lst (a := a) h r, hs => by
  have ne : a ≠ p := fun z => by subst z; rw [(Dt.lst h r).uniq hp] at hs; omega
  simp only [PyData.list.sizeOf_spec] at hs
  exact .lst (by rw [ZO ne]; exact h) (DtAll.hid0 hp r (by omega))
 | _, _, .tup (a := a) h r, hs => by
  have ne : a ≠ p := fun z => by subst z; rw [(Dt.tup h r).uniq hp] at hs; omega
  simp only [PyData.tuple.sizeOf_spec] at hs
  exact .tup (by rw [ZO ne]; exact h) (DtAll.hid0 hp r (by omega))
 | _, _, .dct (a := a) (kvs := kvs) (ds := ds) h r z, hs => by
  have ne : a ≠ p := fun q => by subst q; rw [(Dt.dct h r z).uniq hp] at hs; omega
  have hl := r.len0
  subst z
  simp only [PyData.dict.sizeOf_spec] at hs
  have := Zel (kvs.map fun kv => keyD kv.1) ds (by simpa using hl)
  exact .dct (by rw [ZO ne]; exact h) (DtAll.hid0 hp r (by omega)) rfl
 | _, _, .ins (a := a) (fs := fs) (ds := ds) h r z, hs => by
  have ne : a ≠ p := fun q => by subst q; rw [(Dt.ins h r z).uniq hp] at hs; omega
  have hl := r.len0
  subst z
  simp only [PyData.dict.sizeOf_spec, List.cons.sizeOf_spec] at hs
  have := Zel (fs.map fun kv => PyData.str kv.1) ds (by simpa using hl)
  exact .ins (by rw [ZO ne]; exact h) (DtAll.hid0 hp r (by omega)) rfl
 | _, _, .lkd (a := a) (kvs := kvs) (ds := ds) h r z, hs => by
  have ne : a ≠ p := fun q => by subst q; rw [(Dt.lkd h r z).uniq hp] at hs; omega
  have hl := r.len0
  subst z
  simp only [PyData.dict.sizeOf_spec, List.cons.sizeOf_spec] at hs
  have := Zel (kvs.map fun kv => keyD kv.1) ds (by simpa using hl)
  exact .lkd (by rw [ZO ne]; exact h) (DtAll.hid0 hp r (by omega)) rfl
 | _, _, .lkl (a := a) (ds := ds) h r z, hs => by
  have ne : a ≠ p := fun q => by subst q; rw [(Dt.lkl h r z).uniq hp] at hs; omega
  subst z
  simp only [PyData.dict.sizeOf_spec, List.cons.sizeOf_spec, Prod.mk.sizeOf_spec, PyData.tuple.sizeOf_spec, PyData.list.sizeOf_spec] at hs
  exact .lkl (by rw [ZO ne]; exact h) (DtAll.hid0 hp r (by omega)) rfl
theorem DtAll.hid0 {H : Hp} {p : Addr} {e : PyData} (hp : Dt H (.ref p) e) : ∀ {d : List PyData} {v : List V}, DtAll H v d → sizeOf d < sizeOf e → DtAll (hide H p) v d
 | _, _, .nil, _ => .nil
 | _, _, .cons h r, hs => by
  simp only [List.cons.sizeOf_spec] at hs
  exact .cons (Dt.hid0 hp h (by omega)) (DtAll.hid0 hp r (by omega))
end
theorem DtAll.hid {H : Hp} {p : Addr} {e : PyData} (hp : Dt H (.ref p) e) {ds : List PyData} {vs : List V} (hs : sizeOf ds < sizeOf e) (h : DtAll H vs ds) : DtAll (hide H p) vs ds := DtAll.hid0 hp h hs
noncomputable def isLk : List (PyData × PyData) → Bool
 | (.none, .tuple _) :: _ => true
 | _ => false
mutual
noncomputable def noLk : PyData → Bool
 | .none => true
 | .bool _ => true
 | .int _ => true
 | .str _ => true
 | .list ds => noLks ds
 | .tuple ds => noLks ds
 | .dict kd => !isLk kd && noLkK kd
noncomputable def noLks : List PyData → Bool
 | [] => true
 | d :: ds => noLk d && noLks ds
noncomputable def noLkK : List (PyData × PyData) → Bool
 | [] => true
 | (_, d) :: r => noLk d && noLkK r
end
theorem ZbG : ∀ {ds : List PyData}, noLks ds = true ↔ ∀ d ∈ ds, noLk d = true
 | [] => ⟨fun _ _ h => (nomatch h), fun _ => rfl⟩
 | d :: ds => by
  rw [noLks, Bool.and_eq_true, ZbG]
  refine ⟨fun ⟨a, b⟩ x hx => ?_, fun h => ⟨h d List.mem_cons_self, fun x hx => h x (List.mem_cons_of_mem _ hx)⟩⟩
  rcases List.mem_cons.mp hx with rfl | hx
  ·exact a
  ·exact b x hx
theorem Zdf : ∀ {ks ds : List PyData}, ks.length = ds.length → noLkK (ks.zip ds) = noLks ds
 | [], [], _ => rfl
 | k :: ks, d :: ds, h => by
  show noLkK ((k, d) :: ks.zip ds) = _
  rw [noLkK, noLks, Zdf (by simpa using h)]
 | [], _ :: _, h => (nomatch h)
 | _ :: _, [], h => (nomatch h)
theorem Zh4 {ks ds : List PyData} (hl : ks.length = ds.length) (h : noLk (.dict (ks.zip ds)) = true) : noLks ds = true := by
 rw [noLk, Bool.and_eq_true, Zdf hl] at h
 exact h.2
noncomputable abbrev dLI (ns : List Int) : PyData := .list (ns.map PyData.int)
noncomputable abbrev dLS (ns : List Str) : PyData := .list (ns.map PyData.str)
noncomputable abbrev dLB (ns : List Bool) : PyData := .list (ns.map PyData.bool)
theorem Zg7 {H : Hp} : ∀ ns : List Int, DtAll H (ns.map V.int) (ns.map PyData.int)
 | [] => .nil
 | n :: ns => .cons (.int n) (Zg7 ns)
theorem ZjO {H : Hp} : ∀ ns : List Str, DtAll H (ns.map V.str) (ns.map PyData.str)
 | [] => .nil
 | n :: ns => .cons (.str n) (ZjO ns)
theorem Zlo {H : Hp} : ∀ ns : List Bool, DtAll H (ns.map V.bl) (ns.map PyData.bool)
 | [] => .nil
 | n :: ns => .cons (.bl n) (Zlo ns)
theorem Zj8 {H : Hp} : ∀ {ns : List Int} {xs : List V}, DtAll H xs (ns.map PyData.int) → xs = ns.map V.int
 | [], _, .nil => rfl
 | n :: ns, _, .cons h r => by
  cases h
  rw [Zj8 r]
  rfl
theorem Zgg {H : Hp} : ∀ {ns : List Bool} {xs : List V}, DtAll H xs (ns.map PyData.bool) → xs = ns.map V.bl
 | [], _, .nil => rfl
 | n :: ns, _, .cons h r => by
  cases h
  rw [Zgg r]
  rfl
theorem Dt.li {H : Hp} {a : Addr} {ns : List Int} (h : H a = some (.lst (ns.map V.int))) : Dt H (.ref a) (dLI ns) := .lst h (Zg7 ns)
theorem Dt.oli {H : Hp} {v : V} {ns : List Int} (h : Dt H v (dLI ns)) : ∃ a, v = .ref a ∧ H a = some (.lst (ns.map V.int)) := by
 cases h with
 | lst h r => exact ⟨_, rfl, by rw [← Zj8 r]; exact h⟩
theorem Dt.ol {H : Hp} {v : V} {ds : List PyData} (h : Dt H v (.list ds)) : ∃ a xs, v = .ref a ∧ H a = some (.lst xs) ∧ DtAll H xs ds := by
 cases h with
 | lst h r => exact ⟨_, _, rfl, h, r⟩
theorem Dt.ot {H : Hp} {v : V} {ds : List PyData} (h : Dt H v (.tuple ds)) : ∃ a xs, v = .ref a ∧ H a = some (.tup xs) ∧ DtAll H xs ds := by
 cases h with
 | tup h r => exact ⟨_, _, rfl, h, r⟩
theorem Dt.oi {H : Hp} {v : V} {i : Int} (h : Dt H v (.int i)) : v = .int i := by cases h; rfl
theorem Dt.ob {H : Hp} {v : V} {i : Bool} (h : Dt H v (.bool i)) : v = .bl i := by cases h; rfl
theorem Dt.os {H : Hp} {v : V} {i : Str} (h : Dt H v (.str i)) : v = .str i := by cases h; rfl
theorem Dt.on {H : Hp} {v : V} (h : Dt H v .none) : v = .non := by cases h; rfl
theorem DtAll.len {H : Hp} : ∀ {ds : List PyData} {vs : List V}, DtAll H vs ds → vs.length = ds.length
 | _, _, .nil => rfl
 | _, _, .cons _ r => by rw [List.length_cons, List.length_cons, r.len]
theorem DtAll.at {H : Hp} : ∀ {ds : List PyData} {vs : List V} {i : Nat} {d : PyData}, DtAll H vs ds → ds[i]? = some d → ∃ v, vs[i]? = some v ∧ Dt H v d
 | _, _, _, _, .nil, h => by simp at h
 | _, _, 0, _, .cons a _, h => by
  simp at h
  subst h
  exact ⟨_, rfl, a⟩
 | _, _, i + 1, _, .cons _ r, h => by
  obtain ⟨v, h1, h2⟩ := DtAll.at (i := i) r (by simpa using h)
  exact ⟨v, by simpa using h1, h2⟩
theorem DtAll.at' {H : Hp} : ∀ {ds : List PyData} {vs : List V} {i : Nat} {v : V}, DtAll H vs ds → vs[i]? = some v → ∃ d, ds[i]? = some d ∧ Dt H v d
 | _, _, _, _, .nil, h => by simp at h
 | _, _, 0, _, .cons a _, h => by
  simp at h
  subst h
  exact ⟨_, rfl, a⟩
 | _, _, i + 1, _, .cons _ r, h => by
  obtain ⟨v, h1, h2⟩ := DtAll.at' (i := i) r (by simpa using h)
  exact ⟨v, by simpa using h1, h2⟩
theorem DtAll.app {H : Hp} : ∀ {ds es : List PyData} {vs ws : List V}, DtAll H vs ds → DtAll H ws es → DtAll H (vs ++ ws) (ds ++ es)
 | _, _, _, _, .nil, h => h
 | _, _, _, _, .cons a r, h => .cons a (r.app h)
theorem DtAll.snoc {H : Hp} {ds : List PyData} {vs : List V} {v : V} {d : PyData} (h : DtAll H vs ds) (h' : Dt H v d) : DtAll H (vs ++ [v]) (ds ++ [d]) := h.app (.cons h' .nil)
noncomputable def grow (G H H2 : Hp) : Hp := fun a => match H a with
 | none => H2 a
 | some _ => G a
theorem Zv {G H H2 : Hp} {a : Addr} (h : H a = none) : grow G H H2 a = H2 a := by unfold grow; rw [h]
theorem Zo {G H H2 : Hp} {a : Addr} {o : HO} (h : H a = some o) : grow G H H2 a = G a := by unfold grow; rw [h]
theorem Zm {G H H2 : Hp} (e : Ex G H) : Ex G (grow G H H2) := fun a o h => by rw [Zo (e a o h)]; exact h
theorem Zg {G H H2 : Hp} (e : Ex G H) (e2 : Ex H H2) : Ex (grow G H H2) H2 := fun a o h => by
 cases q : H a with
 | none =>
  rw [Zv q] at h
  exact h
 | some u =>
  rw [Zo q] at h
  exact e2 a o (e a o h)
theorem ZfX {G H H2 : Hp} {a : Addr} {o : HO} (h : H a = some o) (g : G a = none) : grow G H H2 a = none := by rw [Zo h]; exact g
theorem ZgZ {G G' H H2 : Hp} (g : Ex G G') : Ex (grow G H H2) (grow G' H H2) := fun a o h => by
 cases q : H a with
 | none =>
  rw [Zv q] at h ⊢
  exact h
 | some u =>
  rw [Zo q] at h ⊢
  exact g a o h
theorem ZU {G H H2 H3 : Hp} (e : Ex H H2) (e2 : Ex H2 H3) : Ex (grow (grow G H H2) H2 H3) (grow G H H3) := fun a o h => by
 cases q : H a with
 | none =>
  rw [Zv q]
  cases r : H2 a with
  | none =>
   rw [Zv r] at h
   exact h
  | some u =>
   rw [Zo r, Zv q] at h
   exact e2 a o h
 | some u =>
  rw [Zo (e a u q), Zo q] at h
  rw [Zo q]
  exact h
theorem ZgP {G H H2 H3 : Hp} (e2 : Ex H2 H3) : Ex (grow G H H2) (grow G H H3) := fun a o h => by
 cases q : H a with
 | none =>
  rw [Zv q] at h ⊢
  exact e2 a o h
 | some u =>
  rw [Zo q] at h ⊢
  exact h
end Kb
namespace Kb
open PySem L2 Evl
noncomputable def EvX (te : TE) (σ : L2.St) (G : Hp) (d : PyData) : Prop := ∀ H, Ex G H → ∀ Q : VK, (∀ x H2, Ex H H2 → Dt (grow G H H2) x d → Q x H2) → te σ H Q
/-- a new object -/
noncomputable def EvN (te : TE) (σ : L2.St) (G : Hp) (d : PyData) : Prop := ∀ H, Ex G H → ∀ Q : VK, (∀ p H2, Ex H H2 → H p = none → Dt (grow G H H2) (.ref p) d → Q (.ref p) H2) → te σ H Q
noncomputable def EvB (tt : TT) (σ : L2.St) (G : Hp) (b : Bool) : Prop := ∀ H, Ex G H → ∀ Q : Bool → Hp → Prop, (∀ H2, Ex H H2 → Q b H2) → tt σ H Q
noncomputable def EvAs (ta : TA) (σ : L2.St) (G : Hp) (ds : List PyData) : Prop := ∀ H, Ex G H → ∀ Q : List V → Hp → Prop, (∀ xs H2, Ex H H2 → DtAll (grow G H H2) xs ds → Q xs H2) → ta σ H Q
noncomputable def EvP (to : TO) (σ : L2.St) (G : Hp) (o : Option Int) : Prop := ∀ H, Ex G H → ∀ Q : Option Int → Hp → Prop, (∀ H2, Ex H H2 → Q o H2) → to σ H Q
/-- what a def promises that only makes data: R of the arguments and the answer -/
noncomputable def PSp (R : List PyData → PyData → Prop) : Sp := fun vs H Q _ => ∃ G ds d, Ex G H ∧ DtAll G vs ds ∧ R ds d ∧ ∀ x H2, Ex H H2 → Dt (grow G H H2) x d → Q x H2
section
variable {K : PySem.W.Frag} {w : World} {σ : L2.St} {G G' H : Hp} {te ta tb tc : TE} {t u : TT} {x : V} {d e f : PyData} {r : R2}
theorem EvX.mono (h : EvX te σ G d) (g : Ex G G') : EvX te σ G' d := fun H e Q q => h H (g.trans e) Q fun x H2 e2 dx => q x H2 e2 (dx.up (ZgZ g))
theorem EvN.mono (h : EvN te σ G d) (g : Ex G G') : EvN te σ G' d := fun H e Q q => h H (g.trans e) Q fun x H2 e2 hx dx => q x H2 e2 hx (dx.up (ZgZ g))
theorem EvB.mono {b : Bool} (h : EvB t σ G b) (g : Ex G G') : EvB t σ G' b := fun H e Q q => h H (g.trans e) Q q
theorem EvAs.mono {ta : TA} {ds : List PyData} (h : EvAs ta σ G ds) (g : Ex G G') : EvAs ta σ G' ds := fun H e Q q => h H (g.trans e) Q fun x H2 e2 dx => q x H2 e2 (dx.up (ZgZ g))
theorem EvP.mono {to : TO} {o : Option Int} (h : EvP to σ G o) (g : Ex G G') : EvP to σ G' o := fun H e Q q => h H (g.trans e) Q q
theorem EvN.toX (h : EvN te σ G d) : EvX te σ G d := fun H e Q q => h H e Q fun p H2 e2 _ dx => q _ H2 e2 dx
theorem EvX.eq (h : EvX te σ G d) (q : d = e) : EvX te σ G e := q ▸ h
theorem EvN.eq (h : EvN te σ G d) (q : d = e) : EvN te σ G e := q ▸ h
theorem EvB.eq {a b : Bool} (h : EvB t σ G a) (q : a = b) : EvB t σ G b := q ▸ h
theorem Zh {i : Nat} (h : σ[i]? = some (some x)) (hd : Dt G x d) : EvX (tVar i) σ G d := fun H e Q q => ⟨x, h, q x H (Ex.refl H) (hd.up (Zm e))⟩
theorem ZrG (hd : ∀ G, Dt G x d) : EvX (tC x) σ G d := fun H e Q q => q x H (Ex.refl H) (hd _)
theorem ZgI {i : Int} : EvX (tC (.int i)) σ G (.int i) := ZrG fun _ => .int i
theorem Ztq {i : Bool} : EvX (tC (.bl i)) σ G (.bool i) := ZrG fun _ => .bl i
/-- one after the other, the second in the grown view -/
theorem Zrl (ha : EvX ta σ G d) (hb : EvX tb σ G e) {Q : VK} {H : Hp} (gh : Ex G H)
  (k : ∀ x y G2 H2, Ex G G2 → Ex H H2 → Ex G2 H2 → Ex G2 (grow G H H2) → Dt G2 x d → Dt G2 y e → r x y H2 Q) : tOp r ta tb σ H Q :=
 ha H gh _ fun x H1 e1 dx => hb.mono (Zm gh) H1 (Zg gh e1) _ fun y H2 e2 dy =>
  k x y (grow (grow G H H1) H1 H2) H2 ((Zm gh).trans (Zm (Zg gh e1))) (e1.trans e2) (Zg (Zg gh e1) e2) (ZU e1 e2) (dx.up (Zm (Zg gh e1))) dy
theorem ZgJ (ha : EvX ta σ G d) (hb : EvX tb σ G e)
  (hr : ∀ x y G2 H2 Q, Ex G2 H2 → Dt G2 x d → Dt G2 y e → (∀ z H3, Ex H2 H3 → Dt (grow G2 H2 H3) z f → Q z H3) → r x y H2 Q) : EvX (tOp r ta tb) σ G f := fun H gh Q q =>
 Zrl ha hb gh fun x y G2 H2 g1 e2 g2 g3 dx dy => hr x y G2 H2 Q g2 dx dy fun z H3 e3 dz => q z H3 (e2.trans e3) (dz.up fun a o h => by
  cases p : H2 a with
  | none =>
   rw [Zv p] at h
   rw [Zv (fresh_back e2 p)]
   exact h
  | some u =>
   rw [Zo p] at h
   have := g3 a o h
   cases p' : H a with
   | none =>
    rw [Zv p'] at this ⊢
    exact e3 a o this
   | some u' =>
    rw [Zo p'] at this ⊢
    exact this)
/-- one operand -/
theorem ZlA {rr : V → Hp → VK → Prop} {tg : TE} (htg : ∀ σ H Q, ta σ H (fun x H1 => rr x H1 Q) → tg σ H Q) (ha : EvX ta σ G d)
  (hr : ∀ x G2 H2 Q, Ex G2 H2 → Dt G2 x d → (∀ z H3, Ex H2 H3 → Dt (grow G2 H2 H3) z f → Q z H3) → rr x H2 Q) : EvX tg σ G f := fun H gh Q q =>
 htg σ H Q (ha H gh _ fun x H1 e1 dx => hr x (grow G H H1) H1 Q (Zg gh e1) dx fun z H3 e3 dz => q z H3 (e1.trans e3) (dz.up (ZU e1 e3)))
theorem here {G H : Hp} {x : V} (h : Dt G x d) (e : Ex G H) : Dt (grow G H H) x d := h.up (Zm e)
theorem Zts (i j : Int) : decide (V.int i = V.int j) = decide (i = j) := by simp
theorem Ztn (i j : Str) : decide (V.str i = V.str j) = decide (i = j) := by simp
theorem ZnR (i j : Bool) : decide (V.bl i = V.bl j) = decide (i = j) := by simp
theorem ZiX {i j : Int} (ha : EvX ta σ G (.int i)) (hb : EvX tb σ G (.int j)) : EvX (tOp rEq ta tb) σ G (.bool (decide (i = j))) :=
 ZgJ ha hb fun x y G2 H2 Q g2 dx dy q => by
  cases dx
  cases dy
  exact ⟨rfl, q _ H2 (Ex.refl _) (by rw [Zts]; exact .bl _)⟩
theorem Zqy {i j : Str} (ha : EvX ta σ G (.str i)) (hb : EvX tb σ G (.str j)) : EvX (tOp rEq ta tb) σ G (.bool (decide (i = j))) :=
 ZgJ ha hb fun x y G2 H2 Q g2 dx dy q => by
  cases dx
  cases dy
  exact ⟨rfl, q _ H2 (Ex.refl _) (by rw [Ztn]; exact .bl _)⟩
theorem ZgL {i j : Bool} (ha : EvX ta σ G (.bool i)) (hb : EvX tb σ G (.bool j)) : EvX (tOp rEq ta tb) σ G (.bool (decide (i = j))) :=
 ZgJ ha hb fun x y G2 H2 Q g2 dx dy q => by
  cases dx
  cases dy
  exact ⟨rfl, q _ H2 (Ex.refl _) (by rw [ZnR]; exact .bl _)⟩
theorem Zbk {i j : Bool} (ha : EvX ta σ G (.bool i)) (hb : EvX tb σ G (.bool j)) : EvX (tOp rNe ta tb) σ G (.bool (!decide (i = j))) :=
 ZgJ ha hb fun x y G2 H2 Q g2 dx dy q => by
  cases dx
  cases dy
  exact ⟨rfl, q _ H2 (Ex.refl _) (by rw [ZnR]; exact .bl _)⟩
theorem Z0 {b : Bool} (h : EvX te σ G (.bool b)) : EvB (tTest te) σ G b := fun H e Q q => h H e _ fun x H2 e2 dx => by
 cases dx
 exact ⟨b, rfl, q H2 e2⟩
theorem Zeb {b : Bool} (h : EvX te σ G (.bool b)) : EvB (tB te) σ G b := fun H e Q q => h H e _ fun x H2 e2 dx => by
 cases dx
 exact ⟨b, rfl, q H2 e2⟩
theorem ZlL {a b : Bool} (h1 : EvB t σ G a) (h2 : a = true → EvB u σ G b) : EvB (tAnd t u) σ G (a && b) := fun H e Q q => h1 H e _ fun H2 e2 => by
 cases a with
 | true =>
  show u σ H2 Q
  exact h2 rfl H2 (e.trans e2) Q fun H3 e3 => q H3 (e2.trans e3)
 | false =>
  show Q false H2
  exact q H2 e2
theorem Zec {a b : Bool} (h1 : EvB t σ G a) (h2 : a = false → EvB u σ G b) : EvB (tOr t u) σ G (a || b) := fun H e Q q => h1 H e _ fun H2 e2 => by
 cases a with
 | true =>
  show Q true H2
  exact q H2 e2
 | false =>
  show u σ H2 Q
  exact h2 rfl H2 (e.trans e2) Q fun H3 e3 => q H3 (e2.trans e3)
theorem Zi4 {a : Bool} (h1 : EvB t σ G a) : EvB (tNot t) σ G (!a) := fun H e _ q => h1 H e _ fun H2 e2 => q H2 e2
theorem Ziu : EvB tYes σ G true := fun H e Q q => q H (Ex.refl H)
theorem Ze4 {a b : Bool} (h1 : EvX ta σ G (.bool a)) (h2 : a = true → EvX tb σ G (.bool b)) : EvX (tAndV ta tb) σ G (.bool (a && b)) := fun H e Q q => h1 H e _ fun x H2 e2 dx => by
 cases dx
 refine ⟨a, rfl, ?_⟩
 cases a with
 | true =>
  show tb σ H2 Q
  exact h2 rfl H2 (e.trans e2) Q fun y H3 e3 dy => q y H3 (e2.trans e3) (by cases dy; exact .bl _)
 | false =>
  show Q (.bl false) H2
  exact q _ H2 e2 (.bl _)
theorem Zr8 {a : Bool} (h1 : EvX ta σ G (.bool a)) : EvX (tNotV ta) σ G (.bool (!a)) :=
 ZlA (rr := fun x H1 Q => ∃ c, x = .bl c ∧ Q (.bl (!c)) H1) (fun _ _ _ h => h) h1 fun x G2 H2 Q g2 dx q => by
  cases dx
  exact ⟨a, rfl, q _ H2 (Ex.refl _) (.bl _)⟩
theorem ZnL {b : Bool} (h : EvB t σ G b) (h1 : b = true → EvX ta σ G d) (h2 : b = false → EvX tb σ G d) : EvX (tIf t ta tb) σ G d := fun H e Q q => h H e _ fun H2 e2 => by
 cases b with
 | true =>
  show ta σ H2 Q
  exact h1 rfl H2 (e.trans e2) Q fun y H3 e3 dy => q y H3 (e2.trans e3) (dy.up fun a o h => by
   cases p : H a with
   | none =>
    rw [Zv p]
    cases p2 : H2 a with
    | none =>
     rw [Zv p2] at h
     exact h
    | some u =>
     rw [Zo p2] at h
     exact e3 a o (e2 a o (e a o h))
   | some u =>
    rw [Zo (e2 a u p)] at h
    rw [Zo p]
    exact h)
 | false =>
  show tb σ H2 Q
  exact h2 rfl H2 (e.trans e2) Q fun y H3 e3 dy => q y H3 (e2.trans e3) (dy.up fun a o h => by
   cases p : H a with
   | none =>
    rw [Zv p]
    cases p2 : H2 a with
    | none =>
     rw [Zv p2] at h
     exact h
    | some u =>
     rw [Zo p2] at h
     exact e3 a o (e2 a o (e a o h))
   | some u =>
    rw [Zo (e2 a u p)] at h
    rw [Zo p]
    exact h)
theorem ea0 : EvAs tNil σ G [] := fun H e Q q => q [] H (Ex.refl H) .nil
theorem ea1 {tr : TA} {ds : List PyData} (h : EvX ta σ G d) (hr : EvAs tr σ G ds) : EvAs (tCons ta tr) σ G (d :: ds) := fun H gh Q q =>
 h H gh _ fun x H1 e1 dx => hr.mono (Zm gh) H1 (Zg gh e1) _ fun xs H2 e2 dxs => q _ H2 (e1.trans e2)
  (.cons (dx.up (ZgP e2)) (dxs.up (ZU e1 e2)))
theorem Zi3 {G H : Hp} {p : Addr} {o : HO} (h : H p = none) : grow G H (upd H p o) p = some o := by rw [Zv h, upd_same]
theorem Zfl {G H : Hp} {p : Addr} {xs : List V} {ds : List PyData} (h : H p = none) (gh : Ex G H) (hd : DtAll G xs ds) : Dt (grow G H (upd H p (.lst xs))) (.ref p) (.list ds) :=
 .lst (Zi3 h) (hd.up (Zm gh))
theorem ZnK {G H : Hp} {p : Addr} {xs : List V} {ds : List PyData} (h : H p = none) (gh : Ex G H) (hd : DtAll G xs ds) : Dt (grow G H (upd H p (.tup xs))) (.ref p) (.tuple ds) :=
 .tup (Zi3 h) (hd.up (Zm gh))
theorem Zri {ta : TA} {ds : List PyData} (h : EvAs ta σ G ds) (hl : ds.length ≤ 100000 := by simp <;> omega) : EvN (tLst ta) σ G (.list ds) := fun H gh Q q =>
 h H gh _ fun xs H1 e1 dx => ⟨sz_of (by rw [dx.len]; exact hl), fun p hp => q p _ (e1.trans (Ex.new hp)) (fresh_back e1 hp) ((Zfl hp (Zg gh e1) dx).up (ZU e1 (Ex.new hp)))⟩
theorem ZqD {ta : TA} {ds : List PyData} (h : EvAs ta σ G ds) (hl : ds.length ≤ 100000 := by simp <;> omega) : EvN (tTup ta) σ G (.tuple ds) := fun H gh Q q =>
 h H gh _ fun xs H1 e1 dx => ⟨sz_of (by rw [dx.len]; exact hl), fun p hp => q p _ (e1.trans (Ex.new hp)) (fresh_back e1 hp) ((ZnK hp (Zg gh e1) dx).up (ZU e1 (Ex.new hp)))⟩
theorem Zjm {rr : List V → Hp → VK → Prop} (ha : EvX ta σ G d) (hr : ∀ x G2 H2 Q, Ex G2 H2 → Dt G2 x d → (∀ z H3, Ex H2 H3 → Dt (grow G2 H2 H3) z f → Q z H3) → rr [x] H2 Q) : EvX (tCB rr (tCons ta tNil)) σ G f :=
 ZlA (rr := fun x H Q => rr [x] H Q) (fun _ _ _ h => h) ha hr
theorem ZkS {ds : List PyData} (ha : EvX ta σ G (.list ds)) : EvX (tCB (rLenS K) (tCons ta tNil)) σ G (.int (ds.length : Nat)) := Zjm ha fun x G2 H2 Q g2 dx q => by
 obtain ⟨a, xs, rfl, h, r⟩ := dx.ol
 exact ⟨a, xs, rfl, .inl (sq_of (g2 _ _ h)), q _ H2 (Ex.refl _) (by rw [r.len]; exact .int _)⟩
theorem Zkg {ds : List PyData} (ha : EvX ta σ G (.tuple ds)) : EvX (tCB (rLenS K) (tCons ta tNil)) σ G (.int (ds.length : Nat)) := Zjm ha fun x G2 H2 Q g2 dx q => by
 obtain ⟨a, xs, rfl, h, r⟩ := dx.ot
 exact ⟨a, xs, rfl, .inr (st_of (g2 _ _ h)), q _ H2 (Ex.refl _) (by rw [r.len]; exact .int _)⟩
theorem Zll {bs : List Bool} (ha : EvX ta σ G (dLB bs)) : EvX (tCB (rAll K) (tCons ta tNil)) σ G (.bool (bs.all id)) := Zjm ha fun x G2 H2 Q g2 dx q => by
 obtain ⟨a, xs, rfl, h, r⟩ := dx.ol
 rw [Zgg r] at h
 exact ⟨a, bs, rfl, sq_of (g2 _ _ h), q _ H2 (Ex.refl _) (.bl _)⟩
theorem DtAll.atI {H : Hp} {ds : List PyData} {vs : List V} {i : Int} {d : PyData} (h : DtAll H vs ds) (a : L2.atI ds i = some d) : ∃ v, L2.atI vs i = some v ∧ Dt H v d := by
 unfold L2.atI at a ⊢
 rw [h.len]
 cases q : ixN ds.length i with
 | none =>
  rw [q] at a
  cases a
 | some j =>
  rw [q] at a
  exact h.at a
/-- the items of [lo:hi] -/
noncomputable def cutA {α : Type} (xs : List α) (lo hi : Option Int) : List α := (xs.drop (HT.sIx xs.length 0 lo)).take (HT.sIx xs.length xs.length hi - HT.sIx xs.length 0 lo)
theorem DtAll.drop {H : Hp} : ∀ {ds : List PyData} {vs : List V} (n : Nat), DtAll H vs ds → DtAll H (vs.drop n) (ds.drop n)
 | _, _, 0, h => h
 | _, _, _ + 1, .nil => .nil
 | _, _, n + 1, .cons _ r => r.drop n
theorem DtAll.take {H : Hp} : ∀ {ds : List PyData} {vs : List V} (n : Nat), DtAll H vs ds → DtAll H (vs.take n) (ds.take n)
 | _, _, 0, _ => .nil
 | _, _, _ + 1, .nil => .nil
 | _, _, n + 1, .cons a r => .cons a (r.take n)
theorem ZdR {ta : TA} {R : List PyData → PyData → Prop} {ds : List PyData} (h : EvAs ta σ G ds) (hR : R ds d) : EvX (tCall (PSp R) [] E0 ta) σ G d := fun H gh Q q =>
 h H gh _ fun xs H1 e1 dx => by
  rw [List.append_nil]
  exact ⟨grow G H H1, ds, d, Zg gh e1, dx, hR, fun x H2 e2 dz => q x H2 (e1.trans e2) (dz.up (ZU e1 e2))⟩
end
end Kb
namespace Kb
open PySem L2 Evl
section
variable {K : PySem.W.Frag} {w : World} {σ : L2.St} {G G' H : Hp} {te ta tb tl : TE} {tt : TT} {d e f : PyData}
theorem Zkh {J : It} {n : Nat} {Gd : Hp → Prop} {Y : Nat → Hp → V → Hp → Prop} (wk : Walk J n Gd Y) {g : TG} {vs : List Nat} {H1 : Hp} {Q : VK} (gh : Ex G H1) (hn : n ≤ 50000) (hG : ∀ H', Ex H1 H' → Gd H')
  (p : Nat → Bool) (f : Nat → PyData)
  (hs : ∀ i x H H' Gi, i < n → Ex G Gi → Ex Gi H → Ex H1 H → Y i H x H' → ∀ R : L2.St → Hp → Prop, (∀ σ2 H2, Ex H H2 → wipe σ2 vs = wipe σ vs → EvB tt σ2 Gi (p i) → (p i = true → EvX te σ2 Gi (f i)) → R σ2 H2) → g x (wipe σ vs) H' R)
  (q : ∀ D H2, Ex H1 H2 → H1 D = none → Dt (grow G H1 H2) (.ref D) (.list (((List.range n).filter p).map f)) → Q (.ref D) H2) :
  ∀ D, H1 D = none → ∃ W : Nat → Nat → Hp → Prop, (∃ m, W 0 m (upd H1 D (.lst []))) ∧ ∀ i m H, W i m H →
   (J.stop i H ∧ Q (.ref D) H) ∨ (J.go i H ∧ ∃ Nx : Hp → Prop, (∀ H', Nx H' → ∃ m', m' < m ∧ W (i + 1) m' H') ∧ ∀ x H', J.yld i H x H' → g x (wipe σ vs) H' fun σ2 H2 => wipe σ2 vs = wipe σ vs ∧ tt σ2 H2 fun b H3 =>
    if b = true then te σ2 H3 fun y H4 => ∃ acc, H4 D = some (.lst acc) ∧ acc.length < sizeLine ∧ Nx (upd H4 D (.lst (acc ++ [y]))) else Nx H3) := by
 intro D hD
 refine lc_it wk (Qd := fun H => Q (.ref D) H) (fun i H => Ex H1 H ∧ ∃ xs Gi, H D = some (.lst xs) ∧ Ex G Gi ∧ Ex Gi H ∧ Gi D = none ∧ (∀ a o u, Gi a = some o → H1 a = some u → G a = some o) ∧ DtAll Gi xs (((List.range i).filter p).map f)) ?_ ?_ ?_ ?_
 ·exact ⟨Ex.new hD, [], G, upd_same, Ex.refl G, gh.trans (Ex.new hD), fresh_back gh hD, fun a o u h _ => h, .nil⟩
 ·rintro i H hi ⟨e1, _⟩
  exact hG H e1
 ·rintro i x H H' hi ⟨e1, xs, Gi, hL, g1, g2, g3, g4, hd⟩ hy
  have hlen : xs.length ≤ i := by
   rw [hd.len, List.length_map]
   have := List.length_filter_le p (List.range i)
   rw [List.length_range] at this
   exact this
  refine hs i x H H' Gi hi g1 g2 e1 hy _ fun σ2 H2 e2 hw hb he => ⟨hw, hb H2 (g2.trans e2) _ fun H3 e3 => ?_⟩
  have e13 := e2.trans e3
  cases hp : p i with
  | true =>
   refine iteT ?_
   refine he hp H3 (g2.trans e13) _ fun y H4 e4 dy => ⟨xs, e4 _ _ (e13 _ _ hL), sz_lt (by omega), ?_⟩
   have e14 := e13.trans e4
   have gD : grow Gi H3 H4 D = none := ZfX (e13 _ _ hL) g3
   refine ⟨(e1.trans e14).mut hD, xs ++ [y], grow Gi H3 H4, upd_same, g1.trans (Zm (g2.trans e13)), (Zg (g2.trans e13) e4).mut gD, gD, fun a o u h h1 => ?_, ?_⟩
   ·rw [Zo (e13 _ _ (e1 _ _ h1))] at h
    exact g4 a o u h h1
   ·rw [List.range_succ, List.filter_append, List.map_append, List.filter_cons, if_pos hp]
    exact (hd.up (Zm (g2.trans e13))).snoc dy
  | false =>
   refine iteF ?_
   refine ⟨e1.trans e13, xs, Gi, e13 _ _ hL, g1, g2.trans e13, g3, g4, ?_⟩
   rw [List.range_succ, List.filter_append, List.map_append, List.filter_cons, if_neg (by rw [hp]; decide)]
   show DtAll Gi xs (_ ++ [])
   rw [List.append_nil]
   exact hd
 ·rintro H ⟨e1, xs, Gi, hL, g1, g2, g3, g4, hd⟩
  refine q D H e1 hD (.lst (by rw [Zv hD]; exact hL) (hd.up fun a o h => ?_))
  cases z : H1 a with
  | none =>
   rw [Zv z]
   exact g2 a o h
  | some u =>
   rw [Zo z]
   exact g4 a o u h z
theorem Zlc {α : Type} (P : α → Bool) (F : α → PyData) : ∀ (ds : List α) (p : Nat → Bool) (f : Nat → PyData), (∀ i d, ds[i]? = some d → p i = P d ∧ f i = F d) → ((List.range ds.length).filter p).map f = (ds.filter P).map F := by
 intro ds
 induction ds with
 | nil => intro p f h; rfl
 | cons d ds ih =>
  intro p f h
  have h0 := h 0 d rfl
  have ih' := ih (fun i => p (i + 1)) (fun i => f (i + 1)) (fun i e he => h (i + 1) e (by simpa using he))
  rw [List.length_cons, List.range_succ_eq_map, List.filter_cons, List.filter_cons, h0.1, List.filter_map]
  have e2 : (List.map (fun i => f (i + 1)) (List.filter (fun i => p (i + 1)) (List.range ds.length))) = List.map f (List.map Nat.succ (List.filter (p ∘ Nat.succ) (List.range ds.length))) := by
   rw [List.map_map]
   rfl
  rw [e2] at ih'
  cases hP : P d with
  | true =>
   rw [if_pos rfl, if_pos rfl, List.map_cons, List.map_cons, h0.2, ih']
  | false =>
   rw [if_neg (by decide), if_neg (by decide), ih']
end
/-- sorted, the equal ones too -/
noncomputable def srt (xs : List Int) : List Int := xs.mergeSort (fun a b => decide (a ≤ b))
theorem ZiO (xs : List Int) : (srt xs).Perm xs := List.mergeSort_perm xs _
theorem Zq5 (xs : List Int) : (srt xs).Pairwise (· ≤ ·) := by
 have h := List.pairwise_mergeSort (le := fun (a b : Int) => decide (a ≤ b)) (fun a b c h1 h2 => by simp at *; omega) (fun a b => by simp; omega) xs
 exact h.imp (fun q => by simpa using q)
end Kb
namespace Kb
open PySem L2 Evl
theorem DtAll.one {H : Hp} {vs : List V} {d : PyData} (h : DtAll H vs [d]) : ∃ v, vs = [v] ∧ Dt H v d := by
 cases h with
 | cons a b =>
  cases b
  exact ⟨_, rfl, a⟩
theorem DtAll.two {H : Hp} {vs : List V} {d e : PyData} (h : DtAll H vs [d, e]) : ∃ v u, vs = [v, u] ∧ Dt H v d ∧ Dt H u e := by
 cases h with
 | cons a b =>
  obtain ⟨u, rfl, hb⟩ := b.one
  exact ⟨_, u, rfl, a, hb⟩
theorem DtAll.three {H : Hp} {vs : List V} {d e f : PyData} (h : DtAll H vs [d, e, f]) : ∃ v u x, vs = [v, u, x] ∧ Dt H v d ∧ Dt H u e ∧ Dt H x f := by
 cases h with
 | cons a b =>
  obtain ⟨u, x, rfl, hb, hc⟩ := b.two
  exact ⟨_, u, x, rfl, a, hb, hc⟩
/-- from the view G of H to the view G1 of H1: nothing is lost, what was kept apart stays apart -/
structure Go (G H G1 H1 : Hp) : Prop where
 gg : Ex G G1
 gh : Ex G1 H1
 hh : Ex H H1
 no : ∀ a u, H a = some u → G1 a = G a
theorem Go.grow {G H H1 : Hp} (gh : Ex G H) (e : Ex H H1) : Go G H (grow G H H1) H1 := ⟨Zm gh, Zg gh e, e, fun _ _ h => Zo h⟩
theorem Go.stay {G H H1 : Hp} (gh : Ex G H) (e : Ex H H1) : Go G H G H1 := ⟨Ex.refl G, gh.trans e, e, fun _ _ _ => rfl⟩
theorem Go.trans {G H G1 H1 G2 H2 : Hp} (a : Go G H G1 H1) (b : Go G1 H1 G2 H2) : Go G H G2 H2 :=
 ⟨a.gg.trans b.gg, b.gh, a.hh.trans b.hh, fun x o h => (b.no x o (a.hh x o h)).trans (a.no x o h)⟩
/-- a new object kept apart -/
theorem Go.apart {G H H1 : Hp} {p : Addr} (gh : Ex G H) (e : Ex H H1) (hp : H p = none) : Go G H (hide (Kb.grow G H H1) p) H1 :=
 ⟨fun a o h => by
  have : a ≠ p := ne_of_none (gh a o h) hp
  rw [ZO this]
  exact Zm gh a o h, ZjV.trans (Zg gh e), e, fun a o h => by
  rw [ZO (ne_of_none h hp)]
  exact Zo h⟩
/-- what a grown view tells is told by the first one, grown as far -/
theorem Go.fin {G H G1 H1 H2 : Hp} (go : Go G H G1 H1) (e : Ex H1 H2) : Ex (Kb.grow G1 H1 H2) (Kb.grow G H H2) := fun a o h => by
 cases z : H a with
 | none =>
  rw [Zv z]
  exact Zg go.gh e a o h
 | some u =>
  rw [Zo (go.hh _ _ z), go.no _ _ z] at h
  rw [Zo z]
  exact h
theorem Zho {α : Type} (xs : List α) : xs.filter (fun _ => true) = xs := List.filter_eq_self.mpr fun _ _ => rfl
theorem Go.retX {G H G1 H1 : Hp} {Q : VK} {d : PyData} (go : Go G H G1 H1) (q : ∀ x H2, Ex H H2 → Dt (Kb.grow G H H2) x d → Q x H2) : ∀ x H2, Ex H1 H2 → Dt (Kb.grow G1 H1 H2) x d → Q x H2 :=
 fun x H2 e dp => q x H2 (go.hh.trans e) (dp.up (go.fin e))
section
variable {K : PySem.W.Frag} {w : World} {σ : L2.St} {G G' H : Hp} {te ta tb tl : TE} {tt : TT} {d e f : PyData} {D : Ends} {tz tu tw : TS} {g : TG}
theorem ZaN {b : Bool} (gh : Ex G H) (h : EvB tt σ G b) (h1 : b = true → ∀ H1, Go G H G H1 → tu { D with nx := tz D } σ H1) (h2 : b = false → ∀ H1, Go G H G H1 → tw { D with nx := tz D } σ H1) : tSeq (tIfS tt tu tw) tz D σ H :=
 h H gh _ fun H1 e1 => by
  cases b with
  | true => exact iteT (h1 rfl H1 (Go.stay gh e1))
  | false => exact iteF (h2 rfl H1 (Go.stay gh e1))
theorem ZlK {b : Bool} (gh : Ex G H) (h : EvB tt σ G b) (h1 : b = true → ∀ H1, Go G H G H1 → tu D σ H1) (h2 : b = false → ∀ H1, Go G H G H1 → tw D σ H1) : tIfS tt tu tw D σ H :=
 h H gh _ fun H1 e1 => by
  cases b with
  | true => exact iteT (h1 rfl H1 (Go.stay gh e1))
  | false => exact iteF (h2 rfl H1 (Go.stay gh e1))
theorem ZcV (gh : Ex G H) (h : EvX te σ G d) (k : ∀ x H1, Ex H H1 → Dt (grow G H H1) x d → D.rt x H1) : tRet te D σ H := h H gh _ k
end
theorem Zbl {P : Program} {w : World} {K : PySem.W.Frag} {mg : Str → Option Value} {base : Heap} {x : Str} {k : Nat} {ps : List Str} {sp : Sp} {f : Addr} {fd : FuncData} (F : FnOk P w K mg base CX0 k f fd ps sp) (hm : mg x = some (.ref f)) (hk : PySem.W.keepIn K (.ref f) = true) (hb : Binds K fd ps []) : Cal P w K mg base x k ps sp := ⟨f, fd, F, hm, hk, hb⟩
end Kb
namespace Kb
open PySem L2 Evl
section
variable {K : PySem.W.Frag} {w : World} {σ : L2.St} {G G' H : Hp} {te ta tb tl : TE} {tt : TT} {d e f : PyData} {D : Ends} {tz tu tw : TS} {g : TG}
noncomputable def tyD : PyData → String
 | .none => "NoneType"
 | .bool _ => "bool"
 | .int _ => "int"
 | .str _ => "str"
 | .list _ => "list"
 | .tuple _ => "tuple"
 | .dict _ => "dict"
noncomputable def notDict : PyData → Bool
 | .dict _ => false
 | _ => true
theorem Dt.ty {x : V} (h : Dt H x d) (hn : notDict d = true) : TyX K H x (.type (tyD d)) := by
 cases h with
 | non => exact .base .non
 | bl b => exact .base (.bl b)
 | int i => exact .base (.int i)
 | str x => exact .base (.str x)
 | lst h r => exact .base (.lst h)
 | tup h r => exact .base (.tup h)
 | dct h r => exact nomatch hn
 | ins h r => exact nomatch hn
 | lkd h r => exact nomatch hn
 | lkl h r => exact nomatch hn
theorem ZD {n : String} {b : Bool} (ha : EvX ta σ G d) (hk : kitB (tyD d) n = some b) (hn : notDict d = true := by rfl) : EvX (tCB (rIsi K) (tCons ta (tCons (tC (.ty n)) tNil))) σ G (.bool b) := fun H gh Q q => ha H gh _ fun x H1 e1 dx =>
 ⟨x, .ty n, .type (tyD d), .type n, b, rfl, .ty n, (dx.up (Zg gh e1)).ty hn, kit_ty hk, q _ H1 e1 (.bl _)⟩
theorem ZcR {n m : String} {a b c : Bool} (ha : EvX ta σ G d) (hk : kitB (tyD d) n = some a) (hk' : kitB (tyD d) m = some b) (hc : c = (a || b)) (hn : notDict d = true := by rfl) : EvX (tCB (rIsiT K) (tCons ta (tCons (tTup (tCons (tC (.ty n)) (tCons (tC (.ty m)) tNil))) tNil))) σ G (.bool c) := fun H gh Q q => ha H gh _ fun x H1 e1 dx =>
 ⟨(by show 2 ≤ sizeLine; decide), fun p hp => ⟨x, p, [.ty n, .ty m], .type (tyD d), [.type n, .type m], c, rfl, upd_same, .cons (.ty n) (.cons (.ty m) .nil), (dx.up ((Zg gh e1).trans (Ex.new hp))).ty hn, by
  subst hc
  refine kitAny_cons (kit_ty hk) (fun z => kitAny_cons (kit_ty hk') (fun z' => ?_) fun z' => ?_) fun z => ?_
  ·subst z
   subst z'
   exact kitAny_nil
  ·subst z
   subst z'
   rfl
  ·subst z
   rfl, q _ _ (e1.trans (Ex.new hp)) (.bl _)⟩⟩
theorem Zk5 {a b : Addr} {xs ys : List V} {n : Nat} (hn : n = min xs.length ys.length) : Walk (RZ.ItzT K a b) n (fun H => SqT K H a xs ∧ SqT K H b ys) (YPair (fun i => xs[i]?) (fun i => ys[i]?)) := by
 subst hn
 refine ⟨fun i _ hi q => ?_, fun _ q => ⟨xs, ys, q.1, q.2, by omega⟩, fun i H v H' _ q y => ?_⟩
 ·have h1 : i < xs.length := by omega
  have h2 : i < ys.length := by omega
  exact ⟨xs, ys, xs[i], ys[i], q.1, q.2, by simp [h1], by simp [h2]⟩
 ·obtain ⟨T, x, z, h1, h2, h3, h4, h5⟩ := y
  exact ⟨T, x, z, h1, h2, h3, h4 xs q.1, h5 ys q.2⟩
/-- zip of two lists or of two tuples, of one length -/
theorem Zj0 {ta : TA} {ds es : List PyData} {j j' : Nat} {vs : List Nat} (F : Nat → PyData) (h : EvAs ta σ G [.list ds, .list es] ∨ EvAs ta σ G [.tuple ds, .tuple es]) (hde : ds.length = es.length) (hz : ds.length ≤ 50000) (hw : ∀ x y, wipe (((wipe σ vs).set j (some x)).set j' (some y)) vs = wipe σ vs)
  (hb : ∀ (i : Nat) x y d e Gi, ds[i]? = some d → es[i]? = some e → Ex G Gi → Dt Gi x d → Dt Gi y e → EvX te (((wipe σ vs).set j (some x)).set j' (some y)) Gi (F i)) :
  EvN (tLc (RZ.iZipA K ta) (gTup K 2 (gCons (gName j) (gCons (gName j') gNil))) tYes te vs) σ G (.list ((List.range ds.length).map F)) := fun H gh Q q => by
 rcases h with h | h
 ·refine h H gh _ fun x H1 e1 dx => ?_
  obtain ⟨v, u, rfl, dx, dy⟩ := dx.two
  obtain ⟨a, xs, rfl, ha, r⟩ := dx.ol
  obtain ⟨a', xs', rfl, ha', r'⟩ := dy.ol
  have gh1 := Zg gh e1
  have gg : Ex G (grow G H H1) := Zm gh
  have hl : xs.length = ds.length := r.len
  have hl' : xs'.length = es.length := r'.len
  refine ⟨a, a', xs, xs', rfl, .inl ⟨sq_of (gh1 _ _ ha), sq_of (gh1 _ _ ha'), ?_⟩⟩
  refine Zkh (G := grow G H H1) (walk_zip (K := K) (a := a) (b := a') (xs := xs) (ys := xs') (n := ds.length) (by omega)) gh1 (by omega) (fun H' e' => ⟨sq_of (e' _ _ (gh1 _ _ ha)), sq_of (e' _ _ (gh1 _ _ ha'))⟩) (fun _ => true) F ?_ ?_
  ·intro i y H2 H2' Gi hi g1 g2 _ hy R k
   obtain ⟨T, x1, x2, rfl, hT, rfl, h1, h2⟩ := hy
   obtain ⟨dd, hdi, hdd⟩ := r.at' h1
   obtain ⟨de, hei, hde'⟩ := r'.at' h2
   exact ⟨T, _, rfl, st_of upd_same, rfl, _, _, rfl, _, _, rfl, rfl, k _ _ (Ex.new hT) (hw _ _) Ziu fun _ => hb i x1 x2 dd de Gi hdi hei (gg.trans g1) (hdd.up g1) (hde'.up g1)⟩
  ·intro D H2 e2 hD dD
   rw [Zho] at dD
   exact q D H2 (e1.trans e2) (fresh_back e1 hD) (dD.up (ZU e1 e2))
 ·refine h H gh _ fun x H1 e1 dx => ?_
  obtain ⟨v, u, rfl, dx, dy⟩ := dx.two
  obtain ⟨a, xs, rfl, ha, r⟩ := dx.ot
  obtain ⟨a', xs', rfl, ha', r'⟩ := dy.ot
  have gh1 := Zg gh e1
  have gg : Ex G (grow G H H1) := Zm gh
  have hl : xs.length = ds.length := r.len
  have hl' : xs'.length = es.length := r'.len
  refine ⟨a, a', xs, xs', rfl, .inr ⟨st_of (gh1 _ _ ha), st_of (gh1 _ _ ha'), ?_⟩⟩
  refine Zkh (G := grow G H H1) (Zk5 (K := K) (a := a) (b := a') (xs := xs) (ys := xs') (n := ds.length) (by omega)) gh1 (by omega) (fun H' e' => ⟨st_of (e' _ _ (gh1 _ _ ha)), st_of (e' _ _ (gh1 _ _ ha'))⟩) (fun _ => true) F ?_ ?_
  ·intro i y H2 H2' Gi hi g1 g2 _ hy R k
   obtain ⟨T, x1, x2, rfl, hT, rfl, h1, h2⟩ := hy
   obtain ⟨dd, hdi, hdd⟩ := r.at' h1
   obtain ⟨de, hei, hde'⟩ := r'.at' h2
   exact ⟨T, _, rfl, st_of upd_same, rfl, _, _, rfl, _, _, rfl, rfl, k _ _ (Ex.new hT) (hw _ _) Ziu fun _ => hb i x1 x2 dd de Gi hdi hei (gg.trans g1) (hdd.up g1) (hde'.up g1)⟩
  ·intro D H2 e2 hD dD
   rw [Zho] at dD
   exact q D H2 (e1.trans e2) (fresh_back e1 hD) (dD.up (ZU e1 e2))
theorem ZeL (ha : EvX ta σ G d) {b : Bool} (hb : b = (match d with | .none => true | _ => false)) : EvX (tOp (fun x y H Q => y = .non ∧ Q (.bl (decide (x = .non))) H) ta (tC .non)) σ G (.bool b) := fun H gh Q q => ha H gh _ fun x H1 e1 dx => by
 refine ⟨rfl, q _ H1 e1 ?_⟩
 subst hb
 cases dx <;> first | exact .bl true | exact .bl false
noncomputable def rAbs : List V → Hp → VK → Prop := fun xs H Q => ∃ i, xs = [.int i] ∧ Q (.int (if i < 0 then -i else i)) H
end
theorem Zga : kitB "NoneType" "list" = some false := by decide +kernel
theorem Zfo : kitB "NoneType" "tuple" = some false := by decide +kernel
theorem Zii : kitB "bool" "list" = some false := by decide +kernel
theorem ZhE : kitB "bool" "tuple" = some false := by decide +kernel
theorem ZeV : kitB "bool" "bool" = some true := by decide +kernel
theorem Zft : kitB "bool" "str" = some false := by decide +kernel
theorem ZfI : kitB "bool" "int" = some true := by decide +kernel
theorem Zjy : kitB "int" "list" = some false := by decide +kernel
theorem Zjc : kitB "int" "tuple" = some false := by decide +kernel
theorem ZfE : kitB "int" "bool" = some false := by decide +kernel
theorem Zgx : kitB "int" "str" = some false := by decide +kernel
theorem Zgm : kitB "int" "int" = some true := by decide +kernel
theorem Zjn : kitB "str" "list" = some false := by decide +kernel
theorem Zjd : kitB "str" "tuple" = some false := by decide +kernel
theorem ZfK : kitB "str" "bool" = some false := by decide +kernel
theorem ZgG : kitB "str" "str" = some true := by decide +kernel
theorem Zgn : kitB "str" "int" = some false := by decide +kernel
theorem Zc4 : kitB "list" "list" = some true := by decide +kernel
theorem Zcw : kitB "list" "tuple" = some false := by decide +kernel
theorem Zcv : kitB "tuple" "list" = some false := by decide +kernel
theorem ZbZ : kitB "tuple" "tuple" = some true := by decide +kernel
theorem ZjR {α : Type} (p : α → Bool) (ns : List α) : PyData.list (ns.map fun k => PyData.bool (p k)) = dLB (ns.map p) := by
 show _ = PyData.list (List.map _ (List.map _ _))
 rw [List.map_map]
 rfl
/-- all but d stays -/
noncomputable def Mv (d : Addr) (H H2 : Hp) : Prop := ∀ a o, a ≠ d → H a = some o → H2 a = some o
theorem Mv.of {d : Addr} {H H2 : Hp} (e : Ex H H2) : Mv d H H2 := fun a o _ h => e a o h
theorem Mv.trans {d : Addr} {H H1 H2 : Hp} (a : Mv d H H1) (b : Mv d H1 H2) : Mv d H H2 := fun x o n h => b x o n (a x o n h)
theorem Mv.ex {d : Addr} {G H H2 : Hp} (m : Mv d H H2) (gh : Ex G H) (g : G d = none) : Ex G H2 := fun a o h => m a o (fun z => by subst z; rw [g] at h; cases h) (gh a o h)
theorem Mv.fresh {d p : Addr} {H H2 : Hp} {o : HO} (m : Mv d H H2) (hd : H d = some o) (h : H2 p = none) (hp : p ≠ d) : H p = none := by
 cases z : H p with
 | none => rfl
 | some u =>
  rw [m p u hp z] at h
  cases h
/-- a draw: its list, the script's copy in it, the numbers of that -/
structure Dw where
 a : Addr
 s : Addr
 ns : List Int
/-- the draw's list: the script's copy, the place, what is left of a great number, the seed -/
structure Dr (G H : Hp) (d : Dw) : Prop where
 no : G d.a = none
 sc : G d.s = some (.lst (d.ns.map V.int))
 st : ∃ (i c z : Int), H d.a = some (.lst [.ref d.s, .int i, .int c, .int z]) ∧ 0 ≤ i ∧ 0 ≤ c ∧ 0 ≤ z ∧ z < 2147483647
theorem Dr.go {G H G1 H1 : Hp} {d : Dw} (r : Dr G H d) (go : Go G H G1 H1) : Dr G1 H1 d := by
 obtain ⟨no, hs, i, c, z, h, r⟩ := r
 exact ⟨by rw [go.no _ _ h]; exact no, go.gg _ _ hs, i, c, z, go.hh _ _ h, r⟩
theorem Dr.put {G H : Hp} {d : Dw} {l : Addr} {o : HO} (r : Dr G H d) (h : l ≠ d.a) : Dr G (upd H l o) d := by
 obtain ⟨no, hs, i, c, z, hd, r⟩ := r
 exact ⟨no, hs, i, c, z, by rw [upd_ne h.symm]; exact hd, r⟩
theorem Dr.at {G H : Hp} {d : Dw} (r : Dr G H d) : ∃ o, H d.a = some o := by
 obtain ⟨_, _, i, c, z, h, _⟩ := r
 exact ⟨_, h⟩
/-- the same draw in another view -/
theorem Dr.view {G G1 H H1 : Hp} {d : Dw} (r : Dr G1 H1 d) (r0 : Dr G H d) : Dr G H1 d := ⟨r0.no, r0.sc, r.st⟩
end Kb
namespace Kb
open PySem L2 Evl
/-- from the view G of H to the view G1 of H1, the draw at d moved -/
structure Md (d : Dw) (G H G1 H1 : Hp) : Prop where
 gg : Ex G G1
 gh : Ex G1 H1
 mv : Mv d.a H H1
 no : ∀ a u, H a = some u → G1 a = G a
theorem Md.of {d : Dw} {G H G1 H1 : Hp} (g : Go G H G1 H1) : Md d G H G1 H1 := ⟨g.gg, g.gh, .of g.hh, g.no⟩
theorem Md.trans {d : Dw} {G H G1 H1 G2 H2 : Hp} (a : Md d G H G1 H1) (b : Md d G1 H1 G2 H2) (hd : ∃ o, H1 d.a = some o) : Md d G H G2 H2 :=
 ⟨a.gg.trans b.gg, b.gh, a.mv.trans b.mv, fun x u h => by
  by_cases z : x = d.a
  ·subst z
   obtain ⟨o, ho⟩ := hd
   rw [b.no _ _ ho, a.no _ _ h]
  ·rw [b.no _ _ (a.mv _ _ z h), a.no _ _ h]⟩
theorem Md.fin {d : Dw} {G H G1 H1 H2 : Hp} (m : Md d G H G1 H1) (r : Dr G1 H1 d) (e : Ex H1 H2) : Md d G H (grow G1 H1 H2) H2 := m.trans (.of (Go.grow m.gh e)) r.at
/-- a change of an object that is kept apart -/
theorem Md.put {d : Dw} {l : Addr} {G H G1 H1 : Hp} {o u : HO} (m : Md d G H G1 H1) (hl : H l = none) (g : G1 l = none) : Md d G H G1 (upd H1 l o) :=
 ⟨m.gg, m.gh.mut g, fun a v n h => by rw [upd_ne (ne_of_none h hl)]; exact m.mv a v n h, m.no⟩
noncomputable def EvM (d : Dw) (te : TE) (σ : L2.St) (G : Hp) (P : PyData → Prop) : Prop := ∀ G' H, Ex G G' → Ex G' H → Dr G' H d → ∀ Q : VK, (∀ x e G1 H2, Md d G' H G1 H2 → Dr G1 H2 d → Dt G1 x e → P e → Q x H2) → te σ H Q
noncomputable def EvMA (d : Dw) (ta : TA) (σ : L2.St) (G : Hp) (P : List PyData → Prop) : Prop := ∀ G' H, Ex G G' → Ex G' H → Dr G' H d → ∀ Q : List V → Hp → Prop, (∀ xs es G1 H2, Md d G' H G1 H2 → Dr G1 H2 d → DtAll G1 xs es → P es → Q xs H2) → ta σ H Q
/-- a new list, kept apart -/
noncomputable def EvMN (d : Dw) (te : TE) (σ : L2.St) (G : Hp) (P : List PyData → Prop) : Prop := ∀ G' H, Ex G G' → Ex G' H → Dr G' H d → ∀ Q : VK, (∀ p xs es G1 H2, Md d G' H G1 H2 → Dr G1 H2 d → H p = none → p ≠ d.a → G1 p = none → H2 p = some (.lst xs) → DtAll G1 xs es → P es → Q (.ref p) H2) → te σ H Q
section
variable {K : PySem.W.Frag} {w : World} {σ : L2.St} {G G' H : Hp} {te ta tb tl : TE} {tt : TT} {d : Dw} {e f : PyData} {D : Ends} {tz tu tw : TS} {g : TG} {P P1 P2 : PyData → Prop}
theorem EvM.mono (h : EvM d te σ G P) (g : Ex G G') : EvM d te σ G' P := fun G2 H a b c Q q => h G2 H (g.trans a) b c Q q
theorem EvMA.mono {ta : TA} {P : List PyData → Prop} (h : EvMA d ta σ G P) (g : Ex G G') : EvMA d ta σ G' P := fun G2 H a b c Q q => h G2 H (g.trans a) b c Q q
theorem EvMN.mono {P : List PyData → Prop} (h : EvMN d te σ G P) (g : Ex G G') : EvMN d te σ G' P := fun G2 H a b c Q q => h G2 H (g.trans a) b c Q q
theorem EvM.imp (h : EvM d te σ G P) (i : ∀ e, P e → P1 e) : EvM d te σ G P1 := fun G2 H a b c Q q => h G2 H a b c Q fun x e G1 H2 m r dx p => q x e G1 H2 m r dx (i e p)
end
section
variable {K : PySem.W.Frag} {w : World} {σ : L2.St} {G G' H : Hp} {te ta tb tl : TE} {tt : TT} {d : Dw} {e f : PyData}
/-- what was kept apart is shared from here on -/
theorem Md.freeze {G H G1 H1 : Hp} {p : Addr} {xs : List V} (m : Md d G H G1 H1) (r : Dr G1 H1 d) (hp : H p = none) (hpd : p ≠ d.a) (gp : G1 p = none) (h1 : H1 p = some (.lst xs)) : Md d G H (upd G1 p (.lst xs)) H1 ∧ Dr (upd G1 p (.lst xs)) H1 d ∧ Ex G1 (upd G1 p (.lst xs)) := by
 have e1 : Ex G1 (upd G1 p (.lst xs)) := Ex.new gp
 refine ⟨⟨m.gg.trans e1, fun a o h => ?_, m.mv, fun a u h => ?_⟩, ?_, e1⟩
 ·by_cases z : a = p
  ·subst z
   rw [upd_same] at h
   cases h
   exact h1
  ·rw [upd_ne z] at h
   exact m.gh a o h
 ·rw [upd_ne (ne_of_none h hp)]
  exact m.no a u h
 ·obtain ⟨no, hs, rr⟩ := r
  exact ⟨by rw [upd_ne hpd.symm]; exact no, e1 _ _ hs, rr⟩
end
end Kb
namespace Kb
open PySem L2 Evl
/-- data that _law_same goes through in n turns -/
noncomputable def Sm : Nat → PyData → Prop
 | _, .none => True
 | _, .bool _ => True
 | _, .int _ => True
 | _, .str _ => True
 | n + 1, .list ds => ds.length ≤ 50000 ∧ ∀ d ∈ ds, Sm n d
 | n + 1, .tuple ds => ds.length ≤ 50000 ∧ ∀ d ∈ ds, Sm n d
 | _, _ => False
/-- data of at most n lists within one another, fit for == -/
noncomputable def Sh : Nat → PyData → Prop
 | _, .none => True
 | _, .bool _ => True
 | _, .int _ => True
 | _, .str x => PySem.PyData.canLay0 (.str x) = true
 | n + 1, .list ds => ∀ d ∈ ds, Sh n d
 | n + 1, .tuple ds => ∀ d ∈ ds, Sh n d
 | _, _ => False
theorem Sh.lay : ∀ (n : Nat) (d : PyData), Sh n d → d.canLay0 = true ∧ d.depth ≤ n := by
 intro n
 induction n with
 | zero =>
  intro d h
  cases d <;> first | exact ⟨rfl, Nat.le_refl _⟩ | exact ⟨h, Nat.le_refl _⟩ | exact h.elim
 | succ n ih =>
  have all : ∀ ds : List PyData, (∀ d ∈ ds, Sh n d) → PyData.canLayAll0 ds = true ∧ PyData.depthAll ds ≤ n := by
   intro ds
   induction ds with
   | nil => intro _; exact ⟨rfl, Nat.zero_le _⟩
   | cons d ds ihd =>
    intro h
    have h1 := ih d (h d List.mem_cons_self)
    have h2 := ihd fun x hx => h x (List.mem_cons_of_mem _ hx)
    refine ⟨?_, ?_⟩
    ·show (d.canLay0 && PyData.canLayAll0 ds) = true
     rw [h1.1, h2.1]
     rfl
    ·show max d.depth (PyData.depthAll ds) ≤ n
     omega
  intro d h
  cases d with
  | none => exact ⟨rfl, Nat.zero_le _⟩
  | bool b => exact ⟨rfl, Nat.zero_le _⟩
  | int b => exact ⟨rfl, Nat.zero_le _⟩
  | str b => exact ⟨h, Nat.zero_le _⟩
  | list ds =>
   have := all ds h
   exact ⟨this.1, Nat.succ_le_succ this.2⟩
  | tuple ds =>
   have := all ds h
   exact ⟨this.1, Nat.succ_le_succ this.2⟩
  | dict kvs => exact h.elim
theorem Sh.ok {n : Nat} {d : PyData} (h : Sh n d) (hn : n ≤ 64) : SeqAt.shaped d = true := by
 have := Sh.lay n d h
 unfold SeqAt.shaped
 rw [this.1, decide_eq_true (by omega)]
 rfl
end Kb
namespace Kb
open PySem L2 Evl
/-- a text by its codes; a text of one sign -/
noncomputable def tx (cs : List Nat) : Str := ⟨cs.toArray⟩
noncomputable abbrev sg (c : Nat) : Str := tx [c]
end Kb
namespace Kb
open PySem L2 Evl
section
variable {K : PySem.W.Frag} {w : World} {σ : L2.St} {G G' H : Hp} {te ta tb tl : TE} {tt : TT} {d : Dw} {e f : PyData} {D : Ends} {tz tu tw : TS} {g : TG} {P P1 P2 : PyData → Prop}
theorem EvMN.imp {P P' : List PyData → Prop} (h : EvMN d te σ G P) (i : ∀ e, P e → P' e) : EvMN d te σ G P' := fun G2 H a b c Q q => h G2 H a b c Q fun p xs es G1 H2 m r hp hpd gp h2 dx pe => q p xs es G1 H2 m r hp hpd gp h2 dx (i es pe)
end
/-- cells of a field, rising -/
noncomputable def Cells (n : Int) (ns : List Int) : Prop := ns.Pairwise (· < ·) ∧ ∀ k ∈ ns, 0 ≤ k ∧ k < n
theorem ZlM : ∀ (ns : List Int) (a b : Int), ns.Pairwise (· < ·) → (∀ k ∈ ns, a ≤ k ∧ k < b) → (ns.length : Int) ≤ max 0 (b - a)
 | [], a, b, _, _ => by simp; omega
 | x :: ns, a, b, hp, h => by
  obtain ⟨h1, h2⟩ := List.pairwise_cons.mp hp
  have hx := h x List.mem_cons_self
  have := ZlM ns (x + 1) b h2 fun k hk => ⟨by have := h1 k hk; omega, (h k (List.mem_cons_of_mem _ hk)).2⟩
  rw [List.length_cons]
  omega
theorem Cells.len {n : Int} {ns : List Int} (h : Cells n ns) (h0 : 0 ≤ n) : (ns.length : Int) ≤ n := by
 have := ZlM ns 0 n h.1 h.2
 omega
/-- inks of a cell: letters, rising -/
noncomputable def Heaped (t : List Nat) : Prop := t.Pairwise (· < ·) ∧ ∀ c ∈ t, 97 ≤ c ∧ c ≤ 122
theorem Zkf : ∀ (ns : List Nat) (a b : Nat), ns.Pairwise (· < ·) → (∀ k ∈ ns, a ≤ k ∧ k < b) → ns.length ≤ b - a
 | [], a, b, _, _ => by simp
 | x :: ns, a, b, hp, h => by
  obtain ⟨h1, h2⟩ := List.pairwise_cons.mp hp
  have hx := h x List.mem_cons_self
  have := Zkf ns (x + 1) b h2 fun k hk => ⟨by have := h1 k hk; omega, (h k (List.mem_cons_of_mem _ hk)).2⟩
  rw [List.length_cons]
  omega
theorem Heaped.len {t : List Nat} (h : Heaped t) : t.length ≤ 26 := by
 have := Zkf t 97 123 h.1 fun k hk => ⟨(h.2 k hk).1, by have := (h.2 k hk).2; omega⟩
 omega
noncomputable abbrev dLook (look : List (List Nat)) : PyData := dLS (look.map tx)
end Kb
namespace Kb
open PySem L2 Evl
theorem Go.put {G H G1 H1 : Hp} {l : Addr} {o : HO} (g : Go G H G1 H1) (hl : H l = none) (g1 : G1 l = none) : Go G H G1 (upd H1 l o) := ⟨g.gg, g.gh.mut g1, g.hh.mut hl, g.no⟩
theorem Go.refl {G H : Hp} (gh : Ex G H) : Go G H G H := Go.stay gh (Ex.refl H)
/-- what was kept apart is shared from here on -/
theorem Go.freeze {G H G1 H1 : Hp} {p : Addr} {xs : List V} (m : Go G H G1 H1) (hp : H p = none) (gp : G1 p = none) (h1 : H1 p = some (.lst xs)) : Go G H (upd G1 p (.lst xs)) H1 ∧ Ex G1 (upd G1 p (.lst xs)) := by
 have e1 : Ex G1 (upd G1 p (.lst xs)) := Ex.new gp
 refine ⟨⟨m.gg.trans e1, fun a o h => ?_, m.hh, fun a u h => ?_⟩, e1⟩
 ·by_cases z : a = p
  ·subst z
   rw [upd_same] at h
   cases h
   exact h1
  ·rw [upd_ne z] at h
   exact m.gh a o h
 ·rw [upd_ne (ne_of_none h hp)]
  exact m.no a u h
end Kb
namespace L2
open PySem PySem.Spec PyProof.Rows
/-- a set of the texts l at a, its table rising and to be walked -/
noncomputable def SxT (P : Program) (w : World) (h : Heap) (a : Addr) (l : List Str) : Prop :=
 ∃ D : Froz.SD, h.get? a = some (Froz.sObj "set" D) ∧ Froz.TxOk P w D l ∧ l.Nodup ∧ l.length < scanBound ∧ Ris D.2.2.place.toList ∧ (w.params.followText "set-order" = true ∨ D.2.2.led = true)
section
variable {P : Program} {w : World} {A : Around} {E : Value → Shared → Prop} {s : Shared} {a : Addr} {l : List Str}
theorem SxT.at {h h' : Heap} (R : SxT P w h a l) (k : ∀ o, h.get? a = some o → h'.get? a = some o) : SxT P w h' a l := by
 obtain ⟨D, ho, r⟩ := R
 exact ⟨D, k _ ho, r⟩
end
end L2
namespace L2
open PySem PySem.Spec PyProof.Rows
end L2
namespace L2
open PySem PySem.Spec PyProof.Rows
/-- the tuple (i, c) -/
noncomputable def PrAt (h : Heap) (v : Value) (i : Int) (c : Nat) : Prop := ∃ a t u, v = .ref a ∧ IsTup h a #[.int i t, .str ⟨#[c]⟩ u]
theorem PrAt.keeps {h h' : Heap} {v : Value} {i : Int} {c : Nat} (x : PrAt h v i c) (k : ∀ b o, h.get? b = some o → o.cls = .type "tuple" → h'.get? b = some o) : PrAt h' v i c := by
 obtain ⟨a, t, u, e, o, ho, hc, hd⟩ := x
 exact ⟨a, t, u, e, o, k _ _ ho hc, hc, hd⟩
noncomputable abbrev rkP (i : Int) (c : Nat) : Int := i * 1114112 + (c : Int)
noncomputable def PrsOk (h : Heap) (r : Value → Int) (vs : List Value) : Prop := ∀ v, v ∈ vs → ∃ i c, PrAt h v i c ∧ c < 1114112 ∧ r v = rkP i c
theorem PrsOk.keeps {h h' : Heap} {r : Value → Int} {vs : List Value} (x : PrsOk h r vs) (k : ∀ b o, h.get? b = some o → o.cls = .type "tuple" → h'.get? b = some o) : PrsOk h' r vs := fun v hv =>
 let ⟨i, c, t, z⟩ := x v hv; ⟨i, c, t.keeps k, z⟩
end L2
namespace L2
open PySem PySem.Spec PyProof.Rows
end L2
namespace Kb
open PySem L2 Evl
/-- a module's constant -/
noncomputable def GlV (mg : Str → Option Value) (x : Str) (v : V) : Prop := ∃ u, mg x = some u ∧ RelV v u
end Kb
namespace Kb
open PySem L2 Evl
noncomputable abbrev bmVE : List Value := [.type "ValueError", .type "Exception", .type "BaseException", .type "object"]
/-- an own class of error, under ValueError, at C -/
structure ExC (K : PySem.W.Frag) (mg : Str → Option Value) (x : Str) (C : Addr) : Prop where
 gC : mg x = some (.ref C)
 ex : PySem.W.excIn K C bmVE "ValueError.__new__" = true
 kC : PySem.W.keepIn K (.ref C) = true
 exC : PySem.W.subIn K (.ref C) (.type "BaseException") = some true
 tyC : PySem.W.typeIn K (.ref C) = some (.type "type")
 te : PySem.W.exmOne K (.ref C) (.ref C) = some true
theorem Zh3 {K : PySem.W.Frag} {S : Addr} (h1 : PySem.W.subIn K (.ref S) (.type "BaseException") = some true) (h2 : PySem.W.isClsIn K S = true) (h3 : PySem.W.typeIn K (.ref S) = some (.type "type")) (h4 : PySem.W.subIn K (.ref S) (.ref S) = some true) :
  PySem.W.exmOne K (.ref S) (.ref S) = some true := by
 have e1 : (PySem.W.subIn K (.ref S) (.type "BaseException") == some true) = true := by rw [h1] <;> rfl
 have e2 : ((PySem.W.clsIn K S).isSome && PySem.W.typeIn K (.ref S) == some (.type "type")) = true := by
  have h2' : (PySem.W.clsIn K S).isSome = true := h2
  rw [h2', h3] <;> rfl
 show (if (PySem.W.subIn K (.ref S) (.type "BaseException") == some true) = true then (if ((PySem.W.clsIn K S).isSome && PySem.W.typeIn K (.ref S) == some (.type "type")) = true then PySem.W.subIn K (.ref S) (.ref S) else none) else none) = some true
 rw [if_pos e1, if_pos e2]
 exact h4
/-- raise X('m') -/
theorem Zcp {X : Cx} {W : WX} {x m : Str} {C : Addr} {j : Nat} {p p2 pos pos' : Pos} (hc : X.calm = true) (tk : Takes X W) (E : ExC X.K X.mg x C) (hg : Gl X x) (hdb : (x == ("__debug__" : Str)) = false := by decide) :
  PS X (.Raise (some (.Call (.Name x p) [.Constant (.str m) j p2] [] pos)) none pos') (fun _ σ H => W (.ref C) none σ H) :=
 ps_raise hc tk (pmk_own PySem.F.excBase_ValueError E.ex E.gC E.kC (raises_own E.exC E.tyC) hg hdb)
/-- a def that may raise -/
structure CalX (P : Program) (w : World) (K : PySem.W.Frag) (mg : Str → Option Value) (base : Heap) (x : Str) (k : Nat) (ps : List Str) (sp : Sp) : Prop where
 ex : ∃ f fd, FnOk P w K mg base (L2.CX P w) k f fd ps sp ∧ mg x = some (.ref f) ∧ PySem.W.keepIn K (.ref f) = true ∧ Binds K fd ps []
theorem ZjE {P : Program} {w : World} {K : PySem.W.Frag} {mg : Str → Option Value} {base : Heap} {x : Str} {k : Nat} {ps : List Str} {sp : Sp} {f : Addr} {fd : FuncData} (F : FnOk P w K mg base (L2.CX P w) k f fd ps sp) (hm : mg x = some (.ref f)) (hk : PySem.W.keepIn K (.ref f) = true) (hb : Binds K fd ps []) : CalX P w K mg base x k ps sp := ⟨f, fd, F, hm, hk, hb⟩
theorem ZgN {X : Cx} {W : WX} {x : Str} {k : Nat} {ps : List Str} {sp : Sp} {e : Expr} {es : List Expr} {t : TA} {p pos : Pos} (C : CalX X.prog X.w X.K X.mg X.base x k ps sp) (hr : Room k X.A) (hg : Gl X x) (tk : Takes X W) (ha : PA X (e :: es) t)
  (hdb : (x == ("__debug__" : Str)) = false := by decide) (he : starEach (e :: es) X.env = (false, eval e X.env) :: starEach es X.env := by rfl) (hpl : (backTo pos (starEach es X.env)).any (·.1) = false := by rfl) :
  PE X (.Call (.Name x p) (e :: es) [] pos) (tCallS sp (WE W) t) := by
 obtain ⟨f, fd, F, hm, hk, hb⟩ := C.ex
 exact pe_callS F hr hg hm hk hb (fun σ => passAt tk σ) ha hdb he hpl
/-- what a def promises: a thing, or an error -/
noncomputable def XSp (R : List PyData → PyData ⊕ Addr → Prop) : Sp := fun vs H Q E => ∃ G ds o, Ex G H ∧ DtAll G vs ds ∧ R ds o ∧ (∀ d, o = .inl d → ∀ x H2, Ex H H2 → Dt (grow G H H2) x d → Q x H2) ∧ ∀ C, o = .inr C → ∀ H2, Ex H H2 → E (.ref C) none H2
end Kb
namespace Kb
open PySem L2 Evl
/-- a new thing, or a plain one -/
noncomputable def Fr (H : Hp) (x : V) : Prop := ∀ p, x = .ref p → H p = none
noncomputable def EvF (te : TE) (σ : L2.St) (G : Hp) (d : PyData) : Prop := ∀ H, Ex G H → ∀ Q : VK, (∀ x H2, Ex H H2 → Fr H x → Dt (grow G H H2) x d → Q x H2) → te σ H Q
theorem Fr.back {H H1 : Hp} {x : V} (h : Fr H1 x) (e : Ex H H1) : Fr H x := fun p hp => fresh_back e (h p hp)
section
variable {P : Program} {K : PySem.W.Frag} {w : World} {σ : L2.St} {G G' H : Hp} {te ta tb tl : TE} {tt : TT} {d e f : PyData} {D : Ends} {tz tu tw : TS} {g : TG} {W : WX} {o : PyData ⊕ Addr}
theorem EvF.toX (h : EvF te σ G d) : EvX te σ G d := fun H gh Q q => h H gh Q fun x H2 e2 _ dx => q x H2 e2 dx
end
end Kb
namespace L2
open PySem PySem.Spec PyProof.Rows
/-- isinstance(e, c), e a caught error, its class and dict as told -/
noncomputable def rIsEG (K : PySem.W.Frag) (cls : Value) (d : Option Addr) (a : Addr) : List V → Hp → VK → Prop := fun xs H Q => ∃ D, cls = .ref D ∧ d = none ∧ ExcC K D ∧ rIsE K D a xs H Q
theorem Zhy {X : Cx} {a : Addr} {cls : Value} {d : Option Addr} {oe : Obj} (hp : (a, oe) ∈ X.pn) (hz : Zc cls d oe) (hf : ∃ vs, oe.data = .fields vs) : CallR X (.builtin "isinstance") (rIsEG X.K cls d a) := by
 intro pins s σ H xs us Q I r h
 obtain ⟨D, rfl, rfl, C, c, cv, b, rfl, hcv, e, q⟩ := h
 cases r with
 | cons rx rr =>
  cases rr with
  | cons rt rr =>
   cases rr
   cases rx
   have ec := hcv _ rt
   subst ec
   obtain ⟨hget, _⟩ := I.pin (a, oe) (List.mem_append.mpr (.inl hp))
   obtain ⟨vs, hv⟩ := hf
   have J : PySem.W.InstAt s.heap a oe D none := by
    obtain ⟨oc, od, oda, osl⟩ := oe
    obtain ⟨h1, h2⟩ := hz
    dsimp only at h1 h2 hv
    subst h1 h2 hv
    exact ⟨hget, rfl, rfl, trivial⟩
   exact PySem.W.kia_one (PySem.W.handS_kitx_exc C.hg C.hk C.hs C.hd C.ha C.hn C.ht C.hm) I.kIn J e (fun z => nomatch z) fun tk => ⟨.bl b, H, I.kept (t' := tk) fun _ _ z => z, rfl, q⟩
end L2
namespace Kb
open PySem L2 Evl
/-- the row of classes above a refusal at C, its base at B -/
noncomputable abbrev mroE (B C : Addr) : List Value := [.ref C, .ref B, .type "ValueError", .type "Exception", .type "BaseException", .type "object"]
/-- a refusal at C, straight under the base at B -/
structure EB (K : PySem.W.Frag) (mg : Str → Option Value) (B : Addr) (x : Str) (C : Addr) : Prop where
 own : ExC K mg x C
 ic : PySem.W.isClsIn K C = true
 mro : ∀ v, PySem.W.mroIn K C v = some ((mroE B C).contains v)
 exc : ExcC K C
/-- the base of the refusals -/
structure EBase (K : PySem.W.Frag) (mg : Str → Option Value) (B : Addr) : Prop where
 gB : mg "BlockError" = some (.ref B)
 ic : PySem.W.isClsIn K B = true
 sub : PySem.W.subIn K (.ref B) (.type "BaseException") = some true
 ty : PySem.W.typeIn K (.ref B) = some (.type "type")
section
variable {K : PySem.W.Frag} {mg : Str → Option Value} {B C D : Addr} {x y : Str}
theorem EBase.catches (b : EBase K mg B) (e : EB K mg B x C) : PySem.W.exmOne K (.ref C) (.ref B) = some true := by
 have e1 : (PySem.W.subIn K (.ref B) (.type "BaseException") == some true) = true := by rw [b.sub] <;> rfl
 have e2 : ((PySem.W.clsIn K B).isSome && PySem.W.typeIn K (.ref B) == some (.type "type")) = true := by
  have h2' : (PySem.W.clsIn K B).isSome = true := b.ic
  rw [h2', b.ty] <;> rfl
 show (if (PySem.W.subIn K (.ref B) (.type "BaseException") == some true) = true then (if ((PySem.W.clsIn K B).isSome && PySem.W.typeIn K (.ref B) == some (.type "type")) = true then PySem.W.subIn K (.ref C) (.ref B) else none) else none) = some true
 rw [if_pos e1, if_pos e2]
 show PySem.W.mroIn K C (.ref B) = some true
 rw [e.mro]
 simp
theorem EB.kit (e : EB K mg B x D) (f : EB K mg B y C) (hB : C ≠ B) : PySem.W.kitOne K (.ref D) (.ref C) = some (decide (D = C)) := by
 unfold PySem.W.kitOne
 by_cases z : D = C
 ·subst z
  simp
 ·have hne : (Value.ref D == Value.ref C) = false := by
   rw [beq_eq_false_iff_ne]
   exact fun h => z (Value.ref.inj h)
  rw [hne, if_neg Bool.false_ne_true]
  have e2 : ((PySem.W.clsIn K C).isSome && PySem.W.typeIn K (.ref C) == some (.type "type")) = true := by
   have h2' : (PySem.W.clsIn K C).isSome = true := f.ic
   rw [h2', f.own.tyC] <;> rfl
  show (if ((PySem.W.clsIn K C).isSome && PySem.W.typeIn K (.ref C) == some (.type "type")) = true then PySem.W.mroIn K D (.ref C) else none) = _
  rw [if_pos e2, e.mro]
  have z' : ¬ C = D := fun h => z h.symm
  simp [z, z', hB]
theorem Ztw {cd : ClassData} (hg : mg x = some (.ref C)) (he : PySem.W.excIn K C bmVE "ValueError.__new__" = true) (hk : PySem.W.keepIn K (.ref C) = true) (hc : PySem.W.clsIn K C = some cd) (hm : cd.mro = mroE B C) (ht : PySem.W.typeIn K (.ref C) = some (.type "type"))
  (h1 : PySem.W.findIn K (.ref C) "__getattribute__" = some (some (.builtin "BaseException.__getattribute__"))) (h2 : PySem.W.findIn K (.ref C) "__getattr__" = some none) (h3 : PySem.W.hasDictIn K C = true) (h4 : PySem.W.findIn K (.ref C) "__class__" = some (some (.builtin "object.__class__")))
  (h5 : PySem.W.specialIn K (.builtin "object.__class__") "__get__" = some (some (.builtin "getset_descriptor.__get__"))) (h6 : PySem.W.takesIn K (.builtin "object.__class__") = some true) : EB K mg B x C := by
 have mro : ∀ v, PySem.W.mroIn K C v = some ((mroE B C).contains v) := fun v => by
  unfold PySem.W.mroIn
  rw [hc]
  show (if cd.mro.isEmpty then none else some (cd.mro.contains v)) = _
  rw [hm]
  rfl
 have ic : PySem.W.isClsIn K C = true := by unfold PySem.W.isClsIn; rw [hc]; rfl
 have sb : PySem.W.subIn K (.ref C) (.type "BaseException") = some true := by
  show PySem.W.mroIn K C _ = _
  rw [mro]
  rfl
 have ss : PySem.W.subIn K (.ref C) (.ref C) = some true := by
  show PySem.W.mroIn K C _ = _
  rw [mro]
  simp
 exact ⟨⟨hg, he, hk, sb, ht, Zh3 sb ic ht ss⟩, ic, mro, ⟨h1, h2, sb, h3, h4, h5, h6, by rw [mro]; rfl⟩⟩
end
section
variable {K : PySem.W.Frag} {mg : Str → Option Value} {B C D a : Addr} {x y : Str} {σ : L2.St} {G H : Hp}
/-- xs.index(True) -/
theorem Zlw {K : PySem.W.Frag} {ta tb : TE} {bs : List Bool} {j : Nat} (ha : EvX ta σ G (dLB bs)) (hb : EvX tb σ G (.bool true)) (hj : bs[j]? = some true) (hno : ∀ m : Nat, m < j → bs[m]? = some false) : EvX (tBM K "list" (rIndex K) ta (tCons tb tNil)) σ G (.int (j : Nat)) := fun H gh Q q =>
 ha H gh _ fun x H1 e1 dx => by
  obtain ⟨p, xs, rfl, h, r⟩ := dx.ol
  obtain rfl := Zgg r
  have h1 : H1 p = _ := Zg gh e1 _ _ h
  refine ⟨.inl ⟨rfl, _, sq_of h1⟩, hb H1 (gh.trans e1) _ fun y H2 e2 dy => ?_⟩
  obtain rfl := dy.ob
  refine ⟨p, _, .bl true, j, .bl true, rfl, rfl, sq_of (e2 _ _ h1), rfl, ?_, by rw [List.getElem?_map, hj]; rfl, rfl, fun m z' hm hz => ?_, q _ H2 (e1.trans e2) (.int _)⟩
  ·rw [List.all_eq_true]
   intro v hv
   obtain ⟨b, _, rfl⟩ := List.mem_map.mp hv
   rfl
  ·rw [List.getElem?_map, hno m hm] at hz
   obtain rfl := Option.some.inj hz
   rfl
end
end Kb
namespace Kb
open PySem L2 Evl
section
variable {P : Program} {K : PySem.W.Frag} {w : World} {σ : L2.St} {G G' H : Hp} {te ta tb tc tl : TE} {tt : TT} {d : Dw} {e f : PyData} {D : Ends} {tz tu tw : TS} {g : TG}
/-- a <= b < c -/
theorem Zl3 {f g : Int → Int → Bool} {a b c : Int} (ha : EvX ta σ G (.int a)) (hb : EvX tb σ G (.int b)) (hc : f a b = true → EvX tc σ G (.int c)) : EvX (tChain (rI0 fun i j => .bl (f i j)) (rI0 fun i j => .bl (g i j)) ta tb tc) σ G (.bool (f a b && g b c)) := fun H gh Q q =>
 ha H gh _ fun x H1 e1 dx => hb H1 (gh.trans e1) _ fun y H2 e2 dy => by
  obtain rfl := dx.oi
  obtain rfl := dy.oi
  refine ⟨a, b, rfl, rfl, f a b, rfl, ?_⟩
  cases hf : f a b with
  | true =>
   refine iteT (hc hf H2 ((gh.trans e1).trans e2) _ fun z H3 e3 dz => ?_)
   obtain rfl := dz.oi
   exact ⟨b, c, rfl, rfl, q _ H3 ((e1.trans e2).trans e3) (by rw [hf]; exact .bl _)⟩
  | false => exact iteF (q _ H2 (e1.trans e2) (by rw [hf]; exact .bl _))
end
end Kb
namespace Kb
open PySem L2 Evl
theorem ZlF : ∀ (l D : List Nat), l.Nodup → (∀ x ∈ l, x ∈ D) → l.length ≤ D.length
 | [], _, _, _ => Nat.zero_le _
 | a :: l, D, hd, hm => by
  obtain ⟨h1, h2⟩ := List.nodup_cons.mp hd
  have ha := hm a List.mem_cons_self
  have := ZlF l (D.erase a) h2 fun x hx => (List.mem_erase_of_ne (fun e => h1 (by rw [← e]; exact hx))).mpr (hm x (List.mem_cons_of_mem _ hx))
  rw [List.length_erase_of_mem ha] at this
  have : 0 < D.length := List.length_pos_of_mem ha
  rw [List.length_cons]
  omega
noncomputable abbrev Mt := List (Nat × Nat)
noncomputable def lk (m : Mt) (o : Nat) : Option Nat := (m.find? fun p => decide (p.1 = o)).map (·.2)
noncomputable def pt (m : Mt) (k v : Nat) : Mt := if (m.any fun p => decide (p.1 = k)) = true then m.map (fun p => if p.1 = k then (p.1, v) else p) else m ++ [(k, v)]
theorem ZhX (o : Nat) : lk [] o = none := rfl
theorem ZbF (p : Nat × Nat) (m : Mt) (o : Nat) : lk (p :: m) o = if p.1 = o then some p.2 else lk m o := by
 unfold lk
 rw [List.find?_cons]
 by_cases h : p.1 = o
 ·simp [h]
 ·simp [h]
theorem Zq1 (m m' : Mt) (o : Nat) : lk (m ++ m') o = (lk m o).or (lk m' o) := by
 induction m with
 | nil => rfl
 | cons p m ih =>
  rw [List.cons_append, ZbF, ZbF, ih]
  by_cases h : p.1 = o
  ·simp [h]
  ·simp [h]
theorem ZkX (m : Mt) (o : Nat) : (m.any fun p => decide (p.1 = o)) = (lk m o).isSome := by
 induction m with
 | nil => rfl
 | cons p m ih =>
  rw [List.any_cons, ih, ZbF]
  by_cases h : p.1 = o
  ·simp [h]
  ·simp [h]
theorem Zq7 (m : Mt) (k v o : Nat) : lk (m.map fun p => if p.1 = k then (p.1, v) else p) o = if o = k ∧ (lk m k).isSome = true then some v else lk m o := by
 induction m with
 | nil => simp [ZhX]
 | cons p m ih =>
  rw [List.map_cons, ZbF, ZbF, ZbF, ih]
  by_cases h : p.1 = k
  ·subst h
   by_cases h2 : o = p.1
   ·subst h2
    simp
   ·have h3 : ¬ p.1 = o := fun e => h2 e.symm
    simp [h2, h3]
  ·by_cases h2 : p.1 = o
   ·subst h2
    simp [h]
   ·simp [h, h2]
theorem ZnG (m : Mt) (k v o : Nat) : lk (pt m k v) o = if o = k then some v else lk m o := by
 unfold pt
 rw [ZkX]
 by_cases h : (lk m k).isSome = true
 ·rw [if_pos h, Zq7]
  simp [h]
 ·rw [if_neg h, Zq1, ZbF, ZhX]
  by_cases h2 : o = k
  ·subst h2
   have : lk m o = none := by simpa using h
   simp [this]
  ·have h3 : ¬ k = o := fun e => h2 e.symm
   simp [h2, h3]
theorem ZhU {m : Mt} {o : Nat} : (lk m o).isSome = true ↔ o ∈ m.map (·.1) := by
 induction m with
 | nil => simp [ZhX]
 | cons p m ih =>
  rw [ZbF, List.map_cons, List.mem_cons, ← ih]
  by_cases h : p.1 = o
  ·simp [h]
  ·have h2 : ¬ o = p.1 := fun e => h e.symm
   simp [h, h2]
theorem ZoQ {m : Mt} (k v : Nat) (h : (m.map (·.1)).Nodup) : ((pt m k v).map (·.1)).Nodup := by
 unfold pt
 rw [ZkX]
 by_cases hk : (lk m k).isSome = true
 ·rw [if_pos hk, List.map_map]
  have : ((fun p : Nat × Nat => p.1) ∘ fun p => if p.1 = k then (p.1, v) else p) = (·.1) := by
   funext p
   show (if p.1 = k then (p.1, v) else p).1 = p.1
   split <;> rfl
  rw [this]
  exact h
 ·rw [if_neg hk, List.map_append, List.nodup_append]
  refine ⟨h, by simp, fun a ha b hb e => hk ?_⟩
  have : b = k := by simpa using hb
  rw [e, this] at ha
  exact ZhU.mpr ha
structure KeyOk (n : Nat) (m : Mt) : Prop where
 kd : (m.map (·.1)).Nodup
 kl : ∀ o ∈ m.map (·.1), o < n
 vl : ∀ o u, lk m o = some u → u < n
theorem KeyOk.put {n : Nat} {m : Mt} (h : KeyOk n m) {o x : Nat} (ho : o < n) (hx : x < n) : KeyOk n (pt m o x) := by
 refine ⟨ZoQ _ _ h.kd, fun o' ho' => ?_, fun o' u hu => ?_⟩
 ·have := ZhU.mpr ho'
  rw [ZnG] at this
  by_cases e : o' = o
  ·rw [e]
   exact ho
  ·rw [if_neg e] at this
   exact h.kl o' (ZhU.mp this)
 ·rw [ZnG] at hu
  by_cases e : o' = o
  ·rw [if_pos e] at hu
   cases hu
   exact hx
  ·rw [if_neg e] at hu
   exact h.vl o' u hu
theorem KeyOk.len {n : Nat} {m : Mt} (h : KeyOk n m) : m.length ≤ n := by
 have := ZlF _ (List.range n) h.kd fun o ho => List.mem_range.mpr (h.kl o ho)
 rwa [List.length_map, List.length_range] at this
mutual
theorem Dt.off {V : Hp} {p : Addr} {o : HO} (hp : V p = some o) (n1 : ∀ xs, o ≠ .lst xs) (n2 : ∀ xs, o ≠ .tup xs) (n3 : ∀ xs, o ≠ .dK xs) (n4 : ∀ C dx xs, o ≠ .ins C dx xs) : ∀ (d : PyData) (v : L2.V), noLk d = true → Dt V v d → Dt (hide V p) v d
 | _, _, _, .non => .non
 | _, _, _, .bl b => .bl b
 | _, _, _, .int i => .int i
 | _, _, _, .str x => .str x
 | _, _, e, .lst h r => .lst (by rw [ZO (fun z => by rw [z, hp] at h; exact n1 _ (Option.some.inj h))]; exact h) (DtAll.off hp n1 n2 n3 n4 _ _ (by rw [noLk] at e; exact e) r)
 | _, _, e, .tup h r => .tup (by rw [ZO (fun z => by rw [z, hp] at h; exact n2 _ (Option.some.inj h))]; exact h) (DtAll.off hp n1 n2 n3 n4 _ _ (by rw [noLk] at e; exact e) r)
 | _, _, e, .dct h r z => .dct (by rw [ZO (fun z => by rw [z, hp] at h; exact n3 _ (Option.some.inj h))]; exact h) (DtAll.off hp n1 n2 n3 n4 _ _ (by subst z; exact Zh4 (by have := r.len; simp at this ⊢; omega) e) r) z
 | _, _, e, .ins h r z => .ins (by rw [ZO (fun z => by rw [z, hp] at h; exact n4 _ _ _ (Option.some.inj h))]; exact h) (DtAll.off hp n1 n2 n3 n4 _ _ (by subst z; rw [noLk, Bool.and_eq_true, noLkK, Bool.and_eq_true, Zdf (by have := r.len; simp at this ⊢; omega)] at e; exact e.2.2) r) z
 | _, _, e, .lkd h r z => by subst z; rw [noLk] at e; cases e
 | _, _, e, .lkl h r z => by subst z; rw [noLk] at e; cases e
theorem DtAll.off {V : Hp} {p : Addr} {o : HO} (hp : V p = some o) (n1 : ∀ xs, o ≠ .lst xs) (n2 : ∀ xs, o ≠ .tup xs) (n3 : ∀ xs, o ≠ .dK xs) (n4 : ∀ C dx xs, o ≠ .ins C dx xs) : ∀ (ds : List PyData) (vs : List L2.V), noLks ds = true → DtAll V vs ds → DtAll (hide V p) vs ds
 | _, _, _, .nil => .nil
 | _, _, e, .cons h r => by
  rw [noLks, Bool.and_eq_true] at e
  exact .cons (Dt.off hp n1 n2 n3 n4 _ _ e.1 h) (DtAll.off hp n1 n2 n3 n4 _ _ e.2 r)
end
end Kb
namespace Kb
open PySem L2 Evl
/-- a class of the program that can be made: its __init__ may raise -/
structure CalN (P : Program) (w : World) (K : PySem.W.Frag) (mg : Str → Option Value) (base : Heap) (x : Str) (C : Addr) (k : Nat) (ps : List Str) (sp : Sp) : Prop where
 ex : ∃ f fd, FnOk P w K mg base (L2.CX P w) k f fd ps sp ∧ Mk K C f ∧ mg x = some (.ref C) ∧ Binds K fd ps []
/-- a method that does not raise -/
structure CalM (P : Program) (w : World) (K : PySem.W.Frag) (mg : Str → Option Value) (base : Heap) (C : Addr) (m : Str) (k : Nat) (ps : List Str) (sp : Sp) : Prop where
 ex : ∃ f fd, FnOk P w K mg base CX0 k f fd ps sp ∧ Cls K C ∧ Meth K C m f ∧ Binds K fd ps []
/-- a method that may raise -/
structure CalMX (P : Program) (w : World) (K : PySem.W.Frag) (mg : Str → Option Value) (base : Heap) (C : Addr) (m : Str) (k : Nat) (ps : List Str) (sp : Sp) : Prop where
 ex : ∃ f fd, FnOk P w K mg base (L2.CX P w) k f fd ps sp ∧ Cls K C ∧ Meth K C m f ∧ Binds K fd ps []
section
variable {X : Cx} {CX : CXT} {k : Nat} {f C : Addr} {fd : FuncData} {ps : List Str} {sp : Sp} {E : L2.St → XK} {x m : Str} {p pos apos : Pos} {e o : Expr} {es : List Expr} {ta : TE} {t : TA} {W : WX}
noncomputable def tMakeS (C : Addr) (sp : Sp) (E : L2.St → XK) (t : TA) : TE := fun σ H Q => t σ H fun vs H1 => ∀ x dx, H1 x = none → H1 dx = none → dx ≠ x →
 sp (.ref x :: vs) (upd (upd H1 dx (.own x)) x (.ins C dx [])) (fun v H2 => v = .non ∧ Q (.ref x) H2) (E σ)
theorem ZlC {pins : List (Addr × Obj)} {σ : L2.St} {H : Hp} {s : Shared} {Q : VK} {us : List Value} {vs : List V} (M : Mk X.K C f) (F : FnOk X.prog X.w X.K X.mg X.base CX k f fd ps sp) (hr : Room (k + 1) X.A) (hb : Binds X.K fd ps [])
  (hx : PassesAt CX X σ (E σ)) (I : Inv X pins σ H s) (r : Vals vs us)
  (h : ∀ x dx, H x = none → H dx = none → dx ≠ x → sp (.ref x :: vs) (upd (upd H dx (.own x)) x (.ins C dx [])) (fun v H2 => v = .non ∧ Q (.ref x) H2) (E σ)) :
  wpAny (model X.prog X.w) X.A (call (.ref C) us) (EP X pins σ Q) X.xe s := by
 have hq := h (s.heap.objs.size + 1) s.heap.objs.size (I.hok.fresh (Nat.le_succ _)) (I.hok.fresh (Nat.le_refl _)) (Nat.ne_of_lt (Nat.lt_succ_self _))
 have I2 := Inv.made (C := C) I
 have r2 : Vals (V.ref (s.heap.objs.size + 1) :: vs) (Value.ref (s.heap.objs.size + 1) :: us) := .cons rfl r
 have hl : (Value.ref (s.heap.objs.size + 1) :: us).length = ps.length := by
  have e := r2.length
  rw [F.len _ _ _ _ hq] at e
  exact e.symm
 have b := hb { s with heap := (s.heap.push PySem.W.emptyDict).push (PySem.W.instObj C s.heap.objs.size) } (Value.ref (s.heap.objs.size + 1) :: us) I2.kIn (by rw [List.append_nil]; exact hl)
 rw [List.append_nil] at b
 refine wpAny_call (make_map (f := f) I.kIn M.makes M.init (beq_iff_eq.mp M.fn) (codeAny_mono (F.run _ X.stack _ _ ⟨Value.ref (s.heap.objs.size + 1) :: us, []⟩ (Value.ref (s.heap.objs.size + 1) :: us) _ _ (E σ) (hr.make C us [])
  (I2.env0.make C us []) b r2 hq) fun r s' hq' => ?_))
 cases r with
 | error e => exact hx pins _ _ e s' I2 hq'
 | ok fl =>
  cases fl with
  | ret u =>
   obtain ⟨v, H', I3, rv, ev, q3⟩ := I2.after hq'
   subst ev
   exact ⟨rv, ⟨V.ref (s.heap.objs.size + 1), H', I3, rfl, q3⟩⟩
  | next => exact False.elim hq'
  | brk => exact False.elim hq'
  | cont => exact False.elim hq'
theorem Za7 (N : CalN X.prog X.w X.K X.mg X.base x C k ps sp) (hr : Room (k + 1) X.A) (hg : Gl X x) (tk : Takes X W) (ha : PA X (e :: es) t)
  (hdb : (x == ("__debug__" : Str)) = false := by decide) (he : starEach (e :: es) X.env = (false, eval e X.env) :: starEach es X.env := by rfl) (hpl : (backTo pos (starEach es X.env)).any (·.1) = false := by rfl) :
  PE X (.Call (.Name x p) (e :: es) [] pos) (tMakeS C sp (WE W) t) := by
 obtain ⟨f, fd, F, M, hm, hb⟩ := N.ex
 refine ⟨fun pins s σ H Q I h => ?_⟩
 refine wpAny_Call_Name_kw (ld_glob I hg hm ?_ hdb)
 refine PySem.W.callWith_K (h₀ := X.base) I.ok.mod.kin M.kp (thn (ha.run pos pins s σ H _ I h) fun us s1 ⟨vs, H1, I1, r, q⟩ => ⟨I1.kIn, ?_⟩) he hpl
 exact ZlC (E := WE W) M F hr hb (passAt tk σ) I1 r q
theorem Zam {pl : Sem Bool} (M : CalM X.prog X.w X.K X.mg X.base C m k ps sp) (hr : Room k X.A) (he : PE X o ta)
  (ht : eval (.Call (.Attribute o m apos) [] [] pos) X.env = (do
   let ov ← eval o X.env
   standAt apos.atName
   let (f, first) ← holding [ov] (getMethod ov m pl)
   callWith pos f first (backTo pos (starEach [] X.env)) (backToKw pos (keywordEach [] X.env))) := by rfl) :
  PE X (.Call (.Attribute o m apos) [] [] pos) (tMeth C m sp [] E0 ta tNil) := by
 obtain ⟨f, fd, F, c, hm, hb⟩ := M.ex
 exact pe_meth0 he c hm F hr hb .nil pass0 ht
noncomputable def tMthX (C : Addr) (m : Str) (sp : Sp) (E : L2.St → XK) (ta : TE) (t : TA) : TE := fun σ H Q => ta σ H fun x H1 => ∃ a dx fs, x = .ref a ∧ H1 a = some (.ins C dx fs) ∧ fs.lookup m = none ∧ t σ H1 fun vs H2 => sp (x :: vs) H2 Q (E σ)
theorem ZaI {pl : Sem Bool} (M : CalMX X.prog X.w X.K X.mg X.base C m k ps sp) (hr : Room k X.A) (tk : Takes X W) (he : PE X o ta) (ha : PA X (e :: es) t)
  (hst : starEach (e :: es) X.env = (false, eval e X.env) :: starEach es X.env := by rfl) (hpl : (backTo pos (starEach es X.env)).any (·.1) = false := by rfl)
  (ht : eval (.Call (.Attribute o m apos) (e :: es) [] pos) X.env = (do
   let ov ← eval o X.env
   standAt apos.atName
   let (f, first) ← holding [ov] (getMethod ov m pl)
   callWith pos f first (backTo pos (starEach (e :: es) X.env)) (backToKw pos (keywordEach [] X.env))) := by rfl) :
  PE X (.Call (.Attribute o m apos) (e :: es) [] pos) (tMthX C m sp (WE W) ta t) := by
 obtain ⟨f, fd, F, c, hm, hb⟩ := M.ex
 refine ⟨fun pins s σ H Q I h => ?_⟩
 refine PySem.W.methodCall_KW (pl := pl) (thn (he.run pins s σ H _ I h) fun u s1 ⟨x, H1, I1, rx, a, dx, fs, ex, ea, l, q⟩ => ?_) ht
 subst ex
 obtain rfl : u = Value.ref a := rx
 refine getmeth_ok I1 ea c hm l ?_
 refine PySem.W.callWith_K (first := [.ref a]) (h₀ := X.base) I.ok.mod.kin hm.kp (thn (ha.run pos pins s1 σ H1 _ I1 q) fun us s2 ⟨vs, H2, I2, r, q2⟩ => ⟨I2.kIn, ?_⟩) hst hpl
 exact run_fnS (E := WE W) (us := .ref a :: us) (vs := .ref a :: vs) F hr hb (passAt tk σ) I2 (.cons rfl r) q2
end
/-- what is asked of a class by its fields: none of them is an attribute of the class -/
structure Fls (K : PySem.W.Frag) (C : Addr) (fl : List Str) : Prop where
 cl : Cls K C
 no : ∀ f ∈ fl, NoAttr K C f
theorem Fls.at {K : PySem.W.Frag} {C : Addr} {fl : List Str} (h : Fls K C fl) {i : Nat} {f : Str} (hi : fl[i]? = some f) : NoAttr K C f := h.no f (List.mem_of_getElem? hi)
/-- a frozen instance: its fields are data -/
structure Inst (G : Hp) (v : V) (C : Addr) (fl : List (Str × PyData)) : Prop where
 ex : ∃ p dx fs, v = .ref p ∧ G p = some (.ins C dx fs) ∧ ∀ f, (∀ d, fl.lookup f = some d → ∃ u, fs.lookup f = some u ∧ Dt G u d) ∧ (fl.lookup f = none → fs.lookup f = none)
theorem Inst.up {G G' : Hp} {v : V} {C : Addr} {fl : List (Str × PyData)} (h : Inst G v C fl) (g : Ex G G') : Inst G' v C fl := by
 obtain ⟨p, dx, fs, rfl, hp, hf⟩ := h.ex
 exact ⟨p, dx, fs, rfl, g _ _ hp, fun f => ⟨fun d hd => let ⟨u, hu, du⟩ := (hf f).1 d hd; ⟨u, hu, du.up g⟩, (hf f).2⟩⟩
theorem ZhL {β : Type} (f g : Str) (d : β) (l : List (Str × β)) : ((g, d) :: l).lookup f = if f = g then some d else l.lookup f := by
 rw [List.lookup_cons]
 by_cases h : f = g
 ·have : (f == g) = true := beq_iff_eq.mpr h
  rw [if_pos h, this]
 ·have : (f == g) = false := by
   cases q : f == g with
   | false => rfl
   | true => exact absurd (beq_iff_eq.mp q) h
  rw [if_neg h, this]
end Kb
namespace Kb
open PySem L2 Evl
/-- the locals as data -/
noncomputable abbrev DE := List (Option PyData)
structure DRel (en : DE) (σ : L2.St) (G : Hp) : Prop where
 len : en.length = σ.length
 get : ∀ (i : Nat) (d : PyData), en[i]? = some (some d) → ∃ v, σ[i]? = some (some v) ∧ Dt G v d
theorem DRel.mono {en : DE} {σ : L2.St} {G G' : Hp} (h : DRel en σ G) (g : Ex G G') : DRel en σ G' := ⟨h.len, fun i d hi => let ⟨v, h1, h2⟩ := h.get i d hi; ⟨v, h1, h2.up g⟩⟩
theorem DRel.set {en : DE} {σ : L2.St} {G : Hp} {j : Nat} {x : V} {d : PyData} (h : DRel en σ G) (hx : Dt G x d) : DRel (en.set j (some d)) (σ.set j (some x)) G := by
 refine ⟨by simp [h.len], fun i e hi => ?_⟩
 by_cases z : j = i
 ·subst z
  by_cases hl : j < en.length
  ·rw [List.getElem?_set_self hl] at hi
   obtain rfl := Option.some.inj (Option.some.inj hi)
   exact ⟨x, List.getElem?_set_self (by rw [← h.len]; exact hl), hx⟩
  ·rw [List.getElem?_eq_none (by simp; omega)] at hi
   cases hi
 ·rw [List.getElem?_set_ne z] at hi ⊢
  exact h.get i e hi
noncomputable def wipeD (en : DE) : List Nat → DE
 | [] => en
 | v :: vs => (wipeD en vs).set v none
noncomputable abbrev FW := DE → Option PyData
structure SW (te : TE) (w : FW) : Prop where
 run : ∀ {en : DE} {σ : L2.St} {G : Hp} {d : PyData}, DRel en σ G → w en = some d → EvX te σ G d
instance {te : TE} {w : FW} : CoeFun (SW te w) (fun _ => ∀ {en : DE} {σ : L2.St} {G : Hp} {d : PyData}, DRel en σ G → w en = some d → EvX te σ G d) := ⟨fun h => h.run⟩
/-- a new thing, or a plain one -/
structure SF (te : TE) (w : FW) : Prop where
 run : ∀ {en : DE} {σ : L2.St} {G : Hp} {d : PyData}, DRel en σ G → w en = some d → EvF te σ G d
instance {te : TE} {w : FW} : CoeFun (SF te w) (fun _ => ∀ {en : DE} {σ : L2.St} {G : Hp} {d : PyData}, DRel en σ G → w en = some d → EvF te σ G d) := ⟨fun h => h.run⟩
structure SB (tt : TT) (b : DE → Option Bool) : Prop where
 run : ∀ {en : DE} {σ : L2.St} {G : Hp} {v : Bool}, DRel en σ G → b en = some v → EvB tt σ G v
instance {tt : TT} {b : DE → Option Bool} : CoeFun (SB tt b) (fun _ => ∀ {en : DE} {σ : L2.St} {G : Hp} {v : Bool}, DRel en σ G → b en = some v → EvB tt σ G v) := ⟨fun h => h.run⟩
structure SA (ta : TA) (a : DE → Option (List PyData)) : Prop where
 run : ∀ {en : DE} {σ : L2.St} {G : Hp} {ds : List PyData}, DRel en σ G → a en = some ds → EvAs ta σ G ds
instance {ta : TA} {a : DE → Option (List PyData)} : CoeFun (SA ta a) (fun _ => ∀ {en : DE} {σ : L2.St} {G : Hp} {ds : List PyData}, DRel en σ G → a en = some ds → EvAs ta σ G ds) := ⟨fun h => h.run⟩
structure SO (to : TO) (p : DE → Option (Option Int)) : Prop where
 run : ∀ {en : DE} {σ : L2.St} {G : Hp} {o : Option Int}, DRel en σ G → p en = some o → EvP to σ G o
instance {to : TO} {p : DE → Option (Option Int)} : CoeFun (SO to p) (fun _ => ∀ {en : DE} {σ : L2.St} {G : Hp} {o : Option Int}, DRel en σ G → p en = some o → EvP to σ G o) := ⟨fun h => h.run⟩
theorem SF.w {te : TE} {w : FW} (h : SF te w) : SW te w := ⟨fun r e => (h r e).toX⟩
structure OpOk (r : R2) (o : PyData → PyData → Option PyData) : Prop where
 run : ∀ {x y : V} {G : Hp} {a b d : PyData}, Dt G x a → Dt G y b → o a b = some d → ∀ {H : Hp}, Ex G H → ∀ {Q : VK}, (∀ z H2, Ex H H2 → Dt (grow G H H2) z d → Q z H2) → r x y H Q
instance {r : R2} {o : PyData → PyData → Option PyData} : CoeFun (OpOk r o) (fun _ => ∀ {x y : V} {G : Hp} {a b d : PyData}, Dt G x a → Dt G y b → o a b = some d → ∀ {H : Hp}, Ex G H → ∀ {Q : VK}, (∀ z H2, Ex H H2 → Dt (grow G H H2) z d → Q z H2) → r x y H Q) := ⟨fun h => h.run⟩
structure OpF (r : R2) (o : PyData → PyData → Option PyData) : Prop where
 run : ∀ {x y : V} {G : Hp} {a b d : PyData}, Dt G x a → Dt G y b → o a b = some d → ∀ {H : Hp}, Ex G H → ∀ {Q : VK}, (∀ z H2, Ex H H2 → Fr H z → Dt (grow G H H2) z d → Q z H2) → r x y H Q
instance {r : R2} {o : PyData → PyData → Option PyData} : CoeFun (OpF r o) (fun _ => ∀ {x y : V} {G : Hp} {a b d : PyData}, Dt G x a → Dt G y b → o a b = some d → ∀ {H : Hp}, Ex G H → ∀ {Q : VK}, (∀ z H2, Ex H H2 → Fr H z → Dt (grow G H H2) z d → Q z H2) → r x y H Q) := ⟨fun h => h.run⟩
structure UnOk (r : V → Hp → VK → Prop) (o : PyData → Option PyData) : Prop where
 run : ∀ {x : V} {G : Hp} {a d : PyData}, Dt G x a → o a = some d → ∀ {H : Hp}, Ex G H → ∀ {Q : VK}, (∀ z H2, Ex H H2 → Dt (grow G H H2) z d → Q z H2) → r x H Q
instance {r : V → Hp → VK → Prop} {o : PyData → Option PyData} : CoeFun (UnOk r o) (fun _ => ∀ {x : V} {G : Hp} {a d : PyData}, Dt G x a → o a = some d → ∀ {H : Hp}, Ex G H → ∀ {Q : VK}, (∀ z H2, Ex H H2 → Dt (grow G H H2) z d → Q z H2) → r x H Q) := ⟨fun h => h.run⟩
structure UnF (r : V → Hp → VK → Prop) (o : PyData → Option PyData) : Prop where
 run : ∀ {x : V} {G : Hp} {a d : PyData}, Dt G x a → o a = some d → ∀ {H : Hp}, Ex G H → ∀ {Q : VK}, (∀ z H2, Ex H H2 → Fr H z → Dt (grow G H H2) z d → Q z H2) → r x H Q
instance {r : V → Hp → VK → Prop} {o : PyData → Option PyData} : CoeFun (UnF r o) (fun _ => ∀ {x : V} {G : Hp} {a d : PyData}, Dt G x a → o a = some d → ∀ {H : Hp}, Ex G H → ∀ {Q : VK}, (∀ z H2, Ex H H2 → Fr H z → Dt (grow G H H2) z d → Q z H2) → r x H Q) := ⟨fun h => h.run⟩
structure CbOk (r : List V → Hp → VK → Prop) (o : List PyData → Option PyData) : Prop where
 run : ∀ {xs : List V} {G : Hp} {ds : List PyData} {d : PyData}, DtAll G xs ds → o ds = some d → ∀ {H : Hp}, Ex G H → ∀ {Q : VK}, (∀ z H2, Ex H H2 → Dt (grow G H H2) z d → Q z H2) → r xs H Q
instance {r : List V → Hp → VK → Prop} {o : List PyData → Option PyData} : CoeFun (CbOk r o) (fun _ => ∀ {xs : List V} {G : Hp} {ds : List PyData} {d : PyData}, DtAll G xs ds → o ds = some d → ∀ {H : Hp}, Ex G H → ∀ {Q : VK}, (∀ z H2, Ex H H2 → Dt (grow G H H2) z d → Q z H2) → r xs H Q) := ⟨fun h => h.run⟩
structure CbF (r : List V → Hp → VK → Prop) (o : List PyData → Option PyData) : Prop where
 run : ∀ {xs : List V} {G : Hp} {ds : List PyData} {d : PyData}, DtAll G xs ds → o ds = some d → ∀ {H : Hp}, Ex G H → ∀ {Q : VK}, (∀ z H2, Ex H H2 → Fr H z → Dt (grow G H H2) z d → Q z H2) → r xs H Q
instance {r : List V → Hp → VK → Prop} {o : List PyData → Option PyData} : CoeFun (CbF r o) (fun _ => ∀ {xs : List V} {G : Hp} {ds : List PyData} {d : PyData}, DtAll G xs ds → o ds = some d → ∀ {H : Hp}, Ex G H → ∀ {Q : VK}, (∀ z H2, Ex H H2 → Fr H z → Dt (grow G H H2) z d → Q z H2) → r xs H Q) := ⟨fun h => h.run⟩
theorem OpF.ok {r : R2} {o : PyData → PyData → Option PyData} (h : OpF r o) : OpOk r o := ⟨fun dx dy e _ gh _ q => h dx dy e gh fun z H2 e2 _ dz => q z H2 e2 dz⟩
theorem UnF.ok {r : V → Hp → VK → Prop} {o : PyData → Option PyData} (h : UnF r o) : UnOk r o := ⟨fun dx e _ gh _ q => h dx e gh fun z H2 e2 _ dz => q z H2 e2 dz⟩
theorem CbF.ok {r : List V → Hp → VK → Prop} {o : List PyData → Option PyData} (h : CbF r o) : CbOk r o := ⟨fun dx e _ gh _ q => h dx e gh fun z H2 e2 _ dz => q z H2 e2 dz⟩
noncomputable def wV (i : Nat) : FW := fun en => (en[i]?).join
noncomputable def wC (d : PyData) : FW := fun _ => some d
noncomputable def wOp (o : PyData → PyData → Option PyData) (a b : FW) : FW := fun en => (a en).bind fun x => (b en).bind fun y => o x y
noncomputable def wUn (o : PyData → Option PyData) (a : FW) : FW := fun en => (a en).bind o
noncomputable def wCb (o : List PyData → Option PyData) (a : DE → Option (List PyData)) : FW := fun en => (a en).bind o
noncomputable def aNil : DE → Option (List PyData) := fun _ => some []
noncomputable def aCons (a : FW) (r : DE → Option (List PyData)) : DE → Option (List PyData) := fun en => (a en).bind fun x => (r en).bind fun xs => some (x :: xs)
noncomputable def asB : PyData → Option Bool
 | .bool b => some b
 | _ => none
noncomputable def bW (a : FW) : DE → Option Bool := fun en => (a en).bind asB
noncomputable def bAnd (a b : DE → Option Bool) : DE → Option Bool := fun en => (a en).bind fun x => if x = true then b en else some false
noncomputable def bOr (a b : DE → Option Bool) : DE → Option Bool := fun en => (a en).bind fun x => if x = true then some true else b en
noncomputable def bNot (a : DE → Option Bool) : DE → Option Bool := fun en => (a en).map not
noncomputable def bYes : DE → Option Bool := fun _ => some true
noncomputable def wAnd (a b : FW) : FW := fun en => (a en).bind fun x => (asB x).bind fun c => if c = true then ((b en).bind fun y => (asB y).map PyData.bool) else some (.bool false)
noncomputable def wOr (a b : FW) : FW := fun en => (a en).bind fun x => (asB x).bind fun c => if c = true then some (.bool true) else ((b en).bind fun y => (asB y).map PyData.bool)
noncomputable def wNot (a : FW) : FW := fun en => (a en).bind fun x => (asB x).map fun c => PyData.bool (!c)
noncomputable def wIf (t : DE → Option Bool) (a b : FW) : FW := fun en => (t en).bind fun c => if c = true then a en else b en
noncomputable def big (ds : List PyData) : Bool := decide (ds.length ≤ 100000)
noncomputable def wLst (a : DE → Option (List PyData)) : FW := fun en => (a en).bind fun ds => if big ds = true then some (.list ds) else none
noncomputable def wTup (a : DE → Option (List PyData)) : FW := fun en => (a en).bind fun ds => if big ds = true then some (.tuple ds) else none
noncomputable def pNo : DE → Option (Option Int) := fun _ => some none
noncomputable def asI : PyData → Option Int
 | .int b => some b
 | _ => none
noncomputable def pSo (a : FW) : DE → Option (Option Int) := fun en => (a en).bind fun x => (asI x).map some
noncomputable def wSl (o : PyData → Option Int → Option Int → Option PyData) (a : FW) (l h : DE → Option (Option Int)) : FW := fun en => (a en).bind fun x => (l en).bind fun i => (h en).bind fun j => o x i j
theorem bnd {α β : Type} {a : Option α} {f : α → Option β} {b : β} (h : a.bind f = some b) : ∃ x, a = some x ∧ f x = some b := Option.bind_eq_some_iff.mp h
theorem Zd4 {x : PyData} {b : Bool} (h : asB x = some b) : x = .bool b := by
 cases x <;> simp [asB] at h
 rw [h]
theorem ZlW {x : PyData} {b : Int} (h : asI x = some b) : x = .int b := by
 cases x <;> simp [asI] at h
 rw [h]
theorem ZV {H : Hp} {x : V} (h : ∀ p, x ≠ .ref p) : Fr H x := fun p hp => absurd hp (h p)
theorem Zd1 {H : Hp} {p : Addr} (h : H p = none) : Fr H (.ref p) := fun q hq => by cases hq; exact h
theorem EvN.toF {te : TE} {σ : L2.St} {G : Hp} {d : PyData} (h : EvN te σ G d) : EvF te σ G d := fun H gh Q q => h H gh Q fun p H2 e2 hp dz => q _ H2 e2 (Zd1 hp) dz
section
variable {K : PySem.W.Frag} {w : World} {te ta tb tc : TE} {tt tu : TT} {a b c : FW} {p q : DE → Option Bool} {r : R2}
theorem Za {i : Nat} : SW (tVar i) (wV i) := ⟨fun {en σ G d} h e => by
 unfold wV at e
 have e' : en[i]? = some (some d) := by
  cases z : en[i]? with
  | none => rw [z] at e; cases e
  | some o => rw [z] at e; cases o with
   | none => cases e
   | some y => cases e; rfl
 obtain ⟨v, h1, h2⟩ := h.get i d e'
 exact Zh h1 h2⟩
theorem ZkP {v : V} {d : PyData} (hd : ∀ G, Dt G v d) (hv : ∀ p, v ≠ .ref p) : SF (tC v) (wC d) := ⟨fun _ e H gh Q k => by cases e; exact k v H (Ex.refl H) (ZV hv) (hd _)⟩
theorem Ze {i : Int} : SF (tC (.int i)) (wC (.int i)) := ZkP (fun _ => .int i) (fun _ z => nomatch z)
theorem ZI {i : Str} : SF (tC (.str i)) (wC (.str i)) := ZkP (fun _ => .str i) (fun _ z => nomatch z)
theorem Zfa {i : Bool} : SF (tC (.bl i)) (wC (.bool i)) := ZkP (fun _ => .bl i) (fun _ z => nomatch z)
theorem ZlS : SF (tC .non) (wC .none) := ZkP (fun _ => .non) (fun _ z => nomatch z)
theorem ZiW {G H H1 H2 H3 : Hp} (gh : Ex G H) (e1 : Ex H H1) (e2 : Ex H1 H2) (e3 : Ex H2 H3) : Ex (grow (grow (grow G H H1) H1 H2) H2 H3) (grow G H H3) :=
 (ZU (G := grow G H H1) e2 e3).trans (ZU e1 (e2.trans e3))
theorem ZY {o : PyData → PyData → Option PyData} (ho : OpOk r o) (ha : SW ta a) (hb : SW tb b) : SW (tOp r ta tb) (wOp o a b) := ⟨fun {en σ G d} h e H gh Q k => by
 obtain ⟨x, hx, e⟩ := bnd e
 obtain ⟨y, hy, e⟩ := bnd e
 refine ha h hx H gh _ fun v H1 e1 dv => (hb h hy).mono (Zm gh) H1 (Zg gh e1) _ fun u H2 e2 du => ?_
 refine ho (dv.up (Zm (Zg gh e1))) du e (Zg (Zg gh e1) e2) fun z H3 e3 dz => k z H3 ((e1.trans e2).trans e3) (dz.up (ZiW gh e1 e2 e3))⟩
theorem Zs {o : PyData → PyData → Option PyData} (ho : OpF r o) (ha : SW ta a) (hb : SW tb b) : SF (tOp r ta tb) (wOp o a b) := ⟨fun {en σ G d} h e H gh Q k => by
 obtain ⟨x, hx, e⟩ := bnd e
 obtain ⟨y, hy, e⟩ := bnd e
 refine ha h hx H gh _ fun v H1 e1 dv => (hb h hy).mono (Zm gh) H1 (Zg gh e1) _ fun u H2 e2 du => ?_
 refine ho (dv.up (Zm (Zg gh e1))) du e (Zg (Zg gh e1) e2) fun z H3 e3 fz dz => k z H3 ((e1.trans e2).trans e3) (fz.back (e1.trans e2)) (dz.up (ZiW gh e1 e2 e3))⟩
theorem Zfh {rr : V → Hp → VK → Prop} {o : PyData → Option PyData} (ho : UnOk rr o) (ha : SW ta a) : SW (tUn rr ta) (wUn o a) := ⟨fun {en σ G d} h e H gh Q k => by
 obtain ⟨x, hx, e⟩ := bnd e
 exact ha h hx H gh _ fun v H1 e1 dv => ho dv e (Zg gh e1) fun z H3 e3 dz => k z H3 (e1.trans e3) (dz.up (ZU e1 e3))⟩
theorem Zf : SA tNil aNil := ⟨fun _ e => by cases e; exact ea0⟩
theorem Zb {tr : TA} {s : DE → Option (List PyData)} (ha : SW ta a) (hr : SA tr s) : SA (tCons ta tr) (aCons a s) := ⟨fun h e => by
 obtain ⟨x, hx, e⟩ := bnd e
 obtain ⟨xs, hxs, e⟩ := bnd e
 cases e
 exact ea1 (ha h hx) (hr h hxs)⟩
theorem Zat {tr : TA} {s : DE → Option (List PyData)} {rr : List V → Hp → VK → Prop} {o : List PyData → Option PyData} (ho : CbF rr o) (ha : SA tr s) : SF (tCB rr tr) (wCb o s) := ⟨fun {en σ G d} h e H gh Q k => by
 obtain ⟨x, hx, e⟩ := bnd e
 exact ha h hx H gh _ fun v H1 e1 dv => ho dv e (Zg gh e1) fun z H3 e3 fz dz => k z H3 (e1.trans e3) (fz.back e1) (dz.up (ZU e1 e3))⟩
theorem Zda {tr : TA} {s : DE → Option (List PyData)} (ha : SA tr s) : SF (tLst tr) (wLst s) := ⟨fun h e => by
 obtain ⟨x, hx, e⟩ := bnd e
 split at e
 ·rename_i hb
  cases e
  exact (Zri (ha h hx) (of_decide_eq_true hb)).toF
 ·cases e⟩
theorem ZlQ {tr : TA} {s : DE → Option (List PyData)} (ha : SA tr s) : SF (tTup tr) (wTup s) := ⟨fun h e => by
 obtain ⟨x, hx, e⟩ := bnd e
 split at e
 ·rename_i hb
  cases e
  exact (ZqD (ha h hx) (of_decide_eq_true hb)).toF
 ·cases e⟩
theorem Zje (ha : SW ta a) : SB (tB ta) (bW a) := ⟨fun h e => by
 obtain ⟨x, hx, e⟩ := bnd e
 obtain rfl := Zd4 e
 exact Zeb (ha h hx)⟩
theorem Zan (ha : SW ta a) : SB (tTest ta) (bW a) := ⟨fun h e => by
 obtain ⟨x, hx, e⟩ := bnd e
 obtain rfl := Zd4 e
 exact Z0 (ha h hx)⟩
theorem ZrO (h1 : SB tt p) (h2 : SB tu q) : SB (tAnd tt tu) (bAnd p q) := ⟨fun {en σ G v} h e => by
 obtain ⟨x, hx, e⟩ := bnd e
 cases x with
 | true => exact EvB.eq (ZlL (h1 h hx) fun _ => h2 h e) rfl
 | false => cases e; exact EvB.eq (b := false) (ZlL (b := false) (h1 h hx) fun z => nomatch z) rfl⟩
theorem Zte (h1 : SB tt p) (h2 : SB tu q) : SB (tOr tt tu) (bOr p q) := ⟨fun {en σ G v} h e => by
 obtain ⟨x, hx, e⟩ := bnd e
 cases x with
 | true => cases e; exact EvB.eq (b := true) (Zec (b := true) (h1 h hx) fun z => nomatch z) rfl
 | false => exact EvB.eq (Zec (h1 h hx) fun _ => h2 h e) rfl⟩
theorem Zge (h1 : SB tt p) : SB (tNot tt) (bNot p) := ⟨fun {en σ G v} h e => by
 obtain ⟨x, hx, e⟩ := Option.map_eq_some_iff.mp e
 exact EvB.eq (Zi4 (h1 h hx)) e⟩
theorem ZgK : SB tYes bYes := ⟨fun h e => by cases e; exact Ziu⟩
theorem Zqo (h1 : SW ta a) : SW (tNotV ta) (wNot a) := ⟨fun h e => by
 obtain ⟨x, hx, e⟩ := bnd e
 obtain ⟨c, hc, e⟩ := Option.map_eq_some_iff.mp e
 obtain rfl := Zd4 hc
 cases e
 exact Zr8 (h1 h hx)⟩
theorem ZnE (h0 : SB tt p) (h1 : SW ta a) (h2 : SW tb b) : SW (tIf tt ta tb) (wIf p a b) := ⟨fun h e => by
 obtain ⟨x, hx, e⟩ := bnd e
 cases x with
 | true => exact ZnL (h0 h hx) (fun _ => h1 h e) fun z => nomatch z
 | false => exact ZnL (h0 h hx) (fun z => nomatch z) fun _ => h2 h e⟩
structure SlF (r : V → Option Int → Option Int → Hp → VK → Prop) (o : PyData → Option Int → Option Int → Option PyData) : Prop where
 run : ∀ {x : V} {G : Hp} {i j : Option Int} {a d : PyData}, Dt G x a → o a i j = some d → ∀ {H : Hp}, Ex G H → ∀ {Q : VK}, (∀ z H2, Ex H H2 → Fr H z → Dt (grow G H H2) z d → Q z H2) → r x i j H Q
instance {r : V → Option Int → Option Int → Hp → VK → Prop} {o : PyData → Option Int → Option Int → Option PyData} : CoeFun (SlF r o) (fun _ => ∀ {x : V} {G : Hp} {i j : Option Int} {a d : PyData}, Dt G x a → o a i j = some d → ∀ {H : Hp}, Ex G H → ∀ {Q : VK}, (∀ z H2, Ex H H2 → Fr H z → Dt (grow G H H2) z d → Q z H2) → r x i j H Q) := ⟨fun h => h.run⟩
/-- a ∘ b ∘ c -/
noncomputable def wChain (o o2 : PyData → PyData → Option PyData) (a b c : FW) : FW := fun en => (a en).bind fun x => (b en).bind fun y => (o x y).bind fun k => (asB k).bind fun t => if t = true then (c en).bind fun z => o2 y z else some (.bool false)
theorem Zi2 {r r2 : R2} {o o2 : PyData → PyData → Option PyData} (ho : OpOk r o) (ho2 : OpOk r2 o2) (ha : SW ta a) (hb : SW tb b) (hc : SW tc c) : SW (tChain r r2 ta tb tc) (wChain o o2 a b c) := ⟨fun {en σ G d} h e H gh Q k => by
 obtain ⟨x, hx, e⟩ := bnd e
 obtain ⟨y, hy, e⟩ := bnd e
 obtain ⟨kk, hk, e⟩ := bnd e
 obtain ⟨t, ht, f⟩ := bnd e
 clear e
 obtain rfl := Zd4 ht
 refine ha h hx H gh _ fun v H1 e1 dv => (hb h hy).mono (Zm gh) H1 (Zg gh e1) _ fun u H2 e2 du => ?_
 have g2 := Zg (Zg gh e1) e2
 refine ho (dv.up (Zm (Zg gh e1))) du hk g2 fun z H3 e3 dz => ?_
 obtain rfl := dz.ob
 refine ⟨t, rfl, ?_⟩
 cases t with
 | true =>
  rw [if_pos rfl] at f
  obtain ⟨zz, hz, f⟩ := bnd f
  show tc σ H3 _
  have g3 := g2.trans e3
  have gg : Ex G (grow (grow G H H1) H1 H2) := (Zm gh).trans (Zm (Zg gh e1))
  refine (hc h hz).mono gg H3 g3 _ fun s H4 e4 ds => ?_
  refine ho2 (du.up (Zm g3)) ds f (Zg g3 e4) fun z5 H5 e5 dz5 => k z5 H5 (((e1.trans e2).trans e3).trans (e4.trans e5)) ?_
  refine dz5.up ((ZU e4 e5).trans fun a o hh => ?_)
  cases p3 : H3 a with
  | none =>
   rw [Zv p3] at hh
   rw [Zv (fresh_back ((e1.trans e2).trans e3) p3)]
   exact hh
  | some uu =>
   rw [Zo p3] at hh
   exact (ZU e1 e2).trans (ZgP (e3.trans (e4.trans e5))) a o hh
 | false =>
  cases f
  exact k _ H3 ((e1.trans e2).trans e3) (.bl _)⟩
end
end Kb
namespace Kb
open PySem L2 Evl
/-- what is gone through, as data -/
structure SI (wi : TI) (it : DE → Option (List PyData)) : Prop where
 run : ∀ {en : DE} {σ : L2.St} {G : Hp} {ds : List PyData}, DRel en σ G → it en = some ds → ∀ {H : Hp}, Ex G H → ∀ {R : It → Hp → Prop},
 (∀ J H1 Gd Y, Ex H H1 → Walk J ds.length Gd Y → (∀ H', Ex (grow G H H1) H' → Gd H') → (∀ i x Ha Hb Gi, i < ds.length → Ex (grow G H H1) Gi → Ex Gi Ha → Y i Ha x Hb → Ex Ha Hb ∧ ∃ d, ds[i]? = some d ∧ Dt (grow Gi Ha Hb) x d) → R J H1) → wi σ H R
instance {wi : TI} {it : DE → Option (List PyData)} : CoeFun (SI wi it) (fun _ => ∀ {en : DE} {σ : L2.St} {G : Hp} {ds : List PyData}, DRel en σ G → it en = some ds → ∀ {H : Hp}, Ex G H → ∀ {R : It → Hp → Prop},
 (∀ J H1 Gd Y, Ex H H1 → Walk J ds.length Gd Y → (∀ H', Ex (grow G H H1) H' → Gd H') → (∀ i x Ha Hb Gi, i < ds.length → Ex (grow G H H1) Gi → Ex Gi Ha → Y i Ha x Hb → Ex Ha Hb ∧ ∃ d, ds[i]? = some d ∧ Dt (grow Gi Ha Hb) x d) → R J H1) → wi σ H R) := ⟨fun h => h.run⟩
/-- what a target binds -/
structure SG (g : TG) (bd : PyData → DE → Option DE) (js : List Nat) : Prop where
 run : ∀ {x : V} {d : PyData} {σ : L2.St} {G H : Hp} {en en' : DE}, Dt G x d → Ex G H → bd d en = some en' → DRel en σ G → ∀ {R : L2.St → Hp → Prop}, (∀ σ', DRel en' σ' G → (∀ vs : List Nat, (∀ j ∈ js, j ∈ vs) → wipe σ' vs = wipe σ vs) → R σ' H) → g x σ H R
instance {g : TG} {bd : PyData → DE → Option DE} {js : List Nat} : CoeFun (SG g bd js) (fun _ => ∀ {x : V} {d : PyData} {σ : L2.St} {G H : Hp} {en en' : DE}, Dt G x d → Ex G H → bd d en = some en' → DRel en σ G → ∀ {R : L2.St → Hp → Prop}, (∀ σ', DRel en' σ' G → (∀ vs : List Nat, (∀ j ∈ js, j ∈ vs) → wipe σ' vs = wipe σ vs) → R σ' H) → g x σ H R) := ⟨fun h => h.run⟩
structure SGs (g : TGs) (bd : List PyData → DE → Option DE) (js : List Nat) : Prop where
 run : ∀ {xs : List V} {ds : List PyData} {σ : L2.St} {G H : Hp} {en en' : DE}, DtAll G xs ds → Ex G H → bd ds en = some en' → DRel en σ G → ∀ {R : L2.St → Hp → Prop}, (∀ σ', DRel en' σ' G → (∀ vs : List Nat, (∀ j ∈ js, j ∈ vs) → wipe σ' vs = wipe σ vs) → R σ' H) → g xs σ H R
instance {g : TGs} {bd : List PyData → DE → Option DE} {js : List Nat} : CoeFun (SGs g bd js) (fun _ => ∀ {xs : List V} {ds : List PyData} {σ : L2.St} {G H : Hp} {en en' : DE}, DtAll G xs ds → Ex G H → bd ds en = some en' → DRel en σ G → ∀ {R : L2.St → Hp → Prop}, (∀ σ', DRel en' σ' G → (∀ vs : List Nat, (∀ j ∈ js, j ∈ vs) → wipe σ' vs = wipe σ vs) → R σ' H) → g xs σ H R) := ⟨fun h => h.run⟩
noncomputable def bName (j : Nat) : PyData → DE → Option DE := fun d en => some (en.set j (some d))
noncomputable def bNil : List PyData → DE → Option DE
 | [], en => some en
 | _, _ => none
noncomputable def bCons (b : PyData → DE → Option DE) (r : List PyData → DE → Option DE) : List PyData → DE → Option DE
 | d :: ds, en => (b d en).bind (r ds)
 | [], _ => none
noncomputable def bTup (n : Nat) (r : List PyData → DE → Option DE) : PyData → DE → Option DE
 | .tuple ds, en => if ds.length = n then r ds en else none
 | _, _ => none
noncomputable def bLst (n : Nat) (r : List PyData → DE → Option DE) : PyData → DE → Option DE
 | .list ds, en => if ds.length = n then r ds en else none
 | _, _ => none
theorem ZfW {σ : L2.St} {j : Nat} {x : Option V} : ∀ {vs : List Nat}, j ∈ vs → wipe (σ.set j x) vs = wipe σ vs
 | v :: vs, h => by
  unfold wipe
  by_cases hj : j ∈ vs
  ·rw [ZfW hj]
  ·obtain rfl : j = v := by rcases List.mem_cons.mp h with h | h; exact h; exact absurd h hj
   have : ∀ vs : List Nat, j ∉ vs → wipe (σ.set j x) vs = (wipe σ vs).set j x := by
    intro vs
    induction vs with
    | nil => intro _; rfl
    | cons v vs ih =>
     intro hn
     unfold wipe
     rw [ih (fun z => hn (List.mem_cons_of_mem _ z)), List.set_comm]
     exact fun z => hn (by rw [z]; exact List.mem_cons_self)
   rw [this vs hj, List.set_set]
theorem Zhf {σ : L2.St} (vs : List Nat) : wipe (wipe σ vs) vs = wipe σ vs := by
 have : ∀ (us : List Nat), (∀ u ∈ us, u ∈ vs) → wipe (wipe σ us) vs = wipe σ vs := by
  intro us
  induction us with
  | nil => intro _; rfl
  | cons u us ih =>
   intro h
   show wipe ((wipe σ us).set u none) vs = _
   rw [ZfW (h u List.mem_cons_self), ih fun z hz => h z (List.mem_cons_of_mem _ hz)]
 exact this vs fun _ h => h
theorem DRel.drop {en : DE} {σ : L2.St} {G : Hp} (h : DRel en σ G) (j : Nat) : DRel (en.set j none) (σ.set j none) G := by
 refine ⟨by simp [h.len], fun i e hi => ?_⟩
 by_cases z : j = i
 ·subst z
  by_cases hl : j < en.length
  ·rw [List.getElem?_set_self hl] at hi
   cases hi
  ·rw [List.getElem?_eq_none (by simp; omega)] at hi
   cases hi
 ·rw [List.getElem?_set_ne z] at hi ⊢
  exact h.get i e hi
theorem DRel.wipe {en : DE} {σ : L2.St} {G : Hp} (h : DRel en σ G) : ∀ vs : List Nat, DRel (wipeD en vs) (L2.wipe σ vs) G
 | [] => h
 | v :: vs => (h.wipe vs).drop v
theorem Zg9 {j : Nat} : SG (gName j) (bName j) [j] := ⟨fun dx gh e h _ k => by
 cases e
 exact k _ (h.set dx) fun vs hv => ZfW (hv j List.mem_cons_self)⟩
theorem ZpI : SGs gNil bNil [] := ⟨fun {xs ds σ G H en en'} dx gh e h _ k => by
 cases ds with
 | nil => cases dx; cases e; exact ⟨rfl, k _ h fun _ _ => rfl⟩
 | cons d ds => cases e⟩
theorem Ziz {g : TG} {gs : TGs} {b : PyData → DE → Option DE} {r : List PyData → DE → Option DE} {js ks : List Nat} (h1 : SG g b js) (h2 : SGs gs r ks) : SGs (gCons g gs) (bCons b r) (js ++ ks) := ⟨fun {xs ds σ G H en en'} dx gh e h _ k => by
 cases ds with
 | nil => cases e
 | cons d ds =>
  obtain ⟨en1, he1, e⟩ := bnd e
  cases dx with
  | cons dv dvs =>
   exact ⟨_, _, rfl, h1 dv gh he1 h fun σ1 h1' w1 => h2 dvs gh e h1' fun σ2 h2' w2 => k σ2 h2' fun vs hv => (w2 vs fun j hj => hv j (List.mem_append_right _ hj)).trans (w1 vs fun j hj => hv j (List.mem_append_left _ hj))⟩⟩
theorem Zqv {K : PySem.W.Frag} {n : Nat} {gs : TGs} {r : List PyData → DE → Option DE} {js : List Nat} (h1 : SGs gs r js) : SG (gTup K n gs) (bTup n r) js := ⟨fun {x d σ G H en en'} dx gh e h _ k => by
 cases d <;> try (cases e; done)
 rename_i ds
 have e : (if ds.length = n then r ds en else none) = some en' := e
 split at e
 ·obtain ⟨a, xs, rfl, ha, r⟩ := dx.ot
  exact ⟨a, xs, rfl, st_of (gh _ _ ha), by rw [r.len]; assumption, h1 r gh e h k⟩
 ·cases e⟩
noncomputable def lcGo (bd : PyData → DE → Option DE) (cond : DE → Option Bool) (elt : FW) (en : DE) : List PyData → Option (List PyData)
 | [] => some []
 | d :: ds => (bd d en).bind fun en' => (cond en').bind fun c => if c = true then (elt en').bind fun y => (lcGo bd cond elt en ds).map (y :: ·) else lcGo bd cond elt en ds
noncomputable def wLc (it : DE → Option (List PyData)) (bd : PyData → DE → Option DE) (cond : DE → Option Bool) (elt : FW) (vs : List Nat) : FW := fun en => (it en).bind fun ds => if ds.length ≤ 50000 then (lcGo bd cond elt (wipeD en vs) ds).map PyData.list else none
theorem Ze1 {bd : PyData → DE → Option DE} {cond : DE → Option Bool} {elt : FW} {en : DE} : ∀ {ds ys : List PyData}, lcGo bd cond elt en ds = some ys →
  ys = (ds.filter fun d => decide ((bd d en).bind cond = some true)).map (fun d => ((bd d en).bind elt).getD .none) ∧ ∀ d ∈ ds, ∃ en', bd d en = some en' ∧ cond en' = some (decide ((bd d en).bind cond = some true)) ∧ (decide ((bd d en).bind cond = some true) = true → elt en' = some (((bd d en).bind elt).getD .none))
 | [], ys, h => by cases h; exact ⟨rfl, fun d hd => nomatch hd⟩
 | d :: ds, ys, h => by
  obtain ⟨en', he, h1⟩ := bnd h
  obtain ⟨c, hc, h2⟩ := bnd h1
  have hb : (bd d en).bind cond = some c := by rw [he]; exact hc
  cases c with
  | true =>
   rw [if_pos rfl] at h2
   obtain ⟨y, hy, h3⟩ := bnd h2
   obtain ⟨zs, hz, h4⟩ := Option.map_eq_some_iff.mp h3
   obtain ⟨i1, i2⟩ := Ze1 hz
   have hd : decide ((bd d en).bind cond = some true) = true := decide_eq_true hb
   have hf : ((bd d en).bind elt).getD .none = y := by rw [he]; show (elt en').getD .none = y; rw [hy]; rfl
   refine ⟨?_, fun e he' => ?_⟩
   ·rw [List.filter_cons, if_pos hd, List.map_cons, hf, ← i1, h4]
   ·rcases List.mem_cons.mp he' with rfl | q
    ·exact ⟨en', he, by rw [hd]; exact hc, fun _ => by rw [hf]; exact hy⟩
    ·exact i2 e q
  | false =>
   rw [if_neg Bool.false_ne_true] at h2
   obtain ⟨i1, i2⟩ := Ze1 h2
   have hd : decide ((bd d en).bind cond = some true) = false := decide_eq_false (by rw [hb]; intro z; cases z)
   refine ⟨?_, fun e he' => ?_⟩
   ·rw [List.filter_cons, if_neg (by rw [hd]; exact Bool.false_ne_true), ← i1]
   ·rcases List.mem_cons.mp he' with rfl | q
    ·exact ⟨en', he, by rw [hd]; exact hc, fun z => by rw [hd] at z; cases z⟩
    ·exact i2 e q
section
variable {K : PySem.W.Frag} {w : World} {σ : L2.St} {G G' H : Hp} {te ta tb tl : TE} {tt : TT}
theorem Zqt {J : It} {n : Nat} {Gd : Hp → Prop} {Y : Nat → Hp → V → Hp → Prop} (wk : Walk J n Gd Y) {g : TG} {vs : List Nat} {H1 : Hp} {Q : VK} (gh : Ex G H1) (hn : n ≤ 50000) (hG : ∀ H', Ex H1 H' → Gd H')
  (p : Nat → Bool) (f : Nat → PyData)
  (hs : ∀ i x H H' Gi, i < n → Ex G Gi → Ex Gi H → Ex H1 H → Y i H x H' → Ex H H' ∧ ∀ R : L2.St → Hp → Prop, (∀ σ2, wipe σ2 vs = wipe σ vs → EvB tt σ2 (grow Gi H H') (p i) → (p i = true → EvX te σ2 (grow Gi H H') (f i)) → R σ2 H') → g x (wipe σ vs) H' R)
  (q : ∀ D H2, Ex H1 H2 → H1 D = none → Dt (grow G H1 H2) (.ref D) (.list (((List.range n).filter p).map f)) → Q (.ref D) H2) :
  ∀ D, H1 D = none → ∃ W : Nat → Nat → Hp → Prop, (∃ m, W 0 m (upd H1 D (.lst []))) ∧ ∀ i m H, W i m H →
   (J.stop i H ∧ Q (.ref D) H) ∨ (J.go i H ∧ ∃ Nx : Hp → Prop, (∀ H', Nx H' → ∃ m', m' < m ∧ W (i + 1) m' H') ∧ ∀ x H', J.yld i H x H' → g x (wipe σ vs) H' fun σ2 H2 => wipe σ2 vs = wipe σ vs ∧ tt σ2 H2 fun b H3 =>
    if b = true then te σ2 H3 fun y H4 => ∃ acc, H4 D = some (.lst acc) ∧ acc.length < sizeLine ∧ Nx (upd H4 D (.lst (acc ++ [y]))) else Nx H3) := by
 intro D hD
 refine lc_it wk (Qd := fun H => Q (.ref D) H) (fun i H => Ex H1 H ∧ ∃ xs Gi, H D = some (.lst xs) ∧ Ex G Gi ∧ Ex Gi H ∧ Gi D = none ∧ (∀ a o u, Gi a = some o → H1 a = some u → G a = some o) ∧ DtAll Gi xs (((List.range i).filter p).map f)) ?_ ?_ ?_ ?_
 ·exact ⟨Ex.new hD, [], G, upd_same, Ex.refl G, gh.trans (Ex.new hD), fresh_back gh hD, fun a o u h _ => h, .nil⟩
 ·rintro i H hi ⟨e1, _⟩
  exact hG H e1
 ·rintro i x H H' hi ⟨e1, xs, Gi, hL, g1, g2, g3, g4, hd⟩ hy
  have hlen : xs.length ≤ i := by
   rw [hd.len, List.length_map]
   have := List.length_filter_le p (List.range i)
   rw [List.length_range] at this
   exact this
  obtain ⟨eHH, hs⟩ := hs i x H H' Gi hi g1 g2 e1 hy
  refine hs _ fun σ2 hw hb he => ⟨hw, ?_⟩
  have g2' : Ex (grow Gi H H') H' := Zg g2 eHH
  have g3' : grow Gi H H' D = none := ZfX hL g3
  have g4' : ∀ a o u, grow Gi H H' a = some o → H1 a = some u → G a = some o := fun a o u h h1 => by
   rw [Zo (e1 _ _ h1)] at h
   exact g4 a o u h h1
  have g1' : Ex G (grow Gi H H') := g1.trans (Zm g2)
  have hL' : H' D = some (.lst xs) := eHH _ _ hL
  have e1' : Ex H1 H' := e1.trans eHH
  have hd' := hd.up (Zm (H2 := H') g2)
  generalize grow Gi H H' = Gj at *
  refine hb H' g2' _ fun H3 e3 => ?_
  cases hp : p i with
  | true =>
   refine iteT ?_
   refine he hp H3 (g2'.trans e3) _ fun y H4 e4 dy => ⟨xs, e4 _ _ (e3 _ _ hL'), sz_lt (by omega), ?_⟩
   have gD : grow Gj H3 H4 D = none := ZfX (e3 _ _ hL') g3'
   refine ⟨(e1'.trans (e3.trans e4)).mut hD, xs ++ [y], grow Gj H3 H4, upd_same, g1'.trans (Zm (g2'.trans e3)), (Zg (g2'.trans e3) e4).mut gD, gD, fun a o u h h1 => ?_, ?_⟩
   ·rw [Zo (e3 _ _ (e1' _ _ h1))] at h
    exact g4' a o u h h1
   ·rw [List.range_succ, List.filter_append, List.map_append, List.filter_cons, if_pos hp]
    exact (hd'.up (Zm (g2'.trans e3))).snoc dy
  | false =>
   refine iteF ?_
   refine ⟨e1'.trans e3, xs, Gj, e3 _ _ hL', g1', g2'.trans e3, g3', g4', ?_⟩
   rw [List.range_succ, List.filter_append, List.map_append, List.filter_cons, if_neg (by rw [hp]; decide)]
   show DtAll Gj xs (_ ++ [])
   rw [List.append_nil]
   exact hd'
 ·rintro H ⟨e1, xs, Gi, hL, g1, g2, g3, g4, hd⟩
  refine q D H e1 hD (.lst (by rw [Zv hD]; exact hL) (hd.up fun a o h => ?_))
  cases z : H1 a with
  | none =>
   rw [Zv z]
   exact g2 a o h
  | some u =>
   rw [Zo z]
   exact g4 a o u h z
end
theorem Zto {wi : TI} {g : TG} {tt : TT} {te : TE} {it : DE → Option (List PyData)} {bd : PyData → DE → Option DE} {cond : DE → Option Bool} {elt : FW} {vs js : List Nat} (hi : SI wi it) (hg : SG g bd js) (hjs : ∀ j ∈ js, j ∈ vs) (ht : SB tt cond) (he : SW te elt) :
  SF (tLc wi g tt te vs) (wLc it bd cond elt vs) := ⟨fun {en σ G d} h e H gh Q q => by
 obtain ⟨ds, hds, e1⟩ := bnd e
 split at e1
 case isFalse => cases e1
 rename_i hlen
 obtain ⟨ys, hys, rfl⟩ := Option.map_eq_some_iff.mp e1
 obtain ⟨hy, hall⟩ := Ze1 hys
 refine hi h hds gh fun J H1 Gd Y e1 wk hGd hY => ?_
 have gh1 := Zg gh e1
 refine Zqt (G := grow G H H1) wk gh1 hlen (fun H' e' => hGd H' (gh1.trans e')) (fun i => decide ((bd (ds.getD i .none) (wipeD en vs)).bind cond = some true)) (fun i => ((bd (ds.getD i .none) (wipeD en vs)).bind elt).getD .none) ?_ ?_
 ·intro i x Ha Hb Gi hin g1 g2 e2 hyy
  obtain ⟨eab, dd, hdd, dx⟩ := hY i x Ha Hb Gi hin g1 g2 hyy
  have eg : ds.getD i .none = dd := by rw [List.getD_eq_getElem?_getD, hdd]; rfl
  refine ⟨eab, fun R k => ?_⟩
  rw [eg] at k
  obtain ⟨en', hb1, hb2, hb3⟩ := hall dd (List.mem_of_getElem? hdd)
  have hr : DRel (wipeD en vs) (wipe σ vs) (grow Gi Ha Hb) := (h.wipe vs).mono (((Zm gh).trans g1).trans (Zm g2))
  refine hg dx (Zg g2 eab) hb1 hr fun σ' hr' hw => ?_
  exact k σ' ((hw vs hjs).trans (Zhf vs)) (ht hr' hb2) fun z => he hr' (hb3 z)
 ·intro D H2 e2 hD dD
  rw [Zlc (fun d => decide ((bd d (wipeD en vs)).bind cond = some true)) (fun d => ((bd d (wipeD en vs)).bind elt).getD .none) ds _ _ (fun i dd hdi => by rw [List.getD_eq_getElem?_getD, hdi]; exact ⟨rfl, rfl⟩), ← hy] at dD
  exact q _ H2 (e1.trans e2) (Zd1 (fresh_back e1 hD)) (dD.up (ZU e1 e2))⟩
noncomputable def asL : PyData → Option (List PyData)
 | .list ds => some ds
 | _ => none
noncomputable def asT : PyData → Option (List PyData)
 | .tuple ds => some ds
 | _ => none
noncomputable def signs (s : Str) : List PyData := s.cps.toList.map fun c => PyData.str (sg c)
noncomputable def asS : PyData → Option Str
 | .str s => some s
 | _ => none
noncomputable def itL (a : FW) : DE → Option (List PyData) := fun en => (a en).bind asL
noncomputable def itT (a : FW) : DE → Option (List PyData) := fun en => (a en).bind asT
noncomputable def itS (a : FW) : DE → Option (List PyData) := fun en => (a en).bind fun x => (asS x).map signs
noncomputable def rgI (lo : Int) (n : Nat) : List PyData := (List.range n).map fun i => PyData.int (lo + (i : Nat))
noncomputable def okI (i : Int) : Bool := Nat.ble i.natAbs 100000
theorem ZlT {i : Int} (h : -100000 ≤ i) (g : i ≤ 100000) : okI i = true := Nat.ble_eq.mpr (by omega)
noncomputable def rg1 : List PyData → Option (List PyData)
 | [.int j] => if okI j = true then some (rgI 0 j.toNat) else none
 | _ => none
noncomputable def enumD (ds : List PyData) : List PyData := (List.range ds.length).map fun i => PyData.tuple [.int (i : Nat), ds.getD i .none]
noncomputable def en1 : List PyData → Option (List PyData)
 | [.list ds] => some (enumD ds)
 | _ => none
noncomputable def itA (o : List PyData → Option (List PyData)) (a : DE → Option (List PyData)) : DE → Option (List PyData) := fun en => (a en).bind o
theorem Zk8 {x : PyData} {b : List PyData} (h : asL x = some b) : x = .list b := by
 cases x <;> simp [asL] at h
 rw [h]
section
variable {K : PySem.W.Frag} {w : World} {te ta tb tl : TE} {a b : FW}
theorem ZjF (ha : SW ta a) : SI (iList K ta) (itL a) := ⟨fun {en σ G ds} h e H gh R k => by
 obtain ⟨x, hx, e⟩ := bnd e
 obtain rfl := Zk8 e
 refine ha h hx H gh _ fun v H1 e1 dv => ?_
 obtain ⟨p, xs, rfl, hp, r⟩ := dv.ol
 have g1 := Zg gh e1
 refine ⟨p, rfl, ⟨xs, sq_of (g1 _ _ hp)⟩, k _ H1 _ _ e1 (r.len ▸ walk_list (K := K) (a := p) (xs := xs)) (fun H' e' => sq_of (e' _ _ hp)) fun i x Ha Hb Gi hi gg gi hy => ?_⟩
 obtain ⟨rfl, hxi⟩ := hy
 obtain ⟨dd, hd, ddt⟩ := r.at' hxi
 exact ⟨Ex.refl _, dd, hd, (ddt.up gg).up (Zm gi)⟩⟩
theorem ZrC {lo : Int} {n i : Nat} (h : i < n) : (rgI lo n)[i]? = some (.int (lo + (i : Nat))) := by
 unfold rgI
 rw [List.getElem?_map, List.getElem?_range h]
 rfl
theorem Zki {lo : Int} {n : Nat} : (rgI lo n).length = n := by simp [rgI]
theorem ZsL {i : Int} (h : okI i = true) : -100000 ≤ i ∧ i ≤ 100000 := by
 have := Nat.ble_eq.mp h
 omega
theorem Zef {ta : TA} {s : DE → Option (List PyData)} {R : List PyData → PyData → Prop} {f : List PyData → Option PyData} (hf : ∀ {ds d}, f ds = some d → R ds d) (ha : SA ta s) : SW (tCall (PSp R) [] E0 ta) (wCb f s) := ⟨fun h e => by
 obtain ⟨x, hx, e⟩ := bnd e
 exact ZdR (ha h hx) (hf e)⟩
end
end Kb
namespace Kb
open PySem L2 Evl
noncomputable def asLI : List PyData → Option (List Int)
 | [] => some []
 | d :: ds => (asI d).bind fun i => (asLI ds).map (i :: ·)
noncomputable def asLB : List PyData → Option (List Bool)
 | [] => some []
 | d :: ds => (asB d).bind fun i => (asLB ds).map (i :: ·)
theorem Zka : ∀ {ds : List PyData} {ns : List Int}, asLI ds = some ns → ds = ns.map PyData.int
 | [], _, h => by cases h; rfl
 | d :: ds, ns, h => by
  obtain ⟨i, hi, h⟩ := bnd h
  obtain ⟨ms, hm, rfl⟩ := Option.map_eq_some_iff.mp h
  rw [ZlW hi, Zka hm]
  rfl
theorem Zg5 : ∀ {ds : List PyData} {ns : List Bool}, asLB ds = some ns → ds = ns.map PyData.bool
 | [], _, h => by cases h; rfl
 | d :: ds, ns, h => by
  obtain ⟨i, hi, h⟩ := bnd h
  obtain ⟨ms, hm, rfl⟩ := Option.map_eq_some_iff.mp h
  rw [Zd4 hi, Zg5 hm]
  rfl
theorem Zik (ns : List Int) : asLI (ns.map PyData.int) = some ns := by
 induction ns with
 | nil => rfl
 | cons n ns ih => simp [asLI, asI, ih]
theorem Zno (ns : List Bool) : asLB (ns.map PyData.bool) = some ns := by
 induction ns with
 | nil => rfl
 | cons n ns ih => simp [asLB, asB, ih]
noncomputable def scV : PyData → V
 | .bool b => .bl b
 | .int i => .int i
 | .str s => .str s
 | _ => .non
noncomputable def flatD : PyData → Bool
 | .none => true
 | .bool _ => true
 | .int _ => true
 | .str _ => true
 | _ => false
theorem Zfg {G : Hp} {x : V} {d : PyData} (h : Dt G x d) (f : flatD d = true) : x = scV d := by
 cases h <;> first | rfl | cases f
theorem ZjN {G G' : Hp} {x : V} {d : PyData} (h : Dt G x d) (f : flatD d = true) : Dt G' x d := by
 cases h <;> first | exact .non | exact .bl _ | exact .int _ | exact .str _ | cases f
noncomputable def oI (g : Int → Int → Int) : PyData → PyData → Option PyData
 | .int i, .int j => some (.int (g i j))
 | _, _ => none
noncomputable def oIc (C : Int → Int → Bool) (g : Int → Int → Int) : PyData → PyData → Option PyData
 | .int i, .int j => if C i j = true then some (.int (g i j)) else none
 | _, _ => none
noncomputable def oCmp (g : Int → Int → Bool) : PyData → PyData → Option PyData
 | .int i, .int j => some (.bool (g i j))
 | _, _ => none
theorem i2 {o : Int → Int → Option PyData} {a b d : PyData} (h : (match a, b with | .int i, .int j => o i j | _, _ => none) = some d) : ∃ i j, a = .int i ∧ b = .int j ∧ o i j = some d := by
 split at h
 ·exact ⟨_, _, rfl, rfl, h⟩
 ·cases h
theorem ZqN (g : Int → Int → Int) : OpF (rI0 fun i j => .int (g i j)) (oI g) := ⟨fun {x y G a b d} dx dy e H gh Q q => by
 obtain ⟨i, j, rfl, rfl, e⟩ := i2 e
 cases e
 cases dx; cases dy
 exact ⟨i, j, rfl, rfl, q _ H (Ex.refl H) (ZV fun _ z => nomatch z) (.int _)⟩⟩
theorem ZhK {C : Int → Int → Prop} {c : Int → Int → Bool} (hc : ∀ {i j}, c i j = true → C i j) (g : Int → Int → Int) : OpF (rI C fun i j => .int (g i j)) (oIc c g) := ⟨fun {x y G a b d} dx dy e H gh Q q => by
 obtain ⟨i, j, rfl, rfl, e⟩ := i2 (o := fun i j => if c i j = true then some (.int (g i j)) else none) e
 have e : (if c i j = true then some (PyData.int (g i j)) else none) = some d := e
 split at e
 ·cases e
  cases dx; cases dy
  exact ⟨i, j, rfl, rfl, hc (by assumption), q _ H (Ex.refl H) (ZV fun _ z => nomatch z) (.int _)⟩
 ·cases e⟩
theorem ZiL (g : Int → Int → Bool) : OpF (rI0 fun i j => .bl (g i j)) (oCmp g) := ⟨fun {x y G a b d} dx dy e H gh Q q => by
 obtain ⟨i, j, rfl, rfl, e⟩ := i2 e
 cases e
 cases dx; cases dy
 exact ⟨i, j, rfl, rfl, q _ H (Ex.refl H) (ZV fun _ z => nomatch z) (.bl _)⟩⟩
noncomputable abbrev oAdd := oI fun i j => i + j
noncomputable abbrev oSub := oI fun i j => i - j
noncomputable def cMul (i j : Int) : Bool := Nat.ble i.natAbs 18446744073709551615 || Nat.ble j.natAbs 18446744073709551615
noncomputable def cDiv (i j : Int) : Bool := decide (0 < j) && Nat.ble j.natAbs 1073741823
noncomputable def cMod (i j : Int) : Bool := decide (0 < j)
noncomputable def cPow (i j : Int) : Bool := decide (0 ≤ j) && decide (j ≤ 1000000) && decide (i.natAbs < 2 ^ 64)
noncomputable abbrev oMul := oIc cMul fun i j => i * j
noncomputable abbrev oDiv := oIc cDiv fun i j => i / j
noncomputable abbrev oMod := oIc cMod fun i j => i % j
noncomputable abbrev oPow := oIc cPow fun i j => i ^ j.toNat
theorem Zcu : OpF (rI0 fun i j => .int (i + j)) oAdd := ZqN fun i j => i + j
theorem Zgi : OpF (rI0 fun i j => .int (i - j)) oSub := ZqN fun i j => i - j
theorem Zcl : OpF (rI CMul fun i j => .int (i * j)) oMul := ZhK (fun {i j} h => by
 unfold cMul at h
 rw [Bool.or_eq_true] at h
 rcases h with h | h
 ·have := Nat.ble_eq.mp h
  exact .inl ⟨by omega, by omega⟩
 ·have := Nat.ble_eq.mp h
  exact .inr ⟨by omega, by omega⟩) fun i j => i * j
theorem Zlu : OpF (rI CDiv fun i j => .int (i / j)) oDiv := ZhK (fun {i j} h => by
 unfold cDiv at h
 simp only [Bool.and_eq_true, decide_eq_true_eq] at h
 have := Nat.ble_eq.mp h.2
 exact ⟨h.1, by omega⟩) fun i j => i / j
theorem Zc8 : OpF (rI (fun _ j => 0 < j) fun i j => .int (i % j)) oMod := ZhK (fun {i j} h => of_decide_eq_true h) fun i j => i % j
theorem ZgB : OpF (rI CPow fun i j => .int (i ^ j.toNat)) oPow := ZhK (fun {i j} h => by
 unfold cPow at h
 simp only [Bool.and_eq_true, decide_eq_true_eq] at h
 exact ⟨h.1.1, h.1.2, h.2⟩) fun i j => i ^ j.toNat
noncomputable abbrev oLt := oCmp fun i j => decide (i < j)
noncomputable abbrev oLe := oCmp fun i j => decide (i ≤ j)
noncomputable abbrev oGe := oCmp fun i j => decide (j ≤ i)
theorem ZkJ : OpF (rI0 fun i j => .bl (decide (i < j))) oLt := ZiL fun i j => decide (i < j)
theorem ZhJ : OpF (rI0 fun i j => .bl (decide (i ≤ j))) oLe := ZiL fun i j => decide (i ≤ j)
theorem ZnD : OpF (rI0 fun i j => .bl (decide (j ≤ i))) oGe := ZiL fun i j => decide (j ≤ i)
noncomputable def oNeg : PyData → Option PyData
 | .int i => some (.int (-i))
 | _ => none
theorem ZeD : UnOk (rU fun i => .int (-i)) oNeg := ⟨fun {x G a d} dx e H gh Q q => by
 cases a <;> try (cases e; done)
 cases e
 cases dx
 exact ⟨_, rfl, q _ H (Ex.refl H) (.int _)⟩⟩
noncomputable def oEq (neg : Bool) : PyData → PyData → Option PyData := fun a b => if flatD a = true ∧ flatD b = true ∧ scal (scV a) (scV b) = true then some (.bool (if neg then !decide (scV a = scV b) else decide (scV a = scV b))) else none
theorem ZhN : OpF rEq (oEq false) := ⟨fun {x y G a b d} dx dy e H gh Q q => by
 unfold oEq at e
 split at e
 case isFalse => cases e
 rename_i h
 cases e
 rw [Zfg dx h.1, Zfg dy h.2.1]
 exact ⟨h.2.2, q _ H (Ex.refl H) (ZV fun _ z => nomatch z) (.bl _)⟩⟩
theorem Ztm : OpF rNe (oEq true) := ⟨fun {x y G a b d} dx dy e H gh Q q => by
 unfold oEq at e
 split at e
 case isFalse => cases e
 rename_i h
 cases e
 rw [Zfg dx h.1, Zfg dy h.2.1]
 exact ⟨h.2.2, q _ H (Ex.refl H) (ZV fun _ z => nomatch z) (.bl _)⟩⟩
section
variable {K : PySem.W.Frag} {P : Program} {w : World}
noncomputable def oIsN (neg : Bool) : PyData → PyData → Option PyData
 | a, .none => some (.bool (if neg then !(match a with | .none => true | _ => false) else (match a with | .none => true | _ => false)))
 | _, _ => none
theorem Zqq {G : Hp} {x : V} {d : PyData} (h : Dt G x d) : decide (x = V.non) = (match d with | .none => true | _ => false) := by
 cases h <;> rfl
theorem Zqg : OpF (fun x y H Q => y = .non ∧ Q (.bl (!decide (x = .non))) H) (oIsN true) := ⟨fun {x y G a b d} dx dy e H gh Q q => by
 unfold oIsN at e
 split at e
 case h_2 => cases e
 cases e
 refine ⟨dy.on, q _ H (Ex.refl H) (ZV fun _ z => nomatch z) ?_⟩
 have z := Zqq dx
 rw [z]
 cases a <;> exact .bl _⟩
noncomputable def oIxL : PyData → PyData → Option PyData
 | .list ds, .int i => L2.atI ds i
 | _, _ => none
noncomputable def oIxT : PyData → PyData → Option PyData
 | .tuple ds, .int i => L2.atI ds i
 | _, _ => none
theorem ZQ : OpOk (rIxL K) oIxL := ⟨fun {x y G a b d} dx dy e H gh Q q => by
 unfold oIxL at e
 split at e
 case h_2 => cases e
 obtain ⟨p, xs, rfl, hp, r⟩ := dx.ol
 cases dy
 obtain ⟨v, hv, dv⟩ := r.atI e
 exact ⟨p, xs, _, v, rfl, rfl, sq_of (gh _ _ hp), hv, q v H (Ex.refl _) (here dv gh)⟩⟩
theorem Zd6 : OpOk (rIxT K) oIxT := ⟨fun {x y G a b d} dx dy e H gh Q q => by
 unfold oIxT at e
 split at e
 case h_2 => cases e
 obtain ⟨p, xs, rfl, hp, r⟩ := dx.ot
 cases dy
 obtain ⟨v, hv, dv⟩ := r.atI e
 exact ⟨p, xs, _, v, rfl, rfl, st_of (gh _ _ hp), hv, q v H (Ex.refl _) (here dv gh)⟩⟩
noncomputable def oCat : PyData → PyData → Option PyData
 | .list a, .list b => if a.length + b.length ≤ 100000 then some (.list (a ++ b)) else none
 | _, _ => none
noncomputable def oSlL : PyData → Option Int → Option Int → Option PyData
 | .list a, i, j => some (.list (cutA a i j))
 | _, _, _ => none
noncomputable def oSlT : PyData → Option Int → Option Int → Option PyData
 | .tuple a, i, j => some (.tuple (cutA a i j))
 | _, _, _ => none
noncomputable def cLen : List PyData → Option PyData
 | [.list ds] => some (.int (ds.length : Nat))
 | [.tuple ds] => some (.int (ds.length : Nat))
 | _ => none
theorem ZeP : CbF (rLenS K) cLen := ⟨fun {xs G ds d} dx e H gh Q q => by
 unfold cLen at e
 split at e
 case h_3 => cases e
 ·cases e
  obtain ⟨v, rfl, dv⟩ := dx.one
  obtain ⟨p, xs, rfl, hp, r⟩ := dv.ol
  exact ⟨p, xs, rfl, .inl (sq_of (gh _ _ hp)), q _ H (Ex.refl _) (ZV fun _ z => nomatch z) (by rw [r.len]; exact .int _)⟩
 ·cases e
  obtain ⟨v, rfl, dv⟩ := dx.one
  obtain ⟨p, xs, rfl, hp, r⟩ := dv.ot
  exact ⟨p, xs, rfl, .inr (st_of (gh _ _ hp)), q _ H (Ex.refl _) (ZV fun _ z => nomatch z) (by rw [r.len]; exact .int _)⟩⟩
noncomputable def cList : List PyData → Option PyData
 | [.list ds] => some (.list ds)
 | [.tuple ds] => some (.list ds)
 | _ => none
theorem ZcP : CbF (rListS K) cList := ⟨fun {xs G ds d} dx e H gh Q q => by
 unfold cList at e
 split at e
 case h_3 => cases e
 ·cases e
  obtain ⟨v, rfl, dv⟩ := dx.one
  obtain ⟨p, xs, rfl, hp, r⟩ := dv.ol
  exact ⟨p, xs, rfl, .inl (sq_of (gh _ _ hp)), fun l hl => q _ _ (Ex.new hl) (Zd1 hl) (Zfl hl gh r)⟩
 ·cases e
  obtain ⟨v, rfl, dv⟩ := dx.one
  obtain ⟨p, xs, rfl, hp, r⟩ := dv.ot
  exact ⟨p, xs, rfl, .inr (st_of (gh _ _ hp)), fun l hl => q _ _ (Ex.new hl) (Zd1 hl) (Zfl hl gh r)⟩⟩
noncomputable def cAll : List PyData → Option PyData
 | [.list ds] => (asLB ds).map fun bs => .bool (bs.all id)
 | _ => none
noncomputable def cSum : List PyData → Option PyData
 | [.list ds] => (asLI ds).map fun bs => .int bs.sum
 | _ => none
theorem lst1 {o : List PyData → Option PyData} {es : List PyData} {d : PyData} (h : (match es with | [.list ds] => o ds | _ => none) = some d) : ∃ ds, es = [.list ds] ∧ o ds = some d := by
 split at h
 ·exact ⟨_, rfl, h⟩
 ·cases h
theorem Zry : CbF (rAll K) cAll := ⟨fun {xs G ds d} dx e H gh Q q => by
 obtain ⟨ds, rfl, e⟩ := lst1 e
 obtain ⟨bs, hb, rfl⟩ := Option.map_eq_some_iff.mp e
 obtain rfl := Zg5 hb
 obtain ⟨v, rfl, dv⟩ := dx.one
 obtain ⟨p, xs, rfl, hp, r⟩ := dv.ol
 rw [Zgg r] at hp
 exact ⟨p, bs, rfl, sq_of (gh _ _ hp), q _ H (Ex.refl _) (ZV fun _ z => nomatch z) (.bl _)⟩⟩
theorem Zlj : CbF (rSum K) cSum := ⟨fun {xs G ds d} dx e H gh Q q => by
 obtain ⟨ds, rfl, e⟩ := lst1 e
 obtain ⟨bs, hb, rfl⟩ := Option.map_eq_some_iff.mp e
 obtain rfl := Zka hb
 obtain ⟨v, rfl, dv⟩ := dx.one
 obtain ⟨p, rfl, hp⟩ := dv.oli
 exact ⟨p, bs, rfl, sq_of (gh _ _ hp), q _ H (Ex.refl _) (ZV fun _ z => nomatch z) (.int _)⟩⟩
noncomputable def cAbs : List PyData → Option PyData
 | [.int i] => some (.int (if i < 0 then -i else i))
 | _ => none
theorem Zlb : CbF rAbs cAbs := ⟨fun {xs G ds d} dx e H gh Q q => by
 unfold cAbs at e
 split at e
 case h_2 => cases e
 cases e
 obtain ⟨v, rfl, dv⟩ := dx.one
 cases dv
 exact ⟨_, rfl, q _ H (Ex.refl _) (ZV fun _ z => nomatch z) (.int _)⟩⟩
end
end Kb
namespace Kb
open PySem L2 Evl
inductive Lab
 | no
 | key (k : Key)
 | fld (f : Str)
inductive Kd
 | lst
 | tup
 | dct
 | ins (C : Addr)
/-- a thing: a told datum, or kept apart -/
inductive OT
 | leaf (d : PyData)
 | node (k : Kd) (cs : List (Lab × OT))
inductive LT
 | leaf (v : V) (d : PyData)
 | node (k : Kd) (a dx : Addr) (cs : List (Lab × LT))
theorem LT.ind {P : LT → Prop} (hl : ∀ v d, P (.leaf v d)) (hn : ∀ k a dx cs, (∀ x ∈ cs, P x.2) → P (.node k a dx cs)) (t : LT) : P t :=
 LT.rec (motive_1 := P) (motive_2 := fun cs => ∀ x ∈ cs, P x.2) (motive_3 := fun x => P x.2) hl (fun k a dx cs ih => hn k a dx cs ih) (fun _ h => nomatch h) (fun x xs h1 h2 y hy => by
  rcases List.mem_cons.mp hy with rfl | hy
  ·exact h1
  ·exact h2 y hy) (fun _ _ h => h) t
noncomputable def LT.val : LT → V
 | .leaf v _ => v
 | .node _ a _ _ => .ref a
mutual
noncomputable def LT.er : LT → OT
 | .leaf _ d => .leaf d
 | .node k _ _ cs => .node k (LT.erL cs)
noncomputable def LT.erL : List (Lab × LT) → List (Lab × OT)
 | [] => []
 | (l, t) :: r => (l, t.er) :: LT.erL r
end
theorem LT.erL_map : ∀ cs : List (Lab × LT), LT.erL cs = cs.map fun x => (x.1, x.2.er)
 | [] => rfl
 | (l, t) :: r => by rw [LT.erL, LT.erL_map r]; rfl
noncomputable def Kd.own : Kd → Addr → Addr → List Addr
 | .ins _, a, dx => [a, dx]
 | _, a, _ => [a]
mutual
noncomputable def LT.ads : LT → List Addr
 | .leaf _ _ => []
 | .node k a dx cs => k.own a dx ++ LT.adsL cs
noncomputable def LT.adsL : List (Lab × LT) → List Addr
 | [] => []
 | (_, t) :: r => t.ads ++ LT.adsL r
end
theorem LT.adsL_map : ∀ cs : List (Lab × LT), LT.adsL cs = cs.flatMap fun x => x.2.ads
 | [] => rfl
 | (l, t) :: r => by rw [LT.adsL, LT.adsL_map r]; rfl
noncomputable def Lab.k : Lab → Key
 | .key k => k
 | _ => .inl 0
noncomputable def Lab.f : Lab → Str
 | .fld f => f
 | _ => Str.empty
noncomputable def hoOf : Kd → Addr → List (Lab × V) → HO
 | .lst, _, vs => .lst (vs.map (·.2))
 | .tup, _, vs => .tup (vs.map (·.2))
 | .dct, _, vs => .dK (vs.map fun x => (x.1.k, x.2))
 | .ins C, dx, vs => .ins C dx (vs.map fun x => (x.1.f, x.2))
noncomputable def LT.vals (cs : List (Lab × LT)) : List (Lab × V) := cs.map fun x => (x.1, x.2.val)
noncomputable def Kd.dxok (H : Hp) (a dx : Addr) : Kd → Prop
 | .ins _ => H dx = some (.own a)
 | _ => True
mutual
noncomputable def LT.ok (G H : Hp) : LT → Prop
 | .leaf v d => Dt G v d
 | .node k a dx cs => H a = some (hoOf k dx (LT.vals cs)) ∧ k.dxok H a dx ∧ LT.okL G H cs
noncomputable def LT.okL (G H : Hp) : List (Lab × LT) → Prop
 | [] => True
 | (_, t) :: r => t.ok G H ∧ LT.okL G H r
end
theorem LT.okL_iff {G H : Hp} : ∀ {cs : List (Lab × LT)}, LT.okL G H cs ↔ ∀ x ∈ cs, x.2.ok G H
 | [] => ⟨fun _ _ h => (nomatch h), fun _ => trivial⟩
 | (l, t) :: r => by
  rw [LT.okL, LT.okL_iff (cs := r)]
  constructor
  ·rintro ⟨h1, h2⟩ x hx
   rcases List.mem_cons.mp hx with rfl | hx
   ·exact h1
   ·exact h2 x hx
  ·exact fun h => ⟨h _ List.mem_cons_self, fun x hx => h x (List.mem_cons_of_mem _ hx)⟩
theorem LT.ok_node {G H : Hp} {k : Kd} {a dx : Addr} {cs : List (Lab × LT)} : (LT.node k a dx cs).ok G H ↔ H a = some (hoOf k dx (LT.vals cs)) ∧ k.dxok H a dx ∧ ∀ x ∈ cs, x.2.ok G H := by
 rw [LT.ok, LT.okL_iff]
mutual
noncomputable def OT.data : OT → PyData
 | .leaf d => d
 | .node k cs => match k with
  | .lst => .list (OT.datas cs)
  | .tup => .tuple (OT.datas cs)
  | .dct => .dict ((cs.map fun x => keyD x.1.k).zip (OT.datas cs))
  | .ins C => .dict ((.none, .int (C : Nat)) :: (cs.map fun x => PyData.str x.1.f).zip (OT.datas cs))
noncomputable def OT.datas : List (Lab × OT) → List PyData
 | [] => []
 | (_, t) :: r => t.data :: OT.datas r
end
theorem OT.datas_map : ∀ cs : List (Lab × OT), OT.datas cs = cs.map fun x => x.2.data
 | [] => rfl
 | (l, t) :: r => by rw [OT.datas, OT.datas_map r]; rfl
theorem LT.ok_mono {G G' H : Hp} (g : Ex G G') (t : LT) : t.ok G H → t.ok G' H := by
 induction t using LT.ind with
 | hl v d => exact fun h => Dt.up h g
 | hn k a dx cs ih =>
  rw [LT.ok_node, LT.ok_node]
  exact fun ⟨h1, h2, h3⟩ => ⟨h1, h2, fun x hx => ih x hx (h3 x hx)⟩
theorem LT.mem_own {k : Kd} {a dx : Addr} : a ∈ k.own a dx := by cases k <;> simp [Kd.own]
theorem LT.ads_node {k : Kd} {a dx b : Addr} {cs : List (Lab × LT)} : b ∈ (LT.node k a dx cs).ads ↔ b ∈ k.own a dx ∨ ∃ x ∈ cs, b ∈ x.2.ads := by
 rw [LT.ads, List.mem_append, LT.adsL_map, List.mem_flatMap]
theorem LT.ok_heap {G H H' : Hp} (t : LT) : (∀ a ∈ t.ads, H' a = H a) → t.ok G H → t.ok G H' := by
 induction t using LT.ind with
 | hl v d => exact fun _ h => h
 | hn k a dx cs ih =>
  rw [LT.ok_node, LT.ok_node]
  rintro hh ⟨h1, h2, h3⟩
  refine ⟨by rw [hh a (LT.ads_node.mpr (.inl LT.mem_own))]; exact h1, ?_, fun x hx => ih x hx (fun b hb => hh b (LT.ads_node.mpr (.inr ⟨x, hx, hb⟩))) (h3 x hx)⟩
  cases k <;> try trivial
  exact (hh dx (LT.ads_node.mpr (.inl (by simp [Kd.own])))).trans h2
theorem LT.ads_some {G H : Hp} (t : LT) : t.ok G H → ∀ a ∈ t.ads, ∃ o, H a = some o := by
 induction t using LT.ind with
 | hl v d => exact fun _ a h => nomatch h
 | hn k a dx cs ih =>
  rw [LT.ok_node]
  rintro ⟨h1, h2, h3⟩ b hb
  rcases LT.ads_node.mp hb with hb | ⟨x, hx, hb⟩
  ·cases k <;> simp only [Kd.own, List.mem_cons, List.not_mem_nil, or_false] at hb
   ·exact ⟨_, hb ▸ h1⟩
   ·exact ⟨_, hb ▸ h1⟩
   ·exact ⟨_, hb ▸ h1⟩
   ·rcases hb with rfl | rfl
    ·exact ⟨_, h1⟩
    ·exact ⟨_, h2⟩
  ·exact ih x hx (h3 x hx) b hb
theorem Zhg {G : Hp} : ∀ {cs : List (Lab × LT)}, (∀ x ∈ cs, Dt G x.2.val x.2.er.data) → DtAll G (cs.map fun x => x.2.val) (OT.datas (LT.erL cs))
 | [], _ => .nil
 | (l, t) :: r, h => .cons (h _ List.mem_cons_self) (Zhg fun x hx => h x (List.mem_cons_of_mem _ hx))
/-- a tree is a datum in a view that tells its cells -/
theorem LT.frz {G G' H : Hp} (g : Ex G G') (t : LT) : (∀ a ∈ t.ads, G' a = H a) → t.ok G H → Dt G' t.val t.er.data := by
 induction t using LT.ind with
 | hl v d => exact fun _ h => Dt.up h g
 | hn k a dx cs ih =>
  rw [LT.ok_node]
  rintro hh ⟨h1, h2, h3⟩
  have ha : G' a = some (hoOf k dx (LT.vals cs)) := by rw [hh a (LT.ads_node.mpr (.inl LT.mem_own))]; exact h1
  have hc := Zhg (G := G') (cs := cs) fun x hx => ih x hx (fun b hb => hh b (LT.ads_node.mpr (.inr ⟨x, hx, hb⟩))) (h3 x hx)
  cases k with
  | lst =>
   refine .lst (xs := cs.map fun x => x.2.val) ?_ hc
   rw [ha]; simp [hoOf, LT.vals, Function.comp_def]
  | tup =>
   refine .tup (xs := cs.map fun x => x.2.val) ?_ hc
   rw [ha]; simp [hoOf, LT.vals, Function.comp_def]
  | dct =>
   refine .dct (kvs := cs.map fun x => (x.1.k, x.2.val)) (ds := OT.datas (LT.erL cs)) ?_ (by rw [List.map_map]; exact hc) ?_
   ·rw [ha]; simp [hoOf, LT.vals, Function.comp_def]
   ·simp [LT.erL_map, Function.comp_def]
  | ins C =>
   refine .ins (C := C) (dx := dx) (fs := cs.map fun x => (x.1.f, x.2.val)) (ds := OT.datas (LT.erL cs)) ?_ (by rw [List.map_map]; exact hc) ?_
   ·rw [ha]; simp [hoOf, LT.vals, Function.comp_def]
   ·simp [LT.erL_map, Function.comp_def]
noncomputable abbrev En := List (Option OT)
noncomputable abbrev Ls := List (Option LT)
noncomputable def oads : Option LT → List Addr
 | none => []
 | some t => t.ads
noncomputable def adsS (ls : Ls) : List Addr := ls.flatMap oads
noncomputable def vals (ls : Ls) : L2.St := ls.map (Option.map LT.val)
noncomputable def ens (ls : Ls) : En := ls.map (Option.map LT.er)
structure Good (F G : Hp) (ls : Ls) (H : Hp) : Prop where
 fh : Ex F H
 gh : Ex G H
 nd : (adsS ls).Nodup
 gn : ∀ a ∈ adsS ls, G a = none
 fn : ∀ a ∈ adsS ls, F a = none
 ok : ∀ t, some t ∈ ls → t.ok G H
/-- what is told grows, but not by what the frame holds -/
structure Gx (F G G' : Hp) : Prop where
 ex : Ex G G'
 no : ∀ a o, F a = some o → G' a = G a
theorem Gx.refl {F G : Hp} : Gx F G G := ⟨Ex.refl G, fun _ _ _ => rfl⟩
theorem Gx.trans {F G G1 G2 : Hp} (a : Gx F G G1) (b : Gx F G1 G2) : Gx F G G2 := ⟨a.ex.trans b.ex, fun x o h => (b.no x o h).trans (a.no x o h)⟩
theorem Zaz {ls : Ls} {a : Addr} : a ∈ adsS ls ↔ ∃ t, some t ∈ ls ∧ a ∈ t.ads := by
 unfold adsS
 rw [List.mem_flatMap]
 constructor
 ·rintro ⟨o, ho, ha⟩
  cases o with
  | none => exact nomatch ha
  | some t => exact ⟨t, ho, ha⟩
 ·rintro ⟨t, ht, ha⟩
  exact ⟨some t, ht, ha⟩
section
variable {F G H H2 : Hp} {ls : Ls}
theorem Good.has (g : Good F G ls H) {a : Addr} (h : a ∈ adsS ls) : ∃ o, H a = some o := by
 obtain ⟨t, ht, ha⟩ := Zaz.mp h
 exact LT.ads_some t (g.ok t ht) a ha
/-- the heap grew, what grew is told -/
theorem Good.grow (g : Good F G ls H) (e : Ex H H2) : Good F (Kb.grow G H H2) ls H2 ∧ Gx F G (Kb.grow G H H2) := by
 refine ⟨⟨g.fh.trans e, Zg g.gh e, g.nd, fun a ha => ?_, g.fn, fun t ht => ?_⟩, Zm g.gh, fun a o h => Zo (g.fh a o h)⟩
 ·obtain ⟨o, ho⟩ := g.has ha
  rw [Zo ho]
  exact g.gn a ha
 ·refine LT.ok_mono (Zm g.gh) t (LT.ok_heap t (fun a ha => ?_) (g.ok t ht))
  obtain ⟨o, ho⟩ := g.has (Zaz.mpr ⟨t, ht, ha⟩)
  rw [ho, e a o ho]
/-- the heap grew, nothing of it is told -/
theorem Good.stay (g : Good F G ls H) (e : Ex H H2) : Good F G ls H2 :=
 ⟨g.fh.trans e, g.gh.trans e, g.nd, g.gn, g.fn, fun t ht => LT.ok_heap t (fun a ha => by
  obtain ⟨o, ho⟩ := g.has (Zaz.mpr ⟨t, ht, ha⟩)
  rw [ho, e a o ho]) (g.ok t ht)⟩
/-- told are only data -/
noncomputable def strong (en : En) : DE := en.map fun o => match o with
 | some (.leaf d) => some d
 | _ => none
noncomputable def weak (en : En) : DE := en.map (Option.map OT.data)
theorem Zae (g : Good F G ls H) : DRel (strong (ens ls)) (vals ls) G := by
 refine ⟨by simp [strong, ens, vals], fun i d h => ?_⟩
 unfold strong ens at h
 rw [List.map_map, List.getElem?_map] at h
 obtain ⟨o, ho, h⟩ := Option.map_eq_some_iff.mp h
 cases o with
 | none => cases h
 | some t =>
  cases t with
  | leaf v e =>
   have h : some e = some d := h
   cases h
   refine ⟨v, by unfold vals; rw [List.getElem?_map, ho]; rfl, g.ok _ (List.mem_of_getElem? ho)⟩
  | node k a dx cs => cases h
/-- all is seen -/
noncomputable def seen (G H : Hp) (as : List Addr) : Hp := fun a => if a ∈ as then H a else G a
theorem ZcS {as : List Addr} (gn : ∀ a ∈ as, G a = none) : Ex G (seen G H as) := fun a o h => by
 unfold seen
 rw [if_neg fun z => by rw [gn a z] at h; cases h]
 exact h
theorem Za3 {as : List Addr} (gh : Ex G H) : Ex (seen G H as) H := fun a o h => by
 unfold seen at h
 split at h
 ·exact h
 ·exact gh a o h
theorem Zg4 {as : List Addr} {a : Addr} (h : a ∈ as) : seen G H as a = H a := by unfold seen; rw [if_pos h]
theorem Zcq (g : Good F G ls H) : DRel (weak (ens ls)) (vals ls) (seen G H (adsS ls)) := by
 refine ⟨by simp [weak, ens, vals], fun i d h => ?_⟩
 unfold weak ens at h
 rw [List.map_map, List.getElem?_map] at h
 obtain ⟨o, ho, h⟩ := Option.map_eq_some_iff.mp h
 cases o with
 | none => cases h
 | some t =>
  have h : some t.er.data = some d := h
  cases h
  have hm := List.mem_of_getElem? ho
  exact ⟨t.val, by unfold vals; rw [List.getElem?_map, ho]; rfl, LT.frz (ZcS g.gn) t (fun a ha => Zg4 (Zaz.mpr ⟨t, hm, ha⟩)) (g.ok t hm)⟩
/-- a tree in front becomes a told datum -/
theorem Good.freeze {T : LT} (g : Good F G (some T :: ls) H) : Good F (seen G H T.ads) ls H ∧ Gx F G (seen G H T.ads) ∧ Dt (seen G H T.ads) T.val T.er.data := by
 have hT : ∀ a ∈ T.ads, a ∈ adsS (some T :: ls) := fun a ha => Zaz.mpr ⟨T, List.mem_cons_self, ha⟩
 have gn : ∀ a ∈ T.ads, G a = none := fun a ha => g.gn a (hT a ha)
 have nd : (T.ads ++ adsS ls).Nodup := g.nd
 have hls : ∀ a ∈ adsS ls, a ∈ adsS (some T :: ls) := fun a ha => by
  show a ∈ T.ads ++ adsS ls
  exact List.mem_append_right _ ha
 refine ⟨⟨g.fh, Za3 g.gh, (List.nodup_append.mp nd).2.1, fun a ha => ?_, fun a ha => g.fn a (hls a ha), fun t ht => LT.ok_mono (ZcS gn) t (g.ok t (List.mem_cons_of_mem _ ht))⟩, ⟨ZcS gn, fun a o h => ?_⟩, LT.frz (ZcS gn) T (fun a ha => Zg4 ha) (g.ok T List.mem_cons_self)⟩
 ·unfold seen
  rw [if_neg fun z => (List.nodup_append.mp nd).2.2 a z a ha rfl]
  exact g.gn a (hls a ha)
 ·unfold seen
  rw [if_neg fun z => by rw [g.fn a (hT a z)] at h; cases h]
end
end Kb
namespace Kb
open PySem L2 Evl
inductive Rx (α : Type)
 | ok (a : α)
 | ex (C : Addr)
noncomputable abbrev FX := En → Option (Rx PyData × En)
noncomputable abbrev FN := En → Option (Rx OT × En)
noncomputable abbrev FB := En → Option (Rx Bool × En)
noncomputable abbrev FA := En → Option (Rx (List PyData) × En)
theorem rxc {α β : Type} {C C' : Addr} (h : (Rx.ex C : Rx α) = .ex C') : (Rx.ex C : Rx β) = .ex C' := by cases h; rfl
structure End (F G : Hp) (ls : Ls) (G' : Hp) (ls' : Ls) (H' : Hp) (en' : En) : Prop where
 gd : Good F G' ls' H'
 gx : Gx F G G'
 en : ens ls' = en'
 vs : vals ls' = vals ls
theorem End.trans {F G G1 G2 H1 H2 : Hp} {ls l1 l2 : Ls} {e1 e2 : En} (a : End F G ls G1 l1 H1 e1) (b : End F G1 l1 G2 l2 H2 e2) : End F G ls G2 l2 H2 e2 := ⟨b.gd, a.gx.trans b.gx, b.en, b.vs.trans a.vs⟩
noncomputable def XC (W : WX) (F G : Hp) (ls : Ls) (C : Addr) (en' : En) : Prop := ∀ G' ls' H', End F G ls G' ls' H' en' → W (.ref C) none (vals ls) H'
theorem XC.at {W : WX} {F G G1 H1 : Hp} {ls l1 : Ls} {C : Addr} {e1 en' : En} (h : XC W F G ls C en') (a : End F G ls G1 l1 H1 e1) : XC W F G1 l1 C en' := fun G' ls' H' b => by
 rw [a.vs]
 exact h G' ls' H' (a.trans b)
structure SX (W : WX) (te : TE) (x : FX) : Prop where
 run : ∀ {F G : Hp} {ls : Ls} {H : Hp} {r : Rx PyData} {en' : En}, Good F G ls H → x (ens ls) = some (r, en') → ∀ {Q : VK}, (∀ d, r = .ok d → ∀ v G' ls' H', End F G ls G' ls' H' en' → Dt G' v d → Q v H') → (∀ C, r = .ex C → XC W F G ls C en') → te (vals ls) H Q
instance {W : WX} {te : TE} {x : FX} : CoeFun (SX W te x) (fun _ => ∀ {F G : Hp} {ls : Ls} {H : Hp} {r : Rx PyData} {en' : En}, Good F G ls H → x (ens ls) = some (r, en') → ∀ {Q : VK}, (∀ d, r = .ok d → ∀ v G' ls' H', End F G ls G' ls' H' en' → Dt G' v d → Q v H') → (∀ C, r = .ex C → XC W F G ls C en') → te (vals ls) H Q) := ⟨fun h => h.run⟩
structure SN (W : WX) (te : TE) (x : FN) : Prop where
 run : ∀ {F G : Hp} {ls : Ls} {H : Hp} {r : Rx OT} {en' : En}, Good F G ls H → x (ens ls) = some (r, en') → ∀ {Q : VK}, (∀ T0, r = .ok T0 → ∀ T G' ls' H', Good F G' (some T :: ls') H' → Gx F G G' → ens ls' = en' → vals ls' = vals ls → T.er = T0 → Q T.val H') → (∀ C, r = .ex C → XC W F G ls C en') → te (vals ls) H Q
instance {W : WX} {te : TE} {x : FN} : CoeFun (SN W te x) (fun _ => ∀ {F G : Hp} {ls : Ls} {H : Hp} {r : Rx OT} {en' : En}, Good F G ls H → x (ens ls) = some (r, en') → ∀ {Q : VK}, (∀ T0, r = .ok T0 → ∀ T G' ls' H', Good F G' (some T :: ls') H' → Gx F G G' → ens ls' = en' → vals ls' = vals ls → T.er = T0 → Q T.val H') → (∀ C, r = .ex C → XC W F G ls C en') → te (vals ls) H Q) := ⟨fun h => h.run⟩
structure SXB (W : WX) (tt : TT) (x : FB) : Prop where
 run : ∀ {F G : Hp} {ls : Ls} {H : Hp} {r : Rx Bool} {en' : En}, Good F G ls H → x (ens ls) = some (r, en') → ∀ {Q : Bool → Hp → Prop}, (∀ b, r = .ok b → ∀ G' ls' H', End F G ls G' ls' H' en' → Q b H') → (∀ C, r = .ex C → XC W F G ls C en') → tt (vals ls) H Q
instance {W : WX} {tt : TT} {x : FB} : CoeFun (SXB W tt x) (fun _ => ∀ {F G : Hp} {ls : Ls} {H : Hp} {r : Rx Bool} {en' : En}, Good F G ls H → x (ens ls) = some (r, en') → ∀ {Q : Bool → Hp → Prop}, (∀ b, r = .ok b → ∀ G' ls' H', End F G ls G' ls' H' en' → Q b H') → (∀ C, r = .ex C → XC W F G ls C en') → tt (vals ls) H Q) := ⟨fun h => h.run⟩
structure SXA (W : WX) (ta : TA) (x : FA) : Prop where
 run : ∀ {F G : Hp} {ls : Ls} {H : Hp} {r : Rx (List PyData)} {en' : En}, Good F G ls H → x (ens ls) = some (r, en') → ∀ {Q : List V → Hp → Prop}, (∀ ds, r = .ok ds → ∀ vs G' ls' H', End F G ls G' ls' H' en' → DtAll G' vs ds → Q vs H') → (∀ C, r = .ex C → XC W F G ls C en') → ta (vals ls) H Q
instance {W : WX} {ta : TA} {x : FA} : CoeFun (SXA W ta x) (fun _ => ∀ {F G : Hp} {ls : Ls} {H : Hp} {r : Rx (List PyData)} {en' : En}, Good F G ls H → x (ens ls) = some (r, en') → ∀ {Q : List V → Hp → Prop}, (∀ ds, r = .ok ds → ∀ vs G' ls' H', End F G ls G' ls' H' en' → DtAll G' vs ds → Q vs H') → (∀ C, r = .ex C → XC W F G ls C en') → ta (vals ls) H Q) := ⟨fun h => h.run⟩
noncomputable def bx {α β : Type} (a : Option (Rx α × En)) (f : α → En → Option (Rx β × En)) : Option (Rx β × En) := match a with
 | some (.ok x, en) => f x en
 | some (.ex C, en) => some (.ex C, en)
 | none => none
theorem Zn {α β : Type} {a : Option (Rx α × En)} {f : α → En → Option (Rx β × En)} {r : Rx β} {en' : En} (h : bx a f = some (r, en')) : (∃ x en1, a = some (.ok x, en1) ∧ f x en1 = some (r, en')) ∨ ∃ C, a = some (.ex C, en') ∧ r = .ex C := by
 unfold bx at h
 split at h
 ·exact .inl ⟨_, _, rfl, h⟩
 ·cases h; exact .inr ⟨_, rfl, rfl⟩
 ·cases h
noncomputable def okx {α : Type} (en : En) (o : Option α) : Option (Rx α × En) := o.map fun d => (.ok d, en)
theorem Zx {α : Type} {en en' : En} {o : Option α} {r : Rx α} (h : okx en o = some (r, en')) : ∃ d, o = some d ∧ r = .ok d ∧ en' = en := by
 obtain ⟨d, h1, h2⟩ := Option.map_eq_some_iff.mp h
 cases h2
 exact ⟨d, h1, rfl, rfl⟩
noncomputable def xS (w : FW) : FX := fun en => okx en (w (strong en))
noncomputable def xW (w : FW) : FX := fun en => okx en ((w (weak en)).bind fun d => if flatD d = true then some d else none)
noncomputable def bS (w : DE → Option Bool) : FB := fun en => okx en (w (strong en))
noncomputable def bWk (w : DE → Option Bool) : FB := fun en => okx en (w (weak en))
noncomputable def xN (n : FN) : FX := fun en => bx (n en) fun T en1 => some (.ok T.data, en1)
noncomputable def nX (x : FX) : FN := fun en => bx (x en) fun d en1 => some (.ok (.leaf d), en1)
noncomputable def xOp (o : PyData → PyData → Option PyData) (a b : FX) : FX := fun en => bx (a en) fun x e1 => bx (b e1) fun y e2 => okx e2 (o x y)
noncomputable def xUn (o : PyData → Option PyData) (a : FX) : FX := fun en => bx (a en) fun x e1 => okx e1 (o x)
noncomputable def aNilX : FA := fun en => some (.ok [], en)
noncomputable def aConsX (a : FX) (r : FA) : FA := fun en => bx (a en) fun x e1 => bx (r e1) fun xs e2 => some (.ok (x :: xs), e2)
noncomputable def aS (a : DE → Option (List PyData)) : FA := fun en => okx en (a (strong en))
noncomputable def xCb (o : List PyData → Option PyData) (a : FA) : FX := fun en => bx (a en) fun xs e1 => okx e1 (o xs)
noncomputable def xTup (a : FA) : FX := fun en => bx (a en) fun xs e1 => okx e1 (if big xs = true then some (.tuple xs) else none)
noncomputable def oLeafs (ds : List PyData) : List (Lab × OT) := ds.map fun d => (Lab.no, OT.leaf d)
noncomputable def lstT (ds : List PyData) : OT := .node .lst (oLeafs ds)
noncomputable def nLst (a : FA) : FN := fun en => bx (a en) fun xs e1 => okx e1 (if big xs = true then some (lstT xs) else none)
noncomputable def bXx (a : FX) : FB := fun en => bx (a en) fun x e1 => okx e1 (asB x)
noncomputable def bAndX (a b : FB) : FB := fun en => bx (a en) fun x e1 => if x = true then b e1 else some (.ok false, e1)
noncomputable def bOrX (a b : FB) : FB := fun en => bx (a en) fun x e1 => if x = true then some (.ok true, e1) else b e1
noncomputable def bNotX (a : FB) : FB := fun en => bx (a en) fun x e1 => some (.ok (!x), e1)
noncomputable def xIf (t : FB) (a b : FX) : FX := fun en => bx (t en) fun c e1 => if c = true then a e1 else b e1
noncomputable def nIf (t : FB) (a b : FN) : FN := fun en => bx (t en) fun c e1 => if c = true then a e1 else b e1
noncomputable def xNot (a : FX) : FX := fun en => bx (a en) fun x e1 => okx e1 ((asB x).map fun c => PyData.bool (!c))
/-- a list that was just made is kept apart -/
noncomputable def freshT : PyData → OT
 | .list ds => lstT ds
 | d => .leaf d
noncomputable def nF (w : FW) : FN := fun en => okx en ((w (strong en)).map freshT)
noncomputable def nFW (w : FW) : FN := fun en => okx en ((w (weak en)).bind fun d => match d with
 | .list ds => if ds.all flatD = true then some (lstT ds) else none
 | _ => none)
section
variable {K : PySem.W.Frag} {w : World} {W : WX} {te ta tb tc : TE} {tt tu : TT} {a b : FX} {n : FN} {p q : FB} {r : R2} {f : FW}
theorem ZB (h : SW te f) : SX W te (xS f) := ⟨fun {F G ls H r en'} g e Q k _ => by
 obtain ⟨d, hd, rfl, rfl⟩ := Zx e
 refine h (Zae g) hd H g.gh Q fun v H2 e2 dv => ?_
 obtain ⟨g2, gx⟩ := g.grow e2
 exact k d rfl v _ ls H2 ⟨g2, gx, rfl, rfl⟩ dv⟩
theorem ZaM (h : SW te f) : SX W te (xW f) := ⟨fun {F G ls H r en'} g e Q k _ => by
 obtain ⟨d, hd, rfl, rfl⟩ := Zx e
 obtain ⟨d', hd', hf⟩ := bnd hd
 split at hf
 case isFalse => cases hf
 cases hf
 refine h (Zcq g) hd' H (Za3 g.gh) Q fun v H2 e2 dv => ?_
 exact k d rfl v _ ls H2 ⟨g.stay e2, Gx.refl, rfl, rfl⟩ (ZjN dv (by assumption))⟩
theorem Ze3 {f : DE → Option Bool} (h : SB tt f) : SXB W tt (bS f) := ⟨fun {F G ls H r en'} g e Q k _ => by
 obtain ⟨d, hd, rfl, rfl⟩ := Zx e
 exact h (Zae g) hd H g.gh Q fun H2 e2 => k d rfl _ ls H2 ⟨g.stay e2, Gx.refl, rfl, rfl⟩⟩
theorem ZfV {f : DE → Option Bool} (h : SB tt f) : SXB W tt (bWk f) := ⟨fun {F G ls H r en'} g e Q k _ => by
 obtain ⟨d, hd, rfl, rfl⟩ := Zx e
 exact h (Zcq g) hd H (Za3 g.gh) Q fun H2 e2 => k d rfl _ ls H2 ⟨g.stay e2, Gx.refl, rfl, rfl⟩⟩
theorem ZM (h : SN W te n) : SX W te (xN n) := ⟨fun {F G ls H r en'} g e Q k kx => by
 rcases Zn e with ⟨T0, en1, h1, h2⟩ | ⟨C, h1, rfl⟩
 ·cases h2
  refine h g h1 (fun T0' hT0 T G' ls' H' g' gx he hv hT => ?_) (fun C hC => nomatch hC)
  cases hT0
  obtain ⟨g2, gx2, dt⟩ := g'.freeze
  refine k _ rfl T.val _ ls' H' ⟨g2, gx.trans gx2, he, hv⟩ ?_
  rw [← hT]
  exact dt
 ·exact h g h1 (fun T0 hT0 => nomatch hT0) fun C' hC' => kx C' (rxc hC')⟩
theorem ZaL {F G H : Hp} {ls : Ls} {v : V} {d : PyData} (g : Good F G ls H) (h : Dt G v d) : Good F G (some (.leaf v d) :: ls) H :=
 ⟨g.fh, g.gh, g.nd, g.gn, g.fn, fun t ht => by
  rcases List.mem_cons.mp ht with z | z
  ·cases z; exact h
  ·exact g.ok t z⟩
theorem ZaA (h : SX W te a) : SN W te (nX a) := ⟨fun {F G ls H r en'} g e Q k kx => by
 rcases Zn e with ⟨d, en1, h1, h2⟩ | ⟨C, h1, rfl⟩
 ·cases h2
  refine h g h1 (fun d' hd' v G' ls' H' en dv => ?_) (fun C hC => nomatch hC)
  cases hd'
  exact k _ rfl (.leaf v d) G' ls' H' (ZaL en.gd dv) en.gx en.en en.vs rfl
 ·exact h g h1 (fun T0 hT0 => nomatch hT0) fun C' hC' => kx C' (rxc hC')⟩
theorem ZcN {o : PyData → PyData → Option PyData} (ho : OpOk r o) (ha : SX W ta a) (hb : SX W tb b) : SX W (tOp r ta tb) (xOp o a b) := ⟨fun {F G ls H r en'} g e Q k kx => by
 rcases Zn e with ⟨x, e1, h1, h2⟩ | ⟨C, h1, rfl⟩
 ·refine ha g h1 (fun d hd v G1 l1 H1 E1 dv => ?_) (fun C hC => nomatch hC)
  cases hd
  have hv := E1.vs
  show tb (vals ls) H1 _
  rw [← hv]
  rw [← E1.en] at h2
  rcases Zn h2 with ⟨y, e2, h3, h4⟩ | ⟨C, h3, rfl⟩
  ·refine hb E1.gd h3 (fun d hd u G2 l2 H2 E2 du => ?_) (fun C hC => nomatch hC)
   cases hd
   obtain ⟨d, hd, rfl, rfl⟩ := Zx h4
   refine ho (dv.up E2.gx.ex) du hd E2.gd.gh fun z H3 e3 dz => ?_
   obtain ⟨g3, gx3⟩ := E2.gd.grow e3
   exact k d rfl z _ l2 H3 ((E1.trans E2).trans ⟨g3, gx3, E2.en, rfl⟩) dz
  ·exact hb E1.gd h3 (fun d hd => nomatch hd) fun C' hC' => (kx C' (rxc hC')).at E1
 ·exact ha g h1 (fun d hd => nomatch hd) fun C' hC' => kx C' (rxc hC')⟩
theorem Z2 : SXA W tNil aNilX := ⟨fun {F G ls H r en'} g e Q k kx => by
 cases e
 exact k [] rfl [] G ls H ⟨g, Gx.refl, rfl, rfl⟩ .nil⟩
theorem Zl {tr : TA} {s : FA} (ha : SX W ta a) (hr : SXA W tr s) : SXA W (tCons ta tr) (aConsX a s) := ⟨fun {F G ls H r en'} g e Q k kx => by
 rcases Zn e with ⟨x, e1, h1, h2⟩ | ⟨C, h1, rfl⟩
 ·refine ha g h1 (fun d hd v G1 l1 H1 E1 dv => ?_) (fun C hC => nomatch hC)
  cases hd
  have hv := E1.vs
  show tr (vals ls) H1 _
  rw [← hv]
  rw [← E1.en] at h2
  rcases Zn h2 with ⟨y, e2, h3, h4⟩ | ⟨C, h3, rfl⟩
  ·refine hr E1.gd h3 (fun d hd u G2 l2 H2 E2 du => ?_) (fun C hC => nomatch hC)
   cases hd
   cases h4
   exact k _ rfl _ G2 l2 H2 (E1.trans E2) (.cons (dv.up E2.gx.ex) du)
  ·exact hr E1.gd h3 (fun d hd => nomatch hd) fun C' hC' => (kx C' (rxc hC')).at E1
 ·exact ha g h1 (fun d hd => nomatch hd) fun C' hC' => kx C' (rxc hC')⟩
theorem ZA {ta : TA} {f : DE → Option (List PyData)} (h : SA ta f) : SXA W ta (aS f) := ⟨fun {F G ls H r en'} g e Q k _ => by
 obtain ⟨d, hd, rfl, rfl⟩ := Zx e
 refine h (Zae g) hd H g.gh Q fun v H2 e2 dv => ?_
 obtain ⟨g2, gx⟩ := g.grow e2
 exact k d rfl v _ ls H2 ⟨g2, gx, rfl, rfl⟩ dv⟩
theorem ZnO {tr : TA} {s : FA} {rr : List V → Hp → VK → Prop} {o : List PyData → Option PyData} (ho : CbOk rr o) (ha : SXA W tr s) : SX W (tCB rr tr) (xCb o s) := ⟨fun {F G ls H r en'} g e Q k kx => by
 rcases Zn e with ⟨x, e1, h1, h2⟩ | ⟨C, h1, rfl⟩
 ·refine ha g h1 (fun d hd v G1 l1 H1 E1 dv => ?_) (fun C hC => nomatch hC)
  cases hd
  obtain ⟨d, hd, rfl, rfl⟩ := Zx h2
  refine ho dv hd E1.gd.gh fun z H3 e3 dz => ?_
  obtain ⟨g3, gx3⟩ := E1.gd.grow e3
  exact k d rfl z _ l1 H3 (E1.trans ⟨g3, gx3, E1.en, rfl⟩) dz
 ·exact ha g h1 (fun d hd => nomatch hd) fun C' hC' => kx C' (rxc hC')⟩
theorem Zl0 {tr : TA} {s : FA} (ha : SXA W tr s) : SX W (tTup tr) (xTup s) := ⟨fun {F G ls H r en'} g e Q k kx => by
 rcases Zn e with ⟨x, e1, h1, h2⟩ | ⟨C, h1, rfl⟩
 ·refine ha g h1 (fun d hd v G1 l1 H1 E1 dv => ?_) (fun C hC => nomatch hC)
  cases hd
  obtain ⟨d, hd, rfl, rfl⟩ := Zx h2
  split at hd
  case isFalse => cases hd
  rename_i hb
  cases hd
  refine ⟨sz_of (by rw [dv.len]; exact of_decide_eq_true hb), fun l hl => ?_⟩
  obtain ⟨g3, gx3⟩ := E1.gd.grow (Ex.new (o := .tup v) hl)
  exact k _ rfl _ _ l1 _ (E1.trans ⟨g3, gx3, E1.en, rfl⟩) (ZnK hl E1.gd.gh dv)
 ·exact ha g h1 (fun d hd => nomatch hd) fun C' hC' => kx C' (rxc hC')⟩
theorem Zg3 {G : Hp} (H : Hp) : ∀ {xs : List V} {ds : List PyData}, DtAll G xs ds → ∃ cs : List (Lab × LT), LT.vals cs = xs.map (fun v => (Lab.no, v)) ∧ LT.erL cs = oLeafs ds ∧ (∀ x ∈ cs, x.2.ok G H) ∧ LT.adsL cs = []
 | _, _, .nil => ⟨[], rfl, rfl, fun _ h => (nomatch h), rfl⟩
 | _, _, .cons (v := v) (d := d) h r => by
  obtain ⟨cs, h1, h2, h3, h4⟩ := Zg3 H r
  refine ⟨(.no, .leaf v d) :: cs, ?_, ?_, ?_, ?_⟩
  ·show (Lab.no, v) :: LT.vals cs = _
   rw [h1]
   rfl
  ·show (Lab.no, OT.leaf d) :: LT.erL cs = _
   rw [h2]
   rfl
  ·intro x hx
   rcases List.mem_cons.mp hx with rfl | hx
   ·exact h
   ·exact h3 x hx
  ·show [] ++ LT.adsL cs = []
   rw [h4]
   rfl
/-- a new node in front -/
theorem ZaJ {F G H : Hp} {ls : Ls} {k : Kd} {p : Addr} {cs : List (Lab × LT)} (g : Good F G ls H) (hk : k.own p 0 = [p]) (hdx : k.dxok H p 0) (hp : H p = some (hoOf k 0 (LT.vals cs))) (hG : G p = none) (hF : F p = none) (hl : p ∉ adsS ls) (hc : ∀ x ∈ cs, x.2.ok G H) (ha : LT.adsL cs = []) : Good F G (some (.node k p 0 cs) :: ls) H := by
 have hads : (LT.node k p 0 cs).ads = [p] := by rw [LT.ads, ha, hk]; rfl
 refine ⟨g.fh, g.gh, ?_, ?_, ?_, ?_⟩
 ·show ((LT.node k p 0 cs).ads ++ adsS ls).Nodup
  rw [hads]
  exact List.nodup_cons.mpr ⟨hl, g.nd⟩
 ·intro a h
  have h : a ∈ (LT.node k p 0 cs).ads ++ adsS ls := h
  rw [hads] at h
  rcases List.mem_cons.mp h with rfl | h
  ·exact hG
  ·exact g.gn a h
 ·intro a h
  have h : a ∈ (LT.node k p 0 cs).ads ++ adsS ls := h
  rw [hads] at h
  rcases List.mem_cons.mp h with rfl | h
  ·exact hF
  ·exact g.fn a h
 ·intro t ht
  rcases List.mem_cons.mp ht with z | z
  ·cases z
   exact LT.ok_node.mpr ⟨hp, hdx, hc⟩
  ·exact g.ok t z
theorem ZmO {F G H : Hp} {ls : Ls} {p : Addr} {xs : List V} {ds : List PyData} (g : Good F G ls H) (hp : H p = none) (dx : DtAll G xs ds) : ∃ T, Good F G (some T :: ls) (upd H p (.lst xs)) ∧ T.er = lstT ds ∧ T.val = .ref p := by
 obtain ⟨cs, h1, h2, h3, h4⟩ := Zg3 (upd H p (.lst xs)) dx
 refine ⟨.node .lst p 0 cs, ZaJ (g.stay (Ex.new hp)) rfl trivial ?_ (fresh_back g.gh hp) (fresh_back g.fh hp) (fun h => ?_) h3 h4, ?_, rfl⟩
 ·rw [upd_same, h1]
  simp [hoOf, Function.comp_def]
 ·obtain ⟨o, ho⟩ := g.has h
  rw [hp] at ho
  cases ho
 ·show OT.node .lst (LT.erL cs) = _
  rw [h2]
  rfl
theorem Zgr {tr : TA} {s : FA} (ha : SXA W tr s) : SN W (tLst tr) (nLst s) := ⟨fun {F G ls H r en'} g e Q k kx => by
 rcases Zn e with ⟨x, e1, h1, h2⟩ | ⟨C, h1, rfl⟩
 ·refine ha g h1 (fun d hd v G1 l1 H1 E1 dv => ?_) (fun C hC => nomatch hC)
  cases hd
  obtain ⟨d, hd, rfl, rfl⟩ := Zx h2
  split at hd
  case isFalse => cases hd
  rename_i hb
  cases hd
  refine ⟨sz_of (by rw [dv.len]; exact of_decide_eq_true hb), fun l hl => ?_⟩
  obtain ⟨T, gT, hT, hv⟩ := ZmO E1.gd hl dv
  rw [← hv]
  exact k _ rfl T G1 l1 _ gT E1.gx E1.en E1.vs hT
 ·exact ha g h1 (fun d hd => nomatch hd) fun C' hC' => kx C' (rxc hC')⟩
/-- a list that was just made, its things told -/
theorem Zgf {F H G2 : Hp} {ls : Ls} {p : Addr} {ds : List PyData} (g : Good F G2 ls H) (hG : G2 p = none) (hF : F p = none) (hl : p ∉ adsS ls) {xs : List V} (hp : H p = some (.lst xs)) (dx : DtAll G2 xs ds) : ∃ T, Good F G2 (some T :: ls) H ∧ T.er = lstT ds ∧ T.val = .ref p := by
 obtain ⟨cs, h1, h2, h3, h4⟩ := Zg3 H dx
 refine ⟨.node .lst p 0 cs, ZaJ g rfl trivial ?_ hG hF hl h3 h4, ?_, rfl⟩
 ·rw [hp, h1]
  simp [hoOf, Function.comp_def]
 ·show OT.node .lst (LT.erL cs) = _
  rw [h2]
  rfl
theorem Good.hide {F G H : Hp} {ls : Ls} {p : Addr} (g : Good F G ls H) (hl : ∀ t, some t ∈ ls → t.ok (Kb.hide G p) H) : Good F (Kb.hide G p) ls H :=
 ⟨g.fh, ZjV.trans g.gh, g.nd, fun a ha => by
  unfold Kb.hide
  split
  ·rfl
  ·exact g.gn a ha, g.fn, hl⟩
/-- a new list is taken out of what is told -/
theorem Zie {F G H H2 : Hp} {ls : Ls} {p : Addr} {ds : List PyData} (g : Good F G ls H) (e : Ex H H2) (hp : H p = none) (dx : Dt (Kb.grow G H H2) (.ref p) (.list ds)) : ∃ T G', Good F G' (some T :: ls) H2 ∧ Gx F G G' ∧ T.er = lstT ds ∧ T.val = .ref p := by
 have dx' := dx
 obtain ⟨a, xs, ea, ha, r⟩ := dx.ol
 cases ea
 obtain ⟨g2, gx⟩ := g.grow e
 have r' := DtAll.hid dx' (by simp only [PyData.list.sizeOf_spec]; omega) r
 have gE : Ex G (Kb.hide (Kb.grow G H H2) p) := fun a o h => by
  rw [ZO fun z => by subst z; rw [fresh_back g.gh hp] at h; cases h]
  exact gx.ex a o h
 have hpl : p ∉ adsS ls := fun h => by
  obtain ⟨o, ho⟩ := g.has h
  rw [hp] at ho
  cases ho
 have gH : Good F (Kb.hide (Kb.grow G H H2) p) ls H2 := g2.hide fun t ht => LT.ok_mono gE t ((g.stay e).ok t ht)
 obtain ⟨T, gT, hT, hv⟩ := Zgf (ds := ds) gH ZeO (fresh_back g.fh hp) hpl (g2.gh _ _ ha) r'
 refine ⟨T, _, gT, ⟨gE, fun a o h => ?_⟩, hT, hv⟩
 rw [ZO fun z => by subst z; rw [fresh_back g.fh hp] at h; cases h]
 exact gx.no a o h
theorem Zfx {d : PyData} (h : ∀ ds, d ≠ .list ds) : freshT d = .leaf d := by
 cases d <;> first | rfl | exact absurd rfl (h _)
theorem Zkz (h : SF te f) : SN W te (nF f) := ⟨fun {F G ls H r en'} g e Q k _ => by
 obtain ⟨d, hd, rfl, rfl⟩ := Zx e
 obtain ⟨d', hd', rfl⟩ := Option.map_eq_some_iff.mp hd
 refine h (Zae g) hd' H g.gh Q fun v H2 e2 fv dv => ?_
 by_cases z : ∃ ds, d' = .list ds
 ·obtain ⟨ds, rfl⟩ := z
  obtain ⟨p, xs, rfl, hp, r⟩ := dv.ol
  obtain ⟨T, G', gT, gx, hT, hv⟩ := Zie g e2 (fv p rfl) dv
  rw [← hv]
  exact k _ rfl T G' ls H2 gT gx rfl rfl hT
 ·obtain ⟨g2, gx⟩ := g.grow e2
  exact k _ rfl (.leaf v d') _ ls H2 (ZaL g2 dv) gx rfl rfl (by rw [Zfx fun ds hds => z ⟨ds, hds⟩]; rfl)⟩
theorem Zi1 {G : Hp} : ∀ {xs : List V} {ds : List PyData} {G' : Hp}, DtAll G xs ds → ds.all flatD = true → DtAll G' xs ds
 | _, _, _, .nil, _ => .nil
 | _, _, _, .cons h r, f => by
  rw [List.all_cons, Bool.and_eq_true] at f
  exact .cons (ZjN h f.1) (Zi1 r f.2)
theorem Zff (h : SF te f) : SN W te (nFW f) := ⟨fun {F G ls H r en'} g e Q k _ => by
 obtain ⟨d, hd, rfl, rfl⟩ := Zx e
 obtain ⟨d', hd', hd2⟩ := bnd hd
 split at hd2
 case h_2 => cases hd2
 split at hd2
 case isFalse => cases hd2
 rename_i ds hf
 cases hd2
 refine h (Zcq g) hd' H (Za3 g.gh) Q fun v H2 e2 fv dv => ?_
 obtain ⟨p, xs, rfl, hp, r⟩ := dv.ol
 have hp0 : H p = none := fv p rfl
 have hpl : p ∉ adsS ls := fun h => by
  obtain ⟨o, ho⟩ := g.has h
  rw [hp0] at ho
  cases ho
 have hp2 : H2 p = some (.lst xs) := by rw [Zv hp0] at hp; exact hp
 obtain ⟨T, gT, hT, hv⟩ := Zgf (ds := ds) (g.stay e2) (fresh_back g.gh hp0) (fresh_back g.fh hp0) hpl hp2 (Zi1 r hf)
 rw [← hv]
 exact k _ rfl T G ls H2 gT Gx.refl rfl rfl hT⟩
theorem Zq3 (ha : SX W ta a) : SXB W (tB ta) (bXx a) := ⟨fun {F G ls H r en'} g e Q k kx => by
 rcases Zn e with ⟨x, e1, h1, h2⟩ | ⟨C, h1, rfl⟩
 ·refine ha g h1 (fun d hd v G1 l1 H1 E1 dv => ?_) (fun C hC => nomatch hC)
  cases hd
  obtain ⟨d, hd, rfl, rfl⟩ := Zx h2
  obtain rfl := Zd4 hd
  obtain rfl := dv.ob
  exact ⟨d, rfl, k d rfl G1 l1 H1 E1⟩
 ·exact ha g h1 (fun d hd => nomatch hd) fun C' hC' => kx C' (rxc hC')⟩
theorem ZoB (h1 : SXB W tt p) (h2 : SXB W tu q) : SXB W (tAnd tt tu) (bAndX p q) := ⟨fun {F G ls H r en'} g e Q k kx => by
 rcases Zn e with ⟨x, e1, e2, e3⟩ | ⟨C, e2, rfl⟩
 ·refine h1 g e2 (fun d hd G1 l1 H1 E1 => ?_) (fun C hC => nomatch hC)
  cases hd
  cases x with
  | true =>
   rw [if_pos rfl, ← E1.en] at e3
   show tu (vals ls) H1 _
   rw [← E1.vs]
   exact h2 E1.gd e3 (fun b hb G' ls' H' E2 => k b hb G' ls' H' (E1.trans E2)) fun C hC => (kx C hC).at E1
  | false =>
   rw [if_neg Bool.false_ne_true] at e3
   cases e3
   exact k false rfl G1 l1 H1 E1
 ·exact h1 g e2 (fun d hd => nomatch hd) fun C' hC' => kx C' (rxc hC')⟩
theorem ZjM (h1 : SXB W tt p) : SXB W (tNot tt) (bNotX p) := ⟨fun {F G ls H r en'} g e Q k kx => by
 rcases Zn e with ⟨x, e1, e2, e3⟩ | ⟨C, e2, rfl⟩
 ·refine h1 g e2 (fun d hd G1 l1 H1 E1 => ?_) (fun C hC => nomatch hC)
  cases hd
  cases e3
  exact k _ rfl G1 l1 H1 E1
 ·exact h1 g e2 (fun d hd => nomatch hd) fun C' hC' => kx C' (rxc hC')⟩
end
end Kb
namespace Kb
open PySem L2 Evl
inductive Ot
 | nx
 | rt (T : OT)
 | bk
 | ct
 | ex (C : Addr)
noncomputable abbrev FS := En → Option (Ot × En)
structure Kept (kp : Nat → Bool) (ls ls' : Ls) : Prop where
 len : ls'.length = ls.length
 at' : ∀ i, kp i = true → (vals ls')[i]? = (vals ls)[i]?
theorem Kept.refl {kp : Nat → Bool} {ls : Ls} : Kept kp ls ls := ⟨rfl, fun _ _ => rfl⟩
theorem Kept.trans {kp : Nat → Bool} {l0 l1 l2 : Ls} (a : Kept kp l0 l1) (b : Kept kp l1 l2) : Kept kp l0 l2 := ⟨b.len.trans a.len, fun i h => (b.at' i h).trans (a.at' i h)⟩
theorem Zu {ls : Ls} : (vals ls).length = ls.length := by simp [vals]
theorem Kept.of {kp : Nat → Bool} {ls ls' : Ls} (h : vals ls' = vals ls) : Kept kp ls ls' := ⟨by have := congrArg List.length h; rwa [Zu, Zu] at this, fun i _ => by rw [h]⟩
structure EndS (kp : Nat → Bool) (F G : Hp) (ls : Ls) (G' : Hp) (ls' : Ls) (H' : Hp) (en' : En) : Prop where
 gd : Good F G' ls' H'
 gx : Gx F G G'
 en : ens ls' = en'
 kt : Kept kp ls ls'
theorem End.s {kp : Nat → Bool} {F G G' H' : Hp} {ls ls' : Ls} {en' : En} (h : End F G ls G' ls' H' en') : EndS kp F G ls G' ls' H' en' := ⟨h.gd, h.gx, h.en, .of h.vs⟩
theorem EndS.trans {kp : Nat → Bool} {F G G1 G2 H1 H2 : Hp} {ls l1 l2 : Ls} {e1 e2 : En} (a : EndS kp F G ls G1 l1 H1 e1) (b : EndS kp F G1 l1 G2 l2 H2 e2) : EndS kp F G ls G2 l2 H2 e2 := ⟨b.gd, a.gx.trans b.gx, b.en, a.kt.trans b.kt⟩
noncomputable def Post (kp : Nat → Bool) (W : WX) (F G : Hp) (ls : Ls) (D : Ends) : Ot → En → Prop
 | .nx, en' => ∀ G' ls' H', EndS kp F G ls G' ls' H' en' → D.nx (vals ls') H'
 | .bk, en' => ∀ G' ls' H', EndS kp F G ls G' ls' H' en' → D.bk (vals ls') H'
 | .ct, en' => ∀ G' ls' H', EndS kp F G ls G' ls' H' en' → D.ct (vals ls') H'
 | .ex C, en' => ∀ G' ls' H', EndS kp F G ls G' ls' H' en' → W (.ref C) none (vals ls') H'
 | .rt T0, en' => ∀ T G' ls' H', Good F G' (some T :: ls') H' → Gx F G G' → ens ls' = en' → Kept kp ls ls' → T.er = T0 → D.rt T.val H'
theorem Post.at {kp : Nat → Bool} {W : WX} {F G G1 H1 : Hp} {ls l1 : Ls} {e1 en' : En} {D : Ends} {o : Ot} (p : Post kp W F G ls D o en') (a : EndS kp F G ls G1 l1 H1 e1) : Post kp W F G1 l1 D o en' := by
 cases o with
 | nx => exact fun G' ls' H' b => p G' ls' H' (a.trans b)
 | bk => exact fun G' ls' H' b => p G' ls' H' (a.trans b)
 | ct => exact fun G' ls' H' b => p G' ls' H' (a.trans b)
 | ex C => exact fun G' ls' H' b => p G' ls' H' (a.trans b)
 | rt T0 => exact fun T G' ls' H' g gx he hk hT => p T G' ls' H' g (a.gx.trans gx) he (a.kt.trans hk) hT
structure SS (kp : Nat → Bool) (W : WX) (ts : TS) (s : FS) : Prop where
 run : ∀ {F G : Hp} {ls : Ls} {H : Hp} {o : Ot} {en' : En}, Good F G ls H → s (ens ls) = some (o, en') → ∀ {D : Ends}, Post kp W F G ls D o en' → ts D (vals ls) H
instance {kp : Nat → Bool} {W : WX} {ts : TS} {s : FS} : CoeFun (SS kp W ts s) (fun _ => ∀ {F G : Hp} {ls : Ls} {H : Hp} {o : Ot} {en' : En}, Good F G ls H → s (ens ls) = some (o, en') → ∀ {D : Ends}, Post kp W F G ls D o en' → ts D (vals ls) H) := ⟨fun h => h.run⟩
/-- the exceptions of an expression -/
theorem Post.xc {kp : Nat → Bool} {W : WX} {F G : Hp} {ls : Ls} {D : Ends} {C : Addr} {en' : En} (p : Post kp W F G ls D (.ex C) en') : XC W F G ls C en' := fun G' ls' H' b => by
 rw [← b.vs]
 exact p G' ls' H' b.s
noncomputable def sNil : FS := fun en => some (.nx, en)
noncomputable def sSeq (a b : FS) : FS := fun en => match a en with
 | some (.nx, e1) => b e1
 | r => r
noncomputable def bs {α : Type} (a : Option (Rx α × En)) (f : α → En → Option (Ot × En)) : Option (Ot × En) := match a with
 | some (.ok x, en) => f x en
 | some (.ex C, en) => some (.ex C, en)
 | none => none
theorem Zw {α : Type} {a : Option (Rx α × En)} {f : α → En → Option (Ot × En)} {r : Ot} {en' : En} (h : bs a f = some (r, en')) : (∃ x en1, a = some (.ok x, en1) ∧ f x en1 = some (r, en')) ∨ ∃ C, a = some (.ex C, en') ∧ r = .ex C := by
 unfold bs at h
 split at h
 ·exact .inl ⟨_, _, rfl, h⟩
 ·cases h; exact .inr ⟨_, rfl, rfl⟩
 ·cases h
noncomputable def sAsg (i : Nat) (x : FX) : FS := fun en => bs (x en) fun d e1 => some (.nx, e1.set i (some (.leaf d)))
noncomputable def sAsgN (i : Nat) (n : FN) : FS := fun en => bs (n en) fun T e1 => some (.nx, e1.set i (some T))
noncomputable def sDrop (x : FX) : FS := fun en => bs (x en) fun _ e1 => some (.nx, e1)
noncomputable def sDropN (n : FN) : FS := fun en => bs (n en) fun _ e1 => some (.nx, e1)
noncomputable def sRet (n : FN) : FS := fun en => bs (n en) fun T e1 => some (.rt T, e1)
noncomputable def sRetN : FS := fun en => some (.rt (.leaf .none), en)
noncomputable def sIf (c : FB) (a b : FS) : FS := fun en => bs (c en) fun t e1 => if t = true then a e1 else b e1
noncomputable def sRaise (C : Addr) : FS := fun en => some (.ex C, en)
noncomputable def sBk : FS := fun en => some (.bk, en)
noncomputable def sCt : FS := fun en => some (.ct, en)
theorem Zkk {ls : Ls} {i : Nat} (o : Option LT) (h : i < ls.length) : ∃ A B C, adsS ls = A ++ B ++ C ∧ adsS (ls.set i o) = A ++ oads o ++ C := by
 refine ⟨adsS (ls.take i), oads ls[i], adsS (ls.drop (i + 1)), ?_, ?_⟩
 ·have e : ls = ls.take i ++ ls[i] :: ls.drop (i + 1) := by rw [← List.drop_eq_getElem_cons h, List.take_append_drop]
  refine (congrArg adsS e).trans ?_
  unfold adsS
  rw [List.flatMap_append, List.flatMap_cons, List.append_assoc]
 ·rw [List.set_eq_take_append_cons_drop, if_pos h]
  simp [adsS]
theorem Good.sub {F G H : Hp} {ls ls' : Ls} (g : Good F G ls H) (h1 : (adsS ls').Nodup) (h2 : ∀ a ∈ adsS ls', a ∈ adsS ls) (h3 : ∀ t, some t ∈ ls' → t.ok G H) : Good F G ls' H :=
 ⟨g.fh, g.gh, h1, fun a ha => g.gn a (h2 a ha), fun a ha => g.fn a (h2 a ha), h3⟩
/-- what is in front goes into a slot -/
theorem Good.set {F G H : Hp} {ls : Ls} {o : Option LT} (g : Good F G (o :: ls) H) (i : Nat) : Good F G (ls.set i o) H := by
 have hnd : (oads o ++ adsS ls).Nodup := g.nd
 by_cases h : i < ls.length
 ·obtain ⟨A, B, C, h1, h2⟩ := Zkk o h
  rw [h1] at hnd
  refine g.sub ?_ (fun a ha => ?_) (fun t ht => ?_)
  ·rw [h2]
   have p : (A ++ oads o ++ C).Perm (oads o ++ (A ++ C)) := by
    rw [← List.append_assoc]
    exact (List.perm_append_comm).append_right C
   refine p.nodup_iff.mpr (hnd.sublist ?_)
   refine (List.Sublist.refl _).append ?_
   rw [List.append_assoc]
   exact (List.Sublist.refl _).append (List.sublist_append_right _ _)
  ·rw [h2] at ha
   show a ∈ oads o ++ adsS ls
   rw [h1]
   simp only [List.mem_append] at ha ⊢
   rcases ha with (ha | ha) | ha
   ·exact .inr (.inl (.inl ha))
   ·exact .inl ha
   ·exact .inr (.inr ha)
  ·rcases List.mem_or_eq_of_mem_set ht with z | z
   ·exact g.ok t (List.mem_cons_of_mem _ z)
   ·exact g.ok t (by rw [z]; exact List.mem_cons_self)
 ·rw [List.set_eq_of_length_le (by omega)]
  refine g.sub ?_ (fun a ha => ?_) (fun t ht => g.ok t (List.mem_cons_of_mem _ ht))
  ·exact (List.nodup_append.mp hnd).2.1
  ·exact List.mem_append_right _ ha
theorem Good.tail {F G H : Hp} {ls : Ls} {o : Option LT} (g : Good F G (o :: ls) H) : Good F G ls H := by
 have hnd : (oads o ++ adsS ls).Nodup := g.nd
 exact g.sub (List.nodup_append.mp hnd).2.1 (fun a ha => List.mem_append_right _ ha) fun t ht => g.ok t (List.mem_cons_of_mem _ ht)
theorem ZaC {ls : Ls} {i : Nat} {t : LT} : vals (ls.set i (some t)) = (vals ls).set i (some t.val) := by simp [vals, List.map_set]
theorem ZaG {ls : Ls} {i : Nat} {t : LT} : ens (ls.set i (some t)) = (ens ls).set i (some t.er) := by simp [ens, List.map_set]
theorem Kept.set {kp : Nat → Bool} {ls : Ls} {i : Nat} {o : Option LT} (h : kp i = false) : Kept kp ls (ls.set i o) := ⟨by simp, fun j hj => by
 unfold vals
 rw [List.map_set, List.getElem?_set_ne]
 intro z
 rw [z] at h
 rw [h] at hj
 cases hj⟩
section
variable {kp : Nat → Bool} {K : PySem.W.Frag} {w : World} {W : WX} {te ta tb tc : TE} {tt tu : TT} {ts tv : TS} {a b : FX} {n : FN} {p q : FB} {s s2 : FS}
theorem Zbt : SS kp W tNext sNil := ⟨fun {F G ls H o en'} g e D k => by
 cases e
 exact k G ls H ⟨g, Gx.refl, rfl, Kept.refl⟩⟩
theorem Zi (h1 : SS kp W ts s) (h2 : SS kp W tv s2) : SS kp W (tSeq ts tv) (sSeq s s2) := ⟨fun {F G ls H o en'} g e D k => by
 unfold sSeq at e
 show ts { D with nx := tv D } (vals ls) H
 cases z : s (ens ls) with
 | none => rw [z] at e; cases e
 | some r =>
  obtain ⟨o1, e1⟩ := r
  rw [z] at e
  cases o1 with
  | nx =>
   refine h1 g z (D := { D with nx := tv D }) fun G' ls' H' E1 => ?_
   have e : s2 e1 = some (o, en') := e
   rw [← E1.en] at e
   exact h2 E1.gd e (k.at E1)
  | rt T => cases e; exact h1 g z (D := { D with nx := tv D }) k
  | bk => cases e; exact h1 g z (D := { D with nx := tv D }) k
  | ct => cases e; exact h1 g z (D := { D with nx := tv D }) k
  | ex C => cases e; exact h1 g z (D := { D with nx := tv D }) k⟩
theorem Zbg {i : Nat} (hi : kp i = false) (h : SX W te a) : SS kp W (tAsg te (gName i)) (sAsg i a) := ⟨fun {F G ls H o en'} g e D k => by
 rcases Zw e with ⟨d, e1, h1, h2⟩ | ⟨C, h1, rfl⟩
 ·cases h2
  refine h g h1 (fun d' hd' v G' ls' H' E dv => ?_) (fun C hC => nomatch hC)
  cases hd'
  have k2 := k G' (ls'.set i (some (.leaf v d))) H' ⟨(ZaL E.gd dv).set i, E.gx, by rw [ZaG, E.en]; rfl, (Kept.of E.vs).trans (Kept.set hi)⟩
  rw [ZaC, E.vs] at k2
  exact k2
 ·exact h g h1 (fun d hd => nomatch hd) fun C' hC' => by cases hC'; exact k.xc⟩
theorem Zb0 {i : Nat} (hi : kp i = false) (h : SN W te n) : SS kp W (tAsg te (gName i)) (sAsgN i n) := ⟨fun {F G ls H o en'} g e D k => by
 rcases Zw e with ⟨T0, e1, h1, h2⟩ | ⟨C, h1, rfl⟩
 ·cases h2
  refine h g h1 (fun T0' hT0 T G' ls' H' g' gx he hv hT => ?_) (fun C hC => nomatch hC)
  cases hT0
  have k2 := k G' (ls'.set i (some T)) H' ⟨g'.set i, gx, by rw [ZaG, he, hT], (Kept.of hv).trans (Kept.set hi)⟩
  rw [ZaC, hv] at k2
  exact k2
 ·exact h g h1 (fun d hd => nomatch hd) fun C' hC' => by cases hC'; exact k.xc⟩
theorem Zbz (h : SN W te n) : SS kp W (tDrop te) (sDropN n) := ⟨fun {F G ls H o en'} g e D k => by
 rcases Zw e with ⟨d, e1, h1, h2⟩ | ⟨C, h1, rfl⟩
 ·cases h2
  refine h g h1 (fun T0' hT0 T G' ls' H' g' gx he hv hT => ?_) (fun C hC => nomatch hC)
  have k2 := k G' ls' H' ⟨g'.tail, gx, he, .of hv⟩
  rw [hv] at k2
  exact k2
 ·exact h g h1 (fun d hd => nomatch hd) fun C' hC' => by cases hC'; exact k.xc⟩
theorem ZC (h : SN W te n) : SS kp W (tRet te) (sRet n) := ⟨fun {F G ls H o en'} g e D k => by
 rcases Zw e with ⟨T0, e1, h1, h2⟩ | ⟨C, h1, rfl⟩
 ·cases h2
  refine h g h1 (fun T0' hT0 T G' ls' H' g' gx he hv hT => ?_) (fun C hC => nomatch hC)
  cases hT0
  exact k T G' ls' H' g' gx he (.of hv) hT
 ·exact h g h1 (fun d hd => nomatch hd) fun C' hC' => by cases hC'; exact k.xc⟩
theorem ZaZ (h0 : SXB W tt p) (h1 : SS kp W ts s) (h2 : SS kp W tv s2) : SS kp W (tIfS tt ts tv) (sIf p s s2) := ⟨fun {F G ls H o en'} g e D k => by
 rcases Zw e with ⟨t, e1, h3, h4⟩ | ⟨C, h3, rfl⟩
 ·refine h0 g h3 (fun b hb G' ls' H' E => ?_) (fun C hC => nomatch hC)
  cases hb
  cases t with
  | true =>
   refine iteT ?_
   rw [if_pos rfl, ← E.en] at h4
   rw [← E.vs]
   exact h1 E.gd h4 (k.at E.s)
  | false =>
   refine iteF ?_
   rw [if_neg Bool.false_ne_true, ← E.en] at h4
   rw [← E.vs]
   exact h2 E.gd h4 (k.at E.s)
 ·exact h0 g h3 (fun d hd => nomatch hd) fun C' hC' => by cases hC'; exact k.xc⟩
theorem Zf8 {C : Addr} : SS kp W (fun _ σ H => W (.ref C) none σ H) (sRaise C) := ⟨fun {F G ls H o en'} g e D k => by
 cases e
 exact k G ls H ⟨g, Gx.refl, rfl, Kept.refl⟩⟩
structure SGE (kp : Nat → Bool) (g : TG) (b : PyData → En → Option En) : Prop where
 run : ∀ {x : V} {d : PyData} {F G H : Hp} {ls : Ls} {en' : En}, Good F G ls H → Dt G x d → b d (ens ls) = some en' → ∀ {R : L2.St → Hp → Prop}, (∀ ls', EndS kp F G ls G ls' H en' → R (vals ls') H) → g x (vals ls) H R
instance {kp : Nat → Bool} {g : TG} {b : PyData → En → Option En} : CoeFun (SGE kp g b) (fun _ => ∀ {x : V} {d : PyData} {F G H : Hp} {ls : Ls} {en' : En}, Good F G ls H → Dt G x d → b d (ens ls) = some en' → ∀ {R : L2.St → Hp → Prop}, (∀ ls', EndS kp F G ls G ls' H en' → R (vals ls') H) → g x (vals ls) H R) := ⟨fun h => h.run⟩
structure SGEs (kp : Nat → Bool) (g : TGs) (b : List PyData → En → Option En) : Prop where
 run : ∀ {x : List V} {d : List PyData} {F G H : Hp} {ls : Ls} {en' : En}, Good F G ls H → DtAll G x d → b d (ens ls) = some en' → ∀ {R : L2.St → Hp → Prop}, (∀ ls', EndS kp F G ls G ls' H en' → R (vals ls') H) → g x (vals ls) H R
instance {kp : Nat → Bool} {g : TGs} {b : List PyData → En → Option En} : CoeFun (SGEs kp g b) (fun _ => ∀ {x : List V} {d : List PyData} {F G H : Hp} {ls : Ls} {en' : En}, Good F G ls H → DtAll G x d → b d (ens ls) = some en' → ∀ {R : L2.St → Hp → Prop}, (∀ ls', EndS kp F G ls G ls' H en' → R (vals ls') H) → g x (vals ls) H R) := ⟨fun h => h.run⟩
noncomputable def eName (j : Nat) : PyData → En → Option En := fun d en => some (en.set j (some (.leaf d)))
noncomputable def eNil : List PyData → En → Option En
 | [], en => some en
 | _, _ => none
noncomputable def eCons (b : PyData → En → Option En) (r : List PyData → En → Option En) : List PyData → En → Option En
 | d :: ds, en => (b d en).bind (r ds)
 | [], _ => none
noncomputable def eTup (n : Nat) (r : List PyData → En → Option En) : PyData → En → Option En
 | .tuple ds, en => if ds.length = n then r ds en else none
 | _, _ => none
noncomputable def eLst (n : Nat) (r : List PyData → En → Option En) : PyData → En → Option En
 | .list ds, en => if ds.length = n then r ds en else none
 | _, _ => none
theorem ZbY {j : Nat} (hj : kp j = false) : SGE kp (gName j) (eName j) := ⟨fun {x d F G H ls en'} g dx e R k => by
 cases e
 have k2 := k (ls.set j (some (.leaf x d))) ⟨(ZaL g dx).set j, Gx.refl, by rw [ZaG]; rfl, Kept.set hj⟩
 rw [ZaC] at k2
 exact k2⟩
theorem ZnY : SGEs kp gNil eNil := ⟨fun {xs ds F G H ls en'} g dx e R k => by
 cases ds with
 | nil => cases dx; cases e; exact ⟨rfl, k ls ⟨g, Gx.refl, rfl, Kept.refl⟩⟩
 | cons d ds => cases e⟩
theorem Zjl {g : TG} {gs : TGs} {b : PyData → En → Option En} {r : List PyData → En → Option En} (h1 : SGE kp g b) (h2 : SGEs kp gs r) : SGEs kp (gCons g gs) (eCons b r) := ⟨fun {xs ds F G H ls en'} g dx e R k => by
 cases ds with
 | nil => cases e
 | cons d ds =>
  obtain ⟨en1, he1, e⟩ := bnd e
  cases dx with
  | cons dv dvs =>
   refine ⟨_, _, rfl, h1 g dv he1 fun l1 E1 => ?_⟩
   rw [← E1.en] at e
   exact h2 E1.gd dvs e fun l2 E2 => k l2 (E1.trans E2)⟩
theorem Zq9 {n : Nat} {gs : TGs} {r : List PyData → En → Option En} (h1 : SGEs kp gs r) : SGE kp (gTup K n gs) (eTup n r) := ⟨fun {x d F G H ls en'} g dx e R k => by
 cases d <;> try (cases e; done)
 rename_i ds
 have e : (if ds.length = n then r ds (ens ls) else none) = some en' := e
 split at e
 ·obtain ⟨a, xs, rfl, ha, r⟩ := dx.ot
  exact ⟨a, xs, rfl, st_of (g.gh _ _ ha), by rw [r.len]; assumption, h1 g r e k⟩
 ·cases e⟩
noncomputable def sAsgG (b : PyData → En → Option En) (x : FX) : FS := fun en => bs (x en) fun d e1 => (b d e1).map fun e2 => (.nx, e2)
structure SIX (W : WX) (wi : TI) (it : FA) : Prop where
 run : ∀ {F G : Hp} {ls : Ls} {H : Hp} {r : Rx (List PyData)} {en' : En}, Good F G ls H → it (ens ls) = some (r, en') → ∀ {R : It → Hp → Prop},
 (∀ ds, r = .ok ds → ∀ J G1 l1 H1 Gd Y, End F G ls G1 l1 H1 en' → Walk J ds.length Gd Y → (∀ H', Ex G1 H' → Gd H') → (∀ i x Ha Hb Gi, i < ds.length → Ex G1 Gi → Ex Gi Ha → Y i Ha x Hb → Ex Ha Hb ∧ ∃ d, ds[i]? = some d ∧ Dt (grow Gi Ha Hb) x d) → R J H1) →
 (∀ C, r = .ex C → XC W F G ls C en') → wi (vals ls) H R
instance {W : WX} {wi : TI} {it : FA} : CoeFun (SIX W wi it) (fun _ => ∀ {F G : Hp} {ls : Ls} {H : Hp} {r : Rx (List PyData)} {en' : En}, Good F G ls H → it (ens ls) = some (r, en') → ∀ {R : It → Hp → Prop},
 (∀ ds, r = .ok ds → ∀ J G1 l1 H1 Gd Y, End F G ls G1 l1 H1 en' → Walk J ds.length Gd Y → (∀ H', Ex G1 H' → Gd H') → (∀ i x Ha Hb Gi, i < ds.length → Ex G1 Gi → Ex Gi Ha → Y i Ha x Hb → Ex Ha Hb ∧ ∃ d, ds[i]? = some d ∧ Dt (grow Gi Ha Hb) x d) → R J H1) →
 (∀ C, r = .ex C → XC W F G ls C en') → wi (vals ls) H R) := ⟨fun h => h.run⟩
noncomputable def iX (o : PyData → Option (List PyData)) (a : FX) : FA := fun en => bx (a en) fun x e1 => okx e1 (o x)
noncomputable def iA (o : List PyData → Option (List PyData)) (a : FA) : FA := fun en => bx (a en) fun x e1 => okx e1 (o x)
theorem ZmY (ha : SX W ta a) : SIX W (iList K ta) (iX asL a) := ⟨fun {F G ls H r en'} g e R k kx => by
 rcases Zn e with ⟨x, e1, h1, h2⟩ | ⟨C, h1, rfl⟩
 ·refine ha g h1 (fun d hd v G1 l1 H1 E1 dv => ?_) (fun C hC => nomatch hC)
  cases hd
  obtain ⟨ds, hd, rfl, rfl⟩ := Zx h2
  obtain rfl := Zk8 hd
  obtain ⟨p, xs, rfl, hp, r⟩ := dv.ol
  refine ⟨p, rfl, ⟨xs, sq_of (E1.gd.gh _ _ hp)⟩, k ds rfl _ G1 l1 H1 _ _ E1 (r.len ▸ walk_list (K := K) (a := p) (xs := xs)) (fun H' e' => sq_of (e' _ _ hp)) fun i x Ha Hb Gi hi gg gi hy => ?_⟩
  obtain ⟨rfl, hxi⟩ := hy
  obtain ⟨dd, hd, ddt⟩ := r.at' hxi
  exact ⟨Ex.refl _, dd, hd, (ddt.up gg).up (Zm gi)⟩
 ·exact ha g h1 (fun d hd => nomatch hd) fun C' hC' => kx C' (rxc hC')⟩
theorem Zhc {ta : TA} {s : FA} (ha : SXA W ta s) : SIX W (iRng1 ta) (iA rg1 s) := ⟨fun {F G ls H r en'} g e R k kx => by
 rcases Zn e with ⟨x, e1, h1, h2⟩ | ⟨C, h1, rfl⟩
 ·refine ha g h1 (fun d hd v G1 l1 H1 E1 dv => ?_) (fun C hC => nomatch hC)
  cases hd
  obtain ⟨ds, hd, rfl, rfl⟩ := Zx h2
  unfold rg1 at hd
  split at hd
  case h_2 => cases hd
  rename_i j
  split at hd
  case isFalse => cases hd
  rename_i hj
  cases hd
  have hj := ZsL hj
  obtain ⟨v1, rfl, dv1⟩ := dv.one
  obtain rfl := dv1.oi
  refine ⟨j, rfl, by omega, by omega, k _ rfl _ G1 l1 H1 _ _ E1 (by rw [Zki]; exact walk_range (lo := 0) (n := j.toNat)) (fun H' e' => trivial) fun i x Ha Hb Gi hi gg gi hy => ?_⟩
  obtain ⟨rfl, rfl⟩ := hy
  rw [Zki] at hi
  exact ⟨Ex.refl _, _, ZrC hi, .int _⟩
 ·exact ha g h1 (fun d hd => nomatch hd) fun C' hC' => kx C' (rxc hC')⟩
noncomputable def forGo (b : PyData → En → Option En) (body : FS) : List PyData → En → Option (Ot × En)
 | [], en => some (.nx, en)
 | d :: ds, en => (b d en).bind fun e1 => match body e1 with
  | some (.nx, e2) => forGo b body ds e2
  | some (.ct, e2) => forGo b body ds e2
  | some (.bk, e2) => some (.nx, e2)
  | r => r
noncomputable def sFor (it : FA) (b : PyData → En → Option En) (body : FS) : FS := fun en => bs (it en) fun ds e1 => forGo b body ds e1
theorem ZgD {wi : TI} {it : FA} {g : TG} {b : PyData → En → Option En} (hi : SIX W wi it) (hg : SGE kp g b) (hb : SS kp W ts s) : SS kp W (tFor wi g ts) (sFor it b s) := ⟨fun {F G ls H o en'} gd e D k => by
 rcases Zw e with ⟨ds, e1, h1, h2⟩ | ⟨C, h1, rfl⟩
 ·refine hi gd h1 (fun d' hd' J G1 l1 H1 Gd Y E1 wk hGd hY => ?_) (fun C hC => nomatch hC)
  cases hd'
  rw [← E1.vs]
  rw [← E1.en] at h2
  refine for_it wk (fun i σ' H' => ∃ G' ls', EndS kp F G1 l1 G' ls' H' (ens ls') ∧ vals ls' = σ' ∧ forGo b s (ds.drop i) (ens ls') = some (o, en')) ⟨G1, l1, ⟨E1.gd, Gx.refl, rfl, Kept.refl⟩, rfl, h2⟩ ?_ ?_ ?_
  ·rintro i σ' H' hi' ⟨G', ls', E2, _, _⟩
   exact hGd H' (E2.gx.ex.trans E2.gd.gh)
  ·rintro i x σ' Ha Hb hlt ⟨G', ls', E2, rfl, hgo⟩ hy
   obtain ⟨eab, d, hd, dx⟩ := hY i x Ha Hb G' hlt E2.gx.ex E2.gd.gh hy
   obtain ⟨g2, gx2⟩ := E2.gd.grow eab
   have hdr : ds.drop i = d :: ds.drop (i + 1) := by
    rw [List.drop_eq_getElem_cons hlt]
    congr 1
    rw [List.getElem?_eq_getElem hlt] at hd
    exact Option.some.inj hd
   rw [hdr] at hgo
   obtain ⟨e2, hb2, hgo⟩ := bnd hgo
   refine hg g2 dx hb2 fun l3 E3 => ?_
   have E13 : EndS kp F G1 l1 (grow G' Ha Hb) l3 Hb e2 := E2.trans ((⟨g2, gx2, rfl, Kept.refl⟩ : EndS kp F G' ls' _ ls' Hb (ens ls')).trans E3)
   cases hbody : s e2 with
   | none => rw [hbody] at hgo; cases hgo
   | some r =>
    obtain ⟨o1, e3⟩ := r
    rw [hbody] at hgo
    rw [← E3.en] at hbody
    refine hb E3.gd hbody ?_
    cases o1 with
    | nx => exact fun G4 l4 H4 E4 => ⟨G4, l4, ⟨(E13.trans E4).gd, (E13.trans E4).gx, rfl, (E13.trans E4).kt⟩, rfl, by rw [E4.en]; exact hgo⟩
    | ct => exact fun G4 l4 H4 E4 => ⟨G4, l4, ⟨(E13.trans E4).gd, (E13.trans E4).gx, rfl, (E13.trans E4).kt⟩, rfl, by rw [E4.en]; exact hgo⟩
    | bk => cases hgo; exact fun G4 l4 H4 E4 => k G4 l4 H4 (E1.s.trans (E13.trans E4))
    | rt T => cases hgo; exact k.at (E1.s.trans E13)
    | ex C => cases hgo; exact k.at (E1.s.trans E13)
  ·rintro σ' H' ⟨G', ls', E2, rfl, hgo⟩
   rw [List.drop_length] at hgo
   cases hgo
   exact k G' ls' H' (E1.s.trans E2)
 ·exact hi gd h1 (fun d hd => nomatch hd) fun C' hC' => by cases hC'; exact k.xc⟩
end
end Kb
namespace Kb
open PySem L2 Evl
noncomputable def LT.sub : LT → List Nat → Option LT
 | t, [] => some t
 | .node _ _ _ cs, i :: p => (cs[i]?).bind fun x => x.2.sub p
 | .leaf _ _, _ :: _ => none
noncomputable def OT.sub : OT → List Nat → Option OT
 | t, [] => some t
 | .node _ cs, i :: p => (cs[i]?).bind fun x => x.2.sub p
 | .leaf _, _ :: _ => none
noncomputable def LT.put : LT → List Nat → LT → LT
 | _, [], s => s
 | .node k a dx cs, i :: p, s => .node k a dx (cs.modify i fun x => (x.1, x.2.put p s))
 | .leaf v d, _ :: _, _ => .leaf v d
noncomputable def OT.put : OT → List Nat → OT → OT
 | _, [], s => s
 | .node k cs, i :: p, s => .node k (cs.modify i fun x => (x.1, x.2.put p s))
 | .leaf d, _ :: _, _ => .leaf d
theorem LT.er_node {k : Kd} {a dx : Addr} {cs : List (Lab × LT)} : (LT.node k a dx cs).er = .node k (cs.map fun x => (x.1, x.2.er)) := by rw [LT.er, LT.erL_map]
theorem LT.sub_er : ∀ (p : List Nat) (t : LT), t.er.sub p = (t.sub p).map LT.er
 | [], t => by cases t <;> rfl
 | i :: p, .leaf v d => rfl
 | i :: p, .node k a dx cs => by
  rw [LT.er_node]
  show ((cs.map fun x => (x.1, x.2.er))[i]?).bind (fun x => x.2.sub p) = ((cs[i]?).bind fun x => x.2.sub p).map LT.er
  rw [List.getElem?_map]
  cases cs[i]? with
  | none => rfl
  | some x => exact LT.sub_er p x.2
theorem LT.put_er (s : LT) : ∀ (p : List Nat) (t : LT), (t.put p s).er = t.er.put p s.er
 | [], t => by cases t <;> rfl
 | i :: p, .leaf v d => rfl
 | i :: p, .node k a dx cs => by
  rw [LT.er_node]
  show (LT.node k a dx (cs.modify i fun x => (x.1, x.2.put p s))).er = OT.node k ((cs.map fun x => (x.1, x.2.er)).modify i fun x => (x.1, x.2.put p s.er))
  rw [LT.er_node]
  congr 1
  apply List.ext_getElem?
  intro j
  rw [List.getElem?_map, List.getElem?_modify, List.getElem?_modify, List.getElem?_map]
  cases cs[j]? with
  | none => rfl
  | some x =>
   by_cases z : i = j
   ·subst z
    simp [LT.put_er s p x.2]
   ·simp [z]
theorem LT.put_val {s s' : LT} : ∀ {p : List Nat} {t : LT}, t.sub p = some s → s'.val = s.val → (t.put p s').val = t.val
 | [], t, h, e => by cases t <;> (cases h; exact e)
 | i :: p, .leaf v d, h, e => rfl
 | i :: p, .node k a dx cs, h, e => rfl
theorem ZfP {cs : List (Lab × LT)} {i : Nat} {x : Lab × LT} {b : Addr} (h : cs[i]? = some x) (y : Lab × LT) : (LT.adsL (cs.set i y)).count b + x.2.ads.count b = (LT.adsL cs).count b + y.2.ads.count b := by
 induction cs generalizing i with
 | nil => simp at h
 | cons c cs ih =>
  cases i with
  | zero =>
   simp at h
   subst h
   obtain ⟨l, t⟩ := c
   obtain ⟨l', t'⟩ := y
   simp [LT.adsL, List.count_append]
   omega
  | succ i =>
   obtain ⟨l, t⟩ := c
   have := ih (i := i) (by simpa using h)
   simp [LT.adsL, List.count_append]
   omega
theorem ZcJ {α : Type} {l : List α} {i : Nat} {x : α} (f : α → α) (h : l[i]? = some x) : l.modify i f = l.set i (f x) := by
 apply List.ext_getElem?
 intro j
 rw [List.getElem?_modify, List.getElem?_set]
 by_cases z : i = j
 ·subst z
  obtain ⟨h1, h2⟩ := List.getElem?_eq_some_iff.mp h
  simp [h1, h2]
 ·simp [z]
theorem LT.ads_eq {k : Kd} {a dx : Addr} {cs : List (Lab × LT)} : (LT.node k a dx cs).ads = k.own a dx ++ LT.adsL cs := by rw [LT.ads]
theorem LT.put_cnt {s s' : LT} {b : Addr} : ∀ {p : List Nat} {t : LT}, t.sub p = some s → (t.put p s').ads.count b + s.ads.count b = t.ads.count b + s'.ads.count b
 | [], t, h => by cases t <;> (cases h; show s'.ads.count b + _ = _; omega)
 | i :: p, .leaf v d, h => by cases h
 | i :: p, .node k a dx cs, h => by
  have h : (cs[i]?).bind (fun x => x.2.sub p) = some s := h
  obtain ⟨x, hx, hs⟩ := bnd h
  have ih := LT.put_cnt (b := b) (s' := s') hs
  show (LT.node k a dx (cs.modify i fun x => (x.1, x.2.put p s'))).ads.count b + _ = _
  rw [LT.ads, LT.ads, ZcJ _ hx, List.count_append, List.count_append]
  have := ZfP (b := b) hx (x.1, x.2.put p s')
  dsimp only at this
  omega
theorem Zbp {cs : List (Lab × LT)} {x : Lab × LT} {b : Addr} (h : x ∈ cs) : x.2.ads.count b ≤ (LT.adsL cs).count b := by
 induction cs with
 | nil => exact nomatch h
 | cons c cs ih =>
  obtain ⟨l, t⟩ := c
  rw [LT.adsL, List.count_append]
  rcases List.mem_cons.mp h with rfl | h
  ·exact Nat.le_add_right _ _
  ·exact Nat.le_trans (ih h) (Nat.le_add_left _ _)
theorem LT.sub_cnt {s : LT} {b : Addr} : ∀ {p : List Nat} {t : LT}, t.sub p = some s → s.ads.count b ≤ t.ads.count b
 | [], t, h => by cases t <;> (cases h; exact Nat.le_refl _)
 | i :: p, .leaf v d, h => by cases h
 | i :: p, .node k a dx cs, h => by
  have h : (cs[i]?).bind (fun x => x.2.sub p) = some s := h
  obtain ⟨x, hx, hs⟩ := bnd h
  have := LT.sub_cnt (b := b) hs
  have h2 := Zbp (b := b) (List.mem_of_getElem? hx)
  rw [LT.ads, List.count_append]
  omega
theorem LT.sub_ok {G H : Hp} {s : LT} : ∀ {p : List Nat} {t : LT}, t.sub p = some s → t.ok G H → s.ok G H
 | [], t, h, k => by cases t <;> (cases h; exact k)
 | i :: p, .leaf v d, h, k => by cases h
 | i :: p, .node kd a dx cs, h, k => by
  have h : (cs[i]?).bind (fun x => x.2.sub p) = some s := h
  obtain ⟨x, hx, hs⟩ := bnd h
  exact LT.sub_ok hs ((LT.ok_node.mp k).2.2 x (List.mem_of_getElem? hx))
theorem Zp {l : List Addr} {b : Addr} : b ∈ l ↔ 0 < l.count b := List.count_pos_iff.symm
/-- a part of a tree is changed: its own cells and no others -/
theorem LT.put_ok {G H H' : Hp} {s s' : LT} : ∀ {p : List Nat} {t : LT}, t.sub p = some s → s'.val = s.val → (∀ b, t.ads.count b ≤ 1) → (∀ b ∈ t.ads, b ∉ s.ads → H' b = H b) → t.ok G H → s'.ok G H' → (t.put p s').ok G H'
 | [], t, h, _, _, _, _, k2 => by cases t <;> exact k2
 | i :: p, .leaf v d, h, _, _, _, _, _ => by cases h
 | i :: p, .node kd a dx cs, h, hv, hn, hh, k, k2 => by
  have h : (cs[i]?).bind (fun x => x.2.sub p) = some s := h
  obtain ⟨x, hx, hs⟩ := bnd h
  obtain ⟨k1, k3, k4⟩ := LT.ok_node.mp k
  have hxm := List.mem_of_getElem? hx
  have cnt : ∀ b, (kd.own a dx).count b + (LT.adsL cs).count b ≤ 1 := fun b => by
   have := hn b
   rw [LT.ads, List.count_append] at this
   exact this
  have sub1 : ∀ b, s.ads.count b ≤ x.2.ads.count b := fun b => LT.sub_cnt hs
  have own : ∀ b ∈ kd.own a dx, H' b = H b := fun b hb => hh b (LT.ads_node.mpr (.inl hb)) fun z => by
   have := cnt b
   have h1 := Zp.mp hb
   have h2 := Zp.mp z
   have h3 := sub1 b
   have h4 := Zbp (b := b) hxm
   omega
  show (LT.node kd a dx (cs.modify i fun x => (x.1, x.2.put p s'))).ok G H'
  rw [ZcJ _ hx]
  refine LT.ok_node.mpr ⟨?_, ?_, fun y hy => ?_⟩
  ·rw [own a LT.mem_own, k1]
   congr 2
   unfold LT.vals
   apply List.ext_getElem?
   intro j
   rw [List.getElem?_map, List.getElem?_map, List.getElem?_set]
   by_cases z : i = j
   ·subst z
    have := (List.getElem?_eq_some_iff.mp hx).1
    rw [if_pos rfl, if_pos this, hx]
    simp [LT.put_val hs hv]
   ·rw [if_neg z]
  ·cases kd <;> try trivial
   exact (own dx (by simp [Kd.own])).trans k3
  ·obtain ⟨j, hj⟩ := List.getElem?_of_mem hy
   rw [List.getElem?_set] at hj
   split at hj
   ·rename_i z
    split at hj
    ·cases hj
     refine LT.put_ok hs hv (fun b => ?_) (fun b hb hb2 => hh b (LT.ads_node.mpr (.inr ⟨x, hxm, hb⟩)) hb2) (k4 x hxm) k2
     have := cnt b
     have h4 := Zbp (b := b) hxm
     omega
    ·cases hj
   ·rename_i z
    refine LT.ok_heap y.2 (fun b hb => hh b (LT.ads_node.mpr (.inr ⟨y, List.mem_of_getElem? hj, hb⟩)) fun hb2 => ?_) (k4 y (List.mem_of_getElem? hj))
    have h1 := cnt b
    have h2 := Zp.mp hb
    have h3 := Zp.mp hb2
    have h4 := sub1 b
    have h5 : y.2.ads.count b + x.2.ads.count b ≤ (LT.adsL cs).count b := by
     have := ZfP (b := b) hx (Lab.no, LT.leaf .non .none)
     have hy2 : y ∈ cs.set i (Lab.no, LT.leaf .non .none) := List.mem_of_getElem? (i := j) (by rw [List.getElem?_set, if_neg z]; exact hj)
     have h6 := Zbp (b := b) hy2
     have h7 : (LT.leaf .non .none).ads.count b = 0 := rfl
     dsimp only at this
     omega
    omega
theorem Z9 {ls : Ls} {i : Nat} {o : Option LT} {b : Addr} (h : ls[i]? = some o) (o' : Option LT) : (adsS (ls.set i o')).count b + (oads o).count b = (adsS ls).count b + (oads o').count b := by
 induction ls generalizing i with
 | nil => simp at h
 | cons c cs ih =>
  cases i with
  | zero =>
   simp at h
   subst h
   simp [adsS, List.count_append]
   omega
  | succ i =>
   have := ih (i := i) (by simpa using h)
   simp [adsS, List.count_append] at this ⊢
   omega
theorem Zdy {ls : Ls} {o : Option LT} {b : Addr} (h : o ∈ ls) : (oads o).count b ≤ (adsS ls).count b := by
 induction ls with
 | nil => exact nomatch h
 | cons c cs ih =>
  show _ ≤ (oads c ++ adsS cs).count b
  rw [List.count_append]
  rcases List.mem_cons.mp h with rfl | h
  ·exact Nat.le_add_right _ _
  ·exact Nat.le_trans (ih h) (Nat.le_add_left _ _)
theorem ZjB {ls : Ls} {i j : Nat} {o q : Option LT} {b : Addr} (hi : ls[i]? = some o) (hj : ls[j]? = some q) (hne : i ≠ j) : (oads o).count b + (oads q).count b ≤ (adsS ls).count b := by
 have h1 := Z9 (b := b) hi none
 have h2 : q ∈ ls.set i none := List.mem_of_getElem? (i := j) (by rw [List.getElem?_set, if_neg hne]; exact hj)
 have h3 := Zdy (b := b) h2
 have h4 : (oads none).count b = 0 := rfl
 omega
/-- a thing kept apart is changed at a place -/
theorem Good.mod {F G H : Hp} {o : Option LT} {ls : Ls} {i : Nat} {p : List Nat} {t : LT} {k : Kd} {a dx : Addr} {cs cs' : List (Lab × LT)} (g : Good F G (o :: ls) H) (hi : ls[i]? = some (some t)) (hs : t.sub p = some (.node k a dx cs))
  (hcnt : ∀ b, (LT.adsL cs').count b ≤ (LT.adsL cs).count b + (oads o).count b) (hc : ∀ x ∈ cs', (∃ y ∈ cs, y.2 = x.2) ∨ some x.2 = o ∨ ∃ v d, x.2 = .leaf v d ∧ Dt G v d) :
  Good F G (ls.set i (some (t.put p (.node k a dx cs')))) (upd H a (hoOf k dx (LT.vals cs'))) := by
 have nd1 : ∀ b, (oads o).count b + (adsS ls).count b ≤ 1 := fun b => by
  have h := List.nodup_iff_count.mp g.nd b
  have e : adsS (o :: ls) = oads o ++ adsS ls := rfl
  rw [e, List.count_append] at h
  exact h
 have hti : ∀ b, t.ads.count b ≤ (adsS ls).count b := fun b => Zdy (List.mem_of_getElem? hi)
 have hsub : ∀ b, (k.own a dx).count b + (LT.adsL cs).count b ≤ t.ads.count b := fun b => by
  have := LT.sub_cnt (b := b) hs
  rw [LT.ads, List.count_append] at this
  exact this
 have hput : ∀ b, (t.put p (.node k a dx cs')).ads.count b + (LT.adsL cs).count b = t.ads.count b + (LT.adsL cs').count b := fun b => by
  have := LT.put_cnt (b := b) (s' := .node k a dx cs') hs
  rw [LT.ads_eq, LT.ads_eq, List.count_append, List.count_append] at this
  omega
 have hset : ∀ b, (adsS (ls.set i (some (t.put p (.node k a dx cs'))))).count b + (LT.adsL cs).count b = (adsS ls).count b + (LT.adsL cs').count b := fun b => by
  have h1 := Z9 (b := b) hi (some (t.put p (.node k a dx cs')))
  have h2 := hput b
  have e1 : (oads (some t)).count b = t.ads.count b := rfl
  have e2 : (oads (some (t.put p (.node k a dx cs')))).count b = (t.put p (.node k a dx cs')).ads.count b := rfl
  omega
 have ha1 : 0 < (k.own a dx).count a := Zp.mp LT.mem_own
 have hal : a ∈ adsS (o :: ls) := List.mem_append_right _ (Zp.mpr (by have h1 := hsub a; have h2 := hti a; show 0 < (adsS ls).count a; omega))
 have okt := g.ok t (List.mem_cons_of_mem _ (List.mem_of_getElem? hi))
 obtain ⟨k1, k2, k3⟩ := LT.ok_node.mp (LT.sub_ok hs okt)
 have sub : ∀ b ∈ adsS (ls.set i (some (t.put p (.node k a dx cs')))), b ∈ adsS (o :: ls) := fun b hb => by
  show b ∈ oads o ++ adsS ls
  rw [List.mem_append, Zp, Zp]
  have := Zp.mp hb
  have := hset b
  have := hcnt b
  omega
 -- the other cells
 have far : ∀ (t2 : LT), some t2 ∈ o :: ls → a ∉ t2.ads → t2.ok G (upd H a (hoOf k dx (LT.vals cs'))) := fun t2 h2 hn => LT.ok_heap t2 (fun b hb => upd_ne fun z => hn (z ▸ hb)) (g.ok t2 h2)
 refine ⟨g.fh.mut (g.fn a hal), g.gh.mut (g.gn a hal), List.nodup_iff_count.mpr fun b => ?_, fun b hb => g.gn b (sub b hb), fun b hb => g.fn b (sub b hb), fun t2 ht2 => ?_⟩
 ·have := hset b
  have := hcnt b
  have := nd1 b
  omega
 ·obtain ⟨j, hj⟩ := List.getElem?_of_mem ht2
  rw [List.getElem?_set] at hj
  split at hj
  ·split at hj
   ·cases hj
    refine LT.put_ok (s := .node k a dx cs) hs rfl (fun b => by have := hti b; have := nd1 b; omega) (fun b _ hb => upd_ne fun z => hb (by rw [z]; exact LT.ads_node.mpr (.inl LT.mem_own))) okt ?_
    refine LT.ok_node.mpr ⟨upd_same, ?_, fun x hx => ?_⟩
    ·cases k <;> try trivial
     show upd H a _ dx = some (.own a)
     rw [upd_ne]
     ·exact k2
     ·intro z
      have h1 := hsub a
      have h2 := hti a
      have h3 := nd1 a
      rw [z] at h1
      simp [Kd.own] at h1
      omega
    ·rcases hc x hx with ⟨y, hy, e⟩ | e | ⟨v, d, e, dv⟩
     ·rw [← e]
      refine LT.ok_heap y.2 (fun b hb => upd_ne fun z => ?_) (k3 y hy)
      rw [z] at hb
      have h1 := hsub a
      have h2 := hti a
      have h3 := nd1 a
      have h4 := Zbp (b := a) hy
      have h5 := Zp.mp hb
      omega
     ·refine far x.2 (by rw [e]; exact List.mem_cons_self) fun hb => ?_
      have h1 := hsub a
      have h2 := hti a
      have h3 := nd1 a
      have h5 := Zp.mp hb
      have e3 : (oads o).count a = x.2.ads.count a := by rw [← e]; rfl
      omega
     ·rw [e]
      exact dv
   ·cases hj
  ·rename_i hne
   refine far t2 (List.mem_cons_of_mem _ (List.mem_of_getElem? hj)) fun hb => ?_
   have h0 := ZjB (b := a) hi hj hne
   have h1 := hsub a
   have h3 := nd1 a
   have h5 := Zp.mp hb
   have e1 : (oads (some t)).count a = t.ads.count a := rfl
   have e2 : (oads (some t2)).count a = t2.ads.count a := rfl
   omega
theorem Zf6 {ls : Ls} {i : Nat} {t s s' : LT} {p : List Nat} (hi : ls[i]? = some (some t)) (hs : t.sub p = some s) (hv : s'.val = s.val) : vals (ls.set i (some (t.put p s'))) = vals ls := by
 rw [ZaC, LT.put_val hs hv]
 unfold vals
 apply List.ext_getElem?
 intro j
 rw [List.getElem?_set]
 split
 ·rename_i z
  subst z
  have := (List.getElem?_eq_some_iff.mp hi).1
  rw [List.length_map, if_pos this, List.getElem?_map, hi]
  rfl
 ·rfl
end Kb
namespace Kb
open PySem L2 Evl
theorem Good.non0 {F G H : Hp} {ls : Ls} (g : Good F G ls H) : Good F G (Option.none :: ls) H := ⟨g.fh, g.gh, g.nd, g.gn, g.fn, fun t ht => by
 rcases List.mem_cons.mp ht with z | z
 ·cases z
 ·exact g.ok t z⟩
theorem Ziq {ls : Ls} {i : Nat} {k : Kd} {c0 : List (Lab × OT)} (h : (ens ls)[i]? = some (some (.node k c0))) : ∃ a dx cs, ls[i]? = some (some (.node k a dx cs)) ∧ LT.erL cs = c0 ∧ (vals ls)[i]? = some (some (.ref a)) := by
 unfold ens at h
 rw [List.getElem?_map] at h
 obtain ⟨o, ho, h⟩ := Option.map_eq_some_iff.mp h
 cases o with
 | none => cases h
 | some t =>
  cases t with
  | leaf v d => cases h
  | node k' a dx cs =>
   have h : some (OT.node k' (LT.erL cs)) = some (.node k c0) := by rw [← h]; show some _ = some ((LT.node k' a dx cs).er); rw [LT.er]
   cases h
   exact ⟨a, dx, cs, ho, rfl, by unfold vals; rw [List.getElem?_map, ho]; rfl⟩
theorem Good.node_at {F G H : Hp} {ls : Ls} {i : Nat} {k : Kd} {a dx : Addr} {cs : List (Lab × LT)} (g : Good F G ls H) (h : ls[i]? = some (some (.node k a dx cs))) : H a = some (hoOf k dx (LT.vals cs)) ∧ ∀ x ∈ cs, x.2.ok G H :=
 let ⟨h1, _, h3⟩ := LT.ok_node.mp (g.ok _ (List.mem_of_getElem? h))
 ⟨h1, h3⟩
theorem ZfT {F G H : Hp} {o : Option LT} {ls : Ls} {i : Nat} {k : Kd} {a dx : Addr} {cs cs' : List (Lab × LT)} (g : Good F G (o :: ls) H) (hi : ls[i]? = some (some (.node k a dx cs)))
  (hcnt : ∀ b, (LT.adsL cs').count b ≤ (LT.adsL cs).count b + (oads o).count b) (hc : ∀ x ∈ cs', (∃ y ∈ cs, y.2 = x.2) ∨ some x.2 = o ∨ ∃ v d, x.2 = .leaf v d ∧ Dt G v d) :
  ∃ ls', Good F G ls' (upd H a (hoOf k dx (LT.vals cs'))) ∧ ens ls' = (ens ls).set i (some (.node k (LT.erL cs'))) ∧ vals ls' = vals ls := by
 have h := Good.mod (p := []) g hi rfl hcnt hc
 refine ⟨_, h, ?_, Zf6 (p := []) hi rfl rfl⟩
 rw [ZaG]
 show (ens ls).set i (some ((LT.node k a dx cs').er)) = _
 rw [LT.er]
theorem Zil (a b : List (Lab × LT)) : LT.adsL (a ++ b) = LT.adsL a ++ LT.adsL b := by rw [LT.adsL_map, LT.adsL_map, LT.adsL_map, List.flatMap_append]
theorem Zqf (a b : List (Lab × LT)) : LT.erL (a ++ b) = LT.erL a ++ LT.erL b := by rw [LT.erL_map, LT.erL_map, LT.erL_map, List.map_append]
theorem ZaF (dx : Addr) (cs : List (Lab × LT)) : hoOf .lst dx (LT.vals cs) = .lst (cs.map fun x => x.2.val) := by simp [hoOf, LT.vals, Function.comp_def]
theorem ZcO (cs : List (Lab × LT)) : (LT.erL cs).length = cs.length := by rw [LT.erL_map, List.length_map]
/-- the things of a list of one's own -/
noncomputable def lstAt (en : En) (i : Nat) : Option (List (Lab × OT)) := match en[i]? with
 | some (some (.node .lst cs)) => some cs
 | _ => none
theorem ZmV {en : En} {i : Nat} {cs : List (Lab × OT)} (h : lstAt en i = some cs) : en[i]? = some (some (.node .lst cs)) := by
 unfold lstAt at h
 split at h
 ·cases h; assumption
 ·cases h
theorem Zpg {ls l1 : Ls} (h : vals l1 = vals ls) {i : Nat} {a b : Addr} (ha : (vals ls)[i]? = some (some (.ref a))) (hb : (vals l1)[i]? = some (some (.ref b))) : a = b := by
 rw [h, ha] at hb
 cases hb
 rfl
noncomputable def lenOk (cs : List (Lab × OT)) : Bool := decide (cs.length < 100000)
/-- xs.append(e) -/
noncomputable def sApp (i : Nat) (x : FX) : FS := fun en => (lstAt en i).bind fun _ => bs (x en) fun d e1 => (lstAt e1 i).bind fun cs => if lenOk cs = true then some (.nx, e1.set i (some (.node .lst (cs ++ [(.no, .leaf d)])))) else none
/-- xs.append(e), e kept apart -/
noncomputable def sAppN (i : Nat) (n : FN) : FS := fun en => (lstAt en i).bind fun _ => bs (n en) fun T e1 => (lstAt e1 i).bind fun cs => if lenOk cs = true then some (.nx, e1.set i (some (.node .lst (cs ++ [(.no, T)])))) else none
noncomputable def sExt (i : Nat) (x : FX) : FS := fun en => (lstAt en i).bind fun _ => bs (x en) fun d e1 => (lstAt e1 i).bind fun cs => (asL d).bind fun ds => if cs.length + ds.length ≤ 100000 then some (.nx, e1.set i (some (.node .lst (cs ++ oLeafs ds)))) else none
noncomputable def sPut (i : Nat) (xi xv : FX) : FS := fun en => (lstAt en i).bind fun _ => bs (xv en) fun d e1 => bs (xi e1) fun j e2 => (lstAt e2 i).bind fun cs => (asI j).bind fun j => (ixN cs.length j).bind fun n => some (.nx, e2.set i (some (.node .lst (cs.set n (.no, .leaf d)))))
noncomputable def leafD : OT → Option PyData
 | .leaf d => some d
 | _ => none
section
variable {kp : Nat → Bool} {K : PySem.W.Frag} {w : World} {W : WX} {te ta tb tc ti tv : TE} {a b x xi xv : FX} {n : FN}
theorem ZlZ {F G H : Hp} {ls : Ls} {i : Nat} {cs : List (Lab × OT)} (g : Good F G ls H) (h : lstAt (ens ls) i = some cs) : ∃ p dx c, ls[i]? = some (some (.node .lst p dx c)) ∧ LT.erL c = cs ∧ (vals ls)[i]? = some (some (.ref p)) ∧ H p = some (.lst (c.map fun x => x.2.val)) ∧ True ∧ ∀ x ∈ c, x.2.ok G H := by
 obtain ⟨p, dx, c, h1, h2, h3⟩ := Ziq (ZmV h)
 have h4 := g.node_at h1
 rw [ZaF] at h4
 exact ⟨p, dx, c, h1, h2, h3, h4.1, trivial, h4.2⟩
theorem Zpa {c : List (Lab × LT)} {n : Nat} {v : V} {d : PyData} (b : Addr) : (LT.adsL (c.set n (.no, .leaf v d))).count b ≤ (LT.adsL c).count b := by
 by_cases h : n < c.length
 ·have := ZfP (b := b) (List.getElem?_eq_getElem h) (Lab.no, LT.leaf v d)
  have h7 : (LT.leaf v d).ads.count b = 0 := rfl
  dsimp only at this
  omega
 ·rw [List.set_eq_of_length_le (by omega)]
  exact Nat.le_refl _
theorem Zn6 (c : List (Lab × LT)) (n : Nat) (y : Lab × LT) : LT.erL (c.set n y) = (LT.erL c).set n (y.1, y.2.er) := by rw [LT.erL_map, LT.erL_map, List.map_set]
theorem Zd3 {i : Nat} (hi : SX W ti xi) (hv : SX W te xv) : SS kp W (tAsg te (gSub (tVar i) ti rSetL)) (sPut i xi xv) := ⟨fun {F G ls H o en'} g e D k => by
 obtain ⟨c0, hc0, e⟩ := bnd e
 obtain ⟨p, dx, c, h1, h2, h3, h4, h5, h6⟩ := ZlZ g hc0
 rcases Zw e with ⟨d, e1, e2, e3⟩ | ⟨C, e2, rfl⟩
 ·refine hv g e2 (fun d' hd' v G1 l1 H1 E1 dv => ?_) (fun C hC => nomatch hC)
  cases hd'
  rw [← E1.en] at e3
  refine ⟨_, h3, ?_⟩
  show ti (vals ls) H1 _
  rw [← E1.vs]
  rcases Zw e3 with ⟨j, e4, e5, e6⟩ | ⟨C, e5, rfl⟩
  ·refine hi E1.gd e5 (fun d hd v2 G2 l2 H2 E2 dv2 => ?_) (fun C hC => nomatch hC)
   cases hd
   rw [← E2.en] at e6
   obtain ⟨c1, hc1, e7⟩ := bnd e6
   obtain ⟨jj, hjj, e8⟩ := bnd e7
   obtain ⟨nn, hnn, e9⟩ := bnd e8
   cases e9
   obtain rfl := ZlW hjj
   obtain rfl := dv2.oi
   obtain ⟨p', dx', c', q1, q2, q3, q4, _, q6⟩ := ZlZ E2.gd hc1
   obtain rfl := Zpg (E2.vs.trans E1.vs) h3 q3
   obtain ⟨l3, g3, en3, v3⟩ := ZfT (cs' := c'.set nn (.no, .leaf v d)) E2.gd.non0 q1 (fun b => Nat.le_trans (Zpa b) (Nat.le_add_right _ _)) (fun y hy => by
    rcases List.mem_or_eq_of_mem_set hy with hy | hy
    ·exact .inl ⟨y, hy, rfl⟩
    ·subst hy; exact .inr (.inr ⟨v, d, rfl, dv.up E2.gx.ex⟩))
   rw [ZaF] at g3
   refine ⟨p, _, jj, nn, rfl, rfl, q4, by rw [List.length_map, ← ZcO, q2]; exact hnn, ?_⟩
   have k2 := k G2 l3 _ ((E1.trans E2).s.trans ⟨g3, Gx.refl, by rw [en3, Zn6, q2]; rfl, .of v3⟩)
   rw [v3, E2.vs] at k2
   rw [List.map_set] at k2
   rw [E1.vs] at k2 ⊢
   exact k2
  ·exact hi E1.gd e5 (fun d hd => nomatch hd) fun C' hC' => by cases hC'; exact k.xc.at E1
 ·exact hv g e2 (fun d hd => nomatch hd) fun C' hC' => by cases hC'; exact k.xc⟩
theorem Zc7 {T : OT} {d : PyData} (h : leafD T = some d) : T = .leaf d := by
 cases T <;> simp [leafD] at h
 rw [h]
end
noncomputable def nMove (i : Nat) : FN := fun en => (en[i]?).join.map fun T => (.ok T, en.set i none)
noncomputable def xTell (i : Nat) : FX := fun en => (en[i]?).join.map fun T => (.ok T.data, en.set i (some (.leaf T.data)))
theorem join_some {en : En} {i : Nat} {T : OT} (h : (en[i]?).join = some T) : en[i]? = some (some T) := by
 cases z : en[i]? with
 | none => rw [z] at h; cases h
 | some o => rw [z] at h; cases o with
  | none => cases h
  | some y => cases h; rfl
theorem Good.pull {F G H : Hp} {ls : Ls} {i : Nat} {t : LT} (g : Good F G ls H) (hi : ls[i]? = some (some t)) : Good F G (some t :: ls.set i none) H := by
 have hc : ∀ b, (adsS (some t :: ls.set i none)).count b = (adsS ls).count b := fun b => by
  have h1 := Z9 (b := b) hi none
  show (t.ads ++ adsS (ls.set i none)).count b = _
  rw [List.count_append]
  have e1 : (oads (some t)).count b = t.ads.count b := rfl
  have e2 : (oads none).count b = 0 := rfl
  omega
 have hm : ∀ b, b ∈ adsS (some t :: ls.set i none) → b ∈ adsS ls := fun b hb => by rw [Zp, ← hc b]; exact Zp.mp hb
 refine ⟨g.fh, g.gh, List.nodup_iff_count.mpr fun b => by rw [hc b]; exact List.nodup_iff_count.mp g.nd b, fun b hb => g.gn b (hm b hb), fun b hb => g.fn b (hm b hb), fun t2 ht2 => ?_⟩
 rcases List.mem_cons.mp ht2 with z | z
 ·cases z; exact g.ok t (List.mem_of_getElem? hi)
 ·rcases List.mem_or_eq_of_mem_set z with z | z
  ·exact g.ok t2 z
  ·cases z
/-- return x: x's own thing goes along -/
theorem Zfi {kp : Nat → Bool} {W : WX} {i : Nat} (hi : kp i = false) : SS kp W (tRet (tVar i)) (sRet (nMove i)) := ⟨fun {F G ls H o en'} g e D k => by
 rcases Zw e with ⟨T0, e1, e2, e3⟩ | ⟨C, e2, rfl⟩
 ·cases e3
  obtain ⟨T, hT, e3⟩ := Option.map_eq_some_iff.mp e2
  cases e3
  have hT := join_some hT
  unfold ens at hT
  rw [List.getElem?_map] at hT
  obtain ⟨o, ho, h⟩ := Option.map_eq_some_iff.mp hT
  cases o with
  | none => cases h
  | some t =>
   have h : some t.er = some T0 := h
   cases h
   refine ⟨t.val, by unfold vals; rw [List.getElem?_map, ho]; rfl, ?_⟩
   exact k t G (ls.set i none) H (g.pull ho) Gx.refl (by simp [ens, List.map_set]) (Kept.set hi) rfl
 ·obtain ⟨T, _, e3⟩ := Option.map_eq_some_iff.mp e2
  cases e3⟩
end Kb
namespace Kb
open PySem L2 Evl
noncomputable def start0 (n : Nat) (ts : List OT) : En := ts.map some ++ List.replicate (n - ts.length) none
noncomputable def startL (n : Nat) (ts : List LT) : Ls := ts.map some ++ List.replicate (n - ts.length) none
theorem Zem {n : Nat} {ts : List LT} : ens (startL n ts) = start0 n (ts.map LT.er) := by simp [ens, startL, start0, Function.comp_def]
theorem Zca {N : List Str} {ts : List LT} : vals (startL N.length ts) = L2.start N (ts.map LT.val) := by simp [vals, startL, L2.start, Function.comp_def]
theorem Zj (a b : Ls) : adsS (a ++ b) = adsS a ++ adsS b := by simp [adsS]
theorem Zco (n : Nat) : adsS (List.replicate n none) = [] := by
 induction n with
 | zero => rfl
 | succ n ih => rw [List.replicate_succ]; show [] ++ adsS (List.replicate n none) = _; rw [ih]; rfl
theorem Good.start {F G H : Hp} {ts : List LT} (g : Good F G (ts.map some) H) (n : Nat) : Good F G (startL n ts) H := by
 have e : adsS (startL n ts) = adsS (ts.map some) := by unfold startL; rw [Zj, Zco, List.append_nil]
 refine ⟨g.fh, g.gh, by rw [e]; exact g.nd, by rw [e]; exact g.gn, by rw [e]; exact g.fn, fun t ht => ?_⟩
 rcases List.mem_append.mp ht with h | h
 ·exact g.ok t h
 ·have := List.eq_of_mem_replicate h
  cases this
theorem ZcK {F G H : Hp} (fh : Ex F H) (gh : Ex G H) : ∀ {vs : List V} {ds : List PyData}, DtAll G vs ds → ∃ ts : List LT, Good F G (ts.map some) H ∧ ts.map LT.val = vs ∧ ts.map LT.er = ds.map OT.leaf ∧ adsS (ts.map some) = []
 | _, _, .nil => ⟨[], ⟨fh, gh, List.nodup_nil, fun _ h => (nomatch h), fun _ h => (nomatch h), fun _ h => (nomatch h)⟩, rfl, rfl, rfl⟩
 | _, _, .cons (v := v) (d := d) h r => by
  obtain ⟨ts, g, h1, h2, h3⟩ := ZcK fh gh r
  refine ⟨.leaf v d :: ts, ZaL g h, by rw [List.map_cons, h1]; rfl, by rw [List.map_cons, List.map_cons, h2]; rfl, ?_⟩
  show [] ++ adsS (ts.map some) = []
  rw [h3]
  rfl
/-- from the body of a def -/
noncomputable def fnD (np n : Nat) (body : FS) (ds : List PyData) : Option PyData := if ds.length = np then (match body (start0 n (ds.map OT.leaf)) with
 | some (.rt T, _) => some T.data
 | some (.nx, _) => some .none
 | _ => none) else none
noncomputable def freshR : OT → Bool
 | .leaf d => flatD d
 | .node _ _ => true
theorem Zoy {G G' H H' : Hp} (gx : Gx H G G') (g : Ex G' H') : Ex G' (grow G H H') := fun a o h => by
 cases z : H a with
 | none => rw [Zv z]; exact g a o h
 | some u => rw [Zo z, ← gx.no a u z]; exact h
theorem Zb1 {α : Type} {p : Prop} [Decidable p] {o : Option α} {d : α} (h : (if p then o else none) = some d) : p ∧ o = some d := by
 split at h
 ·exact ⟨by assumption, h⟩
 ·cases h
section
variable {kp : Nat → Bool} {W : WX} {t : TS} {s : FS} {N : List Str} {np : Nat} {vs : List V} {G H : Hp} {ds : List PyData} {Q : VK}
theorem Zl9 {d : PyData} (hs : SS kp (fun _ _ _ _ => False) t s) (gh : Ex G H) (dv : DtAll G vs ds) (hd : fnD np N.length s ds = some d) (q : ∀ x H2, Ex H H2 → Dt (grow G H H2) x d → Q x H2) : t { nx := fun _ H' => Q .non H', rt := Q } (L2.start N vs) H := by
 obtain ⟨_, hd⟩ := Zb1 hd
 obtain ⟨ts, g, rfl, h2, _⟩ := ZcK (Ex.refl H) gh dv
 rw [← Zca]
 rw [← h2, ← Zem] at hd
 cases z : s (ens (startL N.length ts)) with
 | none => rw [z] at hd; cases hd
 | some r =>
  obtain ⟨o, en'⟩ := r
  rw [z] at hd
  refine hs (g.start _) z ?_
  cases o with
  | nx => cases hd; exact fun G' ls' H' E => q .non H' E.gd.fh .non
  | rt T0 =>
   cases hd
   refine fun T G' ls' H' g' gx _ _ hT => q T.val H' g'.fh ?_
   obtain ⟨g2, gx2, dt⟩ := g'.freeze
   rw [← hT]
   exact dt.up (Zoy (gx.trans gx2) g2.gh)
  | bk => cases hd
  | ct => cases hd
  | ex C => cases hd
end
noncomputable abbrev FD := List OT → Option (Rx OT × List OT)
noncomputable def ISp (fd : FD) : Sp := fun vs H Q E => ∃ (F G : Hp) (ts : List LT) (r : Rx OT) (as : List OT), vs = ts.map LT.val ∧ Good F G (ts.map some) H ∧ fd (ts.map LT.er) = some (r, as) ∧
 (∀ T0, r = .ok T0 → ∀ (T : LT) (G' : Hp) (ts' : List LT) (H' : Hp), Good F G' (some T :: ts'.map some) H' → Gx F G G' → ts'.map LT.er = as → ts'.map LT.val = vs → T.er = T0 → Q T.val H') ∧
 (∀ C, r = .ex C → ∀ (G' : Hp) (ts' : List LT) (H' : Hp), Good F G' (ts'.map some) H' → Gx F G G' → ts'.map LT.er = as → ts'.map LT.val = vs → E (.ref C) none H')
/-- what the handed things are at the end -/
noncomputable def takeA : (Nat → Bool) → List OT → En → Option (List OT)
 | _, [], _ => some []
 | kp, T :: r, o :: en => if kp 0 = true then o.bind fun T' => (takeA (fun i => kp (i + 1)) r en).map (T' :: ·) else (match T with
  | .leaf d => (takeA (fun i => kp (i + 1)) r en).map (.leaf d :: ·)
  | _ => none)
 | _, _ :: _, [] => none
noncomputable def fnI (np n : Nat) (kp : Nat → Bool) (body : FS) : FD := fun as => if as.length = np then (match body (start0 n as) with
 | some (.rt T, en') => (takeA kp as en').map fun as' => (.ok T, as')
 | some (.nx, en') => (takeA kp as en').map fun as' => (.ok (.leaf .none), as')
 | some (.ex C, en') => (takeA kp as en').map fun as' => (.ex C, as')
 | _ => none) else none
theorem ZdV {G G' H H' : Hp} (gg : Ex G G') : ∀ {ts : List LT} {l' : Ls} {kp : Nat → Bool} {as : List OT}, takeA kp (ts.map LT.er) (ens l') = some as → (∀ i t, ts[i]? = some t → kp i = true → (vals l')[i]? = some (some t.val)) → (∀ t ∈ ts, t.ok G H) → (∀ t, some t ∈ l' → t.ok G' H') →
  ∃ ts' : List LT, ts'.map LT.er = as ∧ ts'.map LT.val = ts.map LT.val ∧ (∀ b, (adsS (ts'.map some)).count b ≤ (adsS l').count b) ∧ ∀ t ∈ ts', t.ok G' H'
 | [], l', kp, as, h, _, _, _ => by
  unfold takeA at h
  cases h
  exact ⟨[], rfl, rfl, fun b => Nat.zero_le _, fun _ h => (nomatch h)⟩
 | t :: ts, [], kp, as, h, _, _, _ => by cases h
 | t :: ts, o :: l', kp, as, h, hk, ho, hl => by
  have h : (if kp 0 = true then (o.map LT.er).bind (fun T' => (takeA (fun i => kp (i + 1)) (ts.map LT.er) (ens l')).map (T' :: ·)) else (match t.er with
   | .leaf d => (takeA (fun i => kp (i + 1)) (ts.map LT.er) (ens l')).map (.leaf d :: ·)
   | _ => none)) = some as := h
  split at h
  ·rename_i hkp
   obtain ⟨T', hT', h2⟩ := bnd h
   obtain ⟨as2, h3, rfl⟩ := Option.map_eq_some_iff.mp h2
   obtain ⟨ts', q1, q2, q3, q4⟩ := ZdV gg h3 (fun i t' hi hki => hk (i + 1) t' (by simpa using hi) hki) (fun x hx => ho x (List.mem_cons_of_mem _ hx)) (fun x hx => hl x (List.mem_cons_of_mem _ hx))
   obtain ⟨t', rfl, rfl⟩ := Option.map_eq_some_iff.mp hT'
   have hv : t'.val = t.val := by
    have := hk 0 t rfl hkp
    have : some (some t'.val) = some (some t.val) := this
    exact Option.some.inj (Option.some.inj this)
   refine ⟨t' :: ts', by rw [List.map_cons, q1], by rw [List.map_cons, List.map_cons, q2, hv], fun b => ?_, fun x hx => ?_⟩
   ·show (t'.ads ++ adsS (ts'.map some)).count b ≤ (t'.ads ++ adsS l').count b
    rw [List.count_append, List.count_append]
    have := q3 b
    omega
   ·rcases List.mem_cons.mp hx with rfl | hx
    ·exact hl _ List.mem_cons_self
    ·exact q4 x hx
  ·split at h
   ·rename_i d hd
    obtain ⟨as2, h3, rfl⟩ := Option.map_eq_some_iff.mp h
    obtain ⟨ts', q1, q2, q3, q4⟩ := ZdV gg h3 (fun i t' hi hki => hk (i + 1) t' (by simpa using hi) hki) (fun x hx => ho x (List.mem_cons_of_mem _ hx)) (fun x hx => hl x (List.mem_cons_of_mem _ hx))
    cases t with
    | leaf v d' =>
     have hd : OT.leaf d' = .leaf d := hd
     cases hd
     refine ⟨.leaf v d :: ts', by rw [List.map_cons, q1]; rfl, by rw [List.map_cons, List.map_cons, q2], fun b => ?_, fun x hx => ?_⟩
     ·show ([] ++ adsS (ts'.map some)).count b ≤ (oads o ++ adsS l').count b
      rw [List.nil_append, List.count_append]
      have := q3 b
      omega
     ·rcases List.mem_cons.mp hx with rfl | hx
      ·exact Dt.up (show Dt G v d from ho _ List.mem_cons_self) gg
      ·exact q4 x hx
    | node k a dx cs => rw [LT.er] at hd; cases hd
   ·cases h
theorem Good.pick {F G H : Hp} {l l2 : Ls} (g : Good F G l H) (hc : ∀ b, (adsS l2).count b ≤ (adsS l).count b) (hk : ∀ t, some t ∈ l2 → t.ok G H) : Good F G l2 H :=
 g.sub (List.nodup_iff_count.mpr fun b => Nat.le_trans (hc b) (List.nodup_iff_count.mp g.nd b)) (fun a ha => Zp.mpr (Nat.lt_of_lt_of_le (Zp.mp ha) (hc a))) hk
theorem ZF {kp : Nat → Bool} {t : TS} {s : FS} {N : List Str} {np : Nat} {vs : List V} {H : Hp} {Q : VK} {E : XK} (hs : SS kp (fun cls d _ H => E cls d H) t s) (h : ISp (fnI np N.length kp s) vs H Q E) : t { nx := fun _ H' => Q .non H', rt := Q } (L2.start N vs) H := by
 obtain ⟨F, G, ts, r, as, rfl, g, hd, q1, q2⟩ := h
 obtain ⟨hlen, hd⟩ := Zb1 hd
 rw [← Zca]
 rw [← Zem] at hd
 have hok0 : ∀ t ∈ ts, t.ok G H := fun t ht => g.ok t (List.mem_map.mpr ⟨t, ht, rfl⟩)
 have hkt : ∀ {ls' : Ls}, Kept kp (startL N.length ts) ls' → ∀ i t, ts[i]? = some t → kp i = true → (vals ls')[i]? = some (some t.val) := fun hK i t hi hk => by
  rw [hK.at' i hk, Zca]
  unfold L2.start
  rw [List.getElem?_append_left (by rw [List.length_map, List.length_map]; exact (List.getElem?_eq_some_iff.mp hi).1), List.getElem?_map, List.getElem?_map, hi]
  rfl
 cases z : s (ens (startL N.length ts)) with
 | none => rw [z] at hd; cases hd
 | some rr =>
  obtain ⟨o, en'⟩ := rr
  rw [z] at hd
  refine hs (g.start _) z ?_
  cases o with
  | nx =>
   obtain ⟨as', h3, h4⟩ := Option.map_eq_some_iff.mp hd
   cases h4
   intro G' ls' H' E1
   rw [← E1.en] at h3
   obtain ⟨ts', r1, r2, r3, r4⟩ := ZdV E1.gx.ex h3 (hkt E1.kt) hok0 E1.gd.ok
   exact q1 _ rfl (.leaf .non .none) G' ts' H' (ZaL (E1.gd.pick r3 fun t ht => by obtain ⟨t', ht', e⟩ := List.mem_map.mp ht; cases e; exact r4 _ ht') .non) E1.gx r1 r2 rfl
  | rt T0 =>
   obtain ⟨as', h3, h4⟩ := Option.map_eq_some_iff.mp hd
   cases h4
   intro T G' ls' H' g' gx he hK hT
   rw [← he] at h3
   obtain ⟨ts', r1, r2, r3, r4⟩ := ZdV gx.ex h3 (hkt hK) hok0 fun t ht => g'.ok t (List.mem_cons_of_mem _ ht)
   refine q1 _ rfl T G' ts' H' (g'.pick (fun b => ?_) fun t ht => ?_) gx r1 r2 hT
   ·show (T.ads ++ adsS (ts'.map some)).count b ≤ (T.ads ++ adsS ls').count b
    rw [List.count_append, List.count_append]
    have := r3 b
    omega
   ·rcases List.mem_cons.mp ht with e | ht
    ·cases e; exact g'.ok _ List.mem_cons_self
    ·obtain ⟨t', ht', e⟩ := List.mem_map.mp ht
     cases e
     exact r4 _ ht'
  | bk => cases hd
  | ct => cases hd
  | ex C =>
   obtain ⟨as', h3, h4⟩ := Option.map_eq_some_iff.mp hd
   cases h4
   intro G' ls' H' E1
   rw [← E1.en] at h3
   obtain ⟨ts', r1, r2, r3, r4⟩ := ZdV E1.gx.ex h3 (hkt E1.kt) hok0 E1.gd.ok
   exact q2 _ rfl G' ts' H' (E1.gd.pick r3 fun t ht => by obtain ⟨t', ht', e⟩ := List.mem_map.mp ht; cases e; exact r4 _ ht') E1.gx r1 r2
theorem ISp.len {np n : Nat} {kp : Nat → Bool} {s : FS} {vs : List V} {H : Hp} {Q : VK} {E : XK} (h : ISp (fnI np n kp s) vs H Q E) : vs.length = np := by
 obtain ⟨F, G, ts, r, as, rfl, g, hd, _⟩ := h
 obtain ⟨hlen, _⟩ := Zb1 hd
 rw [List.length_map] at hlen ⊢
 exact hlen
noncomputable def pullE : List Nat → En → Option (List OT × En)
 | [], en => some ([], en)
 | i :: is, en => ((en[i]?).join).bind fun T => (pullE is (en.set i none)).map fun r => (T :: r.1, r.2)
noncomputable def putE : List Nat → List OT → En → En
 | i :: is, T :: Ts, en => (putE is Ts en).set i (some T)
 | _, _, en => en
noncomputable def TAo : List Nat → TA → TA
 | [], t => t
 | i :: is, t => tCons (tVar i) (TAo is t)
noncomputable def nCallI (fd : FD) (is : List Nat) (args : FA) : FN := fun en => (pullE is en).bind fun _ => bx (args en) fun ds e1 => (pullE is e1).bind fun r => (fd (r.1 ++ ds.map OT.leaf)).bind fun q => match q.1 with
 | .ok T => some (.ok T, putE is q.2 r.2)
 | .ex C => some (.ex C, putE is q.2 r.2)
/-- the frame and what is left behind -/
noncomputable def fadd (F H : Hp) (as : List Addr) : Hp := fun a => if a ∈ as then H a else F a
theorem Good.split {F G H : Hp} {A B : Ls} (g : Good F G (A ++ B) H) : Good (fadd F H (adsS B)) G A H := by
 have hnd : ∀ b, (adsS A).count b + (adsS B).count b ≤ 1 := fun b => by
  have := List.nodup_iff_count.mp g.nd b
  rw [Zj, List.count_append] at this
  exact this
 refine ⟨fun a o h => ?_, g.gh, List.nodup_iff_count.mpr fun b => by have := hnd b; omega, fun a ha => g.gn a (by rw [Zj]; exact List.mem_append_left _ ha), fun a ha => ?_, fun t ht => g.ok t (List.mem_append_left _ ht)⟩
 ·unfold fadd at h
  split at h
  ·exact h
  ·exact g.fh a o h
 ·unfold fadd
  rw [if_neg fun z => by have := hnd a; have h1 := Zp.mp ha; have h2 := Zp.mp z; omega]
  exact g.fn a (by rw [Zj]; exact List.mem_append_left _ ha)
theorem Good.merge {F G G' H H' : Hp} {A B A' : Ls} (g : Good F G (A ++ B) H) (g' : Good (fadd F H (adsS B)) G' A' H') (gx : Gx (fadd F H (adsS B)) G G') : Good F G' (A' ++ B) H' ∧ Gx F G G' := by
 have hB : ∀ a ∈ adsS B, a ∈ adsS (A ++ B) := fun a ha => by rw [Zj]; exact List.mem_append_right _ ha
 have hBs : ∀ a ∈ adsS B, ∃ o, H a = some o ∧ fadd F H (adsS B) a = some o := fun a ha => by
  obtain ⟨o, ho⟩ := g.has (hB a ha)
  exact ⟨o, ho, by unfold fadd; rw [if_pos ha]; exact ho⟩
 have hF : ∀ a o, F a = some o → fadd F H (adsS B) a = some o := fun a o h => by
  unfold fadd
  rw [if_neg fun z => by rw [g.fn a (hB a z)] at h; cases h]
  exact h
 have hndB : ∀ b, (adsS B).count b ≤ 1 := fun b => by
  have := List.nodup_iff_count.mp g.nd b
  rw [Zj, List.count_append] at this
  omega
 refine ⟨⟨fun a o h => g'.fh a o (hF a o h), g'.gh, List.nodup_iff_count.mpr fun b => ?_, fun a ha => ?_, fun a ha => ?_, fun t ht => ?_⟩, gx.ex, fun a o h => gx.no a o (hF a o h)⟩
 ·rw [Zj, List.count_append]
  by_cases z : b ∈ adsS B
  ·have : (adsS A').count b = 0 := by
    rw [List.count_eq_zero]
    intro hb
    obtain ⟨o, _, h2⟩ := hBs b z
    rw [g'.fn b hb] at h2
    cases h2
   have := hndB b
   omega
  ·rw [List.count_eq_zero.mpr z]
   exact List.nodup_iff_count.mp g'.nd b
 ·rw [Zj] at ha
  rcases List.mem_append.mp ha with ha | ha
  ·exact g'.gn a ha
  ·obtain ⟨o, _, h2⟩ := hBs a ha
   rw [gx.no a o h2]
   exact g.gn a (hB a ha)
 ·rw [Zj] at ha
  rcases List.mem_append.mp ha with ha | ha
  ·have := g'.fn a ha
   unfold fadd at this
   split at this
   ·rename_i z
    obtain ⟨o, h1, _⟩ := hBs a z
    rw [this] at h1
    cases h1
   ·exact this
  ·exact g.fn a (hB a ha)
 ·rcases List.mem_append.mp ht with ht | ht
  ·exact g'.ok t ht
  ·refine LT.ok_mono gx.ex t (LT.ok_heap t (fun a ha => ?_) (g.ok t (List.mem_append_right _ ht)))
   obtain ⟨o, h1, h2⟩ := hBs a (Zaz.mpr ⟨t, ht, ha⟩)
   rw [h1, g'.fh a o h2]
noncomputable def AtV (σ : L2.St) : List Nat → List V → Prop
 | [], [] => True
 | i :: is, v :: vs => σ[i]? = some (some v) ∧ AtV σ is vs
 | _, _ => False
theorem AtV.back {σ : L2.St} {j : Nat} : ∀ {is : List Nat} {vs : List V}, AtV (σ.set j none) is vs → AtV σ is vs
 | [], [], h => h
 | i :: is, v :: vs, h => ⟨by
   have := h.1
   rw [List.getElem?_set] at this
   split at this
   ·split at this <;> cases this
   ·exact this, h.2.back⟩
 | [], _ :: _, h => h.elim
 | _ :: _, [], h => h.elim
theorem Zg0 {σ : L2.St} {H : Hp} {t : TA} : ∀ {is : List Nat} {vs : List V} {Q : List V → Hp → Prop}, AtV σ is vs → t σ H (fun us H1 => Q (vs ++ us) H1) → TAo is t σ H Q
 | [], [], Q, _, h => h
 | i :: is, v :: vs, Q, a, h => ⟨v, a.1, Zg0 a.2 h⟩
 | [], _ :: _, Q, a, h => a.elim
 | _ :: _, [], Q, a, h => a.elim
theorem Zg6 {F G H : Hp} : ∀ {is : List Nat} {A ls : Ls} {Ts : List OT} {e2 : En}, Good F G (A ++ ls) H → pullE is (ens ls) = some (Ts, e2) → ∃ (ts : List LT) (l2 : Ls), ts.map LT.er = Ts ∧ ens l2 = e2 ∧ Good F G (A ++ (ts.map some ++ l2)) H ∧ AtV (vals ls) is (ts.map LT.val) ∧
  ∀ ts' : List LT, ts'.map LT.val = ts.map LT.val → ∀ {A' : Ls} {G' H' : Hp}, Good F G' (A' ++ (ts'.map some ++ l2)) H' → ∃ l3, Good F G' (A' ++ l3) H' ∧ ens l3 = putE is (ts'.map LT.er) e2 ∧ vals l3 = vals ls
 | [], A, ls, Ts, e2, g, h => by
  cases h
  refine ⟨[], ls, rfl, rfl, g, trivial, fun ts' hts A' G' H' g' => ?_⟩
  cases ts' with
  | nil => exact ⟨ls, g', rfl, rfl⟩
  | cons a b => simp at hts
 | i :: is, A, ls, Ts, e2, g, h => by
  obtain ⟨T, hT, h2⟩ := bnd h
  obtain ⟨r, hr, h3⟩ := Option.map_eq_some_iff.mp h2
  cases h3
  have hT := join_some hT
  unfold ens at hT
  rw [List.getElem?_map] at hT
  obtain ⟨o, ho, hh⟩ := Option.map_eq_some_iff.mp hT
  cases o with
  | none => cases hh
  | some t0 =>
   have hh : some t0.er = some T := hh
   cases hh
   have hcnt : ∀ b, (adsS (ls.set i none)).count b + t0.ads.count b = (adsS ls).count b := fun b => by
    have := Z9 (b := b) ho none
    have e1 : (oads (some t0)).count b = t0.ads.count b := rfl
    have e2 : (oads none).count b = 0 := rfl
    omega
   have g1 : Good F G ((A ++ [some t0]) ++ ls.set i none) H := by
    refine g.pick (fun b => ?_) fun t ht => ?_
    ·rw [Zj, Zj, Zj, List.count_append, List.count_append, List.count_append]
     have h0 : (adsS [some t0]).count b = t0.ads.count b := by show (t0.ads ++ []).count b = _; rw [List.append_nil]
     have := hcnt b
     omega
    ·rcases List.mem_append.mp ht with ht | ht
     ·rcases List.mem_append.mp ht with ht | ht
      ·exact g.ok t (List.mem_append_left _ ht)
      ·simp at ht; subst ht; exact g.ok _ (List.mem_append_right _ (List.mem_of_getElem? ho))
     ·rcases List.mem_or_eq_of_mem_set ht with ht | ht
      ·exact g.ok t (List.mem_append_right _ ht)
      ·cases ht
   have er : ens (ls.set i none) = (ens ls).set i none := by simp [ens, List.map_set]
   have vr : vals (ls.set i none) = (vals ls).set i none := by simp [vals, List.map_set]
   rw [← er] at hr
   obtain ⟨ts, l2, q1, q2, q3, q4, q5⟩ := Zg6 g1 hr
   have hvi : (vals ls)[i]? = some (some t0.val) := by unfold vals; rw [List.getElem?_map, ho]; rfl
   refine ⟨t0 :: ts, l2, by rw [List.map_cons, q1], q2, by rw [List.append_assoc] at q3; exact q3, ⟨hvi, (by rw [vr] at q4; exact q4.back)⟩, fun ts' hts A' G' H' g' => ?_⟩
   cases ts' with
   | nil => simp at hts
   | cons t' ts' =>
    simp only [List.map_cons, List.cons.injEq] at hts
    obtain ⟨l3, g3, en3, v3⟩ := q5 ts' hts.2 (A' := A' ++ [some t']) (G' := G') (H' := H') (by rw [List.append_assoc]; exact g')
    have hi3 : l3[i]? = some none := by
     have h1 : (vals l3)[i]? = some none := by
      rw [v3, vr, List.getElem?_set, if_pos rfl, Zu, if_pos (List.getElem?_eq_some_iff.mp ho).1]
     unfold vals at h1
     rw [List.getElem?_map] at h1
     obtain ⟨o, ho3, ho4⟩ := Option.map_eq_some_iff.mp h1
     cases o with
     | none => exact ho3
     | some z => cases ho4
    refine ⟨l3.set i (some t'), g3.pick (fun b => ?_) fun t ht => ?_, by rw [ZaG, en3]; rfl, ?_⟩
    ·have h1 := Z9 (b := b) hi3 (some t')
     have h0 : (adsS [some t']).count b = t'.ads.count b := by show (t'.ads ++ []).count b = _; rw [List.append_nil]
     have e1 : (oads (some t')).count b = t'.ads.count b := rfl
     have e2 : (oads none).count b = 0 := rfl
     rw [Zj, Zj, Zj, List.count_append, List.count_append, List.count_append]
     omega
    ·rcases List.mem_append.mp ht with ht | ht
     ·exact g3.ok t (List.mem_append_left _ (List.mem_append_left _ ht))
     ·rcases List.mem_or_eq_of_mem_set ht with ht | ht
      ·exact g3.ok t (List.mem_append_right _ ht)
      ·exact g3.ok t (List.mem_append_left _ (List.mem_append_right _ (by rw [ht]; exact List.mem_cons_self)))
    ·rw [ZaC, v3, vr, List.set_set, hts.1]
     apply List.ext_getElem?
     intro j
     rw [List.getElem?_set]
     split
     ·rename_i z
      subst z
      rw [Zu, if_pos (List.getElem?_eq_some_iff.mp ho).1, hvi]
     ·rfl
section
variable {W : WX} {ta : TA} {args : FA} {fd : FD}
/-- the heart of a call -/
theorem Zd0 {F G H : Hp} {ls : Ls} {ds : List PyData} {vs : List V} {is : List Nat} {r : Rx OT} {en' : En} {Q : VK} {E : XK} (g : Good F G ls H) (dv : DtAll G vs ds)
  (h : ((pullE is (ens ls)).bind fun r => (fd (r.1 ++ ds.map OT.leaf)).bind fun q => match q.1 with | .ok T => some (Rx.ok T, putE is q.2 r.2) | .ex C => some (.ex C, putE is q.2 r.2)) = some (r, en'))
  (hfd : ∀ as r bs, fd as = some (r, bs) → bs.length = as.length)
  (k : ∀ T0, r = .ok T0 → ∀ T G' ls' H', Good F G' (some T :: ls') H' → Gx F G G' → ens ls' = en' → vals ls' = vals ls → T.er = T0 → Q T.val H') (kx : ∀ C, r = .ex C → ∀ G' ls' H', End F G ls G' ls' H' en' → E (.ref C) none H') :
  ∃ us, AtV (vals ls) is us ∧ ISp fd (us ++ vs) H Q E := by
 obtain ⟨⟨Ts, e2⟩, hp, h2⟩ := bnd h
 obtain ⟨⟨r1, as⟩, hf, h3⟩ := bnd h2
 dsimp only at hf h3
 obtain ⟨ts, l2, q1, q2, q3, q4, q5⟩ := Zg6 (A := []) g hp
 have q3 : Good F G (ts.map some ++ l2) H := q3
 obtain ⟨td, gd, d1, d2, d3⟩ := ZcK g.fh g.gh dv
 refine ⟨ts.map LT.val, q4, ?_⟩
 have g0 : Good F G ((ts ++ td).map some ++ l2) H := by
  refine q3.pick (fun b => ?_) fun t ht => ?_
  ·rw [List.map_append, Zj, Zj, d3, List.append_nil, ← Zj]
   exact Nat.le_refl _
  ·rcases List.mem_append.mp ht with ht | ht
   ·rw [List.map_append] at ht
    rcases List.mem_append.mp ht with ht | ht
    ·exact q3.ok t (List.mem_append_left _ ht)
    ·exact gd.ok t ht
   ·exact q3.ok t (List.mem_append_right _ ht)
 have hlen := hfd _ _ _ hf
 have back : ∀ {A' : Ls} {ts' : List LT} {G' H' : Hp}, ts'.map LT.er = as → ts'.map LT.val = ts.map LT.val ++ vs → Good F G' (A' ++ (ts'.map some ++ l2)) H' → ∃ l3, Good F G' (A' ++ l3) H' ∧ ens l3 = putE is as e2 ∧ vals l3 = vals ls := fun {A' ts' G' H'} h1 h2 g' => by
  have hl : ts.length ≤ ts'.length := by
   have := congrArg List.length h2
   simp at this
   omega
  have e1 : (ts'.take ts.length).map LT.val = ts.map LT.val := by
   rw [List.map_take, h2]
   have : (ts.map LT.val).length = ts.length := by simp
   rw [← this, List.take_left']
   rfl
  obtain ⟨l3, g3, en3, v3⟩ := q5 (ts'.take ts.length) e1 (A' := A') (G' := G') (H' := H') (g'.pick (fun b => by
   rw [Zj, Zj, Zj, Zj, List.count_append, List.count_append, List.count_append, List.count_append]
   have : (adsS ((ts'.take ts.length).map some)).count b ≤ (adsS (ts'.map some)).count b := by
    conv => rhs; rw [← List.take_append_drop ts.length ts']
    rw [List.map_append, Zj, List.count_append]
    exact Nat.le_add_right _ _
   omega) fun t ht => by
    rcases List.mem_append.mp ht with ht | ht
    ·exact g'.ok t (List.mem_append_left _ ht)
    ·rcases List.mem_append.mp ht with ht | ht
     ·obtain ⟨t', ht', e⟩ := List.mem_map.mp ht
      cases e
      exact g'.ok _ (List.mem_append_right _ (List.mem_append_left _ (List.mem_map.mpr ⟨_, List.mem_of_mem_take ht', rfl⟩)))
     ·exact g'.ok t (List.mem_append_right _ (List.mem_append_right _ ht)))
  refine ⟨l3, g3, ?_, v3⟩
  rw [en3, List.map_take, h1]
  -- putE looks at the first things alone
  have key : ∀ (is : List Nat) (n : Nat) (as : List OT) (e : En), is.length = n → putE is (as.take n) e = putE is as e := by
   intro is
   induction is with
   | nil => intro n as e h; subst h; cases as <;> rfl
   | cons i is ih =>
    intro n as e h
    cases n with
    | zero => simp at h
    | succ n =>
     cases as with
     | nil => rfl
     | cons a as =>
      show (putE is (as.take n) e).set i (some a) = _
      rw [ih n as e (by simpa using h)]
      rfl
  have hi : is.length = ts.length := by
   have key2 : ∀ (σ : L2.St) (is : List Nat) (us : List V), AtV σ is us → is.length = us.length := by
    intro σ is
    induction is with
    | nil => intro us h; cases us with
     | nil => rfl
     | cons a b => exact h.elim
    | cons i is ih => intro us h; cases us with
     | nil => exact h.elim
     | cons a b => rw [List.length_cons, List.length_cons, ih b h.2]
   have := key2 _ _ _ q4
   rw [List.length_map] at this
   exact this
  exact key is ts.length as e2 hi
 refine ⟨fadd F H (adsS l2), G, ts ++ td, r1, as, by rw [List.map_append, d1], g0.split, by rw [List.map_append, q1, d2]; exact hf, fun T0 hT0 T G' ts' H' g' gx b1 b2 hT => ?_, fun C hC G' ts' H' g' gx b1 b2 => ?_⟩
 ·subst hT0
  cases h3
  obtain ⟨gm, gxm⟩ := g0.merge g' gx
  obtain ⟨l3, g3, en3, v3⟩ := back (A' := [some T]) b1 b2 gm
  exact k T0 rfl T G' l3 H' g3 gxm en3 v3 hT
 ·subst hC
  cases h3
  obtain ⟨gm, gxm⟩ := g0.merge g' gx
  obtain ⟨l3, g3, en3, v3⟩ := back (A' := []) b1 b2 gm
  exact kx C rfl G' l3 H' ⟨g3, gxm, en3, v3⟩
theorem ZeI : ∀ {kp : Nat → Bool} {as : List OT} {en : En} {bs : List OT}, takeA kp as en = some bs → bs.length = as.length
 | _, [], _, _, h => by unfold takeA at h; cases h; rfl
 | kp, T :: r, [], _, h => by cases h
 | kp, T :: r, o :: en, bs, h => by
  unfold takeA at h
  split at h
  ·obtain ⟨T', _, h2⟩ := bnd h
   obtain ⟨bs2, h3, rfl⟩ := Option.map_eq_some_iff.mp h2
   rw [List.length_cons, List.length_cons, ZeI h3]
  ·split at h
   ·obtain ⟨bs2, h3, rfl⟩ := Option.map_eq_some_iff.mp h
    rw [List.length_cons, List.length_cons, ZeI h3]
   ·cases h
theorem Zk {np n : Nat} {kp : Nat → Bool} {s : FS} : ∀ as r bs, fnI np n kp s as = some (r, bs) → bs.length = as.length := fun as r bs h => by
 obtain ⟨_, h⟩ := Zb1 h
 split at h
 all_goals first
  | (obtain ⟨as', h3, h4⟩ := Option.map_eq_some_iff.mp h; cases h4; exact ZeI h3)
  | cases h
theorem AtV.uniq {σ : L2.St} : ∀ {is : List Nat} {a b : List V}, AtV σ is a → AtV σ is b → a = b
 | [], [], [], _, _ => rfl
 | [], _ :: _, _, h, _ => h.elim
 | [], [], _ :: _, _, h => h.elim
 | _ :: _, [], _, h, _ => h.elim
 | _ :: _, _ :: _, [], _, h => h.elim
 | i :: is, a :: as, b :: bs, ha, hb => by
  have h1 := ha.1
  rw [hb.1] at h1
  cases h1
  rw [AtV.uniq ha.2 hb.2]
/-- the things of one's own and the data of a call, and what is reached behind it; for all kinds of calls -/
theorem ISp.imp {fd fd2 : FD} (h12 : ∀ as r, fd as = some r → fd2 as = some r) {vs : List V} {H : Hp} {Q : VK} {E : XK} (h : ISp fd vs H Q E) : ISp fd2 vs H Q E := by
 obtain ⟨F, G, ts, r, as, h1, h2, h3, h4, h5⟩ := h
 exact ⟨F, G, ts, r, as, h1, h2, h12 _ _ h3, h4, h5⟩
theorem ZjD {fd2 : FD} (h12 : ∀ as r, fd as = some r → fd2 as = some r) {is : List Nat} {F G H : Hp} {ls : Ls} {r : Rx OT} {en' : En} {Q : VK} (hfd : ∀ as r bs, fd as = some (r, bs) → bs.length = as.length) (ha : SXA W ta args) (g : Good F G ls H) (e : nCallI fd is args (ens ls) = some (r, en'))
  (k : ∀ T0, r = .ok T0 → ∀ T G' ls' H', Good F G' (some T :: ls') H' → Gx F G G' → ens ls' = en' → vals ls' = vals ls → T.er = T0 → Q T.val H') (kx : ∀ C, r = .ex C → XC W F G ls C en') {E : XK} (hE : (∀ as C bs, fd as ≠ some (.ex C, bs)) ∨ E = fun cls d H => W cls d (vals ls) H) :
  ∃ us, AtV (vals ls) is us ∧ ta (vals ls) H fun vs H1 => ISp fd2 (us ++ vs) H1 Q E := by
 obtain ⟨⟨Ts, e0⟩, hp, e⟩ := bnd e
 obtain ⟨ts, l2, q1, q2, q3, q4, q5⟩ := Zg6 (A := []) g hp
 refine ⟨ts.map LT.val, q4, ?_⟩
 rcases Zn e with ⟨ds, e1, h1, h2⟩ | ⟨C, h1, rfl⟩
 ·refine ha g h1 (fun d hd vs G1 l1 H1 E1 dv => ?_) (fun C hC => nomatch hC)
  cases hd
  rw [← E1.en] at h2
  obtain ⟨us', hus', hI⟩ := Zd0 (Q := Q) (E := E) E1.gd dv h2 hfd (fun T0 hT0 T G' ls' H' g' gx he hv hT => k T0 hT0 T G' ls' H' g' (E1.gx.trans gx) he (hv.trans E1.vs) hT) (fun C hC G' ls' H' E2 => by
   rcases hE with hE | hE
   ·subst hC
    obtain ⟨r', hr', h3⟩ := bnd h2
    obtain ⟨⟨q1, q2⟩, hq', h4⟩ := bnd h3
    cases q1 with
    | ok T => cases h4
    | ex C' => exact absurd hq' (hE _ _ _)
   ·rw [hE]
    exact kx C hC G' ls' H' (E1.trans E2))
  rw [E1.vs] at hus'
  rw [AtV.uniq q4 hus']
  exact hI.imp h12
 ·exact ha g h1 (fun d hd => nomatch hd) fun C' hC' => kx C' (rxc hC')
/-- where it does not raise -/
noncomputable def noX (fd : FD) : FD := fun as => (fd as).bind fun r => match r with
 | (.ok T, bs) => some (.ok T, bs)
 | _ => none
theorem ZJ {fd : FD} {as bs : List OT} {r : Rx OT} (h : noX fd as = some (r, bs)) : fd as = some (r, bs) ∧ ∃ T, r = .ok T := by
 obtain ⟨⟨r', b'⟩, h1, h2⟩ := bnd h
 cases r' with
 | ok T => cases h2; exact ⟨h1, T, rfl⟩
 | ex C => cases h2
theorem ZT {is : List Nat} (hfd : ∀ as r bs, fd as = some (r, bs) → bs.length = as.length) (ha : SXA W ta args) : SN W (tCall (ISp fd) [] E0 (TAo is ta)) (nCallI (noX fd) is args) := ⟨fun {F G ls H r en'} g e Q k kx => by
 obtain ⟨us, hus, h⟩ := ZjD (E := E0) (fd2 := fd) (fun as r h => (ZJ h).1) (fun as r bs h => hfd as r bs (ZJ h).1) ha g e k kx (.inl fun as C bs h => by
  obtain ⟨_, T, hT⟩ := ZJ h
  cases hT)
 refine Zg0 hus ?_
 have e2 : ∀ (x : List V), x ++ [] = x := List.append_nil
 show ta (vals ls) H fun vs H1 => ISp fd ((us ++ vs) ++ []) H1 Q E0
 simp only [e2]
 exact h⟩
/-- a call that may raise -/
theorem Z5 {is : List Nat} (hfd : ∀ as r bs, fd as = some (r, bs) → bs.length = as.length) (ha : SXA W ta args) : SN W (tCallS (ISp fd) (WE W) (TAo is ta)) (nCallI fd is args) := ⟨fun {F G ls H r en'} g e Q k kx => by
 obtain ⟨us, hus, h⟩ := ZjD (E := fun cls d H => W cls d (vals ls) H) (fd2 := fd) (fun _ _ h => h) hfd ha g e k kx (.inr rfl)
 exact Zg0 hus h⟩
end
end Kb
namespace Kb
open PySem L2 Evl
noncomputable def rxO : PyData ⊕ Addr → Rx PyData
 | .inl d => .ok d
 | .inr C => .ex C
noncomputable def xCallX (f : List PyData → Option (PyData ⊕ Addr)) (a : FA) : FX := fun en => bx (a en) fun xs e1 => (f xs).map fun o => (rxO o, e1)
noncomputable def nCallF (f : List PyData → Option PyData) (a : FA) : FN := fun en => bx (a en) fun xs e1 => okx e1 ((f xs).map freshT)
noncomputable def rxF : PyData ⊕ Addr → Rx OT
 | .inl d => .ok (freshT d)
 | .inr C => .ex C
noncomputable def nCallXF (f : List PyData → Option (PyData ⊕ Addr)) (a : FA) : FN := fun en => bx (a en) fun xs e1 => (f xs).map fun o => (rxF o, e1)
section
variable {K : PySem.W.Frag} {w : World} {W : WX} {ta : TA} {s : FA} {te : TE} {tt : TT}
theorem Zit {R : List PyData → PyData → Prop} {f : List PyData → Option PyData} (hf : ∀ {ds d}, f ds = some d → R ds d) (ha : SXA W ta s) : SX W (tCall (PSp R) [] E0 ta) (xCb f s) := ⟨fun {F G ls H r en'} g e Q k kx => by
 rcases Zn e with ⟨x, e1, h1, h2⟩ | ⟨C, h1, rfl⟩
 ·refine ha g h1 (fun d hd v G1 l1 H1 E1 dv => ?_) (fun C hC => nomatch hC)
  cases hd
  obtain ⟨d, hd, rfl, rfl⟩ := Zx h2
  rw [List.append_nil]
  refine ⟨G1, x, d, E1.gd.gh, dv, hf hd, fun z H3 e3 dz => ?_⟩
  obtain ⟨g3, gx3⟩ := E1.gd.grow e3
  exact k d rfl z _ l1 H3 (E1.trans ⟨g3, gx3, E1.en, rfl⟩) dz
 ·exact ha g h1 (fun d hd => nomatch hd) fun C' hC' => kx C' (rxc hC')⟩
theorem Zf7 {R : List PyData → PyData ⊕ Addr → Prop} {f : List PyData → Option (PyData ⊕ Addr)} (hf : ∀ {ds d}, f ds = some d → R ds d) (ha : SXA W ta s) : SX W (tCallS (XSp R) (WE W) ta) (xCallX f s) := ⟨fun {F G ls H r en'} g e Q k kx => by
 rcases Zn e with ⟨x, e1, h1, h2⟩ | ⟨C, h1, rfl⟩
 ·refine ha g h1 (fun d hd v G1 l1 H1 E1 dv => ?_) (fun C hC => nomatch hC)
  cases hd
  obtain ⟨o, ho, h3⟩ := Option.map_eq_some_iff.mp h2
  cases h3
  refine ⟨G1, x, o, E1.gd.gh, dv, hf ho, fun d hd z H3 e3 dz => ?_, fun C hC H3 e3 => ?_⟩
  ·subst hd
   obtain ⟨g3, gx3⟩ := E1.gd.grow e3
   exact k d rfl z _ l1 H3 (E1.trans ⟨g3, gx3, E1.en, rfl⟩) dz
  ·subst hC
   exact kx C rfl _ l1 H3 (E1.trans ⟨E1.gd.stay e3, Gx.refl, E1.en, rfl⟩)
 ·exact ha g h1 (fun d hd => nomatch hd) fun C' hC' => kx C' (rxc hC')⟩
/-- a fresh thing as a tree -/
theorem Zkq {F G H H2 : Hp} {ls : Ls} {v : V} {d : PyData} (g : Good F G ls H) (e : Ex H H2) (fv : Fr H v) (dv : Dt (grow G H H2) v d) : ∃ T G', Good F G' (some T :: ls) H2 ∧ Gx F G G' ∧ T.er = freshT d ∧ T.val = v := by
 by_cases z : ∃ ds, d = .list ds
 ·obtain ⟨ds, rfl⟩ := z
  obtain ⟨p, xs, rfl, hp, r⟩ := dv.ol
  exact Zie g e (fv p rfl) dv
 ·obtain ⟨g2, gx⟩ := g.grow e
  exact ⟨.leaf v d, _, ZaL g2 dv, gx, by rw [Zfx fun ds hds => z ⟨ds, hds⟩]; rfl, rfl⟩
end
noncomputable def wipeE (en : En) : List Nat → En
 | [] => en
 | v :: vs => (wipeE en vs).set v none
noncomputable def wipeL (ls : Ls) : List Nat → Ls
 | [] => ls
 | v :: vs => (wipeL ls vs).set v none
theorem Zdn (ls : Ls) : ∀ vs, ens (wipeL ls vs) = wipeE (ens ls) vs
 | [] => rfl
 | v :: vs => by show ens ((wipeL ls vs).set v none) = (wipeE (ens ls) vs).set v none; rw [← Zdn ls vs]; simp [ens, List.map_set]
theorem Zaw (ls : Ls) : ∀ vs, vals (wipeL ls vs) = wipe (vals ls) vs
 | [] => rfl
 | v :: vs => by show vals ((wipeL ls vs).set v none) = (wipe (vals ls) vs).set v none; rw [← Zaw ls vs]; simp [vals, List.map_set]
theorem Zgv {F G H : Hp} {ls : Ls} (g : Good F G ls H) : ∀ vs, Good F G (wipeL ls vs) H
 | [] => g
 | v :: vs => ((Zgv g vs).non0).set v
noncomputable def lcT (b : PyData → En → Option En) (c : FB) (x : FX) (vs : List Nat) : List PyData → En → Option (List PyData × En)
 | [], en => some ([], en)
 | d :: ds, en => (b d en).bind fun e1 => match c e1 with
  | some (.ok true, e2) => (match x e2 with
   | some (.ok y, e3) => (lcT b c x vs ds (wipeE e3 vs)).map fun r => (y :: r.1, r.2)
   | _ => none)
  | some (.ok false, e2) => lcT b c x vs ds (wipeE e2 vs)
  | _ => none
/-- no thing of one's own lies in these slots -/
noncomputable def noOwn (en : En) (vs : List Nat) : Bool := vs.all fun v => match en[v]? with
 | some (some (.node _ _)) => false
 | _ => true
noncomputable def backE (e1 e2 : En) : List Nat → En
 | [] => e2
 | v :: vs => (backE e1 e2 vs).set v (e1[v]?).join
noncomputable def nLcT (it : FA) (b : PyData → En → Option En) (c : FB) (x : FX) (vs : List Nat) : FN := fun en => bx (it en) fun ds e1 => if noOwn e1 vs = true ∧ ds.length ≤ 50000 then (lcT b c x vs ds (wipeE e1 vs)).map fun r => (.ok (lstT r.1), backE e1 r.2 vs) else none
theorem Zli {ls l2 : Ls} {vs : List Nat} (h : Kept (fun i => !decide (i ∈ vs)) (wipeL ls vs) l2) : wipe (vals l2) vs = wipe (vals ls) vs := by
 apply List.ext_getElem?
 intro j
 by_cases hj : j ∈ vs
 ·have key : ∀ (σ : L2.St) (us : List Nat), j ∈ us → (wipe σ us)[j]? = if j < σ.length then some none else none := by
   intro σ us
   induction us with
   | nil => intro h; exact nomatch h
   | cons u us ih =>
    intro h
    show ((wipe σ us).set u none)[j]? = _
    rw [List.getElem?_set]
    split
    ·rename_i e
     rw [wipe_length, e]
    ·exact ih (by rcases List.mem_cons.mp h with z | z; exact absurd z.symm (by assumption); exact z)
  rw [key _ _ hj, key _ _ hj, Zu, Zu, h.len]
  have : (wipeL ls vs).length = ls.length := by
   have := congrArg List.length (Zaw ls vs)
   rwa [Zu, wipe_length, Zu] at this
  rw [this]
 ·rw [wipe_out hj, wipe_out hj, h.at' j (by simp [hj]), Zaw, wipe_out hj]
/-- the slots as they were: told things stay told -/
theorem Zkb {F G G' H' : Hp} {l1 l2 : Ls} (g2 : Good F G' l2 H') (gg : Ex G G') (hv : vals l2 = vals l2) (hl : l2.length = l1.length) : ∀ (vs : List Nat), (∀ v ∈ vs, ∀ t, l1[v]? = some (some t) → t.ads = [] ∧ t.ok G' H') → ∃ l3, Good F G' l3 H' ∧ ens l3 = backE (ens l1) (ens l2) vs ∧ ∀ j, (vals l3)[j]? = if j ∈ vs ∧ j < l1.length then (vals l1)[j]? else (vals l2)[j]?
 | [], _ => ⟨l2, g2, rfl, fun j => by rw [if_neg (by simp)]⟩
 | v :: vs, h => by
  obtain ⟨l3, g3, e3, v3⟩ := Zkb g2 gg hv hl vs fun u hu => h u (List.mem_cons_of_mem _ hu)
  have hl3 : l3.length = l1.length := by
   have h1 := congrArg List.length e3
   have h2 : ∀ us : List Nat, (backE (ens l1) (ens l2) us).length = l2.length := by
    intro us
    induction us with
    | nil => simp [backE, ens]
    | cons u us ih => rw [backE, List.length_set, ih]
   rw [h2] at h1
   simp [ens] at h1
   omega
  let o : Option LT := (l1[v]?).join
  have ho : ∀ t, o = some t → t.ads = [] ∧ t.ok G' H' := fun t ht => h v List.mem_cons_self t (by
   show l1[v]? = _
   cases z : l1[v]? with
   | none => rw [show o = (l1[v]?).join from rfl, z] at ht; cases ht
   | some u => rw [show o = (l1[v]?).join from rfl, z] at ht; have ht : u = some t := ht; rw [ht])
  have go : Good F G' (o :: l3) H' := by
   refine g3.pick (fun b => ?_) fun t ht => ?_
   ·show (oads o ++ adsS l3).count b ≤ _
    have : oads o = [] := by
     cases z : o with
     | none => rfl
     | some t => exact (ho t z).1
    rw [this]
    exact Nat.le_refl _
   ·rcases List.mem_cons.mp ht with e | ht
    ·exact (ho t e.symm).2
    ·exact g3.ok t ht
  refine ⟨l3.set v o, go.set v, ?_, fun j => ?_⟩
  ·show _ = (backE (ens l1) (ens l2) vs).set v ((ens l1)[v]?).join
   rw [← e3]
   unfold ens
   rw [List.map_set]
   congr 1
   rw [List.getElem?_map]
   show Option.map LT.er ((l1[v]?).join) = _
   cases l1[v]? with
   | none => rfl
   | some u => cases u <;> rfl
  ·unfold vals
   rw [List.map_set, List.getElem?_set, List.length_map, hl3]
   by_cases z : v = j
   ·subst z
    rw [if_pos rfl]
    by_cases hlt : v < l1.length
    ·rw [if_pos hlt, if_pos ⟨List.mem_cons_self, hlt⟩, List.getElem?_map]
     show some (Option.map LT.val ((l1[v]?).join)) = _
     rw [List.getElem?_eq_getElem hlt]
     rfl
    ·rw [if_neg hlt, if_neg fun z => hlt z.2, List.getElem?_eq_none (by rw [List.length_map]; omega)]
   ·rw [if_neg z]
    have := v3 j
    unfold vals at this
    rw [this]
    have e : (j ∈ v :: vs) ↔ (j ∈ vs) := ⟨fun h => by rcases List.mem_cons.mp h with h | h; exact absurd h.symm z; exact h, fun h => List.mem_cons_of_mem _ h⟩
    by_cases hq : j ∈ vs ∧ j < l1.length
    ·rw [if_pos hq, if_pos ⟨e.mpr hq.1, hq.2⟩]
    ·rw [if_neg hq, if_neg fun h => hq ⟨e.mp h.1, h.2⟩]
theorem Zhx (ls : Ls) (b : Addr) : ∀ vs, (adsS (wipeL ls vs)).count b ≤ (adsS ls).count b
 | [] => Nat.le_refl _
 | v :: vs => by
  refine Nat.le_trans ?_ (Zhx ls b vs)
  show (adsS ((wipeL ls vs).set v none)).count b ≤ _
  by_cases h : v < (wipeL ls vs).length
  ·have h1 := Z9 (b := b) (List.getElem?_eq_getElem h) none
   have h2 : (oads none).count b = 0 := rfl
   omega
  ·rw [List.set_eq_of_length_le (by omega)]
   exact Nat.le_refl _
theorem Zhk {ls : Ls} {t : LT} : ∀ {vs : List Nat}, some t ∈ wipeL ls vs → some t ∈ ls
 | [], h => h
 | v :: vs, h => by
  rcases List.mem_or_eq_of_mem_set (show some t ∈ (wipeL ls vs).set v none from h) with h | h
  ·exact Zhk h
  ·cases h
theorem Good.wipeA {F G H : Hp} {l B : Ls} (g : Good F G (l ++ B) H) (vs : List Nat) : Good F G (wipeL l vs ++ B) H := g.pick (fun b => by
  rw [Zj, Zj, List.count_append, List.count_append]
  have := Zhx l b vs
  omega) fun t ht => by
 rcases List.mem_append.mp ht with ht | ht
 ·exact g.ok t (List.mem_append_left _ (Zhk ht))
 ·exact g.ok t (List.mem_append_right _ ht)
theorem ZlO {K : PySem.W.Frag} {W : WX} {wi : TI} {it : FA} {g : TG} {b : PyData → En → Option En} {tt : TT} {c : FB} {te : TE} {x : FX} {vs : List Nat} (hi : SIX W wi it) (hg : SGE (fun i => !decide (i ∈ vs)) g b) (hc : SXB W tt c) (hx : SX W te x) : SN W (tLc wi g tt te vs) (nLcT it b c x vs) := ⟨fun {F G ls H r en'} gd e Q k kx => by
 rcases Zn e with ⟨ds, e1, h1, h2⟩ | ⟨C, h1, rfl⟩
 ·refine hi gd h1 (fun d' hd' J G1 l1 H1 Gd Y E1 wk hGd hY => ?_) (fun C hC => nomatch hC)
  cases hd'
  rw [← E1.en] at h2
  split at h2
  case isFalse => cases h2
  rename_i hcond
  obtain ⟨⟨ys, e2⟩, hlc, h3⟩ := Option.map_eq_some_iff.mp h2
  cases h3
  rw [← E1.vs]
  intro D hD
  have gw := Zgv E1.gd vs
  have hDF : F D = none := fresh_back E1.gd.fh hD
  have hDG : G1 D = none := fresh_back E1.gd.gh hD
  -- the list that is made, behind the others
  refine lc_it wk (Qd := fun H' => Q (.ref D) H') (fun i H' => ∃ (G' : Hp) (l' : Ls) (cs : List (Lab × LT)) (acc : List PyData), Good F G' (l' ++ [some (.node .lst D 0 cs)]) H' ∧ Gx F G1 G' ∧ vals l' = wipe (vals l1) vs ∧ LT.erL cs = oLeafs acc ∧ LT.adsL cs = [] ∧ acc.length ≤ i ∧ ∃ rest, lcT b c x vs (ds.drop i) (ens l') = some (rest, e2) ∧ ys = acc ++ rest) ?_ ?_ ?_ ?_
  ·refine ⟨G1, wipeL l1 vs, [], [], ?_, Gx.refl, Zaw l1 vs, rfl, rfl, Nat.zero_le _, ys, by rw [Zdn]; exact hlc, rfl⟩
   have hl : D ∉ adsS (wipeL l1 vs) := fun h => by
    obtain ⟨o, ho⟩ := gw.has h
    rw [hD] at ho
    cases ho
   have := ZaJ (k := .lst) (cs := []) (gw.stay (Ex.new (o := .lst []) hD)) rfl trivial upd_same hDG hDF hl (fun _ h => nomatch h) rfl
   refine this.pick (fun b => ?_) fun t ht => ?_
   ·rw [Zj, List.count_append]
    show _ ≤ ((LT.node .lst D 0 []).ads ++ adsS (wipeL l1 vs)).count b
    rw [List.count_append]
    show _ + ((LT.node .lst D 0 []).ads ++ []).count b ≤ _
    rw [List.append_nil]
    omega
   ·rcases List.mem_append.mp ht with ht | ht
    ·exact this.ok t (List.mem_cons_of_mem _ ht)
    ·simp at ht; subst ht; exact this.ok _ List.mem_cons_self
  ·rintro i H' hi' ⟨G', l', cs, acc, g', gx', _⟩
   exact hGd H' (gx'.ex.trans g'.gh)
  ·rintro i x0 Ha Hb hlt ⟨G', l', cs, acc, g', gx', hv', he', ha', hlen, rest, hrest, hys⟩ hy
   obtain ⟨eab, d, hd, dx⟩ := hY i x0 Ha Hb G' hlt gx'.ex g'.gh hy
   obtain ⟨g2, gx2⟩ := g'.grow eab
   have hdr : ds.drop i = d :: ds.drop (i + 1) := by
    rw [List.drop_eq_getElem_cons hlt]
    congr 1
    rw [List.getElem?_eq_getElem hlt] at hd
    exact Option.some.inj hd
   rw [hdr] at hrest
   obtain ⟨e3, hb3, hrest⟩ := bnd hrest
   have gs := g2.split
   have hDn : Hb D = some (.lst (cs.map fun y => y.2.val)) := by
    have := (LT.ok_node.mp (g2.ok _ (List.mem_append_right _ List.mem_cons_self))).1
    rw [ZaF] at this
    exact this
   rw [← hv']
   refine hg gs dx hb3 fun l3 E3 => ?_
   have hw : wipe (vals l3) vs = wipe (vals l1) vs := Zli (ls := l1) (l2 := l3) (vs := vs) ⟨by
     have h1 := E3.kt.len
     have h2 := congrArg List.length hv'
     rw [Zu, wipe_length, Zu] at h2
     have h3 := congrArg List.length (Zaw l1 vs)
     rw [Zu, wipe_length, Zu] at h3
     omega, fun j hj => by rw [E3.kt.at' j hj, hv', Zaw]⟩
   refine ⟨by rw [hw, hv'], ?_⟩
   rw [← E3.en] at hrest
   cases hc3 : c (ens l3) with
   | none => rw [hc3] at hrest; cases hrest
   | some rc =>
    obtain ⟨rb, e4⟩ := rc
    rw [hc3] at hrest
    cases rb with
    | ex C => cases hrest
    | ok bb =>
     refine hc E3.gd hc3 (fun b1 hb1 G4 l4 H4 E4 => ?_) (fun C hC => nomatch hC)
     cases hb1
     cases bb with
     | false =>
      refine iteF ?_
      obtain ⟨gm, gxm⟩ := g2.merge E4.gd (E3.gx.trans E4.gx)
      exact ⟨G4, wipeL l4 vs, cs, acc, gm.wipeA vs, (gx'.trans gx2).trans gxm, by rw [Zaw, E4.vs, hw, hv'], he', ha', by omega, rest, by rw [Zdn, E4.en]; exact hrest, hys⟩
     | true =>
      refine iteT ?_
      rw [← E4.vs]
      rw [← E4.en] at hrest
      dsimp only at hrest
      cases hx5 : x (ens l4) with
      | none => rw [hx5] at hrest; cases hrest
      | some rx =>
       obtain ⟨rd, e5⟩ := rx
       rw [hx5] at hrest
       cases rd with
       | ex C => cases hrest
       | ok yd =>
        refine hx E4.gd hx5 (fun b1 hb1 y G5 l5 H5 E5 dy => ?_) (fun C hC => nomatch hC)
        cases hb1
        obtain ⟨gm, gxm⟩ := g2.merge E5.gd ((E3.gx.trans E4.gx).trans E5.gx)
        obtain ⟨⟨rest2, e6⟩, hr2, hr3⟩ := Option.map_eq_some_iff.mp hrest
        cases hr3
        have hD5 : H5 D = some (.lst (cs.map fun y => y.2.val)) := by
         have := (LT.ok_node.mp (gm.ok _ (List.mem_append_right _ List.mem_cons_self))).1
         rw [ZaF] at this
         exact this
        have hcl : cs.length = acc.length := by
         have := congrArg List.length he'
         rw [ZcO] at this
         rw [this]
         simp [oLeafs]
        refine ⟨_, hD5, sz_lt (by rw [List.length_map]; omega), ?_⟩
        have hidx : (l5 ++ [some (LT.node .lst D 0 cs)])[l5.length]? = some (some (.node .lst D 0 cs)) := by simp
        have gmod := Good.mod (p := []) (cs' := cs ++ [(.no, .leaf y yd)]) gm.non0 hidx rfl (fun b => by rw [Zil, List.count_append]; show _ + ([] ++ LT.adsL []).count b ≤ _; simp [LT.adsL, oads]) (fun z hz => by
         rcases List.mem_append.mp hz with hz | hz
         ·exact .inl ⟨z, hz, rfl⟩
         ·simp at hz; subst hz; exact .inr (.inr ⟨y, yd, rfl, dy⟩))
        rw [ZaF, List.set_append_right _ _ (Nat.le_refl _), Nat.sub_self] at gmod
        rw [List.map_append] at gmod
        have gw2 := gmod.wipeA vs
        have gw2 : Good F G5 (wipeL l5 vs ++ [some (LT.node .lst D 0 (cs ++ [(.no, .leaf y yd)]))]) (upd H5 D (.lst (cs.map (fun x => x.2.val) ++ [y]))) := gw2
        refine ⟨G5, wipeL l5 vs, cs ++ [(.no, .leaf y yd)], acc ++ [yd], gw2, (gx'.trans gx2).trans gxm, by rw [Zaw, E5.vs, E4.vs, hw, hv'], ?_, ?_, ?_, rest2, by rw [Zdn, E5.en]; exact hr2, by rw [hys, List.append_assoc]; rfl⟩
        ·rw [Zqf, he']
         simp [oLeafs, LT.erL, LT.er]
        ·rw [Zil, ha']
         rfl
        ·rw [List.length_append]
         show _ + 1 ≤ _
         omega
  ·rintro H' ⟨G', l', cs, acc, g', gx', hv', he', ha', hlen, rest, hrest, hys⟩
   rw [List.drop_length] at hrest
   cases hrest
   rw [List.append_nil] at hys
   subst hys
   have hll : l'.length = l1.length := by
    have := congrArg List.length hv'
    rwa [Zu, wipe_length, Zu] at this
   obtain ⟨l3, g3, e3, v3⟩ := Zkb (l1 := l1) g'.split gx'.ex rfl hll vs fun v hv t ht => by
    have hno := List.all_eq_true.mp hcond.1 v hv
    have het : (ens l1)[v]? = some (some t.er) := by unfold ens; rw [List.getElem?_map, ht]; rfl
    cases t with
    | leaf u d => exact ⟨rfl, Dt.up (show Dt G1 u d from E1.gd.ok _ (List.mem_of_getElem? ht)) gx'.ex⟩
    | node k a dx cs2 => rw [LT.er] at het; rw [het] at hno; cases hno
   obtain ⟨gm, gxm⟩ := g'.merge g3 Gx.refl
   have v4 : vals l3 = vals l1 := by
    apply List.ext_getElem?
    intro j
    rw [v3 j]
    by_cases hj : j ∈ vs
    ·by_cases hlt : j < l1.length
     ·rw [if_pos ⟨hj, hlt⟩]
     ·rw [if_neg fun z => hlt z.2, List.getElem?_eq_none (by rw [Zu]; omega), List.getElem?_eq_none (by rw [Zu]; omega)]
    ·rw [if_neg fun z => hj z.1, hv', wipe_out hj]
   refine k _ rfl (.node .lst D 0 cs) G' l3 H' (gm.pick (fun b => ?_) fun t ht => ?_) (E1.gx.trans gx') e3 (v4.trans E1.vs) (by rw [LT.er, he']; rfl)
   ·show ((LT.node .lst D 0 cs).ads ++ adsS l3).count b ≤ _
    rw [Zj, List.count_append, List.count_append]
    show _ ≤ _ + ((LT.node .lst D 0 cs).ads ++ []).count b
    rw [List.append_nil]
    omega
   ·rcases List.mem_cons.mp ht with e | ht
    ·cases e; exact gm.ok _ (List.mem_append_right _ List.mem_cons_self)
    ·exact gm.ok t (List.mem_append_left _ ht)
 ·exact hi gd h1 (fun d hd => nomatch hd) fun C' hC' => kx C' (rxc hC')⟩
end Kb
namespace Kb
open PySem L2 Evl
/-- an old promise as a function -/
noncomputable def gR {α : Type} (R : List PyData → α → Prop) : List PyData → Option α := fun ds => by
 classical
 exact if h : ∃ d, R ds d then some (Classical.choose h) else none
theorem ZcL {α : Type} {R : List PyData → α → Prop} {ds : List PyData} {d : α} (h : gR R ds = some d) : R ds d := by
 unfold gR at h
 split at h
 ·rename_i hd
  cases h
  exact Classical.choose_spec hd
 ·cases h
theorem Zfm {α : Type} {R : List PyData → α → Prop} {ds : List PyData} {d : α} (h : R ds d) (u : ∀ e, R ds e → e = d) : gR R ds = some d := by
 unfold gR
 have hd : ∃ d, R ds d := ⟨d, h⟩
 rw [dif_pos hd]
 rw [u _ (Classical.choose_spec hd)]
section
variable {kp : Nat → Bool} {K : PySem.W.Frag} {P : Program} {w : World} {W : WX} {te ta tb : TE} {a b x : FX} {f : FW}
/-- x op= e -/
noncomputable def sAug (i : Nat) (o : Int → Int → Int) (x : FX) : FS := fun en => (((strong en)[i]?).join.bind asI).bind fun _ => bs (x en) fun d e1 => (((strong e1)[i]?).join.bind asI).bind fun n => (asI d).map fun m => (.nx, e1.set i (some (.leaf (.int (o n m)))))
/-- xs[e], xs of one's own -/
noncomputable def xIxV (i : Nat) (x : FX) : FX := fun en => (lstAt en i).bind fun _ => bx (x en) fun j e1 => (lstAt e1 i).bind fun cs => (asI j).bind fun j => (L2.atI cs j).bind fun c => (leafD c.2).map fun d => (.ok d, e1)
end
end Kb
namespace Kb
open PySem L2 Evl
theorem Inv.forget {X : Cx} {pins : List (Addr × Obj)} {σ : L2.St} {H : Hp} {s : Shared} (I : Inv X pins σ H s) (i : Nat) : Inv X pins (σ.set i none) H s :=
 ⟨I.ok, I.os, I.bare, I.base, by
  obtain ⟨m, h1, h2⟩ := I.loc
  refine ⟨m, h1, fun j x v hj hv => h2 j x v hj ?_⟩
  rw [List.getElem?_set] at hv
  split at hv
  ·split at hv <;> cases hv
  ·exact hv, I.cell, I.free, I.freeC, I.pin, I.hok, by rw [List.length_set]; exact I.len⟩
noncomputable def tForget (i : Nat) (t : TS) : TS := fun D σ H => t D (σ.set i none) H
theorem Zgw {X : Cx} {sts : List Stmt} {t : TS} (i : Nat) (h : PSs X sts t) : PSs X sts (tForget i t) := ⟨fun pins s σ H D I q => h.run pins s _ H D (Inv.forget I i) q⟩
/-- the draw's list as a tree -/
noncomputable def drT (ns : List Int) (i c z : Int) : OT := .node .lst [(.no, .leaf (dLI ns)), (.no, .leaf (.int i)), (.no, .leaf (.int c)), (.no, .leaf (.int z))]
noncomputable def DrOk (T : OT) : Prop := ∃ (ns : List Int) (i c z : Int), T = drT ns i c z ∧ 0 ≤ i ∧ 0 ≤ c ∧ 0 ≤ z ∧ z < 2147483647
noncomputable def spBegin (K : PySem.W.Frag) : Sp := fun vs H Q _ => ∃ (a : Addr) (ns : List Int), vs = [.ref a] ∧ SqL K H a (ns.map V.int) ∧ ns.length ≤ 63 ∧ ∀ (d : Dw) G H2, H d.a = none → Ex H H2 → Ex G H2 → (∀ b o, H b = some o → G b = none) → Dr G H2 d → Q (.ref d.a) H2
noncomputable def spLaw (K : PySem.W.Frag) : Sp := fun vs H Q _ => ∃ (a : Addr) (ns : List Int), vs = [.ref a] ∧ SqL K H a (ns.map V.int) ∧ ns.length ≤ 63 ∧ ∀ H', Q (.bl true) H'
/-- the law returns True -/
noncomputable def lawOk (n : Nat) (s : FS) : Prop := ∀ T, DrOk T → ∃ en', s (none :: some T :: List.replicate (n - 2) none) = some (.rt (.leaf (.bool true)), en')
theorem Zom {K : PySem.W.Frag} {kp : Nat → Bool} {t : TS} {s : FS} {N : List Str} {vs : List V} {H : Hp} {Q : VK} {E : XK} (hN : 2 ≤ N.length) (hs : SS kp (fun _ _ _ _ => False) t s) (hl : lawOk N.length s) (h : spLaw K vs H Q E) :
  tSeq (tAsg (tCall (spBegin K) [] E0 (tCons (tVar 0) tNil)) (gName 1)) (tForget 0 t) { nx := fun _ H' => Q .non H', rt := Q } (L2.start N vs) H := by
 obtain ⟨a, ns, rfl, hS, hlen, q⟩ := h
 refine ⟨_, rfl, a, ns, rfl, hS, hlen, fun d G H2 hd0 e1 gh _ r => ?_⟩
 obtain ⟨no, sc, i, c, z, hd, i0, c0, z0, z1⟩ := r
 let cs : List (Lab × LT) := [(.no, .leaf (.ref d.s) (dLI d.ns)), (.no, .leaf (.int i) (.int i)), (.no, .leaf (.int c) (.int c)), (.no, .leaf (.int z) (.int z))]
 have g0 : Good (fun _ => none) G (List.replicate (N.length - 2) (none : Option LT)) H2 := ⟨fun _ _ h => (nomatch h), gh, (by rw [Zco]; exact List.nodup_nil), (by rw [Zco]; exact fun _ h => (nomatch h)), (by rw [Zco]; exact fun _ h => (nomatch h)), fun t ht => (nomatch (List.eq_of_mem_replicate ht))⟩
 have g1 := ZaJ (k := .lst) (p := d.a) (cs := cs) g0 rfl trivial (by rw [ZaF]; exact hd) no rfl (by rw [Zco]; exact fun h => nomatch h) (fun x hx => by
  simp only [cs, List.mem_cons, List.not_mem_nil, or_false] at hx
  rcases hx with rfl | rfl | rfl | rfl
  ·exact Dt.li sc
  ·exact .int _
  ·exact .int _
  ·exact .int _) rfl
 obtain ⟨en', he⟩ := hl (drT d.ns i c z) ⟨d.ns, i, c, z, rfl, i0, c0, z0, z1⟩
 have ev : ((L2.start N [.ref a]).set 1 (some (.ref d.a))).set 0 none = vals (none :: some (.node .lst d.a 0 cs) :: List.replicate (N.length - 2) none) := by
  obtain ⟨n1, n2, Nr, rfl⟩ : ∃ n1 n2 Nr, N = n1 :: n2 :: Nr := by
   cases N with
   | nil => simp at hN
   | cons n1 N => cases N with
    | nil => simp at hN
    | cons n2 N => exact ⟨n1, n2, N, rfl⟩
  simp [L2.start, vals, LT.val, List.replicate_succ]
 show t _ (((L2.start N [.ref a]).set 1 (some (.ref d.a))).set 0 none) H2
 rw [ev]
 refine hs.run g1.non0 (o := .rt (.leaf (.bool true))) (en' := en') ?_ ?_
 ·rw [← he]
  congr 1
  simp [ens]
  rw [LT.er]
  rfl
 ·intro T G' ls' H' g' gx _ _ hT
  have : T.val = .bl true := by
   cases T with
   | leaf v d =>
    have hT : OT.leaf d = .leaf (.bool true) := hT
    cases hT
    exact (show Dt G' v (.bool true) from g'.ok _ List.mem_cons_self).ob
   | node k a dx cs => rw [LT.er] at hT; cases hT
  show Q T.val H'
  rw [this]
  exact q H'
end Kb
namespace Kb
open PySem L2 Evl
theorem Zdc {α : Type} {a : α} {l : List α} : L2.atI (a :: l) 0 = some a := atI_nat (j := 0) rfl
theorem ZeR {α : Type} {a b : α} {l : List α} : L2.atI (a :: b :: l) 1 = some b := atI_nat (j := 1) rfl
theorem ZeK {α : Type} {a b c : α} {l : List α} : L2.atI (a :: b :: c :: l) 2 = some c := atI_nat (j := 2) rfl
theorem Zgh {α : Type} {a b c d : α} {l : List α} : L2.atI (a :: b :: c :: d :: l) 3 = some d := atI_nat (j := 3) rfl
theorem ZhI {n : Nat} : ixN (n + 2) 1 = some 1 := ixN_nat (j := 1) (by omega)
theorem ZhM {n : Nat} : ixN (n + 3) 2 = some 2 := ixN_nat (j := 2) (by omega)
theorem ZhR {n : Nat} : ixN (n + 4) 3 = some 3 := ixN_nat (j := 3) (by omega)
theorem Zrw {i j : Int} (h0 : -(2 ^ 64) < i) (h1 : i < 2 ^ 64) : cMul i j = true := by unfold cMul; rw [Bool.or_eq_true]; exact .inl (Nat.ble_eq.mpr (by omega))
theorem ZiJ {i j : Int} (h0 : -(2 ^ 64) < j) (h1 : j < 2 ^ 64) : cMul i j = true := by unfold cMul; rw [Bool.or_eq_true]; exact .inr (Nat.ble_eq.mpr (by omega))
theorem ZiI {i j : Int} (h : 0 < j) : cMod i j = true := by simp [cMod, h]
theorem Zla {i j : Int} (h : 0 < j) (h1 : j < 1073741824) : cDiv i j = true := by unfold cDiv; rw [Bool.and_eq_true]; exact ⟨decide_eq_true h, Nat.ble_eq.mpr (by omega)⟩
theorem Zsc {a b : FS} {en e1 : En} (h : a en = some (.nx, e1)) : sSeq a b en = b e1 := by unfold sSeq; rw [h]
theorem Zs3 {c : FB} {a b : FS} {en e1 : En} {t : Bool} (h : c en = some (.ok t, e1)) : sIf c a b en = if t = true then a e1 else b e1 := by unfold sIf bs; rw [h]
theorem Zhr (ds : List PyData) : (lstT ds).data = .list ds := by
 unfold lstT
 rw [OT.data, OT.datas_map]
 simp [oLeafs, OT.data, Function.comp_def]
theorem Za6 (d : PyData) : (OT.leaf d).data = d := by rw [OT.data]
/-- from the body of a def whose first argument is the draw -/
theorem Zp7 {np n : Nat} {s : FS} {T T' R : OT} {ds : List PyData} {en' : En} (hl : ds.length + 1 = np) (h : s (start0 n (T :: ds.map OT.leaf)) = some (.rt R, some T' :: en')) (hn : ds.length ≤ en'.length) : fnI np n (fun i => Nat.blt i 1) s (T :: ds.map OT.leaf) = some (.ok R, T' :: ds.map OT.leaf) := by
 have key : ∀ (ds : List PyData) (en' : En), ds.length ≤ en'.length → takeA (fun i => Nat.blt (i + 1) 1) (ds.map OT.leaf) en' = some (ds.map OT.leaf) := by
  intro ds
  have gen : ∀ (ds : List PyData) (kp : Nat → Bool), (∀ i, kp i = false) → ∀ en' : En, ds.length ≤ en'.length → takeA kp (ds.map OT.leaf) en' = some (ds.map OT.leaf) := by
   intro ds
   induction ds with
   | nil => intro kp _ en' _; cases en' <;> rfl
   | cons d ds ih =>
    intro kp hk en' hl
    cases en' with
    | nil => simp at hl
    | cons o en' =>
     show (if kp 0 = true then _ else (takeA (fun i => kp (i + 1)) (ds.map OT.leaf) en').map (OT.leaf d :: ·)) = _
     rw [if_neg (by rw [hk]; exact Bool.false_ne_true), ih _ (fun i => hk (i + 1)) en' (by simpa using hl)]
     rfl
  exact gen ds _ (fun i => rfl)
 unfold fnI
 rw [if_pos (by simp [hl]), h]
 show (takeA (fun i => Nat.blt i 1) (T :: ds.map OT.leaf) (some T' :: en')).map (fun as' => (Rx.ok R, as')) = _
 have : takeA (fun i => Nat.blt i 1) (T :: ds.map OT.leaf) (some T' :: en') = some (T' :: ds.map OT.leaf) := by
  show (if Nat.blt 0 1 = true then (some T').bind (fun T'' => (takeA (fun i => Nat.blt (i + 1) 1) (ds.map OT.leaf) en').map (T'' :: ·)) else _) = _
  rw [if_pos (show Nat.blt 0 1 = true from rfl), key ds en' hn]
  rfl
 rw [this]
 rfl
end Kb
namespace Kb
open PySem L2 Evl
noncomputable def lookD (f : Str) : List (PyData × PyData) → Option PyData
 | [] => none
 | (.str g, d) :: r => if f = g then some d else lookD f r
 | _ :: r => lookD f r
noncomputable def oFld (C : Addr) (f : Str) : PyData → Option PyData
 | .dict ((.none, .int c) :: r) => if c = ((C : Nat) : Int) then lookD f r else none
 | _ => none
theorem Zib {G : Hp} {f : Str} : ∀ {fs : List (Str × V)} {ds : List PyData} {d : PyData}, DtAll G (fs.map (·.2)) ds → lookD f ((fs.map fun kv => PyData.str kv.1).zip ds) = some d → ∃ v, fs.lookup f = some v ∧ Dt G v d
 | [], _, d, _, h => by
  simp [lookD] at h
 | (g, v) :: fs, ds, d, hd, h => by
  obtain ⟨e, ds', rfl, hv, hr⟩ : ∃ e ds', ds = e :: ds' ∧ Dt G v e ∧ DtAll G (fs.map (·.2)) ds' := by
   cases hd with
   | cons h1 h2 => exact ⟨_, _, rfl, h1, h2⟩
  rw [ZhL]
  simp only [List.map_cons, List.zip_cons_cons, lookD] at h
  by_cases z : f = g
  ·rw [if_pos z] at h ⊢
   cases h
   exact ⟨v, rfl, hv⟩
  ·rw [if_neg z] at h ⊢
   exact Zib hr h
theorem Dt.insOf {G : Hp} {v : V} {c : Int} {r : List (PyData × PyData)} (h : Dt G v (.dict ((.none, .int c) :: r))) : ∃ (p C dx : Addr) (fs : List (Str × V)) (ds : List PyData), v = .ref p ∧ G p = some (.ins C dx fs) ∧ c = ((C : Nat) : Int) ∧ DtAll G (fs.map (·.2)) ds ∧ r = (fs.map fun kv => PyData.str kv.1).zip ds := by
 generalize hk : (PyData.dict ((.none, .int c) :: r)) = k at h
 cases h with
 | dct h1 h2 h3 =>
  rename_i a kvs ds kd
  injection hk with hk
  rw [h3] at hk
  cases kvs with
  | nil => simp at hk
  | cons kv kvs =>
   cases ds with
   | nil => simp at hk
   | cons d ds =>
    simp only [List.map_cons, List.zip_cons_cons, List.cons.injEq, Prod.mk.injEq] at hk
    obtain ⟨⟨h, _⟩, _⟩ := hk
    obtain ⟨k, v⟩ := kv
    cases k <;> cases h
 | ins h1 h2 h3 =>
  rename_i a C dx fs ds kd
  injection hk with hk
  rw [h3] at hk
  simp only [List.cons.injEq, Prod.mk.injEq, true_and, PyData.int.injEq] at hk
  exact ⟨a, C, dx, fs, ds, rfl, h1, hk.1, h2, hk.2⟩
 | lkd h1 h2 h3 =>
  injection hk with hk
  rw [h3] at hk
  simp at hk
 | lkl h1 h2 h3 =>
  injection hk with hk
  rw [h3] at hk
  simp at hk
 | _ => cases hk
section
variable {K : PySem.W.Frag} {ta : TE} {w : FW}
theorem Zqz {C : Addr} {f : Str} {ns : List Str} (F : Fls K C ns) (hn : f ∈ ns) : UnOk (fun x H1 Q => ∃ a C dx fs v, x = .ref a ∧ H1 a = some (.ins C dx fs) ∧ Cls K C ∧ NoAttr K C f ∧ fs.lookup f = some v ∧ Q v H1) (oFld C f) := ⟨fun {x G a d} dx e H gh Q q => by
 unfold oFld at e
 split at e
 case h_2 => cases e
 rename_i c r
 split at e
 case isFalse => cases e
 rename_i hc
 obtain ⟨p, C', dx', fs, ds, rfl, hp, hc', hd, rfl⟩ := dx.insOf
 have : C' = C := Int.ofNat.inj (hc'.symm.trans hc)
 subst this
 obtain ⟨v, hv, dv⟩ := Zib hd e
 exact ⟨p, C', dx', fs, v, rfl, gh _ _ hp, F.cl, F.no f hn, hv, q v H (Ex.refl H) (dv.up (Zm gh))⟩⟩
/-- e.f -/
theorem ZG {C : Addr} {f : Str} {ns : List Str} (F : Fls K C ns) (hn : f ∈ ns) (h : SW ta w) : SW (tFld K ta f) (wUn (oFld C f) w) := Zfh (Zqz F hn) h
end
noncomputable def putT (f : Str) (T : OT) : List (Lab × OT) → List (Lab × OT)
 | [] => [(.fld f, T)]
 | (l, x) :: r => if l.f = f then (l, T) :: r else (l, x) :: putT f T r
noncomputable def putL (f : Str) (T : LT) : List (Lab × LT) → List (Lab × LT)
 | [] => [(.fld f, T)]
 | (l, x) :: r => if l.f = f then (l, T) :: r else (l, x) :: putL f T r
theorem Zha (f : Str) (T : LT) : ∀ cs : List (Lab × LT), LT.erL (putL f T cs) = putT f T.er (LT.erL cs)
 | [] => by simp [putL, putT, LT.erL]
 | (l, x) :: r => by
  unfold putL
  rw [LT.erL, putT]
  by_cases z : l.f = f
  ·rw [if_pos z, if_pos z, LT.erL]
  ·rw [if_neg z, if_neg z, LT.erL, Zha f T r]
theorem ZeN (f : Str) (T : LT) : ∀ cs : List (Lab × LT), ((LT.vals (putL f T cs)).map fun x => (x.1.f, x.2)) = putF f T.val ((LT.vals cs).map fun x => (x.1.f, x.2))
 | [] => rfl
 | (l, x) :: r => by
  have ih := ZeN f T r
  unfold LT.vals at ih ⊢
  simp only [List.map_cons, putL, putF]
  by_cases z : l.f = f
  ·rw [if_pos z, if_pos z]
   rfl
  ·rw [if_neg z, if_neg z]
   simp only [List.map_cons]
   rw [ih]
theorem Zf4 (f : Str) (T : LT) (b : Addr) : ∀ cs : List (Lab × LT), (LT.adsL (putL f T cs)).count b ≤ (LT.adsL cs).count b + T.ads.count b
 | [] => by simp [putL, LT.adsL]
 | (l, x) :: r => by
  have ih := Zf4 f T b r
  unfold putL
  by_cases z : l.f = f
  ·rw [if_pos z, LT.adsL, LT.adsL, List.count_append, List.count_append]
   omega
  ·rw [if_neg z, LT.adsL, LT.adsL, List.count_append, List.count_append]
   omega
theorem ZfY (f : Str) (T : LT) : ∀ (cs : List (Lab × LT)) (x : Lab × LT), x ∈ putL f T cs → (∃ y ∈ cs, y.2 = x.2) ∨ x.2 = T
 | [], x, h => by
  simp [putL] at h
  subst h
  exact .inr rfl
 | (l, y) :: r, x, h => by
  unfold putL at h
  by_cases z : l.f = f
  ·rw [if_pos z] at h
   rcases List.mem_cons.mp h with rfl | h
   ·exact .inr rfl
   ·exact .inl ⟨x, List.mem_cons_of_mem _ h, rfl⟩
  ·rw [if_neg z] at h
   rcases List.mem_cons.mp h with rfl | h
   ·exact .inl ⟨_, List.mem_cons_self, rfl⟩
   ·rcases ZfY f T r x h with ⟨q, hq, e⟩ | e
    ·exact .inl ⟨q, List.mem_cons_of_mem _ hq, e⟩
    ·exact .inr e
noncomputable def insAt (en : En) (i : Nat) (C : Addr) : Option (List (Lab × OT)) := match en[i]? with
 | some (some (.node (.ins C') cs)) => if C' = C then some cs else none
 | _ => none
theorem Zmt {en : En} {i : Nat} {C : Addr} {cs : List (Lab × OT)} (h : insAt en i C = some cs) : en[i]? = some (some (.node (.ins C) cs)) := by
 unfold insAt at h
 split at h
 ·rename_i C' cs' e
  split at h
  ·rename_i hc
   subst hc
   cases h
   exact e
  ·cases h
 ·cases h
theorem Zlm {F G H : Hp} {ls : Ls} {i : Nat} {C : Addr} {cs : List (Lab × OT)} (g : Good F G ls H) (h : insAt (ens ls) i C = some cs) : ∃ p dx c, ls[i]? = some (some (.node (.ins C) p dx c)) ∧ LT.erL c = cs ∧ (vals ls)[i]? = some (some (.ref p)) ∧ H p = some (.ins C dx ((LT.vals c).map fun x => (x.1.f, x.2))) ∧ ∀ x ∈ c, x.2.ok G H := by
 obtain ⟨p, dx, c, h1, h2, h3⟩ := Ziq (Zmt h)
 have h4 := g.node_at h1
 exact ⟨p, dx, c, h1, h2, h3, h4.1, h4.2⟩
noncomputable def sSetF (C : Addr) (f : Str) (i : Nat) (x : FX) : FS := fun en => bs (x en) fun d e1 => (insAt e1 i C).bind fun cs => if cs.length < 1000 then some (.nx, e1.set i (some (.node (.ins C) (putT f (.leaf d) cs)))) else none
noncomputable def sSetFN (C : Addr) (f : Str) (i : Nat) (n : FN) : FS := fun en => bs (n en) fun T e1 => (insAt e1 i C).bind fun cs => if cs.length < 1000 then some (.nx, e1.set i (some (.node (.ins C) (putT f T cs)))) else none
section
variable {K : PySem.W.Frag} {kp : Nat → Bool} {W : WX} {te : TE} {x : FX} {n : FN}
/-- self.f = e, e told -/
theorem ZbD {C : Addr} {f : Str} {ns : List Str} {i : Nat} (FL : Fls K C ns) (hn : f ∈ ns) (h : SX W te x) : SS kp W (sFld K (tVar i) te f) (sSetF C f i x) := ⟨fun {F G ls H o en'} g e D k => by
 rcases Zw e with ⟨d, e1, e2, e3⟩ | ⟨C', e2, rfl⟩
 ·refine h g e2 (fun d' hd' v G1 l1 H1 E1 dv => ?_) (fun C hC => nomatch hC)
  cases hd'
  rw [← E1.en] at e3
  obtain ⟨c1, hc1, e4⟩ := bnd e3
  split at e4
  case isFalse => cases e4
  rename_i hz
  cases e4
  obtain ⟨p, dx, c', q1, q2, q3, q4, q6⟩ := Zlm E1.gd hc1
  obtain ⟨l2, g2, en2, v2⟩ := ZfT (cs' := putL f (.leaf v d) c') E1.gd.non0 q1 (fun b => by have := Zf4 f (.leaf v d) b c'; simpa [LT.ads, oads] using this) (fun y hy => by
   rcases ZfY _ _ _ _ hy with h | h
   ·exact .inl h
   ·exact .inr (.inr ⟨v, d, h, dv⟩))
  rw [show hoOf (.ins C) dx (LT.vals (putL f (.leaf v d) c')) = .ins C dx (putF f v ((LT.vals c').map fun x => (x.1.f, x.2))) from congrArg (HO.ins C dx) (ZeN f _ c')] at g2
  refine ⟨_, E1.vs ▸ q3, p, C, dx, _, rfl, q4, FL.cl, FL.no f hn, by rw [List.length_map, LT.vals, List.length_map, ← ZcO, q2]; exact hz, ?_⟩
  have k2 := k G1 l2 _ (E1.s.trans ⟨g2, Gx.refl, by rw [en2, Zha, q2]; rfl, .of v2⟩)
  rw [v2, E1.vs] at k2
  exact k2
 ·exact h g e2 (fun d hd => nomatch hd) fun C' hC' => by cases hC'; exact k.xc⟩
theorem Zz {C : Addr} {f : Str} {ns : List Str} {i : Nat} (FL : Fls K C ns) (hn : f ∈ ns) (h : SN W te n) : SS kp W (sFld K (tVar i) te f) (sSetFN C f i n) := ⟨fun {F G ls H o en'} g e D k => by
 rcases Zw e with ⟨T0, e1, e2, e3⟩ | ⟨C', e2, rfl⟩
 ·refine h g e2 (fun T0' hT0 T G1 l1 H1 g1 gx1 he1 hv1 hT => ?_) (fun C hC => nomatch hC)
  cases hT0
  rw [← he1] at e3
  obtain ⟨c1, hc1, e4⟩ := bnd e3
  split at e4
  case isFalse => cases e4
  rename_i hz
  cases e4
  obtain ⟨p, dx, c', q1, q2, q3, q4, q6⟩ := Zlm g1.tail hc1
  obtain ⟨l2, g2, en2, v2⟩ := ZfT (cs' := putL f T c') g1 q1 (fun b => Zf4 f T b c') (fun y hy => by
   rcases ZfY _ _ _ _ hy with h | h
   ·exact .inl h
   ·exact .inr (.inl (congrArg some h)))
  rw [show hoOf (.ins C) dx (LT.vals (putL f T c')) = .ins C dx (putF f T.val ((LT.vals c').map fun x => (x.1.f, x.2))) from congrArg (HO.ins C dx) (ZeN f _ c')] at g2
  refine ⟨_, hv1 ▸ q3, p, C, dx, _, rfl, q4, FL.cl, FL.no f hn, by rw [List.length_map, LT.vals, List.length_map, ← ZcO, q2]; exact hz, ?_⟩
  have k2 := k G1 l2 _ ⟨g2, gx1, by rw [en2, Zha, q2, ← hT], .of (v2.trans hv1)⟩
  rw [v2, hv1] at k2
  exact k2
 ·exact h g e2 (fun d hd => nomatch hd) fun C' hC' => by cases hC'; exact k.xc⟩
end
end Kb
namespace Kb
open PySem L2 Evl
theorem Znb {F G H : Hp} {ls : Ls} {C x dx : Addr} (g : Good F G ls H) (hx : H x = none) (hd : H dx = none) (hne : dx ≠ x) : Good F G (some (.node (.ins C) x dx []) :: ls) (upd (upd H dx (.own x)) x (.ins C dx [])) := by
 have e : Ex H (upd (upd H dx (.own x)) x (.ins C dx [])) := fun a o h => by rw [upd_ne (ne_of_none h hx), upd_ne (ne_of_none h hd)]; exact h
 have g2 := g.stay e
 have hads : (LT.node (.ins C) x dx []).ads = [x, dx] := by rw [LT.ads]; simp [Kd.own, LT.adsL]
 have no : ∀ a, H a = none → a ∉ adsS ls := fun a ha h => by
  obtain ⟨o, ho⟩ := g.has h
  rw [ha] at ho
  cases ho
 have gno : ∀ a, H a = none → G a = none := fun a ha => fresh_back g.gh ha
 have fno : ∀ a, H a = none → F a = none := fun a ha => fresh_back g.fh ha
 refine ⟨g2.fh, g2.gh, ?_, fun a h => ?_, fun a h => ?_, fun t ht => ?_⟩
 ·show ((LT.node (.ins C) x dx []).ads ++ adsS ls).Nodup
  rw [hads]
  refine List.nodup_cons.mpr ⟨fun h => ?_, List.nodup_cons.mpr ⟨no dx hd, g.nd⟩⟩
  rcases List.mem_cons.mp h with h | h
  ·exact hne h.symm
  ·exact no x hx h
 ·have h : a ∈ (LT.node (.ins C) x dx []).ads ++ adsS ls := h
  rw [hads] at h
  rcases List.mem_cons.mp h with rfl | h
  ·exact gno _ hx
  rcases List.mem_cons.mp h with rfl | h
  ·exact gno _ hd
  ·exact g.gn a h
 ·have h : a ∈ (LT.node (.ins C) x dx []).ads ++ adsS ls := h
  rw [hads] at h
  rcases List.mem_cons.mp h with rfl | h
  ·exact fno _ hx
  rcases List.mem_cons.mp h with rfl | h
  ·exact fno _ hd
  ·exact g.fn a h
 ·rcases List.mem_cons.mp ht with z | z
  ·cases z
   exact LT.ok_node.mpr ⟨upd_same, by show upd (upd H dx (.own x)) x (.ins C dx []) dx = _; rw [upd_ne hne, upd_same], fun _ h => nomatch h⟩
  ·exact g2.ok t z
/-- C(e, ..): a new instance, made by its __init__ -/
noncomputable def nNew (C : Addr) (fd : FD) (a : FA) : FN := fun en => bx (a en) fun ds e1 => (fd (.node (.ins C) [] :: ds.map OT.leaf)).bind fun q => match q with
 | (.ok (.leaf .none), T :: _) => some (.ok T, e1)
 | (.ex c, _ :: _) => some (.ex c, e1)
 | _ => none
section
variable {W : WX} {ta : TA} {args : FA} {fd : FD} {C : Addr}
theorem ZbX (hfd : ∀ as r bs, fd as = some (r, bs) → bs.length = as.length) (ha : SXA W ta args) : SN W (tMakeS C (ISp fd) (WE W) ta) (nNew C fd args) := ⟨fun {F G ls H r en'} g e Q k kx => by
 rcases Zn e with ⟨ds, e1, h1, h2⟩ | ⟨C', h1, rfl⟩
 ·refine ha g h1 (fun d hd vs G1 l1 H1 E1 dv => ?_) (fun C hC => nomatch hC)
  cases hd
  intro x dx hx hdx hne
  have g2 := Znb (C := C) E1.gd hx hdx hne
  obtain ⟨⟨r1, as⟩, hf, h3⟩ := bnd h2
  have split : ∀ {ls' : Ls} {T : OT}, ens ls' = some T :: ens l1 → vals ls' = vals (some (.node (.ins C) x dx []) :: l1) → ∃ T1 l3, ls' = some T1 :: l3 ∧ T1.er = T ∧ T1.val = .ref x ∧ ens l3 = ens l1 ∧ vals l3 = vals l1 := fun {ls' T} he hv => by
   cases ls' with
   | nil => cases he
   | cons o l3 =>
    cases o with
    | none => cases he
    | some T1 =>
     have he := List.cons.inj he
     have hv := List.cons.inj hv
     exact ⟨T1, l3, rfl, Option.some.inj he.1, Option.some.inj hv.1, he.2, hv.2⟩
  have fin : ∀ (r2 : Rx OT) (e2 : En) (Q2 : VK) (hcall : ((pullE [0] (ens (some (.node (.ins C) x dx []) :: l1))).bind fun r => (fd (r.1 ++ ds.map OT.leaf)).bind fun q => match q.1 with | .ok T => some (Rx.ok T, putE [0] q.2 r.2) | .ex C => some (.ex C, putE [0] q.2 r.2)) = some (r2, e2))
    (k2 : ∀ T0, r2 = .ok T0 → ∀ T G' ls' H', Good F G' (some T :: ls') H' → Gx F G1 G' → ens ls' = e2 → vals ls' = vals (some (.node (.ins C) x dx []) :: l1) → T.er = T0 → Q2 T.val H') (kx2 : ∀ C', r2 = .ex C' → ∀ G' ls' H', End F G1 (some (.node (.ins C) x dx []) :: l1) G' ls' H' e2 → WE W (vals ls) (.ref C') none H'),
    ISp fd (.ref x :: vs) (upd (upd H1 dx (.own x)) x (.ins C dx [])) Q2 (WE W (vals ls)) := fun r2 e2 Q2 hcall k2 kx2 => by
   obtain ⟨us, hus, hI⟩ := Zd0 (Q := Q2) (E := WE W (vals ls)) g2 dv hcall hfd k2 kx2
   cases us with
   | nil => exact hus.elim
   | cons u us =>
    cases us with
    | cons _ _ => exact hus.2.elim
    | nil =>
     have : u = .ref x := (Option.some.inj (Option.some.inj hus.1)).symm
     subst this
     exact hI
  have hlen := hfd _ _ _ hf
  cases as with
  | nil => simp at hlen
  | cons T rest =>
   cases r1 with
   | ex c =>
    cases h3
    refine fin (.ex c) (some T :: ens l1) _ (by show ((fd (OT.node (Kd.ins C) [] :: ds.map OT.leaf)).bind _) = _; rw [hf]; rfl) (fun T0 h => nomatch h) fun C' hC' G' ls' H' E2 => ?_
    cases hC'
    obtain ⟨T1, l3, rfl, t1, t2, t3, t4⟩ := split E2.en E2.vs
    exact kx c rfl G' l3 H' (E1.trans ⟨E2.gd.tail, E2.gx, t3.trans E1.en, t4⟩)
   | ok R =>
    cases R with
    | node _ _ => cases h3
    | leaf d =>
     cases d with
     | none =>
      cases h3
      refine fin (.ok (.leaf .none)) (some T :: ens l1) _ (by show ((fd (OT.node (Kd.ins C) [] :: ds.map OT.leaf)).bind _) = _; rw [hf]; rfl) (fun T0 h Tr G' ls' H' g' gx' he hv hT => ?_) fun C' hC' => nomatch hC'
      cases h
      obtain ⟨T1, l3, rfl, t1, t2, t3, t4⟩ := split he hv
      have hr : Tr.val = .non := by
       cases Tr with
       | leaf v d =>
        have hd : d = .none := by injection hT
        subst hd
        have := g'.ok _ List.mem_cons_self
        have : Dt G' v .none := this
        cases this
        rfl
       | node k a dx cs => rw [LT.er] at hT; cases hT
      have := k T rfl T1 G' l3 H' g'.tail (E1.gx.trans gx') (t3.trans E1.en) (t4.trans E1.vs) t1
      rw [t2] at this
      exact ⟨hr, this⟩
     | _ => cases h3
 ·exact ha g h1 (fun d hd => nomatch hd) fun C' hC' => kx C' (rxc hC')⟩
end
end Kb
namespace Kb
open PySem L2 Evl
theorem LT.sub_app : ∀ {p q : List Nat} {t s : LT}, t.sub p = some s → t.sub (p ++ q) = s.sub q
 | [], q, t, s, h => by cases t <;> (cases h; rfl)
 | i :: p, q, .leaf v d, s, h => by cases h
 | i :: p, q, .node k a dx cs, s, h => by
  have h : ((cs[i]?).bind fun x => x.2.sub p) = some s := h
  obtain ⟨x, hx, h⟩ := bnd h
  show ((cs[i]?).bind fun x => x.2.sub (p ++ q)) = _
  rw [hx]
  exact LT.sub_app h
noncomputable abbrev FP := En → Option (Nat × List Nat)
structure SP (te : TE) (pl : FP) : Prop where
 run : ∀ {F G : Hp} {ls : Ls} {H : Hp} {i : Nat} {p : List Nat}, Good F G ls H → pl (ens ls) = some (i, p) → ∀ {Q : VK}, (∀ t s H1, Ex H H1 → ls[i]? = some (some t) → t.sub p = some s → Q s.val H1) → te (vals ls) H Q
noncomputable def subE (en : En) (i : Nat) (p : List Nat) : Option OT := ((en[i]?).join).bind fun T => T.sub p
theorem Zao {ls : Ls} {i : Nat} {p : List Nat} {S : OT} (h : subE (ens ls) i p = some S) : ∃ t s, ls[i]? = some (some t) ∧ t.sub p = some s ∧ s.er = S := by
 obtain ⟨T, hT, h⟩ := bnd h
 have hT := join_some hT
 unfold ens at hT
 rw [List.getElem?_map] at hT
 obtain ⟨o, ho, h2⟩ := Option.map_eq_some_iff.mp hT
 cases o with
 | none => cases h2
 | some t =>
  cases h2
  rw [LT.sub_er] at h
  obtain ⟨s, hs, h3⟩ := Option.map_eq_some_iff.mp h
  exact ⟨t, s, ho, hs, h3⟩
noncomputable def pV (i : Nat) : FP := fun en => (subE en i []).map fun _ => (i, [])
theorem ZZ {i : Nat} : SP (tVar i) (pV i) := ⟨fun {F G ls H i' p} g e Q k => by
 obtain ⟨S, hS, h⟩ := Option.map_eq_some_iff.mp e
 cases h
 obtain ⟨t, s, h1, h2, h3⟩ := Zao hS
 have : t = s := by cases t <;> (cases h2; rfl)
 subst this
 refine ⟨t.val, ?_, k t t H (Ex.refl H) h1 h2⟩
 unfold vals
 rw [List.getElem?_map, h1]
 rfl⟩
/-- where a field stands -/
noncomputable def idxF (f : Str) {α : Type} : List (Lab × α) → Option Nat
 | [] => none
 | (l, _) :: r => if f = l.f then some 0 else (idxF f r).map (· + 1)
theorem ZjH (f : Str) : ∀ cs : List (Lab × LT), idxF f (LT.erL cs) = idxF f cs
 | [] => by rw [LT.erL]; rfl
 | (l, x) :: r => by
  rw [LT.erL]
  unfold idxF
  rw [ZjH f r]
theorem Zkj {f : Str} : ∀ {cs : List (Lab × LT)} {j : Nat}, idxF f cs = some j → ∃ x, cs[j]? = some x ∧ ((LT.vals cs).map fun x => (x.1.f, x.2)).lookup f = some x.2.val
 | [], _, h => by cases h
 | (l, x) :: r, j, h => by
  unfold idxF at h
  show ∃ y, ((l, x) :: r)[j]? = some y ∧ ((l.f, x.val) :: ((LT.vals r).map fun x => (x.1.f, x.2))).lookup f = some y.2.val
  rw [ZhL]
  by_cases z : f = l.f
  ·rw [if_pos z] at h ⊢
   cases h
   exact ⟨(l, x), rfl, rfl⟩
  ·rw [if_neg z] at h ⊢
   obtain ⟨j', hj, rfl⟩ := Option.map_eq_some_iff.mp h
   obtain ⟨y, h1, h2⟩ := Zkj hj
   exact ⟨y, h1, h2⟩
noncomputable def pF (C : Addr) (f : Str) (pl : FP) : FP := fun en => (pl en).bind fun q => (subE en q.1 q.2).bind fun S => match S with
 | .node (.ins C') cs => if C' = C then (idxF f cs).map fun j => (q.1, q.2 ++ [j]) else none
 | _ => none
theorem Z3 {s : LT} {k : Kd} {cs : List (Lab × OT)} (h : s.er = .node k cs) : ∃ a dx c, s = .node k a dx c ∧ LT.erL c = cs := by
 cases s with
 | leaf v d => cases h
 | node k' a dx c =>
  rw [LT.er] at h
  injection h with h1 h2
  subst h1
  exact ⟨a, dx, c, rfl, h2⟩
theorem Good.at_sub {F G H : Hp} {ls : Ls} {i : Nat} {p : List Nat} {t : LT} {k : Kd} {a dx : Addr} {cs : List (Lab × LT)} (g : Good F G ls H) (h : ls[i]? = some (some t)) (hs : t.sub p = some (.node k a dx cs)) : H a = some (hoOf k dx (LT.vals cs)) ∧ ∀ x ∈ cs, x.2.ok G H :=
 let ⟨h1, _, h3⟩ := LT.ok_node.mp (LT.sub_ok hs (g.ok _ (List.mem_of_getElem? h)))
 ⟨h1, h3⟩
section
variable {K : PySem.W.Frag} {kp : Nat → Bool} {W : WX} {te ta : TE} {x : FX} {n : FN} {pl : FP}
/-- place.f -/
theorem Zav {C : Addr} {f : Str} {ns : List Str} (FL : Fls K C ns) (hn : f ∈ ns) (h : SP ta pl) : SP (tFld K ta f) (pF C f pl) := ⟨fun {F G ls H i p} g e Q k => by
 obtain ⟨⟨i0, p0⟩, h1, e⟩ := bnd e
 obtain ⟨S, h2, e5⟩ := bnd e
 split at e5
 case h_2 => cases e5
 rename_i C' cs
 split at e5
 case isFalse => cases e5
 rename_i hc
 subst hc
 obtain ⟨j, hj, e6⟩ := Option.map_eq_some_iff.mp e5
 cases e6
 obtain ⟨t, s, q1, q2, q3⟩ := Zao h2
 obtain ⟨a, dx, c, rfl, q4⟩ := Z3 q3
 obtain ⟨z1, z2⟩ := g.at_sub q1 q2
 rw [← q4, ZjH] at hj
 obtain ⟨y, y1, y2⟩ := Zkj hj
 refine h.run g h1 fun t' s' H1 x1 r1 r2 => ?_
 rw [q1] at r1
 cases r1
 rw [q2] at r2
 cases r2
 refine ⟨a, C', dx, _, y.2.val, rfl, x1 _ _ z1, FL.cl, FL.no f hn, y2, k t y.2 H1 x1 q1 ?_⟩
 rw [LT.sub_app q2]
 show ((c[j]?).bind fun x => x.2.sub []) = some y.2
 rw [y1]
 show y.2.sub [] = _
 cases y.2 <;> rfl⟩
end
end Kb
namespace Kb
open PySem L2 Evl
/-- place.append(e), e told -/
noncomputable def sAppP (pl : FP) (w : FW) : FS := fun en => (w (strong en)).bind fun d => (pl en).bind fun q => ((en[q.1]?).join).bind fun T => (T.sub q.2).bind fun S => match S with
 | .node .lst cs => if lenOk cs = true then some (.nx, en.set q.1 (some (T.put q.2 (.node .lst (cs ++ [(.no, .leaf d)]))))) else none
 | _ => none
noncomputable def pI (pl : FP) (w : FW) : FP := fun en => (w (strong en)).bind fun d => (asI d).bind fun j => (pl en).bind fun q => (subE en q.1 q.2).bind fun S => match S with
 | .node .lst cs => (L2.ixN cs.length j).map fun n => (q.1, q.2 ++ [n])
 | _ => none
theorem Zd8 {ls : Ls} {i : Nat} {T : OT} (h : ((ens ls)[i]?).join = some T) : ∃ t, ls[i]? = some (some t) ∧ t.er = T := by
 have hT := join_some h
 unfold ens at hT
 rw [List.getElem?_map] at hT
 obtain ⟨o, ho, h2⟩ := Option.map_eq_some_iff.mp hT
 cases o with
 | none => cases h2
 | some t => cases h2; exact ⟨t, ho, rfl⟩
section
variable {K : PySem.W.Frag} {kp : Nat → Bool} {W : WX} {te ta : TE} {w : FW} {pl : FP}
/-- place[e] -/
theorem ZnN (hp : SP ta pl) (hw : SW te w) : SP (tOp (rIxL K) ta te) (pI pl w) := ⟨fun {F G ls H i p} g e Q k => by
 obtain ⟨d, h1, e1⟩ := bnd e
 obtain ⟨j, hj, e1⟩ := bnd e1
 obtain ⟨⟨i0, p0⟩, h2, e2⟩ := bnd e1
 obtain ⟨S, h3, e3⟩ := bnd e2
 split at e3
 case h_2 => cases e3
 rename_i cs
 obtain ⟨m, hm, e4⟩ := Option.map_eq_some_iff.mp e3
 cases e4
 obtain ⟨t, s, q1, q2, q3⟩ := Zao h3
 obtain ⟨a, dx, c, rfl, q4⟩ := Z3 q3
 obtain ⟨z1, z2⟩ := g.at_sub q1 q2
 rw [ZaF] at z1
 rw [← q4, ZcO] at hm
 have hlt := (L2.ixN_seq hm).2.1
 refine hp.run g h2 fun t' s' H0 x0 r1 r2 => ?_
 rw [q1] at r1
 cases r1
 rw [q2] at r2
 cases r2
 have g0 := g.stay x0
 refine hw (Zae g0) h1 H0 g0.gh _ fun v H1 x1 dv => ?_
 unfold asI at hj
 split at hj
 case h_2 => cases hj
 cases hj
 cases dv
 refine ⟨a, _, _, (c[m]).2.val, rfl, rfl, sq_of (x1 _ _ (x0 _ _ z1)), ?_, k t (c[m]).2 H1 (x0.trans x1) q1 ?_⟩
 ·unfold L2.atI
  rw [List.length_map, hm]
  show (c.map fun x => x.2.val)[m]? = _
  rw [List.getElem?_map, List.getElem?_eq_getElem hlt]
  rfl
 ·rw [LT.sub_app q2]
  show ((c[m]?).bind fun x => x.2.sub []) = some (c[m]).2
  rw [List.getElem?_eq_getElem hlt]
  show (c[m]).2.sub [] = _
  cases (c[m]).2 <;> rfl⟩
end
end Kb
namespace Kb
open PySem L2 Evl
noncomputable def keyOf : PyData → Option Key
 | .int i => some (.inl i)
 | .str s => some (.inr s)
 | _ => none
theorem ZbQ (k : Key) : keyOf (keyD k) = some k := by cases k <;> rfl
theorem Zee {d : PyData} {k : Key} (h : keyOf d = some k) : d = keyD k := by
 unfold keyOf at h
 split at h
 ·cases h; rfl
 ·cases h; rfl
 ·cases h
noncomputable def lookK (k : Key) : List (PyData × PyData) → Option PyData
 | [] => none
 | (e, d) :: r => if keyOf e = some k then some d else lookK k r
noncomputable def isDct : List (PyData × PyData) → Bool
 | (.none, _) :: _ => false
 | _ => true
theorem Dt.dctOf {G : Hp} {v : V} {kd : List (PyData × PyData)} (h : Dt G v (.dict kd)) (hd : isDct kd = true) : ∃ (p : Addr) (kvs : List (Key × V)) (ds : List PyData), v = .ref p ∧ G p = some (.dK kvs) ∧ DtAll G (kvs.map (·.2)) ds ∧ kd = (kvs.map fun kv => keyD kv.1).zip ds := by
 generalize hk : PyData.dict kd = k at h
 cases h with
 | dct h1 h2 h3 =>
  injection hk with hk
  exact ⟨_, _, _, rfl, h1, h2, hk.trans h3⟩
 | ins h1 h2 h3 =>
  injection hk with hk
  rw [hk, h3] at hd
  cases hd
 | lkd h1 h2 h3 =>
  injection hk with hk
  rw [hk, h3] at hd
  cases hd
 | lkl h1 h2 h3 =>
  injection hk with hk
  rw [hk, h3] at hd
  cases hd
 | _ => cases hk
theorem Zdj {G : Hp} {k : Key} : ∀ {kvs : List (Key × V)} {ds : List PyData}, DtAll G (kvs.map (·.2)) ds → (∃ v d, valV kvs k = some v ∧ lookK k ((kvs.map fun kv => keyD kv.1).zip ds) = some d ∧ Dt G v d) ∨ (valV kvs k = none ∧ lookK k ((kvs.map fun kv => keyD kv.1).zip ds) = none)
 | [], ds, h => .inr ⟨rfl, by simp [lookK]⟩
 | (g, v) :: kvs, ds, h => by
  obtain ⟨e, ds', rfl, hv, hr⟩ : ∃ e ds', ds = e :: ds' ∧ Dt G v e ∧ DtAll G (kvs.map (·.2)) ds' := by
   cases h with
   | cons h1 h2 => exact ⟨_, _, rfl, h1, h2⟩
  simp only [List.map_cons, List.zip_cons_cons, lookK, ZbQ]
  by_cases z : g = k
  ·subst z
   refine .inl ⟨v, e, ?_, by rw [if_pos rfl], hv⟩
   simp [valV]
  ·have e1 : valV ((g, v) :: kvs) k = valV kvs k := by
    unfold valV
    rw [List.find?_cons_of_neg (by simpa using z)]
   rw [e1, if_neg (fun h => z (Option.some.inj h))]
   exact Zdj hr
/-- d[k] -/
noncomputable def oDGet : PyData → PyData → Option PyData
 | .dict kd, y => if isDct kd = true then (keyOf y).bind fun k => lookK k kd else none
 | _, _ => none
/-- k in d -/
noncomputable def oDIn (neg : Bool) : PyData → PyData → Option PyData
 | y, .dict kd => if isDct kd = true then (keyOf y).map fun k => .bool (if neg then !(lookK k kd).isSome else (lookK k kd).isSome) else none
 | _, _ => none
theorem Dt.keyV {G : Hp} {v : V} {k : Key} (h : Dt G v (keyD k)) : v = kV k := by
 cases k <;> (cases h; rfl)
section
variable {ta tb : TE} {a b : FW}
theorem Zah (ha : SW ta a) (hb : SW tb b) : SW (tDGet ta tb) (wOp oDGet a b) := ZY (r := fun x y H2 Q => ∃ a v, x = .ref a ∧ DGet H2 a y (some v) ∧ Q v H2) ⟨fun {x y G d e r} dx dy h H gh Q q => by
 unfold oDGet at h
 split at h
 case h_2 => cases h
 rename_i kd
 split at h
 case isFalse => cases h
 rename_i hd
 obtain ⟨k, hk, h7⟩ := bnd h
 obtain rfl := Zee hk
 obtain ⟨p, kvs, ds, rfl, hp, dv, rfl⟩ := dx.dctOf hd
 obtain rfl := dy.keyV
 rcases Zdj (k := k) dv with ⟨v, e, h1, h2, h3⟩ | ⟨_, h2⟩
 ·rw [h2] at h7
  cases h7
  exact ⟨p, v, rfl, h1 ▸ DGet.k (gh _ _ hp), q v H (Ex.refl H) (h3.up (Zm gh))⟩
 ·rw [h2] at h7
  cases h7⟩ ha hb
theorem ZqJ (neg : Bool) : OpF (fun y x H2 Q => ∃ a o, x = V.ref a ∧ DGet H2 a y o ∧ Q (.bl (if neg then !o.isSome else o.isSome)) H2) (oDIn neg) := ⟨fun {y x G e d r} dy dx h H gh Q q => by
 unfold oDIn at h
 split at h
 case h_2 => cases h
 rename_i kd
 split at h
 case isFalse => cases h
 rename_i hd
 obtain ⟨k, hk, h⟩ := Option.map_eq_some_iff.mp h
 subst h
 obtain rfl := Zee hk
 obtain ⟨p, kvs, ds, rfl, hp, dv, rfl⟩ := dx.dctOf hd
 obtain rfl := dy.keyV
 refine ⟨p, valV kvs k, rfl, DGet.k (gh _ _ hp), ?_⟩
 rcases Zdj (k := k) dv with ⟨v, e, h1, h2, h3⟩ | ⟨h1, h2⟩
 ·rw [h1]
  rw [h2] at q
  exact q _ H (Ex.refl H) (ZV fun _ z => nomatch z) (.bl _)
 ·rw [h1]
  rw [h2] at q
  exact q _ H (Ex.refl H) (ZV fun _ z => nomatch z) (.bl _)⟩
theorem Zpv (ha : SW ta a) (hb : SW tb b) : SF (tDNotIn ta tb) (wOp (oDIn true) a b) := Zs (r := fun y x H2 Q => ∃ a o, x = V.ref a ∧ DGet H2 a y o ∧ Q (.bl (if true then !o.isSome else o.isSome)) H2) (ZqJ true) ha hb
end
end Kb
namespace Kb
open PySem L2 Evl
noncomputable def nDct : FN := fun en => some (.ok (.node .dct []), en)
theorem Zgc {W : WX} : SN W tDNewK nDct := ⟨fun {F G ls H r en'} g e Q k kx => by
 cases e
 intro p hp
 refine k _ rfl (.node .dct p 0 []) G ls _ (ZaJ (g.stay (Ex.new hp)) rfl trivial ?_ (fresh_back g.gh hp) (fresh_back g.fh hp) (fun h => ?_) (fun _ h => nomatch h) ?_) Gx.refl rfl rfl ?_
 ·rw [upd_same]
  rfl
 ·obtain ⟨o, ho⟩ := g.has h
  rw [hp] at ho
  cases ho
 ·simp [LT.adsL]
 ·rw [LT.er, LT.erL]⟩
/-- where a key stands -/
noncomputable def idxK (k : Key) {α : Type} : List (Lab × α) → Option Nat
 | [] => none
 | (l, _) :: r => if l.k = k then some 0 else (idxK k r).map (· + 1)
theorem ZjK (k : Key) : ∀ cs : List (Lab × LT), idxK k (LT.erL cs) = idxK k cs
 | [] => by rw [LT.erL]; rfl
 | (l, x) :: r => by
  rw [LT.erL]
  unfold idxK
  rw [ZjK k r]
theorem ZjZ {k : Key} : ∀ {cs : List (Lab × LT)} {j : Nat}, idxK k cs = some j → ∃ x, cs[j]? = some x ∧ valV ((LT.vals cs).map fun x => (x.1.k, x.2)) k = some x.2.val
 | [], _, h => by cases h
 | (l, x) :: r, j, h => by
  unfold idxK at h
  show ∃ y, ((l, x) :: r)[j]? = some y ∧ valV ((l.k, x.val) :: ((LT.vals r).map fun x => (x.1.k, x.2))) k = some y.2.val
  by_cases z : l.k = k
  ·rw [if_pos z] at h
   cases h
   exact ⟨(l, x), rfl, by simp [valV, z]⟩
  ·rw [if_neg z] at h
   obtain ⟨j', hj, rfl⟩ := Option.map_eq_some_iff.mp h
   obtain ⟨y, h1, h2⟩ := ZjZ hj
   refine ⟨y, h1, ?_⟩
   unfold valV at h2 ⊢
   rw [List.find?_cons_of_neg (by simpa using z)]
   exact h2
noncomputable def putKT (k : Key) (d : PyData) (cs : List (Lab × OT)) : List (Lab × OT) := if (cs.any fun x => decide (x.1.k = k)) = true then cs.map (fun x => if x.1.k = k then (x.1, .leaf d) else x) else cs ++ [(.key k, .leaf d)]
noncomputable def pD (pl : FP) (w : FW) : FP := fun en => (w (strong en)).bind fun d => (keyOf d).bind fun kk => (pl en).bind fun q => (subE en q.1 q.2).bind fun S => match S with
 | .node .dct cs => (idxK kk cs).map fun n => (q.1, q.2 ++ [n])
 | _ => none
theorem ZdY (dx : Addr) (cs : List (Lab × LT)) : hoOf .dct dx (LT.vals cs) = .dK ((LT.vals cs).map fun x => (x.1.k, x.2)) := rfl
section
variable {K : PySem.W.Frag} {kp : Nat → Bool} {W : WX} {te ta tv : TE} {w wv : FW} {pl : FP}
/-- place[key] -/
theorem Zd7 (hp : SP ta pl) (hw : SW te w) : SP (tDGet ta te) (pD pl w) := ⟨fun {F G ls H i p} g e Q k => by
 obtain ⟨d, h1, e1⟩ := bnd e
 obtain ⟨kk, hj, e1⟩ := bnd e1
 obtain ⟨⟨i0, p0⟩, h2, e2⟩ := bnd e1
 obtain ⟨S, h3, e3⟩ := bnd e2
 split at e3
 case h_2 => cases e3
 rename_i cs
 obtain ⟨m, hm, e4⟩ := Option.map_eq_some_iff.mp e3
 cases e4
 obtain ⟨t, s, q1, q2, q3⟩ := Zao h3
 obtain ⟨a, dx, c, rfl, q4⟩ := Z3 q3
 obtain ⟨z1, z2⟩ := g.at_sub q1 q2
 rw [ZdY] at z1
 rw [← q4, ZjK] at hm
 obtain ⟨y, y1, y2⟩ := ZjZ hm
 refine hp.run g h2 fun t' s' H0 x0 r1 r2 => ?_
 rw [q1] at r1
 cases r1
 rw [q2] at r2
 cases r2
 have g0 := g.stay x0
 refine hw (Zae g0) h1 H0 g0.gh _ fun v H1 x1 dv => ?_
 obtain rfl := Zee hj
 obtain rfl := dv.keyV
 refine ⟨a, y.2.val, rfl, y2 ▸ DGet.k (x1 _ _ (x0 _ _ z1)), k t y.2 H1 (x0.trans x1) q1 ?_⟩
 rw [LT.sub_app q2]
 show ((c[m]?).bind fun x => x.2.sub []) = some y.2
 rw [y1]
 show y.2.sub [] = _
 cases y.2 <;> rfl⟩
end
end Kb
namespace Kb
open PySem L2 Evl
noncomputable def isI (C : Addr) (m : Str) : PyData → Bool
 | .dict ((.none, .int c) :: r) => decide (c = ((C : Nat) : Int)) && (lookD m r).isNone
 | _ => false
theorem Zh7 {f : Str} : ∀ {fs : List (Str × V)} {ds : List PyData}, ds.length = fs.length → lookD f ((fs.map fun kv => PyData.str kv.1).zip ds) = none → fs.lookup f = none
 | [], _, _, _ => rfl
 | (g, v) :: fs, [], hl, _ => by simp at hl
 | (g, v) :: fs, d :: ds, hl, h => by
  rw [ZhL]
  simp only [List.map_cons, List.zip_cons_cons, lookD] at h
  by_cases z : f = g
  ·rw [if_pos z] at h
   cases h
  ·rw [if_neg z] at h ⊢
   exact Zh7 (by simpa using hl) h
theorem ZqV {G : Hp} {v : V} {C : Addr} {m : Str} {x : PyData} (h : Dt G v x) (hi : isI C m x = true) : ∃ p dx fs, v = .ref p ∧ G p = some (.ins C dx fs) ∧ fs.lookup m = none := by
 unfold isI at hi
 split at hi
 ·rename_i c r
  rw [Bool.and_eq_true, decide_eq_true_eq] at hi
  obtain ⟨p, C', dx, fs, ds, rfl, hp, hc, hd, hr⟩ := h.insOf
  have : C' = C := by
   have := hc.symm.trans hi.1
   exact Int.ofNat.inj this
  subst this
  refine ⟨p, dx, fs, rfl, hp, Zh7 (ds := ds) (by rw [← hd.len, List.length_map]) ?_⟩
  rw [← hr]
  exact Option.isNone_iff_eq_none.mp hi.2
 ·cases hi
noncomputable def wMth (C : Addr) (m : Str) (f : List PyData → Option PyData) (a : FW) (s : DE → Option (List PyData)) : FW := fun ρ => (a ρ).bind fun x => if isI C m x = true then (s ρ).bind fun xs => f (x :: xs) else none
structure GlT (K : PySem.W.Frag) (mg : Str → Option Value) (x : Str) (a : Addr) (ns : List Int) : Prop where
 m : mg x = some (.ref a)
 t : ∀ H : Hp, SqT K H a (ns.map V.int)
end Kb
namespace Kb
open PySem L2 Evl
section
variable {kp : Nat → Bool} {K : PySem.W.Frag} {W : WX} {te ti : TE} {x xi xv : FX} {n : FN}
noncomputable def sInsP (i : Nat) (xj xv : FX) : FS := fun en => (lstAt en i).bind fun _ => bs (xj en) fun j e1 => bs (xv e1) fun d e2 => (lstAt e2 i).bind fun cs => (asI j).bind fun j => if 0 ≤ j ∧ j ≤ 100000 ∧ lenOk cs = true then some (.nx, e2.set i (some (.node .lst ((cs.take j.toNat ++ [(.no, .leaf d)] ++ cs.drop j.toNat))))) else none
end
end Kb
namespace Kb
open PySem L2 Evl
noncomputable abbrev FT := En → Option (Rx (List OT) × En)
noncomputable def aNilT : FT := fun en => some (.ok [], en)
noncomputable def aConsT (n : FN) (r : FT) : FT := fun en => bx (n en) fun T e1 => bx (r e1) fun Ts e2 => some (.ok (T :: Ts), e2)
noncomputable def nLstT (a : FT) : FN := fun en => bx (a en) fun Ts e1 => if Ts.length ≤ 100000 then some (.ok (.node .lst (Ts.map fun T => (Lab.no, T))), e1) else none
section
variable {W : WX} {te : TE} {tr : TA} {n : FN} {s : FT}
theorem Zr (o : Option LT) (ls : Ls) : adsS (o :: ls) = oads o ++ adsS ls := rfl
end
end Kb
namespace Kb
open PySem L2 Evl
noncomputable abbrev H0 : Hp := fun _ => none
structure Own (H : Hp) (Ts : List LT) (H2 : Hp) : Prop where
 ok : ∀ T ∈ Ts, T.ok H0 H2
 nd : (Ts.flatMap LT.ads).Nodup
 fr : ∀ a ∈ Ts.flatMap LT.ads, H a = none
theorem Own.has {H H2 : Hp} {Ts : List LT} (h : Own H Ts H2) {a : Addr} (ha : a ∈ Ts.flatMap LT.ads) : ∃ o, H2 a = some o := by
 obtain ⟨T, hT, ha⟩ := List.mem_flatMap.mp ha
 exact LT.ads_some T (h.ok T hT) a ha
theorem Own.up {H H2 H3 : Hp} {Ts : List LT} (h : Own H Ts H2) (e : Ex H2 H3) : Own H Ts H3 := ⟨fun T hT => LT.ok_heap T (fun a ha => by
 obtain ⟨o, ho⟩ := h.has (List.mem_flatMap.mpr ⟨T, hT, ha⟩)
 rw [ho, e _ _ ho]) (h.ok T hT), h.nd, h.fr⟩
theorem Own.back {H H1 H2 : Hp} {Ts : List LT} (h : Own H1 Ts H2) (e : Ex H H1) : Own H Ts H2 := ⟨h.ok, h.nd, fun a ha => fresh_back e (h.fr a ha)⟩
theorem Own.cons {H H1 H2 : Hp} {T : LT} {Ts : List LT} (h1 : Own H [T] H1) (e1 : Ex H H1) (h2 : Own H1 Ts H2) (e2 : Ex H1 H2) : Own H (T :: Ts) H2 := by
 have u := h1.up e2
 have b := h2.back e1
 have m1 : ∀ a, a ∈ [T].flatMap LT.ads ↔ a ∈ T.ads := fun a => by simp
 refine ⟨fun t ht => ?_, ?_, fun a ha => ?_⟩
 ·rcases List.mem_cons.mp ht with rfl | ht
  ·exact u.ok _ List.mem_cons_self
  ·exact b.ok t ht
 ·rw [List.flatMap_cons]
  refine List.nodup_append.mpr ⟨by have := h1.nd; simpa using this, h2.nd, fun a ha c hc e => ?_⟩
  subst e
  obtain ⟨o, ho⟩ := h1.has ((m1 a).mpr ha)
  rw [h2.fr a hc] at ho
  cases ho
 ·rw [List.flatMap_cons] at ha
  rcases List.mem_append.mp ha with ha | ha
  ·exact h1.fr a ((m1 a).mpr ha)
  ·exact b.fr a ha
theorem Own.snoc {H H1 H2 : Hp} {T : LT} {Ts : List LT} (h1 : Own H Ts H1) (e1 : Ex H H1) (h2 : Own H1 [T] H2) (e2 : Ex H1 H2) : Own H (Ts ++ [T]) H2 := by
 have u := h1.up e2
 have b := h2.back e1
 refine ⟨fun t ht => ?_, ?_, fun a ha => ?_⟩
 ·rcases List.mem_append.mp ht with ht | ht
  ·exact u.ok t ht
  ·exact b.ok t ht
 ·rw [List.flatMap_append]
  refine List.nodup_append.mpr ⟨h1.nd, h2.nd, fun a ha c hc e => ?_⟩
  subst e
  obtain ⟨o, ho⟩ := h1.has ha
  rw [h2.fr a hc] at ho
  cases ho
 ·rw [List.flatMap_append] at ha
  rcases List.mem_append.mp ha with ha | ha
  ·exact h1.fr a ha
  ·exact b.fr a ha
noncomputable def EvO (te : TE) (σ : L2.St) (G : Hp) (T0 : OT) : Prop := ∀ H, Ex G H → ∀ Q : VK, (∀ T H2, Ex H H2 → T.er = T0 → Own H [T] H2 → Q T.val H2) → te σ H Q
noncomputable def EvOs (ta : TA) (σ : L2.St) (G : Hp) (Ts0 : List OT) : Prop := ∀ H, Ex G H → ∀ Q : List V → Hp → Prop, (∀ Ts H2, Ex H H2 → Ts.map LT.er = Ts0 → Own H Ts H2 → Q (Ts.map LT.val) H2) → ta σ H Q
noncomputable abbrev FO := DE → Option OT
noncomputable abbrev FOs := DE → Option (List OT)
structure ST (te : TE) (t : FO) : Prop where
 run : ∀ {en : DE} {σ : L2.St} {G : Hp} {T : OT}, DRel en σ G → t en = some T → EvO te σ G T
structure STs (ta : TA) (t : FOs) : Prop where
 run : ∀ {en : DE} {σ : L2.St} {G : Hp} {T : List OT}, DRel en σ G → t en = some T → EvOs ta σ G T
noncomputable def tF (w : FW) : FO := fun ρ => (w ρ).bind fun d => if flatD d = true then some (.leaf d) else none
noncomputable def tNilO : FOs := fun _ => some []
noncomputable def tConsO (t : FO) (r : FOs) : FOs := fun ρ => (t ρ).bind fun T => (r ρ).map (T :: ·)
noncomputable def tNode (k : Kd) (r : FOs) : FO := fun ρ => (r ρ).bind fun Ts => if Ts.length ≤ 100000 then some (.node k (Ts.map fun T => (Lab.no, T))) else none
section
variable {K : PySem.W.Frag} {te : TE} {ta : TA} {tt : TT} {w : FW} {t : FO} {r : FOs} {W : WX}
theorem Zi6 {H H2 : Hp} {v : V} {d : PyData} (h : Dt H0 v d) : Own H [.leaf v d] H2 := ⟨fun T hT => by simp at hT; subst hT; exact h, by simp [LT.ads], fun a ha => by simp [LT.ads] at ha⟩
theorem Zf5 {G : Hp} {v : V} {d : PyData} (h : Dt G v d) (hf : flatD d = true) : Dt H0 v d := by
 cases h <;> first | (cases hf; done) | constructor
theorem Zg2 (hw : SW te w) : ST te (tF w) := ⟨fun {en σ G T} h e H gh Q k => by
 obtain ⟨d, hd, e⟩ := bnd e
 split at e
 case isFalse => cases e
 rename_i hf
 cases e
 exact hw h hd H gh _ fun v H1 e1 dv => k (.leaf v d) H1 e1 rfl (Zi6 (Zf5 dv hf))⟩
theorem Zpo : STs tNil tNilO := ⟨fun {en σ G T} h e H gh Q k => by
 cases e
 exact k [] H (Ex.refl H) rfl ⟨fun _ h => (nomatch h), List.nodup_nil, fun _ h => (nomatch h)⟩⟩
theorem Zea {H H2 : Hp} {Ts : List LT} {k : Kd} {p : Addr} (hk : k.own p 0 = [p]) (hdx : ∀ H, k.dxok H p 0) (o : Own H Ts H2) (hp : H2 p = some (hoOf k 0 (LT.vals (Ts.map fun T => (Lab.no, T))))) (h0 : H p = none) (hn : p ∉ Ts.flatMap LT.ads) : Own H [.node k p 0 (Ts.map fun T => (Lab.no, T))] H2 := by
 have hads : (LT.node k p 0 (Ts.map fun T => (Lab.no, T))).ads = p :: Ts.flatMap LT.ads := by
  rw [LT.ads, hk, LT.adsL_map, List.flatMap_map]
  rfl
 refine ⟨fun T hT => ?_, ?_, fun a ha => ?_⟩
 ·simp at hT
  subst hT
  refine LT.ok_node.mpr ⟨hp, hdx H2, fun x hx => ?_⟩
  obtain ⟨T, hT, rfl⟩ := List.mem_map.mp hx
  exact o.ok T hT
 ·rw [List.flatMap_cons, List.flatMap_nil, List.append_nil, hads]
  exact List.nodup_cons.mpr ⟨hn, o.nd⟩
 ·rw [List.flatMap_cons, List.flatMap_nil, List.append_nil, hads] at ha
  rcases List.mem_cons.mp ha with rfl | ha
  ·exact h0
  ·exact o.fr a ha
theorem ZoP {k : Kd} (hk : ∀ p, k.own p 0 = [p]) (hdx : ∀ H p, k.dxok H p 0) {te' : TE} (hte : ∀ σ H (Q : VK), ta σ H (fun xs H1 => xs.length ≤ sizeLine ∧ ∀ p, H1 p = none → Q (.ref p) (upd H1 p (hoOf k 0 (xs.map fun v => (Lab.no, v))))) → te' σ H Q) (h1 : STs ta r) : ST te' (tNode k r) := ⟨fun {en σ G T} h e H gh Q q => by
 obtain ⟨Ts0, hTs, e⟩ := bnd e
 split at e
 case isFalse => cases e
 rename_i hl
 cases e
 refine hte _ _ _ (h1.run h hTs H gh _ fun Ts H1 e1 he o1 => ⟨sz_of (by rw [List.length_map]; rw [← he, List.length_map] at hl; exact hl), fun p hp => ?_⟩)
 refine q (.node k p 0 (Ts.map fun T => (Lab.no, T))) _ (e1.trans (Ex.new hp)) ?_ ?_
 ·rw [LT.er, LT.erL_map, List.map_map, ← he, List.map_map]
  rfl
 ·refine Zea (hk p) (fun H => hdx H p) (o1.up (Ex.new hp)) ?_ (fresh_back e1 hp) fun hm => ?_
  ·rw [upd_same]
   simp [LT.vals, Function.comp_def]
  ·obtain ⟨o, ho⟩ := o1.has hm
   rw [hp] at ho
   cases ho⟩
theorem Zrd (h1 : STs ta r) : ST (tLst ta) (tNode .lst r) := ZoP (k := .lst) (fun _ => rfl) (fun _ _ => trivial) (fun σ H Q h => by
 have : ∀ xs : List V, hoOf .lst 0 (xs.map fun v => (Lab.no, v)) = .lst xs := fun xs => by simp [hoOf, Function.comp_def]
 simp only [this] at h; exact h) h1
/-- what is new and flat within: list(e), sorted(e), [..] of flat things -/
noncomputable def tNew (w : FW) : FO := fun ρ => (w ρ).bind fun d => match d with
 | .list ds => if ds.all flatD = true then some (lstT ds) else none
 | _ => none
theorem ZhA {G : Hp} : ∀ {vs : List V} {ds : List PyData}, DtAll G vs ds → ds.all flatD = true → DtAll H0 vs ds
 | _, _, .nil, _ => .nil
 | _, _, .cons h r, f => by
  rw [List.all_cons, Bool.and_eq_true] at f
  exact .cons (Zf5 h f.1) (ZhA r f.2)
theorem Zgo {H H2 : Hp} : ∀ {vs : List V} {ds : List PyData}, DtAll H0 vs ds → ∃ Ts : List LT, Own H Ts H2 ∧ Ts.map LT.val = vs ∧ Ts.map LT.er = ds.map OT.leaf ∧ Ts.flatMap LT.ads = []
 | _, _, .nil => ⟨[], ⟨fun _ h => (nomatch h), List.nodup_nil, fun _ h => (nomatch h)⟩, rfl, rfl, rfl⟩
 | _, _, .cons (v := v) (d := d) h r => by
  obtain ⟨Ts, o, h1, h2, h3⟩ := Zgo (H := H) (H2 := H2) r
  refine ⟨.leaf v d :: Ts, ⟨fun T hT => ?_, ?_, ?_⟩, by rw [List.map_cons, h1]; rfl, by rw [List.map_cons, List.map_cons, h2]; rfl, ?_⟩
  ·rcases List.mem_cons.mp hT with rfl | hT
   ·exact h
   ·exact o.ok T hT
  ·rw [List.flatMap_cons, h3]; exact List.nodup_nil
  ·rw [List.flatMap_cons, h3]; exact fun _ h => (nomatch h)
  ·rw [List.flatMap_cons, h3]; rfl
theorem Zqp (hw : SF te w) : ST te (tNew w) := ⟨fun {en σ G T} h e H gh Q k => by
 obtain ⟨d, hd, e⟩ := bnd e
 split at e
 case h_2 => cases e
 rename_i ds
 split at e
 case isFalse => cases e
 rename_i hf
 cases e
 refine hw h hd H gh _ fun v H1 e1 fv dv => ?_
 obtain ⟨p, xs, rfl, hp, rr⟩ := dv.ol
 obtain ⟨Ts, o, h1, h2, h3⟩ := Zgo (H := H) (H2 := H1) (ZhA rr hf)
 have hp0 : H p = none := fv p rfl
 refine k (.node .lst p 0 (Ts.map fun T => (Lab.no, T))) H1 e1 ?_ (Zea (k := .lst) rfl (fun _ => trivial) o ?_ hp0 (by rw [h3]; exact fun h => nomatch h))
 ·rw [LT.er, LT.erL_map, List.map_map]
  show OT.node .lst _ = OT.node .lst (ds.map _)
  congr 1
  have : (Ts.map LT.er).map (fun T => (Lab.no, T)) = (ds.map OT.leaf).map fun T => (Lab.no, T) := by rw [h2]
  rw [List.map_map, List.map_map] at this
  exact this
 ·rw [Zg gh e1 _ _ hp, ← h1]
  simp [hoOf, LT.vals, Function.comp_def]⟩
noncomputable def lcO (bd : PyData → DE → Option DE) (cond : DE → Option Bool) (elt : FO) (en : DE) : List PyData → Option (List OT)
 | [] => some []
 | d :: ds => (bd d en).bind fun en' => (cond en').bind fun c => if c = true then (elt en').bind fun y => (lcO bd cond elt en ds).map (y :: ·) else lcO bd cond elt en ds
noncomputable def tLcO (it : DE → Option (List PyData)) (bd : PyData → DE → Option DE) (cond : DE → Option Bool) (elt : FO) (vs : List Nat) : FO := fun en => (it en).bind fun ds => if ds.length ≤ 50000 then (lcO bd cond elt (wipeD en vs) ds).map fun Ts => .node .lst (Ts.map fun T => (Lab.no, T)) else none
theorem Zf1 {bd : PyData → DE → Option DE} {cond : DE → Option Bool} {elt : FO} {en : DE} : ∀ {ds : List PyData} {ys : List OT}, lcO bd cond elt en ds = some ys →
  ys = (ds.filter fun d => decide ((bd d en).bind cond = some true)).map (fun d => ((bd d en).bind elt).getD (.leaf .none)) ∧ ∀ d ∈ ds, ∃ en', bd d en = some en' ∧ cond en' = some (decide ((bd d en).bind cond = some true)) ∧ (decide ((bd d en).bind cond = some true) = true → elt en' = some (((bd d en).bind elt).getD (.leaf .none)))
 | [], ys, h => by cases h; exact ⟨rfl, fun d hd => nomatch hd⟩
 | d :: ds, ys, h => by
  obtain ⟨en', he, h1⟩ := bnd h
  obtain ⟨c, hc, h2⟩ := bnd h1
  have hb : (bd d en).bind cond = some c := by rw [he]; exact hc
  cases c with
  | true =>
   rw [if_pos rfl] at h2
   obtain ⟨y, hy, h3⟩ := bnd h2
   obtain ⟨zs, hz, h4⟩ := Option.map_eq_some_iff.mp h3
   obtain ⟨i1, i2⟩ := Zf1 hz
   have hd : decide ((bd d en).bind cond = some true) = true := decide_eq_true hb
   have hf : ((bd d en).bind elt).getD (.leaf .none) = y := by rw [he]; show (elt en').getD (.leaf .none) = y; rw [hy]; rfl
   refine ⟨?_, fun e he' => ?_⟩
   ·rw [List.filter_cons, if_pos hd, List.map_cons, hf, ← i1, h4]
   ·rcases List.mem_cons.mp he' with rfl | q
    ·exact ⟨en', he, by rw [hd]; exact hc, fun _ => by rw [hf]; exact hy⟩
    ·exact i2 e q
  | false =>
   rw [if_neg Bool.false_ne_true] at h2
   obtain ⟨i1, i2⟩ := Zf1 h2
   have hd : decide ((bd d en).bind cond = some true) = false := decide_eq_false (by rw [hb]; intro z; cases z)
   refine ⟨?_, fun e he' => ?_⟩
   ·rw [List.filter_cons, if_neg (by rw [hd]; exact Bool.false_ne_true), ← i1]
   ·rcases List.mem_cons.mp he' with rfl | q
    ·exact ⟨en', he, by rw [hd]; exact hc, fun z => by rw [hd] at z; cases z⟩
    ·exact i2 e q
theorem ZkI {α β : Type} (P : α → Bool) (F : α → β) : ∀ (ds : List α) (p : Nat → Bool) (f : Nat → β), (∀ i d, ds[i]? = some d → p i = P d ∧ f i = F d) → ((List.range ds.length).filter p).map f = (ds.filter P).map F := by
 intro ds
 induction ds with
 | nil => intro p f h; rfl
 | cons d ds ih =>
  intro p f h
  obtain ⟨h1, h2⟩ := h 0 d rfl
  rw [List.length_cons, List.range_succ_eq_map, List.filter_cons, List.filter_map]
  have := ih (p ∘ Nat.succ) (f ∘ Nat.succ) (fun i e he => h (i + 1) e (by simpa using he))
  cases hp : P d with
  | true => rw [if_pos (by rw [h1, hp]), List.map_cons, List.map_map, this, h2, List.filter_cons, if_pos hp, List.map_cons]
  | false => rw [if_neg (by rw [h1, hp]; decide), List.map_map, this, List.filter_cons, if_neg (by rw [hp]; decide)]
theorem Zra {σ : L2.St} {G : Hp} {J : It} {n : Nat} {Gd : Hp → Prop} {Y : Nat → Hp → V → Hp → Prop} (wk : Walk J n Gd Y) {g : TG} {vs : List Nat} {H1 : Hp} {Q : VK} (gh : Ex G H1) (hn : n ≤ 50000) (hG : ∀ H', Ex H1 H' → Gd H')
  (p : Nat → Bool) (f : Nat → OT)
  (hs : ∀ i x H H', i < n → Ex H1 H → Y i H x H' → Ex H H' ∧ ∀ R : L2.St → Hp → Prop, (∀ σ2, wipe σ2 vs = wipe σ vs → EvB tt σ2 (grow G H H') (p i) → (p i = true → EvO te σ2 (grow G H H') (f i)) → R σ2 H') → g x (wipe σ vs) H' R)
  (q : ∀ D Ts H2, Ex H1 H2 → H1 D = none → H2 D = some (.lst (Ts.map LT.val)) → Ts.map LT.er = ((List.range n).filter p).map f → Own H1 Ts H2 → D ∉ Ts.flatMap LT.ads → Q (.ref D) H2) :
  ∀ D, H1 D = none → ∃ W : Nat → Nat → Hp → Prop, (∃ m, W 0 m (upd H1 D (.lst []))) ∧ ∀ i m H, W i m H →
   (J.stop i H ∧ Q (.ref D) H) ∨ (J.go i H ∧ ∃ Nx : Hp → Prop, (∀ H', Nx H' → ∃ m', m' < m ∧ W (i + 1) m' H') ∧ ∀ x H', J.yld i H x H' → g x (wipe σ vs) H' fun σ2 H2 => wipe σ2 vs = wipe σ vs ∧ tt σ2 H2 fun b H3 =>
    if b = true then te σ2 H3 fun y H4 => ∃ acc, H4 D = some (.lst acc) ∧ acc.length < sizeLine ∧ Nx (upd H4 D (.lst (acc ++ [y]))) else Nx H3) := by
 intro D hD
 refine lc_it wk (Qd := fun H => Q (.ref D) H) (fun i H => Ex H1 H ∧ ∃ Ts, H D = some (.lst (Ts.map LT.val)) ∧ Own H1 Ts H ∧ D ∉ Ts.flatMap LT.ads ∧ Ts.map LT.er = ((List.range i).filter p).map f) ?_ ?_ ?_ ?_
 ·exact ⟨Ex.new hD, [], upd_same, ⟨fun _ h => (nomatch h), List.nodup_nil, fun _ h => (nomatch h)⟩, fun h => (nomatch h), rfl⟩
 ·rintro i H hi ⟨e1, _⟩
  exact hG H e1
 ·rintro i x H H' hi ⟨e1, Ts, hL, ow, hnm, hd⟩ hy
  have hlen : Ts.length ≤ i := by
   have := congrArg List.length hd
   rw [List.length_map, List.length_map] at this
   have h2 := List.length_filter_le p (List.range i)
   rw [List.length_range] at h2
   omega
  obtain ⟨eHH, hs⟩ := hs i x H H' hi e1 hy
  refine hs _ fun σ2 hw hb he => ⟨hw, ?_⟩
  have g2' : Ex (grow G H H') H' := Zg (gh.trans e1) eHH
  have hL' : H' D = some (.lst (Ts.map LT.val)) := eHH _ _ hL
  have e1' : Ex H1 H' := e1.trans eHH
  have ow' := ow.up eHH
  refine hb H' g2' _ fun H3 e3 => ?_
  cases hp : p i with
  | true =>
   refine iteT ?_
   refine he hp H3 (g2'.trans e3) _ fun T H4 e4 hT o4 => ⟨_, e4 _ _ (e3 _ _ hL'), sz_lt (by rw [List.length_map]; omega), ?_⟩
   have o5 := (ow'.up e3).snoc (e1'.trans e3) o4 e4
   have hDn : D ∉ (Ts ++ [T]).flatMap LT.ads := fun h => by
    rw [List.flatMap_append] at h
    rcases List.mem_append.mp h with h | h
    ·exact hnm h
    ·have := o4.fr D h
     rw [e3 _ _ hL'] at this
     cases this
   refine ⟨(e1'.trans (e3.trans e4)).mut hD, Ts ++ [T], by rw [upd_same, List.map_append]; rfl, ⟨fun t ht => ?_, o5.nd, o5.fr⟩, hDn, ?_⟩
   ·refine LT.ok_heap t (fun a ha => ?_) (o5.ok t ht)
    rw [upd_ne fun e => hDn (by rw [← e]; exact List.mem_flatMap.mpr ⟨t, ht, ha⟩)]
   ·rw [List.range_succ, List.filter_append, List.map_append, List.map_append, hd, List.filter_cons, if_pos hp, List.map_cons, List.map_nil, hT]
    rfl
  | false =>
   refine iteF ?_
   refine ⟨e1'.trans e3, Ts, e3 _ _ hL', ow'.up e3, hnm, ?_⟩
   rw [List.range_succ, List.filter_append, List.map_append, hd, List.filter_cons, if_neg (by rw [hp]; decide)]
   simp
 ·rintro H ⟨e1, Ts, hL, ow, hnm, hd⟩
  exact q D Ts H e1 hD hL hd ow hnm
theorem Ztf {wi : TI} {g : TG} {it : DE → Option (List PyData)} {bd : PyData → DE → Option DE} {cond : DE → Option Bool} {elt : FO} {vs js : List Nat} (hi : SI wi it) (hg : SG g bd js) (hjs : ∀ j ∈ js, j ∈ vs) (ht : SB tt cond) (he : ST te elt) :
  ST (tLc wi g tt te vs) (tLcO it bd cond elt vs) := ⟨fun {en σ G T} h e H gh Q q => by
 obtain ⟨ds, hds, e1⟩ := bnd e
 split at e1
 case isFalse => cases e1
 rename_i hlen
 obtain ⟨ys, hys, rfl⟩ := Option.map_eq_some_iff.mp e1
 obtain ⟨hy, hall⟩ := Zf1 hys
 refine hi h hds gh fun J H1 Gd Y e1 wk hGd hY => ?_
 have gh1 := Zg gh e1
 refine Zra (G := grow G H H1) wk gh1 hlen (fun H' e' => hGd H' (gh1.trans e')) (fun i => decide ((bd (ds.getD i .none) (wipeD en vs)).bind cond = some true)) (fun i => ((bd (ds.getD i .none) (wipeD en vs)).bind elt).getD (.leaf .none)) ?_ ?_
 ·intro i x Ha Hb hin e2 hyy
  obtain ⟨eab, dd, hdd, dx⟩ := hY i x Ha Hb (grow G H H1) hin (Ex.refl _) (gh1.trans e2) hyy
  have eg : ds.getD i .none = dd := by rw [List.getD_eq_getElem?_getD, hdd]; rfl
  refine ⟨eab, fun R k => ?_⟩
  rw [eg] at k
  obtain ⟨en', hb1, hb2, hb3⟩ := hall dd (List.mem_of_getElem? hdd)
  have hr : DRel (wipeD en vs) (wipe σ vs) (grow (grow G H H1) Ha Hb) := (h.wipe vs).mono ((Zm gh).trans (Zm (gh1.trans e2)))
  refine hg dx (Zg (gh1.trans e2) eab) hb1 hr fun σ' hr' hw => ?_
  exact k σ' ((hw vs hjs).trans (Zhf vs)) (ht hr' hb2) fun z => he.run hr' (hb3 z)
 ·intro D Ts H2 e2 hD hL hT ow hn
  rw [ZkI (fun d => decide ((bd d (wipeD en vs)).bind cond = some true)) (fun d => ((bd d (wipeD en vs)).bind elt).getD (.leaf .none)) ds _ _ (fun i dd hdi => by rw [List.getD_eq_getElem?_getD, hdi]; exact ⟨rfl, rfl⟩), ← hy] at hT
  refine q (.node .lst D 0 (Ts.map fun T => (Lab.no, T))) H2 (e1.trans e2) ?_ ((Zea (k := .lst) rfl (fun _ => trivial) ow ?_ hD hn).back e1)
  ·rw [LT.er, LT.erL_map, List.map_map, ← hT, List.map_map]
   rfl
  ·rw [hL]
   simp [hoOf, LT.vals, Function.comp_def]⟩
/-- an own thing, all being read -/
noncomputable def nT (t : FO) : FN := fun en => okx en (t (weak en))
theorem Good.own {F G H H2 : Hp} {ls : Ls} {T : LT} (g : Good F G ls H) (e : Ex H H2) (o : Own H [T] H2) : Good F G (some T :: ls) H2 := by
 have gs := g.stay e
 have m1 : ∀ a, a ∈ [T].flatMap LT.ads ↔ a ∈ T.ads := fun a => by simp
 refine ⟨gs.fh, gs.gh, ?_, fun a ha => ?_, fun a ha => ?_, fun t ht => ?_⟩
 ·rw [Zr]
  refine List.nodup_append.mpr ⟨by have := o.nd; show T.ads.Nodup; simpa using this, gs.nd, fun a ha c hc z => ?_⟩
  subst z
  obtain ⟨u, hu⟩ := g.has hc
  rw [o.fr a ((m1 a).mpr ha)] at hu
  cases hu
 ·rw [Zr] at ha
  rcases List.mem_append.mp ha with ha | ha
  ·exact fresh_back g.gh (o.fr a ((m1 a).mpr ha))
  ·exact gs.gn a ha
 ·rw [Zr] at ha
  rcases List.mem_append.mp ha with ha | ha
  ·exact fresh_back g.fh (o.fr a ((m1 a).mpr ha))
  ·exact gs.fn a ha
 ·rcases List.mem_cons.mp ht with z | z
  ·cases z
   exact LT.ok_mono (fun _ _ h => by cases h) T (o.ok T List.mem_cons_self)
  ·exact gs.ok t z
theorem ZmZ (h : ST te t) : SN W te (nT t) := ⟨fun {F G ls H r en'} g e Q k _ => by
 obtain ⟨T0, hT, rfl, rfl⟩ := Zx e
 exact h.run (Zcq g) hT H (Za3 g.gh) _ fun T H2 e2 he o => k T0 rfl T G ls H2 (g.own e2 o) Gx.refl rfl rfl he⟩
noncomputable def OSp (f : List PyData → Option OT) : Sp := fun vs H Q _ => ∃ G ds T0, Ex G H ∧ DtAll G vs ds ∧ f ds = some T0 ∧ ∀ T H2, Ex H H2 → T.er = T0 → Own H [T] H2 → Q T.val H2
noncomputable def tCal (f : List PyData → Option OT) (s : DE → Option (List PyData)) : FO := fun ρ => (s ρ).bind f
theorem Zmd {f : List PyData → Option OT} {s : DE → Option (List PyData)} (ha : SA ta s) : ST (tCall (OSp f) [] E0 ta) (tCal f s) := ⟨fun {en σ G T} h e H gh Q k => by
 obtain ⟨xs, hxs, e⟩ := bnd e
 refine ha h hxs H gh _ fun vs H1 e1 dv => ?_
 rw [List.append_nil]
 exact ⟨_, xs, T, Zg gh e1, dv, e, fun U H2 e2 he o => k U H2 (e1.trans e2) he (o.back e1)⟩⟩
mutual
noncomputable def OT.deep : OT → Bool
 | .leaf d => flatD d
 | .node _ cs => OT.deepL cs
noncomputable def OT.deepL : List (Lab × OT) → Bool
 | [] => true
 | (_, t) :: r => t.deep && OT.deepL r
end
theorem OT.deepL_iff : ∀ {cs : List (Lab × OT)}, OT.deepL cs = true ↔ ∀ x ∈ cs, x.2.deep = true
 | [] => by simp [OT.deepL]
 | (l, t) :: r => by simp [OT.deepL, OT.deepL_iff (cs := r)]
theorem LT.ok_deep {G H : Hp} (t : LT) : t.er.deep = true → t.ok G H → t.ok H0 H := by
 induction t using LT.ind with
 | hl v d => exact fun hf h => Zf5 h hf
 | hn k a dx cs ih =>
  rw [LT.ok_node, LT.ok_node, LT.er, OT.deep, OT.deepL_iff]
  rintro hf ⟨h1, h2, h3⟩
  refine ⟨h1, h2, fun x hx => ih x hx (hf (x.1, x.2.er) ?_) (h3 x hx)⟩
  rw [LT.erL_map]
  exact List.mem_map.mpr ⟨x, hx, rfl⟩
noncomputable def fnO (np n : Nat) (body : FS) (ds : List PyData) : Option OT := if ds.length = np then (match body (start0 n (ds.map OT.leaf)) with
 | some (.rt T, _) => if T.deep = true then some T else none
 | some (.nx, _) => some (.leaf .none)
 | _ => none) else none
theorem ZsD {kp : Nat → Bool} {t : TS} {s : FS} {N : List Str} {np : Nat} {vs : List V} {G H : Hp} {ds : List PyData} {Q : VK} {T0 : OT} (hs : SS kp (fun _ _ _ _ => False) t s) (gh : Ex G H) (dv : DtAll G vs ds) (hd : fnO np N.length s ds = some T0) (q : ∀ T H2, Ex H H2 → T.er = T0 → Own H [T] H2 → Q T.val H2) : t { nx := fun _ H' => Q .non H', rt := Q } (L2.start N vs) H := by
 obtain ⟨_, hd⟩ := Zb1 hd
 obtain ⟨ts, g, rfl, h2, _⟩ := ZcK (Ex.refl H) gh dv
 rw [← Zca]
 rw [← h2, ← Zem] at hd
 cases z : s (ens (startL N.length ts)) with
 | none => rw [z] at hd; cases hd
 | some r =>
  obtain ⟨o, en'⟩ := r
  rw [z] at hd
  refine hs (g.start _) z ?_
  cases o with
  | nx => cases hd; exact fun G' ls' H' E => q (.leaf .non .none) H' E.gd.fh rfl (Zi6 .non)
  | rt T1 =>
   dsimp only at hd
   split at hd
   case isFalse => cases hd
   rename_i hf
   cases hd
   refine fun T G' ls' H' g' gx _ _ hT => q T H' g'.fh hT ⟨fun U hU => ?_, ?_, fun a ha => ?_⟩
   ·simp at hU
    subst hU
    exact LT.ok_deep U (by rw [hT]; exact hf) (g'.ok _ List.mem_cons_self)
   ·have := g'.nd
    rw [Zr] at this
    have := (List.nodup_append.mp this).1
    show ([T].flatMap LT.ads).Nodup
    rw [List.flatMap_cons, List.flatMap_nil, List.append_nil]
    exact this
   ·exact g'.fn a (by rw [Zr]; exact List.mem_append_left _ (by show a ∈ T.ads; simpa using ha))
  | bk => cases hd
  | ct => cases hd
  | ex C => cases hd
end
end Kb
namespace Kb
open PySem L2 Evl
inductive Itm
 | t (T : OT)
 | m (i : Nat)
noncomputable abbrev FM := En → Option (Rx (List Itm) × En)
noncomputable def aNilM : FM := fun en => some (.ok [], en)
noncomputable def aConsM (n : FN) (r : FM) : FM := fun en => bx (n en) fun T e1 => bx (r e1) fun Ts e2 => some (.ok (.t T :: Ts), e2)
noncomputable def aConsV (i : Nat) (r : FM) : FM := fun en => ((en[i]?).join).bind fun _ => bx (r en) fun Ts e2 => some (.ok (.m i :: Ts), e2)
noncomputable def mkIts : List Itm → En → Option (List OT × En)
 | [], en => some ([], en)
 | .t T :: r, en => (mkIts r en).map fun q => (T :: q.1, q.2)
 | .m i :: r, en => ((en[i]?).join).bind fun T => (mkIts r (en.set i none)).map fun q => (T :: q.1, q.2)
inductive Mat (σ : L2.St) : List Itm → List LT → List V → Prop
 | nil : Mat σ [] [] []
 | t {its : List Itm} {Ts : List LT} {vs : List V} {T : LT} {T0 : OT} : T.er = T0 → Mat σ its Ts vs → Mat σ (.t T0 :: its) (T :: Ts) (T.val :: vs)
 | m {its : List Itm} {Ts : List LT} {vs : List V} {i : Nat} {v : V} : σ[i]? = some (some v) → Mat σ its Ts vs → Mat σ (.m i :: its) Ts (v :: vs)
structure SXM (W : WX) (ta : TA) (x : FM) : Prop where
 run : ∀ {F G : Hp} {ls : Ls} {H : Hp} {r : Rx (List Itm)} {en' : En}, Good F G ls H → x (ens ls) = some (r, en') → ∀ {Q : List V → Hp → Prop}, (∀ its, r = .ok its → ∀ (Ts : List LT) (vs : List V) G' ls' H', Good F G' (Ts.map some ++ ls') H' → Gx F G G' → ens ls' = en' → vals ls' = vals ls → Mat (vals ls) its Ts vs → Q vs H') → (∀ C, r = .ex C → XC W F G ls C en') → ta (vals ls) H Q
section
variable {kp : Nat → Bool} {W : WX} {te : TE} {tr : TA} {n : FN} {s : FM}
theorem ZrQ : SXM W tNil aNilM := ⟨fun {F G ls H r en'} g e Q k kx => by
 cases e
 exact k [] rfl [] [] G ls H g Gx.refl rfl rfl .nil⟩
theorem ZqK {i : Nat} (hr : SXM W tr s) : SXM W (tCons (tVar i) tr) (aConsV i s) := ⟨fun {F G ls H r en'} g e Q k kx => by
 obtain ⟨T, hT, e⟩ := bnd e
 obtain ⟨t, ht, _⟩ := Zd8 hT
 have hv : (vals ls)[i]? = some (some t.val) := by unfold vals; rw [List.getElem?_map, ht]; rfl
 refine ⟨_, hv, ?_⟩
 rcases Zn e with ⟨x, e1, h1, h2⟩ | ⟨C, h1, rfl⟩
 ·refine hr.run g h1 (fun its hd Ts vs G1 l1 H1 g1 gx1 he1 hv1 hm => ?_) (fun C hC => nomatch hC)
  cases hd
  cases h2
  exact k _ rfl Ts (t.val :: vs) G1 l1 H1 g1 gx1 he1 hv1 (.m hv hm)
 ·exact hr.run g h1 (fun d hd => nomatch hd) fun C' hC' => kx C' (rxc hC')⟩
theorem ZoY (ha : SN W te n) (hr : SXM W tr s) : SXM W (tCons te tr) (aConsM n s) := ⟨fun {F G ls H r en'} g e Q k kx => by
 rcases Zn e with ⟨x, e1, h1, h2⟩ | ⟨C, h1, rfl⟩
 ·refine ha g h1 (fun d hd T G1 l1 H1 g1 gx1 he1 hv1 hT => ?_) (fun C hC => nomatch hC)
  cases hd
  show tr (vals ls) H1 _
  rw [← hv1]
  rw [← he1] at h2
  have gp : Good F G1 (l1 ++ [some T]) H1 := g1.pick (fun b => by rw [Zj, Zr, List.count_append, List.count_append, Zr, List.count_append]; show _ + (_ + 0) ≤ _; omega) (fun t ht => by
   rcases List.mem_append.mp ht with h | h
   ·exact g1.ok t (List.mem_cons_of_mem _ h)
   ·exact g1.ok t (by simp at h; subst h; exact List.mem_cons_self))
  have gs := gp.split
  rcases Zn h2 with ⟨y, e2, h3, h4⟩ | ⟨C, h3, rfl⟩
  ·refine hr.run gs h3 (fun its hd Ts vs G2 l2 H2 g2 gx2 he2 hv2 hm => ?_) (fun C hC => nomatch hC)
   cases hd
   cases h4
   obtain ⟨g3, gx3⟩ := gp.merge g2 gx2
   rw [hv1] at hm
   refine k _ rfl (T :: Ts) (T.val :: vs) G2 l2 H2 ?_ (gx1.trans gx3) he2 (hv2.trans hv1) (.t hT hm)
   refine g3.pick (fun b => ?_) fun t ht => ?_
   ·rw [Zj, List.map_cons, Zr, Zj (_ ++ _), Zj, Zr]
    simp only [List.count_append]
    have : (adsS []).count b = 0 := rfl
    omega
   ·refine g3.ok t ?_
    rw [List.map_cons, List.cons_append] at ht
    rcases List.mem_cons.mp ht with h | h
    ·rw [h]; exact List.mem_append_right _ List.mem_cons_self
    ·exact List.mem_append_left _ h
  ·refine hr.run gs h3 (fun d hd => nomatch hd) fun C' hC' G' ls' H' E2 => ?_
   obtain ⟨g3, gx3⟩ := gp.merge E2.gd E2.gx
   rw [hv1]
   refine kx C' (rxc hC') G' ls' H' ⟨g3.pick (fun b => by rw [Zj, List.count_append]; omega) fun t ht => g3.ok t (List.mem_append_left _ ht), gx1.trans gx3, E2.en, E2.vs.trans hv1⟩
 ·exact ha g h1 (fun d hd => nomatch hd) fun C' hC' => kx C' (rxc hC')⟩
theorem Zh5 {ls : Ls} {i : Nat} {t : LT} (h : ls[i]? = some (some t)) (b : Addr) : (adsS (ls.set i none)).count b + t.ads.count b = (adsS ls).count b := by
 induction ls generalizing i with
 | nil => simp at h
 | cons o ls ih =>
  cases i with
  | zero =>
   simp at h
   subst h
   rw [List.set_cons_zero, Zr, Zr, List.count_append, List.count_append]
   show 0 + _ + _ = t.ads.count b + _
   omega
  | succ i =>
   simp at h
   have := ih h
   rw [List.set_cons_succ, Zr, Zr, List.count_append, List.count_append]
   omega
theorem ZhV {F G H : Hp} {σ : L2.St} : ∀ {its : List Itm} {Ts : List LT} {vs : List V} {ls : Ls} {A : List LT} {q : List OT × En}, Good F G (A.map some ++ (Ts.map some ++ ls)) H → Mat σ its Ts vs → mkIts its (ens ls) = some q → (∀ (i : Nat) (v : V), (vals ls)[i]? = some (some v) → σ[i]? = some (some v)) →
  ∃ (Us : List LT) (l2 : Ls), Good F G (A.map some ++ (Us.map some ++ l2)) H ∧ Us.map LT.er = q.1 ∧ Us.map LT.val = vs ∧ ens l2 = q.2 ∧ (∀ (i : Nat) (v : V), (vals l2)[i]? = some (some v) → σ[i]? = some (some v)) ∧ l2.length = ls.length ∧ ∀ j : Nat, (∀ i ∈ its.filterMap (fun x => match x with | .m i => some i | _ => none), i ≠ j) → (vals l2)[j]? = (vals ls)[j]?
 | [], _, _, ls, A, q, g, hm, h, hs => by
  cases hm
  cases h
  exact ⟨[], ls, g, rfl, rfl, rfl, hs, rfl, fun _ _ => rfl⟩
 | .t T0 :: its, Ts', vs', ls, A, q, g, hm, h, hs => by
  obtain ⟨T, Ts, vs, rfl, rfl, hT, hm⟩ : ∃ T Ts vs, Ts' = T :: Ts ∧ vs' = T.val :: vs ∧ T.er = T0 ∧ Mat σ its Ts vs := by
   cases hm with
   | t a b => exact ⟨_, _, _, rfl, rfl, a, b⟩
  obtain ⟨q1, hq, rfl⟩ := Option.map_eq_some_iff.mp h
  obtain ⟨Us, l2, g2, h1, h2, h3, h4, h5, h6⟩ := ZhV (A := A ++ [T]) (by rw [List.map_append, List.append_assoc]; exact g) hm hq hs
  refine ⟨T :: Us, l2, by rw [List.map_append, List.append_assoc] at g2; exact g2, by rw [List.map_cons, hT, h1], by rw [List.map_cons, h2], h3, h4, h5, fun j hj => h6 j fun i hi => hj i ?_⟩
  simpa using hi
 | .m i :: its, Ts, vs', ls, A, q, g, hm, h, hs => by
  obtain ⟨v, vs, rfl, hv, hm⟩ : ∃ v vs, vs' = v :: vs ∧ σ[i]? = some (some v) ∧ Mat σ its Ts vs := by
   cases hm with
   | m a b => exact ⟨_, _, rfl, a, b⟩
  obtain ⟨T0, hT0, h⟩ := bnd h
  obtain ⟨q1, hq, rfl⟩ := Option.map_eq_some_iff.mp h
  obtain ⟨t, ht, hte⟩ := Zd8 hT0
  have hvt : t.val = v := by
   have : (vals ls)[i]? = some (some t.val) := by unfold vals; rw [List.getElem?_map, ht]; rfl
   have := (hs i _ this).symm.trans hv
   exact Option.some.inj (Option.some.inj this)
  have g1 : Good F G ((A ++ [t]).map some ++ (Ts.map some ++ ls.set i none)) H := g.pick (fun b => by
   have := Zh5 ht b
   rw [List.map_append]
   simp only [Zj, List.count_append]
   show _ + (t.ads ++ []).count b + _ ≤ _
   rw [List.append_nil]
   omega) fun u hu => by
   refine g.ok u ?_
   rw [List.map_append] at hu
   rcases List.mem_append.mp hu with hu | hu
   ·rcases List.mem_append.mp hu with hu | hu
    ·exact List.mem_append_left _ hu
    ·simp at hu
     subst hu
     exact List.mem_append_right _ (List.mem_append_right _ (List.mem_of_getElem? ht))
   ·rcases List.mem_append.mp hu with hu | hu
    ·exact List.mem_append_right _ (List.mem_append_left _ hu)
    ·rcases List.mem_or_eq_of_mem_set hu with hu | hu
     ·exact List.mem_append_right _ (List.mem_append_right _ hu)
     ·cases hu
  have hsv : vals (ls.set i none) = (vals ls).set i none := by simp [vals, List.map_set]
  obtain ⟨Us, l2, g2, h1, h2, h3, h4, h5, h6⟩ := ZhV (A := A ++ [t]) (q := q1) g1 hm (by rw [show ens (ls.set i none) = (ens ls).set i none by simp [ens, List.map_set]]; exact hq) (fun j w hj => hs j w (by
   rw [hsv, List.getElem?_set] at hj
   split at hj
   ·split at hj <;> cases hj
   ·exact hj))
  refine ⟨t :: Us, l2, by rw [List.map_append, List.append_assoc] at g2; exact g2, by rw [List.map_cons, hte, h1], by rw [List.map_cons, h2, hvt], h3, h4, by rw [h5, List.length_set], fun j hj => ?_⟩
  have hij : i ≠ j := hj i (by simp)
  rw [h6 j fun k hk => hj k (by simp [hk]), hsv, List.getElem?_set_ne hij]
theorem Zkn {F G H : Hp} {Ts : List LT} {ls : Ls} {p : Addr} {k : Kd} (hk : k.own p 0 = [p]) (hdx : ∀ H, k.dxok H p 0) (g : Good F G (Ts.map some ++ ls) H) (hp : H p = none) : Good F G (some (.node k p 0 (Ts.map fun T => (Lab.no, T))) :: ls) (upd H p (hoOf k 0 (LT.vals (Ts.map fun T => (Lab.no, T))))) := by
 have gs := g.stay (Ex.new (o := hoOf k 0 (LT.vals (Ts.map fun T => (Lab.no, T)))) hp)
 have hads : (LT.node k p 0 (Ts.map fun T => (Lab.no, T))).ads = p :: adsS (Ts.map some) := by
  rw [LT.ads, hk]
  show [p] ++ _ = _
  rw [LT.adsL_map, List.flatMap_map]
  unfold adsS
  rw [List.flatMap_map]
  rfl
 have hn : p ∉ adsS (Ts.map some ++ ls) := fun h => by
  obtain ⟨o, ho⟩ := g.has h
  rw [hp] at ho
  cases ho
 have e : adsS (some (.node k p 0 (Ts.map fun T => (Lab.no, T))) :: ls) = p :: adsS (Ts.map some ++ ls) := by
  rw [Zr, Zj]
  show LT.ads _ ++ _ = _
  rw [hads]
  rfl
 refine ⟨gs.fh, gs.gh, ?_, ?_, ?_, ?_⟩
 ·rw [e]
  exact List.nodup_cons.mpr ⟨hn, gs.nd⟩
 ·intro a ha
  rw [e] at ha
  rcases List.mem_cons.mp ha with rfl | h
  ·exact fresh_back g.gh hp
  ·exact gs.gn a h
 ·intro a ha
  rw [e] at ha
  rcases List.mem_cons.mp ha with rfl | h
  ·exact fresh_back g.fh hp
  ·exact gs.fn a h
 ·intro t ht
  rcases List.mem_cons.mp ht with z | z
  ·cases z
   refine LT.ok_node.mpr ⟨upd_same, hdx _, fun x hx => ?_⟩
   obtain ⟨T, hT, rfl⟩ := List.mem_map.mp hx
   exact gs.ok T (List.mem_append_left _ (List.mem_map.mpr ⟨T, hT, rfl⟩))
  ·exact gs.ok t (List.mem_append_right _ z)
noncomputable def keptOk (kp : Nat → Bool) (its : List Itm) : Bool := its.all fun x => match x with
 | .m i => !kp i
 | _ => true
noncomputable def sRetMk (kp : Nat → Bool) (k : Kd) (a : FM) : FS := fun en => bs (a en) fun its e1 => if keptOk kp its = true then (mkIts its e1).bind fun q => if q.1.length ≤ 100000 then some (.rt (.node k (q.1.map fun T => (Lab.no, T))), q.2) else none else none
theorem Zmh {k : Kd} (hk : ∀ p, k.own p 0 = [p]) (hdx : ∀ p H, k.dxok H p 0) {te' : TE} (hte : ∀ σ H (Q : VK), tr σ H (fun xs H1 => xs.length ≤ sizeLine ∧ ∀ p, H1 p = none → Q (.ref p) (upd H1 p (hoOf k 0 (xs.map fun v => (Lab.no, v))))) → te' σ H Q) (ha : SXM W tr s) : SS kp W (tRet te') (sRetMk kp k s) := ⟨fun {F G ls H o en'} g e D kk => by
 rcases Zw e with ⟨its, e1, e2, e3⟩ | ⟨C, e2, rfl⟩
 ·refine hte _ _ _ (ha.run g e2 (fun its' hd Ts vs G1 l1 H1 g1 gx1 he1 hv1 hm => ?_) (fun C hC => nomatch hC))
  cases hd
  split at e3
  case isFalse => cases e3
  rename_i hko
  obtain ⟨q, hq, e4⟩ := bnd e3
  split at e4
  case isFalse => cases e4
  rename_i hl
  cases e4
  rw [← he1] at hq
  obtain ⟨Us, l2, g2, h1, h2, h3, h4, h5, h6⟩ := ZhV (A := []) g1 hm hq (fun i v h => by rw [hv1] at h; exact h)
  have g2 : Good F G1 (Us.map some ++ l2) H1 := g2
  refine ⟨sz_of (by rw [← h2, List.length_map]; rw [← h1, List.length_map] at hl; exact hl), fun p hp => ?_⟩
  have g3 := Zkn (k := k) (hk p) (hdx p) g2 hp
  have := kk (.node k p 0 (Us.map fun T => (Lab.no, T))) G1 l2 _ g3 gx1 h3 ?_ (by rw [LT.er, LT.erL_map, List.map_map, ← h1, List.map_map]; rfl)
  ·have ev : LT.vals (Us.map fun T => (Lab.no, T)) = vs.map fun v => (Lab.no, v) := by
    unfold LT.vals
    rw [List.map_map, ← h2, List.map_map]
    rfl
   rw [ev] at this
   exact this
  ·have hkeep : ∀ i : Nat, kp i = true → (vals l2)[i]? = (vals ls)[i]? := fun i hi => by
    rw [h6 i (fun j hj e => ?_), hv1]
    subst e
    unfold keptOk at hko
    rw [List.all_eq_true] at hko
    obtain ⟨x, hx, hxj⟩ := List.mem_filterMap.mp hj
    cases x with
    | t T => cases hxj
    | m j' =>
     cases hxj
     have := hko _ hx
     simp [hi] at this
   exact ⟨by rw [h5]; have := congrArg List.length hv1; simpa [vals] using this, hkeep⟩
 ·exact hte _ _ _ (ha.run g e2 (fun d hd => nomatch hd) fun C' hC' => by cases hC'; exact kk.xc)⟩
theorem Zq0 (xs : List V) : hoOf .tup 0 (xs.map fun v => (Lab.no, v)) = .tup xs := by simp [hoOf, Function.comp_def]
theorem ZmS (ha : SXM W tr s) : SS kp W (tRet (tTup tr)) (sRetMk kp .tup s) := Zmh (k := .tup) (fun _ => rfl) (fun _ _ => trivial) (fun σ H Q h => by simp only [Zq0] at h; exact h) ha
end
end Kb
namespace Kb
open PySem L2 Evl
noncomputable def sPutP (pl : FP) (w : FW) (xv : FX) : FS := fun en => bs (xv en) fun d e1 => (pl e1).bind fun q => (w (strong e1)).bind fun dj => (asI dj).bind fun j => ((e1[q.1]?).join).bind fun T => (T.sub q.2).bind fun S => match S with
 | .node .lst cs => (L2.ixN cs.length j).map fun n => (.nx, e1.set q.1 (some (T.put q.2 (.node .lst (cs.set n (.no, .leaf d))))))
 | _ => none
end Kb
namespace L2
open PySem PySem.Spec PyProof.Rows
end L2
namespace Kb
open PySem L2 Evl
noncomputable def asQ : PyData → Option (List PyData)
 | .list ds => some ds
 | .tuple ds => some ds
 | _ => none
noncomputable def itQ (a : FW) : DE → Option (List PyData) := fun en => (a en).bind asQ
end Kb
namespace Kb
open PySem L2 Evl
section
variable {kp : Nat → Bool} {K : PySem.W.Frag} {W : WX} {te ti : TE} {ta : TA} {s : FA} {n : FN} {xi : FX}
noncomputable def nCallO (f : List PyData → Option OT) (a : FA) : FN := fun en => bx (a en) fun xs e1 => okx e1 (f xs)
noncomputable def nCallXO (f : List PyData → Option (Rx OT)) (a : FA) : FN := fun en => bx (a en) fun xs e1 => (f xs).map fun r => (r, e1)
/-- n[j], n a new tuple of one's own: the other parts are left behind -/
noncomputable def nIxT (n : FN) (j : Nat) : FN := fun en => bx (n en) fun T e1 => match T with
 | .node .tup cs => okx e1 ((cs[j]?).map Prod.snd)
 | _ => none
/-- i.insert(j, n), n a new thing of one's own -/
noncomputable def sInsN (i : Nat) (xj : FX) (n : FN) : FS := fun en => (lstAt en i).bind fun _ => bs (xj en) fun j e1 => bs (n e1) fun T e2 => (lstAt e2 i).bind fun cs => (asI j).bind fun j => if 0 ≤ j ∧ j ≤ 100000 ∧ lenOk cs = true then some (.nx, e2.set i (some (.node .lst ((cs.take j.toNat ++ [(.no, T)] ++ cs.drop j.toNat))))) else none
end
end Kb
namespace Kb
open PySem L2 Evl
section
variable {α β : Type}
noncomputable def wvM : List Bool → List α → List α → List α
 | true :: m, a :: A, B => a :: wvM m A B
 | false :: m, A, b :: B => b :: wvM m A B
 | _, _, _ => []
noncomputable def uoM : List Bool → List α → List α
 | true :: m, x :: xs => x :: uoM m xs
 | false :: m, _ :: xs => uoM m xs
 | _, _ => []
noncomputable def utM : List Bool → List α → List α
 | true :: m, _ :: xs => utM m xs
 | false :: m, x :: xs => x :: utM m xs
 | _, _ => []
end
noncomputable def prm (m : List Bool) (fd : FD) : FD := fun as => if as.length = m.length then (fd (wvM m (as.take (m.count true)) (as.drop (m.count true)))).map fun q => (q.1, uoM m q.2 ++ utM m q.2) else none
inductive DtM (G : Hp) (σ : L2.St) : List (Option Nat) → List V → List PyData → Prop
 | nil : DtM G σ [] [] []
 | own {i : Nat} {v : V} {ms : List (Option Nat)} {vs : List V} {ds : List PyData} : σ[i]? = some (some v) → DtM G σ ms vs ds → DtM G σ (some i :: ms) (v :: vs) ds
 | dat {v : V} {d : PyData} {ms : List (Option Nat)} {vs : List V} {ds : List PyData} : Dt G v d → DtM G σ ms vs ds → DtM G σ (none :: ms) (v :: vs) (d :: ds)
theorem DtM.up {G G' : Hp} {σ : L2.St} (e : Ex G G') {ms : List (Option Nat)} {vs : List V} {ds : List PyData} (h : DtM G σ ms vs ds) : DtM G' σ ms vs ds := by
 induction h with
 | nil => exact .nil
 | own h _ ih => exact .own h ih
 | dat h _ ih => exact .dat (h.up e) ih
noncomputable def aOwn (i : Nat) (s : FA) : FA := fun en => ((en[i]?).join).bind fun _ => s en
end Kb
namespace Kb
open PySem L2 Evl
noncomputable def sAsgMv (i j : Nat) : FS := fun en => ((en[j]?).join).map fun T => (.nx, (en.set j none).set i (some (.node .lst [(Lab.no, T)])))
noncomputable def cInt : List PyData → Option PyData
 | [.int i] => some (.int i)
 | [.bool b] => some (.int (if b then 1 else 0))
 | _ => none
theorem ZrT : CbF (fun xs H Q => (∃ i, xs = [.int i] ∧ Q (.int i) H) ∨ ∃ k, xs = [.bl k] ∧ Q (.int (if k then 1 else 0)) H) cInt := ⟨fun {xs G ds d} dx e H gh Q q => by
 unfold cInt at e
 split at e
 case h_3 => cases e
 ·cases e
  obtain ⟨v, rfl, dv⟩ := dx.one
  cases dv
  exact .inl ⟨_, rfl, q _ H (Ex.refl _) (ZV fun _ z => nomatch z) (.int _)⟩
 ·cases e
  obtain ⟨v, rfl, dv⟩ := dx.one
  cases dv
  exact .inr ⟨_, rfl, q _ H (Ex.refl _) (ZV fun _ z => nomatch z) (.int _)⟩⟩
end Kb
namespace Kb
open PySem L2 Evl
noncomputable def noF (m : Str) : List (Lab × OT) → Bool
 | [] => true
 | (l, _) :: r => if m = l.f then false else noF m r
noncomputable def insNo (en : En) (i : Nat) (C : Addr) (m : Str) : Bool := match en[i]? with
 | some (some (.node (.ins C') cs)) => decide (C' = C) && noF m cs
 | _ => false
/-- slot i holds an own instance of C that has no field m -/
noncomputable def nAsk (C : Addr) (m : Str) (i : Nat) (n : FN) : FN := fun en => if insNo en i C m = true then n en else none
theorem Zir {m : Str} : ∀ {cs : List (Lab × LT)}, noF m (LT.erL cs) = true → ((LT.vals cs).map fun x => (x.1.f, x.2)).lookup m = none
 | [], _ => rfl
 | (l, t) :: r, h => by
  rw [LT.erL] at h
  unfold noF at h
  split at h
  ·cases h
  ·rename_i hne
   show (((l.f, t.val) :: ((LT.vals r).map fun x => (x.1.f, x.2)))).lookup m = none
   rw [ZhL, if_neg hne]
   exact Zir h
theorem ZfS {F G H : Hp} {ls : Ls} {i : Nat} {C : Addr} {m : Str} (g : Good F G ls H) (h : insNo (ens ls) i C m = true) : ∃ a dx fs, (vals ls)[i]? = some (some (.ref a)) ∧ H a = some (.ins C dx fs) ∧ fs.lookup m = none := by
 unfold insNo at h
 split at h
 case h_2 => cases h
 rename_i C' cs0 he
 rw [Bool.and_eq_true] at h
 obtain ⟨h1, h2⟩ := h
 have h1 := of_decide_eq_true h1
 subst h1
 obtain ⟨a, dx, cs, hl, rfl, hv⟩ := Ziq he
 exact ⟨a, dx, _, hv, (g.node_at hl).1, Zir h2⟩
section
variable {W : WX} {ta : TA} {fd : FD} {C : Addr} {m : Str} {i : Nat} {n : FN}
theorem ZaE (h : SN W (tCallS (ISp fd) (WE W) (tCons (tVar i) ta)) n) : SN W (tMthX C m (ISp fd) (WE W) (tVar i) ta) (nAsk C m i n) := ⟨fun {F G ls H r en'} g e Q k kx => by
 unfold nAsk at e
 split at e
 case isFalse => cases e
 rename_i hz
 obtain ⟨a, dx, fs, hv, ha, hm⟩ := ZfS g hz
 obtain ⟨v, h1, h2⟩ := h.run g e k kx
 rw [hv] at h1
 cases h1
 exact ⟨_, hv, a, dx, fs, rfl, ha, hm, h2⟩⟩
theorem Ze0 (h : SN W (tCall (ISp fd) [] E0 (tCons (tVar i) ta)) n) : SN W (tMeth C m (ISp fd) [] E0 (tVar i) ta) (nAsk C m i n) := ⟨fun {F G ls H r en'} g e Q k kx => by
 unfold nAsk at e
 split at e
 case isFalse => cases e
 rename_i hz
 obtain ⟨a, dx, fs, hv, ha, hm⟩ := ZfS g hz
 obtain ⟨v, h1, h2⟩ := h.run g e k kx
 rw [hv] at h1
 cases h1
 exact ⟨_, hv, a, dx, fs, rfl, ha, hm, h2⟩⟩
end
noncomputable def xP (pl : FP) : FX := fun en => (pl en).bind fun q => (subE en q.1 q.2).bind fun S => (leafD S).map fun d => (.ok d, en)
theorem ZdS {s : LT} {d : PyData} (h : s.er = .leaf d) : ∃ v, s = .leaf v d := by
 cases s with
 | leaf v d' => cases h; exact ⟨v, rfl⟩
 | node k a dx cs => rw [LT.er] at h; cases h
theorem ZeX {W : WX} {te : TE} {pl : FP} (hp : SP te pl) : SX W te (xP pl) := ⟨fun {F G ls H r en'} g e Q k _ => by
 obtain ⟨⟨i, p⟩, h1, e1⟩ := bnd e
 obtain ⟨S, h2, e2⟩ := bnd e1
 obtain ⟨d, h3, e3⟩ := Option.map_eq_some_iff.mp e2
 cases e3
 obtain ⟨t, s, q1, q2, q3⟩ := Zao h2
 rw [Zc7 h3] at q3
 obtain ⟨v, rfl⟩ := ZdS q3
 refine hp.run g h1 fun t' s' H1 x1 r1 r2 => ?_
 rw [q1] at r1
 cases r1
 rw [q2] at r2
 cases r2
 exact k d rfl v G ls H1 ⟨g.stay x1, Gx.refl, rfl, rfl⟩ (LT.sub_ok q2 (g.ok _ (List.mem_of_getElem? q1)))⟩
noncomputable def dctAt (en : En) (i : Nat) : Option (List (Lab × OT)) := match en[i]? with
 | some (some (.node .dct cs)) => some cs
 | _ => none
/-- d[e], d one's own in a slot -/
noncomputable def xDGetV (i : Nat) (x : FX) : FX := fun en => (dctAt en i).bind fun _ => bx (x en) fun dk e1 => (keyOf dk).bind fun k => (dctAt e1 i).bind fun cs => (idxK k cs).bind fun n => (cs[n]?).bind fun c => (leafD c.2).map fun d => (.ok d, e1)
/-- place[e] = x, x told -/
noncomputable def sDPutX (pl : FP) (w : FW) (x : FX) : FS := fun en => bs (x en) fun d e1 => (pl e1).bind fun q => (w (strong e1)).bind fun dk => (keyOf dk).bind fun kk => ((e1[q.1]?).join).bind fun T => (T.sub q.2).bind fun S => match S with
 | .node .dct cs => if cs.length < 100000 then some (.nx, e1.set q.1 (some (T.put q.2 (.node .dct (putKT kk d cs))))) else none
 | _ => none
section
variable {K : PySem.W.Frag} {kp : Nat → Bool} {W : WX} {te ta tv : TE} {w : FW} {x : FX} {pl : FP}
/-- place.pop(e), what it tells is dropped -/
noncomputable def dropKT {α : Type} (k : Key) (cs : List (Lab × α)) : List (Lab × α) := cs.filter fun x => decide (x.1.k ≠ k)
noncomputable def sDPopP (pl : FP) (w : FW) : FS := fun en => (pl en).bind fun q => (w (strong en)).bind fun dk => (keyOf dk).bind fun kk => ((en[q.1]?).join).bind fun T => (T.sub q.2).bind fun S => match S with
 | .node .dct cs => (idxK kk cs).map fun _ => (.nx, en.set q.1 (some (T.put q.2 (.node .dct (dropKT kk cs)))))
 | _ => none
/-- dict(place), all its values told -/
noncomputable abbrev rDictD : List V → Hp → VK → Prop := fun xs H Q => ∃ (a : Addr) (kvs : List (Key × V)), xs = [.ref a] ∧ Rd H a (.dK kvs) ∧ ∀ p, H p = none → Q (.ref p) (upd H p (.dK kvs))
noncomputable def allLeaf (cs : List (Lab × OT)) : Bool := cs.all fun x => (leafD x.2).isSome
noncomputable def nDctC (pl : FP) : FN := fun en => (pl en).bind fun q => (subE en q.1 q.2).bind fun S => match S with
 | .node .dct cs => if allLeaf cs = true then some (.ok (.node .dct cs), en) else none
 | _ => none
theorem Zdh : ∀ {cs : List (Lab × LT)}, allLeaf (LT.erL cs) = true → LT.adsL cs = []
 | [], _ => rfl
 | (l, t) :: r, h => by
  rw [LT.erL] at h
  have h : ((leafD t.er).isSome && allLeaf (LT.erL r)) = true := h
  rw [Bool.and_eq_true] at h
  obtain ⟨h1, h2⟩ := h
  cases t with
  | leaf v d => rw [LT.adsL, Zdh h2]; rfl
  | node k a dx cs => rw [LT.er] at h1; cases h1
theorem Zhd (hp : SP ta pl) : SN W (tCB rDictD (tCons ta tNil)) (nDctC pl) := ⟨fun {F G ls H r en'} g e Q k kx => by
 obtain ⟨⟨i, p⟩, h1, e1⟩ := bnd e
 obtain ⟨S, h2, e2⟩ := bnd e1
 split at e2
 case h_2 => cases e2
 rename_i cs
 split at e2
 case isFalse => cases e2
 rename_i hl
 cases e2
 obtain ⟨t, s, q1, q2, q3⟩ := Zao h2
 obtain ⟨a, dx, c, rfl, q4⟩ := Z3 q3
 refine hp.run g h1 fun t' s' H1 x1 r1 r2 => ?_
 rw [q1] at r1
 cases r1
 rw [q2] at r2
 cases r2
 have g1 := g.stay x1
 obtain ⟨z1, z2⟩ := g1.at_sub q1 q2
 rw [ZdY] at z1
 refine ⟨a, _, rfl, .of z1, fun p hp => ?_⟩
 have ha : LT.adsL c = [] := Zdh (by rw [q4]; exact hl)
 have g2 := g1.stay (Ex.new (o := HO.dK ((LT.vals c).map fun x => (x.1.k, x.2))) hp)
 refine k _ rfl (.node .dct p 0 c) G ls _ (ZaJ g2 rfl trivial ?_ (fresh_back g1.gh hp) (fresh_back g1.fh hp) (fun h => ?_) (fun y hy => ?_) ha) Gx.refl rfl rfl ?_
 ·rw [upd_same, ZdY]
 ·obtain ⟨o, ho⟩ := g1.has h
  rw [hp] at ho
  cases ho
 ·exact LT.ok_heap y.2 (fun b hb => by
   have : b ∈ LT.adsL c := by rw [LT.adsL_map]; exact List.mem_flatMap.mpr ⟨y, hy, hb⟩
   rw [ha] at this
   exact nomatch this) (z2 y hy)
 ·rw [LT.er, q4]⟩
end
end Kb
namespace Kb
open PySem L2 Evl PySem.Spec PyProof.Rows
theorem Zej : ∀ a b : List Nat, ltCps a b = decide (a < b)
 | [], [] => by simp [ltCps]
 | [], b :: t => by simp [ltCps]
 | a :: r, [] => by simp [ltCps]
 | a :: r, b :: t => by
  rw [ltCps, Zej r t]
  rw [Bool.eq_iff_iff]
  simp [List.cons_lt_cons_iff]
noncomputable abbrev leS (a b : Str) : Prop := a.cps.toList ≤ b.cps.toList
theorem Zhw {a b c : Str} (h1 : leS a b) (h2 : leS b c) : leS a c := List.le_trans h1 h2
theorem Zm7 {a b : Str} (h1 : leS a b) (h2 : leS b a) : a = b := by
 have := List.le_antisymm h1 h2
 cases a; cases b
 simp at this
 simp [this]
theorem ZgE : ∀ (p : Str) (ss : List Str), risingS p ss = true ↔ (p :: ss).Pairwise leS
 | p, [] => by simp [risingS]
 | p, x :: r => by
  rw [risingS, Bool.and_eq_true, ZgE x r, Zej, List.pairwise_cons (a := p)]
  constructor
  ·rintro ⟨h1, h2⟩
   have h1 : leS p x := by simpa using h1
   refine ⟨fun y hy => ?_, h2⟩
   rcases List.mem_cons.mp hy with rfl | hy
   ·exact h1
   ·exact Zhw h1 ((List.pairwise_cons.mp h2).1 y hy)
  ·rintro ⟨h1, h2⟩
   exact ⟨by have : leS p x := h1 x List.mem_cons_self
             simpa using this, h2⟩
theorem Zjv (ss : List Str) : sortedS ss = true ↔ ss.Pairwise leS := by
 cases ss with
 | nil => simp [sortedS]
 | cons x r => exact ZgE x r
noncomputable def insS (x : Str) : List Str → List Str
 | [] => [x]
 | y :: r => if ltCps y.cps.toList x.cps.toList = true then y :: insS x r else x :: y :: r
noncomputable def srtS : List Str → List Str
 | [] => []
 | x :: r => insS x (srtS r)
theorem ZeB (x : Str) : ∀ l, (insS x l).Perm (x :: l)
 | [] => .refl _
 | y :: r => by
  unfold insS
  split
  ·exact ((ZeB x r).cons y).trans (List.Perm.swap _ _ _)
  ·exact .refl _
theorem Zey : ∀ l, (srtS l).Perm l
 | [] => .refl _
 | x :: r => (ZeB x _).trans ((Zey r).cons x)
theorem ZjG (x : Str) : ∀ l : List Str, l.Pairwise leS → (insS x l).Pairwise leS
 | [], _ => by simp [insS]
 | y :: r, h => by
  obtain ⟨h1, h2⟩ := List.pairwise_cons.mp h
  unfold insS
  split
  ·rename_i hl
   rw [Zej] at hl
   have hl : y.cps.toList < x.cps.toList := of_decide_eq_true hl
   refine List.pairwise_cons.mpr ⟨fun z hz => ?_, ZjG x r h2⟩
   rcases List.mem_cons.mp ((ZeB x r).mem_iff.mp hz) with rfl | hz
   ·exact List.le_of_lt hl
   ·exact h1 z hz
  ·rename_i hl
   rw [Zej] at hl
   have hl : leS x y := by simpa using hl
   refine List.pairwise_cons.mpr ⟨fun z hz => ?_, h⟩
   rcases List.mem_cons.mp hz with rfl | hz
   ·exact hl
   ·exact Zhw hl (h1 z hz)
theorem Zke : ∀ l, (srtS l).Pairwise leS
 | [] => .nil
 | x :: r => ZjG x _ (Zke r)
theorem ZkV {ys ks : List Str} (h : ys.Perm ks) (hs : sortedS ys = true) : ys = srtS ks := by
 have h1 := (Zjv ys).mp hs
 have h2 := Zke ks
 exact List.Perm.eq_of_pairwise (fun a b _ _ h1 h2 => Zm7 h1 h2) h1 h2 (h.trans (Zey ks).symm)
section
variable {K : PySem.W.Frag} {W : WX} {ta tb : TE} {a b : FW}
noncomputable def keysS : List (PyData × PyData) → Option (List Str)
 | [] => some []
 | (.str s, _) :: r => (keysS r).map (s :: ·)
 | _ => none
noncomputable def keysI : List (PyData × PyData) → Option (List Int)
 | [] => some []
 | (.int s, _) :: r => (keysI r).map (s :: ·)
 | _ => none
theorem Zh9 {G : Hp} : ∀ {kvs : List (Key × V)} {ds : List PyData} {ks : List Str}, DtAll G (kvs.map (·.2)) ds → keysS ((kvs.map fun kv => keyD kv.1).zip ds) = some ks → kvs.map (·.1) = ks.map Sum.inr
 | [], ds, ks, _, h => by
  have h : keysS [] = some ks := h
  cases h
  rfl
 | (k, v) :: kvs, ds, ks, h0, h => by
  obtain ⟨e, ds', rfl, hv, hr⟩ : ∃ e ds', ds = e :: ds' ∧ Dt G v e ∧ DtAll G (kvs.map (·.2)) ds' := by
   cases h0 with
   | cons h1 h2 => exact ⟨_, _, rfl, h1, h2⟩
  rw [List.map_cons, List.zip_cons_cons] at h
  cases k with
  | inl i => cases h
  | inr s =>
   obtain ⟨r, hr2, rfl⟩ := Option.map_eq_some_iff.mp h
   rw [List.map_cons, List.map_cons, Zh9 hr hr2]
theorem Zid {G : Hp} : ∀ {kvs : List (Key × V)} {ds : List PyData} {ks : List Int}, DtAll G (kvs.map (·.2)) ds → keysI ((kvs.map fun kv => keyD kv.1).zip ds) = some ks → kvs.map (·.1) = ks.map Sum.inl
 | [], ds, ks, _, h => by
  have h : keysI [] = some ks := h
  cases h
  rfl
 | (k, v) :: kvs, ds, ks, h0, h => by
  obtain ⟨e, ds', rfl, hv, hr⟩ : ∃ e ds', ds = e :: ds' ∧ Dt G v e ∧ DtAll G (kvs.map (·.2)) ds' := by
   cases h0 with
   | cons h1 h2 => exact ⟨_, _, rfl, h1, h2⟩
  rw [List.map_cons, List.zip_cons_cons] at h
  cases k with
  | inr i => cases h
  | inl s =>
   obtain ⟨r, hr2, rfl⟩ := Option.map_eq_some_iff.mp h
   rw [List.map_cons, List.map_cons, Zid hr hr2]
/-- sorted(d) -/
noncomputable def cSortDS : List PyData → Option PyData
 | [.dict kd] => if isDct kd = true then (keysS kd).bind fun ks => if ks.length < 64 then some (dLS (srtS ks)) else none else none
 | _ => none
noncomputable def cSortDI : List PyData → Option PyData
 | [.dict kd] => if isDct kd = true then (keysI kd).bind fun ks => if ks.length < 64 then some (dLI (srt ks)) else none else none
 | _ => none
noncomputable abbrev rSortedDS : List V → Hp → VK → Prop := fun xs H Q => ∃ (a : Addr) (kvs : List (Key × V)) (ks : List Str), xs = [.ref a] ∧ Rd H a (.dK kvs) ∧ kvs.map (·.1) = ks.map Sum.inr ∧ ks.length < 64 ∧
  ∀ ys p, ys.Perm ks → sortedS ys = true → H p = none → Q (.ref p) (upd H p (.lst (ys.map V.str)))
noncomputable abbrev rSortedDI : List V → Hp → VK → Prop := fun xs H Q => ∃ (a : Addr) (kvs : List (Key × V)) (ks : List Int), xs = [.ref a] ∧ Rd H a (.dK kvs) ∧ kvs.map (·.1) = ks.map Sum.inl ∧ ks.length < 64 ∧
  ∀ (ys : List Int) (p : Addr), ys.Perm ks → ys.Pairwise (· ≤ ·) → H p = none → Q (.ref p) (upd H p (.lst (ys.map V.int)))
theorem Zhp : CbF rSortedDS cSortDS := ⟨fun {xs G ds d} dx e H gh Q q => by
 unfold cSortDS at e
 split at e
 case h_2 => cases e
 rename_i kd
 split at e
 case isFalse => cases e
 rename_i hd
 obtain ⟨ks, hk, e⟩ := bnd e
 split at e
 case isFalse => cases e
 rename_i hl
 cases e
 obtain ⟨v, rfl, dv⟩ := dx.one
 obtain ⟨p, kvs, es, rfl, hp, r, rfl⟩ := dv.dctOf hd
 refine ⟨p, kvs, ks, rfl, .of (gh _ _ hp), Zh9 r hk, hl, fun ys z hy hs hz => ?_⟩
 rw [ZkV hy hs]
 exact q _ _ (Ex.new hz) (Zd1 hz) (Zfl hz gh (ZjO _))⟩
theorem Zhe : CbF rSortedDI cSortDI := ⟨fun {xs G ds d} dx e H gh Q q => by
 unfold cSortDI at e
 split at e
 case h_2 => cases e
 rename_i kd
 split at e
 case isFalse => cases e
 rename_i hd
 obtain ⟨ks, hk, e⟩ := bnd e
 split at e
 case isFalse => cases e
 rename_i hl
 cases e
 obtain ⟨v, rfl, dv⟩ := dx.one
 obtain ⟨p, kvs, es, rfl, hp, r, rfl⟩ := dv.dctOf hd
 refine ⟨p, kvs, ks, rfl, .of (gh _ _ hp), Zid r hk, hl, fun ys z hy hs hz => ?_⟩
 have : ys = srt ks := List.Perm.eq_of_pairwise (fun a b _ _ h1 h2 => Int.le_antisymm h1 h2) hs (Zq5 ks) (hy.trans (ZiO ks).symm)
 rw [this]
 exact q _ _ (Ex.new hz) (Zd1 hz) (Zfl hz gh (Zg7 _))⟩
noncomputable abbrev FOi := En → Option (Rx (Option Int) × En)
noncomputable def xpNo : FOi := fun en => some (.ok none, en)
noncomputable def xpSo (x : FX) : FOi := fun en => bx (x en) fun d e1 => okx e1 ((asI d).map some)
noncomputable def xSl (o : PyData → Option Int → Option Int → Option PyData) (a : FX) (l h : FOi) : FX := fun en => bx (a en) fun x e1 => bx (l e1) fun i e2 => bx (h e2) fun j e3 => okx e3 (o x i j)
end
end Kb
namespace Kb
open PySem L2 Evl
structure EBs (K : PySem.W.Frag) (mg : Str → Option Value) (B : Addr) (cs : List Addr) : Prop where
 all : ∀ C ∈ cs, (∃ x, EB K mg B x C) ∧ C ≠ B
theorem EBs.nil {K : PySem.W.Frag} {mg : Str → Option Value} {B : Addr} : EBs K mg B [] := ⟨fun _ h => nomatch h⟩
theorem EBs.cons {K : PySem.W.Frag} {mg : Str → Option Value} {B C : Addr} {cs : List Addr} {x : Str} (e : EB K mg B x C) (h : C ≠ B) (r : EBs K mg B cs) : EBs K mg B (C :: cs) := ⟨fun D hD => by
 rcases List.mem_cons.mp hD with rfl | hD
 ·exact ⟨⟨x, e⟩, h⟩
 ·exact r.all D hD⟩
/-- expressions behind 'as e', e in slot i -/
structure SWH (i : Nat) (te : Addr → TE) (w : FW) : Prop where
 run : ∀ {a : Addr} {en : DE} {σ : L2.St} {G : Hp} {d : PyData}, i < σ.length → DRel en σ G → w en = some d → EvX (te a) (σ.set i (some (.ref a))) G d
structure TAb (i : Nat) (ta : Addr → TA) (bs : List Bool) : Prop where
 run : ∀ {a : Addr} {σ : L2.St} {H : Hp} {Q : List V → Hp → Prop}, i < σ.length → Q (bs.map V.bl) H → ta a (σ.set i (some (.ref a))) H Q
section
variable {K : PySem.W.Frag} {mg : Str → Option Value} {W : WX} {kp : Nat → Bool} {i j : Nat} {te tf : Addr → TE} {ta : Addr → TA} {w v : FW} {bs : List Bool} {B C D : Addr} {x y : Str}
theorem ZpL : TAb i (fun _ => tNil) [] := ⟨fun _ q => q⟩
theorem ZkY (e : EB K mg B x D) (f : EB K mg B y C) (hB : C ≠ B) (h : TAb i ta bs) : TAb i (fun a => tCons (tCB (rIsEG K (.ref D) none a) (tCons (tVar i) (tCons (tC (.ref C)) tNil))) (ta a)) (decide (D = C) :: bs) := ⟨fun {a σ H Q} hi q =>
 ⟨_, List.getElem?_set_self hi, D, rfl, rfl, e.exc, .ref C, .ref C, decide (D = C), rfl, fun u hu => by cases hu; rfl, e.kit f hB, h.run hi q⟩⟩
theorem ZmL (h : TAb i ta bs) : TAb i (fun a => tCons (tC (.bl true)) (ta a)) (true :: bs) := ⟨fun {a σ H Q} hi q => h.run hi q⟩
theorem ZpY (h : TAb i ta bs) (hl : bs.length ≤ 100 := by simp) : SWH i (fun a => tLst (ta a)) (wC (dLB bs)) := ⟨fun {a en σ G d} hi r e H gh Q q => by
 cases e
 refine h.run hi ⟨by rw [List.length_map, sizeLine_eq]; omega, fun p hp => q _ _ (Ex.new hp) (Zfl hp gh (Zlo _))⟩⟩
theorem ZlX {t : TE} (h : SW t w) (hc : ∀ σ (o : Option V) H Q, t (σ.set i o) H Q = t σ H Q := by intros; rfl) : SWH i (fun _ => t) w := ⟨fun {a en σ G d} hi r e H gh Q q => by
 rw [hc]
 exact h r e H gh Q q⟩
theorem Zqm {r : R2} {o : PyData → PyData → Option PyData} (ho : OpOk r o) (ha : SWH i te w) (hb : SWH i tf v) : SWH i (fun a => tOp r (te a) (tf a)) (wOp o w v) := ⟨fun {a en σ G d} hi h e H gh Q k => by
 obtain ⟨x, hx, e⟩ := bnd e
 obtain ⟨y, hy, e⟩ := bnd e
 exact ha.run hi h hx H gh _ fun v1 H1 e1 d1 => hb.run hi h hy H1 (gh.trans e1) _ fun v2 H2 e2 d2 =>
  ho (d1.up (ZgP e2)) (d2.up (by
   have : Ex (grow G H1 H2) (grow G H H2) := fun b o h => by
    cases z : H b with
    | none =>
     rw [Zv z]
     cases z1 : H1 b with
     | none => rw [Zv z1] at h; exact h
     | some u => rw [Zo z1] at h; rw [gh b o h] at z; cases z
    | some u =>
     rw [Zo z]
     rw [Zo (e1 b u z)] at h
     exact h
   exact this)) e (Zg gh (e1.trans e2)) fun z H3 e3 dz => k z H3 ((e1.trans e2).trans e3) (dz.up (ZU (e1.trans e2) e3))⟩
/-- marks.index(True) -/
noncomputable def oIdxT : PyData → Option PyData
 | .list ds => (asLB ds).bind fun bs => if true ∈ bs then some (.int (bs.idxOf true : Nat)) else none
 | _ => none
theorem Zlp (h : SWH i te w) : SWH i (fun a => tBM K "list" (rIndex K) (te a) (tCons (tC (.bl true)) tNil)) (wUn oIdxT w) := ⟨fun {a en σ G d} hi r e => by
 obtain ⟨x, hx, e⟩ := bnd e
 unfold oIdxT at e
 split at e
 case h_2 => cases e
 obtain ⟨bs, hb, e2⟩ := bnd e
 obtain rfl := Zg5 hb
 split at e2
 case isFalse => cases e2
 rename_i hm
 cases e2
 have hlt := List.idxOf_lt_length_iff.mpr hm
 refine Zlw (h.run hi r hx) Ztq ?_ fun m hlm => ?_
 ·rw [List.getElem?_eq_getElem hlt, List.getElem_idxOf hlt]
 ·have hml : m < bs.length := by omega
  rw [List.getElem?_eq_getElem hml]
  cases hbm : bs[m] with
  | false => rfl
  | true =>
   exfalso
   have := List.not_of_lt_findIdx (p := (· == true)) (xs := bs) (i := m) hlm
   simp [hbm] at this⟩
/-- the suite behind 'as e' -/
structure HS (kp : Nat → Bool) (W : WX) (i : Nat) (ts : Addr → TS) (s : FS) : Prop where
 run : ∀ {a : Addr} {F G : Hp} {ls : Ls} {H : Hp} {o : Ot} {en' : En}, i < ls.length → Good F G ls H → s (ens ls) = some (o, en') → ∀ {D : Ends}, Post kp W F G ls { D with nx := fun σ H' => D.nx (σ.set i (some (.ref a))) H' } o en' → ts a D ((vals ls).set i (some (.ref a))) H
theorem Zrt (hj : kp j = false) (hij : j ≠ i) (h : SWH i te w) : HS kp W i (fun a => tAsg (te a) (gName j)) (sAsg j (xS w)) := ⟨fun {a F G ls H o en'} hi g e D k => by
 rcases Zw e with ⟨d, e1, h1, h2⟩ | ⟨C, h1, rfl⟩
 ·cases h2
  obtain ⟨d', hd, hr, rfl⟩ := Zx h1
  cases hr
  refine h.run (by rw [Zu]; exact hi) (Zae g) hd H g.gh _ fun x H1 x1 dx => ?_
  obtain ⟨g1, gx1⟩ := g.grow x1
  have k2 := k _ (ls.set j (some (.leaf x d))) H1 ⟨(ZaL g1 dx).set j, gx1, by rw [ZaG]; rfl, Kept.set hj⟩
  rw [ZaC] at k2
  show D.nx (((vals ls).set i (some (.ref a))).set j (some x)) H1
  rw [List.set_comm _ _ (fun h => hij h.symm)]
  exact k2
 ·obtain ⟨d', hd, hr, _⟩ := Zx h1
  cases hr⟩
noncomputable def noneAt (en : En) (i : Nat) : Bool := match en[i]? with
 | some none => true
 | _ => false
theorem Zhv {en : En} {i : Nat} (h : noneAt en i = true) : en[i]? = some none := by
 unfold noneAt at h
 split at h
 ·assumption
 ·cases h
noncomputable def sTryAs (i : Nat) (cs : List Addr) (body : FS) (hs : Addr → FS) : FS := fun en => match body en with
 | some (.ex C, e1) => if C ∈ cs ∧ noneAt e1 i = true then (match hs C e1 with
   | some (.nx, e2) => if noneAt e2 i = true then some (.nx, e2) else none
   | some (.rt T, e2) => some (.rt T, e2)
   | _ => none) else none
 | r => r
theorem Zj2 {ls : Ls} (h : (ens ls)[i]? = some none) : i < ls.length ∧ (vals ls).set i none = vals ls := by
 have hl : i < ls.length := by
  have := (List.getElem?_eq_some_iff.mp h).1
  simpa [ens] using this
 refine ⟨hl, ?_⟩
 unfold ens at h
 rw [List.getElem?_map, List.getElem?_eq_getElem hl] at h
 have hn : ls[i] = none := by
  cases z : ls[i] with
  | none => rfl
  | some t => rw [z] at h; cases h
 apply List.ext_getElem?
 intro m
 rw [List.getElem?_set]
 split
 ·rename_i z
  subst z
  rw [Zu, if_pos hl]
  unfold vals
  rw [List.getElem?_map, List.getElem?_eq_getElem hl, hn]
  rfl
 ·rfl
theorem Zl1 {cs : List Addr} {tb : WX → TS} {body : FS} {ts : Addr → Value → Option Addr → TS} {hs : Addr → FS} (E : EBase K mg B) (Es : EBs K mg B cs) (hb : ∀ W', SS kp W' (tb W') body) (hh : ∀ C x, C ∈ cs → EB K mg B x C → HS kp W i (fun a => ts a (.ref C) none) (hs C)) :
  SS kp W (fun D σ H => tb (wAs K (.ref B) i ts W D) D σ H) (sTryAs i cs body hs) := ⟨fun {F G ls H o en'} g e D k => by
 unfold sTryAs at e
 cases z : body (ens ls) with
 | none => rw [z] at e; cases e
 | some r =>
  obtain ⟨o1, e1⟩ := r
  rw [z] at e
  cases o1 with
  | nx => cases e; exact (hb _) g z k
  | rt T => cases e; exact (hb _) g z k
  | bk => cases e; exact (hb _) g z k
  | ct => cases e; exact (hb _) g z k
  | ex C =>
   refine (hb _) g z (D := D) fun G' ls' H' E1 => ?_
   split at e
   case h_2 => rename_i hne; exact absurd rfl (hne C e1)
   rename_i C' e1' he
   cases he
   split at e
   case isFalse => cases e
   rename_i hc
   obtain ⟨hC, hi⟩ := hc
   have hi := Zhv hi
   obtain ⟨⟨x, eb⟩, _⟩ := Es.all C hC
   rw [← E1.en] at hi e
   obtain ⟨hl, _⟩ := Zj2 hi
   refine ⟨true, E.catches eb, fun _ a _ => ?_, fun z => nomatch z⟩
   split at e
   case h_1 e2 z2 =>
    split at e
    case isFalse => cases e
    rename_i h2
    have h2 := Zhv h2
    cases e
    refine (hh C x hC eb).run hl E1.gd z2 fun G2 l2 H2 E2 => ?_
    rw [← E2.en] at h2
    have := k G2 l2 H2 (E1.trans E2)
    show D.nx (((vals l2).set i _).set i none) H2
    rw [List.set_set, (Zj2 h2).2]
    exact this
   case h_2 T e2 z2 =>
    cases e
    exact (hh C x hC eb).run hl E1.gd z2 (k.at E1)
   case h_3 => cases e⟩
noncomputable def sTryOnly (cs : List Addr) (body h : FS) : FS := fun en => match body en with
 | some (.ex C, e1) => if C ∈ cs then h e1 else none
 | r => r
end
end Kb
namespace Kb
open PySem L2 Evl
/-- the told items of a list of one's own -/
noncomputable def lfsOf : List (Lab × OT) → Option (List PyData)
 | [] => some []
 | x :: r => (leafD x.2).bind fun d => (lfsOf r).map (d :: ·)
theorem Zlz : ∀ {cs : List (Lab × LT)} {ds : List PyData}, lfsOf (LT.erL cs) = some ds → cs.length = ds.length ∧ ∀ (j : Nat) (d : PyData), ds[j]? = some d → ∃ l v, cs[j]? = some (l, .leaf v d)
 | [], ds, h => by cases h; exact ⟨rfl, fun j d h => by simp at h⟩
 | (l, t) :: r, ds, h => by
  rw [LT.erL] at h
  obtain ⟨d, hd, h⟩ := bnd h
  obtain ⟨ds', h', rfl⟩ := Option.map_eq_some_iff.mp h
  obtain ⟨v, rfl⟩ := ZdS (Zc7 hd)
  obtain ⟨i1, i2⟩ := Zlz h'
  refine ⟨by simp [i1], fun j e he => ?_⟩
  cases j with
  | zero => simp at he; subst he; exact ⟨l, v, rfl⟩
  | succ j => exact i2 j e (by simpa using he)
end Kb
namespace L2
open PySem PySem.Spec PyProof.Rows
end L2
namespace Kb
open PySem L2 Evl
theorem ZlV {ta tb : TE} {a b : FW} (ha : SW ta a) (hb : SW tb b) : SW (tDNotIn ta tb) (wOp (oDIn true) a b) := (Zpv ha hb).w
/-- no error gets out -/
noncomputable def noEx (s : FS) : FS := fun en => match s en with
 | some (.ex _, _) => none
 | r => r
theorem ZdW {kp : Nat → Bool} {W : WX} {t : TS} {s : FS} (h : SS kp (fun _ _ _ _ => False) t s) : SS kp W t (noEx s) := ⟨fun {F G ls H o en'} g e D k => by
 unfold noEx at e
 cases z : s (ens ls) with
 | none => rw [z] at e; cases e
 | some r =>
  obtain ⟨o1, e1⟩ := r
  rw [z] at e
  cases o1 with
  | ex C => cases e
  | nx => cases e; exact h g z k
  | rt T => cases e; exact h g z k
  | bk => cases e; exact h g z k
  | ct => cases e; exact h g z k⟩
end Kb
namespace Kb
open PySem L2 Evl
noncomputable def putQ (k : Key) (d : PyData) (l : List (Key × PyData)) : List (Key × PyData) := if (l.any fun kv => decide (kv.1 = k)) = true then l.map (fun kv => if kv.1 = k then (kv.1, d) else kv) else l ++ [(k, d)]
inductive KvR (G : Hp) : List (Key × V) → List (Key × PyData) → Prop
 | nil : KvR G [] []
 | cons {k : Key} {v : V} {d : PyData} {l : List (Key × V)} {m : List (Key × PyData)} : Dt G v d → KvR G l m → KvR G ((k, v) :: l) ((k, d) :: m)
theorem KvR.any {G : Hp} {k : Key} {l : List (Key × V)} {m : List (Key × PyData)} (h : KvR G l m) : (l.any fun kv => decide (kv.1 = k)) = m.any fun kv => decide (kv.1 = k) := by
 induction h with
 | nil => rfl
 | cons _ _ ih => simp only [List.any_cons, ih]
theorem KvR.put1 {G : Hp} {k : Key} {v : V} {d : PyData} (hv : Dt G v d) {l : List (Key × V)} {m : List (Key × PyData)} (h : KvR G l m) : KvR G (l.map fun kv => if kv.1 = k then (kv.1, v) else kv) (m.map fun kv => if kv.1 = k then (kv.1, d) else kv) := by
 induction h with
 | nil => exact .nil
 | cons hd _ ih =>
  rename_i k' v' d' l m _
  rw [List.map_cons, List.map_cons]
  by_cases z : k' = k
  ·subst z
   simp only [if_true]
   exact .cons hv ih
  ·simp only [z, if_false]
   exact .cons hd ih
theorem KvR.put2 {G : Hp} {k : Key} {v : V} {d : PyData} (hv : Dt G v d) {l : List (Key × V)} {m : List (Key × PyData)} (h : KvR G l m) : KvR G (l ++ [(k, v)]) (m ++ [(k, d)]) := by
 induction h with
 | nil => exact .cons hv .nil
 | cons hd _ ih => exact .cons hd ih
theorem KvR.put {G : Hp} {k : Key} {v : V} {d : PyData} (hv : Dt G v d) {l : List (Key × V)} {m : List (Key × PyData)} (h : KvR G l m) : KvR G (putK l k v) (putQ k d m) := by
 unfold putK putQ
 rw [h.any]
 split
 ·exact h.put1 hv
 ·exact h.put2 hv
theorem KvR.merge {G : Hp} {l : List (Key × V)} {m : List (Key × PyData)} (h : KvR G l m) : ∀ {l0 : List (Key × V)} {m0 : List (Key × PyData)}, KvR G l0 m0 → KvR G (mergeK l0 l) (m.foldl (fun acc kv => putQ kv.1 kv.2 acc) m0) := by
 induction h with
 | nil => exact fun h0 => h0
 | cons hd _ ih => exact fun h0 => ih (h0.put hd)
end Kb
namespace Kb
open PySem L2 Evl PySem.Spec PyProof.Rows
theorem Zln {G H : Hp} : ∀ {cs : List (Lab × LT)} {ds : List PyData}, lfsOf (LT.erL cs) = some ds → (∀ x ∈ cs, x.2.ok G H) → DtAll G (((LT.vals cs).map fun x => (x.1.k, x.2)).map (·.2)) ds
 | [], ds, h, _ => by cases h; exact .nil
 | (l, t) :: r, ds, h, ok => by
  rw [LT.erL] at h
  obtain ⟨d, hd, h⟩ := bnd h
  obtain ⟨ds', h', rfl⟩ := Option.map_eq_some_iff.mp h
  obtain ⟨v, rfl⟩ := ZdS (Zc7 hd)
  have h1 : Dt G v d := ok _ List.mem_cons_self
  exact .cons h1 (Zln h' fun x hx => ok x (List.mem_cons_of_mem _ hx))
theorem Zi8 : ∀ cs : List (Lab × LT), ((LT.erL cs).map fun x => keyD x.1.k) = ((LT.vals cs).map fun x => (x.1.k, x.2)).map fun kv => keyD kv.1
 | [] => rfl
 | (l, t) :: r => by
  rw [LT.erL]
  show keyD l.k :: _ = keyD l.k :: _
  rw [Zi8 r]
  rfl
end Kb
namespace Kb
open PySem L2 Evl
/-- list(place), all its things told -/
noncomputable def nLstC (pl : FP) : FN := fun en => (pl en).bind fun q => (subE en q.1 q.2).bind fun S => match S with
 | .node .lst cs => if allLeaf cs = true then some (.ok (.node .lst cs), en) else none
 | _ => none
/-- a built-in that tells a new list, its arguments changing the world -/
noncomputable def nCbF (o : List PyData → Option PyData) (a : FA) : FN := fun en => bx (a en) fun xs e1 => okx e1 ((o xs).map freshT)
/-- place.pop(), told -/
noncomputable def xPopP (pl : FP) : FX := fun en => (pl en).bind fun q => ((en[q.1]?).join).bind fun T => (T.sub q.2).bind fun S => match S with
 | .node .lst cs => (cs[cs.length - 1]?).bind fun x => (leafD x.2).map fun d => (.ok d, en.set q.1 (some (T.put q.2 (.node .lst cs.dropLast))))
 | _ => none
section
variable {K : PySem.W.Frag} {kp : Nat → Bool} {W : WX} {te ta : TE} {tr : TA} {w : FW} {x : FX} {n : FN} {pl : FP} {s : FA}
theorem Zfn (hp : SP ta pl) : SN W (tCB (rListS K) (tCons ta tNil)) (nLstC pl) := ⟨fun {F G ls H r en'} g e Q k kx => by
 obtain ⟨⟨i, p⟩, h1, e1⟩ := bnd e
 obtain ⟨S, h2, e2⟩ := bnd e1
 split at e2
 case h_2 => cases e2
 rename_i cs
 split at e2
 case isFalse => cases e2
 rename_i hl
 cases e2
 obtain ⟨t, s, q1, q2, q3⟩ := Zao h2
 obtain ⟨a, dx, c, rfl, q4⟩ := Z3 q3
 refine hp.run g h1 fun t' s' H1 x1 r1 r2 => ?_
 rw [q1] at r1
 cases r1
 rw [q2] at r2
 cases r2
 have g1 := g.stay x1
 obtain ⟨z1, z2⟩ := g1.at_sub q1 q2
 rw [ZaF] at z1
 refine ⟨a, _, rfl, .inl (sq_of z1), fun p hp => ?_⟩
 have ha : LT.adsL c = [] := Zdh (by rw [q4]; exact hl)
 have g2 := g1.stay (Ex.new (o := HO.lst (c.map fun x => x.2.val)) hp)
 refine k _ rfl (.node .lst p 0 c) G ls _ (ZaJ g2 rfl trivial ?_ (fresh_back g1.gh hp) (fresh_back g1.fh hp) (fun h => ?_) (fun y hy => ?_) ha) Gx.refl rfl rfl ?_
 ·rw [upd_same, ZaF]
 ·obtain ⟨o, ho⟩ := g1.has h
  rw [hp] at ho
  cases ho
 ·exact LT.ok_heap y.2 (fun b hb => by
   have : b ∈ LT.adsL c := by rw [LT.adsL_map]; exact List.mem_flatMap.mpr ⟨y, hy, hb⟩
   rw [ha] at this
   exact nomatch this) (z2 y hy)
 ·rw [LT.er, q4]⟩
theorem Zk0 {rr : List V → Hp → VK → Prop} {o : List PyData → Option PyData} (ho : CbF rr o) (ha : SXA W tr s) : SN W (tCB rr tr) (nCbF o s) := ⟨fun {F G ls H r en'} g e Q k kx => by
 rcases Zn e with ⟨x, e1, h1, h2⟩ | ⟨C, h1, rfl⟩
 ·refine ha g h1 (fun d hd v G1 l1 H1 E1 dv => ?_) (fun C hC => nomatch hC)
  cases hd
  obtain ⟨T0, hd0, rfl, rfl⟩ := Zx h2
  obtain ⟨d, hd, rfl⟩ := Option.map_eq_some_iff.mp hd0
  refine ho dv hd E1.gd.gh fun z H3 e3 fz dz => ?_
  obtain ⟨T, G', gT, gx, hT, hv⟩ := Zkq E1.gd e3 fz dz
  rw [← hv]
  exact k _ rfl T G' l1 H3 gT (E1.gx.trans gx) E1.en E1.vs hT
 ·exact ha g h1 (fun d hd => nomatch hd) fun C' hC' => kx C' (rxc hC')⟩
/-- a new tuple of flat things -/
noncomputable def tNewT (w : FW) : FO := fun ρ => (w ρ).bind fun d => match d with
 | .tuple ds => if ds.all flatD = true then some (.node .tup (oLeafs ds)) else none
 | _ => none
/-- {} -/
noncomputable def tDct0 : FO := fun _ => some (.node .dct [])
theorem ZgO : ST tDNewK tDct0 := ⟨fun {en σ G T} h e H gh Q k => by
 cases e
 intro p hp
 refine k (.node .dct p 0 []) _ (Ex.new hp) ?_ ?_
 ·rw [LT.er, LT.erL]
 ·exact Zea (k := .dct) (Ts := []) rfl (fun _ => trivial) ⟨fun _ h => (nomatch h), List.nodup_nil, fun _ h => (nomatch h)⟩ (by rw [upd_same]; rfl) hp (fun h => nomatch h)⟩
noncomputable def tellC (cs : List (Lab × OT)) : List (Lab × OT) := cs.map fun x => (x.1, OT.leaf x.2.data)
/-- place.append([..]), the new list's things told -/
noncomputable def sAppPO (pl : FP) (t : FO) : FS := fun en => (t (weak en)).bind fun N => (pl en).bind fun q => ((en[q.1]?).join).bind fun T => (T.sub q.2).bind fun S => match N, S with
 | .node .lst cn, .node .lst cs => if lenOk cs = true then some (.nx, en.set q.1 (some (T.put q.2 (.node .lst (cs ++ [(.no, .node .lst (tellC cn))]))))) else none
 | _, _ => none
/-- what stands in a field -/
noncomputable def valF (f : Str) (cs : List (Lab × OT)) : Option PyData := (idxF f cs).bind fun n => (cs[n]?).bind fun c => leafD c.2
/-- self.f += e, ints -/
noncomputable def sAugF (C : Addr) (f : Str) (i : Nat) (o : Int → Int → Int) (w : FW) : FS := fun en => (insAt en i C).bind fun cs => (valF f cs).bind fun a0 => (asI a0).bind fun a => (w (strong en)).bind fun b0 => (asI b0).bind fun b => if cs.length < 1000 then some (.nx, en.set i (some (.node (.ins C) (putT f (.leaf (.int (o a b))) cs)))) else none
noncomputable def copyLL : List (Lab × OT) → Option (List OT)
 | [] => some []
 | (_, .node .lst cs) :: r => if allLeaf cs = true then (copyLL r).map (OT.node .lst cs :: ·) else none
 | _ => none
noncomputable def nCpLL (pl : FP) (j : Nat) : FN := fun en => (pl en).bind fun q => (subE en q.1 q.2).bind fun S => match S with
 | .node .lst cs => if cs.length ≤ 50000 ∧ j < en.length then (copyLL cs).map fun Ts => (.ok (.node .lst (Ts.map fun T => (Lab.no, T))), en) else none
 | _ => none
theorem Zhq : ∀ {cs : List (Lab × LT)} {Ts : List OT}, copyLL (LT.erL cs) = some Ts → Ts.length = cs.length ∧ ∀ n, n < cs.length → ∃ l a dx c, cs[n]? = some (l, .node .lst a dx c) ∧ Ts[n]? = some (.node .lst (LT.erL c)) ∧ LT.adsL c = []
 | [], Ts, h => by cases h; exact ⟨rfl, fun n hn => absurd hn (Nat.not_lt_zero _)⟩
 | (l, t) :: r, Ts, h => by
  rw [LT.erL] at h
  cases t with
  | leaf v d => rw [LT.er] at h; cases h
  | node k a dx c =>
   rw [LT.er] at h
   cases k with
   | lst =>
    have h : (if allLeaf (LT.erL c) = true then (copyLL (LT.erL r)).map (OT.node .lst (LT.erL c) :: ·) else none) = some Ts := h
    split at h
    case isFalse => cases h
    rename_i hl
    obtain ⟨Us, hU, rfl⟩ := Option.map_eq_some_iff.mp h
    obtain ⟨i1, i2⟩ := Zhq hU
    refine ⟨by simp [i1], fun n hn => ?_⟩
    cases n with
    | zero => exact ⟨l, a, dx, c, rfl, rfl, Zdh hl⟩
    | succ n => obtain ⟨l', a', dx', c', z1, z2, z3⟩ := i2 n (by simpa using hn); exact ⟨l', a', dx', c', by simpa using z1, by simpa using z2, z3⟩
   | _ => cases h
theorem ZoM {j : Nat} (hp : SP ta pl) : SN W (tLc (iList K ta) (gName j) tYes (tCB (rListS K) (tCons (tVar j) tNil)) [j]) (nCpLL pl j) := ⟨fun {F G ls H r en'} g e Q k kx => by
 obtain ⟨⟨i, p⟩, h1, e1⟩ := bnd e
 obtain ⟨S, h2, e2⟩ := bnd e1
 split at e2
 case h_2 => cases e2
 rename_i cs
 split at e2
 case isFalse => cases e2
 rename_i hc
 obtain ⟨hc1, hj⟩ := hc
 obtain ⟨Ts, hTs, e3⟩ := Option.map_eq_some_iff.mp e2
 cases e3
 obtain ⟨t, s, q1, q2, q3⟩ := Zao h2
 obtain ⟨a, dx, c, rfl, q4⟩ := Z3 q3
 rw [← q4] at hTs hc1
 rw [ZcO] at hc1
 obtain ⟨m1, m2⟩ := Zhq hTs
 refine hp.run g h1 fun t' s' H1 x1 r1 r2 => ?_
 rw [q1] at r1
 cases r1
 rw [q2] at r2
 cases r2
 have g1 := g.stay x1
 obtain ⟨z1, z2⟩ := g1.at_sub q1 q2
 rw [ZaF] at z1
 have hjl : j < (vals ls).length := by have e : (ens ls).length = (vals ls).length := by { unfold ens vals; rw [List.length_map, List.length_map] }; omega
 refine ⟨a, rfl, ⟨_, sq_of z1⟩, fun D hD => ?_⟩
 have hlen : (c.map fun x => x.2.val).length = c.length := List.length_map ..
 have wk := walk_list (K := K) (a := a) (xs := c.map fun x => x.2.val)
 rw [hlen] at wk
 refine lc_it wk (Qd := fun H' => Q (.ref D) H') (fun n H' => Ex H1 H' ∧ ∃ Ns : List LT, H' D = some (.lst (Ns.map LT.val)) ∧ Ns.map LT.er = Ts.take n ∧ (∀ N ∈ Ns, N.ok G H') ∧ (Ns.flatMap LT.ads).Nodup ∧ (∀ b ∈ Ns.flatMap LT.ads, H1 b = none ∧ b ≠ D)) ?_ ?_ ?_ ?_
 ·exact ⟨Ex.new hD, [], upd_same, rfl, fun _ h => (nomatch h), List.nodup_nil, fun _ h => (nomatch h)⟩
 ·rintro n H' hn ⟨e1, _⟩
  exact sq_of (e1 _ _ z1)
 ·rintro n x H' H'' hn ⟨e1, Ns, hL, hN, hok, hnd, hfr⟩ hy
  obtain ⟨rfl, hxi⟩ := hy
  obtain ⟨l, a2, dx2, c2, y1, y2, y3⟩ := m2 n hn
  rw [List.getElem?_map, y1] at hxi
  have hxi : some (V.ref a2) = some x := hxi
  cases hxi
  have hw : wipe ((wipe (vals ls) [j]).set j (some (.ref a2))) [j] = wipe (vals ls) [j] := by
   show ((((vals ls).set j none).set j (some (.ref a2))).set j none) = (vals ls).set j none
   rw [List.set_set, List.set_set]
  refine ⟨hw, ?_⟩
  unfold tYes
  dsimp only
  rw [if_pos rfl]
  have hj2 : ((wipe (vals ls) [j]).set j (some (.ref a2)))[j]? = some (some (.ref a2)) := by
   show (((vals ls).set j none).set j (some (.ref a2)))[j]? = _
   rw [List.getElem?_set_self (by rw [List.length_set]; exact hjl)]
  have okn := z2 _ (List.mem_of_getElem? y1)
  obtain ⟨w1, _, w3⟩ := LT.ok_node.mp okn
  rw [ZaF] at w1
  refine ⟨_, hj2, a2, _, rfl, .inl (sq_of (e1 _ _ w1)), fun q hq => ?_⟩
  have hqD : q ≠ D := fun z => by rw [z, hL] at hq; cases hq
  have hq1 : H1 q = none := fresh_back e1 hq
  have hNl : Ns.length = n := by
   have := congrArg List.length hN
   rw [List.length_map, List.length_take, m1] at this
   omega
  refine ⟨_, (Ex.new hq) _ _ hL, sz_lt (by rw [List.length_map]; omega), ((e1.trans (Ex.new hq)).mut hD), Ns ++ [.node .lst q 0 c2], ?_, ?_, fun N hN2 => ?_, ?_, fun b hb => ?_⟩
  ·rw [upd_same, List.map_append]
   rfl
  ·rw [List.map_append, hN, List.take_add_one, y2]
   rfl
  ·rcases List.mem_append.mp hN2 with h | h
   ·refine LT.ok_heap (H := upd H'' q (.lst (c2.map fun x => x.2.val))) N (fun b hb => ?_) (LT.ok_heap (H := H'') N (fun b hb => ?_) (hok N h))
    ·exact upd_ne fun z => (hfr b (List.mem_flatMap.mpr ⟨N, h, hb⟩)).2 z
    ·obtain ⟨o, ho⟩ := LT.ads_some N (hok N h) b hb
     exact upd_ne fun z => by rw [z, hq] at ho; cases ho
   ·simp at h
    subst h
    refine LT.ok_node.mpr ⟨?_, trivial, fun y hy => ?_⟩
    ·rw [upd_ne hqD, upd_same, ZaF]
    ·exact LT.ok_heap y.2 (fun b hb => by
      have : b ∈ LT.adsL c2 := by rw [LT.adsL_map]; exact List.mem_flatMap.mpr ⟨y, hy, hb⟩
      rw [y3] at this
      exact nomatch this) (w3 y hy)
  ·rw [List.flatMap_append]
   have e5 : [LT.node .lst q 0 c2].flatMap LT.ads = [q] := by
    rw [List.flatMap_cons, List.flatMap_nil, List.append_nil, LT.ads, y3]
    rfl
   rw [e5]
   refine List.nodup_append.mpr ⟨hnd, by simp, fun b hb b' hb' z => ?_⟩
   simp at hb'
   subst hb'
   subst z
   obtain ⟨N, hN3, hb3⟩ := List.mem_flatMap.mp hb
   obtain ⟨o, ho⟩ := LT.ads_some N (hok N hN3) b hb3
   rw [hq] at ho
   cases ho
  ·rw [List.flatMap_append] at hb
   rcases List.mem_append.mp hb with hb | hb
   ·exact hfr b hb
   ·rw [List.flatMap_cons, List.flatMap_nil, List.append_nil, LT.ads, y3] at hb
    have : b = q := by simpa [Kd.own] using hb
    subst this
    exact ⟨hq1, hqD⟩
 ·rintro H' ⟨e1, Ns, hL, hN, hok, hnd, hfr⟩
  rw [← m1, List.take_length] at hN
  have g2 := g1.stay e1
  refine k _ rfl (.node .lst D 0 (Ns.map fun N => (Lab.no, N))) G ls H' ?_ Gx.refl rfl rfl ?_
  ·have hads : (LT.node .lst D 0 (Ns.map fun N => (Lab.no, N))).ads = D :: Ns.flatMap LT.ads := by
    rw [LT.ads, LT.adsL_map, List.flatMap_map]
    rfl
   have hDn : D ∉ Ns.flatMap LT.ads := fun h => (hfr D h).2 rfl
   have hls : ∀ b ∈ adsS ls, ∃ o, H1 b = some o := fun b hb => g1.has hb
   refine ⟨g2.fh, g2.gh, ?_, fun b hb => ?_, fun b hb => ?_, fun T hT => ?_⟩
   ·show ((LT.node .lst D 0 (Ns.map fun N => (Lab.no, N))).ads ++ adsS ls).Nodup
    rw [hads]
    refine List.nodup_append.mpr ⟨List.nodup_cons.mpr ⟨hDn, hnd⟩, g2.nd, fun b hb b' hb' z => ?_⟩
    subst z
    obtain ⟨o, ho⟩ := hls b hb'
    rcases List.mem_cons.mp hb with rfl | hb
    ·rw [hD] at ho; cases ho
    ·rw [(hfr b hb).1] at ho; cases ho
   ·have hb : b ∈ (LT.node .lst D 0 (Ns.map fun N => (Lab.no, N))).ads ++ adsS ls := hb
    rw [hads] at hb
    rcases List.mem_append.mp hb with hb | hb
    ·rcases List.mem_cons.mp hb with rfl | hb
     ·exact fresh_back g1.gh hD
     ·exact fresh_back g1.gh (hfr b hb).1
    ·exact g2.gn b hb
   ·have hb : b ∈ (LT.node .lst D 0 (Ns.map fun N => (Lab.no, N))).ads ++ adsS ls := hb
    rw [hads] at hb
    rcases List.mem_append.mp hb with hb | hb
    ·rcases List.mem_cons.mp hb with rfl | hb
     ·exact fresh_back g1.fh hD
     ·exact fresh_back g1.fh (hfr b hb).1
    ·exact g2.fn b hb
   ·rcases List.mem_cons.mp hT with z | hT
    ·cases z
     refine LT.ok_node.mpr ⟨by rw [hL, ZaF, List.map_map]; rfl, trivial, fun y hy => ?_⟩
     obtain ⟨N, hN2, rfl⟩ := List.mem_map.mp hy
     exact hok N hN2
    ·exact g2.ok T hT
  ·rw [LT.er, LT.erL_map, List.map_map, ← hN, List.map_map]
   rfl⟩
end
end Kb
namespace Kb
open PySem L2 Evl
/-- the entries of a dict of the module, texts to ints -/
inductive TabE : List DictEntry → List (String × Int) → Prop
 | nil : TabE [] []
 | cons {e : DictEntry} {es : List DictEntry} {k : String} {t : Nat} {i : Int} {ts : List (String × Int)} : e.key = .str (Str.ofString k) t → RelV (.int i) e.val → TabE es ts → TabE (e :: es) ((k, i) :: ts)
structure GlD (K : PySem.W.Frag) (w : World) (mg : Str → Option Value) (x : Str) (u : Addr) (tab : List (String × Int)) : Prop where
 m : mg x = some (.ref u)
 kd : ∃ (es : Array DictEntry) (n : Nat), K.lookup u = some ⟨.type "dict", none, .dict es n, #[]⟩ ∧ PySem.W.KeysLit w.params es.toList ∧ TabE es.toList tab ∧ (u == sysModules) = false
noncomputable def tabAt (z : Str) (tab : List (String × Int)) : Option Int := (tab.find? fun p => decide (Str.ofString p.1 = z)).map (·.2)
theorem TabE.find {z : Str} : ∀ {es : List DictEntry} {tab : List (String × Int)}, TabE es tab → (match es.find? (·.key.isStr z) with
   | some e => ∃ i, tabAt z tab = some i ∧ RelV (.int i) e.val
   | none => tabAt z tab = none ∧ es.any (·.refKey) = false)
 | _, _, .nil => ⟨rfl, rfl⟩
 | e :: es, _, .cons (k := k) (t := t) (i := i) (ts := ts) hk hv r => by
  have ih := TabE.find (z := z) r
  have hs : e.key.isStr z = decide (Str.ofString k = z) := by
   rw [hk]
   show (Str.ofString k == z) = _
   by_cases h : Str.ofString k = z
   ·rw [decide_eq_true h, h]; exact beq_self_eq_true z
   ·rw [decide_eq_false h]; exact beq_eq_false_iff_ne.mpr h
  rw [List.find?_cons]
  by_cases h : Str.ofString k = z
  ·rw [hs, decide_eq_true h]
   exact ⟨i, by unfold tabAt; rw [List.find?_cons, decide_eq_true h]; rfl, hv⟩
  ·rw [hs, decide_eq_false h]
   dsimp only
   have e1 : tabAt z ((k, i) :: ts) = tabAt z ts := by unfold tabAt; rw [List.find?_cons, decide_eq_false h]
   rw [e1]
   have e2 : e.refKey = false := by unfold DictEntry.refKey; rw [hk]
   cases q : es.find? (·.key.isStr z) with
   | some e' => rw [q] at ih; exact ih
   | none =>
    rw [q] at ih
    exact ⟨ih.1, by rw [List.any_cons, e2, ih.2]; rfl⟩
theorem GlD.at' {K : PySem.W.Frag} {w : World} {mg : Str → Option Value} {x : Str} {u : Addr} {tab : List (String × Int)} (g : GlD K w mg x u tab) (z : Str) : ∃ r, PySem.W.nsIn K u z = some r ∧ (match tabAt z tab with
  | some i => ∃ u0, r = some u0 ∧ RelV (.int i) u0
  | none => r = none) := by
 obtain ⟨es, n, hl, _, ht, _⟩ := g.kd
 have h := ht.find (z := z)
 unfold PySem.W.nsIn
 rw [hl]
 dsimp only
 cases q : es.toList.find? (·.key.isStr z) with
 | some e =>
  rw [q] at h
  obtain ⟨i, h1, h2⟩ := h
  exact ⟨_, rfl, by rw [h1]; exact ⟨_, rfl, h2⟩⟩
 | none =>
  rw [q] at h
  obtain ⟨h1, h2⟩ := h
  rw [h2]
  exact ⟨_, rfl, by rw [h1]⟩
noncomputable def oKIn (neg : Bool) (tab : List (String × Int)) : PyData → Option PyData
 | .str z => some (.bool (if neg then !(tabAt z tab).isSome else (tabAt z tab).isSome))
 | _ => none
noncomputable def oKGet (tab : List (String × Int)) : PyData → Option PyData
 | .str z => (tabAt z tab).map PyData.int
 | _ => none
noncomputable def evDs : List (Str × FO) → DE → Option (List (Lab × OT))
 | [], _ => some []
 | (k, t) :: r, ρ => (t ρ).bind fun T => (evDs r ρ).map ((Lab.key (.inr k), T) :: ·)
noncomputable def tDspO (es : List (Str × FO)) : FO := fun ρ => if (es.map (·.1)).Nodup ∧ es.length ≤ 15 then (evDs es ρ).map (OT.node .dct) else none
inductive SDs : List (TE × TE) → List (Str × FO) → Prop
 | nil : SDs [] []
 | cons {k : Str} {te : TE} {t : FO} {trs : List (TE × TE)} {es : List (Str × FO)} : ST te t → SDs trs es → SDs ((tC (.str k), te) :: trs) ((k, t) :: es)
theorem Zio {σ : L2.St} {G : Hp} {ρ : DE} (h : DRel ρ σ G) : ∀ {trs : List (TE × TE)} {es : List (Str × FO)}, SDs trs es → ∀ {cs : List (Lab × OT)}, evDs es ρ = some cs → ∀ (H : Hp), Ex G H → ∀ (Q : List (V × V) → Hp → Prop),
  (∀ (Ts : List LT) (H2 : Hp), Ex H H2 → Own H Ts H2 → Ts.length = es.length → cs = ((es.map (·.1)).zip (Ts.map LT.er)).map (fun p => (Lab.key (.inr p.1), p.2)) → Q (((es.map (·.1)).zip Ts).map fun p => (V.str p.1, p.2.val)) H2) → tPairs trs σ H Q
 | _, _, .nil, cs, e, H, gh, Q, q => by
  cases e
  exact q [] H (Ex.refl H) ⟨fun _ h => (nomatch h), List.nodup_nil, fun _ h => (nomatch h)⟩ rfl rfl
 | _, _, .cons (k := k) (te := te) (t := t) (trs := trs) (es := es) ht hr, cs, e, H, gh, Q, q => by
  obtain ⟨T0, hT, e⟩ := bnd e
  obtain ⟨cs', hc, rfl⟩ := Option.map_eq_some_iff.mp e
  show te σ H _
  refine ht.run h hT H gh _ fun T H1 e1 he o1 => ?_
  refine Zio h hr hc H1 (gh.trans e1) _ fun Ts H2 e2 o2 hl hcs => ?_
  refine q (T :: Ts) H2 (e1.trans e2) (o1.cons e1 o2 e2) (by simp [hl]) ?_
  rw [List.map_cons, List.map_cons, List.zip_cons_cons, List.map_cons, ← hcs, he]
theorem ZmI {acc : List (Key × V)} {k : Key} {v : V} (h : k ∉ acc.map (·.1)) : putK acc k v = acc ++ [(k, v)] := by
 unfold putK
 rw [if_neg]
 intro z
 obtain ⟨x, hx, hk⟩ := List.any_eq_true.mp z
 exact h (List.mem_map.mpr ⟨x, hx, by simpa using hk⟩)
theorem ZeY : ∀ (kvs acc : List (Key × V)), ((acc ++ kvs).map (·.1)).Nodup → mergeK acc kvs = acc ++ kvs
 | [], acc, _ => by simp [mergeK]
 | (k, v) :: kvs, acc, h => by
  show mergeK (putK acc k v) kvs = _
  have hk : k ∉ acc.map (·.1) := fun hm => by
   rw [List.map_append, List.map_cons] at h
   exact (List.nodup_append.mp h).2.2 k hm k List.mem_cons_self rfl
  rw [ZmI hk, ZeY kvs (acc ++ [(k, v)]) (by simpa using h)]
  simp
theorem Zr9 {trs : List (TE × TE)} {es : List (Str × FO)} (hs : SDs trs es) : ST (tDisp trs) (tDspO es) := ⟨fun {ρ σ G T} h e H gh Q q => by
 unfold tDspO at e
 split at e
 case isFalse => cases e
 rename_i hc
 obtain ⟨hnd, hl15⟩ := hc
 obtain ⟨cs, hcs, rfl⟩ := Option.map_eq_some_iff.mp e
 intro p hp
 refine Zio h hs hcs _ (gh.trans (Ex.new hp)) _ fun Ts H2 e2 o2 hl hcs2 => ⟨e2 _ _ upd_same, ((es.map (·.1)).zip Ts).map (fun x => ((.inr x.1 : Key), x.2.val)), ?_, ?_, ?_⟩
 ·rw [List.map_map]
  rfl
 ·rw [List.length_map, List.length_zip, List.length_map, hl]
  omega
 ·have hk : ((((es.map (·.1)).zip Ts).map fun x => ((.inr x.1 : Key), x.2.val)).map (·.1)).Nodup := by
   rw [List.map_map]
   have e3 : (((es.map (·.1)).zip Ts).map ((fun x : Key × V => x.1) ∘ fun x => ((.inr x.1 : Key), x.2.val))) = (es.map (·.1)).map (fun k => (Sum.inr k : Key)) := by
    have := List.map_fst_zip (l₁ := es.map (·.1)) (l₂ := Ts) (by rw [List.length_map, hl]; omega)
    conv => rhs; rw [← this]
    rw [List.map_map]
    rfl
   rw [e3]
   exact List.Pairwise.map _ (fun a b hab z => hab (by injection z)) hnd
  rw [ZeY _ [] (by simpa using hk), List.nil_append]
  have e0 : Ex H H2 := (Ex.new hp).trans e2
  have hnp : p ∉ Ts.flatMap LT.ads := fun hm => by
   have := o2.fr p hm
   rw [upd_same] at this
   cases this
  have hvals : LT.vals (((es.map (·.1)).zip Ts).map fun x => (Lab.key (.inr x.1), x.2)) = ((es.map (·.1)).zip Ts).map fun x => (Lab.key (.inr x.1), x.2.val) := by
   unfold LT.vals
   rw [List.map_map]
   rfl
  have hads : LT.adsL (((es.map (·.1)).zip Ts).map fun x => (Lab.key (.inr x.1), x.2)) = Ts.flatMap LT.ads := by
   rw [LT.adsL_map, List.flatMap_map]
   have := List.map_snd_zip (l₁ := es.map (·.1)) (l₂ := Ts) (by rw [List.length_map, hl]; omega)
   conv => rhs; rw [← this]
   rw [List.flatMap_map]
  refine q (.node .dct p 0 (((es.map (·.1)).zip Ts).map fun x => (Lab.key (.inr x.1), x.2))) _ (e0.mut hp) ?_ ?_
  ·rw [LT.er, LT.erL_map, List.map_map, hcs2, List.zip_map_right, List.map_map]
   rfl
  ·refine ⟨fun T hT => ?_, ?_, fun a ha => ?_⟩
   ·simp at hT
    subst hT
    refine LT.ok_node.mpr ⟨?_, trivial, fun x hx => ?_⟩
    ·rw [upd_same, hvals]
     show _ = some (HO.dK _)
     rw [List.map_map]
     rfl
    ·obtain ⟨y, hy, rfl⟩ := List.mem_map.mp hx
     have hyT : y.2 ∈ Ts := (List.of_mem_zip hy).2
     exact LT.ok_heap y.2 (fun b hb => upd_ne fun z => hnp (by rw [← z]; exact List.mem_flatMap.mpr ⟨_, hyT, hb⟩)) (o2.ok _ hyT)
   ·rw [List.flatMap_cons, List.flatMap_nil, List.append_nil, LT.ads, hads]
    exact List.nodup_cons.mpr ⟨hnp, o2.nd⟩
   ·rw [List.flatMap_cons, List.flatMap_nil, List.append_nil, LT.ads, hads] at ha
    rcases List.mem_cons.mp ha with rfl | ha
    ·exact hp
    ·exact fresh_back (Ex.new hp) (o2.fr a ha)⟩
end Kb
namespace Kb
open PySem L2 Evl
theorem Zko {ls : Ls} {i : Nat} (b : Addr) : (adsS (ls.set i none)).count b ≤ (adsS ls).count b := by
 cases h : ls[i]? with
 | none => rw [List.set_eq_of_length_le (List.getElem?_eq_none_iff.mp h)]; exact Nat.le_refl _
 | some o =>
  have := Z9 (b := b) h none
  have e2 : (oads none).count b = 0 := rfl
  omega
theorem Zh1 {ls : Ls} {i : Nat} : ens (ls.set i none) = (ens ls).set i none := by simp [ens, List.map_set]
theorem Zdm {ls : Ls} {i : Nat} : vals (ls.set i none) = (vals ls).set i none := by simp [vals, List.map_set]
end Kb
namespace Kb
open PySem L2 Evl
noncomputable def lkD (a : Addr) (kd : List (PyData × PyData)) : PyData := .dict ((.none, .tuple [.int (a : Nat)]) :: kd)
noncomputable def kdOf (cs : List (Lab × OT)) : List (PyData × PyData) := (cs.map fun x => keyD x.1.k).zip (OT.datas cs)
theorem Dt.lkOf {G : Hp} {v : V} {i : Int} {kd : List (PyData × PyData)} (h : Dt G v (.dict ((.none, .tuple [.int i]) :: kd))) : ∃ (a : Addr) (o : Obj) (kvs : List (Key × V)) (ds : List PyData), i = ((a : Nat) : Int) ∧ v = .ref a ∧ G a = some (.frz o (.dK kvs)) ∧ DtAll G (kvs.map (·.2)) ds ∧ kd = (kvs.map fun kv => keyD kv.1).zip ds := by
 generalize hk : (PyData.dict ((.none, .tuple [.int i]) :: kd)) = k at h
 cases h with
 | dct h1 h2 h3 =>
  rename_i b kvs ds kd'
  injection hk with hk
  rw [h3] at hk
  cases kvs with
  | nil => simp at hk
  | cons kv kvs =>
   cases ds with
   | nil => simp at hk
   | cons d ds =>
    simp only [List.map_cons, List.zip_cons_cons, List.cons.injEq, Prod.mk.injEq] at hk
    obtain ⟨⟨h, _⟩, _⟩ := hk
    obtain ⟨k, v⟩ := kv
    cases k <;> cases h
 | ins h1 h2 h3 =>
  injection hk with hk
  rw [h3] at hk
  simp at hk
 | lkd h1 h2 h3 =>
  injection hk with hk
  rw [h3] at hk
  simp only [List.cons.injEq, Prod.mk.injEq, true_and, PyData.tuple.injEq, PyData.int.injEq, and_true] at hk
  obtain ⟨hk1, hk2⟩ := hk
  exact ⟨_, _, _, _, hk1, rfl, h1, h2, hk2⟩
 | lkl h1 h2 h3 =>
  injection hk with hk
  rw [h3] at hk
  simp at hk
 | _ => cases hk
theorem Dt.lkAt {G : Hp} {v : V} {a : Addr} {kd : List (PyData × PyData)} (h : Dt G v (lkD a kd)) : v = .ref a := by
 obtain ⟨b, _, _, _, hi, hv, _⟩ := Dt.lkOf h
 rw [hv, Int.ofNat.inj hi]
open Classical in
noncomputable def uni {α : Type} (f : Addr → Option α) : Option α := if h : ∃ r, ∀ a, f a = some r then some (choose h) else none
theorem ZkQ {α : Type} {f : Addr → Option α} {r : α} (h : ∀ a, f a = some r) : uni f = some r := by
 unfold uni
 have hx : ∃ r, ∀ a, f a = some r := ⟨r, h⟩
 rw [dif_pos hx]
 have := Classical.choose_spec hx 0
 rw [h 0] at this
 exact this.symm
theorem ZkZ {α : Type} {f : Addr → Option α} {r : α} (h : uni f = some r) (a : Addr) : f a = some r := by
 unfold uni at h
 split at h
 ·rename_i hx
  cases h
  exact Classical.choose_spec hx a
 ·cases h
noncomputable def dctL (en : En) (q : Nat × List Nat) : Option (List (Lab × OT)) := (subE en q.1 q.2).bind fun S => match S with
 | .node .dct cs => (lfsOf cs).map fun _ => cs
 | _ => none
noncomputable def putE1 (en : En) (q : Nat × List Nat) (S : OT) : En := match (en[q.1]?).join with
 | some T => en.set q.1 (some (T.put q.2 S))
 | none => en
noncomputable def lockE (a : Addr) (q : Nat × List Nat) (cs : List (Lab × OT)) (en : En) : En := putE1 en q (.leaf (lkD a (kdOf cs)))
noncomputable def noLkE (en : En) : Bool := en.all fun o => match o with
 | some T => noLk T.data
 | none => true
open Classical in
noncomputable def unlE (a : Addr) (q : Nat × List Nat) (cs : List (Lab × OT)) (en : En) : Option En := if subE en q.1 q.2 = some (.leaf (lkD a (kdOf cs))) ∧ noLkE (putE1 en q (.node .dct cs)) = true then some (putE1 en q (.node .dct cs)) else none
noncomputable def sLock (pl : FP) (s : FS) : FS := fun en => (pl en).bind fun q => (dctL en q).bind fun cs => uni fun a => match s (lockE a q cs en) with
 | some (.nx, e) => (unlE a q cs e).map fun e3 => (.nx, e3)
 | some (.rt T, e) => if noLk T.data = true then (unlE a q cs e).map fun e3 => (.rt T, e3) else none
 | _ => none
noncomputable def xLock (pl : FP) (x : FX) : FX := fun en => (pl en).bind fun q => (dctL en q).bind fun cs => uni fun a => match x (lockE a q cs en) with
 | some (.ok d, e) => if noLk d = true then (unlE a q cs e).map fun e3 => (.ok d, e3) else none
 | _ => none
theorem Zdx : ∀ {cs : List (Lab × OT)} {ds : List PyData}, lfsOf cs = some ds → OT.datas cs = ds
 | [], ds, h => by cases h; rw [OT.datas]
 | (l, t) :: r, ds, h => by
  obtain ⟨d, hd, h⟩ := bnd h
  obtain ⟨ds', h', rfl⟩ := Option.map_eq_some_iff.mp h
  rw [OT.datas, Zdx h']
  have : t = .leaf d := Zc7 hd
  rw [this, OT.data]
theorem Zhm : ∀ {c : List (Lab × LT)} {ds : List PyData}, lfsOf (LT.erL c) = some ds → LT.adsL c = []
 | [], ds, h => by rw [LT.adsL]
 | (l, t) :: r, ds, h => by
  rw [LT.erL] at h
  obtain ⟨d, hd, h⟩ := bnd h
  obtain ⟨ds', h', rfl⟩ := Option.map_eq_some_iff.mp h
  obtain ⟨v, rfl⟩ := ZdS (Zc7 hd)
  rw [LT.adsL, Zhm h']
  rfl
theorem Zhu {k : Kd} {cs : List (Lab × OT)} (h : noLk (OT.node k cs).data = true) : ∀ x ∈ cs, noLk x.2.data = true := by
 have key : noLks (OT.datas cs) = true := by
  cases k with
  | lst =>
   have h : noLk (.list (OT.datas cs)) = true := by rw [← h, OT.data]
   rw [noLk] at h
   exact h
  | tup =>
   have h : noLk (.tuple (OT.datas cs)) = true := by rw [← h, OT.data]
   rw [noLk] at h
   exact h
  | dct =>
   have h : noLk (.dict ((cs.map fun x => keyD x.1.k).zip (OT.datas cs))) = true := by rw [← h, OT.data]
   exact Zh4 (by rw [OT.datas_map]; simp) h
  | ins C =>
   have h : noLk (.dict ((.none, .int (C : Nat)) :: (cs.map fun x => PyData.str x.1.f).zip (OT.datas cs))) = true := by rw [← h, OT.data]
   rw [noLk, Bool.and_eq_true, noLkK, Bool.and_eq_true, Zdf (by rw [OT.datas_map]; simp)] at h
   exact h.2.2
 intro x hx
 rw [OT.datas_map] at key
 exact ZbG.mp key _ (List.mem_map.mpr ⟨x, hx, rfl⟩)
/-- behind the lock what tells of no locked dict is as it was -/
theorem LT.unl {G H : Hp} {a : Addr} {od : Obj} {u o' : HO} (ga : G a = some (.frz od u)) (t : LT) : a ∉ t.ads → noLk t.er.data = true → t.ok G H → t.ok (Kb.hide G a) (upd H a o') := by
 induction t using LT.ind with
 | hl v d =>
  intro _ hn h
  exact Dt.off ga (fun _ z => nomatch z) (fun _ z => nomatch z) (fun _ z => nomatch z) (fun _ _ _ z => nomatch z) d v hn h
 | hn k b dx cs ih =>
  intro hna hn h
  obtain ⟨h1, h2, h3⟩ := LT.ok_node.mp h
  have hown : ∀ c ∈ k.own b dx, c ≠ a := fun c hc z => hna (LT.ads_node.mpr (.inl (z ▸ hc)))
  have hk := Zhu hn
  rw [LT.erL_map] at hk
  refine LT.ok_node.mpr ⟨by rw [upd_ne (hown b LT.mem_own)]; exact h1, ?_, fun x hx => ih x hx (fun z => hna (LT.ads_node.mpr (.inr ⟨x, hx, z⟩))) (hk _ (List.mem_map.mpr ⟨x, hx, rfl⟩)) (h3 x hx)⟩
  cases k <;> try trivial
  show upd H a o' dx = some (.own b)
  rw [upd_ne (hown dx (by simp [Kd.own]))]
  exact h2
theorem LT.unl_put {G H : Hp} {a : Addr} {od : Obj} {u o' : HO} {d : PyData} {s' : LT} (ga : G a = some (.frz od u)) (hs' : s'.ok (Kb.hide G a) (upd H a o')) (hv : s'.val = .ref a) : ∀ {p : List Nat} {t : LT}, t.sub p = some (.leaf (.ref a) d) → a ∉ t.ads → noLk (t.put p s').er.data = true → t.ok G H → (t.put p s').ok (Kb.hide G a) (upd H a o')
 | [], t, h, _, _, _ => by cases t <;> exact hs'
 | i :: p, .leaf v e, h, _, _, _ => by cases h
 | i :: p, .node k b dx cs, h, hna, hn, hok => by
  have hsub := h
  have h : (cs[i]?).bind (fun x => x.2.sub p) = some (.leaf (.ref a) d) := h
  obtain ⟨x, hx, hs⟩ := bnd h
  obtain ⟨h1, h2, h3⟩ := LT.ok_node.mp hok
  have hown : ∀ c ∈ k.own b dx, c ≠ a := fun c hc z => hna (LT.ads_node.mpr (.inl (z ▸ hc)))
  have e : (LT.node k b dx cs).put (i :: p) s' = LT.node k b dx (cs.modify i fun x => (x.1, x.2.put p s')) := rfl
  rw [e, ZcJ _ hx] at hn ⊢
  rw [LT.er, LT.erL_map] at hn
  have hk := Zhu hn
  refine LT.ok_node.mpr ⟨?_, ?_, fun y hy => ?_⟩
  ·rw [upd_ne (hown b LT.mem_own), h1]
   congr 2
   unfold LT.vals
   apply List.ext_getElem?
   intro j
   rw [List.getElem?_map, List.getElem?_map, List.getElem?_set]
   by_cases z : i = j
   ·subst z
    have := (List.getElem?_eq_some_iff.mp hx).1
    rw [if_pos rfl, if_pos this, hx]
    simp [LT.put_val hs (show s'.val = LT.val (.leaf (.ref a) d) from hv)]
   ·rw [if_neg z]
  ·cases k <;> try trivial
   show upd H a o' dx = some (.own b)
   rw [upd_ne (hown dx (by simp [Kd.own]))]
   exact h2
  ·obtain ⟨j, hj⟩ := List.getElem?_of_mem hy
   have hkj := hk _ (List.mem_map.mpr ⟨y, hy, rfl⟩)
   rw [List.getElem?_set] at hj
   split at hj
   ·split at hj
    ·cases hj
     exact LT.unl_put ga hs' hv hs (fun z => hna (LT.ads_node.mpr (.inr ⟨x, List.mem_of_getElem? hx, z⟩))) hkj (h3 x (List.mem_of_getElem? hx))
    ·cases hj
   ·exact LT.unl ga y.2 (fun z => hna (LT.ads_node.mpr (.inr ⟨y, List.mem_of_getElem? hj, z⟩))) hkj (h3 y (List.mem_of_getElem? hj))
theorem ZfU {ls : Ls} {i : Nat} {p : List Nat} {t s : LT} {S : OT} (hi : ls[i]? = some (some t)) (hS : s.er = S) : putE1 (ens ls) (i, p) S = ens (ls.set i (some (t.put p s))) := by
 unfold putE1
 have : ((ens ls)[i]?).join = some t.er := by unfold ens; rw [List.getElem?_map, hi]; rfl
 dsimp only
 rw [this, ZaG, LT.put_er, hS]
theorem Znj {ls : Ls} (h : noLkE (ens ls) = true) {t : LT} (ht : some t ∈ ls) : noLk t.er.data = true := by
 have := List.all_eq_true.mp h (some t.er) (List.mem_map.mpr ⟨some t, ht, rfl⟩)
 exact this
theorem ZjU {F G H : Hp} {ls : Ls} {i : Nat} {p : List Nat} {cs : List (Lab × OT)} (g : Good F G ls H) (hq : dctL (ens ls) (i, p) = some cs) : ∃ (a : Addr) (kvs : List (Key × V)), H a = some (.dK kvs) ∧ ∀ od : Obj, ∃ G1 ls1, Good F G1 ls1 (upd H a (.frz od (.dK kvs))) ∧ vals ls1 = vals ls ∧ ens ls1 = lockE a (i, p) cs (ens ls) ∧
  ∀ (o : Option LT) G2 ls2 H2 en3, Good F G2 (o :: ls2) H2 → Gx F G1 G2 → (∀ t, o = some t → noLk t.er.data = true) → unlE a (i, p) cs (ens ls2) = some en3 → H2 a = some (.frz od (.dK kvs)) ∧ (∀ v d, noLk d = true → Dt G2 v d → Dt (Kb.hide G2 a) v d) ∧ Gx F G (Kb.hide G2 a) ∧ ∃ ls3, Good F (Kb.hide G2 a) (o :: ls3) (upd H2 a (.dK kvs)) ∧ ens ls3 = en3 ∧ vals ls3 = vals ls2 := by
 obtain ⟨S, hS, h2⟩ := bnd hq
 split at h2
 case h_2 => cases h2
 rename_i cs0
 obtain ⟨ds, hds, h3⟩ := Option.map_eq_some_iff.mp h2
 cases h3
 obtain ⟨t, s, q1, q2, q3⟩ := Zao hS
 dsimp only at q1 q2
 obtain ⟨a, dx, c, rfl, q4⟩ := Z3 q3
 subst q4
 obtain ⟨z1, z2⟩ := g.at_sub q1 q2
 rw [ZdY] at z1
 have dvs := Zln hds z2
 have hal : a ∈ adsS ls := Zaz.mpr ⟨t, List.mem_of_getElem? q1, Zp.mpr (Nat.lt_of_lt_of_le (Zp.mp (LT.ads_node.mpr (.inl LT.mem_own))) (LT.sub_cnt q2))⟩
 have hGa : G a = none := g.gn a hal
 have hFa : F a = none := g.fn a hal
 have hnc : LT.adsL c = [] := Zhm hds
 refine ⟨a, _, z1, fun od => ?_⟩
 have gG : Ex G (upd G a (.frz od (.dK ((LT.vals c).map fun x => (x.1.k, x.2))))) := fun b u h => by
  rw [upd_ne fun z => by rw [z, hGa] at h; cases h]
  exact h
 have hcnt : ∀ b, (adsS (ls.set i (some (t.put p (.leaf (.ref a) (lkD a (kdOf (LT.erL c)))))))).count b + [a].count b = (adsS ls).count b := fun b => by
  have h1 := Z9 (b := b) q1 (some (t.put p (.leaf (.ref a) (lkD a (kdOf (LT.erL c))))))
  have h2 := LT.put_cnt (b := b) (s' := .leaf (.ref a) (lkD a (kdOf (LT.erL c)))) q2
  have e1 : (oads (some t)).count b = t.ads.count b := rfl
  have e2 : (oads (some (t.put p (.leaf (.ref a) (lkD a (kdOf (LT.erL c))))))).count b = (t.put p (.leaf (.ref a) (lkD a (kdOf (LT.erL c))))).ads.count b := rfl
  have e3 : (LT.node .dct a dx c).ads.count b = [a].count b := by rw [LT.ads, hnc]; rfl
  have e4 : (LT.leaf (.ref a) (lkD a (kdOf (LT.erL c)))).ads.count b = 0 := rfl
  omega
 have hnd := fun b => List.nodup_iff_count.mp g.nd b
 have hne : ∀ b, b ∈ adsS (ls.set i (some (t.put p (.leaf (.ref a) (lkD a (kdOf (LT.erL c))))))) → b ≠ a ∧ b ∈ adsS ls := fun b hb => by
  have h1 := hcnt b
  have h2 := Zp.mp hb
  have h3 := hnd b
  refine ⟨fun z => ?_, Zp.mpr (by omega)⟩
  subst z
  have : [b].count b = 1 := by simp
  omega
 have hlk : Dt (upd G a (.frz od (.dK ((LT.vals c).map fun x => (x.1.k, x.2))))) (.ref a) (lkD a (kdOf (LT.erL c))) := by
  refine Dt.lkd upd_same (dvs.up gG) ?_
  unfold kdOf
  rw [Zdx hds, Zi8]
 refine ⟨upd G a (.frz od (.dK ((LT.vals c).map fun x => (x.1.k, x.2)))), ls.set i (some (t.put p (.leaf (.ref a) (lkD a (kdOf (LT.erL c)))))), ⟨fun b u h => ?_, fun b u h => ?_, List.nodup_iff_count.mpr fun b => by have := hcnt b; have := hnd b; omega, fun b hb => ?_, fun b hb => g.fn b (hne b hb).2, fun t2 ht2 => ?_⟩, Zf6 q1 q2 rfl, ?_, ?_⟩
 ·rw [upd_ne fun z => by rw [z, hFa] at h; cases h]
  exact g.fh b u h
 ·by_cases z : b = a
  ·rw [z, upd_same] at h ⊢
   exact h
  ·rw [upd_ne z] at h ⊢
   exact g.gh b u h
 ·rw [upd_ne (hne b hb).1]
  exact g.gn b (hne b hb).2
 ·have far : ∀ t3 : LT, some t3 ∈ ls → a ∉ t3.ads → t3.ok (upd G a (.frz od (.dK ((LT.vals c).map fun x => (x.1.k, x.2))))) (upd H a (.frz od (.dK ((LT.vals c).map fun x => (x.1.k, x.2))))) := fun t3 h3 hn => LT.ok_mono gG t3 (LT.ok_heap t3 (fun b hb => upd_ne fun z => hn (z ▸ hb)) (g.ok t3 h3))
  obtain ⟨j, hj⟩ := List.getElem?_of_mem ht2
  rw [List.getElem?_set] at hj
  split at hj
  ·split at hj
   ·cases hj
    refine LT.put_ok (s := .node .dct a dx c) q2 rfl (fun b => Nat.le_trans (Zdy (o := some t) (List.mem_of_getElem? q1)) (hnd b)) (fun b hb hb2 => upd_ne fun z => hb2 (by rw [z]; exact LT.ads_node.mpr (.inl LT.mem_own))) (LT.ok_mono gG t (g.ok t (List.mem_of_getElem? q1))) hlk
   ·cases hj
  ·rename_i hij
   refine far t2 (List.mem_of_getElem? hj) fun hb => ?_
   have h0 := ZjB (b := a) q1 hj hij
   have h1 := LT.sub_cnt (b := a) q2
   have h2 := Zp.mp hb
   have h3 := hnd a
   have h4 := Zp.mp ((LT.ads_node (k := .dct) (a := a) (dx := dx) (b := a) (cs := c)).mpr (.inl LT.mem_own))
   have e1 : (oads (some t)).count a = t.ads.count a := rfl
   have e2 : (oads (some t2)).count a = t2.ads.count a := rfl
   omega
 ·unfold lockE
  rw [ZfU q1 (s := .leaf (.ref a) (lkD a (kdOf (LT.erL c)))) (by rw [LT.er])]
 ·intro o G2 ls2 H2 en3 g2 gx ho hu
  have ga : G2 a = some (.frz od (.dK ((LT.vals c).map fun x => (x.1.k, x.2)))) := gx.ex a _ upd_same
  have hoff : ∀ v d, noLk d = true → Dt G2 v d → Dt (Kb.hide G2 a) v d := fun v d hn h => Dt.off ga (fun _ z => nomatch z) (fun _ z => nomatch z) (fun _ z => nomatch z) (fun _ _ _ z => nomatch z) d v hn h
  have gG3 : Ex G (Kb.hide G2 a) := fun b u h => by
   have hb : b ≠ a := fun z => by rw [z, hGa] at h; cases h
   rw [ZO hb]
   exact gx.ex b u (gG b u h)
  refine ⟨g2.gh _ _ ga, hoff, ⟨gG3, fun b u h => ?_⟩, ?_⟩
  ·have hb : b ≠ a := fun z => by rw [z, hFa] at h; cases h
   rw [ZO hb, gx.no b u h, upd_ne hb]
  unfold unlE at hu
  split at hu
  case isFalse => cases hu
  rename_i hc
  obtain ⟨hc1, hc2⟩ := hc
  cases hu
  obtain ⟨t2, s2, r1, r2, r3⟩ := Zao hc1
  dsimp only at r1 r2
  obtain ⟨v, rfl⟩ := ZdS r3
  have hna : a ∉ adsS (o :: ls2) := fun hb => by rw [g2.gn a hb] at ga; cases ga
  have hv : v = .ref a := by
   have : Dt G2 v (lkD a (kdOf (LT.erL c))) := LT.sub_ok r2 (g2.ok t2 (List.mem_cons_of_mem _ (List.mem_of_getElem? r1)))
   exact this.lkAt
  subst hv
  have hc3 := hc2
  rw [ZfU r1 (s := .node .dct a dx c) (by rw [LT.er])] at hc3
  have hen3 : ens (ls2.set i (some (t2.put p (.node .dct a dx c)))) = putE1 (ens ls2) (i, p) (.node .dct (LT.erL c)) := (ZfU r1 (s := .node .dct a dx c) (by rw [LT.er])).symm
  refine ⟨ls2.set i (some (t2.put p (.node .dct a dx c))), ?_, hen3, Zf6 r1 r2 rfl⟩
  have hcnt2 : ∀ b, (adsS (o :: ls2.set i (some (t2.put p (.node .dct a dx c))))).count b = (adsS (o :: ls2)).count b + [a].count b := fun b => by
   have h1 := Z9 (b := b) r1 (some (t2.put p (.node .dct a dx c)))
   have h2 := LT.put_cnt (b := b) (s' := .node .dct a dx c) r2
   have e1 : (oads (some t2)).count b = t2.ads.count b := rfl
   have e2 : (oads (some (t2.put p (.node .dct a dx c)))).count b = (t2.put p (.node .dct a dx c)).ads.count b := rfl
   have e3 : (LT.node .dct a dx c).ads.count b = [a].count b := by rw [LT.ads, hnc]; rfl
   have e4 : (LT.leaf (.ref a) (lkD a (kdOf (LT.erL c)))).ads.count b = 0 := rfl
   rw [Zr, Zr, List.count_append, List.count_append]
   omega
  have hmem2 : ∀ b, b ∈ adsS (o :: ls2.set i (some (t2.put p (.node .dct a dx c)))) → b = a ∨ b ∈ adsS (o :: ls2) := fun b hb => by
   have h1 := hcnt2 b
   have h2 := Zp.mp hb
   by_cases z : b = a
   ·exact .inl z
   ·refine .inr (Zp.mpr ?_)
    have : [a].count b = 0 := by simp [List.count_cons, Ne.symm z]
    omega
  refine ⟨fun b u h => ?_, fun b u h => ?_, List.nodup_iff_count.mpr fun b => ?_, fun b hb => ?_, fun b hb => ?_, fun t3 ht3 => ?_⟩
  ·rw [upd_ne fun z => by rw [z, hFa] at h; cases h]
   exact g2.fh b u h
  ·have hb : b ≠ a := fun z => by rw [z, ZeO] at h; cases h
   rw [ZO hb] at h
   rw [upd_ne hb]
   exact g2.gh b u h
  ·have h1 := hcnt2 b
   have h2 := List.nodup_iff_count.mp g2.nd b
   by_cases z : b = a
   ·subst z
    have h3 : (adsS (o :: ls2)).count b = 0 := List.count_eq_zero.mpr hna
    have : [b].count b = 1 := by simp
    omega
   ·have : [a].count b = 0 := by simp [List.count_cons, Ne.symm z]
    omega
  ·by_cases z : b = a
   ·rw [z, ZeO]
   ·rw [ZO z]
    rcases hmem2 b hb with h | h
    ·exact absurd h z
    ·exact g2.gn b h
  ·rcases hmem2 b hb with h | h
   ·rw [h]; exact hFa
   ·exact g2.fn b h
  ·have hnl : ∀ t4 : LT, some t4 ∈ o :: ls2 → a ∉ t4.ads := fun t4 h4 hb => hna (Zaz.mpr ⟨t4, h4, hb⟩)
   rcases List.mem_cons.mp ht3 with h | h
   ·exact LT.unl ga t3 (hnl t3 (by rw [← h]; exact List.mem_cons_self)) (ho t3 h.symm) (g2.ok t3 (by rw [← h]; exact List.mem_cons_self))
   ·have hn3 := Znj hc3 h
    obtain ⟨j, hj⟩ := List.getElem?_of_mem h
    rw [List.getElem?_set] at hj
    split at hj
    ·split at hj
     ·cases hj
      refine LT.unl_put ga (s' := .node .dct a dx c) ?_ rfl r2 (hnl t2 (List.mem_cons_of_mem _ (List.mem_of_getElem? r1))) hn3 (g2.ok t2 (List.mem_cons_of_mem _ (List.mem_of_getElem? r1)))
      refine LT.ok_node.mpr ⟨by rw [upd_same, ZdY], trivial, fun x hx => ?_⟩
      obtain ⟨n, hn⟩ := List.getElem?_of_mem hx
      have hl := Zlz hds
      have hlt : n < ds.length := by rw [← hl.1]; exact (List.getElem?_eq_some_iff.mp hn).1
      obtain ⟨l, v, hv⟩ := hl.2 n _ (List.getElem?_eq_getElem hlt)
      rw [hn] at hv
      cases hv
      exact Dt.up (show Dt G v _ from z2 _ hx) gG3
     ·cases hj
    ·have hm := List.mem_cons_of_mem o (List.mem_of_getElem? hj)
     exact LT.unl ga t3 (hnl t3 hm) hn3 (g2.ok t3 hm)
section
variable {K : PySem.W.Frag} {kp : Nat → Bool} {W : WX} {te ta tb : TE} {ts : TS} {x a : FX} {s : FS} {pl : FP} {wa wb : FW}
theorem Zo8 (pl : FP) (h : SS kp W ts s) : SS kp W (tLock ts) (sLock pl s) := ⟨fun {F G ls H o en'} g e D k => by
 obtain ⟨q, hq, e⟩ := bnd e
 obtain ⟨cs, hcs, e⟩ := bnd e
 obtain ⟨a, kvs, ha, L⟩ := ZjU (i := q.1) (p := q.2) g hcs
 have e := ZkZ e a
 refine ⟨a, .dK kvs, ha, trivial, fun od => ?_⟩
 obtain ⟨G1, ls1, g1, v1, e1, U⟩ := L od
 have e : (match s (lockE a (q.1, q.2) cs (ens ls)) with
  | some (.nx, e) => (unlE a (q.1, q.2) cs e).map fun e3 => (Ot.nx, e3)
  | some (.rt T, e) => if noLk T.data = true then (unlE a (q.1, q.2) cs e).map fun e3 => (Ot.rt T, e3) else none
  | _ => none) = some (o, en') := e
 rw [← e1] at e
 rw [← v1]
 cases z : s (ens ls1) with
 | none => rw [z] at e; cases e
 | some r =>
  obtain ⟨o1, e2⟩ := r
  rw [z] at e
  refine h g1 z ?_
  cases o1 with
  | nx =>
   obtain ⟨e3, h3, h4⟩ := Option.map_eq_some_iff.mp e
   cases h4
   intro G2 ls2 H2 E
   rw [← E.en] at h3
   obtain ⟨r1, r2, r3, ls3, r4, r5, r6⟩ := U none G2 ls2 H2 _ E.gd.non0 E.gx (fun _ z => nomatch z) h3
   have k2 := k _ ls3 _ ⟨r4.tail, r3, r5, ((Kept.of v1).trans E.kt).trans (Kept.of r6)⟩
   rw [r6] at k2
   exact ⟨r1, k2⟩
  | rt T =>
   have e : (if noLk T.data = true then (unlE a (q.1, q.2) cs e2).map fun e3 => (Ot.rt T, e3) else none) = some (o, en') := e
   split at e
   case isFalse => cases e
   rename_i hT
   obtain ⟨e3, h3, h4⟩ := Option.map_eq_some_iff.mp e
   cases h4
   intro T' G2 ls2 H2 g2 gx2 he2 hk2 hT2
   rw [← he2] at h3
   obtain ⟨r1, r2, r3, ls3, r4, r5, r6⟩ := U (some T') G2 ls2 H2 _ g2 gx2 (fun t z => by cases z; rw [hT2]; exact hT) h3
   exact ⟨r1, k T' _ ls3 _ r4 r3 r5 (((Kept.of v1).trans hk2).trans (Kept.of r6)) hT2⟩
  | bk => cases e
  | ct => cases e
  | ex C => cases e⟩
theorem Zn8 (pl : FP) (h : SX W te x) : SX W (tLockE te) (xLock pl x) := ⟨fun {F G ls H r en'} g e Q k kx => by
 obtain ⟨q, hq, e⟩ := bnd e
 obtain ⟨cs, hcs, e⟩ := bnd e
 obtain ⟨a, kvs, ha, L⟩ := ZjU (i := q.1) (p := q.2) g hcs
 have e := ZkZ e a
 refine ⟨a, .dK kvs, ha, trivial, fun od => ?_⟩
 obtain ⟨G1, ls1, g1, v1, e1, U⟩ := L od
 have e : (match x (lockE a (q.1, q.2) cs (ens ls)) with
  | some (.ok d, e) => if noLk d = true then (unlE a (q.1, q.2) cs e).map fun e3 => (Rx.ok d, e3) else none
  | _ => none) = some (r, en') := e
 rw [← e1] at e
 rw [← v1]
 cases z : x (ens ls1) with
 | none => rw [z] at e; cases e
 | some r0 =>
  obtain ⟨o1, e2⟩ := r0
  rw [z] at e
  cases o1 with
  | ok d =>
   have e : (if noLk d = true then (unlE a (q.1, q.2) cs e2).map fun e3 => (Rx.ok d, e3) else none) = some (r, en') := e
   split at e
   case isFalse => cases e
   rename_i hT
   obtain ⟨e3, h3, h4⟩ := Option.map_eq_some_iff.mp e
   cases h4
   refine h g1 z (fun d' hd' v G2 ls2 H2 E dv => ?_) (fun C hC => nomatch hC)
   cases hd'
   rw [← E.en] at h3
   obtain ⟨r1, r2, r3, ls3, r4, r5, r6⟩ := U none G2 ls2 H2 _ E.gd.non0 E.gx (fun _ z => nomatch z) h3
   exact ⟨r1, k d rfl v _ ls3 _ ⟨r4.tail, r3, r5, (r6.trans E.vs).trans v1⟩ (r2 v d hT dv)⟩
  | ex C => cases e⟩
/-- the keys of a locked dict -/
noncomputable def asLkK : PyData → Option (List PyData)
 | .dict ((.none, .tuple [.int _]) :: kd) => some (kd.map (·.1))
 | _ => none
theorem Zhh (ha : SX W ta a) : SIX W (iKeys ta) (iX asLkK a) := ⟨fun {F G ls H r en'} g e R k kx => by
 rcases Zn e with ⟨x, e1, h1, h2⟩ | ⟨C, h1, rfl⟩
 ·refine ha g h1 (fun d hd v G1 l1 H1 E1 dv => ?_) (fun C hC => nomatch hC)
  cases hd
  obtain ⟨ds, hd, rfl, rfl⟩ := Zx h2
  unfold asLkK at hd
  split at hd
  case h_2 => cases hd
  rename_i j kd
  cases hd
  obtain ⟨b, o, kvs, ds, rfl, rfl, hb, hds, hk⟩ := dv.lkOf
  have hl := hds.len
  rw [List.length_map] at hl
  have hm : kd.map (·.1) = kvs.map fun kv => keyD kv.1 := by
   rw [hk, List.map_fst_zip]
   rw [List.length_map]
   omega
  refine ⟨b, o, rfl, .inl ⟨kvs, E1.gd.gh _ _ hb, k _ rfl _ G1 l1 H1 _ _ E1 (by rw [hm, List.length_map]; exact walk_keys (d := b) (o := o) (kvs := kvs)) (fun H' e' => e' _ _ hb) fun i x Ha Hb Gi hi gg gi hy => ?_⟩⟩
  obtain ⟨rfl, key, v, hkv, rfl⟩ := hy
  refine ⟨Ex.refl _, keyD key, by rw [hm, List.getElem?_map, hkv]; rfl, ?_⟩
  cases key
  ·exact .int _
  ·exact .str _
 ·exact ha g h1 (fun d hd => nomatch hd) fun C' hC' => kx C' (rxc hC')⟩
/-- d[k], d locked -/
noncomputable def oDGetL : PyData → PyData → Option PyData
 | .dict ((.none, .tuple [.int _]) :: kd), y => (keyOf y).bind fun k => lookK k kd
 | _, _ => none
theorem Zi5 : OpOk (fun x y H2 Q => ∃ a v, x = .ref a ∧ DGet H2 a y (some v) ∧ Q v H2) oDGetL := ⟨fun {x y G d e r} dx dy h H gh Q q => by
 unfold oDGetL at h
 split at h
 case h_2 => cases h
 rename_i j kd
 obtain ⟨k, hk, h7⟩ := bnd h
 obtain rfl := Zee hk
 obtain ⟨b, o, kvs, ds, rfl, rfl, hb', hds, rfl⟩ := dx.lkOf
 obtain rfl := dy.keyV
 rcases Zdj (k := k) hds with ⟨v, e, h1, h2, h3⟩ | ⟨_, h2⟩
 ·rw [h2] at h7
  cases h7
  exact ⟨b, v, rfl, .inl ⟨kvs, k, .inr ⟨o, gh _ _ hb'⟩, rfl, h1.symm⟩, q v H (Ex.refl H) (h3.up (Zm gh))⟩
 ·rw [h2] at h7
  cases h7⟩
theorem Zmu (ha : SW ta wa) (hb : SW tb wb) : SW (tDGet ta tb) (wOp oDGetL wa wb) := ZY (r := fun x y H2 Q => ∃ a v, x = .ref a ∧ DGet H2 a y (some v) ∧ Q v H2) Zi5 ha hb
theorem ZmQ (ha : SX W ta a) (hb : SX W tb x) : SX W (tDGet ta tb) (xOp oDGetL a x) := ZcN (r := fun x y H2 Q => ∃ a v, x = .ref a ∧ DGet H2 a y (some v) ∧ Q v H2) Zi5 ha hb
end
end Kb
namespace Kb
open PySem L2 Evl
open Classical in
noncomputable def sAlias (pl : FP) (m j : Nat) (x1 : FX) (w2 : FW) (f : List PyData → Option PyData) (s3 : FS) : FS := fun en => (pl en).bind fun q => if q.1 = m ∧ m ≠ j ∧ m < en.length then (subE en q.1 q.2).bind fun S => ((en[m]?).join).bind fun T => match x1 (en.set m none) with
 | some (.ok d1, e1) => (w2 ((weak (e1.set m (some T))).set j (some S.data))).bind fun d2 => if f [d1, d2] = some (.bool true) then s3 ((e1.set m (some T)).set j none) else none
 | _ => none
 else none
theorem LT.sub_ads {s : LT} {p : List Nat} {t : LT} (h : t.sub p = some s) {b : Addr} (hb : b ∈ s.ads) : b ∈ t.ads := Zp.mpr (Nat.lt_of_lt_of_le (Zp.mp hb) (LT.sub_cnt h))
theorem ZmD {kp : Nat → Bool} {W : WX} {ta t1 t2 : TE} {tz t3 : TS} {pl : FP} {m j : Nat} {x1 : FX} {w2 : FW} {R : List PyData → PyData → Prop} {f : List PyData → Option PyData} {s3 : FS} (hj : kp j = false) (hf : ∀ {ds d}, f ds = some d → R ds d) (hp : SP ta pl) (h1 : SX W t1 x1) (hi : ∀ (σ : L2.St) (x : Option V) (H : Hp) (Q : VK), t1 (σ.set m none) H Q → t1 (σ.set j x) H Q) (h2 : SW t2 w2) (h3 : SS kp W t3 s3) :
  SS kp W (tSeq (tAsg ta (gName j)) (tSeq (tIfS (tNot (tB (tCall (PSp R) [] E0 (tCons t1 (tCons t2 tNil))))) tz tNext) (tForget j t3))) (sAlias pl m j x1 w2 f s3) := ⟨fun {F G ls H o en'} g e D k => by
 obtain ⟨q, hq, e⟩ := bnd e
 split at e
 case isFalse => cases e
 rename_i hc
 obtain ⟨hqm, hmj, hml⟩ := hc
 obtain ⟨S, hS, e⟩ := bnd e
 obtain ⟨T, hT, e⟩ := bnd e
 obtain ⟨t, s, q1, q2, q3⟩ := Zao hS
 obtain ⟨i, p⟩ := q
 dsimp only at hqm q1 q2
 subst hqm
 have hTt : T = t.er := by
  have : ((ens ls)[i]?).join = some t.er := by unfold ens; rw [List.getElem?_map, q1]; rfl
  rw [this] at hT
  exact (Option.some.inj hT).symm
 subst hTt
 refine hp.run g hq fun t' s' H1 x1' r1 r2 => ?_
 rw [q1] at r1
 cases r1
 rw [q2] at r2
 cases r2
 have g1 := g.stay x1'
 -- m is put aside
 have gp : Good F G (ls.set i none ++ [some t]) H1 := g1.pick (fun b => by
   rw [Zj, List.count_append]
   have := Zh5 q1 b
   have e1 : (adsS [some t]).count b = t.ads.count b := by show (t.ads ++ []).count b = _; rw [List.append_nil]
   omega) fun x hx => by
  rcases List.mem_append.mp hx with hx | hx
  ·rcases List.mem_or_eq_of_mem_set hx with z | z
   ·exact g1.ok x z
   ·cases z
  ·simp at hx; subst hx; exact g1.ok _ (List.mem_of_getElem? q1)
 have gs := gp.split
 split at e
 case h_2 => cases e
 rename_i d1 e1 hx1
 rw [← Zh1] at hx1
 show t1 ((vals ls).set j (some s.val)) H1 _
 refine hi (vals ls) (some s.val) H1 _ ?_
 rw [← Zdm]
 refine h1.run gs hx1 (fun d' hd' v1 G2 A2 H2 E2 dv1 => ?_) (fun C hC => nomatch hC)
 cases hd'
 obtain ⟨gm, gxm⟩ := gp.merge E2.gd E2.gx
 have hlA : A2.length = ls.length := by
  have := congrArg List.length E2.vs
  rw [Zu, Zu, List.length_set] at this
  exact this
 have hil : i < A2.length := by rw [hlA]; exact (List.getElem?_eq_some_iff.mp q1).1
 have hA2i : A2[i]? = some none := by
  have hv : (vals A2)[i]? = (vals (ls.set i none))[i]? := congrArg (fun l : L2.St => l[i]?) E2.vs
  rw [Zdm, List.getElem?_set_self (by rw [Zu]; omega)] at hv
  unfold vals at hv
  rw [List.getElem?_map, List.getElem?_eq_getElem hil] at hv
  rw [List.getElem?_eq_getElem hil]
  cases z : A2[i] with
  | none => rfl
  | some u => rw [z] at hv; cases hv
 have gl : Good F G2 (A2.set i (some t)) H2 := gm.pick (fun b => by
   rw [Zj, List.count_append]
   have h := Z9 (b := b) hA2i (some t)
   have e1 : (adsS [some t]).count b = t.ads.count b := by show (t.ads ++ []).count b = _; rw [List.append_nil]
   have e2 : (oads none).count b = 0 := rfl
   have e3 : (oads (some t)).count b = t.ads.count b := rfl
   omega) fun x hx => by
  rcases List.mem_or_eq_of_mem_set hx with z | z
  ·exact gm.ok x (List.mem_append_left _ z)
  ·cases z; exact gm.ok _ (List.mem_append_right _ List.mem_cons_self)
 have hen : ens (A2.set i (some t)) = e1.set i (some t.er) := by rw [ZaG, E2.en]
 have hva : vals (A2.set i (some t)) = vals ls := by
  rw [ZaC, E2.vs, Zdm, List.set_set]
  apply List.ext_getElem?
  intro n
  rw [List.getElem?_set]
  split
  ·rename_i z
   subst z
   unfold vals
   rw [List.length_map, if_pos (by omega), List.getElem?_map, q1]
   rfl
  ·rfl
 obtain ⟨d2, hd2, e⟩ := bnd e
 split at e
 case isFalse => cases e
 rename_i hfr
 rw [← hen] at hd2 e
 have dr := Zcq gl
 rw [hva] at dr
 have hdt : Dt (seen G2 H2 (adsS (A2.set i (some t)))) s.val s.er.data := LT.frz (ZcS gl.gn) s (fun a ha => Zg4 (Zaz.mpr ⟨t, List.mem_of_getElem? (i := i) (List.getElem?_set_self hil), LT.sub_ads q2 ha⟩)) (LT.sub_ok q2 (gl.ok t (List.mem_of_getElem? (i := i) (List.getElem?_set_self hil))))
 rw [q3] at hdt
 refine h2 (dr.set (j := j) hdt) hd2 H2 (Za3 gl.gh) _ fun v2 H3 x3 dv2 => ?_
 refine ⟨_, [d1, d2], .bool true, Zg (Za3 gl.gh) x3, .cons ((dv1.up (ZcS gl.gn)).up (Zm (Za3 gl.gh))) (.cons dv2 .nil), hf hfr, fun z H4 x4 dz => ?_⟩
 obtain rfl := dz.ob
 refine ⟨true, rfl, ?_⟩
 refine iteF ?_
 have g4 : Good F G2 (A2.set i (some t)) H4 := gl.stay (x3.trans x4)
 show t3 D (((vals ls).set j (some s.val)).set j none) H4
 rw [List.set_set, ← hva, ← Zdm]
 have g5 : Good F G2 ((A2.set i (some t)).set j none) H4 := g4.pick (fun b => Zko b) fun x hx => by
  rcases List.mem_or_eq_of_mem_set hx with z | z
  ·exact g4.ok x z
  ·cases z
 have e' : s3 (ens ((A2.set i (some t)).set j none)) = some (o, en') := by rw [Zh1]; exact e
 exact h3 g5 e' (k.at ⟨g5, gxm, rfl, (Kept.of hva).trans (Kept.set hj)⟩)⟩
end Kb
namespace L2
open PySem PySem.Spec PyProof.Rows
end L2
namespace L2
open PySem PySem.Spec PyProof.Rows
end L2
namespace Kb
open PySem L2 Evl
theorem AtV.succ {σ : L2.St} {o : Option V} : ∀ {is : List Nat} {vs : List V}, AtV (o :: σ) (is.map (· + 1)) vs → AtV σ is vs
 | [], [], h => h
 | i :: is, v :: vs, h => ⟨h.1, AtV.succ h.2⟩
 | [], _ :: _, h => h.elim
 | _ :: _, [], h => h.elim
end Kb
namespace Kb
open PySem L2 Evl
noncomputable def leafK (kd : List (PyData × PyData)) : List (Lab × OT) := kd.map fun x => (Lab.key ((keyOf x.1).getD (.inl 0)), OT.leaf x.2)
noncomputable def dctT : PyData → Option OT
 | .dict kd => if isDct kd = true then some (.node .dct (leafK kd)) else none
 | _ => none
theorem ZiH {G : Hp} (H : Hp) : ∀ {kvs : List (Key × V)} {ds : List PyData}, DtAll G (kvs.map (·.2)) ds → ∃ cs : List (Lab × LT), (LT.vals cs).map (fun x => (x.1.k, x.2)) = kvs ∧ LT.erL cs = leafK ((kvs.map fun kv => keyD kv.1).zip ds) ∧ (∀ x ∈ cs, x.2.ok G H) ∧ LT.adsL cs = []
 | [], _, .nil => ⟨[], rfl, rfl, fun _ h => (nomatch h), rfl⟩
 | (k, v) :: kvs, _, .cons (d := d) h r => by
  obtain ⟨cs, h1, h2, h3, h4⟩ := ZiH H r
  refine ⟨(.key k, .leaf v d) :: cs, ?_, ?_, ?_, ?_⟩
  ·show (k, v) :: (LT.vals cs).map _ = _
   rw [h1]
  ·show (Lab.key k, OT.leaf d) :: LT.erL cs = _
   rw [h2]
   simp [leafK, ZbQ]
  ·intro x hx
   rcases List.mem_cons.mp hx with rfl | hx
   ·exact h
   ·exact h3 x hx
  ·show [] ++ LT.adsL cs = []
   rw [h4]
   rfl
/-- dict(e), e told -/
noncomputable def nDctX (x : FX) : FN := fun en => bx (x en) fun d e1 => okx e1 (dctT d)
section
variable {K : PySem.W.Frag} {kp : Nat → Bool} {W : WX} {te ta tv : TE} {w : FW} {x : FX} {n : FN} {pl : FP}
theorem ZgU (ha : SX W ta x) : SN W (tCB rDictD (tCons ta tNil)) (nDctX x) := ⟨fun {F G ls H r en'} g e Q k kx => by
 rcases Zn e with ⟨d, e1, h1, h2⟩ | ⟨C, h1, rfl⟩
 ·refine ha g h1 (fun d' hd v G1 l1 H1 E1 dv => ?_) (fun C hC => nomatch hC)
  cases hd
  obtain ⟨T, hT, rfl, rfl⟩ := Zx h2
  unfold dctT at hT
  split at hT
  case h_2 => cases hT
  rename_i kd
  split at hT
  case isFalse => cases hT
  rename_i hi
  cases hT
  obtain ⟨a, kvs, ds, rfl, z1, z2, rfl⟩ := dv.dctOf hi
  refine ⟨a, _, rfl, .of (E1.gd.gh _ _ z1), fun p hp => ?_⟩
  have g2 := E1.gd.stay (Ex.new (o := HO.dK kvs) hp)
  obtain ⟨cs, c1, c2, c3, c4⟩ := ZiH (upd H1 p (.dK kvs)) z2
  refine k _ rfl (.node .dct p 0 cs) G1 l1 _ (ZaJ g2 rfl trivial ?_ (fresh_back E1.gd.gh hp) (fresh_back E1.gd.fh hp) (fun h => ?_) c3 c4) E1.gx E1.en E1.vs ?_
  ·rw [upd_same, ZdY, c1]
  ·obtain ⟨o, ho⟩ := E1.gd.has h
   rw [hp] at ho
   cases ho
  ·rw [LT.er, c2]
 ·exact ha g h1 (fun d hd => nomatch hd) fun C' hC' => kx C' (rxc hC')⟩
end
end Kb
namespace Kb
open PySem L2 Evl
noncomputable def kidsL (cs : List (Lab × LT)) : Ls := cs.map fun x => some x.2
noncomputable def kidsE (cs : List (Lab × OT)) : En := cs.map fun x => some x.2
theorem ZiV (cs : List (Lab × LT)) : ens (kidsL cs) = kidsE (LT.erL cs) := by simp [ens, kidsL, kidsE, LT.erL_map, Function.comp_def]
theorem Zih (cs : List (Lab × LT)) : adsS (kidsL cs) = LT.adsL cs := by rw [LT.adsL_map]; simp [adsS, kidsL, List.flatMap_map, oads]
theorem Zeo {ls : Ls} {i : Nat} {t : LT} (hi : ls[i]? = some (some t)) (b : Addr) : (adsS (ls.set i none)).count b + t.ads.count b = (adsS ls).count b := by
 have := Z9 (b := b) hi none
 have e1 : (oads (some t)).count b = t.ads.count b := rfl
 have e2 : (oads none).count b = 0 := rfl
 omega
section
variable {F G H : Hp} {ls : Ls} {i : Nat} {k : Kd} {a dx : Addr} {cs : List (Lab × LT)}
theorem Good.apart (g : Good F G ls H) (hi : ls[i]? = some (some (.node k a dx cs))) : Good (fadd F H (k.own a dx)) G (ls.set i none ++ kidsL cs) H := by
 have hc : ∀ b, (adsS (ls.set i none ++ kidsL cs)).count b + (k.own a dx).count b = (adsS ls).count b := fun b => by
  have h1 := Zeo hi b
  rw [Zj, List.count_append, Zih]
  rw [LT.ads_eq, List.count_append] at h1
  omega
 have hnd : ∀ b, (adsS ls).count b ≤ 1 := fun b => List.nodup_iff_count.mp g.nd b
 have hok := LT.ok_node.mp (g.ok _ (List.mem_of_getElem? hi))
 have hin : ∀ b ∈ adsS (ls.set i none ++ kidsL cs), b ∈ adsS ls := fun b hb => Zp.mpr (by have := hc b; have := Zp.mp hb; omega)
 refine ⟨fun b o h => ?_, g.gh, List.nodup_iff_count.mpr fun b => by have := hc b; have := hnd b; omega, fun b hb => g.gn b (hin b hb), fun b hb => ?_, fun t ht => ?_⟩
 ·unfold fadd at h
  split at h
  ·exact h
  ·exact g.fh b o h
 ·unfold fadd
  rw [if_neg fun z => by have := hc b; have := hnd b; have := Zp.mp z; have := Zp.mp hb; omega]
  exact g.fn b (hin b hb)
 ·rcases List.mem_append.mp ht with ht | ht
  ·rcases List.mem_or_eq_of_mem_set ht with ht | ht
   ·exact g.ok t ht
   ·cases ht
  ·obtain ⟨x, hx, e⟩ := List.mem_map.mp ht
   cases e
   exact hok.2.2 x hx
theorem Ziy (a b : Ls) : vals (a ++ b) = vals a ++ vals b := by simp [vals]
theorem ZoV (a b : Ls) : ens (a ++ b) = ens a ++ ens b := by simp [ens]
/-- parts that are all there -/
noncomputable def allS : En → Option (List OT)
 | [] => some []
 | some T :: r => (allS r).map (T :: ·)
 | none :: _ => none
theorem ZhB : ∀ {cs : List (Lab × LT)} {Kd : Ls}, vals Kd = vals (kidsL cs) → ∃ cs' : List (Lab × LT), Kd = kidsL cs' ∧ LT.vals cs' = LT.vals cs ∧ cs'.map (·.1) = cs.map (·.1)
 | [], Kd, h => by
  cases Kd with
  | nil => exact ⟨[], rfl, rfl, rfl⟩
  | cons a b => cases h
 | (l, t) :: cs, Kd, h => by
  cases Kd with
  | nil => cases h
  | cons o r =>
   have h1 := List.cons.inj h
   obtain ⟨cs', e1, e2, e3⟩ := ZhB (cs := cs) (Kd := r) h1.2
   cases o with
   | none => cases h1.1
   | some t' =>
    have hv : t'.val = t.val := Option.some.inj h1.1
    refine ⟨(l, t') :: cs', by rw [e1]; rfl, ?_, by simp [e3]⟩
    show (l, t'.val) :: LT.vals cs' = (l, t.val) :: LT.vals cs
    rw [hv, e2]
theorem Ze8 : ∀ (cs : List (Lab × OT)), allS (kidsE cs) = some (cs.map (·.2))
 | [] => rfl
 | (l, t) :: r => by
  show (allS (kidsE r)).map _ = _
  rw [Ze8 r]
  rfl
noncomputable def impl (n i : Nat) (k : Kd) (labs : List Lab) (e : En) : Option En := (allS (e.drop n)).map fun Ts => (e.take n).set i (some (.node k (labs.zip Ts)))
theorem ZfO : ∀ (cs : List (Lab × OT)), (cs.map (·.1)).zip (cs.map (·.2)) = cs
 | [] => rfl
 | (l, t) :: r => by simp [ZfO r]
/-- put together again -/
theorem Good.join {G' H' : Hp} {A B : Ls} (g : Good F G ls H) (hi : ls[i]? = some (some (.node k a dx cs))) (g' : Good (fadd F H (k.own a dx)) G' (A ++ B) H') (gx : Gx (fadd F H (k.own a dx)) G G') (hv : vals B = vals (ls.set i none ++ kidsL cs)) :
  ∃ l3, Good F G' (A ++ l3) H' ∧ Gx F G G' ∧ impl ls.length i k (cs.map (·.1)) (ens B) = some (ens l3) ∧ vals l3 = vals ls := by
 have hnd : ∀ b, (adsS ls).count b ≤ 1 := fun b => List.nodup_iff_count.mp g.nd b
 obtain ⟨k1, k2, k3⟩ := LT.ok_node.mp (g.ok _ (List.mem_of_getElem? hi))
 have hlB : B.length = ls.length + cs.length := by
  have := congrArg List.length hv
  simp [Zu, kidsL] at this
  exact this
 have eB : B = B.take ls.length ++ B.drop ls.length := (List.take_append_drop _ _).symm
 have hl1 : (B.take ls.length).length = ls.length := by rw [List.length_take]; omega
 have hv1 : vals (B.take ls.length) = vals (ls.set i none) ∧ vals (B.drop ls.length) = vals (kidsL cs) := by
  rw [eB, Ziy, Ziy] at hv
  exact List.append_inj hv (by rw [Zu, Zu, List.length_set, hl1])
 obtain ⟨cs', e1, e2, e3⟩ := ZhB hv1.2
 have hil : i < ls.length := (List.getElem?_eq_some_iff.mp hi).1
 have hB1 : (B.take ls.length)[i]? = some none := by
  have h1 : (vals (B.take ls.length))[i]? = some none := by
   rw [hv1.1]
   unfold vals
   rw [List.map_set, List.getElem?_set, if_pos rfl, List.length_map, if_pos hil]
   rfl
  unfold vals at h1
  rw [List.getElem?_map] at h1
  obtain ⟨o, ho, ho2⟩ := Option.map_eq_some_iff.mp h1
  cases o with
  | none => exact ho
  | some z => cases ho2
 have ownF : ∀ b ∈ k.own a dx, ∃ o, H b = some o ∧ fadd F H (k.own a dx) b = some o ∧ F b = none ∧ G b = none := fun b hb => by
  have hm : b ∈ adsS ls := Zaz.mpr ⟨_, List.mem_of_getElem? hi, LT.ads_node.mpr (.inl hb)⟩
  obtain ⟨o, ho⟩ := g.has hm
  exact ⟨o, ho, by unfold fadd; rw [if_pos hb]; exact ho, g.fn b hm, g.gn b hm⟩
 have hFF : ∀ b o, F b = some o → fadd F H (k.own a dx) b = some o := fun b o h => by
  unfold fadd
  rw [if_neg fun z => by obtain ⟨_, _, _, h2, _⟩ := ownF b z; rw [h2] at h; cases h]
  exact h
 have hcnt : ∀ b, (adsS (A ++ (B.take ls.length).set i (some (.node k a dx cs')))).count b = (adsS (A ++ B)).count b + (k.own a dx).count b := fun b => by
  have e5 : (adsS B).count b = (adsS (B.take ls.length)).count b + (LT.adsL cs').count b := by
   conv => lhs; rw [eB]
   rw [Zj, List.count_append, e1, Zih]
  rw [Zj, Zj, List.count_append, List.count_append]
  have h1 := Z9 (b := b) hB1 (some (.node k a dx cs'))
  have h2 : (oads (some (LT.node k a dx cs'))).count b = (k.own a dx).count b + (LT.adsL cs').count b := by
   show (LT.node k a dx cs').ads.count b = _
   rw [LT.ads_eq, List.count_append]
  have h3 : (oads none).count b = 0 := rfl
  omega
 have hno : ∀ b ∈ k.own a dx, (adsS (A ++ B)).count b = 0 := fun b hb => by
  rw [List.count_eq_zero]
  intro hb2
  obtain ⟨o, _, h2, _⟩ := ownF b hb
  rw [g'.fn b hb2] at h2
  cases h2
 have hown1 : ∀ b, (k.own a dx).count b ≤ 1 := fun b => by
  have h1 := Zeo hi b
  rw [LT.ads_eq, List.count_append] at h1
  have := hnd b
  omega
 have hcase : ∀ b ∈ adsS (A ++ (B.take ls.length).set i (some (.node k a dx cs'))), b ∈ adsS (A ++ B) ∨ b ∈ k.own a dx := fun b hb => by
  have h1 := Zp.mp hb
  rw [hcnt b] at h1
  by_cases z : 0 < (k.own a dx).count b
  ·exact .inr (Zp.mpr z)
  ·exact .inl (Zp.mpr (by omega))
 have gx2 : Gx F G G' := ⟨gx.ex, fun b o h => gx.no b o (hFF b o h)⟩
 refine ⟨(B.take ls.length).set i (some (.node k a dx cs')), ⟨fun b o h => g'.fh b o (hFF b o h), g'.gh, List.nodup_iff_count.mpr fun b => ?_, fun b hb => ?_, fun b hb => ?_, fun t ht => ?_⟩, gx2, ?_, ?_⟩
 ·rw [hcnt b]
  by_cases z : b ∈ k.own a dx
  ·have := hno b z
   have := hown1 b
   omega
  ·rw [List.count_eq_zero.mpr z]
   exact List.nodup_iff_count.mp g'.nd b
 ·rcases hcase b hb with hb | hb
  ·exact g'.gn b hb
  ·obtain ⟨o, _, h2, _, h4⟩ := ownF b hb
   rw [gx.no b o h2]
   exact h4
 ·rcases hcase b hb with hb | hb
  ·have := g'.fn b hb
   unfold fadd at this
   split at this
   ·rename_i z
    obtain ⟨o, h1, _⟩ := ownF b z
    rw [this] at h1
    cases h1
   ·exact this
  ·exact (ownF b hb).choose_spec.2.2.1
 ·rcases List.mem_append.mp ht with ht | ht
  ·exact g'.ok t (List.mem_append_left _ ht)
  ·rcases List.mem_or_eq_of_mem_set ht with ht | ht
   ·exact g'.ok t (List.mem_append_right _ (List.mem_of_mem_take ht))
   ·cases ht
    have hH : ∀ b ∈ k.own a dx, H' b = H b := fun b hb => by
     obtain ⟨o, h1, h2, _⟩ := ownF b hb
     rw [h1, g'.fh b o h2]
    refine LT.ok_node.mpr ⟨?_, ?_, fun x hx => g'.ok _ (List.mem_append_right _ ?_)⟩
    ·rw [hH a LT.mem_own, k1, e2]
    ·cases k <;> try trivial
     exact (hH dx (by simp [Kd.own])).trans k2
    ·rw [eB, e1]
     exact List.mem_append_right _ (List.mem_map.mpr ⟨x, hx, rfl⟩)
 ·unfold impl
  have h1 : (ens B).drop ls.length = kidsE (LT.erL cs') := by
   rw [← ZiV, ← e1]
   unfold ens
   rw [List.map_drop]
  have h2 : (ens B).take ls.length = ens (B.take ls.length) := by unfold ens; rw [List.map_take]
  rw [h1, Ze8, h2, ZaG]
  have : cs.map (·.1) = (LT.erL cs').map (·.1) := by rw [LT.erL_map, List.map_map, ← e3]; rfl
  rw [LT.er, this]
  show some _ = _
  dsimp only
  rw [ZfO]
 ·rw [ZaC, hv1.1]
  apply List.ext_getElem?
  intro j
  rw [List.getElem?_set]
  split
  ·rename_i z
   subst z
   rw [Zu, List.length_set, if_pos hil]
   unfold vals
   rw [List.getElem?_map, hi]
   rfl
  ·rename_i z
   unfold vals
   rw [List.map_set, List.getElem?_set, if_neg z]
end
noncomputable def fstNE : List (Nat × List Nat) → Option Nat
 | [] => none
 | (_, []) :: r => fstNE r
 | (i, _ :: _) :: _ => some i
noncomputable def trn0 (n : Nat) : List Nat → Option (Nat × List Nat)
 | [] => none
 | j :: r => some (n + j, r)
noncomputable def trn (n i : Nat) (q : Nat × List Nat) : Option (Nat × List Nat) := if q.1 = i then trn0 n q.2 else some q
theorem ZdX {α : Type} {l : List (Option α)} {i : Nat} {t : α} (h : (l[i]?).join = some t) : l[i]? = some (some t) := by
 cases z : l[i]? with
 | none => rw [z] at h; cases h
 | some o => rw [z] at h; cases o with
  | none => cases h
  | some x => cases h; rfl
noncomputable def trns (n i : Nat) : List (Nat × List Nat) → Option (List (Nat × List Nat))
 | [] => some []
 | q :: r => (trn n i q).bind fun q' => (trns n i r).map (q' :: ·)
noncomputable def callC (fd : FD) (ds : List PyData) (is : List Nat) (en : En) : Option (Rx OT × En) := (pullE is en).bind fun r => (fd (r.1 ++ ds.map OT.leaf)).bind fun q => match q.1 with
 | .ok T => some (.ok T, putE is q.2 r.2)
 | .ex C => some (.ex C, putE is q.2 r.2)
noncomputable def callP (fd : FD) (ds : List PyData) : Nat → List (Nat × List Nat) → En → Option (Rx OT × En)
 | 0, _, _ => none
 | f + 1, qs, en => match fstNE qs with
  | none => callC fd ds (qs.map (·.1)) en
  | some i => match (en[i]?).join with
   | some (.node k cs) => (trns en.length i qs).bind fun qs' => (callP fd ds f qs' (en.set i none ++ kidsE cs)).bind fun r => (impl en.length i k (cs.map (·.1)) r.2).map fun e => (r.1, e)
   | _ => none
noncomputable def subLq (ls : Ls) (q : Nat × List Nat) : Option LT := ((ls[q.1]?).join).bind fun t => t.sub q.2
noncomputable def subsL (ls : Ls) : List (Nat × List Nat) → List LT → Prop
 | [], [] => True
 | q :: qs, s :: ss => subLq ls q = some s ∧ subsL ls qs ss
 | _, _ => False
theorem Zoq {ls : Ls} {i : Nat} {k : Kd} {a dx : Addr} {cs : List (Lab × LT)} (hi : ls[i]? = some (some (.node k a dx cs))) {q q' : Nat × List Nat} (h : trn ls.length i q = some q') {s : LT} (hs : subLq ls q = some s) : subLq (ls.set i none ++ kidsL cs) q' = some s := by
 obtain ⟨i', p⟩ := q
 by_cases z : i' = i
 ·subst z
  have h : trn0 ls.length p = some q' := by
   rw [← h]; unfold trn; rw [if_pos rfl]
  cases p with
  | nil => cases h
  | cons j r =>
   cases h
   unfold subLq at hs ⊢
   rw [hi] at hs
   have hs : ((cs[j]?).bind fun x => x.2.sub r) = some s := hs
   obtain ⟨x, hx, hs⟩ := bnd hs
   dsimp only
   rw [List.getElem?_append_right (by rw [List.length_set]; omega), List.length_set, Nat.add_sub_cancel_left]
   unfold kidsL
   rw [List.getElem?_map, hx]
   exact hs
 ·have h : some (i', p) = some q' := by
   rw [← h]; unfold trn; exact (if_neg z).symm
  cases h
  unfold subLq at hs ⊢
  obtain ⟨t, ht, hs⟩ := bnd hs
  have ht := ZdX ht
  have hl := (List.getElem?_eq_some_iff.mp ht).1
  dsimp only
  rw [List.getElem?_append_left (by rw [List.length_set]; exact hl), List.getElem?_set_ne (fun e => z e.symm), ht]
  exact hs
theorem Zim {ls : Ls} {i : Nat} {k : Kd} {a dx : Addr} {cs : List (Lab × LT)} (hi : ls[i]? = some (some (.node k a dx cs))) : ∀ {qs qs' : List (Nat × List Nat)} {ss : List LT}, trns ls.length i qs = some qs' → subsL ls qs ss → subsL (ls.set i none ++ kidsL cs) qs' ss
 | [], qs', ss, h, hs => by
  cases h
  cases ss with
  | nil => trivial
  | cons a b => exact hs.elim
 | q :: qs, qs', ss, h, hs => by
  obtain ⟨q', h1, h2⟩ := bnd h
  obtain ⟨r, h3, rfl⟩ := Option.map_eq_some_iff.mp h2
  cases ss with
  | nil => exact hs.elim
  | cons s ss => exact ⟨Zoq hi h1 hs.1, Zim hi h3 hs.2⟩
theorem Zj1 {ls : Ls} : ∀ {qs : List (Nat × List Nat)} {ss : List LT}, fstNE qs = none → subsL ls qs ss → AtV (vals ls) (qs.map (·.1)) (ss.map LT.val)
 | [], [], _, _ => trivial
 | [], _ :: _, _, h => h.elim
 | _ :: _, [], _, h => h.elim
 | (i, []) :: qs, s :: ss, hn, h => by
  refine ⟨?_, Zj1 (qs := qs) hn h.2⟩
  obtain ⟨t, ht, hs⟩ := bnd h.1
  have ht : ls[i]? = some (some t) := ZdX ht
  have : t = s := by cases t <;> (cases hs; rfl)
  subst this
  dsimp only
  unfold vals
  rw [List.getElem?_map, ht]
  rfl
 | (i, j :: p) :: qs, _ :: _, hn, _ => by cases hn
section
variable {W : WX} {ta : TA} {fd : FD}
theorem Zlf {Q : VK} {E : XK} (hfd : ∀ as r bs, fd as = some (r, bs) → bs.length = as.length) {ds : List PyData} {vs : List V} {r : Rx OT} : ∀ {f : Nat} {qs : List (Nat × List Nat)} {F G H : Hp} {ls : Ls} {en' : En} {ss : List LT}, Good F G ls H → DtAll G vs ds → callP fd ds f qs (ens ls) = some (r, en') → subsL ls qs ss →
  (∀ T0, r = .ok T0 → ∀ T G' ls' H', Good F G' (some T :: ls') H' → Gx F G G' → ens ls' = en' → vals ls' = vals ls → T.er = T0 → Q T.val H') → (∀ C, r = .ex C → ∀ G' ls' H', End F G ls G' ls' H' en' → E (.ref C) none H') →
  ISp fd (ss.map LT.val ++ vs) H Q E
 | 0, qs, F, G, H, ls, en', ss, g, dv, h, hs, k, kx => by cases h
 | f + 1, qs, F, G, H, ls, en', ss, g, dv, h, hs, k, kx => by
  unfold callP at h
  split at h
  ·rename_i hn
   obtain ⟨us, hus, hI⟩ := Zd0 (Q := Q) (E := E) g dv h hfd k kx
   rw [AtV.uniq (Zj1 hn hs) hus]
   exact hI
  ·rename_i i hn
   split at h
   case h_2 => cases h
   rename_i kd cs0 hj
   obtain ⟨t, q1, q2⟩ := Zd8 hj
   obtain ⟨a, dx, cs, rfl, q3⟩ := Z3 q2
   obtain ⟨qs', h1, h2⟩ := bnd h
   obtain ⟨⟨r1, e1⟩, h3, h4⟩ := bnd h2
   obtain ⟨e2, h5, h6⟩ := Option.map_eq_some_iff.mp h4
   cases h6
   have hlen : (ens ls).length = ls.length := by simp [ens]
   rw [hlen] at h1 h5
   have hen : (ens ls).set i none ++ kidsE cs0 = ens (ls.set i none ++ kidsL cs) := by
    rw [ZoV, ZiV, q3]
    congr 1
    simp [ens, List.map_set]
   rw [hen] at h3
   have hlab : cs0.map (·.1) = cs.map (·.1) := by rw [← q3, LT.erL_map, List.map_map]; rfl
   rw [hlab] at h5
   refine Zlf hfd (g.apart q1) dv h3 (Zim q1 h1 hs) (fun T0 hT0 T G' ls' H' g' gx he hv hT => ?_) (fun C hC G' ls' H' E1 => ?_)
   ·obtain ⟨l3, g3, gx3, en3, v3⟩ := g.join (A := [some T]) (B := ls') q1 g' gx hv
    rw [he, h5] at en3
    exact k T0 hT0 T G' l3 H' g3 gx3 (Option.some.inj en3).symm v3 hT
   ·obtain ⟨l3, g3, gx3, en3, v3⟩ := g.join (A := []) (B := ls') q1 E1.gd E1.gx E1.vs
    rw [E1.en, h5] at en3
    exact kx C hC G' l3 H' ⟨g3, gx3, (Option.some.inj en3).symm, v3⟩
noncomputable def posA : List FP → En → Option (List (Nat × List Nat))
 | [], _ => some []
 | p :: r, en => (p en).bind fun q => (subE en q.1 q.2).bind fun _ => (posA r en).map (q :: ·)
/-- a call with own arguments at places, then data that are told -/
noncomputable def nCallP (fd : FD) (pls : List FP) (w : DE → Option (List PyData)) : FN := fun en => (posA pls en).bind fun qs => (w (strong en)).bind fun ds => callP fd ds 12 qs en
theorem Zmp {fd2 : FD} (h12 : ∀ as r, fd as = some r → fd2 as = some r) (hfd : ∀ as r bs, fd as = some (r, bs) → bs.length = as.length) {qs : List (Nat × List Nat)} {ds : List PyData} {w : DE → Option (List PyData)} (hw : SA ta w) {F G H1 : Hp} {ls : Ls} {r : Rx OT} {en' : En} {Q : VK} (g1 : Good F G ls H1) (h2 : w (strong (ens ls)) = some ds) (e2 : callP fd ds 12 qs (ens ls) = some (r, en')) {ss : List LT} (hss : subsL ls qs ss)
  (k : ∀ T0, r = .ok T0 → ∀ T G' ls' H', Good F G' (some T :: ls') H' → Gx F G G' → ens ls' = en' → vals ls' = vals ls → T.er = T0 → Q T.val H') (kx : ∀ C, r = .ex C → XC W F G ls C en') {E : XK} (hE : (∀ as C bs, fd as ≠ some (.ex C, bs)) ∨ E = fun cls d H => W cls d (vals ls) H) : ta (vals ls) H1 fun vs H2 => ISp fd2 (ss.map LT.val ++ vs) H2 Q E := by
 refine hw (Zae g1) h2 H1 g1.gh _ fun vs H2 x2 dv => ?_
 obtain ⟨g2, gx2⟩ := g1.grow x2
 refine (Zlf (Q := Q) (E := E) hfd g2 dv e2 hss (fun T0 hT0 T G' ls' H' g' gx he hv hT => k T0 hT0 T G' ls' H' g' (gx2.trans gx) he hv hT) (fun C hC G' ls' H' E2 => ?_)).imp h12
 rcases hE with hE | hE
 ·subst hC
  exfalso
  have key : ∀ f qs en e', callP fd ds f qs en ≠ some (.ex C, e') := by
   intro f
   induction f with
   | zero => intro qs en e' z; cases z
   | succ f ih =>
    intro qs en e' z
    unfold callP at z
    split at z
    ·obtain ⟨r', hr', h3⟩ := bnd z
     obtain ⟨⟨q1, q2⟩, hq', h4⟩ := bnd h3
     cases q1 with
     | ok T => cases h4
     | ex C' => exact hE _ _ _ hq'
    ·split at z
     case h_2 => cases z
     obtain ⟨_, _, z⟩ := bnd z
     obtain ⟨⟨r1, e1⟩, h3, h4⟩ := bnd z
     obtain ⟨e2, h5, h6⟩ := Option.map_eq_some_iff.mp h4
     cases h6
     exact ih _ _ _ h3
  exact key _ _ _ _ e2
 ·rw [hE]
  exact kx C hC G' ls' H' ⟨E2.gd, gx2.trans E2.gx, E2.en, E2.vs⟩
noncomputable def insNoP (en : En) (q : Nat × List Nat) (C : Addr) (m : Str) : Bool := match subE en q.1 q.2 with
 | some (.node (.ins C') cs) => decide (C' = C) && noF m cs
 | _ => false
noncomputable def nAskP (C : Addr) (m : Str) (fd : FD) (pl : FP) (w : DE → Option (List PyData)) : FN := fun en => (pl en).bind fun q => if insNoP en q C m = true then nCallP fd [pl] w en else none
theorem ZlB {F G H : Hp} {ls : Ls} {q : Nat × List Nat} {C : Addr} {m : Str} (g : Good F G ls H) (h : insNoP (ens ls) q C m = true) {t s : LT} (h1 : ls[q.1]? = some (some t)) (h2 : t.sub q.2 = some s) : ∃ a dx fs, s.val = .ref a ∧ H a = some (.ins C dx fs) ∧ fs.lookup m = none := by
 unfold insNoP at h
 split at h
 case h_2 => cases h
 rename_i C' cs0 he
 rw [Bool.and_eq_true] at h
 obtain ⟨h3, h4⟩ := h
 have h3 := of_decide_eq_true h3
 subst h3
 obtain ⟨t', s', q1, q2, q3⟩ := Zao he
 rw [h1] at q1
 cases q1
 rw [h2] at q2
 cases q2
 obtain ⟨a, dx, c, rfl, rfl⟩ := Z3 q3
 exact ⟨a, dx, _, rfl, (g.at_sub h1 h2).1, Zir h4⟩
section
variable {C : Addr} {m : Str} {te : TE} {pl : FP}
theorem ZrN (hp : SP te pl) {fd : FD} {w : DE → Option (List PyData)} {F G H : Hp} {ls : Ls} {r : Rx OT} {en' : En} (g : Good F G ls H) (e : nAskP C m fd pl w (ens ls) = some (r, en')) {R : V → Hp → Prop} {T : V → Hp → Prop}
  (k : ∀ qs ds s H1, w (strong (ens ls)) = some ds → callP fd ds 12 qs (ens ls) = some (r, en') → subsL ls qs [s] → Ex H H1 → R s.val H1) (hRT : ∀ v H1, R v H1 → (∃ a dx fs, v = .ref a ∧ H1 a = some (.ins C dx fs) ∧ fs.lookup m = none) → T v H1) : te (vals ls) H T := by
 obtain ⟨q, h0, e⟩ := bnd e
 split at e
 case isFalse => cases e
 rename_i hz
 obtain ⟨qs, h1, e1⟩ := bnd e
 obtain ⟨ds, h2, e2⟩ := bnd e1
 refine hp.run g h0 fun t s H1 x1 q1 q2 => ?_
 refine hRT _ _ (k qs ds s H1 h2 e2 ?_ x1) ?_
 ·obtain ⟨q', h0', h3⟩ := bnd h1
  rw [h0] at h0'
  cases h0'
  obtain ⟨S, _, h4⟩ := bnd h3
  obtain ⟨r', h5, rfl⟩ := Option.map_eq_some_iff.mp h4
  cases h5
  refine ⟨?_, trivial⟩
  unfold subLq
  rw [q1]
  exact q2
 ·obtain ⟨a, dx, fs, z1, z2, z3⟩ := ZlB g hz q1 q2
  exact ⟨a, dx, fs, z1, x1 _ _ z2, z3⟩
theorem ZoF (hp : SP te pl) (hfd : ∀ as r bs, fd as = some (r, bs) → bs.length = as.length) {w : DE → Option (List PyData)} (hw : SA ta w) : SN W (tMeth C m (ISp fd) [] E0 te ta) (nAskP C m (noX fd) pl w) := ⟨fun {F G ls H r en'} g e Q k kx => by
 refine ZrN hp g e (R := fun v H1 => ta (vals ls) H1 fun vs H2 => ISp fd (v :: vs) H2 Q E0) (fun qs ds s H1 h2 e2 hss x1 => ?_) (fun v H1 h1 ⟨a, dx, fs, q1, q2, q3⟩ => ?_)
 ·exact Zmp (E := E0) (fd2 := fd) (fun as r h => (ZJ h).1) (fun as r bs h => hfd as r bs (ZJ h).1) hw (g.stay x1) h2 e2 hss k kx (.inl fun as C bs h => by
   obtain ⟨_, T, hT⟩ := ZJ h
   cases hT)
 ·have e2 : ∀ (x : List V), x ++ [] = x := List.append_nil
  refine ⟨a, dx, fs, q1, q2, q3, ?_⟩
  simp only [e2]
  exact h1⟩
end
end
end Kb
namespace Kb
open PySem L2 Evl
theorem Zo7 (dx : Addr) (cs : List (Lab × LT)) : hoOf .tup dx (LT.vals cs) = .tup (cs.map fun x => x.2.val) := by
 simp [hoOf, LT.vals, Function.comp_def]
end Kb
namespace L2
open PySem PySem.Spec PyProof.Rows
end L2
namespace Kb
open PySem L2 Evl
/-- e.m(..), e told, all told -/
noncomputable def nAskT (C : Addr) (m : Str) (fd : FD) (x : FX) (args : FA) : FN := fun en => bx (x en) fun d e1 => if isI C m d = true then bx (args e1) fun ds e2 => ((pullE [] e2).bind fun r => (fd (r.1 ++ (d :: ds).map OT.leaf)).bind fun q => match q.1 with
 | .ok T => some (.ok T, putE [] q.2 r.2)
 | .ex C => some (.ex C, putE [] q.2 r.2)) else none
/-- n().m(), n() a new thing -/
noncomputable def nAskNew (C : Addr) (m : Str) (fd : FD) (n : FN) : FN := fun en => bx (n en) fun T e1 => if insNo [some T] 0 C m = true then ((pullE [0] (some T :: e1)).bind fun r => (fd (r.1 ++ ([] : List PyData).map OT.leaf)).bind fun q => match q.1 with
 | .ok R => some (.ok R, (putE [0] q.2 r.2).tail)
 | .ex C => some (.ex C, (putE [0] q.2 r.2).tail)) else none
/-- f(own, n()), n() a new thing -/
noncomputable def nCallNew2 (fd : FD) (i : Nat) (n : FN) : FN := fun en => ((en[i]?).join).bind fun _ => bx (n en) fun T e1 => ((pullE [i + 1, 0] (some T :: e1)).bind fun r => (fd (r.1 ++ ([] : List PyData).map OT.leaf)).bind fun q => match q.1 with
 | .ok R => some (.ok R, (putE [i + 1, 0] q.2 r.2).tail)
 | .ex C => some (.ex C, (putE [i + 1, 0] q.2 r.2).tail))
/-- a, b = n(), n() a tuple of one's own -/
noncomputable def sUnp2 (i j : Nat) (n : FN) : FS := fun en => bs (n en) fun T e1 => match T with
 | .node .tup [(_, A), (_, B)] => some (.nx, (e1.set i (some A)).set j (some B))
 | _ => none
section
variable {W : WX} {te tn : TE} {ta : TA} {x : FX} {n : FN} {args : FA} {fd : FD} {C : Addr} {m : Str}
theorem ZgX (hfd : ∀ as r bs, fd as = some (r, bs) → bs.length = as.length) (hx : SX W te x) (ha : SXA W ta args) : SN W (tMeth C m (ISp fd) [] E0 te ta) (nAskT C m (noX fd) x args) := ⟨fun {F G ls H r en'} g e Q k kx => by
 rcases Zn e with ⟨d, e1, h1, h2⟩ | ⟨C', h1, rfl⟩
 ·refine hx g h1 (fun d' hd' v G1 l1 H1 E1 dv => ?_) (fun C hC => nomatch hC)
  cases hd'
  split at h2
  case isFalse => cases h2
  rename_i hi
  obtain ⟨p, dx, fs, rfl, hp, hl⟩ := ZqV dv hi
  refine ⟨p, dx, fs, rfl, E1.gd.gh _ _ hp, hl, ?_⟩
  rw [← E1.vs]
  rw [← E1.en] at h2
  rcases Zn h2 with ⟨ds, e2, h3, h4⟩ | ⟨C', h3, rfl⟩
  ·refine ha E1.gd h3 (fun ds' hds vs G2 l2 H2 E2 dvs => ?_) (fun C hC => nomatch hC)
   cases hds
   rw [← E2.en] at h4
   obtain ⟨us, hus, hI⟩ := Zd0 (Q := Q) (E := E0) E2.gd (.cons (dv.up E2.gx.ex) dvs) h4 (fun as r bs h => hfd as r bs (ZJ h).1) (fun T0 hT0 T G' ls' H' g' gx he hv hT => k T0 hT0 T G' ls' H' g' (E1.gx.trans (E2.gx.trans gx)) he (hv.trans (E2.vs.trans E1.vs)) hT) (fun C hC => by
    subst hC
    obtain ⟨r', hr', h5⟩ := bnd h4
    obtain ⟨⟨q1, q2⟩, hq', h6⟩ := bnd h5
    obtain ⟨_, T, hT⟩ := ZJ hq'
    subst hT
    cases h6)
   cases us with
   | cons a b => exact hus.elim
   | nil =>
    rw [List.append_nil]
    exact hI.imp fun as r h => (ZJ h).1
  ·exact ha E1.gd h3 (fun d hd => nomatch hd) fun C' hC' G' ls' H' E2 => by rw [E1.vs]; exact kx C' (rxc hC') G' ls' H' (E1.trans E2)
 ·exact hx g h1 (fun d hd => nomatch hd) fun C' hC' => kx C' (rxc hC')⟩
theorem Ze2 (hfd : ∀ as r bs, fd as = some (r, bs) → bs.length = as.length) (hn : SN W tn n) : SN W (tMeth C m (ISp fd) [] E0 tn tNil) (nAskNew C m (noX fd) n) := ⟨fun {F G ls H r en'} g e Q k kx => by
 rcases Zn e with ⟨x, e1, h1, h2⟩ | ⟨C', h1, rfl⟩
 ·refine hn g h1 (fun d hd T G1 l1 H1 g1 gx1 he1 hv1 hT => ?_) (fun C hC => nomatch hC)
  cases hd
  split at h2
  case isFalse => cases h2
  rename_i hi
  have hT' : some x :: e1 = ens (some T :: l1) := by rw [← hT, ← he1]; rfl
  have hi' : insNo (ens (some T :: l1)) 0 C m = true := by rw [← hT']; exact hi
  obtain ⟨a, dx, fs, hva, hH, hl⟩ := ZfS g1 hi'
  have hv0 : T.val = .ref a := Option.some.inj (Option.some.inj hva)
  refine ⟨a, dx, fs, hv0, hH, hl, ?_⟩
  show ISp fd (T.val :: ([] ++ [])) H1 Q E0
  rw [hT'] at h2
  obtain ⟨⟨us0, e5⟩, hpu, h5⟩ := bnd h2
  obtain ⟨⟨r1, as⟩, hf, h6⟩ := bnd h5
  obtain ⟨hf0, R0, hR0⟩ := ZJ hf
  cases hR0
  cases h6
  obtain ⟨us', hus', hI⟩ := Zd0 (is := [0]) (ds := []) (vs := []) (Q := Q) (E := E0) (r := .ok R0) (en' := putE [0] as e5) g1 .nil (by rw [hpu]; show ((noX fd (us0 ++ _)).bind _) = _; rw [hf]; rfl) (fun as r bs h => hfd as r bs (ZJ h).1) (fun T0 hT0 T2 G' ls' H' g' gx' he hv hTe => by
   cases hT0
   cases ls' with
   | nil => cases hv
   | cons o l3 =>
    have hv2 := (List.cons.inj hv).2
    refine k _ rfl T2 G' l3 H' (g'.pick (fun b => by rw [Zr, Zr, List.count_append, List.count_append, Zr, List.count_append]; omega) fun t ht => g'.ok t ?_) (gx1.trans gx') ?_ (hv2.trans hv1) hTe
    ·rcases List.mem_cons.mp ht with h | h
     ·rw [h]; exact List.mem_cons_self
     ·exact List.mem_cons_of_mem _ (List.mem_cons_of_mem _ h)
    ·rw [← he]
     rfl) (fun C hC => nomatch hC)
  match us', hus' with
  | [u], hus' =>
   have hu : u = T.val := (Option.some.inj (Option.some.inj hus'.1)).symm
   rw [hu] at hI
   exact hI.imp fun as r h => (ZJ h).1
 ·exact hn g h1 (fun d hd => nomatch hd) fun C' hC' => kx C' (rxc hC')⟩
theorem Zjw {i : Nat} (hfd : ∀ as r bs, fd as = some (r, bs) → bs.length = as.length) (hn : SN W tn n) : SN W (tCall (ISp fd) [] E0 (tCons (tVar i) (tCons tn tNil))) (nCallNew2 (noX fd) i n) := ⟨fun {F G ls H r en'} g e Q k kx => by
 obtain ⟨T0, hT0, e⟩ := bnd e
 obtain ⟨t0, p1, _⟩ := Zd8 hT0
 have hv0 : (vals ls)[i]? = some (some t0.val) := by unfold vals; rw [List.getElem?_map, p1]; rfl
 refine ⟨t0.val, hv0, ?_⟩
 show tn (vals ls) H fun v H1 => ISp fd ((t0.val :: v :: []) ++ []) H1 Q E0
 rcases Zn e with ⟨x, e1, h1, h2⟩ | ⟨C', h1, rfl⟩
 ·refine hn g h1 (fun d hd T G1 l1 H1 g1 gx1 he1 hv1 hT => ?_) (fun C hC => nomatch hC)
  cases hd
  have hT' : some x :: e1 = ens (some T :: l1) := by rw [← hT, ← he1]; rfl
  rw [hT'] at h2
  obtain ⟨⟨us0, e5⟩, hpu, h5⟩ := bnd h2
  obtain ⟨⟨r1, as⟩, hf, h6⟩ := bnd h5
  obtain ⟨hf0, R0, hR0⟩ := ZJ hf
  cases hR0
  cases h6
  obtain ⟨us', hus', hI⟩ := Zd0 (is := [i + 1, 0]) (ds := []) (vs := []) (Q := Q) (E := E0) (r := .ok R0) (en' := putE [i + 1, 0] as e5) g1 .nil (by rw [hpu]; show ((noX fd (us0 ++ _)).bind _) = _; rw [hf]; rfl) (fun as r bs h => hfd as r bs (ZJ h).1) (fun T0 hT0 T2 G' ls' H' g' gx' he hv hTe => by
   cases hT0
   cases ls' with
   | nil => cases hv
   | cons o l3 =>
    have hv2 := (List.cons.inj hv).2
    refine k _ rfl T2 G' l3 H' (g'.pick (fun b => by rw [Zr, Zr, List.count_append, List.count_append, Zr, List.count_append]; omega) fun t ht => g'.ok t ?_) (gx1.trans gx') ?_ (hv2.trans hv1) hTe
    ·rcases List.mem_cons.mp ht with h | h
     ·rw [h]; exact List.mem_cons_self
     ·exact List.mem_cons_of_mem _ (List.mem_cons_of_mem _ h)
    ·rw [← he]
     rfl) (fun C hC => nomatch hC)
  match us', hus' with
  | [u, w], hus' =>
   have hu : (vals l1)[i]? = some (some u) := hus'.1
   rw [hv1, hv0] at hu
   cases hu
   have hw : w = T.val := (Option.some.inj (Option.some.inj hus'.2.1)).symm
   rw [hw] at hI
   exact hI.imp fun as r h => (ZJ h).1
 ·exact hn g h1 (fun d hd => nomatch hd) fun C' hC' => kx C' (rxc hC')⟩
theorem ZnW {K : PySem.W.Frag} {kp : Nat → Bool} {i j : Nat} (hi : kp i = false) (hj : kp j = false) (h : SN W te n) : SS kp W (tAsg te (gTup K 2 (gCons (gName i) (gCons (gName j) gNil)))) (sUnp2 i j n) := ⟨fun {F G ls H o en'} g e D k => by
 rcases Zw e with ⟨T0, e1, h1, h2⟩ | ⟨C, h1, rfl⟩
 ·refine h g h1 (fun T0' hT0 T G' ls' H' g' gx he hv hT => ?_) (fun C hC => nomatch hC)
  cases hT0
  split at h2
  case h_2 => cases h2
  rename_i l1 A l2 B
  cases h2
  obtain ⟨a, dx, c, rfl, hc⟩ := Z3 hT
  match c, hc with
  | [(l1', t1), (l2', t2)], hc =>
   rw [LT.erL, LT.erL, LT.erL] at hc
   cases hc
   have ok := g'.ok _ List.mem_cons_self
   rw [LT.ok_node] at ok
   obtain ⟨o1, _, o3⟩ := ok
   rw [Zo7] at o1
   have hads : adsS (some t1 :: some t2 :: ls') = t1.ads ++ (t2.ads ++ adsS ls') := rfl
   have g2 : Good F G' (some t1 :: some t2 :: ls') H' := g'.pick (fun b => by
    rw [hads, Zr]
    show _ ≤ ((a :: (t1.ads ++ (t2.ads ++ []))) ++ adsS ls').count b
    simp only [List.count_append, List.append_nil, List.count_cons]
    omega) fun t ht => by
     rcases List.mem_cons.mp ht with z | z
     ·cases z; exact o3 _ List.mem_cons_self
     ·rcases List.mem_cons.mp z with z | z
      ·cases z; exact o3 _ (List.mem_cons_of_mem _ List.mem_cons_self)
      ·exact g'.ok t (List.mem_cons_of_mem _ z)
   have g3 : Good F G' (some t2 :: ls'.set i (some t1)) H' := g2.set (i + 1)
   have g4 := g3.set j
   refine ⟨a, [t1.val, t2.val], rfl, st_of o1, rfl, ?_⟩
   have k2 := k G' ((ls'.set i (some t1)).set j (some t2)) H' ⟨g4, gx, by rw [ZaG, ZaG, he], ((Kept.of hv).trans (Kept.set hi)).trans (Kept.set hj)⟩
   rw [ZaC, ZaC, hv] at k2
   exact ⟨_, _, rfl, _, _, rfl, rfl, k2⟩
 ·exact h g h1 (fun d hd => nomatch hd) fun C' hC' => by cases hC'; exact k.xc⟩
end
end Kb
namespace Kb
open PySem L2 Evl
/-- the function answers, and what it answers is as wanted -/
noncomputable def Wp {α : Type} (m : En → Option (α × En)) (en : En) (Q : α → En → Prop) : Prop := ∃ a e, m en = some (a, e) ∧ Q a e
theorem Wp.mono {α : Type} {m : En → Option (α × En)} {en : En} {Q Q' : α → En → Prop} (h : Wp m en Q) (k : ∀ a e, Q a e → Q' a e) : Wp m en Q' := let ⟨a, e, h1, h2⟩ := h; ⟨a, e, h1, k a e h2⟩
theorem Zbu {α : Type} {m : En → Option (α × En)} {en e : En} {a : α} {Q : α → En → Prop} (h : m en = some (a, e)) : Wp m en Q ↔ Q a e := ⟨fun ⟨a', e', h1, q⟩ => by rw [h] at h1; cases h1; exact q, fun q => ⟨a, e, h, q⟩⟩
noncomputable def cS (k : En → Prop) (Q : Ot → En → Prop) : Ot → En → Prop
 | .nx, e => k e
 | .rt T, e => Q (.rt T) e
 | .bk, e => Q .bk e
 | .ct, e => Q .ct e
 | .ex C, e => Q (.ex C) e
noncomputable def cX {α β : Type} (k : α → En → Prop) (Q : Rx β → En → Prop) : Rx α → En → Prop
 | .ok a, e => k a e
 | .ex C, e => Q (.ex C) e
noncomputable def cO {α : Type} (k : α → En → Prop) (Q : Ot → En → Prop) : Rx α → En → Prop
 | .ok a, e => k a e
 | .ex C, e => Q (.ex C) e
theorem ZsQ {k : En → Prop} {Q : Ot → En → Prop} {e : En} : cS k Q .nx e = k e := id rfl
theorem ZsU {k : En → Prop} {Q : Ot → En → Prop} {e : En} {T : OT} : cS k Q (.rt T) e = Q (.rt T) e := id rfl
theorem ZsN {k : En → Prop} {Q : Ot → En → Prop} {e : En} : cS k Q .bk e = Q .bk e := id rfl
theorem ZsW {k : En → Prop} {Q : Ot → En → Prop} {e : En} : cS k Q .ct e = Q .ct e := id rfl
theorem ZsT {k : En → Prop} {Q : Ot → En → Prop} {e : En} {C : Addr} : cS k Q (.ex C) e = Q (.ex C) e := id rfl
theorem Zti {α β : Type} {k : α → En → Prop} {Q : Rx β → En → Prop} {a : α} {e : En} : cX k Q (.ok a) e = k a e := id rfl
theorem Ztj {α β : Type} {k : α → En → Prop} {Q : Rx β → En → Prop} {C : Addr} {e : En} : cX k Q (.ex C) e = Q (.ex C) e := id rfl
theorem Zsl {α : Type} {k : α → En → Prop} {Q : Ot → En → Prop} {a : α} {e : En} : cO k Q (.ok a) e = k a e := id rfl
theorem Ztc {α : Type} {k : α → En → Prop} {Q : Ot → En → Prop} {C : Addr} {e : En} : cO k Q (.ex C) e = Q (.ex C) e := id rfl
section
variable {en : En} {Q : Ot → En → Prop} {a b : FS} {x y : FX} {n n2 : FN} {c c2 : FB} {A : FA} {i : Nat} {w : FW}
theorem Zch {α : Type} {m : En → Option (Rx α × En)} {f : α → En → Option (Ot × En)} : Wp (fun en => bs (m en) f) en Q ↔ Wp m en (cO (fun a e => Wp (f a) e Q) Q) := by
 unfold Wp
 constructor
 ·rintro ⟨o, e, h, q⟩
  cases z : m en with
  | none => simp [z, bs] at h
  | some r =>
   obtain ⟨r, e1⟩ := r
   cases r with
   | ok v => exact ⟨_, _, rfl, o, e, by simpa [z, bs] using h, q⟩
   | ex C => simp [z, bs] at h; obtain ⟨rfl, rfl⟩ := h; exact ⟨_, _, rfl, q⟩
 ·rintro ⟨r, e1, z, h⟩
  cases r with
  | ok v => obtain ⟨o, e, h1, q⟩ := h; exact ⟨o, e, by simpa [z, bs] using h1, q⟩
  | ex C => exact ⟨.ex C, e1, by simp [z, bs], h⟩
theorem Zy {α β : Type} {Q : Rx β → En → Prop} {m : En → Option (Rx α × En)} {f : α → En → Option (Rx β × En)} : Wp (fun en => bx (m en) f) en Q ↔ Wp m en (cX (fun a e => Wp (f a) e Q) Q) := by
 unfold Wp
 constructor
 ·rintro ⟨o, e, h, q⟩
  cases z : m en with
  | none => simp [z, bx] at h
  | some r =>
   obtain ⟨r, e1⟩ := r
   cases r with
   | ok v => exact ⟨_, _, rfl, o, e, by simpa [z, bx] using h, q⟩
   | ex C => simp [z, bx] at h; obtain ⟨rfl, rfl⟩ := h; exact ⟨_, _, rfl, q⟩
 ·rintro ⟨r, e1, z, h⟩
  cases r with
  | ok v => obtain ⟨o, e, h1, q⟩ := h; exact ⟨o, e, by simpa [z, bx] using h1, q⟩
  | ex C => exact ⟨.ex C, e1, by simp [z, bx], h⟩
theorem ZH {α : Type} {Q : Rx α → En → Prop} {f : En → Option α} : Wp (fun e => okx e (f e)) en Q ↔ ∃ d, f en = some d ∧ Q (.ok d) en := by
 constructor
 ·rintro ⟨a, e, h, q⟩
  obtain ⟨d, hd, h⟩ := Option.map_eq_some_iff.mp h
  cases h
  exact ⟨d, hd, q⟩
 ·rintro ⟨d, hd, q⟩
  exact ⟨_, _, by show okx en (f en) = _; rw [hd]; rfl, q⟩
theorem ZeG {α β : Type} {Q : β → En → Prop} {o : En → Option α} {g : α → En → β × En} : Wp (fun e => (o e).map fun a => g a e) en Q ↔ ∃ d, o en = some d ∧ Q (g d en).1 (g d en).2 := by
 constructor
 ·rintro ⟨a, e, h, q⟩
  obtain ⟨d, hd, h⟩ := Option.map_eq_some_iff.mp h
  exact ⟨d, hd, by rw [h]; exact q⟩
 ·rintro ⟨d, hd, q⟩
  exact ⟨_, _, by show (o en).map _ = _; rw [hd]; rfl, q⟩
theorem Zaq {α : Type} {Q : α → En → Prop} {f : En → α} {g : En → En} : Wp (fun e => some (f e, g e)) en Q ↔ Q (f en) (g en) := Zbu rfl
theorem ZqH : Wp sNil en Q ↔ Q .nx en := Zbu rfl
theorem Zrf : Wp (sSeq a b) en Q ↔ Wp a en (cS (fun e => Wp b e Q) Q) := by
 unfold Wp
 constructor
 ·rintro ⟨o, e, h, q⟩
  unfold sSeq at h
  cases z : a en with
  | none => simp [z] at h
  | some r =>
   obtain ⟨r, e1⟩ := r
   cases r with
   | nx => exact ⟨_, _, rfl, o, e, by simpa [z] using h, q⟩
   | _ => simp [z] at h; obtain ⟨rfl, rfl⟩ := h; exact ⟨_, _, rfl, q⟩
 ·rintro ⟨r, e1, z, h⟩
  unfold sSeq
  cases r with
  | nx => obtain ⟨o, e, h1, q⟩ := h; exact ⟨o, e, by simpa [z] using h1, q⟩
  | _ => exact ⟨_, e1, by simp [z], h⟩
theorem ZrB : Wp (sAsg i x) en Q ↔ Wp x en (cO (fun d e => Q .nx (e.set i (some (.leaf d)))) Q) := by
 refine Zch.trans ?_
 simp only [Zaq]
theorem ZpE : Wp (sAsgN i n) en Q ↔ Wp n en (cO (fun T e => Q .nx (e.set i (some T))) Q) := by
 refine Zch.trans ?_
 simp only [Zaq]
theorem ZoJ : Wp (sDrop x) en Q ↔ Wp x en (cO (fun _ e => Q .nx e) Q) := by
 refine Zch.trans ?_
 simp only [Zaq]
theorem Zl6 : Wp (sDropN n) en Q ↔ Wp n en (cO (fun _ e => Q .nx e) Q) := by
 refine Zch.trans ?_
 simp only [Zaq]
theorem Zsd : Wp (sRet n) en Q ↔ Wp n en (cO (fun T e => Q (.rt T) e) Q) := by
 refine Zch.trans ?_
 simp only [Zaq]
theorem ZoD : Wp sRetN en Q ↔ Q (.rt (.leaf .none)) en := Zbu rfl
theorem ZmX {C : Addr} : Wp (sRaise C) en Q ↔ Q (.ex C) en := Zbu rfl
theorem ZsA : Wp sBk en Q ↔ Q .bk en := Zbu rfl
theorem Ztl : Wp sCt en Q ↔ Q .ct en := Zbu rfl
theorem Zev {α : Type} {Q : α → En → Prop} {t : Bool} {f g : En → Option (α × En)} : Wp (fun e => if t = true then f e else g e) en Q ↔ (t = true → Wp f en Q) ∧ (t = false → Wp g en Q) := by
 cases t <;> simp [Wp]
theorem ZsE : Wp (sIf c a b) en Q ↔ Wp c en (cO (fun t e => (t = true → Wp a e Q) ∧ (t = false → Wp b e Q)) Q) := by
 refine Zch.trans ?_
 simp only [Zev]
theorem Zrh {bd : PyData → En → Option En} : Wp (sFor A bd a) en Q ↔ Wp A en (cO (fun ds e => Wp (forGo bd a ds) e Q) Q) := by
 refine Zch.trans ?_
 rfl
theorem ZnT {bd : PyData → En → Option En} : Wp (sAsgG bd x) en Q ↔ Wp x en (cO (fun d e => ∃ e2, bd d e = some e2 ∧ Q .nx e2) Q) := by
 refine Zch.trans ?_
 have : ∀ d e, Wp (fun e1 => (bd d e1).map fun e2 => (Ot.nx, e2)) e Q ↔ ∃ e2, bd d e = some e2 ∧ Q .nx e2 := fun d e => ZeG (o := bd d) (g := fun e2 _ => (Ot.nx, e2))
 simp only [this]
end
section
variable {en : En} {Q : Rx PyData → En → Prop} {QB : Rx Bool → En → Prop} {QN : Rx OT → En → Prop} {QA : Rx (List PyData) → En → Prop} {a b : FX} {x y : FX} {n n2 : FN} {c c2 : FB} {A : FA} {i : Nat} {w : FW}
theorem Zs5 : Wp (xS w) en Q ↔ ∃ d, w (strong en) = some d ∧ Q (.ok d) en := ZH
theorem Zth : Wp (xW w) en Q ↔ ∃ d, w (weak en) = some d ∧ flatD d = true ∧ Q (.ok d) en := by
 refine (ZH (f := fun en => (w (weak en)).bind fun d => if flatD d = true then some d else none)).trans ?_
 constructor
 ·rintro ⟨d, h, q⟩
  obtain ⟨d', h1, h2⟩ := bnd h
  split at h2
  ·cases h2; rename_i hf; exact ⟨_, h1, hf, q⟩
  ·cases h2
 ·rintro ⟨d, h, hf, q⟩
  exact ⟨d, by rw [h]; simp [hf], q⟩
theorem ZsC {f : DE → Option Bool} : Wp (bS f) en QB ↔ ∃ d, f (strong en) = some d ∧ QB (.ok d) en := ZH
theorem ZqI {f : DE → Option Bool} : Wp (bWk f) en QB ↔ ∃ d, f (weak en) = some d ∧ QB (.ok d) en := ZH
theorem Zs0 : Wp (xN n) en Q ↔ Wp n en (cX (fun T e => Q (.ok T.data) e) Q) := by
 refine Zy.trans ?_
 simp only [Zaq]
theorem Zsm : Wp (nX x) en QN ↔ Wp x en (cX (fun d e => QN (.ok (.leaf d)) e) QN) := by
 refine Zy.trans ?_
 simp only [Zaq]
theorem Zqh {o : PyData → PyData → Option PyData} : Wp (xOp o a b) en Q ↔ Wp a en (cX (fun x e => Wp b e (cX (fun y e => ∃ d, o x y = some d ∧ Q (.ok d) e) Q)) Q) := by
 refine Zy.trans ?_
 have : ∀ x e, Wp (fun e1 => bx (b e1) fun y e2 => okx e2 (o x y)) e Q ↔ Wp b e (cX (fun y e => ∃ d, o x y = some d ∧ Q (.ok d) e) Q) := fun x e => by
  refine Zy.trans ?_
  simp only [ZH]
 simp only [this]
theorem Zr2 {o : PyData → Option PyData} : Wp (xUn o a) en Q ↔ Wp a en (cX (fun x e => ∃ d, o x = some d ∧ Q (.ok d) e) Q) := by
 refine Zy.trans ?_
 simp only [ZH]
theorem ZnB : Wp aNilX en QA ↔ QA (.ok []) en := Zbu rfl
theorem Zk7 {r : FA} : Wp (aConsX a r) en QA ↔ Wp a en (cX (fun x e => Wp r e (cX (fun xs e => QA (.ok (x :: xs)) e) QA)) QA) := by
 refine Zy.trans ?_
 have : ∀ x e, Wp (fun e1 => bx (r e1) fun xs e2 => some (Rx.ok (x :: xs), e2)) e QA ↔ Wp r e (cX (fun xs e => QA (.ok (x :: xs)) e) QA) := fun x e => by
  refine Zy.trans ?_
  simp only [Zaq]
 simp only [this]
theorem Ztd {f : DE → Option (List PyData)} : Wp (aS f) en QA ↔ ∃ d, f (strong en) = some d ∧ QA (.ok d) en := ZH
theorem Zq4 {o : List PyData → Option PyData} : Wp (xCb o A) en Q ↔ Wp A en (cX (fun xs e => ∃ d, o xs = some d ∧ Q (.ok d) e) Q) := by
 refine Zy.trans ?_
 simp only [ZH]
theorem Zpi : Wp (xTup A) en Q ↔ Wp A en (cX (fun xs e => xs.length ≤ 100000 ∧ Q (.ok (.tuple xs)) e) Q) := by
 refine Zy.trans ?_
 have : ∀ (xs : List PyData) e, Wp (fun e1 => okx e1 (if big xs = true then some (PyData.tuple xs) else none)) e Q ↔ (xs.length ≤ 100000 ∧ Q (.ok (.tuple xs)) e) := fun xs e => by
  refine ZH.trans ?_
  unfold big
  by_cases h : xs.length ≤ 100000 <;> simp [h]
 simp only [this]
theorem ZoX : Wp (nLst A) en QN ↔ Wp A en (cX (fun xs e => xs.length ≤ 100000 ∧ QN (.ok (lstT xs)) e) QN) := by
 refine Zy.trans ?_
 have : ∀ (xs : List PyData) e, Wp (fun e1 => okx e1 (if big xs = true then some (lstT xs) else none)) e QN ↔ (xs.length ≤ 100000 ∧ QN (.ok (lstT xs)) e) := fun xs e => by
  refine ZH.trans ?_
  unfold big
  by_cases h : xs.length ≤ 100000 <;> simp [h]
 simp only [this]
theorem Zsi : Wp (bXx x) en QB ↔ Wp x en (cX (fun d e => ∃ t, asB d = some t ∧ QB (.ok t) e) QB) := by
 refine Zy.trans ?_
 simp only [ZH]
theorem Zmz : Wp (bAndX c c2) en QB ↔ Wp c en (cX (fun t e => (t = true → Wp c2 e QB) ∧ (t = false → QB (.ok false) e)) QB) := by
 refine Zy.trans ?_
 simp only [Zev, Zaq]
theorem ZpO : Wp (bOrX c c2) en QB ↔ Wp c en (cX (fun t e => (t = true → QB (.ok true) e) ∧ (t = false → Wp c2 e QB)) QB) := by
 refine Zy.trans ?_
 simp only [Zev, Zaq]
theorem Zmj : Wp (bNotX c) en QB ↔ Wp c en (cX (fun t e => QB (.ok (!t)) e) QB) := by
 refine Zy.trans ?_
 simp only [Zaq]
theorem Zq6 : Wp (xIf c x y) en Q ↔ Wp c en (cX (fun t e => (t = true → Wp x e Q) ∧ (t = false → Wp y e Q)) Q) := by
 refine Zy.trans ?_
 simp only [Zev]
theorem Zr6 : Wp (nIf c n n2) en QN ↔ Wp c en (cX (fun t e => (t = true → Wp n e QN) ∧ (t = false → Wp n2 e QN)) QN) := by
 refine Zy.trans ?_
 simp only [Zev]
theorem ZpK : Wp (xNot x) en Q ↔ Wp x en (cX (fun d e => ∃ t, asB d = some t ∧ Q (.ok (.bool (!t))) e) Q) := by
 refine Zy.trans ?_
 have : ∀ (d : PyData) e, Wp (fun e1 => okx e1 ((asB d).map fun c => PyData.bool (!c))) e Q ↔ ∃ t, asB d = some t ∧ Q (.ok (.bool (!t))) e := fun d e => by
  refine ZH.trans ?_
  cases asB d <;> simp
 simp only [this]
theorem Zta : Wp (nF w) en QN ↔ ∃ d, w (strong en) = some d ∧ QN (.ok (freshT d)) en := by
 refine (ZH (f := fun en => (w (strong en)).map freshT)).trans ?_
 cases w (strong en) <;> simp
theorem Zq2 : Wp (nFW w) en QN ↔ ∃ ds, w (weak en) = some (.list ds) ∧ ds.all flatD = true ∧ QN (.ok (lstT ds)) en := by
 refine ZH.trans ?_
 constructor
 ·rintro ⟨T, h, q⟩
  obtain ⟨d, h1, h2⟩ := bnd h
  split at h2
  ·split at h2
   ·cases h2; rename_i ds hf; exact ⟨_, h1, hf, q⟩
   ·cases h2
  ·cases h2
 ·rintro ⟨ds, h, hf, q⟩
  exact ⟨_, by rw [h]; show (if ds.all flatD = true then some (lstT ds) else none) = _; rw [if_pos hf], q⟩
theorem Zsq {o : PyData → Option (List PyData)} : Wp (iX o x) en QA ↔ Wp x en (cX (fun d e => ∃ ds, o d = some ds ∧ QA (.ok ds) e) QA) := by
 refine Zy.trans ?_
 simp only [ZH]
theorem ZsX {o : List PyData → Option (List PyData)} : Wp (iA o A) en QA ↔ Wp A en (cX (fun d e => ∃ ds, o d = some ds ∧ QA (.ok ds) e) QA) := by
 refine Zy.trans ?_
 simp only [ZH]
theorem Zk9 {f : List PyData → Option (PyData ⊕ Addr)} : Wp (xCallX f A) en Q ↔ Wp A en (cX (fun xs e => ∃ o, f xs = some o ∧ Q (rxO o) e) Q) := by
 refine Zy.trans ?_
 have : ∀ xs e, Wp (fun e1 => (f xs).map fun o => (rxO o, e1)) e Q ↔ ∃ o, f xs = some o ∧ Q (rxO o) e := fun xs e => by
  exact ZeG (o := fun _ => f xs) (g := fun o e1 => (_, e1))
 simp only [this]
theorem ZlE {f : List PyData → Option PyData} : Wp (nCallF f A) en QN ↔ Wp A en (cX (fun xs e => ∃ d, f xs = some d ∧ QN (.ok (freshT d)) e) QN) := by
 refine Zy.trans ?_
 have : ∀ xs e, Wp (fun e1 => okx e1 ((f xs).map freshT)) e QN ↔ ∃ o, f xs = some o ∧ QN (.ok (freshT o)) e := fun xs e => by
  refine ZH.trans ?_
  cases f xs <;> simp
 simp only [this]
theorem ZkK {f : List PyData → Option (PyData ⊕ Addr)} : Wp (nCallXF f A) en QN ↔ Wp A en (cX (fun xs e => ∃ o, f xs = some o ∧ QN (rxF o) e) QN) := by
 refine Zy.trans ?_
 have : ∀ xs e, Wp (fun e1 => (f xs).map fun o => (rxF o, e1)) e QN ↔ ∃ o, f xs = some o ∧ QN (rxF o) e := fun xs e => by
  exact ZeG (o := fun _ => f xs) (g := fun o e1 => (_, e1))
 simp only [this]
end
end Kb
namespace Kb
open PySem L2 Evl
noncomputable def retD (d : PyData) : Ot → En → Prop
 | .rt T, _ => T.data = d
 | .nx, _ => d = .none
 | _, _ => False
noncomputable def retF (d : PyData) : Ot → En → Prop
 | .rt T, _ => freshR T = true ∧ T.data = d
 | .nx, _ => d = .none
 | _, _ => False
noncomputable def retX (r : PyData ⊕ Addr) : Ot → En → Prop
 | .rt T, _ => r = .inl T.data
 | .nx, _ => r = .inl .none
 | .ex C, _ => r = .inr C
 | _, _ => False
noncomputable def retXF (r : PyData ⊕ Addr) : Ot → En → Prop
 | .rt T, _ => freshR T = true ∧ r = .inl T.data
 | .nx, _ => r = .inl .none
 | .ex C, _ => r = .inr C
 | _, _ => False
theorem Zqa {d : PyData} {T : OT} {e : En} : retD d (.rt T) e = (T.data = d) := id rfl
theorem Zok {d : PyData} {e : En} : retD d .nx e = (d = .none) := id rfl
theorem ZnZ {d : PyData} {T : OT} {e : En} : retF d (.rt T) e = (freshR T = true ∧ T.data = d) := id rfl
theorem Zoh {d : PyData} {e : En} : retF d .nx e = (d = .none) := id rfl
theorem Zpj {r : PyData ⊕ Addr} {T : OT} {e : En} : retX r (.rt T) e = (r = .inl T.data) := id rfl
theorem ZoI {r : PyData ⊕ Addr} {e : En} : retX r .nx e = (r = .inl .none) := id rfl
theorem ZpN {r : PyData ⊕ Addr} {C : Addr} {e : En} : retX r (.ex C) e = (r = .inr C) := id rfl
theorem Znp {r : PyData ⊕ Addr} {T : OT} {e : En} : retXF r (.rt T) e = (freshR T = true ∧ r = .inl T.data) := id rfl
theorem ZmN {r : PyData ⊕ Addr} {e : En} : retXF r .nx e = (r = .inl .none) := id rfl
theorem Zms {r : PyData ⊕ Addr} {C : Addr} {e : En} : retXF r (.ex C) e = (r = .inr C) := id rfl
theorem ZrF {np n : Nat} {s : FS} {ds : List PyData} {d : PyData} (h : Wp s (start0 n (ds.map OT.leaf)) (retD d)) (hl : ds.length = np := by rfl) : fnD np n s ds = some d := by
 obtain ⟨o, e, h1, h2⟩ := h
 unfold fnD
 rw [if_pos hl, h1]
 cases o with
 | rt T => exact congrArg some h2
 | nx => exact congrArg some (h2 : d = .none).symm
 | _ => exact h2.elim
/-- behind one turn -/
noncomputable def cL (k : En → Prop) (Q : Ot → En → Prop) : Ot → En → Prop
 | .nx, e => k e
 | .ct, e => k e
 | .bk, e => Q .nx e
 | .rt T, e => Q (.rt T) e
 | .ex C, e => Q (.ex C) e
theorem Ztx {k : En → Prop} {Q : Ot → En → Prop} {e : En} : cL k Q .nx e = k e := id rfl
theorem Zsp {k : En → Prop} {Q : Ot → En → Prop} {e : En} : cL k Q .ct e = k e := id rfl
theorem Zst {k : En → Prop} {Q : Ot → En → Prop} {e : En} : cL k Q .bk e = Q .nx e := id rfl
theorem Ztb {k : En → Prop} {Q : Ot → En → Prop} {e : En} {T : OT} : cL k Q (.rt T) e = Q (.rt T) e := id rfl
theorem Zsx {k : En → Prop} {Q : Ot → En → Prop} {e : En} {C : Addr} : cL k Q (.ex C) e = Q (.ex C) e := id rfl
theorem Zl5 {b : PyData → En → Option En} {s : FS} {en : En} {Q : Ot → En → Prop} : Wp (forGo b s []) en Q ↔ Q .nx en := Zbu rfl
theorem ZlN {b : PyData → En → Option En} {s : FS} {d : PyData} {ds : List PyData} {en : En} {Q : Ot → En → Prop} : Wp (forGo b s (d :: ds)) en Q ↔ ∃ e1, b d en = some e1 ∧ Wp s e1 (cL (fun e => Wp (forGo b s ds) e Q) Q) := by
 constructor
 ·rintro ⟨o, e, h, q⟩
  unfold forGo at h
  obtain ⟨e1, h1, h2⟩ := bnd h
  refine ⟨e1, h1, ?_⟩
  cases z : s e1 with
  | none => simp [z] at h2
  | some r =>
   obtain ⟨r, e2⟩ := r
   refine ⟨_, _, z, ?_⟩
   cases r with
   | nx => exact ⟨_, _, by simpa [z] using h2, q⟩
   | ct => exact ⟨_, _, by simpa [z] using h2, q⟩
   | bk => simp [z] at h2; obtain ⟨rfl, rfl⟩ := h2; exact q
   | rt T => simp [z] at h2; obtain ⟨rfl, rfl⟩ := h2; exact q
   | ex C => simp [z] at h2; obtain ⟨rfl, rfl⟩ := h2; exact q
 ·rintro ⟨e1, h1, r, e2, z, h2⟩
  have un : ∀ o, (match s e1 with
   | some (.nx, e2) => forGo b s ds e2
   | some (.ct, e2) => forGo b s ds e2
   | some (.bk, e2) => some (.nx, e2)
   | r => r) = some o → forGo b s (d :: ds) en = some o := fun o ho => by
   unfold forGo
   rw [h1]
   exact ho
  cases r with
  | nx => obtain ⟨o, e, h3, q⟩ := h2; exact ⟨o, e, un _ (by rw [z]; exact h3), q⟩
  | ct => obtain ⟨o, e, h3, q⟩ := h2; exact ⟨o, e, un _ (by rw [z]; exact h3), q⟩
  | bk => exact ⟨_, _, un _ (by rw [z]), h2⟩
  | rt T => exact ⟨_, _, un _ (by rw [z]), h2⟩
  | ex C => exact ⟨_, _, un _ (by rw [z]), h2⟩
/-- a for by an invariant over the turns -/
theorem Zps {α : Type} {b : PyData → En → Option En} {s : FS} {Q : Ot → En → Prop} (g : α → PyData) (xs : List α) (I : Nat → En → Prop) {en : En} (h0 : I 0 en)
  (hs : ∀ i x, xs[i]? = some x → ∀ e, I i e → ∃ e1, b (g x) e = some e1 ∧ Wp s e1 (cL (I (i + 1)) Q)) (hq : ∀ e, I xs.length e → Q .nx e) : Wp (forGo b s (xs.map g)) en Q := by
 have gen : ∀ (ys : List α) (k : Nat), k + ys.length = xs.length → (∀ i, ys[i]? = xs[k + i]?) → ∀ e, I k e → Wp (forGo b s (ys.map g)) e Q := by
  intro ys
  induction ys with
  | nil => intro k hk _ e hI; exact Zl5.mpr (hq e (by rw [← hk]; exact hI))
  | cons y ys ih =>
   intro k hk hx e hI
   refine ZlN.mpr ?_
   obtain ⟨e1, h1, h2⟩ := hs k y (by have := hx 0; simp at this; exact this.symm) e hI
   refine ⟨e1, h1, h2.mono fun o e2 h3 => ?_⟩
   have next : I (k + 1) e2 → Wp (forGo b s (ys.map g)) e2 Q := fun h => ih (k + 1) (by simp at hk; omega) (fun i => by have := hx (i + 1); simp at this; rw [this]; congr 1; omega) e2 h
   cases o with
   | nx => exact next h3
   | ct => exact next h3
   | bk => exact h3
   | rt T => exact h3
   | ex C => exact h3
 exact gen xs 0 (by simp) (by simp) en h0
theorem ZsH {α : Type} {it : DE → Option (List PyData)} {bd : PyData → DE → Option DE} {c : DE → Option Bool} {el : FW} {vs : List Nat} {ρ : DE} (g : α → PyData) (xs : List α) (p : α → Bool) (f : α → PyData) (hit : it ρ = some (xs.map g)) (hl : xs.length ≤ 50000)
  (h : ∀ x ∈ xs, ∃ ρ1, bd (g x) (wipeD ρ vs) = some ρ1 ∧ c ρ1 = some (p x) ∧ (p x = true → el ρ1 = some (f x))) : wLc it bd c el vs ρ = some (.list ((xs.filter p).map f)) := by
 have go : ∀ ys : List α, (∀ y ∈ ys, y ∈ xs) → lcGo bd c el (wipeD ρ vs) (ys.map g) = some ((ys.filter p).map f) := by
  intro ys
  induction ys with
  | nil => intro _; rfl
  | cons y ys ih =>
   intro hy
   obtain ⟨ρ1, h1, h2, h3⟩ := h y (hy y List.mem_cons_self)
   have ih := ih fun z hz => hy z (List.mem_cons_of_mem _ hz)
   rw [List.map_cons]
   unfold lcGo
   rw [h1]
   dsimp only [Option.bind]
   rw [h2]
   cases z : p y with
   | true =>
    dsimp only [Option.bind]
    rw [if_pos rfl, h3 z]
    dsimp only
    rw [ih]
    simp [List.filter_cons, z]
   | false =>
    dsimp only [Option.bind]
    rw [if_neg Bool.false_ne_true, ih]
    simp [List.filter_cons, z]
 unfold wLc
 rw [hit]
 show (if (xs.map g).length ≤ 50000 then (lcGo bd c el (wipeD ρ vs) (xs.map g)).map PyData.list else none) = _
 rw [List.length_map, if_pos hl, go xs fun _ h => h]
 rfl
/-- without a condition -/
theorem ZqB {α : Type} {it : DE → Option (List PyData)} {bd : PyData → DE → Option DE} {el : FW} {vs : List Nat} {ρ : DE} (g : α → PyData) (xs : List α) (f : α → PyData) (hit : it ρ = some (xs.map g)) (hl : xs.length ≤ 50000)
  (h : ∀ x ∈ xs, ∃ ρ1, bd (g x) (wipeD ρ vs) = some ρ1 ∧ el ρ1 = some (f x)) : wLc it bd bYes el vs ρ = some (.list (xs.map f)) := by
 rw [ZsH g xs (fun _ => true) f hit hl fun x hx => by obtain ⟨ρ1, h1, h2⟩ := h x hx; exact ⟨ρ1, h1, rfl, fun _ => h2⟩, List.filter_eq_self.mpr fun _ _ => rfl]
section
variable {en : En} {Q : Ot → En → Prop} {QX : Rx PyData → En → Prop} {QN : Rx OT → En → Prop} {x xi : FX} {n : FN} {i : Nat}
theorem Zfe {α β : Type} {Q : α → En → Prop} {o : En → Option β} {f : β → En → Option (α × En)} : Wp (fun e => (o e).bind fun b => f b e) en Q ↔ ∃ b, o en = some b ∧ Wp (f b) en Q := by
 constructor
 ·rintro ⟨a, e, h, q⟩
  obtain ⟨b, hb, h⟩ := bnd h
  exact ⟨b, hb, a, e, h, q⟩
 ·rintro ⟨b, hb, a, e, h, q⟩
  exact ⟨a, e, by show (o en).bind _ = _; rw [hb]; exact h, q⟩
theorem ZrX : Wp (sApp i x) en Q ↔ (∃ cs, lstAt en i = some cs) ∧ Wp x en (cO (fun d e => ∃ cs, lstAt e i = some cs ∧ cs.length < 100000 ∧ Q .nx (e.set i (some (.node .lst (cs ++ [(.no, .leaf d)]))))) Q) := by
 refine (Zfe (o := fun en => lstAt en i) (f := fun _ en => bs (x en) fun d e1 => (lstAt e1 i).bind fun cs => if lenOk cs = true then some (.nx, e1.set i (some (.node .lst (cs ++ [(.no, .leaf d)])))) else none)).trans ?_
 have : ∀ d e, Wp (fun e1 => (lstAt e1 i).bind fun cs => if lenOk cs = true then some (Ot.nx, e1.set i (some (.node .lst (cs ++ [(.no, .leaf d)])))) else none) e Q ↔ ∃ cs, lstAt e i = some cs ∧ cs.length < 100000 ∧ Q .nx (e.set i (some (.node .lst (cs ++ [(.no, .leaf d)])))) := fun d e => by
  refine (Zfe (o := fun e1 => lstAt e1 i) (f := fun cs e1 => if lenOk cs = true then some (Ot.nx, e1.set i (some (.node .lst (cs ++ [(.no, .leaf d)])))) else none)).trans ?_
  refine exists_congr fun cs => and_congr_right fun _ => ?_
  by_cases h : cs.length < 100000
  ·have hk : lenOk cs = true := decide_eq_true h
   constructor
   ·rintro ⟨a, e', h1, q⟩
    dsimp only at h1
    rw [if_pos hk] at h1
    cases h1
    exact ⟨h, q⟩
   ·rintro ⟨_, q⟩
    exact ⟨_, _, if_pos hk, q⟩
  ·have hk : lenOk cs = false := decide_eq_false h
   constructor
   ·rintro ⟨a, e', h1, q⟩
    dsimp only at h1
    rw [hk] at h1
    cases h1
   ·rintro ⟨z, _⟩
    exact absurd z h
 have t2 : Wp (fun en => bs (x en) fun d e1 => (lstAt e1 i).bind fun cs => if lenOk cs = true then some (Ot.nx, e1.set i (some (.node .lst (cs ++ [(.no, .leaf d)])))) else none) en Q ↔ Wp x en (cO (fun d e => ∃ cs, lstAt e i = some cs ∧ cs.length < 100000 ∧ Q .nx (e.set i (some (.node .lst (cs ++ [(.no, .leaf d)]))))) Q) := by
  refine Zch.trans ?_
  simp only [this]
 constructor
 ·rintro ⟨cs, h1, h2⟩
  exact ⟨⟨cs, h1⟩, t2.mp h2⟩
 ·rintro ⟨⟨cs, h1⟩, h2⟩
  exact ⟨cs, h1, t2.mpr h2⟩
theorem ZoR : Wp (nMove i) en QN ↔ ∃ T, en[i]? = some (some T) ∧ QN (.ok T) (en.set i none) := by
 refine (ZeG (o := fun en => (en[i]?).join) (g := fun T en => (Rx.ok T, en.set i none))).trans ?_
 refine exists_congr fun T => and_congr_left fun _ => ?_
 cases en[i]? with
 | none => simp
 | some o => cases o <;> simp
theorem ZpT : Wp (xTell i) en QX ↔ ∃ T, en[i]? = some (some T) ∧ QX (.ok T.data) (en.set i (some (.leaf T.data))) := by
 refine (ZeG (o := fun en => (en[i]?).join) (g := fun T en => (Rx.ok T.data, en.set i (some (.leaf T.data))))).trans ?_
 refine exists_congr fun T => and_congr_left fun _ => ?_
 cases en[i]? with
 | none => simp
 | some o => cases o <;> simp
theorem ZkG (a : List PyData) : (oLeafs a).length = a.length := by simp [oLeafs]
end
end Kb
namespace Kb
open PySem L2 Evl
section
variable {en : En} {Q : Ot → En → Prop} {QX : Rx PyData → En → Prop} {QN : Rx OT → En → Prop} {QB : Rx Bool → En → Prop} {x xi xv : FX} {n : FN} {i : Nat} {A : FA} {f : FD}
theorem Z6 {α : Type} {o : Option (Option α)} {a : α} : o.join = some a ↔ o = some (some a) := by
 cases o with
 | none => simp
 | some o => cases o <;> simp
theorem Zhi : Wp (nCallI f [i] A) en QN ↔ (∃ T0, en[i]? = some (some T0)) ∧ Wp A en (cX (fun ds e => ∃ T, e[i]? = some (some T) ∧ ∃ R as, f (T :: ds.map OT.leaf) = some (R, as) ∧ QN R (putE [i] as (e.set i none))) QN) := by
 have h0 : nCallI f [i] A = fun en => (pullE [i] en).bind fun _ => bx (A en) fun ds e1 => (pullE [i] e1).bind fun r => (f (r.1 ++ ds.map OT.leaf)).bind fun q => match q.1 with
  | .ok T => some (.ok T, putE [i] q.2 r.2)
  | .ex C => some (.ex C, putE [i] q.2 r.2) := rfl
 have pl : ∀ e : En, pullE [i] e = (e[i]?).join.map fun T => ([T], e.set i none) := fun e => by
  unfold pullE pullE
  cases (e[i]?).join <;> rfl
 rw [h0]
 refine (Zfe (o := fun en => pullE [i] en) (f := fun _ en => bx (A en) fun ds e1 => (pullE [i] e1).bind fun r => (f (r.1 ++ ds.map OT.leaf)).bind fun q => match q.1 with
  | .ok T => some (Rx.ok T, putE [i] q.2 r.2)
  | .ex C => some (.ex C, putE [i] q.2 r.2))).trans ?_
 have inner : ∀ (ds : List PyData) (e : En), Wp (fun e1 => (pullE [i] e1).bind fun r => (f (r.1 ++ ds.map OT.leaf)).bind fun q => match q.1 with
  | .ok T => some (Rx.ok T, putE [i] q.2 r.2)
  | .ex C => some (.ex C, putE [i] q.2 r.2)) e QN ↔ ∃ T, e[i]? = some (some T) ∧ ∃ R as, f (T :: ds.map OT.leaf) = some (R, as) ∧ QN R (putE [i] as (e.set i none)) := fun ds e => by
  constructor
  ·rintro ⟨r, e2, h, q⟩
   dsimp only at h
   rw [pl] at h
   cases hj : (e[i]?).join with
   | none => rw [hj] at h; cases h
   | some T =>
    rw [hj] at h
    have h : ((f ([T] ++ ds.map OT.leaf)).bind fun q => match q.1 with
     | .ok T => some (Rx.ok T, putE [i] q.2 (e.set i none))
     | .ex C => some (.ex C, putE [i] q.2 (e.set i none))) = some (r, e2) := h
    obtain ⟨⟨R, as⟩, hf, h2⟩ := bnd h
    refine ⟨T, Z6.mp hj, R, as, hf, ?_⟩
    cases R with
    | ok _ => cases h2; exact q
    | ex _ => cases h2; exact q
  ·rintro ⟨T, hT, R, as, hf, q⟩
   refine ⟨R, _, ?_, q⟩
   dsimp only
   rw [pl, Z6.mpr hT]
   show ((f (T :: ds.map OT.leaf)).bind _) = _
   rw [hf]
   cases R <;> rfl
 have mid : Wp (fun en => bx (A en) fun ds e1 => (pullE [i] e1).bind fun r => (f (r.1 ++ ds.map OT.leaf)).bind fun q => match q.1 with
  | .ok T => some (Rx.ok T, putE [i] q.2 r.2)
  | .ex C => some (.ex C, putE [i] q.2 r.2)) en QN ↔ Wp A en (cX (fun ds e => ∃ T, e[i]? = some (some T) ∧ ∃ R as, f (T :: ds.map OT.leaf) = some (R, as) ∧ QN R (putE [i] as (e.set i none))) QN) := by
  refine Zy.trans ?_
  simp only [inner]
 constructor
 ·rintro ⟨b, hb, h⟩
  rw [pl] at hb
  obtain ⟨T, hT, _⟩ := Option.map_eq_some_iff.mp hb
  exact ⟨⟨T, Z6.mp hT⟩, mid.mp h⟩
 ·rintro ⟨⟨T, hT⟩, h⟩
  exact ⟨_, by rw [pl, Z6.mpr hT]; rfl, mid.mpr h⟩
theorem Znx {as bs : List OT} {R : OT} : noX f as = some (.ok R, bs) ↔ f as = some (.ok R, bs) := by
 constructor
 ·exact fun h => (ZJ h).1
 ·intro h
  unfold noX
  rw [h]
  rfl
/-- a call that changes its first argument and does not raise -/
theorem Zm2 : Wp (nCallI (noX f) [i] A) en QN ↔ (∃ T0, en[i]? = some (some T0)) ∧ Wp A en (cX (fun ds e => ∃ T, e[i]? = some (some T) ∧ ∃ R as, f (T :: ds.map OT.leaf) = some (.ok R, as) ∧ QN (.ok R) (putE [i] as (e.set i none))) QN) := by
 rw [Zhi]
 have : ∀ (ds : List PyData) (e : En), (∃ T, e[i]? = some (some T) ∧ ∃ R as, noX f (T :: ds.map OT.leaf) = some (R, as) ∧ QN R (putE [i] as (e.set i none))) ↔ (∃ T, e[i]? = some (some T) ∧ ∃ R as, f (T :: ds.map OT.leaf) = some (.ok R, as) ∧ QN (.ok R) (putE [i] as (e.set i none))) := fun ds e => by
  refine exists_congr fun T => and_congr_right fun _ => ?_
  constructor
  ·rintro ⟨R, as, h, q⟩
   obtain ⟨h1, T, rfl⟩ := ZJ h
   exact ⟨T, as, h1, q⟩
  ·rintro ⟨R, as, h, q⟩
   exact ⟨.ok R, as, Znx.mpr h, q⟩
 simp only [this]
/-- list[e] of one's own list -/
theorem ZrD : Wp (xIxV i x) en QX ↔ (∃ cs, lstAt en i = some cs) ∧ Wp x en (cX (fun j e => ∃ cs, lstAt e i = some cs ∧ ∃ k, asI j = some k ∧ ∃ c, L2.atI cs k = some c ∧ ∃ d, leafD c.2 = some d ∧ QX (.ok d) e) QX) := by
 have h0 : xIxV i x = fun en => (lstAt en i).bind fun _ => bx (x en) fun j e1 => (lstAt e1 i).bind fun cs => (asI j).bind fun j => (L2.atI cs j).bind fun c => (leafD c.2).map fun d => (Rx.ok d, e1) := rfl
 rw [h0]
 refine (Zfe (o := fun en => lstAt en i) (f := fun _ en => bx (x en) fun j e1 => (lstAt e1 i).bind fun cs => (asI j).bind fun j => (L2.atI cs j).bind fun c => (leafD c.2).map fun d => (Rx.ok d, e1))).trans ?_
 have inner : ∀ (j : PyData) (e : En), Wp (fun e1 => (lstAt e1 i).bind fun cs => (asI j).bind fun j => (L2.atI cs j).bind fun c => (leafD c.2).map fun d => (Rx.ok d, e1)) e QX ↔ ∃ cs, lstAt e i = some cs ∧ ∃ k, asI j = some k ∧ ∃ c, L2.atI cs k = some c ∧ ∃ d, leafD c.2 = some d ∧ QX (.ok d) e := fun j e => by
  constructor
  ·rintro ⟨r, e2, h, q⟩
   obtain ⟨cs, h1, h⟩ := bnd h
   obtain ⟨k, h2, h⟩ := bnd h
   obtain ⟨c, h3, h⟩ := bnd h
   obtain ⟨d, h4, h⟩ := Option.map_eq_some_iff.mp h
   cases h
   exact ⟨cs, h1, k, h2, c, h3, d, h4, q⟩
  ·rintro ⟨cs, h1, k, h2, c, h3, d, h4, q⟩
   exact ⟨.ok d, e, by dsimp only; rw [h1, Option.bind_some, h2, Option.bind_some, h3, Option.bind_some, h4]; rfl, q⟩
 have mid : Wp (fun en => bx (x en) fun j e1 => (lstAt e1 i).bind fun cs => (asI j).bind fun j => (L2.atI cs j).bind fun c => (leafD c.2).map fun d => (Rx.ok d, e1)) en QX ↔ Wp x en (cX (fun j e => ∃ cs, lstAt e i = some cs ∧ ∃ k, asI j = some k ∧ ∃ c, L2.atI cs k = some c ∧ ∃ d, leafD c.2 = some d ∧ QX (.ok d) e) QX) := by
  refine Zy.trans ?_
  simp only [inner]
 constructor
 ·rintro ⟨b, hb, h⟩
  exact ⟨⟨b, hb⟩, mid.mp h⟩
 ·rintro ⟨⟨b, hb⟩, h⟩
  exact ⟨b, hb, mid.mpr h⟩
noncomputable def retI (np : Nat) (r : Rx OT) (T' : OT) : Ot → En → Prop
 | .rt T, e => r = .ok T ∧ e[0]? = some (some T') ∧ np ≤ e.length
 | .nx, e => r = .ok (.leaf .none) ∧ e[0]? = some (some T') ∧ np ≤ e.length
 | .ex C, e => r = .ex C ∧ e[0]? = some (some T') ∧ np ≤ e.length
 | _, _ => False
theorem Zow {np : Nat} {r : Rx OT} {T T' : OT} {e : En} : retI np r T' (.rt T) e = (r = .ok T ∧ e[0]? = some (some T') ∧ np ≤ e.length) := id rfl
theorem ZpW {np : Nat} {r : Rx OT} {T' : OT} {e : En} : retI np r T' .nx e = (r = .ok (.leaf .none) ∧ e[0]? = some (some T') ∧ np ≤ e.length) := id rfl
theorem Zp0 {np : Nat} {r : Rx OT} {T' : OT} {C : Addr} {e : En} : retI np r T' (.ex C) e = (r = .ex C ∧ e[0]? = some (some T') ∧ np ≤ e.length) := id rfl
theorem ZfH : ∀ {ds : List PyData} {e : En}, ds.length ≤ e.length → takeA (fun i => Nat.blt (i + 1) 1) (ds.map OT.leaf) e = some (ds.map OT.leaf)
 | [], _, _ => by simp [takeA]
 | d :: ds, [], h => by simp at h
 | d :: ds, o :: e, h => by
  have ih := ZfH (ds := ds) (e := e) (by simpa using h)
  have hk : (fun i => Nat.blt (i + 1 + 1) 1) = fun i => Nat.blt (i + 1) 1 := by
   funext i
   simp [Nat.blt, Nat.ble]
  rw [List.map_cons]
  unfold takeA
  rw [if_neg (by decide)]
  dsimp only
  rw [hk, ih]
  rfl
theorem Zsf {np n : Nat} {s : FS} {T T' : OT} {ds : List PyData} {r : Rx OT} (h : Wp s (start0 n (T :: ds.map OT.leaf)) (retI np r T')) (hl : ds.length + 1 = np := by rfl) : fnI np n (fun i => Nat.blt i 1) s (T :: ds.map OT.leaf) = some (r, T' :: ds.map OT.leaf) := by
 obtain ⟨o, e, h1, h2⟩ := h
 have ht : e[0]? = some (some T') → np ≤ e.length → takeA (fun i => Nat.blt i 1) (T :: ds.map OT.leaf) e = some (T' :: ds.map OT.leaf) := fun a b => by
  cases e with
  | nil => cases a
  | cons o e =>
   obtain rfl := Option.some.inj a
   unfold takeA
   rw [if_pos (by decide)]
   dsimp only [Option.bind]
   rw [ZfH (by simp at b; omega)]
   rfl
 unfold fnI
 rw [if_pos (by rw [List.length_cons, List.length_map]; exact hl), h1]
 cases o with
 | rt R => obtain ⟨rfl, a, b⟩ := h2; dsimp only; rw [ht a b]; rfl
 | nx => obtain ⟨rfl, a, b⟩ := h2; dsimp only; rw [ht a b]; rfl
 | ex C => obtain ⟨rfl, a, b⟩ := h2; dsimp only; rw [ht a b]; rfl
 | bk => exact h2.elim
 | ct => exact h2.elim
/-- place[j] = e -/
theorem Zo5 {pl : FP} {w : FW} : Wp (sPutP pl w xv) en Q ↔ Wp xv en (cO (fun d e => ∃ q, pl e = some q ∧ ∃ dj, w (strong e) = some dj ∧ ∃ j, asI dj = some j ∧ ∃ T, e[q.1]? = some (some T) ∧ ∃ cs, T.sub q.2 = some (.node .lst cs) ∧ ∃ n, L2.ixN cs.length j = some n ∧ Q .nx (e.set q.1 (some (T.put q.2 (.node .lst (cs.set n (.no, .leaf d))))))) Q) := by
 constructor
 ·rintro ⟨r, e2, h, q⟩
  rcases Zw h with ⟨d, e1, h0, h⟩ | ⟨C, h0, rfl⟩
  ·refine ⟨.ok d, e1, h0, ?_⟩
   obtain ⟨p, h1, h⟩ := bnd h
   obtain ⟨dj, h2, h⟩ := bnd h
   obtain ⟨j, h3, h⟩ := bnd h
   obtain ⟨T, h4, h⟩ := bnd h
   obtain ⟨S, h5, h⟩ := bnd h
   split at h
   ·obtain ⟨n, h6, h⟩ := Option.map_eq_some_iff.mp h
    cases h
    exact ⟨p, h1, dj, h2, j, h3, T, Z6.mp h4, _, h5, n, h6, q⟩
   ·cases h
  ·exact ⟨.ex C, e2, h0, q⟩
 ·rintro ⟨r, e1, h0, h⟩
  cases r with
  | ex C => exact ⟨.ex C, e1, by unfold sPutP; rw [h0]; rfl, h⟩
  | ok d =>
   obtain ⟨p, h1, dj, h2, j, h3, T, h4, cs, h5, n, h6, q⟩ := h
   refine ⟨.nx, _, ?_, q⟩
   unfold sPutP
   rw [h0]
   show ((pl e1).bind _) = _
   rw [h1, Option.bind_some, h2, Option.bind_some, h3, Option.bind_some, Z6.mpr h4, Option.bind_some, h5, Option.bind_some]
   dsimp only
   rw [h6]
   rfl
end
end Kb
namespace Kb
open PySem L2 Evl
class Kt (α : Type) where
 q : α → Prop
class Ke (α : Type) where
 q : α → En → Prop
class Kp where
 p : Prop
noncomputable def og {α : Type} (o : Option α) [Q : Kt α] : Prop := ∃ a, o = some a ∧ Q.q a
noncomputable def gd (P : Prop) [R : Kp] : Prop := P ∧ R.p
noncomputable def ifP (t : Bool) [P : Kp] [R : Kp] : Prop := (t = true → P.p) ∧ (t = false → R.p)
noncomputable def Ru {α : Type} (m : En → Option (α × En)) (en : En) [Q : Ke α] : Prop := Wp m en Q.q
theorem Zq {α : Type} {a : α} {Q : Kt α} : @og _ (some a) Q = Q.q a := propext ⟨fun ⟨_, h, q⟩ => by cases h; exact q, fun q => ⟨a, rfl, q⟩⟩
theorem ZaH {α : Type} {Q : Kt α} : @og _ none Q = False := propext ⟨fun ⟨_, h, _⟩ => (nomatch h), fun h => h.elim⟩
theorem Zd {α β : Type} {o : Option α} {f : α → Option β} {Q : Kt β} : @og _ (o.bind f) Q = @og _ o ⟨fun a => @og _ (f a) Q⟩ := propext ⟨fun ⟨b, h, q⟩ => let ⟨a, h1, h2⟩ := bnd h; ⟨a, h1, b, h2, q⟩, fun ⟨a, h1, b, h2, q⟩ => ⟨b, by rw [h1]; exact h2, q⟩⟩
theorem Z4 {α β : Type} {o : Option α} {f : α → β} {Q : Kt β} : @og _ (o.map f) Q = @og _ o ⟨fun a => Q.q (f a)⟩ := propext ⟨fun ⟨b, h, q⟩ => let ⟨a, h1, h2⟩ := Option.map_eq_some_iff.mp h; ⟨a, h1, by show Q.q (f a); rw [h2]; exact q⟩, fun ⟨a, h1, q⟩ => ⟨_, by rw [h1]; rfl, q⟩⟩
theorem Zd9 {α : Type} {t : Bool} {a b : Option α} {Q : Kt α} : @og _ (if t = true then a else b) Q = @ifP t ⟨@og _ a Q⟩ ⟨@og _ b Q⟩ := by
 cases t with
 | true => rw [if_pos rfl]; exact propext ⟨fun h => ⟨fun _ => h, fun z => (nomatch z)⟩, fun h => h.1 rfl⟩
 | false => rw [if_neg Bool.false_ne_true]; exact propext ⟨fun h => ⟨fun z => (nomatch z), fun _ => h⟩, fun h => h.2 rfl⟩
theorem Zac {α : Type} {c : Prop} [Decidable c] {a : Option α} {Q : Kt α} : @og _ (if c then a else none) Q = @gd c ⟨@og _ a Q⟩ := by
 by_cases h : c
 ·rw [if_pos h]; exact propext ⟨fun q => ⟨h, q⟩, fun q => q.2⟩
 ·rw [if_neg h]; exact propext ⟨fun ⟨_, z, _⟩ => (nomatch z), fun q => absurd q.1 h⟩
theorem Zol {R : Kp} : @gd True R = R.p := propext ⟨fun h => h.2, fun h => ⟨trivial, h⟩⟩
theorem ZmH {P R : Kp} : @ifP true P R = P.p := propext ⟨fun h => h.1 rfl, fun h => ⟨fun _ => h, fun z => (nomatch z)⟩⟩
theorem Zlq {P R : Kp} : @ifP false P R = R.p := propext ⟨fun h => h.2 rfl, fun h => ⟨fun z => (nomatch z), fun _ => h⟩⟩
section
variable {en : En} {Q : Ke Ot} {a b : FS} {x y xi xv : FX} {n n2 : FN} {c c2 : FB} {A : FA} {i : Nat} {w : FW}
theorem Zle : @Ru _ (sSeq a b) en Q = @Ru _ a en ⟨cS (fun e => @Ru _ b e Q) Q.q⟩ := propext Zrf
theorem ZrW : @Ru _ sNil en Q = Q.q .nx en := propext ZqH
theorem ZqF : @Ru _ (sAsg i x) en Q = @Ru _ x en ⟨cO (fun d e => Q.q .nx (e.set i (some (.leaf d)))) Q.q⟩ := propext ZrB
theorem Zpr : @Ru _ (sAsgN i n) en Q = @Ru _ n en ⟨cO (fun T e => Q.q .nx (e.set i (some T))) Q.q⟩ := propext ZpE
theorem Zo3 : @Ru _ (sDrop x) en Q = @Ru _ x en ⟨cO (fun _ e => Q.q .nx e) Q.q⟩ := propext ZoJ
theorem Zek : @Ru _ (sDropN n) en Q = @Ru _ n en ⟨cO (fun _ e => Q.q .nx e) Q.q⟩ := propext Zl6
theorem ZrZ : @Ru _ (sRet n) en Q = @Ru _ n en ⟨cO (fun T e => Q.q (.rt T) e) Q.q⟩ := propext Zsd
theorem Zon : @Ru _ sRetN en Q = Q.q (.rt (.leaf .none)) en := propext ZoD
theorem ZnC {C : Addr} : @Ru _ (sRaise C) en Q = Q.q (.ex C) en := propext ZmX
theorem ZsS : @Ru _ sBk en Q = Q.q .bk en := propext ZsA
theorem Zsv : @Ru _ sCt en Q = Q.q .ct en := propext Ztl
theorem Ztt : @Ru _ (sIf c a b) en Q = @Ru _ c en ⟨cO (fun t e => @ifP t ⟨@Ru _ a e Q⟩ ⟨@Ru _ b e Q⟩) Q.q⟩ := propext ZsE
theorem Zrz {bd : PyData → En → Option En} : @Ru _ (sFor A bd a) en Q = @Ru _ A en ⟨cO (fun ds e => @Ru _ (forGo bd a ds) e Q) Q.q⟩ := propext Zrh
theorem Zqc {bd : PyData → En → Option En} : @Ru _ (sAsgG bd x) en Q = @Ru _ x en ⟨cO (fun d e => @og _ (bd d e) ⟨fun e2 => Q.q .nx e2⟩) Q.q⟩ := propext ZnT
theorem Zqs : @Ru _ (sApp i x) en Q = @gd (∃ cs, lstAt en i = some cs) ⟨@Ru _ x en ⟨cO (fun d e => @og _ (lstAt e i) ⟨fun cs => @gd (cs.length < 100000) ⟨Q.q .nx (e.set i (some (.node .lst (cs ++ [(.no, .leaf d)]))))⟩⟩) Q.q⟩⟩ := propext ZrX
theorem ZnS {pl : FP} : @Ru _ (sPutP pl w xv) en Q = @Ru _ xv en ⟨cO (fun d e => @og _ (pl e) ⟨fun q => @og _ (w (strong e)) ⟨fun dj => @og _ (asI dj) ⟨fun j => @og _ (e[q.1]?.join) ⟨fun T => @og _ (T.sub q.2) ⟨fun S => ∃ cs, S = .node .lst cs ∧ @og _ (L2.ixN cs.length j) ⟨fun n => Q.q .nx (e.set q.1 (some (T.put q.2 (.node .lst (cs.set n (.no, .leaf d))))))⟩⟩⟩⟩⟩⟩) Q.q⟩ := by
 refine (propext Zo5).trans ?_
 congr 2
 funext d e
 refine propext ?_
 constructor
 ·rintro ⟨q, h1, dj, h2, j, h3, T, h4, cs, h5, n, h6, k⟩
  exact ⟨q, h1, dj, h2, j, h3, T, Z6.mpr h4, _, h5, cs, rfl, n, h6, k⟩
 ·rintro ⟨q, h1, dj, h2, j, h3, T, h4, S, h5, cs, rfl, n, h6, k⟩
  exact ⟨q, h1, dj, h2, j, h3, T, Z6.mp h4, cs, h5, n, h6, k⟩
theorem Zog {cs : List (Lab × OT)} {P : List (Lab × OT) → Prop} : (∃ cs', OT.node .lst cs = .node .lst cs' ∧ P cs') = P cs := propext ⟨fun ⟨_, h, p⟩ => by cases h; exact p, fun p => ⟨cs, rfl, p⟩⟩
end
section
variable {en : En} {Q : Ke (Rx PyData)} {QB : Ke (Rx Bool)} {QN : Ke (Rx OT)} {QA : Ke (Rx (List PyData))} {a b : FX} {x y : FX} {n n2 : FN} {c c2 : FB} {A : FA} {i : Nat} {w : FW} {f : FD}
theorem ZsJ : @Ru _ (xS w) en Q = @og _ (w (strong en)) ⟨fun d => Q.q (.ok d) en⟩ := propext Zs5
theorem ZsI : @Ru _ (xW w) en Q = @og _ (w (weak en)) ⟨fun d => @gd (flatD d = true) ⟨Q.q (.ok d) en⟩⟩ := propext Zth
theorem ZsR {f : DE → Option Bool} : @Ru _ (bS f) en QB = @og _ (f (strong en)) ⟨fun d => QB.q (.ok d) en⟩ := propext ZsC
theorem ZrE {f : DE → Option Bool} : @Ru _ (bWk f) en QB = @og _ (f (weak en)) ⟨fun d => QB.q (.ok d) en⟩ := propext ZqI
theorem ZsP : @Ru _ (xN n) en Q = @Ru _ n en ⟨cX (fun T e => Q.q (.ok T.data) e) Q.q⟩ := propext Zs0
theorem Zso : @Ru _ (nX x) en QN = @Ru _ x en ⟨cX (fun d e => QN.q (.ok (.leaf d)) e) QN.q⟩ := propext Zsm
theorem ZqO {o : PyData → PyData → Option PyData} : @Ru _ (xOp o a b) en Q = @Ru _ a en ⟨cX (fun x e => @Ru _ b e ⟨cX (fun y e => @og _ (o x y) ⟨fun d => Q.q (.ok d) e⟩) Q.q⟩) Q.q⟩ := propext Zqh
theorem ZqA {o : PyData → Option PyData} : @Ru _ (xUn o a) en Q = @Ru _ a en ⟨cX (fun x e => @og _ (o x) ⟨fun d => Q.q (.ok d) e⟩) Q.q⟩ := propext Zr2
theorem Zny : @Ru _ aNilX en QA = QA.q (.ok []) en := propext ZnB
theorem ZlP {r : FA} : @Ru _ (aConsX a r) en QA = @Ru _ a en ⟨cX (fun x e => @Ru _ r e ⟨cX (fun xs e => QA.q (.ok (x :: xs)) e) QA.q⟩) QA.q⟩ := propext Zk7
theorem Ztg {f : DE → Option (List PyData)} : @Ru _ (aS f) en QA = @og _ (f (strong en)) ⟨fun d => QA.q (.ok d) en⟩ := propext Ztd
theorem ZrK {o : List PyData → Option PyData} : @Ru _ (xCb o A) en Q = @Ru _ A en ⟨cX (fun xs e => @og _ (o xs) ⟨fun d => Q.q (.ok d) e⟩) Q.q⟩ := propext Zq4
theorem ZpV : @Ru _ (xTup A) en Q = @Ru _ A en ⟨cX (fun xs e => @gd (xs.length ≤ 100000) ⟨Q.q (.ok (.tuple xs)) e⟩) Q.q⟩ := propext Zpi
theorem Zoi : @Ru _ (nLst A) en QN = @Ru _ A en ⟨cX (fun xs e => @gd (xs.length ≤ 100000) ⟨QN.q (.ok (lstT xs)) e⟩) QN.q⟩ := propext ZoX
theorem ZqR : @Ru _ (bXx x) en QB = @Ru _ x en ⟨cX (fun d e => @og _ (asB d) ⟨fun t => QB.q (.ok t) e⟩) QB.q⟩ := propext Zsi
theorem ZmP : @Ru _ (bAndX c c2) en QB = @Ru _ c en ⟨cX (fun t e => @ifP t ⟨@Ru _ c2 e QB⟩ ⟨QB.q (.ok false) e⟩) QB.q⟩ := propext Zmz
theorem Zpt : @Ru _ (bOrX c c2) en QB = @Ru _ c en ⟨cX (fun t e => @ifP t ⟨QB.q (.ok true) e⟩ ⟨@Ru _ c2 e QB⟩) QB.q⟩ := propext ZpO
theorem Zme : @Ru _ (bNotX c) en QB = @Ru _ c en ⟨cX (fun t e => QB.q (.ok (!t)) e) QB.q⟩ := propext Zmj
theorem Zqw : @Ru _ (xIf c x y) en Q = @Ru _ c en ⟨cX (fun t e => @ifP t ⟨@Ru _ x e Q⟩ ⟨@Ru _ y e Q⟩) Q.q⟩ := propext Zq6
theorem ZqQ : @Ru _ (nIf c n n2) en QN = @Ru _ c en ⟨cX (fun t e => @ifP t ⟨@Ru _ n e QN⟩ ⟨@Ru _ n2 e QN⟩) QN.q⟩ := propext Zr6
theorem Zot : @Ru _ (xNot x) en Q = @Ru _ x en ⟨cX (fun d e => @og _ (asB d) ⟨fun t => Q.q (.ok (.bool (!t))) e⟩) Q.q⟩ := propext ZpK
theorem Zs7 : @Ru _ (nF w) en QN = @og _ (w (strong en)) ⟨fun d => QN.q (.ok (freshT d)) en⟩ := propext Zta
theorem Zrn : @Ru _ (nFW w) en QN = @og _ (w (weak en)) ⟨fun d => ∃ ds, d = .list ds ∧ @gd (ds.all flatD = true) ⟨QN.q (.ok (lstT ds)) en⟩⟩ := by
 refine (propext Zq2).trans (propext ?_)
 constructor
 ·rintro ⟨ds, h1, h2, q⟩
  exact ⟨_, h1, ds, rfl, h2, q⟩
 ·rintro ⟨_, h1, ds, rfl, h2, q⟩
  exact ⟨ds, h1, h2, q⟩
theorem Ziw {ds : List PyData} {P : List PyData → Prop} : (∃ ds', PyData.list ds = .list ds' ∧ P ds') = P ds := propext ⟨fun ⟨_, h, p⟩ => by cases h; exact p, fun p => ⟨ds, rfl, p⟩⟩
theorem ZsV {o : PyData → Option (List PyData)} : @Ru _ (iX o x) en QA = @Ru _ x en ⟨cX (fun d e => @og _ (o d) ⟨fun ds => QA.q (.ok ds) e⟩) QA.q⟩ := propext Zsq
theorem ZtC {o : List PyData → Option (List PyData)} : @Ru _ (iA o A) en QA = @Ru _ A en ⟨cX (fun d e => @og _ (o d) ⟨fun ds => QA.q (.ok ds) e⟩) QA.q⟩ := propext ZsX
theorem Zls {f : List PyData → Option (PyData ⊕ Addr)} : @Ru _ (xCallX f A) en Q = @Ru _ A en ⟨cX (fun xs e => @og _ (f xs) ⟨fun o => Q.q (rxO o) e⟩) Q.q⟩ := propext Zk9
theorem Zhl {f : List PyData → Option PyData} : @Ru _ (nCallF f A) en QN = @Ru _ A en ⟨cX (fun xs e => @og _ (f xs) ⟨fun d => QN.q (.ok (freshT d)) e⟩) QN.q⟩ := propext ZlE
theorem ZkC {f : List PyData → Option (PyData ⊕ Addr)} : @Ru _ (nCallXF f A) en QN = @Ru _ A en ⟨cX (fun xs e => @og _ (f xs) ⟨fun o => QN.q (rxF o) e⟩) QN.q⟩ := propext ZkK
theorem Zoe : @Ru _ (nMove i) en QN = @og _ (en[i]?.join) ⟨fun T => QN.q (.ok T) (en.set i none)⟩ := by
 refine (propext ZoR).trans (propext ?_)
 exact exists_congr fun T => and_congr_left fun _ => Z6.symm
theorem Zpf : @Ru _ (xTell i) en Q = @og _ (en[i]?.join) ⟨fun T => Q.q (.ok T.data) (en.set i (some (.leaf T.data)))⟩ := by
 refine (propext ZpT).trans (propext ?_)
 exact exists_congr fun T => and_congr_left fun _ => Z6.symm
/-- what a call told and left -/
noncomputable def kI (Q : Rx OT → List OT → Prop) (r : Rx OT × List OT) : Prop := Q r.1 r.2
theorem Zs1 {Q : Rx OT → List OT → Prop} {r : Rx OT} {as : List OT} : kI Q (r, as) = Q r as := id rfl
noncomputable def kN (Q : OT → List OT → Prop) : Rx OT × List OT → Prop
 | (.ok R, as) => Q R as
 | _ => False
theorem Ztp {Q : OT → List OT → Prop} {R : OT} {as : List OT} : kN Q (.ok R, as) = Q R as := id rfl
theorem Zlx : @Ru _ (nCallI f [i] A) en QN = @gd (∃ T0, en[i]? = some (some T0)) ⟨@Ru _ A en ⟨cX (fun ds e => @og _ (e[i]?.join) ⟨fun T => @og _ (f (T :: ds.map OT.leaf)) ⟨kI fun R as => QN.q R (putE [i] as (e.set i none))⟩⟩) QN.q⟩⟩ := by
 refine (propext Zhi).trans ?_
 show (_ ∧ _) = (_ ∧ _)
 congr 3
 funext ds e
 refine propext ?_
 constructor
 ·rintro ⟨T, h1, R, as, h2, q⟩
  exact ⟨T, Z6.mpr h1, (R, as), h2, q⟩
 ·rintro ⟨T, h1, ⟨R, as⟩, h2, q⟩
  exact ⟨T, Z6.mp h1, R, as, h2, q⟩
theorem Znm : @Ru _ (nCallI (noX f) [i] A) en QN = @gd (∃ T0, en[i]? = some (some T0)) ⟨@Ru _ A en ⟨cX (fun ds e => @og _ (e[i]?.join) ⟨fun T => @og _ (f (T :: ds.map OT.leaf)) ⟨kN fun R as => QN.q (.ok R) (putE [i] as (e.set i none))⟩⟩) QN.q⟩⟩ := by
 refine (propext Zm2).trans ?_
 show (_ ∧ _) = (_ ∧ _)
 congr 3
 funext ds e
 refine propext ?_
 constructor
 ·rintro ⟨T, h1, R, as, h2, q⟩
  exact ⟨T, Z6.mpr h1, (.ok R, as), h2, q⟩
 ·rintro ⟨T, h1, ⟨R, as⟩, h2, q⟩
  cases R with
  | ok R => exact ⟨T, Z6.mp h1, R, as, h2, q⟩
  | ex C => exact q.elim
theorem ZqG : @Ru _ (xIxV i x) en Q = @gd (∃ cs, lstAt en i = some cs) ⟨@Ru _ x en ⟨cX (fun j e => @og _ (lstAt e i) ⟨fun cs => @og _ (asI j) ⟨fun k => @og _ (L2.atI cs k) ⟨fun c => @og _ (leafD c.2) ⟨fun d => Q.q (.ok d) e⟩⟩⟩⟩) Q.q⟩⟩ := propext ZrD
theorem Zs8 {t : FO} : @Ru _ (nT t) en QN = @og _ (t (weak en)) ⟨fun T => QN.q (.ok T) en⟩ := propext ZH
end
theorem Zr0 {α : Type} {it : DE → Option (List PyData)} {bd : PyData → DE → Option DE} {el : FW} {vs : List Nat} {ρ : DE} {Q : Kt PyData} (g : α → PyData) (xs : List α) (f : α → PyData) (hit : it ρ = some (xs.map g)) (hl : xs.length ≤ 50000)
  (h : ∀ x ∈ xs, @og _ (bd (g x) (wipeD ρ vs)) ⟨fun ρ1 => @og _ (el ρ1) ⟨fun d => d = f x⟩⟩) (k : Q.q (.list (xs.map f))) : @og _ (wLc it bd bYes el vs ρ) Q :=
 ⟨_, ZqB g xs f hit hl fun x hx => by
  obtain ⟨ρ1, h1, d, h2, rfl⟩ := h x hx
  exact ⟨ρ1, h1, h2⟩, k⟩
theorem ZX {P : Prop} {R : Kp} (h1 : P) (h2 : R.p) : @gd P R := ⟨h1, h2⟩
theorem Zfk {α : Type} {b : PyData → En → Option En} {s : FS} {Q : Ke Ot} (g : α → PyData) (xs : List α) (I : Nat → En → Prop) {en : En} (h0 : I 0 en)
  (hs : ∀ i x, xs[i]? = some x → ∀ e, I i e → @og _ (b (g x) e) ⟨fun e1 => @Ru _ s e1 ⟨cL (I (i + 1)) Q.q⟩⟩) (hq : ∀ e, I xs.length e → Q.q .nx e) : @Ru _ (forGo b s (xs.map g)) en Q := Zps g xs I h0 hs hq
end Kb
namespace Kb
open PySem L2 Evl
section
variable {ρ : DE} {Q : Kt PyData} {QB : Kt Bool} {QA : Kt (List PyData)} {QE : Kt DE} {QO : Kt (Option Int)} {a b c : FW} {s : DE → Option (List PyData)} {p q : DE → Option Bool} {i : Nat}
theorem Ztz : @og _ (wV i ρ) Q = @og _ (ρ[i]?.join) Q := id rfl
theorem ZsF {d : PyData} : @og _ (wC d ρ) Q = Q.q d := Zq
theorem Zro {o : PyData → PyData → Option PyData} : @og _ (wOp o a b ρ) Q = @og _ (a ρ) ⟨fun x => @og _ (b ρ) ⟨fun y => @og _ (o x y) Q⟩⟩ := by
 refine (Zd (o := a ρ)).trans ?_
 congr 2
 funext x
 exact Zd
theorem Zrc {o : PyData → Option PyData} : @og _ (wUn o a ρ) Q = @og _ (a ρ) ⟨fun x => @og _ (o x) Q⟩ := Zd
theorem Zsh {o : List PyData → Option PyData} : @og _ (wCb o s ρ) Q = @og _ (s ρ) ⟨fun x => @og _ (o x) Q⟩ := Zd
theorem Zpc : @og _ (aNil ρ) QA = QA.q [] := Zq
theorem Zmk : @og _ (aCons a s ρ) QA = @og _ (a ρ) ⟨fun x => @og _ (s ρ) ⟨fun xs => QA.q (x :: xs)⟩⟩ := by
 refine (Zd (o := a ρ)).trans ?_
 congr 2
 funext x
 refine Zd.trans ?_
 congr 2
 funext xs
 exact Zq
theorem Zty : @og _ (bW a ρ) QB = @og _ (a ρ) ⟨fun x => @og _ (asB x) QB⟩ := Zd
theorem Zn5 : @og _ (bAnd p q ρ) QB = @og _ (p ρ) ⟨fun x => @ifP x ⟨@og _ (q ρ) QB⟩ ⟨QB.q false⟩⟩ := by
 refine (Zd (o := p ρ)).trans ?_
 congr 2
 funext x
 refine Zd9.trans ?_
 rw [Zq]
theorem ZrU : @og _ (bOr p q ρ) QB = @og _ (p ρ) ⟨fun x => @ifP x ⟨QB.q true⟩ ⟨@og _ (q ρ) QB⟩⟩ := by
 refine (Zd (o := p ρ)).trans ?_
 congr 2
 funext x
 refine Zd9.trans ?_
 rw [Zq]
theorem ZpU : @og _ (bNot p ρ) QB = @og _ (p ρ) ⟨fun x => QB.q (!x)⟩ := Z4
theorem Zou : @og _ (bYes ρ) QB = QB.q true := Zq
theorem Zqd : @og _ (wAnd a b ρ) Q = @og _ (a ρ) ⟨fun x => @og _ (asB x) ⟨fun t => @ifP t ⟨@og _ (b ρ) ⟨fun y => @og _ (asB y) ⟨fun u => Q.q (.bool u)⟩⟩⟩ ⟨Q.q (.bool false)⟩⟩⟩ := by
 refine (Zd (o := a ρ)).trans ?_
 congr 2
 funext x
 refine (Zd (o := asB x)).trans ?_
 congr 2
 funext t
 refine Zd9.trans ?_
 rw [Zq]
 congr 2
 refine (Zd (o := b ρ)).trans ?_
 congr 2
 funext y
 exact Z4
theorem Zrq : @og _ (wOr a b ρ) Q = @og _ (a ρ) ⟨fun x => @og _ (asB x) ⟨fun t => @ifP t ⟨Q.q (.bool true)⟩ ⟨@og _ (b ρ) ⟨fun y => @og _ (asB y) ⟨fun u => Q.q (.bool u)⟩⟩⟩⟩⟩ := by
 refine (Zd (o := a ρ)).trans ?_
 congr 2
 funext x
 refine (Zd (o := asB x)).trans ?_
 congr 2
 funext t
 refine Zd9.trans ?_
 rw [Zq]
 congr 2
 refine (Zd (o := b ρ)).trans ?_
 congr 2
 funext y
 exact Z4
theorem ZnU : @og _ (wNot a ρ) Q = @og _ (a ρ) ⟨fun x => @og _ (asB x) ⟨fun u => Q.q (.bool (!u))⟩⟩ := by
 refine (Zd (o := a ρ)).trans ?_
 congr 2
 funext x
 exact Z4
theorem ZqE : @og _ (wIf p a b ρ) Q = @og _ (p ρ) ⟨fun t => @ifP t ⟨@og _ (a ρ) Q⟩ ⟨@og _ (b ρ) Q⟩⟩ := by
 refine (Zd (o := p ρ)).trans ?_
 congr 2
 funext x
 exact Zd9
theorem ZjI : @og _ (wLst s ρ) Q = @og _ (s ρ) ⟨fun xs => @gd (xs.length ≤ 100000) ⟨Q.q (.list xs)⟩⟩ := by
 refine (Zd (o := s ρ)).trans ?_
 congr 2
 funext x
 refine Zac.trans ?_
 rw [Zq, big_eq]
where big_eq {x : List PyData} : (big x = true) = (x.length ≤ 100000) := by unfold big; simp
theorem ZoK : @og _ (wTup s ρ) Q = @og _ (s ρ) ⟨fun xs => @gd (xs.length ≤ 100000) ⟨Q.q (.tuple xs)⟩⟩ := by
 refine (Zd (o := s ρ)).trans ?_
 congr 2
 funext x
 refine Zac.trans ?_
 rw [Zq, ZjI.big_eq]
theorem Zse {o : PyData → Option Int → Option Int → Option PyData} {l h : DE → Option (Option Int)} : @og _ (wSl o a l h ρ) Q = @og _ (a ρ) ⟨fun x => @og _ (l ρ) ⟨fun i => @og _ (h ρ) ⟨fun j => @og _ (o x i j) Q⟩⟩⟩ := by
 refine (Zd (o := a ρ)).trans ?_
 congr 2
 funext x
 refine (Zd (o := l ρ)).trans ?_
 congr 2
 funext y
 exact Zd
theorem Zrs : @og _ (pNo ρ) QO = QO.q none := Zq
theorem Zrv : @og _ (pSo a ρ) QO = @og _ (a ρ) ⟨fun x => @og _ (asI x) ⟨fun i => QO.q (some i)⟩⟩ := by
 refine (Zd (o := a ρ)).trans ?_
 congr 2
 funext x
 exact Z4
theorem Zlt {o o2 : PyData → PyData → Option PyData} : @og _ (wChain o o2 a b c ρ) Q = @og _ (a ρ) ⟨fun x => @og _ (b ρ) ⟨fun y => @og _ (o x y) ⟨fun k => @og _ (asB k) ⟨fun t => @ifP t ⟨@og _ (c ρ) ⟨fun z => @og _ (o2 y z) Q⟩⟩ ⟨Q.q (.bool false)⟩⟩⟩⟩⟩ := by
 refine (Zd (o := a ρ)).trans ?_
 congr 2
 funext x
 refine (Zd (o := b ρ)).trans ?_
 congr 2
 funext y
 refine (Zd (o := o x y)).trans ?_
 congr 2
 funext k
 refine (Zd (o := asB k)).trans ?_
 congr 2
 funext t
 refine Zd9.trans ?_
 rw [Zq]
 congr 2
 exact Zd
theorem Zr7 : @og _ (itL a ρ) QA = @og _ (a ρ) ⟨fun x => @og _ (asL x) QA⟩ := Zd
theorem Zr3 : @og _ (itT a ρ) QA = @og _ (a ρ) ⟨fun x => @og _ (asT x) QA⟩ := Zd
theorem Zrb : @og _ (itS a ρ) QA = @og _ (a ρ) ⟨fun x => @og _ (asS x) ⟨fun s => QA.q (signs s)⟩⟩ := by
 refine (Zd (o := a ρ)).trans ?_
 congr 2
 funext x
 exact Z4
theorem ZqY {o : List PyData → Option (List PyData)} : @og _ (itA o s ρ) QA = @og _ (s ρ) ⟨fun x => @og _ (o x) QA⟩ := Zd
theorem Zn3 {C : Addr} {m : Str} {f : List PyData → Option PyData} : @og _ (wMth C m f a s ρ) Q = @og _ (a ρ) ⟨fun x => @gd (isI C m x = true) ⟨@og _ (s ρ) ⟨fun xs => @og _ (f (x :: xs)) Q⟩⟩⟩ := by
 refine (Zd (o := a ρ)).trans ?_
 congr 2
 funext x
 refine Zac.trans ?_
 congr 2
 exact Zd
theorem ZmE {j : Nat} {d : PyData} : @og _ (bName j d ρ) QE = QE.q (ρ.set j (some d)) := Zq
theorem Zo4 : @og _ (bNil [] ρ) QE = QE.q ρ := Zq
theorem Zl2 {bd : PyData → DE → Option DE} {r : List PyData → DE → Option DE} {d : PyData} {ds : List PyData} : @og _ (bCons bd r (d :: ds) ρ) QE = @og _ (bd d ρ) ⟨fun e => @og _ (r ds e) QE⟩ := Zd
theorem ZpH {n : Nat} {r : List PyData → DE → Option DE} {ds : List PyData} : @og _ (bTup n r (.tuple ds) ρ) QE = @gd (ds.length = n) ⟨@og _ (r ds ρ) QE⟩ := Zac
theorem ZoG {n : Nat} {r : List PyData → DE → Option DE} {ds : List PyData} : @og _ (bLst n r (.list ds) ρ) QE = @gd (ds.length = n) ⟨@og _ (r ds ρ) QE⟩ := Zac
end
section
variable {e : En} {QE : Kt En}
theorem Zmi {j : Nat} {d : PyData} : @og _ (eName j d e) QE = QE.q (e.set j (some (.leaf d))) := Zq
theorem Zpz : @og _ (eNil [] e) QE = QE.q e := Zq
theorem Zni {bd : PyData → En → Option En} {r : List PyData → En → Option En} {d : PyData} {ds : List PyData} : @og _ (eCons bd r (d :: ds) e) QE = @og _ (bd d e) ⟨fun e => @og _ (r ds e) QE⟩ := Zd
theorem Zpm {n : Nat} {r : List PyData → En → Option En} {ds : List PyData} : @og _ (eTup n r (.tuple ds) e) QE = @gd (ds.length = n) ⟨@og _ (r ds e) QE⟩ := Zac
theorem ZpS {n : Nat} {r : List PyData → En → Option En} {ds : List PyData} : @og _ (eLst n r (.list ds) e) QE = @gd (ds.length = n) ⟨@og _ (r ds e) QE⟩ := Zac
end
theorem Zsg {α : Type} {it : DE → Option (List PyData)} {bd : PyData → DE → Option DE} {el : FW} {vs : List Nat} {ρ : DE} {Q : Kt PyData} (g : α → PyData) (xs : List α) (f : α → PyData) (hl : xs.length ≤ 50000) (hit : @og _ (it ρ) ⟨fun l => l = xs.map g⟩)
  (h : ∀ x ∈ xs, @og _ (bd (g x) (wipeD ρ vs)) ⟨fun ρ1 => @og _ (el ρ1) ⟨fun d => d = f x⟩⟩) (k : Q.q (.list (xs.map f))) : @og _ (wLc it bd bYes el vs ρ) Q :=
 Zr0 g xs f (let ⟨_, h, e⟩ := hit; h.trans (congrArg some e)) hl h k
section
variable {ρ : DE} {QT : Kt OT} {QTs : Kt (List OT)} {w : FW} {t : FO} {r : FOs}
theorem Zs4 : @og _ (tF w ρ) QT = @og _ (w ρ) ⟨fun d => @gd (flatD d = true) ⟨QT.q (.leaf d)⟩⟩ := by
 refine (Zd (o := w ρ)).trans ?_
 congr 2
 funext x
 refine Zac.trans ?_
 rw [Zq]
theorem Zm9 : @og _ (tNilO ρ) QTs = QTs.q [] := Zq
theorem Zlh : @og _ (tConsO t r ρ) QTs = @og _ (t ρ) ⟨fun T => @og _ (r ρ) ⟨fun Ts => QTs.q (T :: Ts)⟩⟩ := by
 refine (Zd (o := t ρ)).trans ?_
 congr 2
 funext x
 exact Z4
theorem Zmc {k : Kd} : @og _ (tNode k r ρ) QT = @og _ (r ρ) ⟨fun Ts => @gd (Ts.length ≤ 100000) ⟨QT.q (.node k (Ts.map fun T => (Lab.no, T)))⟩⟩ := by
 refine (Zd (o := r ρ)).trans ?_
 congr 2
 funext x
 refine Zac.trans ?_
 rw [Zq]
theorem Zob : @og _ (tNew w ρ) QT = @og _ (w ρ) ⟨fun d => ∃ ds, d = .list ds ∧ @gd (ds.all flatD = true) ⟨QT.q (lstT ds)⟩⟩ := by
 refine (Zd (o := w ρ)).trans ?_
 congr 2
 funext d
 cases d with
 | list ds =>
  rw [Ziw]
  refine Zac.trans ?_
  rw [Zq]
 | _ => exact ZaH.trans (propext ⟨fun h => h.elim, fun ⟨_, h, _⟩ => nomatch h⟩)
theorem Zox {f : List PyData → Option OT} {s : DE → Option (List PyData)} : @og _ (tCal f s ρ) QT = @og _ (s ρ) ⟨fun xs => @og _ (f xs) QT⟩ := Zd
theorem ZjC {α : Type} {bd : PyData → DE → Option DE} {c : DE → Option Bool} {el : FO} {ρ : DE} (g : α → PyData) (p : α → Bool) (f : α → OT) : ∀ xs : List α, (∀ x ∈ xs, @og _ (bd (g x) ρ) ⟨fun ρ1 => @og _ (c ρ1) ⟨fun b => b = p x ∧ (p x = true → @og _ (el ρ1) ⟨fun d => d = f x⟩)⟩⟩) → lcO bd c el ρ (xs.map g) = some ((xs.filter p).map f)
 | [], _ => rfl
 | x :: xs, h => by
  obtain ⟨ρ1, h1, b, h2, rfl, h3⟩ := h x List.mem_cons_self
  have ih := ZjC g p f xs fun y hy => h y (List.mem_cons_of_mem _ hy)
  rw [List.map_cons]
  unfold lcO
  rw [h1]
  dsimp only [Option.bind]
  rw [h2]
  cases hp : p x with
  | true =>
   obtain ⟨d, h4, rfl⟩ := h3 hp
   dsimp only
   rw [if_pos rfl, h4]
   dsimp only
   rw [ih]
   simp [List.filter_cons, hp]
  | false =>
   dsimp only
   rw [if_neg Bool.false_ne_true, ih]
   simp [List.filter_cons, hp]
theorem Zql {α : Type} {it : DE → Option (List PyData)} {bd : PyData → DE → Option DE} {c : DE → Option Bool} {el : FO} {vs : List Nat} (g : α → PyData) (xs : List α) (p : α → Bool) (f : α → OT) (hl : xs.length ≤ 50000) (hit : @og _ (it ρ) ⟨fun l => l = xs.map g⟩)
  (h : ∀ x ∈ xs, @og _ (bd (g x) (wipeD ρ vs)) ⟨fun ρ1 => @og _ (c ρ1) ⟨fun b => b = p x ∧ (p x = true → @og _ (el ρ1) ⟨fun d => d = f x⟩)⟩⟩) (k : QT.q (.node .lst ((xs.filter p).map fun x => (Lab.no, f x)))) : @og _ (tLcO it bd c el vs ρ) QT := by
 obtain ⟨l, h1, rfl⟩ := hit
 refine ⟨_, ?_, k⟩
 unfold tLcO
 rw [h1]
 show (if (xs.map g).length ≤ 50000 then (lcO bd c el (wipeD ρ vs) (xs.map g)).map _ else none) = _
 rw [List.length_map, if_pos hl, ZjC g p f xs h, Option.map_some, List.map_map]
 rfl
theorem Zqe {α : Type} {it : DE → Option (List PyData)} {bd : PyData → DE → Option DE} {el : FO} {vs : List Nat} (g : α → PyData) (xs : List α) (f : α → OT) (hl : xs.length ≤ 50000) (hit : @og _ (it ρ) ⟨fun l => l = xs.map g⟩)
  (h : ∀ x ∈ xs, @og _ (bd (g x) (wipeD ρ vs)) ⟨fun ρ1 => @og _ (el ρ1) ⟨fun d => d = f x⟩⟩) (k : QT.q (.node .lst (xs.map fun x => (Lab.no, f x)))) : @og _ (tLcO it bd bYes el vs ρ) QT := by
 refine Zql g xs (fun _ => true) f hl hit (fun x hx => ?_) (by rw [List.filter_eq_self.mpr fun _ _ => rfl]; exact k)
 obtain ⟨ρ1, h1, h2⟩ := h x hx
 exact ⟨ρ1, h1, true, rfl, rfl, fun _ => h2⟩
end
theorem Zqr {i : Nat} {is : List Nat} {T : OT} {Ts : List OT} {e : En} : putE (i :: is) (T :: Ts) e = (putE is Ts e).set i (some T) := id rfl
theorem ZrA {Ts : List OT} {e : En} : putE [] Ts e = e := by cases Ts <;> rfl
theorem Zrp {α : Type} {a : α} : (∃ T0, some a = some T0) = True := propext ⟨fun _ => trivial, fun _ => ⟨a, rfl⟩⟩
theorem ZqZ {α : Type} {a : α} : (∃ T0, some (some a) = some (some T0)) = True := propext ⟨fun _ => trivial, fun _ => ⟨a, rfl⟩⟩
theorem ZrH {np n : Nat} {s : FS} {ds : List PyData} {d : PyData} (h : @Ru _ s (start0 n (ds.map OT.leaf)) ⟨retD d⟩) (hl : ds.length = np := by rfl) : fnD np n s ds = some d := ZrF h hl
theorem ZK {np n : Nat} {s : FS} {T T' : OT} {ds : List PyData} {r : Rx OT} (h : @Ru _ s (start0 n (T :: ds.map OT.leaf)) ⟨retI np r T'⟩) (hl : ds.length + 1 = np := by rfl) : fnI np n (fun i => Nat.blt i 1) s (T :: ds.map OT.leaf) = some (r, T' :: ds.map OT.leaf) := Zsf h hl
theorem Zo2 {n : Nat} {T : OT} {ts : List OT} : start0 (n + 1) (T :: ts) = some T :: start0 n ts := by simp [start0]
theorem ZoO {n : Nat} : start0 (n + 1) [] = none :: start0 n [] := by simp [start0, List.replicate_succ]
theorem ZoZ : start0 0 [] = [] := rfl
/-- a word between two statements -/
theorem Zbs {a b : FS} {en : En} {Q : Ke Ot} (P : En → Prop) (h : @Ru _ a en ⟨cS P Q.q⟩) (k : ∀ e, P e → @Ru _ b e Q) : @Ru _ (sSeq a b) en Q := by
 rw [Zle]
 refine Wp.mono h fun o e ho => ?_
 cases o with
 | nx => exact k e ho
 | _ => exact ho
end Kb
namespace Kb
open PySem L2 Evl
section
variable {en : En} {Q : Ke Ot} {QX : Ke (Rx PyData)} {QN : Ke (Rx OT)} {x xi xv : FX} {n : FN} {i : Nat} {A it : FA} {b : PyData → En → Option En} {c : FB} {vs : List Nat}
theorem Zpb : @Ru _ (nLcT it b c x vs) en QN = @Ru _ it en ⟨cX (fun ds e => @gd (noOwn e vs = true ∧ ds.length ≤ 50000) ⟨@og _ (lcT b c x vs ds (wipeE e vs)) ⟨fun r => QN.q (.ok (lstT r.1)) (backE e r.2 vs)⟩⟩) QN.q⟩ := by
 refine (propext Zy).trans ?_
 show Wp it en _ = Wp it en _
 congr 2
 funext ds e
 refine propext ?_
 constructor
 ·rintro ⟨r, e', h, q⟩
  dsimp only at h
  split at h
  ·rename_i hc
   obtain ⟨⟨ys, e2⟩, h1, h2⟩ := Option.map_eq_some_iff.mp h
   cases h2
   exact ⟨hc, _, h1, q⟩
  ·cases h
 ·rintro ⟨hc, ⟨ys, e2⟩, h1, q⟩
  exact ⟨_, _, by dsimp only; rw [if_pos hc, h1]; rfl, q⟩
theorem Zk2 {α : Type} {Qr : Kt (List PyData × En)} (g : α → PyData) (xs : List α) (I : List α → List PyData → En → Prop) {e0 : En} (h0 : I [] [] e0)
  (hs : ∀ pre y, (∃ post, pre ++ y :: post = xs) → ∀ ys e, I pre ys e → @og _ (b (g y) e) ⟨fun e1 => @Ru _ c e1 ⟨cX (β := Unit) (fun t e2 => @ifP t ⟨@Ru _ x e2 ⟨cX (β := Unit) (fun d e3 => I (pre ++ [y]) (ys ++ [d]) (wipeE e3 vs)) (fun _ _ => False)⟩⟩ ⟨I (pre ++ [y]) ys (wipeE e2 vs)⟩) (fun _ _ => False)⟩⟩)
  (hq : ∀ ys e, I xs ys e → Qr.q (ys, e)) : @og _ (lcT b c x vs (xs.map g) e0) Qr := by
 have gen : ∀ (zs pre : List α) (ys : List PyData) (e : En), pre ++ zs = xs → I pre ys e → ∃ ws e', lcT b c x vs (zs.map g) e = some (ws, e') ∧ I xs (ys ++ ws) e' := by
  intro zs
  induction zs with
  | nil =>
   intro pre ys e hp hI
   rw [List.append_nil] at hp
   subst hp
   exact ⟨[], e, rfl, by rw [List.append_nil]; exact hI⟩
  | cons z zs ih =>
   intro pre ys e hp hI
   obtain ⟨e1, h1, r, e2, h2, h3⟩ := hs pre z ⟨zs, hp⟩ ys e hI
   cases r with
   | ex C => exact h3.elim
   | ok t =>
    cases t with
    | true =>
     obtain ⟨r, e3, h4, h5⟩ := h3.1 rfl
     cases r with
     | ex C => exact h5.elim
     | ok d =>
      obtain ⟨ws, e', h6, h7⟩ := ih (pre ++ [z]) (ys ++ [d]) _ (by rw [List.append_assoc]; exact hp) h5
      refine ⟨d :: ws, e', ?_, by rw [List.append_assoc] at h7; exact h7⟩
      rw [List.map_cons]
      unfold lcT
      rw [h1]
      dsimp only [Option.bind]
      rw [h2]
      dsimp only
      rw [h4]
      dsimp only
      rw [h6]
      rfl
    | false =>
     have h5 := h3.2 rfl
     obtain ⟨ws, e', h6, h7⟩ := ih (pre ++ [z]) ys _ (by rw [List.append_assoc]; exact hp) h5
     refine ⟨ws, e', ?_, h7⟩
     rw [List.map_cons]
     unfold lcT
     rw [h1]
     dsimp only [Option.bind]
     rw [h2]
     dsimp only
     exact h6
 obtain ⟨ws, e', h1, h2⟩ := gen xs [] [] e0 rfl h0
 exact ⟨(ws, e'), h1, hq ws e' h2⟩
theorem Zmb {α : Type} (l : List α) (k : Nat) : cutA l none (some (k : Int)) = l.take k := by
 unfold cutA
 rw [HT.sIx_nat, HT.sIx_none, List.drop_zero, Nat.sub_zero, ← List.take_eq_take_min]
theorem Zm5 {α : Type} (l : List α) (k : Nat) : cutA l (some (k : Int)) none = l.drop k := by
 unfold cutA
 rw [HT.sIx_nat, HT.sIx_none]
 by_cases h : k ≤ l.length
 ·rw [Nat.min_eq_left h, List.take_of_length_le (by rw [List.length_drop]; omega)]
 ·rw [Nat.min_eq_right (by omega), List.drop_eq_nil_of_le (Nat.le_refl _), List.drop_eq_nil_of_le (by omega)]
  simp
theorem Zmf {α : Type} (l : List α) : cutA l none (some (-1)) = l.dropLast := by
 unfold cutA
 rw [HT.sIx_none, List.drop_zero, Nat.sub_zero]
 have : HT.sIx l.length l.length (some (-1)) = l.length - 1 := by
  show (if (-1 : Int) < 0 then (-1 + (l.length : Int)).toNat else min (-1 : Int).toNat l.length) = _
  rw [if_pos (by decide)]
  omega
 rw [this, List.dropLast_eq_take]
theorem Zpu {α : Type} (l : List α) : cutA l none none = l := by
 unfold cutA
 rw [HT.sIx_none, HT.sIx_none, List.drop_zero, Nat.sub_zero, List.take_length]
theorem Zsb (l : List PyData) (i j : Option Int) : oSlL (.list l) i j = some (.list (cutA l i j)) := id rfl
theorem ZrS (l : List PyData) (i j : Option Int) : oSlT (.tuple l) i j = some (.tuple (cutA l i j)) := id rfl
theorem ZqL {a c : List PyData} {Q : Kt PyData} : @og _ (oCat (.list a) (.list c)) Q = @gd (a.length + c.length ≤ 100000) ⟨Q.q (.list (a ++ c))⟩ := by
 refine Zac.trans ?_
 rw [Zq]
theorem Zrx {o : Int → Int → Int} : @Ru _ (sAug i o x) en Q = @gd (∃ n, ((strong en)[i]?).join.bind asI = some n) ⟨@Ru _ x en ⟨cO (fun d e => @og _ (((strong e)[i]?).join.bind asI) ⟨fun n => @og _ (asI d) ⟨fun m => Q.q .nx (e.set i (some (.leaf (.int (o n m)))))⟩⟩) Q.q⟩⟩ := by
 refine propext ⟨?_, ?_⟩
 ·rintro ⟨r, e, h, q⟩
  obtain ⟨k, hk, h⟩ := bnd h
  refine ⟨⟨k, hk⟩, ?_⟩
  rcases Zw h with ⟨d, e1, h1, h2⟩ | ⟨C, h1, rfl⟩
  ·obtain ⟨k2, hk2, h3⟩ := bnd h2
   obtain ⟨m, hm, h4⟩ := Option.map_eq_some_iff.mp h3
   cases h4
   exact ⟨.ok d, e1, h1, k2, hk2, m, hm, q⟩
  ·exact ⟨.ex C, e, h1, q⟩
 ·rintro ⟨⟨k, hk⟩, r, e, h1, h2⟩
  cases r with
  | ex C => exact ⟨.ex C, e, by unfold sAug; rw [hk, Option.bind_some, h1]; rfl, h2⟩
  | ok d =>
   obtain ⟨k2, hk2, m, hm, q⟩ := h2
   refine ⟨.nx, _, ?_, q⟩
   unfold sAug
   rw [hk, Option.bind_some, h1]
   show ((((strong e)[i]?).join.bind asI).bind _) = _
   rw [hk2, Option.bind_some, hm]
   rfl
theorem ZqP : @Ru _ (sExt i x) en Q = @gd (∃ cs, lstAt en i = some cs) ⟨@Ru _ x en ⟨cO (fun d e => @og _ (lstAt e i) ⟨fun cs => @og _ (asL d) ⟨fun ds => @gd (cs.length + ds.length ≤ 100000) ⟨Q.q .nx (e.set i (some (.node .lst (cs ++ oLeafs ds))))⟩⟩⟩) Q.q⟩⟩ := by
 refine propext ⟨?_, ?_⟩
 ·rintro ⟨r, e, h, q⟩
  obtain ⟨k, hk, h⟩ := bnd h
  refine ⟨⟨k, hk⟩, ?_⟩
  rcases Zw h with ⟨d, e1, h1, h2⟩ | ⟨C, h1, rfl⟩
  ·obtain ⟨cs, hcs, h3⟩ := bnd h2
   obtain ⟨ds, hds, h4⟩ := bnd h3
   split at h4
   case isTrue hl => cases h4; exact ⟨.ok d, e1, h1, cs, hcs, ds, hds, hl, q⟩
   case isFalse => cases h4
  ·exact ⟨.ex C, e, h1, q⟩
 ·rintro ⟨⟨k, hk⟩, r, e, h1, h2⟩
  cases r with
  | ex C => exact ⟨.ex C, e, by unfold sExt; rw [hk, Option.bind_some, h1]; rfl, h2⟩
  | ok d =>
   obtain ⟨cs, hcs, ds, hds, hl, q⟩ := h2
   refine ⟨.nx, _, ?_, q⟩
   unfold sExt
   rw [hk, Option.bind_some, h1]
   show ((lstAt e i).bind _) = _
   rw [hcs, Option.bind_some, hds, Option.bind_some, if_pos hl]
theorem Zp2 : @Ru _ (sAppN i n) en Q = @gd (∃ cs, lstAt en i = some cs) ⟨@Ru _ n en ⟨cO (fun T e => @og _ (lstAt e i) ⟨fun cs => @gd (cs.length < 100000) ⟨Q.q .nx (e.set i (some (.node .lst (cs ++ [(.no, T)]))))⟩⟩) Q.q⟩⟩ := by
 refine propext ⟨?_, ?_⟩
 ·rintro ⟨r, e, h, q⟩
  obtain ⟨k, hk, h⟩ := bnd h
  refine ⟨⟨k, hk⟩, ?_⟩
  rcases Zw h with ⟨d, e1, h1, h2⟩ | ⟨C, h1, rfl⟩
  ·obtain ⟨cs, hcs, h3⟩ := bnd h2
   split at h3
   case isTrue hl => cases h3; exact ⟨.ok d, e1, h1, cs, hcs, of_decide_eq_true hl, q⟩
   case isFalse => cases h3
  ·exact ⟨.ex C, e, h1, q⟩
 ·rintro ⟨⟨k, hk⟩, r, e, h1, h2⟩
  cases r with
  | ex C => exact ⟨.ex C, e, by unfold sAppN; rw [hk, Option.bind_some, h1]; rfl, h2⟩
  | ok d =>
   obtain ⟨cs, hcs, hl, q⟩ := h2
   refine ⟨.nx, _, ?_, q⟩
   unfold sAppN
   rw [hk, Option.bind_some, h1]
   show ((lstAt e i).bind _) = _
   rw [hcs, Option.bind_some, if_pos (show lenOk cs = true from decide_eq_true hl)]
/-- insert(0, e) -/
theorem Zp6 : @Ru _ (sInsP i (xS (wC (.int 0))) xv) en Q = @gd (∃ cs, lstAt en i = some cs) ⟨@Ru _ xv en ⟨cO (fun d e => @og _ (lstAt e i) ⟨fun cs => @gd (cs.length < 100000) ⟨Q.q .nx (e.set i (some (.node .lst ((.no, .leaf d) :: cs))))⟩⟩) Q.q⟩⟩ := by
 have hj : xS (wC (.int 0)) en = some (.ok (.int 0), en) := rfl
 refine propext ⟨?_, ?_⟩
 ·rintro ⟨r, e, h, q⟩
  obtain ⟨k, hk, h⟩ := bnd h
  refine ⟨⟨k, hk⟩, ?_⟩
  rw [hj] at h
  rcases Zw h with ⟨d, e1, h1, h2⟩ | ⟨C, h1, rfl⟩
  ·cases h1
   rcases Zw h2 with ⟨d, e1, h1, h2⟩ | ⟨C, h1, rfl⟩
   ·obtain ⟨cs, hcs, h3⟩ := bnd h2
    obtain ⟨j, hj2, h4⟩ := bnd h3
    cases hj2
    split at h4
    case isTrue hl =>
     cases h4
     exact ⟨.ok d, e1, h1, cs, hcs, of_decide_eq_true hl.2.2, q⟩
    case isFalse => cases h4
   ·exact ⟨.ex C, e, h1, q⟩
  ·cases h1
 ·rintro ⟨⟨k, hk⟩, r, e, h1, h2⟩
  cases r with
  | ex C => exact ⟨.ex C, e, by unfold sInsP; rw [hk, Option.bind_some, hj]; show bs (xv en) _ = _; rw [h1]; rfl, h2⟩
  | ok d =>
   obtain ⟨cs, hcs, hl, q⟩ := h2
   refine ⟨.nx, _, ?_, q⟩
   unfold sInsP
   rw [hk, Option.bind_some, hj]
   show bs (xv en) _ = _
   rw [h1]
   show ((lstAt e i).bind _) = _
   rw [hcs, Option.bind_some]
   show (if (0 : Int) ≤ 0 ∧ (0 : Int) ≤ 100000 ∧ lenOk cs = true then _ else none) = _
   rw [if_pos ⟨by decide, by decide, decide_eq_true hl⟩]
   rfl
theorem Zna {QT : Ke (Rx (List OT))} : @Ru _ aNilT en QT = QT.q (.ok []) en := propext (Zbu rfl)
theorem ZlU {QT : Ke (Rx (List OT))} {r : FT} : @Ru _ (aConsT n r) en QT = @Ru _ n en ⟨cX (fun T e => @Ru _ r e ⟨cX (fun Ts e => QT.q (.ok (T :: Ts)) e) QT.q⟩) QT.q⟩ := by
 refine (propext Zy).trans ?_
 show Wp n en _ = Wp n en _
 congr 2
 funext T e
 refine (propext Zy).trans ?_
 show Wp r e _ = Wp r e _
 congr 2
 funext Ts e
 exact propext (Zaq (f := fun _ => Rx.ok (T :: Ts)) (g := fun e => e))
theorem Znu {a : FT} : @Ru _ (nLstT a) en QN = @Ru _ a en ⟨cX (fun Ts e => @gd (Ts.length ≤ 100000) ⟨QN.q (.ok (.node .lst (Ts.map fun T => (Lab.no, T)))) e⟩) QN.q⟩ := by
 refine (propext Zy).trans ?_
 show Wp a en _ = Wp a en _
 congr 2
 funext Ts e
 refine propext ?_
 constructor
 ·rintro ⟨r, e', h, q⟩
  dsimp only at h
  split at h
  ·cases h; rename_i hl; exact ⟨hl, q⟩
  ·cases h
 ·rintro ⟨hl, q⟩
  exact ⟨_, _, by dsimp only; rw [if_pos hl], q⟩
theorem ZqS {ρ : DE} {a : FW} {QA : Kt (List PyData)} : @og _ (itQ a ρ) QA = @og _ (a ρ) ⟨fun x => @og _ (asQ x) QA⟩ := Zd
theorem ZtD (ds : List PyData) : asQ (.list ds) = some ds := id rfl
theorem Zsw (ds : List PyData) : asQ (.tuple ds) = some ds := id rfl
end
end Kb
namespace Kb
open PySem L2 Evl
theorem Zag {a b : String} : (Str.ofString a = Str.ofString b) = (a = b) := by
 refine propext ⟨fun h => ?_, fun h => by rw [h]⟩
 rw [Str.ofString_eq_toList, Str.ofString_eq_toList] at h
 injection h with h
 have h := congrArg Array.toList h
 simp only at h
 have : a.toList = b.toList := by
  have inj : ∀ {l m : List Char}, l.map Char.toNat = m.map Char.toNat → l = m := by
   intro l
   induction l with
   | nil => intro m h; cases m with
    | nil => rfl
    | cons => cases h
   | cons c l ih =>
    intro m h
    cases m with
    | nil => cases h
    | cons e m =>
     rw [List.map_cons, List.map_cons] at h
     injection h with h1 h2
     rw [ih h2, Char.toNat_inj.mp h1]
  exact inj h
 exact String.toList_inj.mp this
section
variable {en : En} {Q : Ke Ot} {QX : Ke (Rx PyData)} {QN : Ke (Rx OT)} {x xi xv : FX} {n : FN} {i : Nat} {A it : FA} {C : Addr} {f : Str} {w : FW} {pl : FP} {fd : FD}
theorem Zo1 {cs : List (Lab × OT)} {l : En} : insAt (some (.node (.ins C) cs) :: l) 0 C = some cs := by
 show (if C = C then some cs else none) = _
 rw [if_pos rfl]
theorem Zor {o : Option OT} {l : En} {k : Nat} : insAt (o :: l) (k + 1) C = insAt l k C := id rfl
theorem Zrk {T : OT} : putT f T [] = [(.fld f, T)] := id rfl
theorem ZqU {T X : OT} {g : Str} {r : List (Lab × OT)} : putT f T ((.fld g, X) :: r) = if g = f then (.fld g, T) :: r else (.fld g, X) :: putT f T r := id rfl
theorem Zn4 : @Ru _ (sSetF C f i x) en Q = @Ru _ x en ⟨cO (fun d e => @og _ (insAt e i C) ⟨fun cs => @gd (cs.length < 1000) ⟨Q.q .nx (e.set i (some (.node (.ins C) (putT f (.leaf d) cs))))⟩⟩) Q.q⟩ := by
 refine propext ⟨?_, ?_⟩
 ·rintro ⟨r, e, h, q⟩
  rcases Zw h with ⟨d, e1, h1, h2⟩ | ⟨C', h1, rfl⟩
  ·obtain ⟨cs, hcs, h3⟩ := bnd h2
   split at h3
   case isTrue hl => cases h3; exact ⟨.ok d, e1, h1, cs, hcs, hl, q⟩
   case isFalse => cases h3
  ·exact ⟨.ex C', e, h1, q⟩
 ·rintro ⟨r, e, h1, h2⟩
  cases r with
  | ex C' => exact ⟨.ex C', e, by unfold sSetF; rw [h1]; rfl, h2⟩
  | ok d =>
   obtain ⟨cs, hcs, hl, q⟩ := h2
   refine ⟨.nx, _, ?_, q⟩
   unfold sSetF
   rw [h1]
   show ((insAt e i C).bind _) = _
   rw [hcs, Option.bind_some, if_pos hl]
theorem Zm6 : @Ru _ (sSetFN C f i n) en Q = @Ru _ n en ⟨cO (fun T e => @og _ (insAt e i C) ⟨fun cs => @gd (cs.length < 1000) ⟨Q.q .nx (e.set i (some (.node (.ins C) (putT f T cs))))⟩⟩) Q.q⟩ := by
 refine propext ⟨?_, ?_⟩
 ·rintro ⟨r, e, h, q⟩
  rcases Zw h with ⟨d, e1, h1, h2⟩ | ⟨C', h1, rfl⟩
  ·obtain ⟨cs, hcs, h3⟩ := bnd h2
   split at h3
   case isTrue hl => cases h3; exact ⟨.ok d, e1, h1, cs, hcs, hl, q⟩
   case isFalse => cases h3
  ·exact ⟨.ex C', e, h1, q⟩
 ·rintro ⟨r, e, h1, h2⟩
  cases r with
  | ex C' => exact ⟨.ex C', e, by unfold sSetFN; rw [h1]; rfl, h2⟩
  | ok d =>
   obtain ⟨cs, hcs, hl, q⟩ := h2
   refine ⟨.nx, _, ?_, q⟩
   unfold sSetFN
   rw [h1]
   show ((insAt e i C).bind _) = _
   rw [hcs, Option.bind_some, if_pos hl]
/-- C(e, ..) -/
noncomputable def kNew (Q : Rx OT → Prop) : Rx OT × List OT → Prop
 | (.ok (.leaf .none), T :: _) => Q (.ok T)
 | (.ex c, _ :: _) => Q (.ex c)
 | _ => False
theorem ZoA {Q : Rx OT → Prop} {T : OT} {r : List OT} : kNew Q (.ok (.leaf .none), T :: r) = Q (.ok T) := id rfl
theorem Zpx {Q : Rx OT → Prop} {c : Addr} {T : OT} {r : List OT} : kNew Q (.ex c, T :: r) = Q (.ex c) := id rfl
theorem Zrj : @Ru _ (nNew C fd A) en QN = @Ru _ A en ⟨cX (fun ds e => @og _ (fd (.node (.ins C) [] :: ds.map OT.leaf)) ⟨kNew fun r => QN.q r e⟩) QN.q⟩ := by
 refine (propext Zy).trans ?_
 show Wp A en _ = Wp A en _
 congr 2
 funext ds e
 refine propext ⟨?_, ?_⟩
 ·rintro ⟨r, e', h, q⟩
  obtain ⟨⟨r1, as⟩, hf, h2⟩ := bnd h
  refine ⟨(r1, as), hf, ?_⟩
  split at h2
  ·rename_i hq; cases hq; cases h2; exact q
  ·rename_i hq; cases hq; cases h2; exact q
  ·cases h2
 ·rintro ⟨⟨r1, as⟩, hf, q⟩
  dsimp only at hf q
  have un : ∀ o, (match (r1, as) with
   | (.ok (.leaf .none), T :: _) => some (Rx.ok T, e)
   | (.ex c, _ :: _) => some (.ex c, e)
   | _ => none) = some o → ((fd (.node (.ins C) [] :: ds.map OT.leaf)).bind fun q => match q with
   | (.ok (.leaf .none), T :: _) => some (Rx.ok T, e)
   | (.ex c, _ :: _) => some (.ex c, e)
   | _ => none) = some o := fun o ho => by rw [hf]; exact ho
  cases r1 with
  | ex c =>
   cases as with
   | nil => exact q.elim
   | cons T r => exact ⟨.ex c, e, un _ rfl, q⟩
  | ok R =>
   cases R with
   | node k cs => exact q.elim
   | leaf d =>
    cases d with
    | none =>
     cases as with
     | nil => exact q.elim
     | cons T r => exact ⟨.ok T, e, un _ rfl, q⟩
    | _ => exact q.elim
theorem Ztk {QP : Kt (Nat × List Nat)} : @og _ (pV i en) QP = @og _ (en[i]?.join) ⟨fun _ => QP.q (i, [])⟩ := by
 refine propext ⟨?_, ?_⟩
 ·rintro ⟨p, h, q⟩
  obtain ⟨S, hS, h2⟩ := Option.map_eq_some_iff.mp h
  obtain ⟨T, hT, _⟩ := bnd hS
  cases h2
  exact ⟨T, hT, q⟩
 ·rintro ⟨T, hT, q⟩
  refine ⟨_, ?_, q⟩
  unfold pV subE
  rw [hT]
  cases T <;> rfl
noncomputable def kIns (C : Addr) (Q : List (Lab × OT) → Prop) : OT → Prop
 | .node (.ins C') cs => C' = C ∧ Q cs
 | _ => False
theorem Zof {Q : List (Lab × OT) → Prop} {cs : List (Lab × OT)} : kIns C Q (.node (.ins C) cs) = Q cs := propext ⟨fun h => h.2, fun h => ⟨rfl, h⟩⟩
noncomputable def kLst (Q : List (Lab × OT) → Prop) : OT → Prop
 | .node .lst cs => Q cs
 | _ => False
theorem Zp3 {Q : List (Lab × OT) → Prop} {cs : List (Lab × OT)} : kLst Q (.node .lst cs) = Q cs := id rfl
theorem ZrV {Q : List (Lab × OT) → Prop} {ds : List PyData} : kLst Q (lstT ds) = Q (oLeafs ds) := id rfl
theorem ZsG {QP : Kt (Nat × List Nat)} : @og _ (pF C f pl en) QP = @og _ (pl en) ⟨fun q => @og _ (subE en q.1 q.2) ⟨kIns C fun cs => @og _ (idxF f cs) ⟨fun j => QP.q (q.1, q.2 ++ [j])⟩⟩⟩ := by
 refine propext ⟨?_, ?_⟩
 ·rintro ⟨p, h, qq⟩
  obtain ⟨q, h1, h⟩ := bnd h
  obtain ⟨S, h2, h⟩ := bnd h
  refine ⟨q, h1, S, h2, ?_⟩
  split at h
  ·split at h
   ·rename_i hc
    obtain ⟨j, hj, h3⟩ := Option.map_eq_some_iff.mp h
    cases h3
    exact ⟨hc, j, hj, qq⟩
   ·cases h
  ·cases h
 ·rintro ⟨q, h1, S, h2, h3⟩
  unfold pF
  rw [h1, Option.bind_some, h2, Option.bind_some]
  cases S with
  | leaf d => exact h3.elim
  | node k cs =>
   cases k with
   | ins C' =>
    obtain ⟨hc, j, hj, qq⟩ := h3
    refine ⟨_, ?_, qq⟩
    dsimp only
    rw [if_pos hc, hj]
    rfl
   | _ => exact h3.elim
theorem Zsr {QP : Kt (Nat × List Nat)} : @og _ (pI pl w en) QP = @og _ (w (strong en)) ⟨fun d => @og _ (asI d) ⟨fun j => @og _ (pl en) ⟨fun q => @og _ (subE en q.1 q.2) ⟨kLst fun cs => @og _ (L2.ixN cs.length j) ⟨fun n => QP.q (q.1, q.2 ++ [n])⟩⟩⟩⟩⟩ := by
 refine propext ⟨?_, ?_⟩
 ·rintro ⟨p, h, qq⟩
  obtain ⟨d, h0, h⟩ := bnd h
  obtain ⟨j, hj, h⟩ := bnd h
  obtain ⟨q, h1, h⟩ := bnd h
  obtain ⟨S, h2, h⟩ := bnd h
  refine ⟨d, h0, j, hj, q, h1, S, h2, ?_⟩
  split at h
  ·obtain ⟨n, hn, h3⟩ := Option.map_eq_some_iff.mp h
   cases h3
   exact ⟨n, hn, qq⟩
  ·cases h
 ·rintro ⟨d, h0, j, hj, q, h1, S, h2, h3⟩
  unfold pI
  rw [h0, Option.bind_some, hj, Option.bind_some, h1, Option.bind_some, h2, Option.bind_some]
  cases S with
  | leaf d => exact h3.elim
  | node k cs =>
   cases k with
   | lst =>
    obtain ⟨n, hn, qq⟩ := h3
    refine ⟨_, ?_, qq⟩
    dsimp only
    rw [hn]
    rfl
   | _ => exact h3.elim
theorem Zph {p : List Nat} {QT : Kt OT} : @og _ (subE en i p) QT = @og _ (en[i]?.join) ⟨fun T => @og _ (T.sub p) QT⟩ := Zd
theorem Zcj {T : OT} : T.sub [] = some T := by cases T <;> rfl
theorem ZhP {k : Kd} {cs : List (Lab × OT)} {j : Nat} {p : List Nat} : (OT.node k cs).sub (j :: p) = (cs[j]?).bind fun x => x.2.sub p := id rfl
theorem Zei {T S : OT} : T.put [] S = S := by cases T <;> rfl
theorem Zdi {k : Kd} {cs : List (Lab × OT)} {j : Nat} {p : List Nat} {S : OT} : (OT.node k cs).put (j :: p) S = .node k (cs.modify j fun x => (x.1, x.2.put p S)) := id rfl
theorem Zkx {α : Type} {a : α} {l : List α} {g : α → α} : (a :: l).modify 0 g = g a :: l := id rfl
theorem ZkH {α : Type} {a : α} {l : List α} {g : α → α} {j : Nat} : (a :: l).modify (j + 1) g = a :: l.modify j g := id rfl
theorem Zld {α : Type} {g : Str} {X : α} {r : List (Lab × α)} : idxF f ((.fld g, X) :: r) = if f = g then some 0 else (idxF f r).map (· + 1) := id rfl
theorem Zp5 : @Ru _ (sAppP pl w) en Q = @og _ (w (strong en)) ⟨fun d => @og _ (pl en) ⟨fun q => @og _ (en[q.1]?.join) ⟨fun T => @og _ (T.sub q.2) ⟨kLst fun cs => @gd (cs.length < 100000) ⟨Q.q .nx (en.set q.1 (some (T.put q.2 (.node .lst (cs ++ [(.no, .leaf d)])))))⟩⟩⟩⟩⟩ := by
 refine propext ⟨?_, ?_⟩
 ·rintro ⟨r, e, h, qq⟩
  obtain ⟨d, h0, h⟩ := bnd h
  obtain ⟨q, h1, h⟩ := bnd h
  obtain ⟨T, h2, h⟩ := bnd h
  obtain ⟨S, h3, h⟩ := bnd h
  refine ⟨d, h0, q, h1, T, h2, S, h3, ?_⟩
  split at h
  ·split at h
   case isTrue hl => cases h; exact ⟨of_decide_eq_true hl, qq⟩
   case isFalse => cases h
  ·cases h
 ·rintro ⟨d, h0, q, h1, T, h2, S, h3, h4⟩
  cases S with
  | leaf d => exact h4.elim
  | node k cs =>
   cases k with
   | lst =>
    obtain ⟨hl, qq⟩ := h4
    refine ⟨.nx, _, ?_, qq⟩
    unfold sAppP
    rw [h0, Option.bind_some, h1, Option.bind_some, h2, Option.bind_some, h3, Option.bind_some]
    dsimp only
    rw [if_pos (show lenOk cs = true from decide_eq_true hl)]
   | _ => exact h4.elim
noncomputable def lookT (f : Str) : List (Lab × OT) → Option OT
 | [] => none
 | (l, T) :: r => if f = l.f then some T else lookT f r
theorem Zhb {g : Str} {T : OT} {r : List (Lab × OT)} : lookT f ((.fld g, T) :: r) = if f = g then some T else lookT f r := id rfl
theorem Ze5 (f : Str) : ∀ cs : List (Lab × OT), lookD f ((cs.map fun x => PyData.str x.1.f).zip (OT.datas cs)) = (lookT f cs).map OT.data
 | [] => rfl
 | (l, T) :: r => by
  rw [OT.datas, List.map_cons, List.zip_cons_cons, lookD, lookT, Ze5 f r]
  split <;> rfl
theorem ZjY {cs : List (Lab × OT)} : oFld C f (OT.node (.ins C) cs).data = (lookT f cs).map OT.data := by
 rw [OT.data]
 show (if ((C : Nat) : Int) = ((C : Nat) : Int) then lookD f ((cs.map fun x => PyData.str x.1.f).zip (OT.datas cs)) else none) = _
 rw [if_pos rfl, Ze5]
end
end Kb
namespace Kb
open PySem L2 Evl
section
variable {en : En} {Q : Ke Ot} {QN : Ke (Rx OT)} {QA : Ke (Rx (List PyData))} {A : FA} {n : FN} {i j : Nat}
theorem ZlY {f : List PyData → Option OT} : @Ru _ (nCallO f A) en QN = @Ru _ A en ⟨cX (fun xs e => @og _ (f xs) ⟨fun T => QN.q (.ok T) e⟩) QN.q⟩ := by
 refine propext (Zy.trans ?_)
 have : ∀ xs e, Wp (fun e1 => okx e1 (f xs)) e QN.q ↔ @og _ (f xs) ⟨fun T => QN.q (.ok T) e⟩ := fun xs e => ZH (f := fun _ => f xs)
 simp only [this]
 rfl
theorem Zkm {f : List PyData → Option (Rx OT)} : @Ru _ (nCallXO f A) en QN = @Ru _ A en ⟨cX (fun xs e => @og _ (f xs) ⟨fun r => QN.q r e⟩) QN.q⟩ := by
 refine propext (Zy.trans ?_)
 have : ∀ xs e, Wp (fun e1 => (f xs).map fun r => (r, e1)) e QN.q ↔ @og _ (f xs) ⟨fun r => QN.q r e⟩ := fun xs e => ⟨fun ⟨a, e', h, q⟩ => by
  obtain ⟨r, h1, h2⟩ := Option.map_eq_some_iff.mp h
  cases h2
  exact ⟨_, h1, q⟩, fun ⟨r, h, q⟩ => ⟨r, e, by rw [h]; rfl, q⟩⟩
 simp only [this]
 rfl
noncomputable def kidT : OT → Nat → Option OT
 | .node .tup cs, j => (cs[j]?).map Prod.snd
 | _, _ => none
theorem Zod {cs : List (Lab × OT)} : kidT (.node .tup cs) j = (cs[j]?).map Prod.snd := id rfl
theorem ZoS : @Ru _ (nIxT n j) en QN = @Ru _ n en ⟨cX (fun T e => @og _ (kidT T j) ⟨fun U => QN.q (.ok U) e⟩) QN.q⟩ := by
 have e0 : nIxT n j = fun en => bx (n en) fun T e1 => (kidT T j).map fun U => (Rx.ok U, e1) := by
  funext en
  unfold nIxT
  congr 1
  funext T e1
  cases T with
  | leaf d => rfl
  | node k cs => cases k <;> rfl
 rw [e0]
 refine propext (Zy.trans ?_)
 have : ∀ (T : OT) e, Wp (fun e1 => (kidT T j).map fun U => (Rx.ok U, e1)) e QN.q ↔ @og _ (kidT T j) ⟨fun U => QN.q (.ok U) e⟩ := fun T e => ZH (f := fun _ => kidT T j)
 simp only [this]
 rfl
theorem ZmA : @Ru _ (sInsN i (xS (wC (.int 0))) n) en Q = @gd (∃ cs, lstAt en i = some cs) ⟨@Ru _ n en ⟨cO (fun T e => @og _ (lstAt e i) ⟨fun cs => @gd (cs.length < 100000) ⟨Q.q .nx (e.set i (some (.node .lst ((.no, T) :: cs))))⟩⟩) Q.q⟩⟩ := by
 have hj : xS (wC (.int 0)) en = some (.ok (.int 0), en) := rfl
 refine propext ⟨?_, ?_⟩
 ·rintro ⟨r, e, h, q⟩
  obtain ⟨k, hk, h⟩ := bnd h
  refine ⟨⟨k, hk⟩, ?_⟩
  rw [hj] at h
  rcases Zw h with ⟨d, e1, h1, h2⟩ | ⟨C, h1, rfl⟩
  ·cases h1
   rcases Zw h2 with ⟨d, e1, h1, h2⟩ | ⟨C, h1, rfl⟩
   ·obtain ⟨cs, hcs, h3⟩ := bnd h2
    obtain ⟨j, hj2, h4⟩ := bnd h3
    cases hj2
    split at h4
    case isTrue hl =>
     cases h4
     exact ⟨.ok d, e1, h1, cs, hcs, of_decide_eq_true hl.2.2, q⟩
    case isFalse => cases h4
   ·exact ⟨.ex C, e, h1, q⟩
  ·cases h1
 ·rintro ⟨⟨k, hk⟩, r, e, h1, h2⟩
  cases r with
  | ex C => exact ⟨.ex C, e, by unfold sInsN; rw [hk, Option.bind_some, hj]; show bs (n en) _ = _; rw [h1]; rfl, h2⟩
  | ok d =>
   obtain ⟨cs, hcs, hl, q⟩ := h2
   refine ⟨.nx, _, ?_, q⟩
   unfold sInsN
   rw [hk, Option.bind_some, hj]
   show bs (n en) _ = _
   rw [h1]
   show ((lstAt e i).bind _) = _
   rw [hcs, Option.bind_some]
   show (if (0 : Int) ≤ 0 ∧ (0 : Int) ≤ 100000 ∧ lenOk cs = true then _ else none) = _
   rw [if_pos ⟨by decide, by decide, decide_eq_true hl⟩]
   rfl
theorem Zsy : @Ru _ (sAsgMv i j) en Q = @og _ (en[j]?.join) ⟨fun T => Q.q .nx ((en.set j none).set i (some (.node .lst [(Lab.no, T)])))⟩ := propext ⟨fun ⟨a, e', h, q⟩ => by
  obtain ⟨T, h1, h2⟩ := Option.map_eq_some_iff.mp h
  cases h2
  exact ⟨T, h1, q⟩, fun ⟨T, h, q⟩ => ⟨_, _, by unfold sAsgMv; rw [h]; rfl, q⟩⟩
theorem Zp9 : @Ru _ (aOwn i A) en QA = @gd (∃ T, en[i]?.join = some T) ⟨@Ru _ A en QA⟩ := propext ⟨fun ⟨a, e', h, q⟩ => by
  obtain ⟨T, h1, h2⟩ := bnd h
  exact ⟨⟨T, h1⟩, a, e', h2, q⟩, fun ⟨⟨T, h⟩, a, e', h2, q⟩ => ⟨a, e', by unfold aOwn; rw [h]; exact h2, q⟩⟩
theorem Zng {m : List Bool} {f : FD} {is : List Nat} : @Ru _ (nCallI (prm m f) is A) en QN = @gd (∃ r, pullE is en = some r) ⟨@Ru _ A en ⟨cX (fun ds e => @og _ (pullE is e) ⟨fun r => @og _ (prm m f (r.1 ++ ds.map OT.leaf)) ⟨kI fun R as => QN.q R (putE is as r.2)⟩⟩) QN.q⟩⟩ := by
 refine propext ⟨?_, ?_⟩
 ·rintro ⟨a, e', h, q⟩
  obtain ⟨r0, h0, h⟩ := bnd h
  refine ⟨⟨r0, h0⟩, ?_⟩
  rcases Zn h with ⟨ds, e1, h1, h2⟩ | ⟨C, h1, rfl⟩
  ·refine ⟨.ok ds, e1, h1, ?_⟩
   obtain ⟨r, h3, h4⟩ := bnd h2
   obtain ⟨⟨R, as⟩, h5, h6⟩ := bnd h4
   refine ⟨r, h3, (R, as), h5, ?_⟩
   cases R <;> (cases h6; exact q)
  ·exact ⟨.ex C, e', h1, q⟩
 ·rintro ⟨⟨r0, h0⟩, r, e, h1, h2⟩
  cases r with
  | ex C => exact ⟨.ex C, e, by unfold nCallI; rw [h0, Option.bind_some, h1]; rfl, h2⟩
  | ok ds =>
   obtain ⟨r, h3, ⟨R, as⟩, h5, q⟩ := h2
   refine ⟨R, putE is as r.2, ?_, q⟩
   unfold nCallI
   rw [h0, Option.bind_some, h1]
   show (pullE is e).bind _ = _
   rw [h3, Option.bind_some, h5, Option.bind_some]
   cases R <;> rfl
theorem Znl {is : List Nat} {K : Kt (List OT × En)} : @og _ (pullE (i :: is) en) K = @og _ (en[i]?.join) ⟨fun T => @og _ (pullE is (en.set i none)) ⟨fun r => K.q (T :: r.1, r.2)⟩⟩ := by
 show @og _ (((en[i]?).join).bind fun T => (pullE is (en.set i none)).map fun r => (T :: r.1, r.2)) K = _
 rw [Zd]
 congr 1
 congr 1
 funext T
 exact Z4
theorem Znh {K : Kt (List OT × En)} : @og _ (pullE [] en) K = K.q ([], en) := Zq
theorem ZrR {m : List Bool} {f : FD} {as : List OT} {K : Kt (Rx OT × List OT)} : @og _ (prm m f as) K = @gd (as.length = m.length) ⟨@og _ (f (wvM m (as.take (m.count true)) (as.drop (m.count true)))) ⟨kI fun R bs => K.q (R, uoM m bs ++ utM m bs)⟩⟩ := by
 unfold prm
 rw [Zac, Z4]
 rfl
theorem ZqM {f : FD} {as : List OT} {K : Kt (Rx OT × List OT)} : @og _ (noX f as) K = @og _ (f as) ⟨kN fun R bs => K.q (.ok R, bs)⟩ := by
 refine propext ⟨?_, ?_⟩
 ·rintro ⟨⟨R, bs⟩, h, q⟩
  obtain ⟨h1, T, rfl⟩ := ZJ h
  exact ⟨_, h1, q⟩
 ·rintro ⟨⟨R, bs⟩, h, q⟩
  cases R with
  | ok R => exact ⟨_, by unfold noX; rw [h]; rfl, q⟩
  | ex C => exact q.elim
section
variable {QM : Ke (Rx (List Itm))} {r : FM}
theorem ZmJ : @Ru _ aNilM en QM = QM.q (.ok []) en := propext (Zbu rfl)
theorem ZkT : @Ru _ (aConsV i r) en QM = @gd (∃ T, en[i]?.join = some T) ⟨@Ru _ r en ⟨cX (fun Ts e => QM.q (.ok (.m i :: Ts)) e) QM.q⟩⟩ := propext ⟨fun ⟨a, e', h, q⟩ => by
  obtain ⟨T, h1, h2⟩ := bnd h
  refine ⟨⟨T, h1⟩, ?_⟩
  rcases Zn h2 with ⟨x, e1, h3, h4⟩ | ⟨C, h3, rfl⟩
  ·cases h4; exact ⟨_, _, h3, q⟩
  ·exact ⟨.ex C, e', h3, q⟩, fun ⟨⟨T, h⟩, a, e', h2, q⟩ => by
  cases a with
  | ok x => exact ⟨.ok (.m i :: x), e', by unfold aConsV; rw [h, Option.bind_some, h2]; rfl, q⟩
  | ex C => exact ⟨.ex C, e', by unfold aConsV; rw [h, Option.bind_some, h2]; rfl, q⟩⟩
theorem ZmK {kp : Nat → Bool} {k : Kd} : @Ru _ (sRetMk kp k r) en Q = @Ru _ r en ⟨cO (fun its e => @gd (keptOk kp its = true) ⟨@og _ (mkIts its e) ⟨fun q => @gd (q.1.length ≤ 100000) ⟨Q.q (.rt (.node k (q.1.map fun T => (Lab.no, T)))) q.2⟩⟩⟩) Q.q⟩ := by
 refine propext ⟨?_, ?_⟩
 ·rintro ⟨o, e, h, q⟩
  rcases Zw h with ⟨its, e1, h1, h2⟩ | ⟨C, h1, rfl⟩
  ·refine ⟨.ok its, e1, h1, ?_⟩
   split at h2
   case isFalse => cases h2
   rename_i hk
   obtain ⟨p, hp, h3⟩ := bnd h2
   split at h3
   case isFalse => cases h3
   rename_i hl
   cases h3
   exact ⟨hk, p, hp, hl, q⟩
  ·exact ⟨.ex C, e, h1, q⟩
 ·rintro ⟨a, e, h, q⟩
  cases a with
  | ex C => exact ⟨.ex C, e, by unfold sRetMk; rw [h]; rfl, q⟩
  | ok its =>
   obtain ⟨hk, p, hp, hl, q⟩ := q
   refine ⟨_, _, ?_, q⟩
   unfold sRetMk
   rw [h]
   show (if keptOk kp its = true then (mkIts its e).bind _ else none) = _
   rw [if_pos hk, hp, Option.bind_some, if_pos hl]
theorem ZrY {K : Kt (List OT × En)} : @og _ (mkIts [] en) K = K.q ([], en) := Zq
theorem ZrI {its : List Itm} {K : Kt (List OT × En)} : @og _ (mkIts (.m i :: its) en) K = @og _ (en[i]?.join) ⟨fun T => @og _ (mkIts its (en.set i none)) ⟨fun q => K.q (T :: q.1, q.2)⟩⟩ := by
 show @og _ (((en[i]?).join).bind fun T => (mkIts its (en.set i none)).map fun q => (T :: q.1, q.2)) K = _
 rw [Zd]
 congr 1
 congr 1
 funext T
 exact Z4
end
end
noncomputable def retO2 (T0 : OT) : Ot → En → Prop
 | .rt T, _ => T = T0 ∧ T0.deep = true
 | _, _ => False
theorem Znv {T0 T : OT} {e : En} : retO2 T0 (.rt T) e = (T = T0 ∧ T0.deep = true) := id rfl
theorem Zqn {np n : Nat} {s : FS} {ds : List PyData} {T0 : OT} (h : @Ru _ s (start0 n (ds.map OT.leaf)) ⟨retO2 T0⟩) (hl : ds.length = np := by rfl) : fnO np n s ds = some T0 := by
 obtain ⟨o, e, h1, h2⟩ := h
 unfold fnO
 rw [if_pos hl, h1]
 cases o with
 | rt T =>
  obtain ⟨a, b⟩ := h2
  dsimp only
  rw [a, if_pos b]
 | _ => exact h2.elim
noncomputable def retXO (r : Rx OT) : Ot → En → Prop
 | .rt T, _ => r = .ok T ∧ T.deep = true
 | .ex C, _ => r = .ex C
 | _, _ => False
theorem Znr {r : Rx OT} {T : OT} {e : En} : retXO r (.rt T) e = (r = .ok T ∧ T.deep = true) := id rfl
theorem Znt {r : Rx OT} {C : Addr} {e : En} : retXO r (.ex C) e = (r = .ex C) := id rfl
/-- what a def left of what it was handed -/
noncomputable def retM (kp : Nat → Bool) (as : List OT) (r : Rx OT) (as' : List OT) : Ot → En → Prop
 | .rt T, e => r = .ok T ∧ takeA kp as e = some as'
 | .nx, e => r = .ok (.leaf .none) ∧ takeA kp as e = some as'
 | .ex C, e => r = .ex C ∧ takeA kp as e = some as'
 | _, _ => False
theorem Zo6 {kp : Nat → Bool} {as as' : List OT} {r : Rx OT} {T : OT} {e : En} : retM kp as r as' (.rt T) e = (r = .ok T ∧ takeA kp as e = some as') := id rfl
theorem Zn1 {kp : Nat → Bool} {as as' : List OT} {r : Rx OT} {e : En} : retM kp as r as' .nx e = (r = .ok (.leaf .none) ∧ takeA kp as e = some as') := id rfl
theorem Zpq {kp : Nat → Bool} {as as' : List OT} {r : Rx OT} {C : Addr} {e : En} : retM kp as r as' (.ex C) e = (r = .ex C ∧ takeA kp as e = some as') := id rfl
theorem Zqk {np n : Nat} {kp : Nat → Bool} {s : FS} {as as' : List OT} {r : Rx OT} (h : @Ru _ s (start0 n as) ⟨retM kp as r as'⟩) (hl : as.length = np := by rfl) : fnI np n kp s as = some (r, as') := by
 obtain ⟨o, e, h1, h2⟩ := h
 unfold fnI
 rw [if_pos hl, h1]
 cases o with
 | rt T => obtain ⟨rfl, h3⟩ := h2; show (takeA kp as e).map _ = _; rw [h3]; rfl
 | nx => obtain ⟨rfl, h3⟩ := h2; show (takeA kp as e).map _ = _; rw [h3]; rfl
 | ex C => obtain ⟨rfl, h3⟩ := h2; show (takeA kp as e).map _ = _; rw [h3]; rfl
 | _ => exact h2.elim
end Kb
namespace Kb
open PySem L2 Evl
section
variable {en : En} {Q : Ke Ot} {QX : Ke (Rx PyData)} {QN : Ke (Rx OT)} {QI : Ke (Rx (Option Int))} {A : FA} {n : FN} {i j : Nat} {x a : FX} {w : FW} {pl : FP} {C : Addr} {m : Str}
theorem Zkt {α β : Type} {o : En → Option α} {f : α → En → Option (β × En)} {Qb : Ke β} : @Ru _ (fun e => (o e).bind fun y => f y e) en Qb = @og _ (o en) ⟨fun y => @Ru _ (f y) en Qb⟩ := propext ⟨fun ⟨b, e', h, q⟩ => by
  obtain ⟨y, h1, h2⟩ := bnd h
  exact ⟨y, h1, b, e', h2, q⟩, fun ⟨y, h, b, e', h2, q⟩ => ⟨b, e', by show (o en).bind _ = _; rw [h]; exact h2, q⟩⟩
theorem ZtB {α : Type} {f : En → Option α} {Qa : Ke (Rx α)} : @Ru _ (fun e => (f e).map fun d => (Rx.ok d, e)) en Qa = @og _ (f en) ⟨fun d => Qa.q (.ok d) en⟩ := propext ZH
theorem Zgl {α β : Type} {g : En → Option (Rx α × En)} {f : α → En → Option (Rx β × En)} {Qb : Ke (Rx β)} : @Ru _ (fun e => bx (g e) f) en Qb = @Ru _ g en ⟨cX (fun y e => @Ru _ (f y) e Qb) Qb.q⟩ := propext Zy
theorem Zs6 {α : Type} {g : En → Option (Rx α × En)} {f : α → En → Option (Ot × En)} : @Ru _ (fun e => bs (g e) f) en Q = @Ru _ g en ⟨cO (fun y e => @Ru _ (f y) e Q) Q.q⟩ := propext Zch
theorem ZqX : @Ru _ (nAsk C m i n) en QN = @gd (insNo en i C m = true) ⟨@Ru _ n en QN⟩ := by
 refine propext ⟨fun ⟨a, e', h, q⟩ => ?_, fun ⟨h0, a, e', h, q⟩ => ⟨a, e', by unfold nAsk; rw [if_pos h0]; exact h, q⟩⟩
 unfold nAsk at h
 split at h
 ·exact ⟨by assumption, a, e', h, q⟩
 ·cases h
theorem ZjP {cs : List (Lab × OT)} {l : En} : insNo (some (.node (.ins C) cs) :: l) 0 C m = noF m cs := by
 show (decide (C = C) && noF m cs) = _
 simp
theorem ZoE {o : Option OT} {l : En} : insNo (o :: l) (j + 1) C m = insNo l j C m := id rfl
theorem ZnF : noF m [] = true := id rfl
theorem ZnH {g : Str} {X : OT} {r : List (Lab × OT)} : noF m ((.fld g, X) :: r) = if m = g then false else noF m r := id rfl
theorem Zfc : @Ru _ (xP pl) en QX = @og _ (pl en) ⟨fun q => @og _ (subE en q.1 q.2) ⟨fun S => @og _ (leafD S) ⟨fun d => QX.q (.ok d) en⟩⟩⟩ := by
 refine (Zkt (o := pl) (f := fun q en => (subE en q.1 q.2).bind fun S => (leafD S).map fun d => (Rx.ok d, en))).trans ?_
 congr 2
 funext q
 refine (Zkt (o := fun en => subE en q.1 q.2) (f := fun S en => (leafD S).map fun d => (Rx.ok d, en))).trans ?_
 congr 2
 funext S
 exact ZtB (f := fun _ => leafD S)
noncomputable def kDct (Q : List (Lab × OT) → Prop) : OT → Prop
 | .node .dct cs => Q cs
 | _ => False
theorem Zoa {Q : List (Lab × OT) → Prop} {cs : List (Lab × OT)} : kDct Q (.node .dct cs) = Q cs := id rfl
/-- what stands at a key -/
noncomputable def valT (k : Key) (cs : List (Lab × OT)) : Option PyData := (idxK k cs).bind fun n => (cs[n]?).bind fun c => leafD c.2
/-- place[w], read -/
theorem ZrJ : @Ru _ (xP (pD pl w)) en QX = @og _ (w (strong en)) ⟨fun d => @og _ (keyOf d) ⟨fun k => @og _ (pl en) ⟨fun q => @og _ (subE en q.1 q.2) ⟨kDct fun cs => @og _ (valT k cs) ⟨fun d => QX.q (.ok d) en⟩⟩⟩⟩⟩ := by
 rw [Zfc]
 refine propext ⟨?_, ?_⟩
 ·rintro ⟨q, h, S, h2, d, h3, qq⟩
  obtain ⟨dk, h4, h⟩ := bnd h
  obtain ⟨k, h5, h⟩ := bnd h
  obtain ⟨q0, h6, h⟩ := bnd h
  obtain ⟨S0, h7, h⟩ := bnd h
  split at h
  case h_2 => cases h
  rename_i cs
  obtain ⟨n, h8, h9⟩ := Option.map_eq_some_iff.mp h
  cases h9
  refine ⟨dk, h4, k, h5, q0, h6, _, h7, d, ?_, qq⟩
  unfold valT
  rw [h8, Option.bind_some]
  obtain ⟨T, hT, h7⟩ := bnd h7
  obtain ⟨T', hT', h2⟩ := bnd h2
  have : T' = T := by rw [hT] at hT'; cases hT'; rfl
  subst this
  have e : ∀ {p q : List Nat} {t s : OT}, t.sub p = some s → t.sub (p ++ q) = s.sub q := by
   intro p
   induction p with
   | nil => intro q t s h; cases t <;> (cases h; rfl)
   | cons i p ih =>
    intro q t s h
    cases t with
    | leaf d => cases h
    | node k cs =>
     have h : ((cs[i]?).bind fun x => x.2.sub p) = some s := h
     obtain ⟨x, hx, h⟩ := bnd h
     show ((cs[i]?).bind fun x => x.2.sub (p ++ q)) = _
     rw [hx]
     exact ih h
  rw [e h7] at h2
  have h2 : ((cs[n]?).bind fun x => x.2.sub []) = some S := h2
  obtain ⟨c, hc, h2⟩ := bnd h2
  rw [Zcj] at h2
  cases h2
  rw [hc]
  exact h3
 ·rintro ⟨dk, h4, k, h5, q0, h6, S0, h7, h⟩
  cases S0 with
  | leaf d => exact h.elim
  | node kd cs =>
   cases kd with
   | dct =>
    obtain ⟨d, h8, qq⟩ := h
    obtain ⟨n, h9, h10⟩ := bnd h8
    obtain ⟨c, h11, h12⟩ := bnd h10
    refine ⟨(q0.1, q0.2 ++ [n]), ?_, c.2, ?_, d, h12, qq⟩
    ·unfold pD
     rw [h4, Option.bind_some, h5, Option.bind_some, h6, Option.bind_some, h7, Option.bind_some]
     dsimp only
     rw [h9]
     rfl
    ·obtain ⟨T, hT, h7⟩ := bnd h7
     show ((en[q0.1]?).join.bind fun T => T.sub (q0.2 ++ [n])) = some c.2
     rw [hT, Option.bind_some]
     have e : ∀ {p q : List Nat} {t s : OT}, t.sub p = some s → t.sub (p ++ q) = s.sub q := by
      intro p
      induction p with
      | nil => intro q t s h; cases t <;> (cases h; rfl)
      | cons i p ih =>
       intro q t s h
       cases t with
       | leaf d => cases h
       | node k cs =>
        have h : ((cs[i]?).bind fun x => x.2.sub p) = some s := h
        obtain ⟨x, hx, h⟩ := bnd h
        show ((cs[i]?).bind fun x => x.2.sub (p ++ q)) = _
        rw [hx]
        exact ih h
     rw [e h7]
     show ((cs[n]?).bind fun x => x.2.sub []) = some c.2
     rw [h11, Option.bind_some, Zcj]
   | _ => exact h.elim
theorem ZqC {f : Str} : @Ru _ (xP (pF C f pl)) en QX = @og _ (pF C f pl en) ⟨fun q => @og _ (subE en q.1 q.2) ⟨fun S => @og _ (leafD S) ⟨fun d => QX.q (.ok d) en⟩⟩⟩ := Zfc
theorem ZpG {cs : List (Lab × OT)} {l : En} : dctAt (some (.node .dct cs) :: l) 0 = some cs := id rfl
theorem Zp8 {o : Option OT} {l : En} : dctAt (o :: l) (j + 1) = dctAt l j := id rfl
theorem ZbH {s : Str} : keyOf (.str s) = some (.inr s) := id rfl
theorem Zoj {s : Int} : keyOf (.int s) = some (.inl s) := id rfl
theorem ZmB : @Ru _ (xDGetV i x) en QX = @gd (∃ cs, dctAt en i = some cs) ⟨@Ru _ x en ⟨cX (fun dk e => @og _ (keyOf dk) ⟨fun k => @og _ (dctAt e i) ⟨fun cs => @og _ (valT k cs) ⟨fun d => QX.q (.ok d) e⟩⟩⟩) QX.q⟩⟩ := by
 refine (Zkt (o := fun en => dctAt en i) (f := fun _ en => bx (x en) fun dk e1 => (keyOf dk).bind fun k => (dctAt e1 i).bind fun cs => (idxK k cs).bind fun n => (cs[n]?).bind fun c => (leafD c.2).map fun d => (Rx.ok d, e1))).trans ?_
 have inner : ∀ (dk : PyData) (e : En), @Ru _ (fun e1 => (keyOf dk).bind fun k => (dctAt e1 i).bind fun cs => (idxK k cs).bind fun n => (cs[n]?).bind fun c => (leafD c.2).map fun d => (Rx.ok d, e1)) e QX = @og _ (keyOf dk) ⟨fun k => @og _ (dctAt e i) ⟨fun cs => @og _ (valT k cs) ⟨fun d => QX.q (.ok d) e⟩⟩⟩ := fun dk e => by
  refine propext ⟨?_, ?_⟩
  ·rintro ⟨r, e2, h, q⟩
   obtain ⟨k, h1, h⟩ := bnd h
   obtain ⟨cs, h2, h⟩ := bnd h
   obtain ⟨n, h3, h⟩ := bnd h
   obtain ⟨c, h4, h⟩ := bnd h
   obtain ⟨d, h5, h⟩ := Option.map_eq_some_iff.mp h
   cases h
   exact ⟨k, h1, cs, h2, d, by unfold valT; rw [h3, Option.bind_some, h4]; exact h5, q⟩
  ·rintro ⟨k, h1, cs, h2, d, h3, q⟩
   obtain ⟨n, h4, h5⟩ := bnd h3
   obtain ⟨c, h6, h7⟩ := bnd h5
   exact ⟨.ok d, e, by simp only [h1, h2, h4, h6, h7, Option.bind_some, Option.map_some], q⟩
 have key : @Ru _ (fun en => bx (x en) fun dk e1 => (keyOf dk).bind fun k => (dctAt e1 i).bind fun cs => (idxK k cs).bind fun n => (cs[n]?).bind fun c => (leafD c.2).map fun d => (Rx.ok d, e1)) en QX = @Ru _ x en ⟨cX (fun dk e => @og _ (keyOf dk) ⟨fun k => @og _ (dctAt e i) ⟨fun cs => @og _ (valT k cs) ⟨fun d => QX.q (.ok d) e⟩⟩⟩) QX.q⟩ := by
  refine Zgl.trans ?_
  congr 2
  congr 1
  funext dk e
  exact inner dk e
 exact propext ⟨fun ⟨cs, h, q⟩ => ⟨⟨cs, h⟩, key ▸ q⟩, fun ⟨⟨cs, h⟩, q⟩ => ⟨cs, h, key.symm ▸ q⟩⟩
theorem ZmM : @Ru _ (sDPutX pl w x) en Q = @Ru _ x en ⟨cO (fun d e => @og _ (pl e) ⟨fun q => @og _ (w (strong e)) ⟨fun dk => @og _ (keyOf dk) ⟨fun k => @og _ (e[q.1]?.join) ⟨fun T => @og _ (T.sub q.2) ⟨kDct fun cs => @gd (cs.length < 100000) ⟨Q.q .nx (e.set q.1 (some (T.put q.2 (.node .dct (putKT k d cs)))))⟩⟩⟩⟩⟩⟩) Q.q⟩ := by
 refine Zs6.trans ?_
 congr 2
 congr 1
 funext d e
 refine propext ⟨?_, ?_⟩
 ·rintro ⟨r, e2, h, qq⟩
  obtain ⟨q, h1, h⟩ := bnd h
  obtain ⟨dk, h2, h⟩ := bnd h
  obtain ⟨k, h3, h⟩ := bnd h
  obtain ⟨T, h4, h⟩ := bnd h
  obtain ⟨S, h5, h⟩ := bnd h
  refine ⟨q, h1, dk, h2, k, h3, T, h4, S, h5, ?_⟩
  split at h
  case h_2 => cases h
  split at h
  case isFalse => cases h
  cases h
  exact ⟨by assumption, qq⟩
 ·rintro ⟨q, h1, dk, h2, k, h3, T, h4, S, h5, h⟩
  cases S with
  | leaf d => exact h.elim
  | node kd cs =>
   cases kd with
   | dct =>
    obtain ⟨hl, qq⟩ := h
    refine ⟨.nx, _, ?_, qq⟩
    simp only [h1, h2, h3, h4, h5, Option.bind_some]
    rw [if_pos hl]
   | _ => exact h.elim
theorem Zmg : @Ru _ (sDPopP pl w) en Q = @og _ (pl en) ⟨fun q => @og _ (w (strong en)) ⟨fun dk => @og _ (keyOf dk) ⟨fun k => @og _ (en[q.1]?.join) ⟨fun T => @og _ (T.sub q.2) ⟨kDct fun cs => @og _ (idxK k cs) ⟨fun _ => Q.q .nx (en.set q.1 (some (T.put q.2 (.node .dct (dropKT k cs)))))⟩⟩⟩⟩⟩⟩ := by
 refine propext ⟨?_, ?_⟩
 ·rintro ⟨r, e2, h, qq⟩
  obtain ⟨q, h1, h⟩ := bnd h
  obtain ⟨dk, h2, h⟩ := bnd h
  obtain ⟨k, h3, h⟩ := bnd h
  obtain ⟨T, h4, h⟩ := bnd h
  obtain ⟨S, h5, h⟩ := bnd h
  refine ⟨q, h1, dk, h2, k, h3, T, h4, S, h5, ?_⟩
  split at h
  case h_2 => cases h
  obtain ⟨n, h6, h⟩ := Option.map_eq_some_iff.mp h
  cases h
  exact ⟨n, h6, qq⟩
 ·rintro ⟨q, h1, dk, h2, k, h3, T, h4, S, h5, h⟩
  cases S with
  | leaf d => exact h.elim
  | node kd cs =>
   cases kd with
   | dct =>
    obtain ⟨n, h6, qq⟩ := h
    refine ⟨.nx, _, ?_, qq⟩
    unfold sDPopP
    simp only [h1, h2, h3, h4, h5, Option.bind_some]
    rw [h6]
    rfl
   | _ => exact h.elim
theorem ZpR : @Ru _ (nDctC pl) en QN = @og _ (pl en) ⟨fun q => @og _ (subE en q.1 q.2) ⟨kDct fun cs => @gd (allLeaf cs = true) ⟨QN.q (.ok (.node .dct cs)) en⟩⟩⟩ := by
 refine propext ⟨?_, ?_⟩
 ·rintro ⟨r, e2, h, qq⟩
  obtain ⟨q, h1, h⟩ := bnd h
  obtain ⟨S, h5, h⟩ := bnd h
  refine ⟨q, h1, S, h5, ?_⟩
  split at h
  case h_2 => cases h
  split at h
  case isFalse => cases h
  cases h
  exact ⟨by assumption, qq⟩
 ·rintro ⟨q, h1, S, h5, h⟩
  cases S with
  | leaf d => exact h.elim
  | node kd cs =>
   cases kd with
   | dct =>
    obtain ⟨h6, qq⟩ := h
    refine ⟨.ok _, _, ?_, qq⟩
    unfold nDctC
    simp only [h1, h5, Option.bind_some]
    rw [if_pos h6]
   | _ => exact h.elim
theorem Zqi : @Ru _ nDct en QN = QN.q (.ok (.node .dct [])) en := propext (Zbu rfl)
theorem ZoT : @Ru _ xpNo en QI = QI.q (.ok none) en := propext (Zbu rfl)
theorem Zos : @Ru _ (xpSo x) en QI = @Ru _ x en ⟨cX (fun d e => @og _ (asI d) ⟨fun i => QI.q (.ok (some i)) e⟩) QI.q⟩ := by
 refine Zgl.trans ?_
 congr 2
 congr 1
 funext d e
 exact (show _ = @og _ ((asI d).map some) ⟨fun o => QI.q (.ok o) e⟩ from propext (ZH (f := fun _ => (asI d).map some))).trans Z4
theorem Zsa {o : PyData → Option Int → Option Int → Option PyData} {l h : FOi} : @Ru _ (xSl o a l h) en QX = @Ru _ a en ⟨cX (fun y e => @Ru _ l e ⟨cX (fun i e => @Ru _ h e ⟨cX (fun j e => @og _ (o y i j) ⟨fun d => QX.q (.ok d) e⟩) QX.q⟩) QX.q⟩) QX.q⟩ := by
 refine Zgl.trans ?_
 congr 2
 congr 1
 funext y e
 refine Zgl.trans ?_
 congr 2
 congr 1
 funext i e
 refine Zgl.trans ?_
 congr 2
 congr 1
 funext j e
 exact propext (ZH (f := fun _ => o y i j))
/-- what stands behind a try's body -/
noncomputable def cT (cs : List Addr) (k : Addr → En → Prop) (Q : Ot → En → Prop) : Ot → En → Prop
 | .ex C, e => C ∈ cs ∧ k C e
 | o, e => Q o e
theorem ZsO {cs : List Addr} {k : Addr → En → Prop} {Q : Ot → En → Prop} {e : En} : cT cs k Q .nx e = Q .nx e := id rfl
theorem Zsn {cs : List Addr} {k : Addr → En → Prop} {Q : Ot → En → Prop} {e : En} {T : OT} : cT cs k Q (.rt T) e = Q (.rt T) e := id rfl
theorem ZsZ {cs : List Addr} {k : Addr → En → Prop} {Q : Ot → En → Prop} {e : En} {C : Addr} : cT cs k Q (.ex C) e = (C ∈ cs ∧ k C e) := id rfl
theorem Zkw {cs : List Addr} {b h : FS} : @Ru _ (sTryOnly cs b h) en Q = @Ru _ b en ⟨cT cs (fun _ e => @Ru _ h e Q) Q.q⟩ := by
 refine propext ⟨?_, ?_⟩
 ·rintro ⟨o, e, hh, q⟩
  unfold sTryOnly at hh
  cases z : b en with
  | none => rw [z] at hh; cases hh
  | some r =>
   obtain ⟨o1, e1⟩ := r
   rw [z] at hh
   cases o1 with
   | ex C =>
    dsimp only at hh
    split at hh
    case isFalse => cases hh
    exact ⟨.ex C, e1, z, by assumption, o, e, hh, q⟩
   | nx => cases hh; exact ⟨_, _, z, q⟩
   | rt T => cases hh; exact ⟨_, _, z, q⟩
   | bk => cases hh; exact ⟨_, _, z, q⟩
   | ct => cases hh; exact ⟨_, _, z, q⟩
 ·rintro ⟨o, e, hh, q⟩
  cases o with
  | ex C =>
   obtain ⟨hC, o, e2, h2, q⟩ := q
   exact ⟨o, e2, by unfold sTryOnly; rw [hh]; dsimp only; rw [if_pos hC]; exact h2, q⟩
  | nx => exact ⟨_, _, by unfold sTryOnly; rw [hh], q⟩
  | rt T => exact ⟨_, _, by unfold sTryOnly; rw [hh], q⟩
  | bk => exact ⟨_, _, by unfold sTryOnly; rw [hh], q⟩
  | ct => exact ⟨_, _, by unfold sTryOnly; rw [hh], q⟩
noncomputable def cH (i : Nat) (Q : Ot → En → Prop) : Ot → En → Prop
 | .nx, e => noneAt e i = true ∧ Q .nx e
 | .rt T, e => Q (.rt T) e
 | _, _ => False
theorem Zsj {Q : Ot → En → Prop} {e : En} : cH i Q .nx e = (noneAt e i = true ∧ Q .nx e) := id rfl
theorem Ztv {Q : Ot → En → Prop} {e : En} {T : OT} : cH i Q (.rt T) e = Q (.rt T) e := id rfl
theorem ZmW {l : En} : noneAt (none :: l) 0 = true := id rfl
theorem Zmq {o : Option OT} {l : En} : noneAt (o :: l) (j + 1) = noneAt l j := id rfl
theorem ZmF {cs : List Addr} {b : FS} {h : Addr → FS} : @Ru _ (sTryAs i cs b h) en Q = @Ru _ b en ⟨cT cs (fun C e => noneAt e i = true ∧ @Ru _ (h C) e ⟨cH i Q.q⟩) Q.q⟩ := by
 refine propext ⟨?_, ?_⟩
 ·rintro ⟨o, e, hh, q⟩
  unfold sTryAs at hh
  cases z : b en with
  | none => rw [z] at hh; cases hh
  | some r =>
   obtain ⟨o1, e1⟩ := r
   rw [z] at hh
   cases o1 with
   | ex C =>
    dsimp only at hh
    split at hh
    case isFalse => cases hh
    rename_i hc
    refine ⟨.ex C, e1, z, hc.1, hc.2, ?_⟩
    split at hh
    ·rename_i e2 z2
     split at hh
     case isFalse => cases hh
     rename_i h3
     cases hh
     exact ⟨_, _, z2, h3, q⟩
    ·rename_i T e2 z2
     cases hh
     exact ⟨_, _, z2, q⟩
    ·cases hh
   | nx => cases hh; exact ⟨_, _, z, q⟩
   | rt T => cases hh; exact ⟨_, _, z, q⟩
   | bk => cases hh; exact ⟨_, _, z, q⟩
   | ct => cases hh; exact ⟨_, _, z, q⟩
 ·rintro ⟨o, e, hh, q⟩
  cases o with
  | ex C =>
   obtain ⟨hC, h1, o, e2, h2, q⟩ := q
   unfold Ru Wp sTryAs
   rw [hh]
   dsimp only
   rw [if_pos ⟨hC, h1⟩, h2]
   cases o with
   | nx => obtain ⟨h3, q⟩ := q; dsimp only; rw [if_pos h3]; exact ⟨_, _, rfl, q⟩
   | rt T => exact ⟨_, _, rfl, q⟩
   | _ => exact q.elim
  | nx => exact ⟨_, _, by unfold sTryAs; rw [hh], q⟩
  | rt T => exact ⟨_, _, by unfold sTryAs; rw [hh], q⟩
  | bk => exact ⟨_, _, by unfold sTryAs; rw [hh], q⟩
  | ct => exact ⟨_, _, by unfold sTryAs; rw [hh], q⟩
noncomputable def cN (Q : Ot → En → Prop) : Ot → En → Prop
 | .ex _, _ => False
 | o, e => Q o e
theorem Ztr {Q : Ot → En → Prop} {e : En} : cN Q .nx e = Q .nx e := id rfl
theorem Zs9 {Q : Ot → En → Prop} {e : En} {T : OT} : cN Q (.rt T) e = Q (.rt T) e := id rfl
theorem Zsu {Q : Ot → En → Prop} {e : En} {D : Addr} : cN Q (.ex D) e = False := id rfl
theorem ZdZ {b : FS} : @Ru _ (noEx b) en Q = @Ru _ b en ⟨cN Q.q⟩ := by
 refine propext ⟨?_, ?_⟩
 ·rintro ⟨o, e, hh, q⟩
  unfold noEx at hh
  cases z : b en with
  | none => rw [z] at hh; cases hh
  | some r =>
   obtain ⟨o1, e1⟩ := r
   rw [z] at hh
   cases o1 with
   | ex C => cases hh
   | nx => cases hh; exact ⟨_, _, z, q⟩
   | rt T => cases hh; exact ⟨_, _, z, q⟩
   | bk => cases hh; exact ⟨_, _, z, q⟩
   | ct => cases hh; exact ⟨_, _, z, q⟩
 ·rintro ⟨o, e, hh, q⟩
  cases o with
  | ex C => exact q.elim
  | nx => exact ⟨_, _, by unfold noEx; rw [hh], q⟩
  | rt T => exact ⟨_, _, by unfold noEx; rw [hh], q⟩
  | bk => exact ⟨_, _, by unfold noEx; rw [hh], q⟩
  | ct => exact ⟨_, _, by unfold noEx; rw [hh], q⟩
noncomputable def dT {α : Type} (f : α → PyData) (l : List (Key × α)) : List (Lab × OT) := l.map fun kv => (Lab.key kv.1, OT.leaf (f kv.2))
noncomputable def dM {α : Type} (f : α → PyData) (l : List (Key × α)) : PyData := .dict (l.map fun kv => (keyD kv.1, f kv.2))
noncomputable def lkM {α : Type} (k : Key) (l : List (Key × α)) : Option α := (l.find? fun kv => decide (kv.1 = k)).map (·.2)
section
variable {α : Type} {f : α → PyData} {l : List (Key × α)} {k : Key} {v : α}
theorem Zal : (OT.node .dct (dT f l)).data = dM f l := by
 rw [OT.data, OT.datas_map]
 unfold dM dT
 congr 1
 rw [List.map_map, List.map_map, List.zip_map']
 rfl
theorem Zdd : isDct (l.map fun kv => (keyD kv.1, f kv.2)) = true := by
 cases l with
 | nil => rfl
 | cons kv l => obtain ⟨k, v⟩ := kv; cases k <;> rfl
theorem ZjX : valT k (dT f l) = (lkM k l).map f := by
 unfold valT lkM
 induction l with
 | nil => rfl
 | cons kv l ih =>
  obtain ⟨k', v⟩ := kv
  show (idxK k ((Lab.key k', OT.leaf (f v)) :: dT f l)).bind _ = _
  unfold idxK
  by_cases h : k' = k
  ·have : (Lab.key k').k = k := h
   rw [if_pos this, List.find?_cons_of_pos (by simpa using h)]
   rfl
  ·have : ¬ (Lab.key k').k = k := h
   rw [if_neg this, List.find?_cons_of_neg (by simpa using h), ← ih]
   cases idxK k (dT f l) <;> rfl
theorem Zf3 : lookK k (l.map fun kv => (keyD kv.1, f kv.2)) = (lkM k l).map f := by
 unfold lkM
 induction l with
 | nil => rfl
 | cons kv l ih =>
  obtain ⟨k', v⟩ := kv
  rw [List.map_cons]
  unfold lookK
  rw [ZbQ]
  by_cases h : k' = k
  ·rw [if_pos (congrArg some h), List.find?_cons_of_pos (by simpa using h)]
   rfl
  ·rw [if_neg (fun e => h (Option.some.inj e)), List.find?_cons_of_neg (by simpa using h)]
   exact ih
theorem ZjQ {d : PyData} (h : keyOf d = some k) (neg : Bool) : oDIn neg d (dM f l) = some (.bool (if neg then !(lkM k l).isSome else (lkM k l).isSome)) := by
 unfold oDIn dM
 dsimp only
 rw [if_pos Zdd, h, Option.map_some, Zf3, Option.isSome_map]
theorem Zf2 {d : PyData} (h : keyOf d = some k) : oDGet (dM f l) d = (lkM k l).map f := by
 unfold oDGet dM
 dsimp only
 rw [if_pos Zdd, h, Option.bind_some, Zf3]
theorem ZiQ : ∀ {l : List (Key × α)} {ks : List Str}, l.map (·.1) = ks.map Sum.inr → keysS (l.map fun kv => (keyD kv.1, f kv.2)) = some ks
 | [], [], _ => rfl
 | [], _ :: _, h => by cases h
 | _ :: _, [], h => by cases h
 | (k, v) :: l, s :: ks, h => by
  rw [List.map_cons, List.map_cons] at h
  injection h with h1 h2
  have h1 : k = Sum.inr s := h1
  subst h1
  rw [List.map_cons]
  show (keysS _).map _ = _
  rw [ZiQ h2]
  rfl
theorem ZiP : ∀ {l : List (Key × α)} {ks : List Int}, l.map (·.1) = ks.map Sum.inl → keysI (l.map fun kv => (keyD kv.1, f kv.2)) = some ks
 | [], [], _ => rfl
 | [], _ :: _, h => by cases h
 | _ :: _, [], h => by cases h
 | (k, v) :: l, s :: ks, h => by
  rw [List.map_cons, List.map_cons] at h
  injection h with h1 h2
  have h1 : k = Sum.inl s := h1
  subst h1
  rw [List.map_cons]
  show (keysI _).map _ = _
  rw [ZiP h2]
  rfl
theorem ZgA {ks : List Str} (h : l.map (·.1) = ks.map Sum.inr) (hl : ks.length < 64) : cSortDS [dM f l] = some (dLS (srtS ks)) := by
 unfold cSortDS dM
 dsimp only
 rw [if_pos Zdd, ZiQ h, Option.bind_some, if_pos hl]
theorem Zgt {ks : List Int} (h : l.map (·.1) = ks.map Sum.inl) (hl : ks.length < 64) : cSortDI [dM f l] = some (dLI (srt ks)) := by
 unfold cSortDI dM
 dsimp only
 rw [if_pos Zdd, ZiP h, Option.bind_some, if_pos hl]
end
end
end Kb
namespace Kb
open PySem L2 Evl
section
variable {en : En} {QN : Ke (Rx OT)} {A : FA} {i j : Nat}
theorem Zm1 {f : FD} {is : List Nat} : @Ru _ (nCallI f (i :: j :: is) A) en QN = @gd (∃ r, pullE (i :: j :: is) en = some r) ⟨@Ru _ A en ⟨cX (fun ds e => @og _ (pullE (i :: j :: is) e) ⟨fun r => @og _ (f (r.1 ++ ds.map OT.leaf)) ⟨kI fun R as => QN.q R (putE (i :: j :: is) as r.2)⟩⟩) QN.q⟩⟩ := by
 refine propext ⟨?_, ?_⟩
 ·rintro ⟨a, e', h, q⟩
  obtain ⟨r0, h0, h⟩ := bnd h
  refine ⟨⟨r0, h0⟩, ?_⟩
  rcases Zn h with ⟨ds, e1, h1, h2⟩ | ⟨C, h1, rfl⟩
  ·refine ⟨.ok ds, e1, h1, ?_⟩
   obtain ⟨r, h3, h4⟩ := bnd h2
   obtain ⟨⟨R, as⟩, h5, h6⟩ := bnd h4
   refine ⟨r, h3, (R, as), h5, ?_⟩
   cases R <;> (cases h6; exact q)
  ·exact ⟨.ex C, e', h1, q⟩
 ·rintro ⟨⟨r0, h0⟩, r, e, h1, h2⟩
  cases r with
  | ex C => exact ⟨.ex C, e, by unfold nCallI; rw [h0, Option.bind_some, h1]; rfl, h2⟩
  | ok ds =>
   obtain ⟨r, h3, ⟨R, as⟩, h5, q⟩ := h2
   refine ⟨R, putE (i :: j :: is) as r.2, ?_, q⟩
   unfold nCallI
   rw [h0, Option.bind_some, h1]
   show (pullE (i :: j :: is) e).bind _ = _
   rw [h3, Option.bind_some, h5, Option.bind_some]
   cases R <;> rfl
theorem Zgz {α : Type} {f : α → PyData} : ∀ l : List (Key × α), lfsOf (dT f l) = some (l.map fun kv => f kv.2)
 | [] => rfl
 | kv :: l => by
  show ((leafD (OT.leaf (f kv.2))).bind fun d => (lfsOf (dT f l)).map (d :: ·)) = _
  rw [Zgz l]
  rfl
theorem Zop {α : Type} {f : α → PyData} (l : List (Key × α)) : PyData.dict (((dT f l).map fun x => keyD x.1.k).zip (l.map fun kv => f kv.2)) = dM f l := by
 unfold dM
 congr 1
 induction l with
 | nil => rfl
 | cons kv l ih =>
  show (keyD kv.1, f kv.2) :: _ = (keyD kv.1, f kv.2) :: _
  rw [← ih]
  rfl
end
end Kb
namespace Kb
open PySem L2 Evl
section
variable {en : En} {Q : Ke Ot} {QX : Ke (Rx PyData)} {QN : Ke (Rx OT)} {QT : Kt OT} {pl : FP} {w : FW} {A : FA} {C : Addr} {f m : Str} {i j : Nat} {ρ : DE} {o : List PyData → Option PyData}
theorem Zgy {α : Type} {m : En → Option (α × En)} {Q : Ke α} : @Ru α m en Q = @og (α × En) (m en) ⟨fun p => Q.q p.1 p.2⟩ := propext ⟨fun ⟨a, e, h, q⟩ => ⟨(a, e), h, q⟩, fun ⟨p, h, q⟩ => ⟨p.1, p.2, h, q⟩⟩
theorem ZR {α : Type} {a : Option α} {P R : α → Prop} (h : ∀ x, P x = R x) : @og _ a ⟨P⟩ = @og _ a ⟨R⟩ := by rw [funext h]
theorem Znc : @Ru _ (xPopP pl) en QX = @og _ (pl en) ⟨fun q => @og _ (en[q.1]?.join) ⟨fun T => @og _ (T.sub q.2) ⟨kLst fun cs => @og _ (cs[cs.length - 1]?) ⟨fun x => @og _ (leafD x.2) ⟨fun d => QX.q (.ok d) (en.set q.1 (some (T.put q.2 (.node .lst cs.dropLast))))⟩⟩⟩⟩⟩ := by
 refine Zgy.trans ?_
 unfold xPopP
 refine Zd.trans (ZR fun q => Zd.trans (ZR fun T => Zd.trans (ZR fun S => ?_)))
 cases S with
 | leaf d => exact ZaH
 | node k cs => cases k <;> first | exact ZaH | exact Zd.trans (ZR fun x => Z4)
theorem ZoH : @Ru _ (nLstC pl) en QN = @og _ (pl en) ⟨fun q => @og _ (subE en q.1 q.2) ⟨kLst fun cs => @gd (allLeaf cs = true) ⟨QN.q (.ok (.node .lst cs)) en⟩⟩⟩ := by
 refine Zgy.trans ?_
 unfold nLstC
 refine Zd.trans (ZR fun q => Zd.trans (ZR fun S => ?_))
 cases S with
 | leaf d => exact ZaH
 | node k cs => cases k <;> first | exact ZaH | exact Zac.trans (by first | (rw [Zq]; done) | (rw [Zq]; rfl))
theorem Zru : @Ru _ (nCbF o A) en QN = @Ru _ A en ⟨cX (fun xs e => @og _ (o xs) ⟨fun d => QN.q (.ok (freshT d)) e⟩) QN.q⟩ := Zhl
theorem Zpl {g : Int → Int → Int} : @Ru _ (sAugF C f i g w) en Q = @og _ (insAt en i C) ⟨fun cs => @og _ (valF f cs) ⟨fun a0 => @og _ (asI a0) ⟨fun a => @og _ (w (strong en)) ⟨fun b0 => @og _ (asI b0) ⟨fun b => @gd (cs.length < 1000) ⟨Q.q .nx (en.set i (some (.node (.ins C) (putT f (.leaf (.int (g a b))) cs))))⟩⟩⟩⟩⟩⟩ := by
 refine Zgy.trans ?_
 unfold sAugF
 exact Zd.trans (ZR fun cs => Zd.trans (ZR fun a0 => Zd.trans (ZR fun a => Zd.trans (ZR fun b0 => Zd.trans (ZR fun b => Zac.trans (by first | (rw [Zq]; done) | (rw [Zq]; rfl)))))))
theorem Zne {t : FO} : @Ru _ (sAppPO pl t) en Q = @og _ (t (weak en)) ⟨kLst fun cn => @og _ (pl en) ⟨fun q => @og _ (en[q.1]?.join) ⟨fun T => @og _ (T.sub q.2) ⟨kLst fun cs => @gd (cs.length < 100000) ⟨Q.q .nx (en.set q.1 (some (T.put q.2 (.node .lst (cs ++ [(.no, .node .lst (tellC cn))])))))⟩⟩⟩⟩⟩ := by
 refine Zgy.trans ?_
 unfold sAppPO
 refine Zd.trans (ZR fun N => ?_)
 have no : ∀ {α β γ δ : Type} {a : Option α} {b : α → Option β} {c : α → β → Option γ} {K : Kt δ}, @og _ (a.bind fun x => (b x).bind fun y => (c x y).bind fun _ => (none : Option δ)) K = False := fun {α β γ δ a b c K} => by
  refine Zd.trans (propext ⟨fun ⟨_, _, h⟩ => ?_, fun h => h.elim⟩)
  dsimp only at h
  rw [Zd] at h
  obtain ⟨_, _, h⟩ := h
  dsimp only at h
  rw [Zd] at h
  obtain ⟨_, _, _, h, _⟩ := h
  cases h
 cases N with
 | leaf d => exact no
 | node k cn =>
  cases k with
  | lst =>
   refine Zd.trans (ZR fun q => Zd.trans (ZR fun T => Zd.trans (ZR fun S => ?_)))
   cases S with
   | leaf d => exact ZaH
   | node k cs =>
    cases k with
    | lst =>
     refine Zac.trans ?_
     rw [Zq]
     simp only [lenOk, decide_eq_true_eq]
     rfl
    | _ => exact ZaH
  | _ => exact no
theorem ZpX : @og _ (tNewT w ρ) QT = @og _ (w ρ) ⟨fun d => ∃ ds, d = .tuple ds ∧ @gd (ds.all flatD = true) ⟨QT.q (.node .tup (oLeafs ds))⟩⟩ := by
 refine (Zd (o := w ρ)).trans (ZR fun d => ?_)
 cases d with
 | tuple ds =>
  refine Zac.trans ?_
  rw [Zq]
  exact propext ⟨fun h => ⟨ds, rfl, h⟩, fun ⟨_, h, p⟩ => by cases h; exact p⟩
 | _ => exact ZaH.trans (propext ⟨fun h => h.elim, fun ⟨_, h, _⟩ => nomatch h⟩)
theorem Zoo {ds : List PyData} {P : List PyData → Prop} : (∃ ds', PyData.tuple ds = .tuple ds' ∧ P ds') = P ds := propext ⟨fun ⟨_, h, p⟩ => by cases h; exact p, fun p => ⟨ds, rfl, p⟩⟩
theorem Zr4 {g : Str} {X : OT} {r : List (Lab × OT)} : valF f ((.fld g, X) :: r) = if f = g then leafD X else valF f r := by
 unfold valF
 rw [Zld]
 split
 ·rfl
 ·cases h : idxF f r with
  | none => rfl
  | some n => rfl
theorem ZpD : tellC [] = [] := rfl
theorem ZpZ {x : Lab × OT} {r : List (Lab × OT)} : tellC (x :: r) = (x.1, OT.leaf x.2.data) :: tellC r := rfl
theorem Zr5 {neg : Bool} {tab : List (String × Int)} {s : Str} : oKIn neg tab (.str s) = some (.bool (if neg then !(tabAt s tab).isSome else (tabAt s tab).isSome)) := rfl
theorem ZpF {tab : List (String × Int)} {s : Str} : oKGet tab (.str s) = (tabAt s tab).map PyData.int := rfl
end
end Kb
namespace Kb
open PySem L2 Evl
noncomputable def lookTK (k : Key) : List (Lab × OT) → Option OT
 | [] => none
 | (l, T) :: r => if l.k = k then some T else lookTK k r
theorem Zbx {k g : Key} {T : OT} {r : List (Lab × OT)} : lookTK k ((.key g, T) :: r) = if g = k then some T else lookTK k r := id rfl
theorem ZkB {α : Type} : ∀ (cs : List (Lab × α)) (ds : List PyData), isDct ((cs.map fun x => keyD x.1.k).zip ds) = true
 | [], ds => rfl
 | x :: cs, [] => rfl
 | x :: cs, d :: ds => by
  rw [List.map_cons, List.zip_cons_cons]
  cases h : x.1.k <;> rfl
theorem Zfs {k : Key} : ∀ cs : List (Lab × OT), lookK k ((cs.map fun x => keyD x.1.k).zip (OT.datas cs)) = (lookTK k cs).map OT.data
 | [] => rfl
 | (l, T) :: r => by
  rw [List.map_cons, OT.datas, List.zip_cons_cons]
  show (if keyOf (keyD l.k) = some k then some T.data else lookK k _) = _
  rw [ZbQ]
  unfold lookTK
  by_cases h : l.k = k
  ·rw [if_pos h, if_pos (congrArg some h)]; rfl
  ·rw [if_neg h, if_neg (fun e => h (Option.some.inj e))]
   exact Zfs r
theorem Zm8 {cs : List (Lab × OT)} : (OT.node .dct cs).data = .dict ((cs.map fun x => keyD x.1.k).zip (OT.datas cs)) := by rw [OT.data]
theorem Za4 {cs : List (Lab × OT)} {d : PyData} : oDGet (OT.node .dct cs).data d = (keyOf d).bind fun k => (lookTK k cs).map OT.data := by
 rw [Zm8]
 unfold oDGet
 dsimp only
 rw [if_pos (ZkB cs _)]
 congr 1
 funext k
 exact Zfs cs
theorem Zgu {α : Type} {k g : Key} {T : α} {r : List (Lab × α)} : idxK k ((.key g, T) :: r) = if g = k then some 0 else (idxK k r).map (· + 1) := id rfl
theorem Zsk {pl : FP} {w : FW} {en : En} {QP : Kt (Nat × List Nat)} : @og _ (pD pl w en) QP = @og _ (w (strong en)) ⟨fun d => @og _ (keyOf d) ⟨fun k => @og _ (pl en) ⟨fun q => @og _ (subE en q.1 q.2) ⟨kDct fun cs => @og _ (idxK k cs) ⟨fun n => QP.q (q.1, q.2 ++ [n])⟩⟩⟩⟩⟩ := by
 unfold pD
 refine Zd.trans (ZR fun d => Zd.trans (ZR fun k => Zd.trans (ZR fun q => Zd.trans (ZR fun S => ?_))))
 cases S with
 | leaf d => exact ZaH
 | node kd cs => cases kd <;> first | exact ZaH | exact Z4
theorem ZlG {ρ : DE} {Q : Kt (List (Lab × OT))} : @og _ (evDs [] ρ) Q = Q.q [] := Zq
theorem ZlH {ρ : DE} {k : Str} {t : FO} {r : List (Str × FO)} {Q : Kt (List (Lab × OT))} : @og _ (evDs ((k, t) :: r) ρ) Q = @og _ (t ρ) ⟨fun T => @og _ (evDs r ρ) ⟨fun cs => Q.q ((Lab.key (.inr k), T) :: cs)⟩⟩ := Zd.trans (ZR fun T => Z4)
theorem Zn2 {es : List (Str × FO)} {ρ : DE} {Q : Kt OT} : @og _ (tDspO es ρ) Q = @gd ((es.map (·.1)).Nodup ∧ es.length ≤ 15) ⟨@og _ (evDs es ρ) ⟨fun cs => Q.q (.node .dct cs)⟩⟩ := by
 unfold tDspO
 refine Zac.trans ?_
 rw [Z4]
theorem ZoU {ρ : DE} {Q : Kt OT} : @og _ (tDct0 ρ) Q = Q.q (.node .dct []) := Zq
theorem Zm3 {pl : FP} {m j : Nat} {x1 : FX} {w2 : FW} {f : List PyData → Option PyData} {s3 : FS} {en : En} {Q : Ke Ot} : @Ru _ (sAlias pl m j x1 w2 f s3) en Q = @og _ (pl en) ⟨fun q => @gd (q.1 = m ∧ m ≠ j ∧ m < en.length) ⟨@og _ (subE en q.1 q.2) ⟨fun S => @og _ ((en[m]?).join) ⟨fun T => @Ru _ x1 (en.set m none) ⟨cX (β := PyData) (fun d1 e1 => @og _ (w2 ((weak (e1.set m (some T))).set j (some S.data))) ⟨fun d2 => @gd (f [d1, d2] = some (.bool true)) ⟨@Ru _ s3 ((e1.set m (some T)).set j none) Q⟩⟩) fun _ _ => False⟩⟩⟩⟩⟩ := by
 refine Zgy.trans ?_
 unfold sAlias
 refine Zd.trans (ZR fun q => Zac.trans ?_)
 congr 2
 refine Zd.trans (ZR fun S => Zd.trans (ZR fun T => ?_))
 refine propext ⟨?_, ?_⟩
 ·rintro ⟨p, h, hq⟩
  cases z : x1 (en.set m none) with
  | none => rw [z] at h; cases h
  | some r =>
   obtain ⟨o1, e1⟩ := r
   rw [z] at h
   cases o1 with
   | ex C => cases h
   | ok d1 =>
    obtain ⟨d2, h2, h3⟩ := bnd h
    split at h3
    case isFalse => cases h3
    exact ⟨_, _, z, d2, h2, by assumption, p.1, p.2, h3, hq⟩
 ·rintro ⟨o, e, h, hq⟩
  cases o with
  | ex C => exact hq.elim
  | ok d1 =>
   obtain ⟨d2, h2, h3, o, e2, h4, q4⟩ := hq
   refine ⟨(o, e2), ?_, q4⟩
   rw [h]
   show (Option.bind _ _) = _
   rw [h2, Option.bind_some, if_pos h3, h4]
theorem ZjA {S : OT} : ∀ {p : List Nat} {T S0 : OT}, T.sub p = some S0 → (T.put p S).sub p = some S
 | [], T, S0, h => by rw [Zei, Zcj]
 | i :: p, .leaf d, S0, h => by cases h
 | i :: p, .node k cs, S0, h => by
  have h : ((cs[i]?).bind fun x => x.2.sub p) = some S0 := h
  obtain ⟨x, hx, h⟩ := bnd h
  rw [Zdi, ZhP, List.getElem?_modify, hx]
  simp only [if_true, Option.map_eq_map, Option.map_some, Option.bind_some]
  exact ZjA h
theorem ZjS {S S' : OT} : ∀ {p : List Nat} {T S0 : OT}, T.sub p = some S0 → (T.put p S).put p S' = T.put p S'
 | [], T, S0, h => by rw [Zei, Zei]
 | i :: p, .leaf d, S0, h => by cases h
 | i :: p, .node k cs, S0, h => by
  have h : ((cs[i]?).bind fun x => x.2.sub p) = some S0 := h
  obtain ⟨x, hx, h⟩ := bnd h
  rw [Zdi, Zdi, Zdi]
  congr 1
  apply List.ext_getElem?
  intro j
  rw [List.getElem?_modify, List.getElem?_modify, List.getElem?_modify]
  by_cases e : i = j
  ·subst e
   rw [hx]
   simp only [if_true, Option.map_eq_map, Option.map_some, Option.some.injEq]
   rw [ZjS h]
  ·simp [e]
theorem Zj3 {S : OT} : ∀ {p : List Nat} {T : OT}, T.sub p = some S → T.put p S = T
 | [], T, h => by rw [Zcj] at h; cases h; rw [Zei]
 | i :: p, .leaf d, h => by cases h
 | i :: p, .node k cs, h => by
  have h : ((cs[i]?).bind fun x => x.2.sub p) = some S := h
  obtain ⟨x, hx, h⟩ := bnd h
  rw [Zdi]
  congr 1
  apply List.ext_getElem?
  intro j
  rw [List.getElem?_modify]
  by_cases e : i = j
  ·subst e
   rw [hx]
   simp only [if_true, Option.map_eq_map, Option.map_some, Option.some.injEq]
   rw [Zj3 h]
  ·simp [e]
theorem Znf {en : En} {q : Nat × List Nat} {cs : List (Lab × OT)} (h : dctL en q = some cs) : ∃ T, (en[q.1]?).join = some T ∧ T.sub q.2 = some (.node .dct cs) := by
 obtain ⟨S, hS, h⟩ := bnd h
 split at h
 case h_2 => cases h
 obtain ⟨ds, _, h⟩ := Option.map_eq_some_iff.mp h
 cases h
 obtain ⟨T, hT, hs⟩ := bnd hS
 exact ⟨T, hT, hs⟩
theorem ZoW {en : En} {i : Nat} {T : OT} (h : (en[i]?).join = some T) : i < en.length := by
 cases z : en[i]? with
 | none => rw [z] at h; cases h
 | some o => exact (List.getElem?_eq_some_iff.mp z).1
theorem Zht {a : Addr} {q : Nat × List Nat} {cs : List (Lab × OT)} {en : En} (h : dctL en q = some cs) (hn : noLkE en = true) : unlE a q cs (lockE a q cs en) = some en := by
 obtain ⟨T, hT, hs⟩ := Znf h
 have hl := ZoW hT
 have e1 : lockE a q cs en = en.set q.1 (some (T.put q.2 (.leaf (lkD a (kdOf cs))))) := by
  unfold lockE putE1
  rw [hT]
 have e2 : ((lockE a q cs en)[q.1]?).join = some (T.put q.2 (.leaf (lkD a (kdOf cs)))) := by
  rw [e1, List.getElem?_set_self hl]
  rfl
 have e3 : putE1 (lockE a q cs en) q (.node .dct cs) = en := by
  unfold putE1
  rw [e2]
  dsimp only
  rw [ZjS hs, Zj3 hs, e1, List.set_set]
  apply List.ext_getElem?
  intro j
  rw [List.getElem?_set]
  by_cases e : q.1 = j
  ·subst e
   rw [if_pos rfl, if_pos hl]
   cases z : en[q.1]? with
   | none => rw [z] at hT; cases hT
   | some o => rw [z] at hT; exact congrArg some (show some T = o from hT.symm)
  ·rw [if_neg e]
 have e4 : subE (lockE a q cs en) q.1 q.2 = some (.leaf (lkD a (kdOf cs))) := by
  show (((lockE a q cs en)[q.1]?).join.bind fun T => T.sub q.2) = _
  rw [e2, Option.bind_some, ZjA hs]
 unfold unlE
 rw [e3, if_pos ⟨e4, hn⟩]
theorem ZiS {α : Type} {m : En → Option (α × En)} {en en2 : En} {r : α} (h : @Ru _ m en ⟨fun o e => o = r ∧ e = en2⟩) : m en = some (r, en2) := by
 obtain ⟨o, e, h1, rfl, rfl⟩ := h
 exact h1
theorem ZoN {pl : FP} {s : FS} {en : En} {Q : Ke Ot} (q : Nat × List Nat) (cs : List (Lab × OT)) (en2 : En) (hp : pl en = some q) (h1 : dctL en q = some cs) (hb : ∀ a, @Ru _ s (lockE a q cs en) ⟨fun o e => o = .nx ∧ e = lockE a q cs en2⟩) (h2 : dctL en2 q = some cs) (hn : noLkE en2 = true) (hq : Q.q .nx en2) : @Ru _ (sLock pl s) en Q := by
 refine ⟨.nx, en2, ?_, hq⟩
 unfold sLock
 rw [hp, Option.bind_some, h1, Option.bind_some]
 refine ZkQ fun a => ?_
 rw [ZiS (hb a)]
 show (unlE a q cs _).map _ = _
 rw [Zht h2 hn]
 rfl
theorem Zl8 {pl : FP} {x : FX} {en : En} {Q : Ke (Rx PyData)} (q : Nat × List Nat) (cs : List (Lab × OT)) (d : PyData) (en2 : En) (hp : pl en = some q) (h1 : dctL en q = some cs) (hb : ∀ a, @Ru _ x (lockE a q cs en) ⟨fun o e => o = .ok d ∧ e = lockE a q cs en2⟩) (hd : noLk d = true) (h2 : dctL en2 q = some cs) (hn : noLkE en2 = true) (hq : Q.q (.ok d) en2) : @Ru _ (xLock pl x) en Q := by
 refine ⟨.ok d, en2, ?_, hq⟩
 unfold xLock
 rw [hp, Option.bind_some, h1, Option.bind_some]
 refine ZkQ fun a => ?_
 rw [ZiS (hb a)]
 dsimp only
 rw [if_pos hd, Zht h2 hn]
 rfl
theorem Zjz {a : Addr} {kd : List (PyData × PyData)} : asLkK (lkD a kd) = some (kd.map (·.1)) := id rfl
theorem Zjk {a : Addr} {kd : List (PyData × PyData)} {y : PyData} : oDGetL (lkD a kd) y = (keyOf y).bind fun k => lookK k kd := id rfl
theorem Zfd {α : Type} {f : α → PyData} (l : List (Key × α)) : kdOf (dT f l) = l.map fun kv => (keyD kv.1, f kv.2) := by
 unfold kdOf
 have h : OT.datas (dT f l) = l.map fun kv => f kv.2 := Zdx (Zgz l)
 rw [h]
 exact PyData.dict.inj (Zop l)
theorem Zix {α : Type} {f : α → PyData} {k : Key} {l : List (Key × α)} : lookK k (l.map fun kv => (keyD kv.1, f kv.2)) = (lkM k l).map f := Zf3
theorem Zj5 {α : Type} {f : α → PyData} {l : List (Key × α)} : (l.map fun kv => (keyD kv.1, f kv.2)).map (·.1) = l.map fun kv => keyD kv.1 := by rw [List.map_map]; rfl
end Kb
namespace Kb
open PySem L2 Evl
noncomputable def getT (k : Key) (z : PyData) (cs : List (Lab × OT)) : Option PyData := match idxK k cs with
 | some n => (cs[n]?).bind fun y => leafD y.2
 | none => some z
end Kb
namespace Kb
open PySem L2 Evl
noncomputable def djp : List Nat → List Nat → Bool
 | i :: p, j :: q => if i = j then djp p q else true
 | _, _ => false
noncomputable def djq (a b : Nat × List Nat) : Bool := if a.1 = b.1 then djp a.2 b.2 else true
noncomputable def dja : List (Nat × List Nat) → Bool
 | [] => true
 | q :: r => r.all (djq q) && dja r
noncomputable def putA : List (Nat × List Nat) → List OT → En → En
 | q :: qs, S :: Ss, en => putE1 (putA qs Ss en) q S
 | _, _, en => en
noncomputable def subA (en : En) : List (Nat × List Nat) → List OT → Prop
 | [], [] => True
 | q :: qs, S :: Ss => subE en q.1 q.2 = some S ∧ subA en qs Ss
 | _, _ => False
theorem ZkW {en : En} {q : Nat × List Nat} {S : OT} : (putE1 en q S).length = en.length := by
 unfold putE1
 split
 ·rw [List.length_set]
 ·rfl
theorem Zed : ∀ {qs : List (Nat × List Nat)} {Ss : List OT} {en : En}, (putA qs Ss en).length = en.length
 | [], _, _ => by unfold putA; rfl
 | q :: qs, [], _ => by unfold putA; rfl
 | q :: qs, S :: Ss, en => by rw [putA, ZkW, Zed]
theorem ZiM {en : En} {q : Nat × List Nat} {S : OT} {i : Nat} (h : q.1 ≠ i) : (putE1 en q S)[i]? = en[i]? := by
 unfold putE1
 split
 ·rw [List.getElem?_set_ne h]
 ·rfl
theorem Zj7 {i : Nat} : ∀ {qs : List (Nat × List Nat)} {Ss : List OT} {en : En}, (∀ q ∈ qs, q.1 ≠ i) → (putA qs Ss en)[i]? = en[i]?
 | [], _, _, _ => by unfold putA; rfl
 | q :: qs, [], _, _ => by unfold putA; rfl
 | q :: qs, S :: Ss, en, h => by rw [putA, ZiM (h q List.mem_cons_self), Zj7 fun q hq => h q (List.mem_cons_of_mem _ hq)]
theorem Zlr {en : En} {q : Nat × List Nat} {S : OT} {i : Nat} {o : Option OT} (h : q.1 ≠ i) : putE1 (en.set i o) q S = (putE1 en q S).set i o := by
 unfold putE1
 rw [List.getElem?_set_ne (fun z => h z.symm)]
 cases (en[q.1]?).join with
 | none => rfl
 | some T => exact List.set_comm _ _ (fun z => h z.symm)
theorem ZiU {i : Nat} {o : Option OT} : ∀ {qs : List (Nat × List Nat)} {Ss : List OT} {en : En}, (∀ q ∈ qs, q.1 ≠ i) → putA qs Ss (en.set i o) = (putA qs Ss en).set i o
 | [], _, _, _ => by unfold putA; rfl
 | q :: qs, [], _, _ => by unfold putA; rfl
 | q :: qs, S :: Ss, en, h => by rw [putA, putA, ZiU fun q hq => h q (List.mem_cons_of_mem _ hq), Zlr (h q List.mem_cons_self)]
theorem ZiY {i : Nat} {o : Option OT} {en : En} : ∀ {qs : List (Nat × List Nat)} {Ss : List OT}, (∀ q ∈ qs, q.1 ≠ i) → subA en qs Ss → subA (en.set i o) qs Ss
 | [], [], _, _ => trivial
 | [], _ :: _, _, h => h.elim
 | _ :: _, [], _, h => h.elim
 | q :: qs, S :: Ss, hn, h => by
  refine ⟨?_, ZiY (fun q hq => hn q (List.mem_cons_of_mem _ hq)) h.2⟩
  have h1 := h.1
  unfold subE at h1 ⊢
  rw [List.getElem?_set_ne (fun z => hn q List.mem_cons_self z.symm)]
  exact h1
theorem ZjW : ∀ {qs : List (Nat × List Nat)}, fstNE qs = none → ∀ q ∈ qs, q.2 = []
 | [], _, _, h => nomatch h
 | (i, []) :: r, hn, q, h => by
  rcases List.mem_cons.mp h with rfl | h
  ·rfl
  ·exact ZjW (qs := r) hn q h
 | (i, j :: p) :: r, hn, _, _ => by cases hn
theorem Zlk : ∀ {qs : List (Nat × List Nat)} {i : Nat}, fstNE qs = some i → ∃ q ∈ qs, q.1 = i ∧ ∃ j p, q.2 = j :: p
 | [], _, h => by cases h
 | (i', []) :: r, i, h => by
  obtain ⟨q, h1, h2⟩ := Zlk (qs := r) h
  exact ⟨q, List.mem_cons_of_mem _ h1, h2⟩
 | (i', j :: p) :: r, i, h => by
  cases h
  exact ⟨_, List.mem_cons_self, rfl, j, p, rfl⟩
theorem ZlR {en : En} {i : Nat} {S : OT} (h : subE en i [] = some S) : (en[i]?).join = some S := by
 obtain ⟨T, h1, h2⟩ := bnd h
 rw [h1]
 cases T <;> exact h2
theorem Zm4 {T S : OT} : T.put [] S = S := by cases T <;> rfl
theorem Zi9 : ∀ {qs : List (Nat × List Nat)} {Ss : List OT} {en : En}, fstNE qs = none → dja qs = true → subA en qs Ss → ∃ e2, pullE (qs.map (·.1)) en = some (Ss, e2) ∧ ∀ Ss' rest, Ss'.length = qs.length → putE (qs.map (·.1)) (Ss' ++ rest) e2 = putA qs Ss' en
 | [], [], en, _, _, _ => ⟨en, rfl, fun Ss' rest h => by
   have : Ss' = [] := by simpa using h
   subst this
   cases rest <;> rfl⟩
 | [], _ :: _, _, _, _, h => h.elim
 | _ :: _, [], _, _, _, h => h.elim
 | (i, j :: p) :: r, _ :: _, _, hn, _, _ => by cases hn
 | (i, []) :: qs, S :: Ss, en, hn, hd, h => by
  rw [dja, Bool.and_eq_true] at hd
  have hne : ∀ q ∈ qs, q.1 ≠ i := fun q hq z => by
   have h1 := (List.all_eq_true.mp hd.1) q hq
   unfold djq at h1
   rw [if_pos z.symm] at h1
   have h2 := ZjW (qs := qs) hn q hq
   rw [h2] at h1
   simp [djp] at h1
  obtain ⟨e2, h1, h2⟩ := Zi9 (qs := qs) (Ss := Ss) (en := en.set i none) hn hd.2 (ZiY hne h.2)
  have h0 := ZlR h.1
  refine ⟨e2, ?_, fun Ss' rest hl => ?_⟩
  ·show ((en[i]?).join).bind _ = _
   rw [h0]
   show (pullE (qs.map (·.1)) (en.set i none)).map _ = _
   rw [h1]
   rfl
  ·cases Ss' with
   | nil => simp at hl
   | cons S' Ss' =>
    show (putE (qs.map (·.1)) (Ss' ++ rest) e2).set i (some S') = putE1 (putA qs Ss' en) (i, []) S'
    rw [h2 Ss' rest (by simpa using hl), ZiU hne, List.set_set]
    unfold putE1
    dsimp only
    rw [Zj7 hne, h0]
    dsimp only
    rw [Zm4]
theorem Zkc {n i : Nat} : ∀ {qs : List (Nat × List Nat)}, (∀ q ∈ qs, q.1 = i → q.2 ≠ []) → ∃ qs', trns n i qs = some qs' ∧ qs'.length = qs.length
 | [], _ => ⟨[], rfl, rfl⟩
 | q :: qs, h => by
  obtain ⟨r, h1, h2⟩ := Zkc (n := n) (i := i) (qs := qs) fun q hq => h q (List.mem_cons_of_mem _ hq)
  have : ∃ q', trn n i q = some q' := by
   unfold trn
   split
   ·rename_i z
    have := h q List.mem_cons_self z
    cases z2 : q.2 with
    | nil => exact absurd z2 this
    | cons j p => exact ⟨_, rfl⟩
   ·exact ⟨_, rfl⟩
  obtain ⟨q', hq⟩ := this
  refine ⟨q' :: r, ?_, by simp [h2]⟩
  show (trn n i q).bind _ = _
  rw [hq]
  show (trns n i qs).map _ = _
  rw [h1]
  rfl
noncomputable def wid : List (Nat × List Nat) → Nat
 | [] => 0
 | q :: r => q.2.length + wid r
theorem Zcs {n i : Nat} {q q' : Nat × List Nat} (h : trn n i q = some q') : (q.1 = i ∧ ∃ j p, q.2 = j :: p ∧ q' = (n + j, p)) ∨ (q.1 ≠ i ∧ q' = q) := by
 by_cases z : q.1 = i
 ·have h : trn0 n q.2 = some q' := by rw [← h]; unfold trn; rw [if_pos z]
  refine .inl ⟨z, ?_⟩
  cases z2 : q.2 with
  | nil => rw [z2] at h; cases h
  | cons j p => rw [z2] at h; cases h; exact ⟨j, p, rfl, rfl⟩
 ·have h : some q = some q' := by rw [← h]; unfold trn; rw [if_neg z]
  cases h
  exact .inr ⟨z, rfl⟩
theorem Zja {n i : Nat} : ∀ {qs qs' : List (Nat × List Nat)}, trns n i qs = some qs' → wid qs' ≤ wid qs ∧ ((∃ q ∈ qs, q.1 = i) → wid qs' < wid qs)
 | [], qs', h => by cases h; exact ⟨Nat.le_refl _, fun ⟨_, h, _⟩ => nomatch h⟩
 | q :: qs, qs', h => by
  obtain ⟨q', h1, h2⟩ := bnd h
  obtain ⟨r, h3, rfl⟩ := Option.map_eq_some_iff.mp h2
  obtain ⟨i1, i2⟩ := Zja h3
  rcases Zcs h1 with ⟨z, j, p, e1, rfl⟩ | ⟨z, rfl⟩
  ·simp only [wid, e1, List.length_cons]
   exact ⟨by omega, fun _ => by omega⟩
  ·simp only [wid]
   refine ⟨by omega, fun ⟨q, hq, e⟩ => ?_⟩
   rcases List.mem_cons.mp hq with rfl | hq
   ·exact absurd e z
   ·have := i2 ⟨q, hq, e⟩
    omega
theorem Zq8 {n i : Nat} {a b a' b' : Nat × List Nat} (ha : trn n i a = some a') (hb : trn n i b = some b') (la : a.1 < n) (lb : b.1 < n) (h : djq a b = true) : djq a' b' = true := by
 unfold djq at h ⊢
 rcases Zcs ha with ⟨z1, j, p, e1, rfl⟩ | ⟨z1, rfl⟩ <;> rcases Zcs hb with ⟨z2, j2, p2, e2, rfl⟩ | ⟨z2, rfl⟩
 ·rw [if_pos (z1.trans z2.symm), e1, e2, djp] at h
  by_cases w : j = j2
  ·subst w
   rw [if_pos rfl] at h
   rw [if_pos rfl]
   exact h
  ·rw [if_neg (by dsimp only; omega)]
 ·rw [if_neg (by dsimp only; omega)]
 ·rw [if_neg (by dsimp only; omega)]
 ·exact h
theorem ZiG {n i : Nat} : ∀ {qs qs' : List (Nat × List Nat)}, trns n i qs = some qs' → ∀ q' ∈ qs', ∃ q ∈ qs, trn n i q = some q'
 | [], qs', h, q', hq => by cases h; exact nomatch hq
 | q :: qs, qs', h, q', hq => by
  obtain ⟨q0, h1, h2⟩ := bnd h
  obtain ⟨r, h3, rfl⟩ := Option.map_eq_some_iff.mp h2
  rcases List.mem_cons.mp hq with rfl | hq
  ·exact ⟨q, List.mem_cons_self, h1⟩
  ·obtain ⟨q2, h4, h5⟩ := ZiG h3 q' hq
   exact ⟨q2, List.mem_cons_of_mem _ h4, h5⟩
theorem ZhY {n i : Nat} : ∀ {qs qs' : List (Nat × List Nat)}, trns n i qs = some qs' → (∀ q ∈ qs, q.1 < n) → dja qs = true → dja qs' = true
 | [], qs', h, _, _ => by cases h; rfl
 | q :: qs, qs', h, hl, hd => by
  obtain ⟨q0, h1, h2⟩ := bnd h
  obtain ⟨r, h3, rfl⟩ := Option.map_eq_some_iff.mp h2
  rw [dja, Bool.and_eq_true] at hd ⊢
  refine ⟨List.all_eq_true.mpr fun q' hq' => ?_, ZhY h3 (fun q hq => hl q (List.mem_cons_of_mem _ hq)) hd.2⟩
  obtain ⟨q2, h4, h5⟩ := ZiG h3 q' hq'
  exact Zq8 h1 h5 (hl q List.mem_cons_self) (hl q2 (List.mem_cons_of_mem _ h4)) (List.all_eq_true.mp hd.1 q2 h4)
theorem Zhz {cs : List (Lab × OT)} {j : Nat} : (kidsE cs)[j]? = (cs[j]?).map fun x => some x.2 := by unfold kidsE; rw [List.getElem?_map]
theorem Zns {en : En} {i : Nat} {k : Kd} {cs : List (Lab × OT)} (hi : (en[i]?).join = some (.node k cs)) {q q' : Nat × List Nat} {S : OT} (h : trn en.length i q = some q') (hs : subE en q.1 q.2 = some S) : subE (en.set i none ++ kidsE cs) q'.1 q'.2 = some S := by
 rcases Zcs h with ⟨z, j, p, e, rfl⟩ | ⟨z, rfl⟩
 ·unfold subE at hs ⊢
  rw [z, hi, e] at hs
  have hs : ((cs[j]?).bind fun x => x.2.sub p) = some S := hs
  obtain ⟨x, hx, hs⟩ := bnd hs
  dsimp only
  rw [List.getElem?_append_right (by rw [List.length_set]; omega), List.length_set, Nat.add_sub_cancel_left, Zhz, hx]
  exact hs
 ·unfold subE at hs ⊢
  obtain ⟨T, hT, hs⟩ := bnd hs
  have hl := (List.getElem?_eq_some_iff.mp (ZdX hT)).1
  rw [List.getElem?_append_left (by rw [List.length_set]; exact hl), List.getElem?_set_ne (fun e => z e.symm), hT]
  exact hs
theorem ZhC {en : En} {i : Nat} {k : Kd} {cs : List (Lab × OT)} (hi : (en[i]?).join = some (.node k cs)) : ∀ {qs qs' : List (Nat × List Nat)} {Ss : List OT}, trns en.length i qs = some qs' → subA en qs Ss → subA (en.set i none ++ kidsE cs) qs' Ss
 | [], qs', [], h, _ => by cases h; trivial
 | [], _, _ :: _, _, h => h.elim
 | _ :: _, _, [], _, h => h.elim
 | q :: qs, qs', S :: Ss, h, hs => by
  obtain ⟨q0, h1, h2⟩ := bnd h
  obtain ⟨r, h3, rfl⟩ := Option.map_eq_some_iff.mp h2
  exact ⟨Zns hi h1 hs.1, ZhC hi h3 hs.2⟩
/-- taken apart, and as it was -/
noncomputable def RepE (i : Nat) (k : Kd) (labs : List Lab) (e es : En) : Prop := ∃ cs : List (Lab × OT), (e[i]?).join = some (.node k cs) ∧ cs.map (·.1) = labs ∧ es = e.set i none ++ kidsE cs
theorem ZpC {i : Nat} {k : Kd} {labs : List Lab} {e es : En} (h : RepE i k labs e es) {q q' : Nat × List Nat} (hl : q.1 < e.length) (ht : trn e.length i q = some q') (S : OT) : RepE i k labs (putE1 e q S) (putE1 es q' S) := by
 obtain ⟨cs, h1, h2, rfl⟩ := h
 have hil := (List.getElem?_eq_some_iff.mp (ZdX h1)).1
 rcases Zcs ht with ⟨z, j, p, e1, rfl⟩ | ⟨z, rfl⟩
 ·refine ⟨cs.modify j fun x => (x.1, x.2.put p S), ?_, ?_, ?_⟩
  ·unfold putE1
   rw [z, h1, e1]
   dsimp only
   rw [List.getElem?_set_self hil]
   rfl
  ·rw [← h2]
   apply List.ext_getElem?
   intro m
   rw [List.getElem?_map, List.getElem?_map, List.getElem?_modify]
   by_cases w : j = m
   ·subst w
    cases cs[j]? <;> simp
   ·simp [w]
  ·have eA : (putE1 e q S).set i none = e.set i none := by
    unfold putE1
    rw [z, h1]
    dsimp only
    rw [List.set_set]
   rw [eA]
   unfold putE1
   dsimp only
   rw [List.getElem?_append_right (by rw [List.length_set]; omega), List.length_set, Nat.add_sub_cancel_left, Zhz]
   cases hc : cs[j]? with
   | none =>
    dsimp only [Option.map_none, Option.join_none]
    congr 1
    unfold kidsE
    congr 1
    apply List.ext_getElem?
    intro m
    rw [List.getElem?_modify]
    by_cases w : j = m
    ·subst w; rw [hc]; rfl
    ·simp [w]
   | some x =>
    dsimp only [Option.map_some, Option.join_some]
    rw [List.set_append_right _ _ (by rw [List.length_set]; omega), List.length_set, Nat.add_sub_cancel_left]
    congr 1
    unfold kidsE
    rw [ZcJ _ hc, List.map_set]
 ·refine ⟨cs, ?_, h2, ?_⟩
  ·rw [ZiM z]
   exact h1
  ·unfold putE1
   rw [List.getElem?_append_left (by rw [List.length_set]; exact hl), List.getElem?_set_ne (fun w => z w.symm)]
   cases hc : (e[q'.1]?).join with
   | none => rfl
   | some T =>
    show (e.set i none ++ kidsE cs).set q'.1 (some (T.put q'.2 S)) = (e.set q'.1 (some (T.put q'.2 S))).set i none ++ kidsE cs
    rw [List.set_append_left _ _ (by rw [List.length_set]; exact hl), List.set_comm _ _ (fun w => z w.symm)]
theorem ZhS {i : Nat} {k : Kd} {labs : List Lab} : ∀ {qs qs' : List (Nat × List Nat)} {Ss : List OT} {e es : En}, trns e.length i qs = some qs' → (∀ q ∈ qs, q.1 < e.length) → RepE i k labs e es → RepE i k labs (putA qs Ss e) (putA qs' Ss es)
 | [], qs', Ss, e, es, h, _, hr => by cases h; unfold putA; exact hr
 | q :: qs, qs', [], e, es, h, _, hr => by
  obtain ⟨q0, h1, h2⟩ := bnd h
  obtain ⟨r, h3, rfl⟩ := Option.map_eq_some_iff.mp h2
  unfold putA
  exact hr
 | q :: qs, qs', S :: Ss, e, es, h, hl, hr => by
  obtain ⟨q0, h1, h2⟩ := bnd h
  obtain ⟨r, h3, rfl⟩ := Option.map_eq_some_iff.mp h2
  rw [putA, putA]
  exact ZpC (ZhS h3 (fun q hq => hl q (List.mem_cons_of_mem _ hq)) hr) (by rw [Zed]; exact hl q List.mem_cons_self) (by rw [Zed]; exact h1) S
theorem Zmw {i n : Nat} {k : Kd} {labs : List Lab} {e es : En} (h : RepE i k labs e es) (hn : n = e.length) : impl n i k labs es = some e := by
 obtain ⟨cs, h1, h2, rfl⟩ := h
 have hi := ZdX h1
 have hil := (List.getElem?_eq_some_iff.mp hi).1
 unfold impl
 have e1 : (e.set i none ++ kidsE cs).drop n = kidsE cs := by rw [hn, ← List.length_set (i := i) (a := (none : Option OT)), List.drop_left']; rfl
 have e2 : (e.set i none ++ kidsE cs).take n = e.set i none := by rw [hn, ← List.length_set (i := i) (a := (none : Option OT)), List.take_left']; rfl
 rw [e1, Ze8, e2, ← h2]
 show some _ = _
 dsimp only
 rw [ZfO, List.set_set]
 congr 1
 apply List.ext_getElem?
 intro m
 rw [List.getElem?_set]
 split
 ·rename_i w; subst w; first | rw [if_pos hil, hi] | exact hi.symm
 ·rfl
theorem ZjJ {en : En} : ∀ {qs : List (Nat × List Nat)} {Ss : List OT}, subA en qs Ss → ∀ q ∈ qs, q.1 < en.length
 | [], [], _, _, h => nomatch h
 | [], _ :: _, h, _, _ => h.elim
 | _ :: _, [], h, _, _ => h.elim
 | q :: qs, S :: Ss, h, x, hx => by
  rcases List.mem_cons.mp hx with rfl | hx
  ·obtain ⟨T, hT, _⟩ := bnd h.1
   exact (List.getElem?_eq_some_iff.mp (ZdX hT)).1
  ·exact ZjJ h.2 x hx
theorem Zpe {p : List Nat} : djp p [] = false := by cases p <;> rfl
theorem Znq {p : List Nat} : djp [] p = false := by cases p <;> rfl
theorem ZlI : ∀ {qs : List (Nat × List Nat)} {q0 : Nat × List Nat} {j : Nat} {p : List Nat}, dja qs = true → q0 ∈ qs → q0.2 = j :: p → ∀ q ∈ qs, q.1 = q0.1 → q.2 ≠ []
 | q1 :: qs, q0, j, p, hd, h0, e0, q, hq, e, z => by
  rw [dja, Bool.and_eq_true] at hd
  have ha := List.all_eq_true.mp hd.1
  rcases List.mem_cons.mp h0 with rfl | h0' <;> rcases List.mem_cons.mp hq with rfl | hq'
  ·rw [e0] at z; cases z
  ·have := ha q hq'
   unfold djq at this
   rw [if_pos e.symm, z, Zpe] at this
   cases this
  ·have := ha q0 h0'
   unfold djq at this
   rw [if_pos e, z, Znq] at this
   cases this
  ·exact ZlI hd.2 h0' e0 q hq' e z
theorem ZlJ {en : En} {i j : Nat} {p : List Nat} {S : OT} (h : subE en i (j :: p) = some S) : ∃ k cs, (en[i]?).join = some (.node k cs) := by
 obtain ⟨T, h1, h2⟩ := bnd h
 cases T with
 | leaf d => cases h2
 | node k cs => exact ⟨k, cs, h1⟩
theorem Zjf {en : En} : ∀ {qs : List (Nat × List Nat)} {Ss : List OT}, subA en qs Ss → ∀ q ∈ qs, ∃ S, subE en q.1 q.2 = some S
 | [], [], _, _, h => nomatch h
 | [], _ :: _, h, _, _ => h.elim
 | _ :: _, [], h, _, _ => h.elim
 | q :: qs, S :: Ss, h, x, hx => by
  rcases List.mem_cons.mp hx with rfl | hx
  ·exact ⟨S, h.1⟩
  ·exact Zjf h.2 x hx
theorem Zif {fd : FD} {ds : List PyData} {r : Rx OT} {Ss Ss' rest : List OT} (hf : fd (Ss ++ ds.map OT.leaf) = some (r, Ss' ++ rest)) : ∀ {f : Nat} {qs : List (Nat × List Nat)} {en : En}, wid qs < f → dja qs = true → subA en qs Ss → Ss'.length = qs.length → callP fd ds f qs en = some (r, putA qs Ss' en)
 | 0, _, _, h, _, _, _ => absurd h (Nat.not_lt_zero _)
 | f + 1, qs, en, hw, hd, hs, hl => by
  unfold callP
  cases hn : fstNE qs with
  | none =>
   obtain ⟨e2, h1, h2⟩ := Zi9 hn hd hs
   show callC fd ds (qs.map (·.1)) en = _
   unfold callC
   rw [h1]
   show (fd (Ss ++ ds.map OT.leaf)).bind _ = _
   rw [hf]
   cases r <;> exact congrArg some (congrArg _ (h2 Ss' rest hl))
  | some i =>
   obtain ⟨q0, hq0, e0, j, p, e1⟩ := Zlk hn
   obtain ⟨S0, hS0⟩ := Zjf hs q0 hq0
   rw [e0, e1] at hS0
   obtain ⟨k, cs, hi⟩ := ZlJ hS0
   have hne := ZlI hd hq0 e1
   rw [e0] at hne
   obtain ⟨qs', ht, hl'⟩ := Zkc (n := en.length) hne
   have hlt := ZjJ hs
   have hw' := (Zja ht).2 ⟨q0, hq0, e0⟩
   have ih := Zif hf (f := f) (qs := qs') (en := en.set i none ++ kidsE cs) (by omega) (ZhY ht hlt hd) (ZhC hi ht hs) (by rw [hl, hl'])
   dsimp only
   rw [hi]
   dsimp only
   rw [ht, Option.bind_some, ih, Option.bind_some]
   have hr := ZhS (k := k) (labs := cs.map (·.1)) (Ss := Ss') ht hlt ⟨cs, hi, rfl, rfl⟩
   rw [Zmw hr (by rw [Zed])]
   rfl
theorem Zma {fd : FD} {pls : List FP} {w : DE → Option (List PyData)} {en : En} {QN : Ke (Rx OT)} (qs : List (Nat × List Nat)) (Ss Ss' rest : List OT) (ds : List PyData) (r : Rx OT) (hq : posA pls en = some qs) (hs : subA en qs Ss) (hd : dja qs = true) (hw : wid qs < 12) (hds : w (strong en) = some ds) (hf : fd (Ss ++ ds.map OT.leaf) = some (r, Ss' ++ rest)) (hl : Ss'.length = qs.length) (k : QN.q r (putA qs Ss' en)) : @Ru _ (nCallP fd pls w) en QN :=
 ⟨r, _, by unfold nCallP; rw [hq, Option.bind_some, hds, Option.bind_some]; exact Zif hf hw hd hs hl, k⟩
theorem Zqb {C : Addr} {m : Str} {fd : FD} {pl : FP} {w : DE → Option (List PyData)} {en : En} {QN : Ke (Rx OT)} : @Ru _ (nAskP C m fd pl w) en QN = @og _ (pl en) ⟨fun q => @gd (insNoP en q C m = true) ⟨@Ru _ (nCallP fd [pl] w) en QN⟩⟩ := by
 refine propext ⟨?_, ?_⟩
 ·rintro ⟨r, e, h, q⟩
  obtain ⟨p, h1, h2⟩ := bnd h
  split at h2
  ·exact ⟨p, h1, by assumption, r, e, h2, q⟩
  ·cases h2
 ·rintro ⟨p, h1, h2, r, e, h, q⟩
  exact ⟨r, e, by unfold nAskP; rw [h1, Option.bind_some, if_pos h2]; exact h, q⟩
end Kb
namespace Kb
open PySem L2 Evl
theorem ZoL {x : FX} {en : En} {Q : Ke (Rx OT)} : @Ru _ (nDctX x) en Q = @Ru _ x en ⟨cX (fun d e => @og _ (dctT d) ⟨fun T => Q.q (.ok T) e⟩) Q.q⟩ := by
 refine propext ⟨?_, ?_⟩
 ·rintro ⟨r, e, h, q⟩
  unfold nDctX at h
  rcases Zn h with ⟨d, e1, h1, h2⟩ | ⟨C, h1, rfl⟩
  ·obtain ⟨T, hT, rfl, rfl⟩ := Zx h2
   exact ⟨_, _, h1, T, hT, q⟩
  ·exact ⟨_, _, h1, q⟩
 ·rintro ⟨r, e, h, q⟩
  cases r with
  | ok d =>
   obtain ⟨T, hT, q⟩ := q
   exact ⟨_, _, by unfold nDctX; rw [h]; show okx e (dctT d) = _; rw [hT]; rfl, q⟩
  | ex C => exact ⟨_, _, by unfold nDctX; rw [h]; rfl, q⟩
section
variable {α : Type} {f : α → PyData} {l : List (Key × α)}
theorem ZnV (k : Key) : keyOf (keyD k) = some k := ZbQ k
theorem Zn7 : dctT (dM f l) = some (.node .dct (dT f l)) := by
 unfold dctT dM
 dsimp only
 rw [if_pos Zdd]
 unfold leafK dT
 rw [List.map_map]
 congr 2
 apply List.map_congr_left
 intro x _
 show (Lab.key ((keyOf (keyD x.1)).getD _), _) = _
 rw [ZnV]
 rfl
end
end Kb
namespace Kb
open PySem L2 Evl
theorem ZW {n : FN} {r : FM} {en : En} {QM : Ke (Rx (List Itm))} : @Ru _ (aConsM n r) en QM = @Ru _ n en ⟨cX (fun T e1 => @Ru _ r e1 ⟨cX (fun Ts e2 => QM.q (.ok (.t T :: Ts)) e2) QM.q⟩) QM.q⟩ := by
 refine propext ⟨?_, ?_⟩
 ·rintro ⟨a, e', h, q⟩
  rcases Zn h with ⟨T, e1, h1, h2⟩ | ⟨C, h1, rfl⟩
  ·rcases Zn h2 with ⟨Ts, e2, h3, h4⟩ | ⟨C, h3, rfl⟩
   ·cases h4
    exact ⟨.ok T, e1, h1, .ok Ts, _, h3, q⟩
   ·exact ⟨.ok T, e1, h1, .ex C, e', h3, q⟩
  ·exact ⟨.ex C, e', h1, q⟩
 ·rintro ⟨a, e1, h1, q⟩
  cases a with
  | ex C => exact ⟨.ex C, e1, by unfold aConsM; rw [h1]; rfl, q⟩
  | ok T =>
   obtain ⟨b, e2, h2, q⟩ := q
   cases b with
   | ex C => exact ⟨.ex C, e2, by unfold aConsM; rw [h1]; show bx (r e1) _ = _; rw [h2]; rfl, q⟩
   | ok Ts => exact ⟨.ok (.t T :: Ts), e2, by unfold aConsM; rw [h1]; show bx (r e1) _ = _; rw [h2]; rfl, q⟩
theorem ZaQ {T : OT} {its : List Itm} {en : En} {K : Kt (List OT × En)} : @og _ (mkIts (.t T :: its) en) K = @og _ (mkIts its en) ⟨fun q => K.q (T :: q.1, q.2)⟩ := Z4
end Kb
namespace Kb
open PySem L2 Evl
theorem ZgW {C : Addr} {m : Str} {f : FD} {x : FX} {en : En} {QN : Ke (Rx OT)} : @Ru _ (nAskT C m (noX f) x (aS aNil)) en QN = @Ru _ x en ⟨cX (fun d e1 => @gd (isI C m d = true) ⟨@og _ (f [.leaf d]) ⟨kN fun R _ => QN.q (.ok R) e1⟩⟩) QN.q⟩ := by
 refine propext ⟨?_, ?_⟩
 ·rintro ⟨r, e', h, q⟩
  unfold nAskT at h
  rcases Zn h with ⟨d, e1, h1, h2⟩ | ⟨C', h1, rfl⟩
  ·refine ⟨.ok d, e1, h1, ?_⟩
   split at h2
   case isFalse => cases h2
   rename_i hi
   obtain ⟨⟨r1, as⟩, hf, h6⟩ := bnd (show ((noX f ([] ++ [d].map OT.leaf)).bind _) = _ from h2)
   obtain ⟨hf0, R0, hR0⟩ := ZJ hf
   cases hR0
   cases h6
   refine ⟨hi, _, hf0, ?_⟩
   cases as <;> exact q
  ·exact ⟨.ex C', e', h1, q⟩
 ·rintro ⟨r, e1, h1, q⟩
  cases r with
  | ex C' => exact ⟨.ex C', e1, by unfold nAskT; rw [h1]; rfl, q⟩
  | ok d =>
   obtain ⟨hi, ⟨r1, as⟩, hf, q⟩ := q
   cases r1 with
   | ex C' => exact q.elim
   | ok R =>
    refine ⟨.ok R, e1, ?_, q⟩
    unfold nAskT
    rw [h1]
    show (if isI C m d = true then _ else _) = _
    rw [if_pos hi]
    show ((noX f ([] ++ [d].map OT.leaf)).bind _) = _
    unfold noX
    show (((f [.leaf d]).bind _).bind _) = _
    rw [hf]
    cases as <;> rfl
theorem ZbC {C : Addr} {m : Str} {f : FD} {n : FN} {en : En} {QN : Ke (Rx OT)} : @Ru _ (nAskNew C m (noX f) n) en QN = @Ru _ n en ⟨cX (fun T e1 => @gd (insNo [some T] 0 C m = true) ⟨@og _ (f [T]) ⟨kN fun R _ => QN.q (.ok R) e1⟩⟩) QN.q⟩ := by
 have tl : ∀ (as : List OT) (e1 : En), (putE [0] as (none :: e1)).tail = e1 := fun as e1 => by cases as <;> rfl
 refine propext ⟨?_, ?_⟩
 ·rintro ⟨r, e', h, q⟩
  unfold nAskNew at h
  rcases Zn h with ⟨T, e1, h1, h2⟩ | ⟨C', h1, rfl⟩
  ·refine ⟨.ok T, e1, h1, ?_⟩
   split at h2
   case isFalse => cases h2
   rename_i hi
   obtain ⟨⟨r1, as⟩, hf, h6⟩ := bnd (show ((noX f ([T] ++ [])).bind _) = _ from h2)
   obtain ⟨hf0, R0, hR0⟩ := ZJ hf
   cases hR0
   have h6 : some (Rx.ok R0, (putE [0] as (none :: e1)).tail) = some (r, e') := h6
   rw [tl] at h6
   cases h6
   exact ⟨hi, _, hf0, q⟩
  ·exact ⟨.ex C', e', h1, q⟩
 ·rintro ⟨r, e1, h1, q⟩
  cases r with
  | ex C' => exact ⟨.ex C', e1, by unfold nAskNew; rw [h1]; rfl, q⟩
  | ok T =>
   obtain ⟨hi, ⟨r1, as⟩, hf, q⟩ := q
   cases r1 with
   | ex C' => exact q.elim
   | ok R =>
    refine ⟨.ok R, e1, ?_, q⟩
    unfold nAskNew
    rw [h1]
    show (if insNo [some T] 0 C m = true then _ else _) = _
    rw [if_pos hi]
    show ((noX f ([T] ++ [])).bind _) = _
    unfold noX
    show (((f [T]).bind _).bind _) = _
    rw [hf]
    show some (Rx.ok R, (putE [0] as (none :: e1)).tail) = _
    rw [tl]
theorem Zju {f : FD} {i : Nat} {n : FN} {en : En} {QN : Ke (Rx OT)} : @Ru _ (nCallNew2 (noX f) i n) en QN = @gd (∃ T0, (en[i]?).join = some T0) ⟨@Ru _ n en ⟨cX (fun T e1 => @og _ (e1[i]?.join) ⟨fun A => @og _ (f [A, T]) ⟨kN fun R as => QN.q (.ok R) (putE [i + 1, 0] as (none :: e1.set i none)).tail⟩⟩) QN.q⟩⟩ := by
 have pl : ∀ (T : OT) (e1 : En), pullE [i + 1, 0] (some T :: e1) = ((e1[i]?).join).map fun A => ([A, T], none :: e1.set i none) := fun T e1 => by
  show (((e1[i]?).join).bind fun A => ((some T).bind fun T => (some ([], ((some T :: e1 : En).set (i + 1) none).set 0 none)).map fun r => (T :: r.1, r.2)).map fun r => (A :: r.1, r.2)) = _
  cases (e1[i]?).join <;> rfl
 refine propext ⟨?_, ?_⟩
 ·rintro ⟨r, e', h, q⟩
  unfold nCallNew2 at h
  obtain ⟨T0, h0, h⟩ := bnd h
  refine ⟨⟨T0, h0⟩, ?_⟩
  rcases Zn h with ⟨T, e1, h1, h2⟩ | ⟨C', h1, rfl⟩
  ·refine ⟨.ok T, e1, h1, ?_⟩
   rw [pl] at h2
   obtain ⟨r0, hr0, h2⟩ := bnd h2
   obtain ⟨A, hA, hr0⟩ := Option.map_eq_some_iff.mp hr0
   cases hr0
   obtain ⟨⟨r1, as⟩, hf, h6⟩ := bnd (show ((noX f ([A, T] ++ [])).bind _) = _ from h2)
   obtain ⟨hf0, R0, hR0⟩ := ZJ hf
   cases hR0
   cases h6
   exact ⟨A, hA, _, hf0, q⟩
  ·exact ⟨.ex C', e', h1, q⟩
 ·rintro ⟨⟨T0, h0⟩, r, e1, h1, q⟩
  cases r with
  | ex C' => exact ⟨.ex C', e1, by unfold nCallNew2; rw [h0, Option.bind_some, h1]; rfl, q⟩
  | ok T =>
   obtain ⟨A, hA, ⟨r1, as⟩, hf, q⟩ := q
   cases r1 with
   | ex C' => exact q.elim
   | ok R =>
    refine ⟨.ok R, _, ?_, q⟩
    unfold nCallNew2
    rw [h0, Option.bind_some, h1]
    show ((pullE [i + 1, 0] (some T :: e1)).bind _) = _
    rw [pl, hA]
    show ((noX f ([A, T] ++ [])).bind _) = _
    unfold noX
    show (((f [A, T]).bind _).bind _) = _
    rw [hf]
    rfl
noncomputable def kTup2 (P : OT → OT → Prop) : OT → Prop
 | .node .tup [(_, A), (_, B)] => P A B
 | _ => False
theorem Znk {P : OT → OT → Prop} {l l2 : Lab} {A B : OT} : kTup2 P (.node .tup [(l, A), (l2, B)]) = P A B := id rfl
theorem ZpM {i j : Nat} {n : FN} {en : En} {Q : Ke Ot} : @Ru _ (sUnp2 i j n) en Q = @Ru _ n en ⟨cO (fun T e1 => kTup2 (fun A B => Q.q .nx ((e1.set i (some A)).set j (some B))) T) Q.q⟩ := by
 refine propext ⟨?_, ?_⟩
 ·rintro ⟨o, e, h, q⟩
  rcases Zw h with ⟨T, e1, h1, h2⟩ | ⟨C, h1, rfl⟩
  ·refine ⟨.ok T, e1, h1, ?_⟩
   split at h2
   case h_2 => cases h2
   cases h2
   exact q
  ·exact ⟨.ex C, e, h1, q⟩
 ·rintro ⟨r, e1, h1, q⟩
  cases r with
  | ex C => exact ⟨.ex C, e1, by unfold sUnp2; rw [h1]; rfl, q⟩
  | ok T =>
   have q : kTup2 (fun A B => Q.q .nx ((e1.set i (some A)).set j (some B))) T := q
   unfold kTup2 at q
   split at q
   case h_2 => exact q.elim
   exact ⟨.nx, _, by unfold sUnp2; rw [h1]; rfl, q⟩
end Kb
namespace Kb
open PySem L2 Evl
noncomputable def ret0 (np : Nat) (r : Rx OT) : Ot → En → Prop
 | .rt T, e => r = .ok T ∧ np ≤ e.length
 | .nx, e => r = .ok (.leaf .none) ∧ np ≤ e.length
 | .ex C, e => r = .ex C ∧ np ≤ e.length
 | _, _ => False
theorem Z1 {np : Nat} {r : Rx OT} {T : OT} {e : En} : ret0 np r (.rt T) e = (r = .ok T ∧ np ≤ e.length) := id rfl
theorem ZhT : ∀ {ds : List PyData} {e : En} {kp : Nat → Bool}, (∀ i, kp i = false) → ds.length ≤ e.length → takeA kp (ds.map OT.leaf) e = some (ds.map OT.leaf)
 | [], _, _, _, _ => by simp [takeA]
 | d :: ds, [], _, _, h => by simp at h
 | d :: ds, o :: e, kp, hk, h => by
  rw [List.map_cons]
  unfold takeA
  rw [if_neg (by rw [hk 0]; decide)]
  dsimp only
  rw [ZhT (fun i => hk (i + 1)) (by simpa using h)]
  rfl
theorem Zfj {np n : Nat} {s : FS} {ds : List PyData} {r : Rx OT} (h : @Ru _ s (start0 n (ds.map OT.leaf)) ⟨ret0 np r⟩) (hl : ds.length = np := by rfl) : fnI np n (fun i => Nat.blt i 0) s (ds.map OT.leaf) = some (r, ds.map OT.leaf) := by
 obtain ⟨o, e, h1, h2⟩ := h
 have ht : np ≤ e.length → takeA (fun i => Nat.blt i 0) (ds.map OT.leaf) e = some (ds.map OT.leaf) := fun b => ZhT (fun i => by cases i <;> rfl) (by omega)
 unfold fnI
 rw [if_pos (by rw [List.length_map]; exact hl), h1]
 cases o with
 | rt R => obtain ⟨rfl, b⟩ := h2; dsimp only; rw [ht b]; rfl
 | nx => obtain ⟨rfl, b⟩ := h2; dsimp only; rw [ht b]; rfl
 | ex C => obtain ⟨rfl, b⟩ := h2; dsimp only; rw [ht b]; rfl
 | bk => exact h2.elim
 | ct => exact h2.elim
end Kb
namespace Kb
open PySem L2 Evl
theorem Zl7 {f : FD} {A : FA} {en : En} {QN : Ke (Rx OT)} : @Ru _ (nCallI (noX f) [] A) en QN = @Ru _ A en ⟨cX (fun ds e => @og _ (f (ds.map OT.leaf)) ⟨kN fun R _ => QN.q (.ok R) e⟩) QN.q⟩ := by
 refine propext ⟨?_, ?_⟩
 ·rintro ⟨r, e', h, q⟩
  have h : (bx (A en) fun ds e1 => (pullE [] e1).bind fun r => (noX f (r.1 ++ ds.map OT.leaf)).bind fun q => match q.1 with
   | .ok T => some (Rx.ok T, putE [] q.2 r.2)
   | .ex C => some (.ex C, putE [] q.2 r.2)) = some (r, e') := h
  rcases Zn h with ⟨ds, e1, h1, h2⟩ | ⟨C', h1, rfl⟩
  ·refine ⟨.ok ds, e1, h1, ?_⟩
   obtain ⟨⟨r1, as⟩, hf, h6⟩ := bnd (show ((noX f ([] ++ ds.map OT.leaf)).bind _) = _ from h2)
   obtain ⟨hf0, R0, hR0⟩ := ZJ hf
   cases hR0
   cases h6
   refine ⟨_, hf0, ?_⟩
   cases as <;> exact q
  ·exact ⟨.ex C', e', h1, q⟩
 ·rintro ⟨r, e1, h1, q⟩
  cases r with
  | ex C' => exact ⟨.ex C', e1, by show bx (A en) _ = _; rw [h1]; rfl, q⟩
  | ok ds =>
   obtain ⟨⟨r1, as⟩, hf, q⟩ := q
   cases r1 with
   | ex C' => exact q.elim
   | ok R =>
    refine ⟨.ok R, e1, ?_, q⟩
    show bx (A en) _ = _
    rw [h1]
    show ((noX f ([] ++ ds.map OT.leaf)).bind _) = _
    unfold noX
    show (((f (ds.map OT.leaf)).bind _).bind _) = _
    rw [hf]
    cases as <;> rfl
end Kb
namespace Kb
open PySem PySem.Spec PyProof.Rows L2
section
variable {h : Hd} {K : PySem.W.Frag} {w : World} {hp : Heap} {mg : Str → Option Value}
structure Hd.Ok (h : Hd) (K : PySem.W.Frag) (w : World) : Prop where
 al : ∀ p ∈ h.al, He.eqO (PySem.W.nsIn K mainGlobals p.1) (some (some (.ref (He.ga K p.2)))) = true
 g : ∀ x ∈ h.g, gB K x = true
 m : ∀ x ∈ h.m, mB K x = true
 c : ∀ x ∈ h.c, cB K x = true
 n : ∀ p ∈ h.n, He.eqO (PySem.W.findIn K (.ref (He.ga K p.1)) p.2) (some none) = true
 x : ∀ x ∈ h.x, xB K x = true
 e : ∀ x ∈ h.e, eB K x = true
 b : h.b = true → bB K = true ∧ ((He.ga K "BlockError") :: h.e.map (He.ga K)).Nodup
 i : ∀ p ∈ h.i, (He.Fa.int p.1 p.2).ok K = true
 s : ∀ p ∈ h.s, (He.Fa.str p.1 p.2).ok K = true
 t : ∀ p ∈ h.t, He.tupB K p.1 (p.2.map He.Dv.int) = true
 d : ∀ p ∈ h.d, tabAtB K p.1 p.2 = true
 f : ∀ x ∈ h.f, (He.Fa.free x).ok K = true
 fn : ∀ d ∈ h.fn, ((He.Fa.code d.at_ d.qual).ok K && PySem.W.keepIn K (.ref (He.fAd K d.at_))) = true ∧ He.fnObs K d.at_ = d.val
 tb : ∀ p ∈ h.d, He.dicW K (He.ga K p.1) = some (He.keysIn w.params (p.2.map fun q => Str.ofString q.1))
theorem Zh2 {α β : Type} {f g : α → β} : ∀ {l : List α}, l.map f = l.map g → ∀ a ∈ l, f a = g a
 | b :: r, e, a, h => by
  obtain ⟨e1, e2⟩ := List.cons.inj e
  cases h with
  | head => exact e1
  | tail _ h => exact Zh2 e2 a h
theorem Hd.ok (c : h.obs K = h.val w) : h.Ok K w := by
 have c1 : h.chk K = true := congrArg (fun z : AlX => z.1) c
 have c2 : h.fn.map (fun d => He.fnObs K d.at_) = h.fn.map He.FnD.val := congrArg (fun z : AlX => z.2.1) c
 have c3 : h.d.map (fun t => He.dicW K (He.ga K t.1)) = h.d.map fun t => some (He.keysIn w.params (t.2.map fun q => Str.ofString q.1)) := congrArg (fun z : AlX => z.2.2) c
 unfold Hd.chk at c1
 obtain ⟨a0, c1⟩ := He.ba c1
 obtain ⟨a1, c1⟩ := He.ba c1
 obtain ⟨a2, c1⟩ := He.ba c1
 obtain ⟨a3, c1⟩ := He.ba c1
 obtain ⟨a4, c1⟩ := He.ba c1
 obtain ⟨a5, c1⟩ := He.ba c1
 obtain ⟨a6, c1⟩ := He.ba c1
 obtain ⟨a7, c1⟩ := He.ba c1
 obtain ⟨a8, c1⟩ := He.ba c1
 obtain ⟨a9, c1⟩ := He.ba c1
 obtain ⟨a10, c1⟩ := He.ba c1
 obtain ⟨a11, c1⟩ := He.ba c1
 obtain ⟨a12, a13⟩ := He.ba c1
 refine ⟨List.all_eq_true.mp a0, List.all_eq_true.mp a1, List.all_eq_true.mp a2, List.all_eq_true.mp a3, List.all_eq_true.mp a4, List.all_eq_true.mp a5, List.all_eq_true.mp a6, fun hb => ?_, List.all_eq_true.mp a8, List.all_eq_true.mp a9, List.all_eq_true.mp a10, List.all_eq_true.mp a11, List.all_eq_true.mp a12, fun d hd => ⟨List.all_eq_true.mp a13 d hd, Zh2 c2 d hd⟩, Zh2 c3⟩
 rw [hb] at a7
 obtain ⟨b1, b2⟩ := He.ba (show (bB K && decide (((He.ga K "BlockError") :: h.e.map (He.ga K)).Nodup)) = true from a7)
 exact ⟨b1, of_decide_eq_true b2⟩
theorem Zai {α : Type} {l : List α} {i : Nat} {a : α} (e : l[i]? = some a) : a ∈ l := List.mem_of_getElem? e
theorem Hd.Ok.glo (c : h.Ok K w) (X : K.In hp) (G : hp.Ns mainGlobals mg) (i : Nat) {x : Str} (e : h.g[i]? = some x) : mg x = some (.ref (He.ga K x)) := PySem.W.mg_of X G (He.eqO_ok (c.g x (Zai e)))
theorem Hd.Ok.free (c : h.Ok K w) (X : K.In hp) (G : hp.Ns mainGlobals mg) (i : Nat) {x : Str} (e : h.f[i]? = some x) : mg x = none := He.free_ok X G (c.f x (Zai e))
theorem Hd.Ok.fun_ (c : h.Ok K w) (i : Nat) {p : Str × Option Str} {x q : Str} (st : Stmt) (e : h.fn[i]? = some ⟨p, x, q, defArgs st, defBody st, defScope st⟩) : ∃ fd, L2.Fun K x q st (He.fAd K p) fd := by
 obtain ⟨c1, c2⟩ := c.fn _ (Zai e)
 obtain ⟨c3, c4⟩ := He.ba c1
 obtain ⟨oc, od, osl, kV, doc, pm, an, cdv, ct, l, k⟩ := He.fn_ok (d := ⟨p, x, q, defArgs st, defBody st, defScope st⟩) c2 c3
 exact ⟨_, L2.fun_mk l k c4⟩
theorem Hd.Ok.funG (c : h.Ok K w) (i : Nat) {x : Str} (st : Stmt) (e : h.fn[i]? = some (fnG x st)) : ∃ fd, L2.Fun K x x st (He.ga K x) fd := c.fun_ i st e
theorem Hd.Ok.funM (c : h.Ok K w) (i : Nat) {C m q : Str} (st : Stmt) (e : h.fn[i]? = some (fnM C m q st)) : ∃ fd, L2.Fun K m q st (He.ma K (He.ga K C) m) fd := c.fun_ i st e
theorem Hd.Ok.lawF (c : h.Ok K w) (i : Nat) {x : Str} (st : Stmt) (e : h.fn[i]? = some (fnG x st)) : ∃ (kV doc pm : Value) (an : Option Addr) (cdv ct : Value), L2.Fun K x x st (He.ga K x) (PySem.W.fnOf x x (defArgs st) (defBody st) (defScope st) .none kV doc pm an cdv ct) := by
 obtain ⟨c1, c2⟩ := c.fn _ (Zai e)
 obtain ⟨c3, c4⟩ := He.ba c1
 obtain ⟨oc, od, osl, kV, doc, pm, an, cdv, ct, l, k⟩ := He.fn_ok (d := fnG x st) c2 c3
 exact ⟨kV, doc, pm, an, cdv, ct, L2.fun_mk l k c4⟩
theorem Hd.Ok.cls (c : h.Ok K w) (i : Nat) {x : Str} (e : h.c[i]? = some x) : Cls K (He.ga K x) := He.cls_ok (He.ba (c.c x (Zai e))).1
theorem Hd.Ok.mks (c : h.Ok K w) (i : Nat) {x : Str} (e : h.c[i]? = some x) : PySem.W.makesIn K (He.ga K x) = true := (He.ba (He.ba (c.c x (Zai e))).2).1
theorem Hd.Ok.kc (c : h.Ok K w) (i : Nat) {x : Str} (e : h.c[i]? = some x) : PySem.W.keepIn K (.ref (He.ga K x)) = true := (He.ba (He.ba (c.c x (Zai e))).2).2
theorem Hd.Ok.mA (c : h.Ok K w) (i : Nat) {x m : Str} (e : h.m[i]? = some (x, m)) : PySem.W.findIn K (.ref (He.ga K x)) m = some (some (.ref (He.ma K (He.ga K x) m))) := He.eqO_ok (He.ba (c.m _ (Zai e))).1
theorem Hd.Ok.mF (c : h.Ok K w) (i : Nat) {x m : Str} (e : h.m[i]? = some (x, m)) : PySem.W.isFn K (.ref (He.ma K (He.ga K x) m)) = true := (He.ba (c.m _ (Zai e))).2
theorem Hd.Ok.no (c : h.Ok K w) (i : Nat) {x f : Str} (e : h.n[i]? = some (x, f)) : PySem.W.findIn K (.ref (He.ga K x)) f = some none := He.eqO_ok (c.n _ (Zai e))
theorem Hd.Ok.exc (c : h.Ok K w) (X : K.In hp) (G : hp.Ns mainGlobals mg) (j : Nat) (i : Nat) {x : Str} (eg : h.g[j]? = some x) (e : h.x[i]? = some x) : ExC K mg x (He.ga K x) := by
 obtain ⟨c1, c2⟩ := He.ba (c.x x (Zai e))
 obtain ⟨c3, c4⟩ := He.ba c2
 obtain ⟨d1, d2, d3, d4⟩ := He.exc_ok c1
 exact ⟨c.glo X G j eg, d1, d2, d3, d4, Zh3 d3 c3 d4 (of_decide_eq_true c4)⟩
theorem Hd.Ok.base (c : h.Ok K w) (X : K.In hp) (G : hp.Ns mainGlobals mg) (j : Nat) (eg : h.g[j]? = some "BlockError") (e : h.b = true) : EBase K mg (He.ga K "BlockError") := by
 obtain ⟨c1, c2⟩ := He.ba (c.b e).1
 obtain ⟨c3, c4⟩ := He.ba c2
 obtain ⟨c5, _⟩ := He.ba c4
 exact ⟨c.glo X G j eg, c1, of_decide_eq_true c3, of_decide_eq_true c5⟩
theorem Hd.Ok.nd (c : h.Ok K w) (e : h.b = true) : ((He.ga K "BlockError") :: h.e.map (He.ga K)).Nodup := (c.b e).2
theorem Hd.Ok.eb (c : h.Ok K w) (X : K.In hp) (G : hp.Ns mainGlobals mg) (j : Nat) (i : Nat) {x : Str} (eg : h.g[j]? = some x) (e : h.e[i]? = some x) (eb : h.b = true) : EB K mg (He.ga K "BlockError") x (He.ga K x) := by
 obtain ⟨c1, c2⟩ := He.ba (c.e x (Zai e))
 obtain ⟨c3, c4⟩ := He.ba c2
 obtain ⟨c5, c6⟩ := He.ba c4
 obtain ⟨c7, c8⟩ := He.ba c6
 obtain ⟨c9, c10⟩ := He.ba c8
 obtain ⟨d1, d2, d3, d4⟩ := He.exc_ok c1
 obtain ⟨_, k2⟩ := He.ba (c.b eb).1
 obtain ⟨_, k4⟩ := He.ba k2
 obtain ⟨_, k6⟩ := He.ba k4
 obtain ⟨k7, k8⟩ := He.ba k6
 cases q : PySem.W.clsIn K (He.ga K x) with
 | none =>
  rw [q] at c3
  cases c3
 | some cd =>
  rw [q] at c3
  exact Ztw (c.glo X G j eg) d1 d2 q (of_decide_eq_true c3) d4 (He.eqO_ok c5) (He.eqO_ok c7) c9 (He.eqO_ok c10) (He.eqO_ok k7) (of_decide_eq_true k8)
theorem Hd.Ok.int (c : h.Ok K w) (X : K.In hp) (G : hp.Ns mainGlobals mg) (i : Nat) {x : Str} {z : Int} (e : h.i[i]? = some (x, z)) : GlV mg x (.int z) := by
 obtain ⟨t, e1⟩ := He.int_ok X G (c.i _ (Zai e))
 exact ⟨_, e1, ⟨t, rfl⟩⟩
theorem Hd.Ok.str (c : h.Ok K w) (X : K.In hp) (G : hp.Ns mainGlobals mg) (i : Nat) {x z : Str} (e : h.s[i]? = some (x, z)) : GlV mg x (.str z) := by
 obtain ⟨t, e1⟩ := He.str_ok X G (c.s _ (Zai e))
 exact ⟨_, e1, ⟨t, rfl⟩⟩
theorem Hd.Ok.tup (c : h.Ok K w) (X : K.In hp) (G : hp.Ns mainGlobals mg) (j : Nat) (i : Nat) {x : Str} {ns : List Int} (eg : h.g[j]? = some x) (e : h.t[i]? = some (x, ns)) : GlT K mg x (He.ga K x) ns := by
 refine ⟨c.glo X G j eg, fun H => ?_⟩
 have := He.tupB_ok (c.t _ (Zai e)) H
 have e2 : (ns.map He.Dv.int).map (He.Dv.v K) = ns.map V.int := by
  rw [List.map_map]
  rfl
 rw [e2] at this
 exact this
end
@[elab_as_elim] theorem ll1 {P : List Value → Prop} (us : List Value) (h : us.length = 1) (k : ∀ a0, P [a0]) : P us := match us, h with | [_], _ => k _
@[elab_as_elim] theorem ll2 {P : List Value → Prop} (us : List Value) (h : us.length = 2) (k : ∀ a0 a1, P [a0, a1]) : P us := match us, h with | [_, _], _ => k _ _
@[elab_as_elim] theorem ll3 {P : List Value → Prop} (us : List Value) (h : us.length = 3) (k : ∀ a0 a1 a2, P [a0, a1, a2]) : P us := match us, h with | [_, _, _], _ => k _ _ _
end Kb
namespace Kb
open PySem L2 Evl
noncomputable abbrev fl_Shop : List Str := ["field", "strength", "block_states", "sheet_looks", "sheet_stories", "sheet_count", "wished"]
noncomputable abbrev fl_Album : List Str := ["field", "kept"]
noncomputable abbrev fl_Book : List Str := ["house", "done", "past", "gone"]
noncomputable abbrev fl_Desk : List Str := ["kept_book"]
noncomputable def top (i : Nat) : Stmt := PySem.Challenge.pw_keyblock_k22_shops_opened.main.body.getD i (.Pass ⟨0, 0, 0, 0⟩)
section
variable {P : Program} {w : World} {K : PySem.W.Frag} {mg : Str → Option Value} {base : Heap}
noncomputable abbrev Zc0 : Stmt := top 52
noncomputable abbrev ZiN : List Str := ["_law_script"]
noncomputable abbrev ZbV : List Str := ["_law_script"]
theorem Zes : FnScope ZiN ZbV (defScope Zc0) := ⟨rfl, rfl, rfl, by decide +kernel, rfl, by decide +kernel, by decide +kernel⟩
theorem ZhD {f : Addr} {fd : FuncData} (T : Tx mg) (F : Fun K "_law_begin" "_law_begin" Zc0 f fd) : FnOk P w K mg base CX0 1 f fd ZbV (spBegin K) := by
 have nd := Zes.nd
 refine F.ok Zes (fun vs H Q E h => ?_) (fun cdv A outer s H vs Q E hr h => ?_)
 ·obtain ⟨a, ns, rfl, _⟩ := h
  rfl
 ·obtain ⟨a, ns, rfl, hS, hl, q⟩ := h
  refine ⟨_, (pss_one (ps_ret (pe_lst (pa_cons (pe_callTy call_list_of (by rfl) T.list (by decide +kernel) (pa_cons (pe_slice sl_list (pv 0) po_none (po_some pe_int)) pa_nil)) (pa_cons pe_int (pa_cons pe_int (pa_cons pe_int pa_nil))))))), ?_⟩
  refine ⟨.ref a, rfl, 63, rfl, a, ns.map V.int, rfl, hS, fun p hp => ⟨p, _, rfl, .inl (sq_of upd_same), fun l hl' => ⟨(by show 4 ≤ sizeLine; decide), fun d hd => ?_⟩⟩⟩
  have ecut : cutV (ns.map V.int) none (some 63) = (ns.take 63).map V.int := by
   unfold cutV
   rw [HT.sIx_none, show HT.sIx (ns.map V.int).length (ns.map V.int).length (some 63) = min 63 (ns.map V.int).length from HT.sIx_nat _ _ 63, List.map_take]
   show List.take (min 63 (ns.map V.int).length) (ns.map V.int) = List.take 63 (ns.map V.int)
   rw [List.take_eq_take_iff]
   omega
  have nl : H l = none := fresh_back (Ex.new hp) hl'
  have nd' : H d = none := fresh_back ((Ex.new hp).trans (Ex.new hl')) hd
  have nld : l ≠ d := fun z => by
   subst z
   rw [upd_same] at hd
   cases hd
  refine q ⟨d, l, ns.take 63⟩ (fun b => if b = l then some (.lst ((ns.take 63).map V.int)) else none) _ nd' (((Ex.new hp).trans (Ex.new hl')).trans (Ex.new hd)) ?_ ?_ ⟨?_, if_pos rfl, 0, 0, 17, upd_same, by decide, by decide, by decide, by decide⟩
  ·intro b o h
   by_cases z : b = l
   ·subst z
    simp only [if_pos] at h
    cases h
    rw [upd_ne nld, upd_same, ecut]
   ·simp only [if_neg z] at h
    cases h
  ·intro b o h
   show (if b = l then _ else none) = none
   rw [if_neg (ne_of_none h nl)]
  ·show (if d = l then _ else none) = none
   rw [if_neg nld.symm]
noncomputable abbrev ZdJ : Stmt := top 53
noncomputable abbrev Zfr : List Str := ["_law_draw", "_law_many", "_law_cell", "_law_got"]
noncomputable abbrev Zbe : List Str := ["_law_draw", "_law_many"]
theorem Zeu : FnScope Zfr Zbe (defScope ZdJ) := ⟨rfl, rfl, rfl, by decide +kernel, rfl, by decide +kernel, by decide +kernel⟩
noncomputable def Zck : FS := (sSeq (sIf (bWk (bAnd (bW (wOp oLt (wOp oIxL (wV 0) (wC (.int 2))) (wV 1))) (bW (wOp oLt (wOp oIxL (wV 0) (wC (.int 1))) (wCb cLen (aCons (wOp oIxL (wV 0) (wC (.int 0))) aNil))))))
  (sSeq (sAsg 2 (xW (wOp oIxL (wOp oIxL (wV 0) (wC (.int 0))) (wOp oIxL (wV 0) (wC (.int 1))))))
  (sSeq (sPut 0 (xS (wC (.int 1))) (xW (wOp oAdd (wOp oIxL (wV 0) (wC (.int 1))) (wC (.int 1)))))
  (sSeq (sPut 0 (xS (wC (.int 2))) (xS (wC (.int 0))))
  (sIf (bS (bW (wOp oGe (wCb cAbs (aCons (wV 2) aNil)) (wOp oPow (wC (.int 10)) (wC (.int 18))))))
  (sPut 0 (xS (wC (.int 2))) (xS (wCb cAbs (aCons (wV 2) aNil))))
  (sPut 0 (xS (wC (.int 3))) (xW (wOp oMod (wOp oAdd (wOp oAdd (wOp oMul (wOp oIxL (wV 0) (wC (.int 3))) (wC (.int 48271))) (wOp oMul (wOp oMod (wV 2) (wC (.int 2147483629))) (wC (.int 69621)))) (wC (.int 12345))) (wC (.int 2147483647)))))))))
  sNil)
  (sSeq (sIf (bWk (bW (wOp oGe (wOp oIxL (wV 0) (wC (.int 2))) (wV 1))))
  (sSeq (sAsg 3 (xW (wOp oMod (wOp oIxL (wV 0) (wC (.int 2))) (wV 1))))
  (sSeq (sPut 0 (xS (wC (.int 2))) (xW (wOp oDiv (wOp oIxL (wV 0) (wC (.int 2))) (wV 1))))
  (sRet (nMove 3))))
  sNil)
  (sSeq (sPut 0 (xS (wC (.int 3))) (xW (wOp oMod (wOp oAdd (wOp oAdd (wOp oMul (wOp oMod (wOp oMul (wOp oIxL (wV 0) (wC (.int 3))) (wOp oIxL (wV 0) (wC (.int 3)))) (wC (.int 2147483629))) (wC (.int 5))) (wOp oMul (wOp oIxL (wV 0) (wC (.int 3))) (wC (.int 16811)))) (wC (.int 2531011))) (wC (.int 2147483647)))))
  (sRet (nX (xW (wOp oMod (wOp oAdd (wOp oDiv (wOp oIxL (wV 0) (wC (.int 3))) (wC (.int 61))) (wOp oMul (wOp oMod (wOp oIxL (wV 0) (wC (.int 3))) (wC (.int 8191))) (wC (.int 31)))) (wV 1))))))))
noncomputable def f__law_take := fnI 2 4 (fun i => Nat.blt i 1) (Zck)
set_option maxHeartbeats 8000000 in
theorem ZhZ {f : Addr} {fd : FuncData} (T : Tx mg) (F : Fun K "_law_take" "_law_take" ZdJ f fd) : FnOk P w K mg base CX0 1 f fd Zbe (ISp f__law_take) := by
 have nd := Zeu.nd
 refine F.ok Zeu (fun vs H Q E h => h.len) (fun cdv A outer s H vs Q E hr h => ?_)
 have hu := hu_of hr
 refine ⟨_, (pss_cons (ps_if (PW.pt (pw_and (pt_cmpR op_lt (pe_ix ix_list (pv 0) pe_int (fun _ _ => rfl)) (pv 1) (nomark _)) (pw_and1 (pt_cmpR op_lt (pe_ix ix_list (pv 0) pe_int (fun _ _ => rfl)) (pe_callB call_len_seq (by rfl) T.len PySem.boot_len (pa_cons (pe_ix ix_list (pv 0) pe_int (fun _ _ => rfl)) pa_nil)) (nomark _)))))
   (pss_cons (ps_set (i := 2) nd rfl (.inl rfl) (pe_ix ix_list (pe_ix ix_list (pv 0) pe_int (fun _ _ => rfl)) (pe_ix ix_list (pv 0) pe_int (fun _ _ => rfl)) (fun _ _ => rfl)))
   (pss_cons (ps_asg (pe_op op_add (pe_ix ix_list (pv 0) pe_int (fun _ _ => rfl)) pe_int) (pg_sub (pv 0) pe_int set_list))
   (pss_cons (ps_asg pe_int (pg_sub (pv 0) pe_int set_list))
   (pss_one (ps_if (pt_cmpR op_ge (pe_callB call_abs (by rfl) T.abs (by decide +kernel) (pa_cons (pv 2) pa_nil)) (pe_op op_pow pe_int pe_int) (nomark _))
    (pss_one (ps_asg (pe_callB call_abs (by rfl) T.abs (by decide +kernel) (pa_cons (pv 2) pa_nil)) (pg_sub (pv 0) pe_int set_list)))
    (pss_one (ps_asg (pe_op op_mod (pe_op op_add (pe_op op_add (pe_op op_mul (pe_ix ix_list (pv 0) pe_int (fun _ _ => rfl)) pe_int) (pe_op op_mul (pe_op op_mod (pv 2) pe_int) pe_int)) pe_int) pe_int) (pg_sub (pv 0) pe_int set_list))))))))
   pss_nil)
  (pss_cons (ps_if (pt_cmpR op_ge (pe_ix ix_list (pv 0) pe_int (fun _ _ => rfl)) (pv 1) (nomark _))
   (pss_cons (ps_set (i := 3) nd rfl (.inl rfl) (pe_op op_mod (pe_ix ix_list (pv 0) pe_int (fun _ _ => rfl)) (pv 1)))
   (pss_cons (ps_asg (pe_op op_fdiv (pe_ix ix_list (pv 0) pe_int (fun _ _ => rfl)) (pv 1)) (pg_sub (pv 0) pe_int set_list))
   (pss_one (ps_ret (pv 3)))))
   pss_nil)
  (pss_cons (ps_asg (pe_op op_mod (pe_op op_add (pe_op op_add (pe_op op_mul (pe_op op_mod (pe_op op_mul (pe_ix ix_list (pv 0) pe_int (fun _ _ => rfl)) (pe_ix ix_list (pv 0) pe_int (fun _ _ => rfl))) pe_int) pe_int) (pe_op op_mul (pe_ix ix_list (pv 0) pe_int (fun _ _ => rfl)) pe_int)) pe_int) pe_int) (pg_sub (pv 0) pe_int set_list))
  (pss_one (ps_ret (pe_op op_mod (pe_op op_add (pe_op op_fdiv (pe_ix ix_list (pv 0) pe_int (fun _ _ => rfl)) pe_int) (pe_op op_mul (pe_op op_mod (pe_ix ix_list (pv 0) pe_int (fun _ _ => rfl)) pe_int) pe_int)) (pv 1))))))), ?_⟩
 exact ZF (kp := fun i => Nat.blt i 1) (N := Zfr) (s := Zck) (Zi (ZaZ (ZfV (ZrO (Zan (Zs ZkJ (ZY ZQ (Za (i := 0)) Ze.w) (Za (i := 1))).w) (Zan (Zs ZkJ (ZY ZQ (Za (i := 0)) Ze.w) (Zat ZeP (Zb (ZY ZQ (Za (i := 0)) Ze.w) Zf)).w).w)))
  (Zi (Zbg (i := 2) rfl (ZaM (ZY ZQ (ZY ZQ (Za (i := 0)) Ze.w) (ZY ZQ (Za (i := 0)) Ze.w))))
  (Zi (Zd3 (i := 0) (ZB Ze.w) (ZaM (Zs Zcu (ZY ZQ (Za (i := 0)) Ze.w) Ze.w).w))
  (Zi (Zd3 (i := 0) (ZB Ze.w) (ZB Ze.w))
  (ZaZ (Ze3 (Zan (Zs ZnD (Zat Zlb (Zb (Za (i := 2)) Zf)).w (Zs ZgB Ze.w Ze.w).w).w))
  (Zd3 (i := 0) (ZB Ze.w) (ZB (Zat Zlb (Zb (Za (i := 2)) Zf)).w))
  (Zd3 (i := 0) (ZB Ze.w) (ZaM (Zs Zc8 (Zs Zcu (Zs Zcu (Zs Zcl (ZY ZQ (Za (i := 0)) Ze.w) Ze.w).w (Zs Zcl (Zs Zc8 (Za (i := 2)) Ze.w).w Ze.w).w).w Ze.w).w Ze.w).w))))))
  Zbt)
  (Zi (ZaZ (ZfV (Zan (Zs ZnD (ZY ZQ (Za (i := 0)) Ze.w) (Za (i := 1))).w))
  (Zi (Zbg (i := 3) rfl (ZaM (Zs Zc8 (ZY ZQ (Za (i := 0)) Ze.w) (Za (i := 1))).w))
  (Zi (Zd3 (i := 0) (ZB Ze.w) (ZaM (Zs Zlu (ZY ZQ (Za (i := 0)) Ze.w) (Za (i := 1))).w))
  (Zfi (i := 3) rfl)))
  Zbt)
  (Zi (Zd3 (i := 0) (ZB Ze.w) (ZaM (Zs Zc8 (Zs Zcu (Zs Zcu (Zs Zcl (Zs Zc8 (Zs Zcl (ZY ZQ (Za (i := 0)) Ze.w) (ZY ZQ (Za (i := 0)) Ze.w)).w Ze.w).w Ze.w).w (Zs Zcl (ZY ZQ (Za (i := 0)) Ze.w) Ze.w).w).w Ze.w).w Ze.w).w))
  (ZC (ZaA (ZaM (Zs Zc8 (Zs Zcu (Zs Zlu (ZY ZQ (Za (i := 0)) Ze.w) Ze.w).w (Zs Zcl (Zs Zc8 (ZY ZQ (Za (i := 0)) Ze.w) Ze.w).w Ze.w).w).w (Za (i := 1))).w)))))) h
noncomputable abbrev ZeF : Stmt := top 20
noncomputable abbrev ZlD : List Str := ["number", "low", "high"]
noncomputable abbrev ZbE : List Str := ["number", "low", "high"]
theorem Zgs : FnScope ZlD ZbE (defScope ZeF) := ⟨rfl, rfl, rfl, by decide +kernel, rfl, by decide +kernel, by decide +kernel⟩
noncomputable def ZaK (ds : List PyData) (d : PyData) : Prop := ∃ a lo hi : Int, ds = [.int a, .int lo, .int hi] ∧ d = .bool (decide (lo ≤ a) && decide (a ≤ hi))
theorem ZkE {f : Addr} {fd : FuncData} (T : Tx mg) (F : Fun K "between" "between" ZeF f fd) : FnOk P w K mg base CX0 1 f fd ZbE (PSp ZaK) := by
 have nd := Zgs.nd
 refine F.ok Zgs (fun vs H Q E h => ?_) (fun cdv A outer s H vs Q E hr h => ?_)
 ·obtain ⟨G, ds, d, gh, dv, ⟨a, lo, hi, rfl, _⟩, _⟩ := h
  exact dv.len
 ·obtain ⟨G, ds, d, gh, dv, ⟨a, lo, hi, rfl, rfl⟩, q⟩ := h
  obtain ⟨v0, v1, v2, rfl, d0, d1, d2⟩ := dv.three
  refine ⟨_, (pss_one (ps_ret (pe_chain op_le op_le (pv 1) (pv 0) (pv 2)))), ?_⟩
  exact ZcV gh (Zl3 (f := fun i j => decide (i ≤ j)) (g := fun i j => decide (i ≤ j)) (Zh rfl d1) (Zh rfl d0) fun _ => Zh rfl d2) q
noncomputable abbrev ZdM : Stmt := top 21
noncomputable abbrev Zjq : List Str := ["size"]
noncomputable abbrev Zbf : List Str := ["size"]
theorem ZeZ : FnScope Zjq Zbf (defScope ZdM) := ⟨rfl, rfl, rfl, by decide +kernel, rfl, by decide +kernel, by decide +kernel⟩
noncomputable def sizeB (n : Int) : Bool := decide (1 ≤ n) && decide (n ≤ 24)
noncomputable def ZaB (C : Addr) (ds : List PyData) (o : PyData ⊕ Addr) : Prop := ∃ n : Int, ds = [.int n] ∧ o = if sizeB n then .inl .none else .inr C
theorem Zis {f : Addr} {fd : FuncData} {cBadSize : Addr} (T : Tx mg) (F : Fun K "need_size" "need_size" ZdM f fd) (C_between : Cal P w K mg base "between" 1 ZbE (PSp ZaK)) (EX_BadSize : ExC K mg "BadSize" cBadSize) : FnOk P w K mg base (L2.CX P w) 2 f fd Zbf (XSp (ZaB cBadSize)) := by
 have nd := ZeZ.nd
 refine F.okX ZeZ (fun vs H Q E h => ?_) (fun cdv A outer s H vs Q E hr h => ?_)
 ·obtain ⟨G, ds, o, gh, dv, ⟨n, rfl, _⟩, _⟩ := h
  exact dv.len
 ·obtain ⟨G, ds, o, gh, dv, ⟨n, rfl, rfl⟩, q1, q2⟩ := h
  obtain ⟨v0, rfl, d0⟩ := dv.one
  refine ⟨_, (pss_one (ps_if (pt_not (pt_val (ZL C_between (hr.mono (by omega)) (by rfl) (pa_cons (pv 0) (pa_cons pe_int (pa_cons pe_int pa_nil))))))
   (pss_one (Zcp rfl (takes_of rfl rfl rfl rfl) EX_BadSize rfl))
   pss_nil)), ?_⟩
  refine ZlK (b := !sizeB n) gh (Zi4 (Zeb (ZdR (ea1 (Zh rfl d0) (ea1 ZgI (ea1 ZgI ea0))) ⟨n, 1, 24, rfl, rfl⟩))) (fun hb H3 go3 => ?_) (fun hb H3 go3 => ?_)
  ·have hb' : sizeB n = false := by simpa using hb
   exact q2 cBadSize (by rw [hb']; rfl) H3 go3.hh
  ·have hb' : sizeB n = true := by simpa using hb
   exact q1 .none (by rw [hb']; rfl) .non H3 go3.hh .non
noncomputable abbrev ZdK : Stmt := top 22
noncomputable abbrev Zjs : List Str := ["wear"]
noncomputable abbrev Zcb : List Str := ["wear"]
theorem Zez : FnScope Zjs Zcb (defScope ZdK) := ⟨rfl, rfl, rfl, by decide +kernel, rfl, by decide +kernel, by decide +kernel⟩
noncomputable def wearB (n : Int) : Bool := decide (1 ≤ n) && decide (n ≤ 60)
noncomputable def Zbj (C : Addr) (ds : List PyData) (o : PyData ⊕ Addr) : Prop := ∃ n : Int, ds = [.int n] ∧ o = if wearB n then .inl .none else .inr C
theorem Zic {f : Addr} {fd : FuncData} {cBadWear : Addr} (T : Tx mg) (F : Fun K "need_wear" "need_wear" ZdK f fd) (C_between : Cal P w K mg base "between" 1 ZbE (PSp ZaK)) (EX_BadWear : ExC K mg "BadWear" cBadWear) : FnOk P w K mg base (L2.CX P w) 2 f fd Zcb (XSp (Zbj cBadWear)) := by
 have nd := Zez.nd
 refine F.okX Zez (fun vs H Q E h => ?_) (fun cdv A outer s H vs Q E hr h => ?_)
 ·obtain ⟨G, ds, o, gh, dv, ⟨n, rfl, _⟩, _⟩ := h
  exact dv.len
 ·obtain ⟨G, ds, o, gh, dv, ⟨n, rfl, rfl⟩, q1, q2⟩ := h
  obtain ⟨v0, rfl, d0⟩ := dv.one
  refine ⟨_, (pss_one (ps_if (pt_not (pt_val (ZL C_between (hr.mono (by omega)) (by rfl) (pa_cons (pv 0) (pa_cons pe_int (pa_cons pe_int pa_nil))))))
   (pss_one (Zcp rfl (takes_of rfl rfl rfl rfl) EX_BadWear rfl))
   pss_nil)), ?_⟩
  refine ZlK (b := !wearB n) gh (Zi4 (Zeb (ZdR (ea1 (Zh rfl d0) (ea1 ZgI (ea1 ZgI ea0))) ⟨n, 1, 60, rfl, rfl⟩))) (fun hb H3 go3 => ?_) (fun hb H3 go3 => ?_)
  ·have hb' : wearB n = false := by simpa using hb
   exact q2 cBadWear (by rw [hb']; rfl) H3 go3.hh
  ·have hb' : wearB n = true := by simpa using hb
   exact q1 .none (by rw [hb']; rfl) .non H3 go3.hh .non
noncomputable abbrev ZbL : Stmt := inClass (top 44) 0
noncomputable abbrev Zdl : List Str := ["self", "size", "wear"]
noncomputable abbrev ZS : List Str := ["self", "size", "wear"]
theorem ZcY : FnScope Zdl ZS (defScope ZbL) := ⟨rfl, rfl, rfl, by decide +kernel, rfl, by decide +kernel, by decide +kernel⟩
noncomputable def ZaY (cBadSize cBadWear cShop : Addr) : FS := (sSeq (sDropN (nX (xCallX (gR (ZaB cBadSize)) (aS (aCons (wV 1) aNil)))))
  (sSeq (sDropN (nX (xCallX (gR (Zbj cBadWear)) (aS (aCons (wV 2) aNil)))))
  (sSeq (sSetF cShop "field" 0 (xS (wV 1)))
  (sSeq (sSetF cShop "strength" 0 (xS (wV 2)))
  (sSeq (sSetFN cShop "block_states" 0 (nF (wLst aNil)))
  (sSeq (sSetFN cShop "sheet_looks" 0 nDct)
  (sSeq (sSetFN cShop "sheet_stories" 0 nDct)
  (sSeq (sSetF cShop "sheet_count" 0 (xS (wC (.int 0))))
  (sSetFN cShop "wished" 0 nDct)))))))))
noncomputable def Zt (cBadSize cBadWear cShop : Addr) := fnI 3 3 (fun i => Nat.blt i 1) (ZaY cBadSize cBadWear cShop)
set_option maxHeartbeats 8000000 in
theorem ZfZ {f : Addr} {fd : FuncData} {cBadSize cBadWear cShop : Addr} (T : Tx mg) (F : Fun K "__init__" "Shop.__init__" ZbL f fd)
  (C_need_size : CalX P w K mg base "need_size" 2 Zbf (XSp (ZaB cBadSize)))
  (C_need_wear : CalX P w K mg base "need_wear" 2 Zcb (XSp (Zbj cBadWear)))
  (FL_Shop : Fls K cShop fl_Shop) : FnOk P w K mg base (L2.CX P w) 3 f fd ZS (ISp (Zt cBadSize cBadWear cShop)) := by
 have nd := ZcY.nd
 refine F.okX ZcY (fun vs H Q E h => h.len) (fun cdv A outer s H vs Q E hr h => ?_)
 have hu := hu_of hr
 refine ⟨_, (pss_cons (ps_expr (ZgN C_need_size (hr.mono (by omega)) (by rfl) (takes_of rfl rfl rfl rfl) (pa_cons (pv 1) pa_nil)))
  (pss_cons (ps_expr (ZgN C_need_wear (hr.mono (by omega)) (by rfl) (takes_of rfl rfl rfl rfl) (pa_cons (pv 2) pa_nil)))
  (pss_cons (ps_fld (pv 0) (pv 1) rfl)
  (pss_cons (ps_fld (pv 0) (pv 2) rfl)
  (pss_cons (ps_fld (pv 0) (pe_lst pa_nil) rfl)
  (pss_cons (ps_fld (pv 0) pe_dnewK rfl)
  (pss_cons (ps_fld (pv 0) pe_dnewK rfl)
  (pss_cons (ps_fld (pv 0) pe_int rfl)
  (pss_one (ps_fld (pv 0) pe_dnewK rfl)))))))))), ?_⟩
 exact ZF (kp := fun i => Nat.blt i 1) (N := Zdl) (s := ZaY cBadSize cBadWear cShop) (Zi (Zbz (ZaA (Zf7 ZcL (ZA (Zb (Za (i := 1)) Zf)))))
  (Zi (Zbz (ZaA (Zf7 ZcL (ZA (Zb (Za (i := 2)) Zf)))))
  (Zi (ZbD (i := 0) FL_Shop (by simp) (ZB (Za (i := 1))))
  (Zi (ZbD (i := 0) FL_Shop (by simp) (ZB (Za (i := 2))))
  (Zi (Zz (i := 0) FL_Shop (by simp) (Zkz (Zda Zf)))
  (Zi (Zz (i := 0) FL_Shop (by simp) Zgc)
  (Zi (Zz (i := 0) FL_Shop (by simp) Zgc)
  (Zi (ZbD (i := 0) FL_Shop (by simp) (ZB Ze.w))
  (Zz (i := 0) FL_Shop (by simp) Zgc))))))))) h
noncomputable abbrev ZaW : Stmt := inClass (top 44) 1
noncomputable abbrev Zbc : List Str := ["self", "other", "rows"]
noncomputable abbrev Zax : List Str := ["self"]
theorem ZbU : FnScope Zbc Zax (defScope ZaW) := ⟨rfl, rfl, rfl, by decide +kernel, rfl, by decide +kernel, by decide +kernel⟩
noncomputable def ZfF (cBadSize cBadWear cShop : Addr) : FS := (noEx (sSeq (sAsgN 1 (nNew cShop (Zt cBadSize cBadWear cShop) (aConsX (xW (wUn (oFld cShop "field") (wV 0))) (aConsX (xW (wUn (oFld cShop "strength") (wV 0))) aNilX))))
  (sSeq (sSetFN cShop "block_states" 1 (nCpLL (pF cShop "block_states" (pV 0)) 2))
  (sSeq (sSetFN cShop "sheet_looks" 1 (nDctC (pF cShop "sheet_looks" (pV 0))))
  (sSeq (sSetFN cShop "sheet_stories" 1 (nDctC (pF cShop "sheet_stories" (pV 0))))
  (sSeq (sSetF cShop "sheet_count" 1 (xW (wUn (oFld cShop "sheet_count") (wV 0))))
  (sSeq (sSetFN cShop "wished" 1 (nDctC (pF cShop "wished" (pV 0))))
  (sRet (nMove 1)))))))))
noncomputable def ZfC (cBadSize cBadWear cShop : Addr) := fnI 1 3 (fun i => Nat.blt i 1) (ZfF cBadSize cBadWear cShop)
set_option maxHeartbeats 8000000 in
theorem ZiA {f : Addr} {fd : FuncData} {cBadSize cBadWear cShop : Addr} (T : Tx mg) (F : Fun K "twin" "Shop.twin" ZaW f fd)
  (C_Shop : CalN P w K mg base "Shop" cShop 3 ZS (ISp (Zt cBadSize cBadWear cShop)))
  (FL_Shop : Fls K cShop fl_Shop) : FnOk P w K mg base CX0 5 f fd Zax (ISp (ZfC cBadSize cBadWear cShop)) := by
 have nd := ZbU.nd
 refine F.ok ZbU (fun vs H Q E h => h.len) (fun cdv A outer s H vs Q E hr h => ?_)
 have hu := hu_of hr
 refine ⟨_, (pss_cons (ps_set (i := 1) nd rfl (.inl rfl) (Za7 C_Shop (hr.mono (by omega)) (by rfl) takes0 (pa_cons (pe_fld (pv 0) rfl) (pa_cons (pe_fld (pv 0) rfl) pa_nil))))
  (pss_cons (ps_fld (pv 1) (pe_lc (own := [("rows", 2)]) (g := gName 2) (tt := tYes) (te := (tCB (rListS K) (tCons (tVar 2) tNil))) (by rfl) nd (pi_list (pe_fld (pv 0) rfl)) (blkOk_by (N := Zbc) (sc := defScope ZaW) (by decide +kernel)) (fun _ _ _ _ _ => (pg_name (i := 2) nd rfl (.inl rfl))) (fun _ _ _ _ _ => pts_nil) (fun _ _ _ _ _ => (pe_callTy call_list_of (by rfl) T.list (by decide +kernel) (pa_cons (pv 2) pa_nil)))) rfl)
  (pss_cons (ps_fld (pv 1) (pe_callTy call_dictD (by rfl) T.dict (by decide +kernel) (pa_cons (pe_fld (pv 0) rfl) pa_nil)) rfl)
  (pss_cons (ps_fld (pv 1) (pe_callTy call_dictD (by rfl) T.dict (by decide +kernel) (pa_cons (pe_fld (pv 0) rfl) pa_nil)) rfl)
  (pss_cons (ps_fld (pv 1) (pe_fld (pv 0) rfl) rfl)
  (pss_cons (ps_fld (pv 1) (pe_callTy call_dictD (by rfl) T.dict (by decide +kernel) (pa_cons (pe_fld (pv 0) rfl) pa_nil)) rfl)
  (pss_one (ps_ret (pv 1))))))))), ?_⟩
 exact ZF (kp := fun i => Nat.blt i 1) (N := Zbc) (s := ZfF cBadSize cBadWear cShop) (ZdW (Zi (Zb0 (i := 1) rfl (ZbX Zk (Zl (ZaM (ZG FL_Shop (by simp) (Za (i := 0)))) (Zl (ZaM (ZG FL_Shop (by simp) (Za (i := 0)))) Z2))))
  (Zi (Zz (i := 1) FL_Shop (by simp) (ZoM (j := 2) (Zav FL_Shop (by simp) (ZZ (i := 0)))))
  (Zi (Zz (i := 1) FL_Shop (by simp) (Zhd (Zav FL_Shop (by simp) (ZZ (i := 0)))))
  (Zi (Zz (i := 1) FL_Shop (by simp) (Zhd (Zav FL_Shop (by simp) (ZZ (i := 0)))))
  (Zi (ZbD (i := 1) FL_Shop (by simp) (ZaM (ZG FL_Shop (by simp) (Za (i := 0)))))
  (Zi (Zz (i := 1) FL_Shop (by simp) (Zhd (Zav FL_Shop (by simp) (ZZ (i := 0)))))
  (Zfi (i := 1) rfl)))))))) h
noncomputable def ZcB (cBadSize cBadWear cShop : Addr) : FS := (noEx (sSeq (sAsgN 1 (nNew cShop (Zt cBadSize cBadWear cShop) (aS (aCons (wUn (oFld cShop "field") (wV 0)) (aCons (wUn (oFld cShop "strength") (wV 0)) aNil)))))
  (sSeq (sSetFN cShop "block_states" 1 (nT (tLcO (itL (wUn (oFld cShop "block_states") (wV 0))) (bName 2) bYes (tNew (wCb cList (aCons (wV 2) aNil))) [2])))
  (sSeq (sSetFN cShop "sheet_looks" 1 (nDctX (xS (wUn (oFld cShop "sheet_looks") (wV 0)))))
  (sSeq (sSetFN cShop "sheet_stories" 1 (nDctX (xS (wUn (oFld cShop "sheet_stories") (wV 0)))))
  (sSeq (sSetF cShop "sheet_count" 1 (xS (wUn (oFld cShop "sheet_count") (wV 0))))
  (sSeq (sSetFN cShop "wished" 1 (nDctX (xS (wUn (oFld cShop "wished") (wV 0)))))
  (sRet (nMove 1)))))))))
noncomputable def ZaP (cBadSize cBadWear cShop : Addr) := fnI 1 3 (fun i => Nat.blt i 0) (ZcB cBadSize cBadWear cShop)
set_option maxHeartbeats 8000000 in
theorem ZgV {f : Addr} {fd : FuncData} {cBadSize cBadWear cShop : Addr} (T : Tx mg) (F : Fun K "twin" "Shop.twin" ZaW f fd)
  (C_Shop : CalN P w K mg base "Shop" cShop 3 ZS (ISp (Zt cBadSize cBadWear cShop)))
  (FL_Shop : Fls K cShop fl_Shop) : FnOk P w K mg base CX0 5 f fd Zax (ISp (ZaP cBadSize cBadWear cShop)) := by
 have nd := ZbU.nd
 refine F.ok ZbU (fun vs H Q E h => h.len) (fun cdv A outer s H vs Q E hr h => ?_)
 have hu := hu_of hr
 refine ⟨_, (pss_cons (ps_set (i := 1) nd rfl (.inl rfl) (Za7 C_Shop (hr.mono (by omega)) (by rfl) takes0 (pa_cons (pe_fld (pv 0) rfl) (pa_cons (pe_fld (pv 0) rfl) pa_nil))))
  (pss_cons (ps_fld (pv 1) (pe_lc (own := [("rows", 2)]) (g := gName 2) (tt := tYes) (te := (tCB (rListS K) (tCons (tVar 2) tNil))) (by rfl) nd (pi_list (pe_fld (pv 0) rfl)) (blkOk_by (N := Zbc) (sc := defScope ZaW) (by decide +kernel)) (fun _ _ _ _ _ => (pg_name (i := 2) nd rfl (.inl rfl))) (fun _ _ _ _ _ => pts_nil) (fun _ _ _ _ _ => (pe_callTy call_list_of (by rfl) T.list (by decide +kernel) (pa_cons (pv 2) pa_nil)))) rfl)
  (pss_cons (ps_fld (pv 1) (pe_callTy call_dictD (by rfl) T.dict (by decide +kernel) (pa_cons (pe_fld (pv 0) rfl) pa_nil)) rfl)
  (pss_cons (ps_fld (pv 1) (pe_callTy call_dictD (by rfl) T.dict (by decide +kernel) (pa_cons (pe_fld (pv 0) rfl) pa_nil)) rfl)
  (pss_cons (ps_fld (pv 1) (pe_fld (pv 0) rfl) rfl)
  (pss_cons (ps_fld (pv 1) (pe_callTy call_dictD (by rfl) T.dict (by decide +kernel) (pa_cons (pe_fld (pv 0) rfl) pa_nil)) rfl)
  (pss_one (ps_ret (pv 1))))))))), ?_⟩
 exact ZF (kp := fun i => Nat.blt i 0) (N := Zbc) (s := ZcB cBadSize cBadWear cShop) (ZdW (Zi (Zb0 (i := 1) rfl (ZbX Zk (ZA (Zb (ZG FL_Shop (by simp) (Za (i := 0))) (Zb (ZG FL_Shop (by simp) (Za (i := 0))) Zf)))))
  (Zi (Zz (i := 1) FL_Shop (by simp) (ZmZ (Ztf (vs := [2]) (ZjF (ZG FL_Shop (by simp) (Za (i := 0)))) (Zg9 (j := 2)) (by decide) ZgK (Zqp (Zat ZcP (Zb (Za (i := 2)) Zf))))))
  (Zi (Zz (i := 1) FL_Shop (by simp) (ZgU (ZB (ZG FL_Shop (by simp) (Za (i := 0))))))
  (Zi (Zz (i := 1) FL_Shop (by simp) (ZgU (ZB (ZG FL_Shop (by simp) (Za (i := 0))))))
  (Zi (ZbD (i := 1) FL_Shop (by simp) (ZB (ZG FL_Shop (by simp) (Za (i := 0)))))
  (Zi (Zz (i := 1) FL_Shop (by simp) (ZgU (ZB (ZG FL_Shop (by simp) (Za (i := 0))))))
  (Zfi (i := 1) rfl)))))))) h
noncomputable abbrev Zdp : Stmt := inClass (top 48) 5
noncomputable abbrev Zfu : List Str := ["self"]
noncomputable abbrev Zb3 : List Str := ["self"]
theorem ZeH : FnScope Zfu Zb3 (defScope Zdp) := ⟨rfl, rfl, rfl, by decide +kernel, rfl, by decide +kernel, by decide +kernel⟩
noncomputable def ZdB (cBadSize cBadWear cBook cShop : Addr) : FS := (sRet (nAskT cShop "twin" (noX (ZaP cBadSize cBadWear cShop)) (xP (pF cBook "house" (pV 0))) (aS aNil)))
noncomputable def ZaT (cBadSize cBadWear cBook cShop : Addr) := fnI 1 1 (fun i => Nat.blt i 1) (ZdB cBadSize cBadWear cBook cShop)
set_option maxHeartbeats 8000000 in
theorem Zi7 {f : Addr} {fd : FuncData} {cBadSize cBadWear cBook cShop : Addr} (T : Tx mg) (F : Fun K "shop" "Book.shop" Zdp f fd)
  (C_Shop_twin : CalM P w K mg base cShop "twin" 5 Zax (ISp (ZfC cBadSize cBadWear cShop)))
  (C_Shop_twin_O : CalM P w K mg base cShop "twin" 5 Zax (ISp (ZaP cBadSize cBadWear cShop)))
  (FL_Book : Fls K cBook fl_Book) : FnOk P w K mg base CX0 6 f fd Zb3 (ISp (ZaT cBadSize cBadWear cBook cShop)) := by
 have nd := ZeH.nd
 refine F.ok ZeH (fun vs H Q E h => h.len) (fun cdv A outer s H vs Q E hr h => ?_)
 have hu := hu_of hr
 refine ⟨_, (pss_one (ps_ret (Zam C_Shop_twin_O (hr.mono (by omega)) (pe_fld (pv 0) rfl)))), ?_⟩
 exact ZF (kp := fun i => Nat.blt i 1) (N := Zfu) (s := ZdB cBadSize cBadWear cBook cShop) (ZC (ZgX Zk (ZeX (Zav (f := "house") FL_Book (by simp) (ZZ (i := 0)))) (ZA Zf))) h
noncomputable abbrev Zb2 : Stmt := inClass (top 44) 18
noncomputable abbrev ZdA : List Str := ["self"]
noncomputable abbrev Zaf : List Str := ["self"]
theorem ZbW : FnScope ZdA Zaf (defScope Zb2) := ⟨rfl, rfl, rfl, by decide +kernel, rfl, by decide +kernel, by decide +kernel⟩
noncomputable def ZdC (cShop : Addr) : FS := (sRet (nX (xW (wUn (oFld cShop "field") (wV 0)))))
noncomputable def ZaU (cShop : Addr) := fnI 1 1 (fun i => Nat.blt i 1) (ZdC cShop)
set_option maxHeartbeats 8000000 in
theorem ZiR {f : Addr} {fd : FuncData} {cShop : Addr} (T : Tx mg) (F : Fun K "size" "Shop.size" Zb2 f fd)
  (FL_Shop : Fls K cShop fl_Shop) : FnOk P w K mg base CX0 1 f fd Zaf (ISp (ZaU cShop)) := by
 have nd := ZbW.nd
 refine F.ok ZbW (fun vs H Q E h => h.len) (fun cdv A outer s H vs Q E hr h => ?_)
 have hu := hu_of hr
 refine ⟨_, (pss_one (ps_ret (pe_fld (pv 0) rfl))), ?_⟩
 exact ZF (kp := fun i => Nat.blt i 1) (N := ZdA) (s := ZdC cShop) (ZC (ZaA (ZaM (ZG FL_Shop (by simp) (Za (i := 0)))))) h
noncomputable def ZcF (cShop : Addr) : FS := (sRet (nX (xS (wUn (oFld cShop "field") (wV 0)))))
noncomputable def Zas (cShop : Addr) := fnI 1 1 (fun i => Nat.blt i 0) (ZcF cShop)
set_option maxHeartbeats 8000000 in
theorem ZgS {f : Addr} {fd : FuncData} {cShop : Addr} (T : Tx mg) (F : Fun K "size" "Shop.size" Zb2 f fd)
  (FL_Shop : Fls K cShop fl_Shop) : FnOk P w K mg base CX0 1 f fd Zaf (ISp (Zas cShop)) := by
 have nd := ZbW.nd
 refine F.ok ZbW (fun vs H Q E h => h.len) (fun cdv A outer s H vs Q E hr h => ?_)
 have hu := hu_of hr
 refine ⟨_, (pss_one (ps_ret (pe_fld (pv 0) rfl))), ?_⟩
 exact ZF (kp := fun i => Nat.blt i 0) (N := ZdA) (s := ZcF cShop) (ZC (ZaA (ZB (ZG FL_Shop (by simp) (Za (i := 0)))))) h
noncomputable abbrev Zb8 : Stmt := inClass (top 44) 19
noncomputable abbrev ZdN : List Str := ["self"]
noncomputable abbrev Zad : List Str := ["self"]
theorem ZbP : FnScope ZdN Zad (defScope Zb8) := ⟨rfl, rfl, rfl, by decide +kernel, rfl, by decide +kernel, by decide +kernel⟩
noncomputable def ZdP (cShop : Addr) : FS := (sRet (nX (xW (wUn (oFld cShop "strength") (wV 0)))))
noncomputable def ZaX (cShop : Addr) := fnI 1 1 (fun i => Nat.blt i 1) (ZdP cShop)
set_option maxHeartbeats 8000000 in
theorem ZhW {f : Addr} {fd : FuncData} {cShop : Addr} (T : Tx mg) (F : Fun K "wear" "Shop.wear" Zb8 f fd)
  (FL_Shop : Fls K cShop fl_Shop) : FnOk P w K mg base CX0 1 f fd Zad (ISp (ZaX cShop)) := by
 have nd := ZbP.nd
 refine F.ok ZbP (fun vs H Q E h => h.len) (fun cdv A outer s H vs Q E hr h => ?_)
 have hu := hu_of hr
 refine ⟨_, (pss_one (ps_ret (pe_fld (pv 0) rfl))), ?_⟩
 exact ZF (kp := fun i => Nat.blt i 1) (N := ZdN) (s := ZdP cShop) (ZC (ZaA (ZaM (ZG FL_Shop (by simp) (Za (i := 0)))))) h
noncomputable def ZcD (cShop : Addr) : FS := (sRet (nX (xS (wUn (oFld cShop "strength") (wV 0)))))
noncomputable def Zar (cShop : Addr) := fnI 1 1 (fun i => Nat.blt i 0) (ZcD cShop)
set_option maxHeartbeats 8000000 in
theorem ZgM {f : Addr} {fd : FuncData} {cShop : Addr} (T : Tx mg) (F : Fun K "wear" "Shop.wear" Zb8 f fd)
  (FL_Shop : Fls K cShop fl_Shop) : FnOk P w K mg base CX0 1 f fd Zad (ISp (Zar cShop)) := by
 have nd := ZbP.nd
 refine F.ok ZbP (fun vs H Q E h => h.len) (fun cdv A outer s H vs Q E hr h => ?_)
 have hu := hu_of hr
 refine ⟨_, (pss_one (ps_ret (pe_fld (pv 0) rfl))), ?_⟩
 exact ZF (kp := fun i => Nat.blt i 0) (N := ZdN) (s := ZcD cShop) (ZC (ZaA (ZB (ZG FL_Shop (by simp) (Za (i := 0)))))) h
noncomputable abbrev ZbN : Stmt := inClass (top 48) 0
noncomputable abbrev Zdg : List Str := ["self", "size", "wear"]
noncomputable abbrev Z7 : List Str := ["self", "size", "wear"]
theorem ZcU : FnScope Zdg Z7 (defScope ZbN) := ⟨rfl, rfl, rfl, by decide +kernel, rfl, by decide +kernel, by decide +kernel⟩
noncomputable def ZbI (cBadSize cBadWear cBook cShop : Addr) : FS := (sSeq (sSetF cBook "house" 0 (xN (nNew cShop (Zt cBadSize cBadWear cShop) (aS (aCons (wV 1) (aCons (wV 2) aNil))))))
  (sSeq (sSetFN cBook "done" 0 (nF (wLst aNil)))
  (sSeq (sSetFN cBook "past" 0 (nF (wLst aNil)))
  (sSetFN cBook "gone" 0 (nF (wLst aNil))))))
noncomputable def ZE (cBadSize cBadWear cBook cShop : Addr) := fnI 3 3 (fun i => Nat.blt i 1) (ZbI cBadSize cBadWear cBook cShop)
set_option maxHeartbeats 8000000 in
theorem Zf9 {f : Addr} {fd : FuncData} {cBadSize cBadWear cBook cShop : Addr} (T : Tx mg) (F : Fun K "__init__" "Book.__init__" ZbN f fd)
  (C_Shop : CalN P w K mg base "Shop" cShop 3 ZS (ISp (Zt cBadSize cBadWear cShop)))
  (FL_Book : Fls K cBook fl_Book) : FnOk P w K mg base (L2.CX P w) 5 f fd Z7 (ISp (ZE cBadSize cBadWear cBook cShop)) := by
 have nd := ZcU.nd
 refine F.okX ZcU (fun vs H Q E h => h.len) (fun cdv A outer s H vs Q E hr h => ?_)
 have hu := hu_of hr
 refine ⟨_, (pss_cons (ps_fld (pv 0) (Za7 C_Shop (hr.mono (by omega)) (by rfl) (takes_of rfl rfl rfl rfl) (pa_cons (pv 1) (pa_cons (pv 2) pa_nil))) rfl)
  (pss_cons (ps_fld (pv 0) (pe_lst pa_nil) rfl)
  (pss_cons (ps_fld (pv 0) (pe_lst pa_nil) rfl)
  (pss_one (ps_fld (pv 0) (pe_lst pa_nil) rfl))))), ?_⟩
 exact ZF (kp := fun i => Nat.blt i 1) (N := Zdg) (s := ZbI cBadSize cBadWear cBook cShop) (Zi (ZbD (i := 0) FL_Book (by simp) (ZM (ZbX Zk (ZA (Zb (Za (i := 1)) (Zb (Za (i := 2)) Zf))))))
  (Zi (Zz (i := 0) FL_Book (by simp) (Zkz (Zda Zf)))
  (Zi (Zz (i := 0) FL_Book (by simp) (Zkz (Zda Zf)))
  (Zz (i := 0) FL_Book (by simp) (Zkz (Zda Zf)))))) h
noncomputable abbrev ZdD : Stmt := inClass (top 48) 6
noncomputable abbrev Zfq : List Str := ["self", "other"]
noncomputable abbrev Zb6 : List Str := ["self"]
theorem ZeM : FnScope Zfq Zb6 (defScope ZdD) := ⟨rfl, rfl, rfl, by decide +kernel, rfl, by decide +kernel, by decide +kernel⟩
noncomputable def Zdz (cBadSize cBadWear cBook cShop : Addr) : FS := (noEx (sSeq (sAsgN 1 (nNew cBook (ZE cBadSize cBadWear cBook cShop) (aConsX (xN (nAskT cShop "size" (noX (Zas cShop)) (xP (pF cBook "house" (pV 0))) (aS aNil))) (aConsX (xN (nAskT cShop "wear" (noX (Zar cShop)) (xP (pF cBook "house" (pV 0))) (aS aNil))) aNilX))))
  (sSeq (sSetF cBook "house" 1 (xP (pF cBook "house" (pV 0))))
  (sSeq (sSetFN cBook "done" 1 (nLstC (pF cBook "done" (pV 0))))
  (sSeq (sSetFN cBook "past" 1 (nLstC (pF cBook "past" (pV 0))))
  (sSeq (sSetFN cBook "gone" 1 (nLstC (pF cBook "gone" (pV 0))))
  (sRet (nMove 1))))))))
noncomputable def Zbq (cBadSize cBadWear cBook cShop : Addr) := fnI 1 2 (fun i => Nat.blt i 1) (Zdz cBadSize cBadWear cBook cShop)
set_option maxHeartbeats 8000000 in
theorem Zh8 {f : Addr} {fd : FuncData} {cBadSize cBadWear cBook cShop : Addr} (T : Tx mg) (F : Fun K "twin" "Book.twin" ZdD f fd)
  (C_Shop_size : CalM P w K mg base cShop "size" 1 Zaf (ISp (ZaU cShop)))
  (C_Shop_wear : CalM P w K mg base cShop "wear" 1 Zad (ISp (ZaX cShop)))
  (C_Book : CalN P w K mg base "Book" cBook 5 Z7 (ISp (ZE cBadSize cBadWear cBook cShop)))
  (C_Shop_size_O : CalM P w K mg base cShop "size" 1 Zaf (ISp (Zas cShop)))
  (C_Shop_wear_O : CalM P w K mg base cShop "wear" 1 Zad (ISp (Zar cShop)))
  (FL_Book : Fls K cBook fl_Book) : FnOk P w K mg base CX0 7 f fd Zb6 (ISp (Zbq cBadSize cBadWear cBook cShop)) := by
 have nd := ZeM.nd
 refine F.ok ZeM (fun vs H Q E h => h.len) (fun cdv A outer s H vs Q E hr h => ?_)
 have hu := hu_of hr
 refine ⟨_, (pss_cons (ps_set (i := 1) nd rfl (.inl rfl) (Za7 C_Book (hr.mono (by omega)) (by rfl) takes0 (pa_cons (Zam C_Shop_size_O (hr.mono (by omega)) (pe_fld (pv 0) rfl)) (pa_cons (Zam C_Shop_wear_O (hr.mono (by omega)) (pe_fld (pv 0) rfl)) pa_nil))))
  (pss_cons (ps_fld (pv 1) (pe_fld (pv 0) rfl) rfl)
  (pss_cons (ps_fld (pv 1) (pe_callTy call_list_of (by rfl) T.list (by decide +kernel) (pa_cons (pe_fld (pv 0) rfl) pa_nil)) rfl)
  (pss_cons (ps_fld (pv 1) (pe_callTy call_list_of (by rfl) T.list (by decide +kernel) (pa_cons (pe_fld (pv 0) rfl) pa_nil)) rfl)
  (pss_cons (ps_fld (pv 1) (pe_callTy call_list_of (by rfl) T.list (by decide +kernel) (pa_cons (pe_fld (pv 0) rfl) pa_nil)) rfl)
  (pss_one (ps_ret (pv 1)))))))), ?_⟩
 exact ZF (kp := fun i => Nat.blt i 1) (N := Zfq) (s := Zdz cBadSize cBadWear cBook cShop) (ZdW (Zi (Zb0 (i := 1) rfl (ZbX Zk (Zl (ZM (ZgX Zk (ZeX (Zav (f := "house") FL_Book (by simp) (ZZ (i := 0)))) (ZA Zf))) (Zl (ZM (ZgX Zk (ZeX (Zav (f := "house") FL_Book (by simp) (ZZ (i := 0)))) (ZA Zf))) Z2))))
  (Zi (ZbD (i := 1) FL_Book (by simp) (ZeX (Zav (f := "house") FL_Book (by simp) (ZZ (i := 0)))))
  (Zi (Zz (i := 1) FL_Book (by simp) (Zfn (Zav FL_Book (by simp) (ZZ (i := 0)))))
  (Zi (Zz (i := 1) FL_Book (by simp) (Zfn (Zav FL_Book (by simp) (ZZ (i := 0)))))
  (Zi (Zz (i := 1) FL_Book (by simp) (Zfn (Zav FL_Book (by simp) (ZZ (i := 0)))))
  (Zfi (i := 1) rfl))))))) h
noncomputable abbrev ZdO : Stmt := inClass (top 50) 3
noncomputable abbrev ZfB : List Str := ["self"]
noncomputable abbrev Zcf : List Str := ["self"]
theorem ZeE : FnScope ZfB Zcf (defScope ZdO) := ⟨rfl, rfl, rfl, by decide +kernel, rfl, by decide +kernel, by decide +kernel⟩
noncomputable def ZdE (cBadSize cBadWear cBook cDesk cShop : Addr) : FS := (sRet (nAskP cBook "twin" (noX (Zbq cBadSize cBadWear cBook cShop)) (pF cDesk "kept_book" (pV 0)) aNil))
noncomputable def Zbh (cBadSize cBadWear cBook cDesk cShop : Addr) := fnI 1 1 (fun i => Nat.blt i 1) (ZdE cBadSize cBadWear cBook cDesk cShop)
set_option maxHeartbeats 8000000 in
theorem Ziv {f : Addr} {fd : FuncData} {cBadSize cBadWear cBook cDesk cShop : Addr} (T : Tx mg) (F : Fun K "book" "Desk.book" ZdO f fd)
  (C_Book_twin : CalM P w K mg base cBook "twin" 7 Zb6 (ISp (Zbq cBadSize cBadWear cBook cShop)))
  (FL_Desk : Fls K cDesk fl_Desk) : FnOk P w K mg base CX0 8 f fd Zcf (ISp (Zbh cBadSize cBadWear cBook cDesk cShop)) := by
 have nd := ZeE.nd
 refine F.ok ZeE (fun vs H Q E h => h.len) (fun cdv A outer s H vs Q E hr h => ?_)
 have hu := hu_of hr
 refine ⟨_, (pss_one (ps_ret (Zam C_Book_twin (hr.mono (by omega)) (pe_fld (pv 0) rfl)))), ?_⟩
 exact ZF (kp := fun i => Nat.blt i 1) (N := ZfB) (s := ZdE cBadSize cBadWear cBook cDesk cShop) (ZC (ZoF (Zav FL_Desk (by simp) (ZZ (i := 0))) Zk Zf)) h
noncomputable abbrev ZbA : Stmt := inClass (top 46) 0
noncomputable abbrev ZcX : List Str := ["self", "size"]
noncomputable abbrev ZaO : List Str := ["self", "size"]
theorem ZcG : FnScope ZcX ZaO (defScope ZbA) := ⟨rfl, rfl, rfl, by decide +kernel, rfl, by decide +kernel, by decide +kernel⟩
noncomputable def Zby (cAlbum cBadSize : Addr) : FS := (sSeq (sDropN (nX (xCallX (gR (ZaB cBadSize)) (aS (aCons (wV 1) aNil)))))
  (sSeq (sSetF cAlbum "field" 0 (xS (wV 1)))
  (sSetFN cAlbum "kept" 0 nDct)))
noncomputable def Zaj (cAlbum cBadSize : Addr) := fnI 2 2 (fun i => Nat.blt i 1) (Zby cAlbum cBadSize)
set_option maxHeartbeats 8000000 in
theorem Zfp {f : Addr} {fd : FuncData} {cAlbum cBadSize : Addr} (T : Tx mg) (F : Fun K "__init__" "Album.__init__" ZbA f fd)
  (C_need_size : CalX P w K mg base "need_size" 2 Zbf (XSp (ZaB cBadSize)))
  (FL_Album : Fls K cAlbum fl_Album) : FnOk P w K mg base (L2.CX P w) 3 f fd ZaO (ISp (Zaj cAlbum cBadSize)) := by
 have nd := ZcG.nd
 refine F.okX ZcG (fun vs H Q E h => h.len) (fun cdv A outer s H vs Q E hr h => ?_)
 have hu := hu_of hr
 refine ⟨_, (pss_cons (ps_expr (ZgN C_need_size (hr.mono (by omega)) (by rfl) (takes_of rfl rfl rfl rfl) (pa_cons (pv 1) pa_nil)))
  (pss_cons (ps_fld (pv 0) (pv 1) rfl)
  (pss_one (ps_fld (pv 0) pe_dnewK rfl)))), ?_⟩
 exact ZF (kp := fun i => Nat.blt i 1) (N := ZcX) (s := Zby cAlbum cBadSize) (Zi (Zbz (ZaA (Zf7 ZcL (ZA (Zb (Za (i := 1)) Zf)))))
  (Zi (ZbD (i := 0) FL_Album (by simp) (ZB (Za (i := 1))))
  (Zz (i := 0) FL_Album (by simp) Zgc))) h
noncomputable abbrev ZbT : Stmt := inClass (top 50) 0
noncomputable abbrev Zdk : List Str := ["self", "size", "wear"]
noncomputable abbrev Za1 : List Str := ["self", "size", "wear"]
theorem Zc3 : FnScope Zdk Za1 (defScope ZbT) := ⟨rfl, rfl, rfl, by decide +kernel, rfl, by decide +kernel, by decide +kernel⟩
noncomputable def ZbJ (cBadSize cBadWear cBook cDesk cShop : Addr) : FS := (sSetFN cDesk "kept_book" 0 (nNew cBook (ZE cBadSize cBadWear cBook cShop) (aS (aCons (wV 1) (aCons (wV 2) aNil)))))
noncomputable def Z8 (cBadSize cBadWear cBook cDesk cShop : Addr) := fnI 3 3 (fun i => Nat.blt i 1) (ZbJ cBadSize cBadWear cBook cDesk cShop)
set_option maxHeartbeats 8000000 in
theorem Zf0 {f : Addr} {fd : FuncData} {cBadSize cBadWear cBook cDesk cShop : Addr} (T : Tx mg) (F : Fun K "__init__" "Desk.__init__" ZbT f fd)
  (C_Book : CalN P w K mg base "Book" cBook 5 Z7 (ISp (ZE cBadSize cBadWear cBook cShop)))
  (FL_Desk : Fls K cDesk fl_Desk) : FnOk P w K mg base (L2.CX P w) 7 f fd Za1 (ISp (Z8 cBadSize cBadWear cBook cDesk cShop)) := by
 have nd := Zc3.nd
 refine F.okX Zc3 (fun vs H Q E h => h.len) (fun cdv A outer s H vs Q E hr h => ?_)
 have hu := hu_of hr
 refine ⟨_, (pss_one (ps_fld (pv 0) (Za7 C_Book (hr.mono (by omega)) (by rfl) (takes_of rfl rfl rfl rfl) (pa_cons (pv 1) (pa_cons (pv 2) pa_nil))) rfl)), ?_⟩
 exact ZF (kp := fun i => Nat.blt i 1) (N := Zdk) (s := ZbJ cBadSize cBadWear cBook cDesk cShop) (Zz (i := 0) FL_Desk (by simp) (ZbX Zk (ZA (Zb (Za (i := 1)) (Zb (Za (i := 2)) Zf))))) h
noncomputable abbrev ZdF : Stmt := top 59
noncomputable abbrev Zfv : List Str := ["_law_way", "_law_size", "_law_wear", "_law_made_here", "_law_why", "e"]
noncomputable abbrev Zce : List Str := ["_law_way", "_law_size", "_law_wear"]
theorem Ze6 : FnScope Zfv Zce (defScope ZdF) := ⟨rfl, rfl, rfl, by decide +kernel, rfl, by decide +kernel, by decide +kernel⟩
noncomputable def Zdv (cAlbum cBadSize cBadWear cBook cDesk cShop : Addr) : FS := (noEx (sSeq (sAsgN 3 (nX (xS (wC .none))))
  (sSeq (sAsg 4 (xS (wC (.str (Str.ofString "")))))
  (sSeq (sTryAs 5 [cBadSize, cBadWear] (sIf (bS (bW (wOp (oEq false) (wV 0) (wC (.int 0)))))
  (sAsgN 3 (nNew cShop (Zt cBadSize cBadWear cShop) (aS (aCons (wV 1) (aCons (wV 2) aNil)))))
  (sIf (bS (bW (wOp (oEq false) (wV 0) (wC (.int 1)))))
  (sAsgN 3 (nAskNew cBook "shop" (noX (ZaT cBadSize cBadWear cBook cShop)) (nNew cBook (ZE cBadSize cBadWear cBook cShop) (aS (aCons (wV 1) (aCons (wV 2) aNil))))))
  (sIf (bS (bW (wOp (oEq false) (wV 0) (wC (.int 2)))))
  (sAsgN 3 (nAskNew cBook "shop" (noX (ZaT cBadSize cBadWear cBook cShop)) (nAskNew cDesk "book" (noX (Zbh cBadSize cBadWear cBook cDesk cShop)) (nNew cDesk (Z8 cBadSize cBadWear cBook cDesk cShop) (aS (aCons (wV 1) (aCons (wV 2) aNil)))))))
  (sDropN (nNew cAlbum (Zaj cAlbum cBadSize) (aS (aCons (wV 1) aNil))))))) fun C => (sAsg 4 (xS (wOp oIxT (wTup (aCons (wC (.str (Str.ofString "size"))) (aCons (wC (.str (Str.ofString "wear"))) (aCons (wC (.str (Str.ofString "other"))) aNil)))) (wUn oIdxT (wC (dLB [decide (C = cBadSize), decide (C = cBadWear), true])))))))
  (sRetMk (fun i => Nat.blt i 0) .tup (aConsV 3 (aConsM (nX (xS (wV 4))) aNilM)))))))
noncomputable def Zbn (cAlbum cBadSize cBadWear cBook cDesk cShop : Addr) := fnI 3 6 (fun i => Nat.blt i 0) (Zdv cAlbum cBadSize cBadWear cBook cDesk cShop)
set_option maxHeartbeats 8000000 in
theorem Zi0 {f : Addr} {fd : FuncData} {cAlbum cB cBadSize cBadWear cBook cDesk cShop : Addr} (T : Tx mg) (F : Fun K "_law_made" "_law_made" ZdF f fd)
  (C_Book_shop : CalM P w K mg base cBook "shop" 6 Zb3 (ISp (ZaT cBadSize cBadWear cBook cShop)))
  (C_Desk_book : CalM P w K mg base cDesk "book" 8 Zcf (ISp (Zbh cBadSize cBadWear cBook cDesk cShop)))
  (C_Shop : CalN P w K mg base "Shop" cShop 3 ZS (ISp (Zt cBadSize cBadWear cShop)))
  (C_Album : CalN P w K mg base "Album" cAlbum 3 ZaO (ISp (Zaj cAlbum cBadSize)))
  (C_Book : CalN P w K mg base "Book" cBook 5 Z7 (ISp (ZE cBadSize cBadWear cBook cShop)))
  (C_Desk : CalN P w K mg base "Desk" cDesk 7 Za1 (ISp (Z8 cBadSize cBadWear cBook cDesk cShop)))
  (EBB : EBase K mg cB)
  (EB_BadSize : EB K mg cB "BadSize" cBadSize)
  (EB_BadWear : EB K mg cB "BadWear" cBadWear)
  (hn : [cB, cBadSize, cBadWear].Nodup) : FnOk P w K mg base CX0 9 f fd Zce (ISp (Zbn cAlbum cBadSize cBadWear cBook cDesk cShop)) := by
 have nd := Ze6.nd
 have hne_BadSize : cBadSize ≠ cB := fun e => by rw [e] at hn; simp at hn
 have hne_BadWear : cBadWear ≠ cB := fun e => by rw [e] at hn; simp at hn
 refine F.ok Ze6 (fun vs H Q E h => h.len) (fun cdv A outer s H vs Q E hr h => ?_)
 have hu := hu_of hr
 refine ⟨_, (pss_cons (ps_set (i := 3) nd rfl (.inl rfl) pe_non)
  (pss_cons (ps_set (i := 4) nd rfl (.inl rfl) pe_str)
  (pss_cons (ps_try_as (i := 5) (tb := fun W => _) (ts := fun a cls d => (tAsg (tOp (rIxT K) (tTup (tCons (tC (.str "size")) (tCons (tC (.str "wear")) (tCons (tC (.str "other")) tNil)))) (tBM K "list" (rIndex K) (tLst (tCons (tCB (rIsEG K cls d a) (tCons (tVar 5) (tCons (tC (.ref cBadSize)) tNil))) (tCons (tCB (rIsEG K cls d a) (tCons (tVar 5) (tCons (tC (.ref cBadWear)) tNil))) (tCons (tC (.bl true)) tNil)))) (tCons (tC (.bl true)) tNil))) (gName 4))) (Wout := fun _ _ _ _ => False) rfl rfl nd rfl rfl ⟨rfl, by decide, .inl EBB.gB⟩ takes0 (fun W pn xe tk po => (pss_one (ps_if (pt_cmpR op_eq (pv 0) pe_int (nomark _))
    (pss_one (ps_set (i := 3) nd rfl (.inl rfl) (Za7 C_Shop (hr.mono (by omega)) (by rfl) tk (pa_cons (pv 1) (pa_cons (pv 2) pa_nil)))))
    (pss_one (ps_if (pt_cmpR op_eq (pv 0) pe_int (nomark _))
     (pss_one (ps_set (i := 3) nd rfl (.inl rfl) (Zam C_Book_shop (hr.mono (by omega)) (Za7 C_Book (hr.mono (by omega)) (by rfl) tk (pa_cons (pv 1) (pa_cons (pv 2) pa_nil))))))
     (pss_one (ps_if (pt_cmpR op_eq (pv 0) pe_int (nomark _))
      (pss_one (ps_set (i := 3) nd rfl (.inl rfl) (Zam C_Book_shop (hr.mono (by omega)) (Zam C_Desk_book (hr.mono (by omega)) (Za7 C_Desk (hr.mono (by omega)) (by rfl) tk (pa_cons (pv 1) (pa_cons (pv 2) pa_nil)))))))
      (pss_one (ps_expr (Za7 C_Album (hr.mono (by omega)) (by rfl) tk (pa_cons (pv 1) pa_nil)))))))))))
   (fun a oe cls d pn hz hf => (pss_one (ps_set (i := 4) nd rfl (.inl rfl) (pe_ix ix_tup (pe_tup (pa_cons pe_str (pa_cons pe_str (pa_cons pe_str pa_nil)))) (pe_bm PySem.F.plainAttrs_list PySem.F.slot_list_index PySem.F.type_list_index mt_index (pe_lst (pa_cons (pe_callB (Zhy List.mem_cons_self hz hf) (by rfl) T.isinstance (by decide +kernel) (pa_cons (pv 5) (pa_cons (pe_glob (v := .ref cBadSize) rfl EB_BadSize.own.gC rfl) pa_nil))) (pa_cons (pe_callB (Zhy List.mem_cons_self hz hf) (by rfl) T.isinstance (by decide +kernel) (pa_cons (pv 5) (pa_cons (pe_glob (v := .ref cBadWear) rfl EB_BadWear.own.gC rfl) pa_nil))) (pa_cons pe_bl pa_nil)))) (pa_cons pe_bl pa_nil)) (fun _ _ => rfl))))))
  (pss_one (ps_ret (pe_tup (pa_cons (pv 3) (pa_cons (pv 4) pa_nil)))))))), ?_⟩
 exact ZF (kp := fun i => Nat.blt i 0) (N := Zfv) (s := Zdv cAlbum cBadSize cBadWear cBook cDesk cShop) (ZdW (Zi (Zb0 (i := 3) rfl (ZaA (ZB ZlS.w)))
  (Zi (Zbg (i := 4) rfl (ZB ZI.w))
  (Zi (Zl1 (i := 5) EBB (EBs.cons EB_BadSize hne_BadSize (EBs.cons EB_BadWear hne_BadWear EBs.nil)) (fun W => (ZaZ (Ze3 (Zan (Zs ZhN (Za (i := 0)) Ze.w).w))
  (Zb0 (i := 3) rfl (ZbX Zk (ZA (Zb (Za (i := 1)) (Zb (Za (i := 2)) Zf)))))
  (ZaZ (Ze3 (Zan (Zs ZhN (Za (i := 0)) Ze.w).w))
  (Zb0 (i := 3) rfl (Ze2 Zk (ZbX Zk (ZA (Zb (Za (i := 1)) (Zb (Za (i := 2)) Zf))))))
  (ZaZ (Ze3 (Zan (Zs ZhN (Za (i := 0)) Ze.w).w))
  (Zb0 (i := 3) rfl (Ze2 Zk (Ze2 Zk (ZbX Zk (ZA (Zb (Za (i := 1)) (Zb (Za (i := 2)) Zf)))))))
  (Zbz (ZbX Zk (ZA (Zb (Za (i := 1)) Zf)))))))) (fun C x hC eb => (Zrt (j := 4) rfl (by decide) (Zqm Zd6 (ZlX (ZlQ (Zb ZI.w (Zb ZI.w (Zb ZI.w Zf)))).w) (Zlp (ZpY (ZkY eb EB_BadSize hne_BadSize (ZkY eb EB_BadWear hne_BadWear (ZmL ZpL)))))))))
  (ZmS (ZqK (i := 3) (ZoY (ZaA (ZB (Za (i := 4)))) ZrQ))))))) h
noncomputable abbrev Zeh : Stmt := top 55
noncomputable abbrev Zgq : List Str := ["_law_draw", "_law_number"]
noncomputable abbrev ZcM : List Str := ["_law_draw"]
theorem ZfD : FnScope Zgq ZcM (defScope Zeh) := ⟨rfl, rfl, rfl, by decide +kernel, rfl, by decide +kernel, by decide +kernel⟩
noncomputable def Zeg : FS := (sSeq (sAsg 1 (xN (nCallI (noX f__law_take) [0] (aS (aCons (wOp oPow (wC (.int 10)) (wC (.int 9))) aNil)))))
  (sRet (nX (xOp oIxT (xS (wTup (aCons (wUn oNeg (wC (.int 1))) (aCons (wC (.int 0)) (aCons (wC (.int 1)) (aCons (wC (.int 25)) (aCons (wC (.int 61)) (aCons (wV 1) (aCons (wOp oSub (wUn oNeg (wC (.int 1))) (wV 1)) (aCons (wOp oMul (wV 1) (wOp oPow (wC (.int 10)) (wC (.int 20)))) (aCons (wOp oMul (wUn oNeg (wV 1)) (wOp oPow (wC (.int 10)) (wC (.int 20)))) aNil))))))))))) (xN (nCallI (noX f__law_take) [0] (aS (aCons (wC (.int 9)) aNil))))))))
noncomputable def f__law_odd := fnI 1 2 (fun i => Nat.blt i 1) (Zeg)
set_option maxHeartbeats 8000000 in
theorem Zjr {f : Addr} {fd : FuncData} (T : Tx mg) (F : Fun K "_law_odd" "_law_odd" Zeh f fd)
  (C__law_take : Cal P w K mg base "_law_take" 1 Zbe (ISp f__law_take)) : FnOk P w K mg base CX0 2 f fd ZcM (ISp f__law_odd) := by
 have nd := ZfD.nd
 refine F.ok ZfD (fun vs H Q E h => h.len) (fun cdv A outer s H vs Q E hr h => ?_)
 have hu := hu_of hr
 refine ⟨_, (pss_cons (ps_set (i := 1) nd rfl (.inl rfl) (ZL C__law_take (hr.mono (by omega)) (by rfl) (pa_cons (pv 0) (pa_cons (pe_op op_pow pe_int pe_int) pa_nil))))
  (pss_one (ps_ret (pe_ix ix_tup (pe_tup (pa_cons (pe_un un_neg pe_int) (pa_cons pe_int (pa_cons pe_int (pa_cons pe_int (pa_cons pe_int (pa_cons (pv 1) (pa_cons (pe_op op_sub (pe_un un_neg pe_int) (pv 1)) (pa_cons (pe_op op_mul (pv 1) (pe_op op_pow pe_int pe_int)) (pa_cons (pe_op op_mul (pe_un un_neg (pv 1)) (pe_op op_pow pe_int pe_int)) pa_nil)))))))))) (ZL C__law_take (hr.mono (by omega)) (by rfl) (pa_cons (pv 0) (pa_cons pe_int pa_nil))) (fun _ _ => rfl))))), ?_⟩
 exact ZF (kp := fun i => Nat.blt i 1) (N := Zgq) (s := Zeg) (Zi (Zbg (i := 1) rfl (ZM (ZT (is := [0]) Zk (ZA (Zb (Zs ZgB Ze.w Ze.w).w Zf)))))
  (ZC (ZaA (ZcN (Zd6) (ZB (ZlQ (Zb (Zfh ZeD Ze.w) (Zb Ze.w (Zb Ze.w (Zb Ze.w (Zb Ze.w (Zb (Za (i := 1)) (Zb (Zs Zgi (Zfh ZeD Ze.w) (Za (i := 1))).w (Zb (Zs Zcl (Za (i := 1)) (Zs ZgB Ze.w Ze.w).w).w (Zb (Zs Zcl (Zfh ZeD (Za (i := 1))) (Zs ZgB Ze.w Ze.w).w).w Zf)))))))))).w) (ZM (ZT (is := [0]) Zk (ZA (Zb Ze.w Zf)))))))) h
noncomputable abbrev Zdr : Stmt := inClass (top 44) 20
noncomputable abbrev Zfz : List Str := ["self"]
noncomputable abbrev Zcd : List Str := ["self"]
theorem ZeW : FnScope Zfz Zcd (defScope Zdr) := ⟨rfl, rfl, rfl, by decide +kernel, rfl, by decide +kernel, by decide +kernel⟩
noncomputable def Zds (cShop : Addr) : FS := (sRet (nX (xW (wCb cLen (aCons (wUn (oFld cShop "block_states") (wV 0)) aNil)))))
noncomputable def Zbi (cShop : Addr) := fnI 1 1 (fun i => Nat.blt i 1) (Zds cShop)
set_option maxHeartbeats 8000000 in
theorem Zia {f : Addr} {fd : FuncData} {cShop : Addr} (T : Tx mg) (F : Fun K "cuts" "Shop.cuts" Zdr f fd)
  (FL_Shop : Fls K cShop fl_Shop) : FnOk P w K mg base CX0 1 f fd Zcd (ISp (Zbi cShop)) := by
 have nd := ZeW.nd
 refine F.ok ZeW (fun vs H Q E h => h.len) (fun cdv A outer s H vs Q E hr h => ?_)
 have hu := hu_of hr
 refine ⟨_, (pss_one (ps_ret (pe_callB call_len_seq (by rfl) T.len PySem.boot_len (pa_cons (pe_fld (pv 0) rfl) pa_nil)))), ?_⟩
 exact ZF (kp := fun i => Nat.blt i 1) (N := Zfz) (s := Zds cShop) (ZC (ZaA (ZaM (Zat ZeP (Zb (ZG FL_Shop (by simp) (Za (i := 0))) Zf)).w))) h
noncomputable abbrev ZcC : Stmt := inClass (top 44) 24
noncomputable abbrev Zen : List Str := ["self"]
noncomputable abbrev Zbv : List Str := ["self"]
theorem Zd2 : FnScope Zen Zbv (defScope ZcC) := ⟨rfl, rfl, rfl, by decide +kernel, rfl, by decide +kernel, by decide +kernel⟩
noncomputable def ZcA (cShop : Addr) : FS := (sRet (nFW (wCb cSortDI (aCons (wUn (oFld cShop "sheet_looks") (wV 0)) aNil))))
noncomputable def ZaR (cShop : Addr) := fnI 1 1 (fun i => Nat.blt i 1) (ZcA cShop)
set_option maxHeartbeats 8000000 in
theorem Zg8 {f : Addr} {fd : FuncData} {cShop : Addr} (T : Tx mg) (F : Fun K "sheets" "Shop.sheets" ZcC f fd)
  (FL_Shop : Fls K cShop fl_Shop) : FnOk P w K mg base CX0 1 f fd Zbv (ISp (ZaR cShop)) := by
 have nd := Zd2.nd
 refine F.ok Zd2 (fun vs H Q E h => h.len) (fun cdv A outer s H vs Q E hr h => ?_)
 have hu := hu_of hr
 refine ⟨_, (pss_one (ps_ret (pe_callB (call_sortedDI rfl) (by rfl) T.sorted (by decide +kernel) (pa_cons (pe_fld (pv 0) rfl) pa_nil)))), ?_⟩
 exact ZF (kp := fun i => Nat.blt i 1) (N := Zen) (s := ZcA cShop) (ZC (Zff (Zat Zhe (Zb (ZG FL_Shop (by simp) (Za (i := 0))) Zf)))) h
noncomputable abbrev Zcx : Stmt := inClass (top 44) 27
noncomputable abbrev Zep : List Str := ["self"]
noncomputable abbrev Zbw : List Str := ["self"]
theorem ZdU : FnScope Zep Zbw (defScope Zcx) := ⟨rfl, rfl, rfl, by decide +kernel, rfl, by decide +kernel, by decide +kernel⟩
noncomputable def Zcz (cShop : Addr) : FS := (sRet (nFW (wCb cSortDS (aCons (wUn (oFld cShop "wished") (wV 0)) aNil))))
noncomputable def ZaS (cShop : Addr) := fnI 1 1 (fun i => Nat.blt i 1) (Zcz cShop)
set_option maxHeartbeats 8000000 in
theorem Zg1 {f : Addr} {fd : FuncData} {cShop : Addr} (T : Tx mg) (F : Fun K "wishes" "Shop.wishes" Zcx f fd)
  (FL_Shop : Fls K cShop fl_Shop) : FnOk P w K mg base CX0 1 f fd Zbw (ISp (ZaS cShop)) := by
 have nd := ZdU.nd
 refine F.ok ZdU (fun vs H Q E h => h.len) (fun cdv A outer s H vs Q E hr h => ?_)
 have hu := hu_of hr
 refine ⟨_, (pss_one (ps_ret (pe_callB (call_sortedD rfl) (by rfl) T.sorted (by decide +kernel) (pa_cons (pe_fld (pv 0) rfl) pa_nil)))), ?_⟩
 exact ZF (kp := fun i => Nat.blt i 1) (N := Zep) (s := Zcz cShop) (ZC (Zff (Zat Zhp (Zb (ZG FL_Shop (by simp) (Za (i := 0))) Zf)))) h
noncomputable abbrev Zbb : Stmt := inClass (top 44) 6
noncomputable abbrev ZcI : List Str := ["self", "sheet"]
noncomputable abbrev Zab : List Str := ["self", "sheet"]
theorem Zcr : FnScope ZcI Zab (defScope Zbb) := ⟨rfl, rfl, rfl, by decide +kernel, rfl, by decide +kernel, by decide +kernel⟩
noncomputable def Za8 (cNoSheet cShop : Addr) : FS := (sIf (bWk (bW (wOp (oDIn true) (wV 1) (wUn (oFld cShop "sheet_looks") (wV 0)))))
  (sRaise cNoSheet)
  sNil)
noncomputable def ZN (cNoSheet cShop : Addr) := fnI 2 2 (fun i => Nat.blt i 1) (Za8 cNoSheet cShop)
set_option maxHeartbeats 8000000 in
theorem ZeS {f : Addr} {fd : FuncData} {cNoSheet cShop : Addr} (T : Tx mg) (F : Fun K "need_sheet" "Shop.need_sheet" Zbb f fd)
  (EX_NoSheet : ExC K mg "NoSheet" cNoSheet)
  (FL_Shop : Fls K cShop fl_Shop) : FnOk P w K mg base (L2.CX P w) 1 f fd Zab (ISp (ZN cNoSheet cShop)) := by
 have nd := Zcr.nd
 refine F.okX Zcr (fun vs H Q E h => h.len) (fun cdv A outer s H vs Q E hr h => ?_)
 have hu := hu_of hr
 refine ⟨_, (pss_one (ps_if (pt_cmp (pc_dnotin hu (pv 1) (pe_fld (pv 0) rfl)))
   (pss_one (Zcp rfl (takes_of rfl rfl rfl rfl) EX_NoSheet rfl))
   pss_nil)), ?_⟩
 exact ZF (kp := fun i => Nat.blt i 1) (N := ZcI) (s := Za8 cNoSheet cShop) (ZaZ (ZfV (Zje (ZlV (Za (i := 1)) (ZG FL_Shop (by simp) (Za (i := 0))))))
  Zf8
  Zbt) h
noncomputable abbrev Zdt : Stmt := inClass (top 44) 25
noncomputable abbrev ZfM : List Str := ["self", "sheet"]
noncomputable abbrev Zci : List Str := ["self", "sheet"]
theorem ZeC : FnScope ZfM Zci (defScope Zdt) := ⟨rfl, rfl, rfl, by decide +kernel, rfl, by decide +kernel, by decide +kernel⟩
noncomputable def Zdw (cNoSheet cShop : Addr) : FS := (sSeq (sDropN (nAsk cShop "need_sheet" 0 (nCallI (ZN cNoSheet cShop) [0] (aS (aCons (wV 1) aNil)))))
  (sRet (nFW (wCb cList (aCons (wOp oDGet (wUn (oFld cShop "sheet_looks") (wV 0)) (wV 1)) aNil)))))
noncomputable def Zbd (cNoSheet cShop : Addr) := fnI 2 2 (fun i => Nat.blt i 1) (Zdw cNoSheet cShop)
set_option maxHeartbeats 8000000 in
theorem ZiB {f : Addr} {fd : FuncData} {cNoSheet cShop : Addr} (T : Tx mg) (F : Fun K "look" "Shop.look" Zdt f fd)
  (C_Shop_need_sheet : CalMX P w K mg base cShop "need_sheet" 1 Zab (ISp (ZN cNoSheet cShop)))
  (FL_Shop : Fls K cShop fl_Shop) : FnOk P w K mg base (L2.CX P w) 2 f fd Zci (ISp (Zbd cNoSheet cShop)) := by
 have nd := ZeC.nd
 refine F.okX ZeC (fun vs H Q E h => h.len) (fun cdv A outer s H vs Q E hr h => ?_)
 have hu := hu_of hr
 refine ⟨_, (pss_cons (ps_expr (ZaI C_Shop_need_sheet (hr.mono (by omega)) (takes_of rfl rfl rfl rfl) (pv 0) (pa_cons (pv 1) pa_nil)))
  (pss_one (ps_ret (pe_callTy call_list_of (by rfl) T.list (by decide +kernel) (pa_cons (pe_dget hu (pe_fld (pv 0) rfl) (pv 1) (fun _ _ => rfl)) pa_nil))))), ?_⟩
 exact ZF (kp := fun i => Nat.blt i 1) (N := ZfM) (s := Zdw cNoSheet cShop) (Zi (Zbz (ZaE (Z5 (is := [0]) Zk (ZA (Zb (Za (i := 1)) Zf)))))
  (ZC (Zff (Zat ZcP (Zb (Zah (ZG FL_Shop (by simp) (Za (i := 0))) (Za (i := 1))) Zf))))) h
noncomputable abbrev ZcW : Stmt := inClass (top 44) 26
noncomputable abbrev ZeA : List Str := ["self", "sheet"]
noncomputable abbrev ZbK : List Str := ["self", "sheet"]
theorem Zeq : FnScope ZeA ZbK (defScope ZcW) := ⟨rfl, rfl, rfl, by decide +kernel, rfl, by decide +kernel, by decide +kernel⟩
noncomputable def Zc6 (cNoSheet cShop : Addr) : FS := (sSeq (sDropN (nAsk cShop "need_sheet" 0 (nCallI (ZN cNoSheet cShop) [0] (aS (aCons (wV 1) aNil)))))
  (sRet (nCbF cList (aConsX (xP (pD (pF cShop "sheet_stories" (pV 0)) (wV 1))) aNilX))))
noncomputable def Za2 (cNoSheet cShop : Addr) := fnI 2 2 (fun i => Nat.blt i 1) (Zc6 cNoSheet cShop)
set_option maxHeartbeats 8000000 in
theorem ZhF {f : Addr} {fd : FuncData} {cNoSheet cShop : Addr} (T : Tx mg) (F : Fun K "story" "Shop.story" ZcW f fd)
  (C_Shop_need_sheet : CalMX P w K mg base cShop "need_sheet" 1 Zab (ISp (ZN cNoSheet cShop)))
  (FL_Shop : Fls K cShop fl_Shop) : FnOk P w K mg base (L2.CX P w) 2 f fd ZbK (ISp (Za2 cNoSheet cShop)) := by
 have nd := Zeq.nd
 refine F.okX Zeq (fun vs H Q E h => h.len) (fun cdv A outer s H vs Q E hr h => ?_)
 have hu := hu_of hr
 refine ⟨_, (pss_cons (ps_expr (ZaI C_Shop_need_sheet (hr.mono (by omega)) (takes_of rfl rfl rfl rfl) (pv 0) (pa_cons (pv 1) pa_nil)))
  (pss_one (ps_ret (pe_callTy call_list_of (by rfl) T.list (by decide +kernel) (pa_cons (pe_dget hu (pe_fld (pv 0) rfl) (pv 1) (fun _ _ => rfl)) pa_nil))))), ?_⟩
 exact ZF (kp := fun i => Nat.blt i 1) (N := ZeA) (s := Zc6 cNoSheet cShop) (Zi (Zbz (ZaE (Z5 (is := [0]) Zk (ZA (Zb (Za (i := 1)) Zf)))))
  (ZC (Zk0 ZcP (Zl (ZeX (Zd7 (Zav FL_Shop (by simp) (ZZ (i := 0))) (Za (i := 1)))) Z2)))) h
noncomputable abbrev Za9 : Stmt := inClass (top 44) 5
noncomputable abbrev ZcH : List Str := ["self", "block"]
noncomputable abbrev ZaD : List Str := ["self", "block"]
theorem Zcm : FnScope ZcH ZaD (defScope Za9) := ⟨rfl, rfl, rfl, by decide +kernel, rfl, by decide +kernel, by decide +kernel⟩
noncomputable def Zba (cNoBlock cShop : Addr) : FS := (sIf (bWk (bNot (bW (wCb (gR ZaK) (aCons (wV 1) (aCons (wC (.int 0)) (aCons (wOp oSub (wCb cLen (aCons (wUn (oFld cShop "block_states") (wV 0)) aNil)) (wC (.int 1))) aNil)))))))
  (sRaise cNoBlock)
  sNil)
noncomputable def Zaa (cNoBlock cShop : Addr) := fnI 2 2 (fun i => Nat.blt i 1) (Zba cNoBlock cShop)
set_option maxHeartbeats 8000000 in
theorem ZeJ {f : Addr} {fd : FuncData} {cNoBlock cShop : Addr} (T : Tx mg) (F : Fun K "need_block" "Shop.need_block" Za9 f fd)
  (C_between : Cal P w K mg base "between" 1 ZbE (PSp ZaK))
  (EX_NoBlock : ExC K mg "NoBlock" cNoBlock)
  (FL_Shop : Fls K cShop fl_Shop) : FnOk P w K mg base (L2.CX P w) 2 f fd ZaD (ISp (Zaa cNoBlock cShop)) := by
 have nd := Zcm.nd
 refine F.okX Zcm (fun vs H Q E h => h.len) (fun cdv A outer s H vs Q E hr h => ?_)
 have hu := hu_of hr
 refine ⟨_, (pss_one (ps_if (pt_not (pt_val (ZL C_between (hr.mono (by omega)) (by rfl) (pa_cons (pv 1) (pa_cons pe_int (pa_cons (pe_op op_sub (pe_callB call_len_seq (by rfl) T.len PySem.boot_len (pa_cons (pe_fld (pv 0) rfl) pa_nil)) pe_int) pa_nil))))))
   (pss_one (Zcp rfl (takes_of rfl rfl rfl rfl) EX_NoBlock rfl))
   pss_nil)), ?_⟩
 exact ZF (kp := fun i => Nat.blt i 1) (N := ZcH) (s := Zba cNoBlock cShop) (ZaZ (ZfV (Zge (Zje (Zef ZcL (Zb (Za (i := 1)) (Zb Ze.w (Zb (Zs Zgi (Zat ZeP (Zb (ZG FL_Shop (by simp) (Za (i := 0))) Zf)).w Ze.w).w Zf)))))))
  Zf8
  Zbt) h
noncomputable abbrev Zcy : Stmt := inClass (top 44) 21
noncomputable abbrev Zer : List Str := ["self", "block"]
noncomputable abbrev Zap : List Str := ["self", "block"]
theorem ZdT : FnScope Zer Zap (defScope Zcy) := ⟨rfl, rfl, rfl, by decide +kernel, rfl, by decide +kernel, by decide +kernel⟩
noncomputable def ZcE (cNoBlock cShop : Addr) : FS := (sSeq (sDropN (nAsk cShop "need_block" 0 (nCallI (Zaa cNoBlock cShop) [0] (aS (aCons (wV 1) aNil)))))
  (sRet (nLstC (pI (pF cShop "block_states" (pV 0)) (wV 1)))))
noncomputable def ZP (cNoBlock cShop : Addr) := fnI 2 2 (fun i => Nat.blt i 1) (ZcE cNoBlock cShop)
set_option maxHeartbeats 8000000 in
theorem ZgT {f : Addr} {fd : FuncData} {cNoBlock cShop : Addr} (T : Tx mg) (F : Fun K "states" "Shop.states" Zcy f fd)
  (C_Shop_need_block : CalMX P w K mg base cShop "need_block" 2 ZaD (ISp (Zaa cNoBlock cShop)))
  (FL_Shop : Fls K cShop fl_Shop) : FnOk P w K mg base (L2.CX P w) 3 f fd Zap (ISp (ZP cNoBlock cShop)) := by
 have nd := ZdT.nd
 refine F.okX ZdT (fun vs H Q E h => h.len) (fun cdv A outer s H vs Q E hr h => ?_)
 have hu := hu_of hr
 refine ⟨_, (pss_cons (ps_expr (ZaI C_Shop_need_block (hr.mono (by omega)) (takes_of rfl rfl rfl rfl) (pv 0) (pa_cons (pv 1) pa_nil)))
  (pss_one (ps_ret (pe_callTy call_list_of (by rfl) T.list (by decide +kernel) (pa_cons (pe_ix ix_list (pe_fld (pv 0) rfl) (pv 1) (fun _ _ => rfl)) pa_nil))))), ?_⟩
 exact ZF (kp := fun i => Nat.blt i 1) (N := Zer) (s := ZcE cNoBlock cShop) (Zi (Zbz (ZaE (Z5 (is := [0]) Zk (ZA (Zb (Za (i := 1)) Zf)))))
  (ZC (Zfn (ZnN (Zav FL_Shop (by simp) (ZZ (i := 0))) (Za (i := 1)))))) h
noncomputable abbrev Zb9 : Stmt := inClass (top 44) 23
noncomputable abbrev Zdo : List Str := ["self", "block", "cells", "pulls"]
noncomputable abbrev Zb5 : List Str := ["self", "block"]
theorem Zew : FnScope Zdo Zb5 (defScope Zb9) := ⟨rfl, rfl, rfl, by decide +kernel, rfl, by decide +kernel, by decide +kernel⟩
noncomputable def Zdu (cNoBlock cShop : Addr) : FS := (sRet (nX (xOp oSub (xW (wUn (oFld cShop "strength") (wV 0))) (xCb cSum (aConsX (xN (nLcT (iX asL (xN (nAsk cShop "states" 0 (nCallI (ZP cNoBlock cShop) [0] (aS (aCons (wV 1) aNil)))))) (eTup 2 (eCons (eName 2) (eCons (eName 3) eNil))) (bS bYes) (xS (wV 3)) [2, 3])) aNilX)))))
noncomputable def Zbo (cNoBlock cShop : Addr) := fnI 2 4 (fun i => Nat.blt i 1) (Zdu cNoBlock cShop)
set_option maxHeartbeats 8000000 in
theorem ZiD {f : Addr} {fd : FuncData} {cNoBlock cShop : Addr} (T : Tx mg) (F : Fun K "left" "Shop.left" Zb9 f fd)
  (C_Shop_states : CalMX P w K mg base cShop "states" 3 Zap (ISp (ZP cNoBlock cShop)))
  (FL_Shop : Fls K cShop fl_Shop) : FnOk P w K mg base (L2.CX P w) 4 f fd Zb5 (ISp (Zbo cNoBlock cShop)) := by
 have nd := Zew.nd
 refine F.okX Zew (fun vs H Q E h => h.len) (fun cdv A outer s H vs Q E hr h => ?_)
 have hu := hu_of hr
 refine ⟨_, (pss_one (ps_ret (pe_op op_sub (pe_fld (pv 0) rfl) (pe_callB (cr_sum rfl) (by rfl) T.sum (by decide +kernel) (pa_cons (pe_lc (own := [("cells", 2), ("pulls", 3)]) (g := gTup K 2 (gCons (gName 2) (gCons (gName 3) gNil))) (tt := tYes) (te := (tVar 3)) (by rfl) nd (pi_list (ZaI C_Shop_states (hr.mono (by omega)) (takes_of rfl rfl rfl rfl) (pv 0) (pa_cons (pv 1) pa_nil))) (blkOk_by (N := Zdo) (sc := defScope Zb9) (by decide +kernel)) (fun _ _ _ _ _ => (pg_tup rfl (pgs_cons (pg_name (i := 2) nd rfl (.inl rfl)) (pgs_cons (pg_name (i := 3) nd rfl (.inl rfl)) pgs_nil)))) (fun _ _ _ _ _ => pts_nil) (fun _ _ _ _ _ => (pv 3))) pa_nil))))), ?_⟩
 exact ZF (kp := fun i => Nat.blt i 1) (N := Zdo) (s := Zdu cNoBlock cShop) (ZC (ZaA (ZcN (OpF.ok Zgi) (ZaM (ZG FL_Shop (by simp) (Za (i := 0)))) (ZnO (CbF.ok Zlj) (Zl (ZM (ZlO (K := K) (vs := [2, 3]) (ZmY (ZM (ZaE (Z5 (is := [0]) Zk (ZA (Zb (Za (i := 1)) Zf)))))) (Zq9 (Zjl (ZbY (j := 2) rfl) (Zjl (ZbY (j := 3) rfl) ZnY))) (Ze3 ZgK) (ZB (Za (i := 3))))) Z2))))) h
noncomputable abbrev ZdG : Stmt := inClass (top 44) 28
noncomputable abbrev Zfy : List Str := ["self", "name"]
noncomputable abbrev Zb7 : List Str := ["self", "name"]
theorem ZeT : FnScope Zfy Zb7 (defScope ZdG) := ⟨rfl, rfl, rfl, by decide +kernel, rfl, by decide +kernel, by decide +kernel⟩
noncomputable def Zdq (cNoWish cShop : Addr) : FS := (sSeq (sIf (bWk (bW (wOp (oDIn true) (wV 1) (wUn (oFld cShop "wished") (wV 0)))))
  (sRaise cNoWish)
  sNil)
  (sRet (nFW (wCb cList (aCons (wOp oDGet (wUn (oFld cShop "wished") (wV 0)) (wV 1)) aNil)))))
noncomputable def ZaV (cNoWish cShop : Addr) := fnI 2 2 (fun i => Nat.blt i 1) (Zdq cNoWish cShop)
set_option maxHeartbeats 8000000 in
theorem Zig {f : Addr} {fd : FuncData} {cNoWish cShop : Addr} (T : Tx mg) (F : Fun K "wish" "Shop.wish" ZdG f fd)
  (EX_NoWish : ExC K mg "NoWish" cNoWish)
  (FL_Shop : Fls K cShop fl_Shop) : FnOk P w K mg base (L2.CX P w) 1 f fd Zb7 (ISp (ZaV cNoWish cShop)) := by
 have nd := ZeT.nd
 refine F.okX ZeT (fun vs H Q E h => h.len) (fun cdv A outer s H vs Q E hr h => ?_)
 have hu := hu_of hr
 refine ⟨_, (pss_cons (ps_if (pt_cmp (pc_dnotin hu (pv 1) (pe_fld (pv 0) rfl)))
   (pss_one (Zcp rfl (takes_of rfl rfl rfl rfl) EX_NoWish rfl))
   pss_nil)
  (pss_one (ps_ret (pe_callTy call_list_of (by rfl) T.list (by decide +kernel) (pa_cons (pe_dget hu (pe_fld (pv 0) rfl) (pv 1) (fun _ _ => rfl)) pa_nil))))), ?_⟩
 exact ZF (kp := fun i => Nat.blt i 1) (N := Zfy) (s := Zdq cNoWish cShop) (Zi (ZaZ (ZfV (Zje (ZlV (Za (i := 1)) (ZG FL_Shop (by simp) (Za (i := 0))))))
  Zf8
  Zbt)
  (ZC (Zff (Zat ZcP (Zb (Zah (ZG FL_Shop (by simp) (Za (i := 0))) (Za (i := 1))) Zf))))) h
noncomputable abbrev ZbM : Stmt := inClass (top 44) 22
noncomputable abbrev Zde : List Str := ["self", "block"]
noncomputable abbrev Za0 : List Str := ["self", "block"]
theorem Zc5 : FnScope Zde Za0 (defScope ZbM) := ⟨rfl, rfl, rfl, by decide +kernel, rfl, by decide +kernel, by decide +kernel⟩
noncomputable def ZbO (cNoBlock cShop : Addr) : FS := (sRet (nCbF cList (aConsX (xOp oIxT (xOp oIxL (xN (nAsk cShop "states" 0 (nCallI (ZP cNoBlock cShop) [0] (aS (aCons (wV 1) aNil))))) (xS (wUn oNeg (wC (.int 1))))) (xS (wC (.int 0)))) aNilX)))
noncomputable def Zau (cNoBlock cShop : Addr) := fnI 2 2 (fun i => Nat.blt i 1) (ZbO cNoBlock cShop)
set_option maxHeartbeats 8000000 in
theorem ZfN {f : Addr} {fd : FuncData} {cNoBlock cShop : Addr} (T : Tx mg) (F : Fun K "standing" "Shop.standing" ZbM f fd)
  (C_Shop_states : CalMX P w K mg base cShop "states" 3 Zap (ISp (ZP cNoBlock cShop))) : FnOk P w K mg base (L2.CX P w) 4 f fd Za0 (ISp (Zau cNoBlock cShop)) := by
 have nd := Zc5.nd
 refine F.okX Zc5 (fun vs H Q E h => h.len) (fun cdv A outer s H vs Q E hr h => ?_)
 have hu := hu_of hr
 refine ⟨_, (pss_one (ps_ret (pe_callTy call_list_of (by rfl) T.list (by decide +kernel) (pa_cons (pe_ix ix_tup (pe_ix ix_list (ZaI C_Shop_states (hr.mono (by omega)) (takes_of rfl rfl rfl rfl) (pv 0) (pa_cons (pv 1) pa_nil)) (pe_un un_neg pe_int) (fun _ _ => rfl)) pe_int (fun _ _ => rfl)) pa_nil)))), ?_⟩
 exact ZF (kp := fun i => Nat.blt i 1) (N := Zde) (s := ZbO cNoBlock cShop) (ZC (Zk0 ZcP (Zl (ZcN (Zd6) (ZcN (ZQ) (ZM (ZaE (Z5 (is := [0]) Zk (ZA (Zb (Za (i := 1)) Zf))))) (ZB (Zfh ZeD Ze.w))) (ZB Ze.w)) Z2))) h
noncomputable abbrev Zbr : Stmt := top 54
noncomputable abbrev ZfA : List Str := ["_law_found", "_law_due", "_law_one", "_law_other"]
noncomputable abbrev Zay : List Str := ["_law_found", "_law_due"]
theorem Zc2 : FnScope ZfA Zay (defScope Zbr) := ⟨rfl, rfl, rfl, by decide +kernel, rfl, by decide +kernel, by decide +kernel⟩
noncomputable def Zbm : Nat → List PyData → PyData → Prop
 | 0 => fun _ _ => False
 | n + 1 => fun ds d => ∃ e, ds = [e, e] ∧ Sm n e ∧ d = .bool true
theorem Zin {α : Type} (xs : List α) : (xs.map fun _ => true).all id = true := by simp
set_option maxHeartbeats 8000000 in
theorem ZhG {f : Addr} {fd : FuncData} (T : Tx mg) (F : Fun K "_law_same" "_law_same" Zbr f fd) (n : Nat) (C__law_same : Cal P w K mg base "_law_same" (n + 1) Zay (PSp (Zbm n))) : FnOk P w K mg base CX0 (n + 2) f fd Zay (PSp (Zbm (n + 1))) := by
 have nd := Zc2.nd
 refine F.ok Zc2 (fun vs H Q E h => ?_) (fun cdv A outer s H vs Q E hr h => ?_)
 ·obtain ⟨G, ds, d, gh, dv, ⟨e, rfl, _⟩, _⟩ := h
  exact dv.len
 ·obtain ⟨G, ds, d, gh, dv, ⟨e, rfl, hS, rfl⟩, q⟩ := h
  obtain ⟨v, u, rfl, dv1, du1⟩ := dv.two
  refine ⟨_, (pss_cons (ps_if (pt_val (pe_callB call_isiT (by rfl) T.isinstance (by decide +kernel) (pa_cons (pv 1) (pa_cons (pe_tup (pa_cons (pe_bltn (v := .ty "list") (u := .type "list") (by rfl) T.list (by decide +kernel) rfl) (pa_cons (pe_bltn (v := .ty "tuple") (u := .type "tuple") (by rfl) T.tuple (by decide +kernel) rfl) pa_nil))) pa_nil))))
   (pss_cons (ps_if (PW.pt (pw_or (pt_cmpR op_ne (pe_callB call_isi (by rfl) T.isinstance (by decide +kernel) (pa_cons (pv 0) (pa_cons (pe_bltn (v := .ty "list") (u := .type "list") (by rfl) T.list (by decide +kernel) rfl) pa_nil))) (pe_callB call_isi (by rfl) T.isinstance (by decide +kernel) (pa_cons (pv 1) (pa_cons (pe_bltn (v := .ty "list") (u := .type "list") (by rfl) T.list (by decide +kernel) rfl) pa_nil))) (nomark _)) (pw_or1 (pt_cmpR op_ne (pe_callB call_isi (by rfl) T.isinstance (by decide +kernel) (pa_cons (pv 0) (pa_cons (pe_bltn (v := .ty "tuple") (u := .type "tuple") (by rfl) T.tuple (by decide +kernel) rfl) pa_nil))) (pe_callB call_isi (by rfl) T.isinstance (by decide +kernel) (pa_cons (pv 1) (pa_cons (pe_bltn (v := .ty "tuple") (u := .type "tuple") (by rfl) T.tuple (by decide +kernel) rfl) pa_nil))) (nomark _)))))
    (pss_one (ps_ret pe_bl))
    pss_nil)
   (pss_one (ps_ret (pe_and (pe_cmpR op_eq (pe_callB call_len_seq (by rfl) T.len PySem.boot_len (pa_cons (pv 0) pa_nil)) (pe_callB call_len_seq (by rfl) T.len PySem.boot_len (pa_cons (pv 1) pa_nil)) (nomark _)) (pe_one (pe_callB (cr_all rfl) (by rfl) T.all (by decide +kernel) (pa_cons (pe_lc (own := [("_law_one", 2), ("_law_other", 3)]) (g := gTup K 2 (gCons (gName 2) (gCons (gName 3) gNil))) (tt := tYes) (te := (tCall _ [] E0 (tCons (tVar 2) (tCons (tVar 3) tNil)))) (by rfl) nd (RZ.pi_zipA (by rfl) T.zip (pa_cons (pv 0) (pa_cons (pv 1) pa_nil))) (blkOk_by (N := ZfA) (sc := defScope Zbr) (by decide +kernel)) (fun _ _ _ _ _ => (pg_tup rfl (pgs_cons (pg_name (i := 2) nd rfl (.inl rfl)) (pgs_cons (pg_name (i := 3) nd rfl (.inl rfl)) pgs_nil)))) (fun _ _ _ _ _ => pts_nil) (fun _ _ _ _ _ => (ZL C__law_same (hr.mono (by omega)) (by rfl) (pa_cons (pv 2) (pa_cons (pv 3) pa_nil))))) pa_nil)))))))
   pss_nil)
  (pss_cons (ps_if (pt_cmpR op_isN (pv 1) pe_non (nomark _))
   (pss_one (ps_ret (pe_cmpR op_isN (pv 0) pe_non (nomark _))))
   pss_nil)
  (pss_cons (ps_if (PW.pt (pw_or (pt_cmpR op_ne (pe_callB call_isi (by rfl) T.isinstance (by decide +kernel) (pa_cons (pv 0) (pa_cons (pe_bltn (v := .ty "bool") (u := .type "bool") (by rfl) T.bool (by decide +kernel) rfl) pa_nil))) (pe_callB call_isi (by rfl) T.isinstance (by decide +kernel) (pa_cons (pv 1) (pa_cons (pe_bltn (v := .ty "bool") (u := .type "bool") (by rfl) T.bool (by decide +kernel) rfl) pa_nil))) (nomark _)) (pw_or1 (pt_cmpR op_ne (pe_callB call_isi (by rfl) T.isinstance (by decide +kernel) (pa_cons (pv 0) (pa_cons (pe_bltn (v := .ty "str") (u := .type "str") (by rfl) T.str (by decide +kernel) rfl) pa_nil))) (pe_callB call_isi (by rfl) T.isinstance (by decide +kernel) (pa_cons (pv 1) (pa_cons (pe_bltn (v := .ty "str") (u := .type "str") (by rfl) T.str (by decide +kernel) rfl) pa_nil))) (nomark _)))))
   (pss_one (ps_ret pe_bl))
   pss_nil)
  (pss_one (ps_ret (pe_and (pe_cmpR op_eq (pe_callB call_isi (by rfl) T.isinstance (by decide +kernel) (pa_cons (pv 0) (pa_cons (pe_bltn (v := .ty "int") (u := .type "int") (by rfl) T.int (by decide +kernel) rfl) pa_nil))) (pe_callB call_isi (by rfl) T.isinstance (by decide +kernel) (pa_cons (pv 1) (pa_cons (pe_bltn (v := .ty "int") (u := .type "int") (by rfl) T.int (by decide +kernel) rfl) pa_nil))) (nomark _)) (pe_one (pe_cmpR op_eq (pv 0) (pv 1) (nomark _))))))))), ?_⟩
  cases e with
  | dict kvs => exact absurd hS (by cases n <;> exact fun h => h)
  | none =>
   refine ZaN gh (Zeb (ZcR (c := false) (Zh rfl du1) Zga Zfo (by decide))) (fun z => nomatch z) fun _ H1 go => ?_
   refine ZaN go.gh (Z0 (ZeL (b := true) (Zh rfl du1) rfl)) (fun _ H2 go2 => ?_) (fun z => nomatch z)
   exact ZcV go2.gh (ZeL (b := true) (Zh rfl dv1) rfl) ((go.trans go2).retX q)
  | bool b =>
   refine ZaN gh (Zeb (ZcR (c := false) (Zh rfl du1) Zii ZhE (by decide))) (fun z => nomatch z) fun _ H1 go => ?_
   refine ZaN go.gh (Z0 (ZeL (b := false) (Zh rfl du1) rfl)) (fun z => nomatch z) (fun _ H2 go2 => ?_)
   refine ZaN go2.gh (EvB.eq (b := false) (Zec (Z0 (Zbk (ZD (b := true) (Zh rfl dv1) ZeV) (ZD (b := true) (Zh rfl du1) ZeV))) fun _ => (Z0 (Zbk (ZD (b := false) (Zh rfl dv1) Zft) (ZD (b := false) (Zh rfl du1) Zft)))) (by decide)) (fun z => nomatch z) (fun _ H3 go3 => ?_)
   exact ZcV go3.gh (EvX.eq (Ze4 (ZgL (ZD (b := true) (Zh rfl dv1) ZfI) (ZD (b := true) (Zh rfl du1) ZfI)) fun _ => ZgL (Zh rfl dv1) (Zh rfl du1)) (by simp)) (((go.trans go2).trans go3).retX q)
  | int b =>
   refine ZaN gh (Zeb (ZcR (c := false) (Zh rfl du1) Zjy Zjc (by decide))) (fun z => nomatch z) fun _ H1 go => ?_
   refine ZaN go.gh (Z0 (ZeL (b := false) (Zh rfl du1) rfl)) (fun z => nomatch z) (fun _ H2 go2 => ?_)
   refine ZaN go2.gh (EvB.eq (b := false) (Zec (Z0 (Zbk (ZD (b := false) (Zh rfl dv1) ZfE) (ZD (b := false) (Zh rfl du1) ZfE))) fun _ => (Z0 (Zbk (ZD (b := false) (Zh rfl dv1) Zgx) (ZD (b := false) (Zh rfl du1) Zgx)))) (by decide)) (fun z => nomatch z) (fun _ H3 go3 => ?_)
   exact ZcV go3.gh (EvX.eq (Ze4 (ZgL (ZD (b := true) (Zh rfl dv1) Zgm) (ZD (b := true) (Zh rfl du1) Zgm)) fun _ => ZiX (Zh rfl dv1) (Zh rfl du1)) (by simp)) (((go.trans go2).trans go3).retX q)
  | str b =>
   refine ZaN gh (Zeb (ZcR (c := false) (Zh rfl du1) Zjn Zjd (by decide))) (fun z => nomatch z) fun _ H1 go => ?_
   refine ZaN go.gh (Z0 (ZeL (b := false) (Zh rfl du1) rfl)) (fun z => nomatch z) (fun _ H2 go2 => ?_)
   refine ZaN go2.gh (EvB.eq (b := false) (Zec (Z0 (Zbk (ZD (b := false) (Zh rfl dv1) ZfK) (ZD (b := false) (Zh rfl du1) ZfK))) fun _ => (Z0 (Zbk (ZD (b := true) (Zh rfl dv1) ZgG) (ZD (b := true) (Zh rfl du1) ZgG)))) (by decide)) (fun z => nomatch z) (fun _ H3 go3 => ?_)
   exact ZcV go3.gh (EvX.eq (Ze4 (ZgL (ZD (b := false) (Zh rfl dv1) Zgn) (ZD (b := false) (Zh rfl du1) Zgn)) fun _ => Zqy (Zh rfl dv1) (Zh rfl du1)) (by simp)) (((go.trans go2).trans go3).retX q)
  | list ds =>
   cases n with
   | zero => exact hS.elim
   | succ n =>
   obtain ⟨hS1, hS2⟩ := hS
   refine ZaN gh (Zeb (ZcR (c := true) (Zh rfl du1) Zc4 Zcw (by decide))) (fun _ H1 go => ?_) (fun z => nomatch z)
   refine ZaN go.gh (EvB.eq (b := false) (Zec (Z0 (Zbk (ZD (b := true) (Zh rfl dv1) Zc4) (ZD (b := true) (Zh rfl du1) Zc4))) fun _ => (Z0 (Zbk (ZD (b := false) (Zh rfl dv1) Zcw) (ZD (b := false) (Zh rfl du1) Zcw)))) (by decide)) (fun z => nomatch z) (fun _ H2 go2 => ?_)
   exact ZcV go2.gh (EvX.eq (Ze4 (ZiX (ZkS (Zh rfl dv1)) (ZkS (Zh rfl du1))) fun _ => Zll (bs := (List.range ds.length).map fun _ => true) ((Zj0 (fun _ => .bool true) (.inl (ea1 (Zh rfl dv1) (ea1 (Zh rfl du1) ea0))) rfl hS1 (fun _ _ => rfl) (fun i x y d e Gi hd he g dx dy => by
    have ee := Option.some.inj (hd.symm.trans he)
    subst ee
    exact ZdR (ea1 (Zh rfl dx) (ea1 (Zh rfl dy) ea0)) ⟨d, rfl, hS2 d (List.mem_of_getElem? hd), rfl⟩)).eq (ZjR _ _)).toX) (by rw [Zin]; simp)) ((go.trans go2).retX q)
  | tuple ds =>
   cases n with
   | zero => exact hS.elim
   | succ n =>
   obtain ⟨hS1, hS2⟩ := hS
   refine ZaN gh (Zeb (ZcR (c := true) (Zh rfl du1) Zcv ZbZ (by decide))) (fun _ H1 go => ?_) (fun z => nomatch z)
   refine ZaN go.gh (EvB.eq (b := false) (Zec (Z0 (Zbk (ZD (b := false) (Zh rfl dv1) Zcv) (ZD (b := false) (Zh rfl du1) Zcv))) fun _ => (Z0 (Zbk (ZD (b := true) (Zh rfl dv1) ZbZ) (ZD (b := true) (Zh rfl du1) ZbZ)))) (by decide)) (fun z => nomatch z) (fun _ H2 go2 => ?_)
   exact ZcV go2.gh (EvX.eq (Ze4 (ZiX (Zkg (Zh rfl dv1)) (Zkg (Zh rfl du1))) fun _ => Zll (bs := (List.range ds.length).map fun _ => true) ((Zj0 (fun _ => .bool true) (.inr (ea1 (Zh rfl dv1) (ea1 (Zh rfl du1) ea0))) rfl hS1 (fun _ _ => rfl) (fun i x y d e Gi hd he g dx dy => by
    have ee := Option.some.inj (hd.symm.trans he)
    subst ee
    exact ZdR (ea1 (Zh rfl dx) (ea1 (Zh rfl dy) ea0)) ⟨d, rfl, hS2 d (List.mem_of_getElem? hd), rfl⟩)).eq (ZjR _ _)).toX) (by rw [Zin]; simp)) ((go.trans go2).retX q)
theorem ZeQ {f : Addr} {fd : FuncData} (T : Tx mg) (F : Fun K "_law_same" "_law_same" Zbr f fd) (hm : mg "_law_same" = some (.ref f)) (hb : Binds K fd Zay []) : ∀ n : Nat, FnOk P w K mg base CX0 (n + 1) f fd Zay (PSp (Zbm n))
 | 0 => F.ok Zc2 (fun _ _ _ _ ⟨_, _, _, _, _, h, _⟩ => h.elim) (fun _ _ _ _ _ _ _ _ _ ⟨_, _, _, _, _, h, _⟩ => h.elim)
 | n + 1 => ZhG T F n (Zbl (ZeQ T F hm hb n) hm F.kp hb)
noncomputable abbrev Zcc : Stmt := top 57
noncomputable abbrev ZdH : List Str := ["_law_m", "_law_block", "_law_cells", "_law_pulls"]
noncomputable abbrev Zb4 : List Str := ["_law_m", "_law_block"]
theorem Zex : FnScope ZdH Zb4 (defScope Zcc) := ⟨rfl, rfl, rfl, by decide +kernel, rfl, by decide +kernel, by decide +kernel⟩
noncomputable def ZdL : FS := (sRet (nX (xS (wOp oSub (wOp oDGet (wV 0) (wC (.str (Str.ofString "wear")))) (wCb cSum (aCons (wLc (itL (wOp oIxL (wOp oDGet (wV 0) (wC (.str (Str.ofString "blocks")))) (wV 1))) (bTup 2 (bCons (bName 2) (bCons (bName 3) bNil))) bYes (wV 3) [2, 3]) aNil))))))
noncomputable def f__law_left := fnD 2 4 (ZdL)
set_option maxHeartbeats 8000000 in
theorem ZiT {f : Addr} {fd : FuncData} (T : Tx mg) (F : Fun K "_law_left" "_law_left" Zcc f fd) : FnOk P w K mg base CX0 1 f fd Zb4 (PSp fun ds d => f__law_left ds = some d) := by
 have nd := Zex.nd
 refine F.ok Zex (fun vs H Q E ⟨G, ds, d, _, dv, hd, _⟩ => by rw [dv.len]; exact (Zb1 hd).1) (fun cdv A outer s H vs Q E hr h => ?_)
 have hu := hu_of hr
 obtain ⟨G, ds, d, gh, dv, hd, q⟩ := h
 refine ⟨_, (pss_one (ps_ret (pe_op op_sub (pe_dget hu (pv 0) pe_str (fun _ _ => rfl)) (pe_callB (cr_sum rfl) (by rfl) T.sum (by decide +kernel) (pa_cons (pe_lc (own := [("_law_cells", 2), ("_law_pulls", 3)]) (g := gTup K 2 (gCons (gName 2) (gCons (gName 3) gNil))) (tt := tYes) (te := (tVar 3)) (by rfl) nd (pi_list (pe_ix ix_list (pe_dget hu (pv 0) pe_str (fun _ _ => rfl)) (pv 1) (fun _ _ => rfl))) (blkOk_by (N := ZdH) (sc := defScope Zcc) (by decide +kernel)) (fun _ _ _ _ _ => (pg_tup rfl (pgs_cons (pg_name (i := 2) nd rfl (.inl rfl)) (pgs_cons (pg_name (i := 3) nd rfl (.inl rfl)) pgs_nil)))) (fun _ _ _ _ _ => pts_nil) (fun _ _ _ _ _ => (pv 3))) pa_nil))))), ?_⟩
 exact Zl9 (kp := fun _ => false) (N := ZdH) (s := ZdL) (ZC (ZaA (ZB (Zs Zgi (Zah (Za (i := 0)) ZI.w) (Zat Zlj (Zb (Zto (vs := [2, 3]) (ZjF (ZY ZQ (Zah (Za (i := 0)) ZI.w) (Za (i := 1)))) (Zqv (Ziz (Zg9 (j := 2)) (Ziz (Zg9 (j := 3)) ZpI))) (by decide) ZgK (Za (i := 3))).w Zf)).w).w))) gh dv hd q
noncomputable abbrev ZbS : Stmt := top 58
noncomputable abbrev Zc1 : List Str := ["_law_house", "_law_m", "_law_found", "_law_due", "_law_block", "_law_rows", "_law_sheet", "_law_told", "_law_name"]
noncomputable abbrev ZbR : List Str := ["_law_house", "_law_m"]
theorem Zet : FnScope Zc1 ZbR (defScope ZbS) := ⟨rfl, rfl, rfl, by decide +kernel, rfl, by decide +kernel, by decide +kernel⟩
noncomputable def Zdb (cNoBlock cNoSheet cNoWish cShop : Addr) : FS := (noEx (sSeq (sAsg 2 (xN (nLst (aConsX (xN (nAsk cShop "size" 0 (nCallI (noX (ZaU cShop)) [0] (aS aNil)))) (aConsX (xN (nAsk cShop "wear" 0 (nCallI (noX (ZaX cShop)) [0] (aS aNil)))) (aConsX (xN (nAsk cShop "cuts" 0 (nCallI (noX (Zbi cShop)) [0] (aS aNil)))) (aConsX (xN (nAsk cShop "sheets" 0 (nCallI (noX (ZaR cShop)) [0] (aS aNil)))) (aConsX (xN (nAsk cShop "wishes" 0 (nCallI (noX (ZaS cShop)) [0] (aS aNil)))) aNilX))))))))
  (sSeq (sAsg 3 (xN (nLst (aConsX (xW (wOp oDGet (wV 1) (wC (.str (Str.ofString "size"))))) (aConsX (xW (wOp oDGet (wV 1) (wC (.str (Str.ofString "wear"))))) (aConsX (xW (wCb cLen (aCons (wOp oDGet (wV 1) (wC (.str (Str.ofString "blocks")))) aNil))) (aConsX (xN (nFW (wCb cSortDI (aCons (wOp oDGet (wV 1) (wC (.str (Str.ofString "looks")))) aNil)))) (aConsX (xN (nFW (wCb cSortDS (aCons (wOp oDGet (wV 1) (wC (.str (Str.ofString "wishes")))) aNil)))) aNilX))))))))
  (sSeq (sIf (bS (bNot (bW (wCb (gR (Zbm 5)) (aCons (wV 2) (aCons (wV 3) aNil))))))
  (sRet (nX (xS (wC (.bool false)))))
  sNil)
  (sSeq (sFor (iA rg1 (aConsX (xW (wCb cLen (aCons (wOp oDGet (wV 1) (wC (.str (Str.ofString "blocks")))) aNil))) aNilX)) (eName 4)
  (sAlias (pI (pD (pV 1) (wC (.str (Str.ofString "blocks")))) (wV 4)) 1 5 (xN (nLst (aConsX (xN (nAsk cShop "states" 0 (nCallI (ZP cNoBlock cShop) [0] (aS (aCons (wV 4) aNil))))) (aConsX (xN (nAsk cShop "standing" 0 (nCallI (Zau cNoBlock cShop) [0] (aS (aCons (wV 4) aNil))))) aNilX)))) (wLst (aCons (wV 5) (aCons (wCb cList (aCons (wOp oIxT (wOp oIxL (wV 5) (wUn oNeg (wC (.int 1)))) (wC (.int 0))) aNil)) aNil))) (gR (Zbm 5))
  (sIf (bNotX (bXx (xCb (gR (Zbm 5)) (aConsX (xN (nAsk cShop "left" 0 (nCallI (Zbo cNoBlock cShop) [0] (aS (aCons (wV 4) aNil))))) (aConsX (xW (wCb f__law_left (aCons (wV 1) (aCons (wV 4) aNil)))) aNilX)))))
  (sRet (nX (xS (wC (.bool false)))))
  sNil)))
  (sSeq (sLock (pD (pV 1) (wC (.str (Str.ofString "looks")))) (sFor (iX asLkK (xP (pD (pV 1) (wC (.str (Str.ofString "looks")))))) (eName 6)
  (sSeq (sAsg 7 (xN (nLst (aConsX (xN (nAsk cShop "look" 0 (nCallI (Zbd cNoSheet cShop) [0] (aS (aCons (wV 6) aNil))))) (aConsX (xN (nAsk cShop "story" 0 (nCallI (Za2 cNoSheet cShop) [0] (aS (aCons (wV 6) aNil))))) aNilX)))))
  (sIf (bWk (bNot (bW (wCb (gR (Zbm 5)) (aCons (wV 7) (aCons (wLst (aCons (wOp oDGetL (wOp oDGet (wV 1) (wC (.str (Str.ofString "looks")))) (wV 6)) (aCons (wOp oDGet (wOp oDGet (wV 1) (wC (.str (Str.ofString "stories")))) (wV 6)) aNil))) aNil))))))
  (sRet (nX (xS (wC (.bool false)))))
  sNil))))
  (sRet (nX (xCb cAll (aConsX (xLock (pD (pV 1) (wC (.str (Str.ofString "wishes")))) (xN (nLcT (iX asLkK (xP (pD (pV 1) (wC (.str (Str.ofString "wishes")))))) (eName 8) (bS bYes) (xCb (gR (Zbm 5)) (aConsX (xN (nAsk cShop "wish" 0 (nCallI (ZaV cNoWish cShop) [0] (aS (aCons (wV 8) aNil))))) (aConsX (xOp oDGetL (xP (pD (pV 1) (wC (.str (Str.ofString "wishes"))))) (xS (wV 8))) aNilX))) [8]))) aNilX))))))))))
noncomputable def Za5 (cNoBlock cNoSheet cNoWish cShop : Addr) := fnI 2 9 (fun i => Nat.beq i 0 || Nat.beq i 1) (Zdb cNoBlock cNoSheet cNoWish cShop)
set_option maxHeartbeats 8000000 in
theorem ZhH {f : Addr} {fd : FuncData} {cNoBlock cNoSheet cNoWish cShop : Addr} (T : Tx mg) (F : Fun K "_law_facts" "_law_facts" ZbS f fd)
  (C_Shop_size : CalM P w K mg base cShop "size" 1 Zaf (ISp (ZaU cShop)))
  (C_Shop_wear : CalM P w K mg base cShop "wear" 1 Zad (ISp (ZaX cShop)))
  (C_Shop_cuts : CalM P w K mg base cShop "cuts" 1 Zcd (ISp (Zbi cShop)))
  (C_Shop_sheets : CalM P w K mg base cShop "sheets" 1 Zbv (ISp (ZaR cShop)))
  (C_Shop_wishes : CalM P w K mg base cShop "wishes" 1 Zbw (ISp (ZaS cShop)))
  (C_Shop_look : CalMX P w K mg base cShop "look" 2 Zci (ISp (Zbd cNoSheet cShop)))
  (C_Shop_story : CalMX P w K mg base cShop "story" 2 ZbK (ISp (Za2 cNoSheet cShop)))
  (C_Shop_left : CalMX P w K mg base cShop "left" 4 Zb5 (ISp (Zbo cNoBlock cShop)))
  (C_Shop_wish : CalMX P w K mg base cShop "wish" 1 Zb7 (ISp (ZaV cNoWish cShop)))
  (C_Shop_states : CalMX P w K mg base cShop "states" 3 Zap (ISp (ZP cNoBlock cShop)))
  (C_Shop_standing : CalMX P w K mg base cShop "standing" 4 Za0 (ISp (Zau cNoBlock cShop)))
  (C__law_same : Cal P w K mg base "_law_same" 6 Zay (PSp (Zbm 5)))
  (C__law_left : Cal P w K mg base "_law_left" 1 Zb4 (PSp fun ds d => f__law_left ds = some d)) : FnOk P w K mg base CX0 7 f fd ZbR (ISp (Za5 cNoBlock cNoSheet cNoWish cShop)) := by
 have nd := Zet.nd
 refine F.ok Zet (fun vs H Q E h => h.len) (fun cdv A outer s H vs Q E hr h => ?_)
 have hu := hu_of hr
 refine ⟨_, (pss_cons (ps_set (i := 2) nd rfl (.inl rfl) (pe_lst (pa_cons (Zam C_Shop_size (hr.mono (by omega)) (pv 0)) (pa_cons (Zam C_Shop_wear (hr.mono (by omega)) (pv 0)) (pa_cons (Zam C_Shop_cuts (hr.mono (by omega)) (pv 0)) (pa_cons (Zam C_Shop_sheets (hr.mono (by omega)) (pv 0)) (pa_cons (Zam C_Shop_wishes (hr.mono (by omega)) (pv 0)) pa_nil)))))))
  (pss_cons (ps_set (i := 3) nd rfl (.inl rfl) (pe_lst (pa_cons (pe_dget hu (pv 1) pe_str (fun _ _ => rfl)) (pa_cons (pe_dget hu (pv 1) pe_str (fun _ _ => rfl)) (pa_cons (pe_callB call_len_seq (by rfl) T.len PySem.boot_len (pa_cons (pe_dget hu (pv 1) pe_str (fun _ _ => rfl)) pa_nil)) (pa_cons (pe_callB (call_sortedDI rfl) (by rfl) T.sorted (by decide +kernel) (pa_cons (pe_dget hu (pv 1) pe_str (fun _ _ => rfl)) pa_nil)) (pa_cons (pe_callB (call_sortedD rfl) (by rfl) T.sorted (by decide +kernel) (pa_cons (pe_dget hu (pv 1) pe_str (fun _ _ => rfl)) pa_nil)) pa_nil)))))))
  (pss_cons (ps_if (pt_not (pt_val (ZL C__law_same (hr.mono (by omega)) (by rfl) (pa_cons (pv 2) (pa_cons (pv 3) pa_nil)))))
   (pss_one (ps_ret pe_bl))
   pss_nil)
  (pss_cons (ps_for PassesOwn.never rfl (pi_range1 (by rfl) T.range (pa_cons (pe_callB call_len_seq (by rfl) T.len PySem.boot_len (pa_cons (pe_dget hu (pv 1) pe_str (fun _ _ => rfl)) pa_nil)) pa_nil)) (pg_name (i := 4) nd rfl (.inl rfl))
   (pss_cons (ps_set (i := 5) nd rfl (.inl rfl) (pe_ix ix_list (pe_dget hu (pv 1) pe_str (fun _ _ => rfl)) (pv 4) (fun _ _ => rfl)))
   (pss_cons (ps_if (pt_not (pt_val (ZL C__law_same (hr.mono (by omega)) (by rfl) (pa_cons (pe_lst (pa_cons (ZaI C_Shop_states (hr.mono (by omega)) takes0 (pv 0) (pa_cons (pv 4) pa_nil)) (pa_cons (ZaI C_Shop_standing (hr.mono (by omega)) takes0 (pv 0) (pa_cons (pv 4) pa_nil)) pa_nil))) (pa_cons (pe_lst (pa_cons (pv 5) (pa_cons (pe_callTy call_list_of (by rfl) T.list (by decide +kernel) (pa_cons (pe_ix ix_tup (pe_ix ix_list (pv 5) (pe_un un_neg pe_int) (fun _ _ => rfl)) pe_int (fun _ _ => rfl)) pa_nil)) pa_nil))) pa_nil)))))
    (pss_one (ps_ret pe_bl))
    pss_nil)
   (Zgw 5 (pss_one (ps_if (pt_not (pt_val (ZL C__law_same (hr.mono (by omega)) (by rfl) (pa_cons (ZaI C_Shop_left (hr.mono (by omega)) takes0 (pv 0) (pa_cons (pv 4) pa_nil)) (pa_cons (ZL C__law_left (hr.mono (by omega)) (by rfl) (pa_cons (pv 1) (pa_cons (pv 4) pa_nil))) pa_nil)))))
    (pss_one (ps_ret pe_bl))
    pss_nil))))))
  (pss_cons (ps_lock (ps_for PassesOwn.never rfl (pi_keys (pe_dget hu (pv 1) pe_str (fun _ _ => rfl))) (pg_name (i := 6) nd rfl (.inl rfl))
   (pss_cons (ps_set (i := 7) nd rfl (.inl rfl) (pe_lst (pa_cons (ZaI C_Shop_look (hr.mono (by omega)) takes0 (pv 0) (pa_cons (pv 6) pa_nil)) (pa_cons (ZaI C_Shop_story (hr.mono (by omega)) takes0 (pv 0) (pa_cons (pv 6) pa_nil)) pa_nil))))
   (pss_one (ps_if (pt_not (pt_val (ZL C__law_same (hr.mono (by omega)) (by rfl) (pa_cons (pv 7) (pa_cons (pe_lst (pa_cons (pe_dget hu (pe_dget hu (pv 1) pe_str (fun _ _ => rfl)) (pv 6) (fun _ _ => rfl)) (pa_cons (pe_dget hu (pe_dget hu (pv 1) pe_str (fun _ _ => rfl)) (pv 6) (fun _ _ => rfl)) pa_nil))) pa_nil)))))
    (pss_one (ps_ret pe_bl))
    pss_nil)))))
  (pss_one (ps_ret (pe_callB (cr_all rfl) (by rfl) T.all (by decide +kernel) (pa_cons (pe_lock (pe_lc (own := [("_law_name", 8)]) (g := gName 8) (tt := tYes) (te := (tCall _ [] E0 (tCons (tMthX cShop "wish" (ISp (ZaV cNoWish cShop)) (WE (fun _ _ _ _ => False)) (tVar 0) (tCons (tVar 8) tNil)) (tCons (tDGet (tDGet (tVar 1) (tC (.str "wishes"))) (tVar 8)) tNil)))) (by rfl) nd (pi_keys (pe_dget hu (pv 1) pe_str (fun _ _ => rfl))) (blkOk_by (N := Zc1) (sc := defScope ZbS) (by decide +kernel)) (fun _ _ _ _ _ => (pg_name (i := 8) nd rfl (.inl rfl))) (fun _ _ _ _ _ => pts_nil) (fun _ _ _ _ _ => (ZL C__law_same (hr.mono (by omega)) (by rfl) (pa_cons (ZaI C_Shop_wish (hr.mono (by omega)) takes0 (pv 0) (pa_cons (pv 8) pa_nil)) (pa_cons (pe_dget hu (pe_dget hu (pv 1) pe_str (fun _ _ => rfl)) (pv 8) (fun _ _ => rfl)) pa_nil)))))) pa_nil))))))))), ?_⟩
 exact ZF (kp := fun i => Nat.beq i 0 || Nat.beq i 1) (N := Zc1) (s := Zdb cNoBlock cNoSheet cNoWish cShop) (ZdW (Zi (Zbg (i := 2) rfl (ZM (Zgr (Zl (ZM (Ze0 (ZT (is := [0]) Zk (ZA Zf)))) (Zl (ZM (Ze0 (ZT (is := [0]) Zk (ZA Zf)))) (Zl (ZM (Ze0 (ZT (is := [0]) Zk (ZA Zf)))) (Zl (ZM (Ze0 (ZT (is := [0]) Zk (ZA Zf)))) (Zl (ZM (Ze0 (ZT (is := [0]) Zk (ZA Zf)))) Z2))))))))
  (Zi (Zbg (i := 3) rfl (ZM (Zgr (Zl (ZaM (Zah (Za (i := 1)) ZI.w)) (Zl (ZaM (Zah (Za (i := 1)) ZI.w)) (Zl (ZaM (Zat ZeP (Zb (Zah (Za (i := 1)) ZI.w) Zf)).w) (Zl (ZM (Zff (Zat Zhe (Zb (Zah (Za (i := 1)) ZI.w) Zf)))) (Zl (ZM (Zff (Zat Zhp (Zb (Zah (Za (i := 1)) ZI.w) Zf)))) Z2))))))))
  (Zi (ZaZ (Ze3 (Zge (Zje (Zef ZcL (Zb (Za (i := 2)) (Zb (Za (i := 3)) Zf))))))
  (ZC (ZaA (ZB Zfa.w)))
  Zbt)
  (Zi (ZgD (Zhc (Zl (ZaM (Zat ZeP (Zb (Zah (Za (i := 1)) ZI.w) Zf)).w) Z2)) (ZbY (j := 4) rfl)
  (ZmD (m := 1) (j := 5) rfl ZcL (ZnN (Zd7 (ZZ (i := 1)) ZI.w) (Za (i := 4))) (ZM (Zgr (Zl (ZM (ZaE (Z5 (is := [0]) Zk (ZA (Zb (Za (i := 4)) Zf))))) (Zl (ZM (ZaE (Z5 (is := [0]) Zk (ZA (Zb (Za (i := 4)) Zf))))) Z2)))) (by intro σ x H Q h; simpa [tLst, tCons, tMthX, tVar, tNil, WE, tMeth, tC] using h) (Zda (Zb (Za (i := 5)) (Zb (Zat ZcP (Zb (ZY Zd6 (ZY ZQ (Za (i := 5)) (Zfh ZeD Ze.w)) Ze.w) Zf)).w Zf))).w
  (ZaZ (ZjM (Zq3 (Zit ZcL (Zl (ZM (ZaE (Z5 (is := [0]) Zk (ZA (Zb (Za (i := 4)) Zf))))) (Zl (ZaM (Zef (fun h => h) (Zb (Za (i := 1)) (Zb (Za (i := 4)) Zf)))) Z2)))))
  (ZC (ZaA (ZB Zfa.w)))
  Zbt)))
  (Zi (Zo8 (pD (pV 1) (wC (.str (Str.ofString "looks")))) (ZgD (Zhh (ZeX (Zd7 (ZZ (i := 1)) ZI.w))) (ZbY (j := 6) rfl)
  (Zi (Zbg (i := 7) rfl (ZM (Zgr (Zl (ZM (ZaE (Z5 (is := [0]) Zk (ZA (Zb (Za (i := 6)) Zf))))) (Zl (ZM (ZaE (Z5 (is := [0]) Zk (ZA (Zb (Za (i := 6)) Zf))))) Z2)))))
  (ZaZ (ZfV (Zge (Zje (Zef ZcL (Zb (Za (i := 7)) (Zb (Zda (Zb (Zmu (Zah (Za (i := 1)) ZI.w) (Za (i := 6))) (Zb (Zah (Zah (Za (i := 1)) ZI.w) (Za (i := 6))) Zf))).w Zf))))))
  (ZC (ZaA (ZB Zfa.w)))
  Zbt))))
  (ZC (ZaA (ZnO (CbF.ok Zry) (Zl (Zn8 (pD (pV 1) (wC (.str (Str.ofString "wishes")))) (ZM (ZlO (K := K) (vs := [8]) (Zhh (ZeX (Zd7 (ZZ (i := 1)) ZI.w))) (ZbY (j := 8) rfl) (Ze3 ZgK) (Zit ZcL (Zl (ZM (ZaE (Z5 (is := [0]) Zk (ZA (Zb (Za (i := 8)) Zf))))) (Zl (ZmQ (ZeX (Zd7 (ZZ (i := 1)) ZI.w)) (ZB (Za (i := 8)))) Z2)))))) Z2)))))))))) h
noncomputable abbrev ZdI : Stmt := top 56
noncomputable abbrev ZfG : List Str := ["_law_size", "_law_wear"]
noncomputable abbrev Zcg : List Str := ["_law_size", "_law_wear"]
theorem ZeU : FnScope ZfG Zcg (defScope ZdI) := ⟨rfl, rfl, rfl, by decide +kernel, rfl, by decide +kernel, by decide +kernel⟩
noncomputable def ZdQ : FS := (sRet (nT (tDspO [("size", (tF (wV 0))), ("wear", (tF (wV 1))), ("blocks", (tNode .lst tNilO)), ("looks", tDct0), ("stories", tDct0), ("came", (tF (wC (.int 0)))), ("wishes", tDct0)])))
noncomputable def f__law_shop := fnO 2 2 (ZdQ)
set_option maxHeartbeats 8000000 in
theorem Zjh {f : Addr} {fd : FuncData} (T : Tx mg) (F : Fun K "_law_shop" "_law_shop" ZdI f fd) : FnOk P w K mg base CX0 1 f fd Zcg (OSp f__law_shop) := by
 have nd := ZeU.nd
 refine F.ok ZeU (fun vs H Q E ⟨G, ds, d, _, dv, hd, _⟩ => by rw [dv.len]; exact (Zb1 hd).1) (fun cdv A outer s H vs Q E hr h => ?_)
 have hu := hu_of hr
 obtain ⟨G, ds, d, gh, dv, hd, q⟩ := h
 refine ⟨_, (pss_one (ps_ret (pe_disp (pps_cons pe_str (pv 0) (pps_cons pe_str (pv 1) (pps_cons pe_str (pe_lst pa_nil) (pps_cons pe_str pe_dnewK (pps_cons pe_str pe_dnewK (pps_cons pe_str pe_int (pps_cons pe_str pe_dnewK pps_nil))))))) rfl rfl (by simp) (by decide)))), ?_⟩
 exact ZsD (kp := fun _ => false) (N := ZfG) (s := ZdQ) (ZC (ZmZ (Zr9 (SDs.cons (Zg2 (Za (i := 0))) (SDs.cons (Zg2 (Za (i := 1))) (SDs.cons (Zrd Zpo) (SDs.cons ZgO (SDs.cons ZgO (SDs.cons (Zg2 Ze.w) (SDs.cons ZgO SDs.nil)))))))))) gh dv hd q
noncomputable abbrev Zfb : Stmt := top 60
noncomputable abbrev ZnP : List Str := ["_law_script", "_law_draw", "_law_k", "_law_size", "_law_wear", "_law_due", "_law_way", "_law_made_here", "_law_why"]
noncomputable abbrev ZnJ : List Str := ["_law_script"]
theorem Zlv : FnScope ZnP ZnJ (defScope Zfb) := ⟨rfl, rfl, rfl, by decide +kernel, rfl, by decide +kernel, by decide +kernel⟩
noncomputable def Zgk (cAlbum cBadSize cBadWear cBook cDesk cNoBlock cNoSheet cNoWish cShop : Addr) : FS := (sSeq (sFor (iA rg1 (aS (aCons (wC (.int 4)) aNil))) (eName 2)
  (sSeq (sAsg 3 (xOp oIxT (xTup (aConsX (xOp oAdd (xS (wC (.int 1))) (xN (nCallI (noX f__law_take) [1] (aS (aCons (wC (.int 24)) aNil))))) (aConsX (xN (nCallI (noX f__law_odd) [1] (aS aNil))) (aConsX (xS (wC (.int 24))) (aConsX (xS (wC (.int 25))) aNilX))))) (xN (nCallI (noX f__law_take) [1] (aS (aCons (wC (.int 4)) aNil))))))
  (sSeq (sAsg 4 (xOp oIxT (xTup (aConsX (xOp oAdd (xS (wC (.int 1))) (xN (nCallI (noX f__law_take) [1] (aS (aCons (wC (.int 60)) aNil))))) (aConsX (xN (nCallI (noX f__law_odd) [1] (aS aNil))) (aConsX (xS (wC (.int 60))) (aConsX (xS (wC (.int 61))) aNilX))))) (xN (nCallI (noX f__law_take) [1] (aS (aCons (wC (.int 4)) aNil))))))
  (sSeq (sAsg 5 (xS (wIf (bNot (bW (wChain oLe oLe (wC (.int 1)) (wV 3) (wC (.int 24))))) (wC (.str (Str.ofString "size"))) (wOp oIxL (wLst (aCons (wC (.str (Str.ofString ""))) (aCons (wC (.str (Str.ofString "wear"))) aNil))) (wCb cInt (aCons (wNot (wChain oLe oLe (wC (.int 1)) (wV 4) (wC (.int 60)))) aNil))))))
  (sFor (iA rg1 (aS (aCons (wC (.int 4)) aNil))) (eName 6)
  (sSeq (sUnp2 7 8 (nCallI (noX (Zbn cAlbum cBadSize cBadWear cBook cDesk cShop)) [] (aS (aCons (wV 6) (aCons (wV 3) (aCons (wV 4) aNil))))))
  (sSeq (sIf (bS (bW (wOp (oEq true) (wV 8) (wIf (bOr (bW (wOp oLt (wV 6) (wC (.int 3)))) (bW (wOp (oEq false) (wV 5) (wC (.str (Str.ofString "size")))))) (wV 5) (wC (.str (Str.ofString "")))))))
  (sRet (nX (xS (wC (.bool false)))))
  sNil)
  (sIf (bAndX (bWk (bW (wOp (oIsN true) (wV 7) (wC .none)))) (bNotX (bXx (xN (nCallNew2 (noX (Za5 cNoBlock cNoSheet cNoWish cShop)) 7 (nT (tCal f__law_shop (aCons (wV 3) (aCons (wV 4) aNil)))))))))
  (sRet (nX (xS (wC (.bool false)))))
  sNil))))))))
  (sRet (nX (xS (wC (.bool true))))))
set_option maxHeartbeats 8000000 in
theorem Zqx {f : Addr} {fd : FuncData} {cAlbum cBadSize cBadWear cBook cDesk cNoBlock cNoSheet cNoWish cShop : Addr} (T : Tx mg) (F : Fun K "law" "law" Zfb f fd)
  (C__law_begin : Cal P w K mg base "_law_begin" 1 ZbV (spBegin K))
  (C__law_take : Cal P w K mg base "_law_take" 1 Zbe (ISp f__law_take))
  (C__law_made : Cal P w K mg base "_law_made" 9 Zce (ISp (Zbn cAlbum cBadSize cBadWear cBook cDesk cShop)))
  (C__law_odd : Cal P w K mg base "_law_odd" 2 ZcM (ISp f__law_odd))
  (C__law_facts : Cal P w K mg base "_law_facts" 7 ZbR (ISp (Za5 cNoBlock cNoSheet cNoWish cShop)))
  (C__law_shop : Cal P w K mg base "_law_shop" 1 Zcg (OSp f__law_shop))
  (hl : lawOk 9 (Zgk cAlbum cBadSize cBadWear cBook cDesk cNoBlock cNoSheet cNoWish cShop)) : FnOk P w K mg base CX0 10 f fd ZnJ (spLaw K) := by
 have nd := Zlv.nd
 refine F.ok Zlv (fun vs H Q E ⟨a, ns, h, _⟩ => by rw [h]; rfl) (fun cdv A outer s H vs Q E hr h => ?_)
 have hu := hu_of hr
 refine ⟨_, (pss_cons (ps_set (i := 1) nd rfl (.inl rfl) (ZL C__law_begin (hr.mono (by omega)) (by rfl) (pa_cons (pv 0) pa_nil)))
  (Zgw 0 (pss_cons (ps_for PassesOwn.never rfl (pi_range1 (by rfl) T.range (pa_cons pe_int pa_nil)) (pg_name (i := 2) nd rfl (.inl rfl))
   (pss_cons (ps_set (i := 3) nd rfl (.inl rfl) (pe_ix ix_tup (pe_tup (pa_cons (pe_op op_add pe_int (ZL C__law_take (hr.mono (by omega)) (by rfl) (pa_cons (pv 1) (pa_cons pe_int pa_nil)))) (pa_cons (ZL C__law_odd (hr.mono (by omega)) (by rfl) (pa_cons (pv 1) pa_nil)) (pa_cons pe_int (pa_cons pe_int pa_nil))))) (ZL C__law_take (hr.mono (by omega)) (by rfl) (pa_cons (pv 1) (pa_cons pe_int pa_nil))) (fun _ _ => rfl)))
   (pss_cons (ps_set (i := 4) nd rfl (.inl rfl) (pe_ix ix_tup (pe_tup (pa_cons (pe_op op_add pe_int (ZL C__law_take (hr.mono (by omega)) (by rfl) (pa_cons (pv 1) (pa_cons pe_int pa_nil)))) (pa_cons (ZL C__law_odd (hr.mono (by omega)) (by rfl) (pa_cons (pv 1) pa_nil)) (pa_cons pe_int (pa_cons pe_int pa_nil))))) (ZL C__law_take (hr.mono (by omega)) (by rfl) (pa_cons (pv 1) (pa_cons pe_int pa_nil))) (fun _ _ => rfl)))
   (pss_cons (ps_set (i := 5) nd rfl (.inl rfl) (pe_ifExp (pt_not (pt_chain op_le op_le pe_int (pv 3) pe_int)) pe_str (pe_ix ix_list (pe_lst (pa_cons pe_str (pa_cons pe_str pa_nil))) (pe_callTy call_int1 (by rfl) T.int (by decide +kernel) (pa_cons (pe_not (pe_chain op_le op_le pe_int (pv 4) pe_int)) pa_nil)) (fun _ _ => rfl))))
   (pss_one (ps_for PassesOwn.never rfl (pi_range1 (by rfl) T.range (pa_cons pe_int pa_nil)) (pg_name (i := 6) nd rfl (.inl rfl))
    (pss_cons (ps_asg (ZL C__law_made (hr.mono (by omega)) (by rfl) (pa_cons (pv 6) (pa_cons (pv 3) (pa_cons (pv 4) pa_nil)))) (pg_tup rfl (pgs_cons (pg_name (i := 7) nd rfl (.inl rfl)) (pgs_cons (pg_name (i := 8) nd rfl (.inl rfl)) pgs_nil))))
    (pss_cons (ps_if (pt_cmpR op_ne (pv 8) (pe_ifExp (PW.pt (pw_or (pt_cmpR op_lt (pv 6) pe_int (nomark _)) (pw_or1 (pt_cmpR op_eq (pv 5) pe_str (nomark _))))) (pv 5) pe_str) (nomark _))
     (pss_one (ps_ret pe_bl))
     pss_nil)
    (pss_one (ps_if (PW.pt (pw_and (pt_cmpR op_notN (pv 7) pe_non (nomark _)) (pw_and1 (pt_not (pt_val (ZL C__law_facts (hr.mono (by omega)) (by rfl) (pa_cons (pv 7) (pa_cons (ZL C__law_shop (hr.mono (by omega)) (by rfl) (pa_cons (pv 3) (pa_cons (pv 4) pa_nil))) pa_nil))))))))
     (pss_one (ps_ret pe_bl))
     pss_nil))))))))))
  (pss_one (ps_ret pe_bl))))), ?_⟩
 exact Zom (kp := fun _ => false) (N := ZnP) (s := Zgk cAlbum cBadSize cBadWear cBook cDesk cNoBlock cNoSheet cNoWish cShop) (by decide) (Zi (ZgD (Zhc (ZA (Zb Ze.w Zf))) (ZbY (j := 2) rfl)
  (Zi (Zbg (i := 3) rfl (ZcN (Zd6) (Zl0 (Zl (ZcN (OpF.ok Zcu) (ZB Ze.w) (ZM (ZT (is := [1]) Zk (ZA (Zb Ze.w Zf))))) (Zl (ZM (ZT (is := [1]) Zk (ZA Zf))) (Zl (ZB Ze.w) (Zl (ZB Ze.w) Z2))))) (ZM (ZT (is := [1]) Zk (ZA (Zb Ze.w Zf))))))
  (Zi (Zbg (i := 4) rfl (ZcN (Zd6) (Zl0 (Zl (ZcN (OpF.ok Zcu) (ZB Ze.w) (ZM (ZT (is := [1]) Zk (ZA (Zb Ze.w Zf))))) (Zl (ZM (ZT (is := [1]) Zk (ZA Zf))) (Zl (ZB Ze.w) (Zl (ZB Ze.w) Z2))))) (ZM (ZT (is := [1]) Zk (ZA (Zb Ze.w Zf))))))
  (Zi (Zbg (i := 5) rfl (ZB (ZnE (Zge (Zan (Zi2 (OpF.ok ZhJ) (OpF.ok ZhJ) Ze.w (Za (i := 3)) Ze.w))) ZI.w (ZY ZQ (Zda (Zb ZI.w (Zb ZI.w Zf))).w (Zat ZrT (Zb (Zqo (Zi2 (OpF.ok ZhJ) (OpF.ok ZhJ) Ze.w (Za (i := 4)) Ze.w)) Zf)).w))))
  (ZgD (Zhc (ZA (Zb Ze.w Zf))) (ZbY (j := 6) rfl)
  (Zi (ZnW (i := 7) (j := 8) rfl rfl (ZT (is := []) Zk (ZA (Zb (Za (i := 6)) (Zb (Za (i := 3)) (Zb (Za (i := 4)) Zf))))))
  (Zi (ZaZ (Ze3 (Zan (Zs Ztm (Za (i := 8)) (ZnE (Zte (Zan (Zs ZkJ (Za (i := 6)) Ze.w).w) (Zan (Zs ZhN (Za (i := 5)) ZI.w).w)) (Za (i := 5)) ZI.w)).w))
  (ZC (ZaA (ZB Zfa.w)))
  Zbt)
  (ZaZ (ZoB (ZfV (Zan (Zs Zqg (Za (i := 7)) ZlS.w).w)) (ZjM (Zq3 (ZM (Zjw (i := 7) Zk (ZmZ (Zmd (Zb (Za (i := 3)) (Zb (Za (i := 4)) Zf)))))))))
  (ZC (ZaA (ZB Zfa.w)))
  Zbt))))))))
  (ZC (ZaA (ZB Zfa.w)))) hl h
end
theorem Zpw {T : OT} (hT : DrOk T) {m : Int} (h0 : 0 < m) (h1 : m < 1073741824) : ∃ r T', f__law_take [T, .leaf (.int m)] = some (.ok (.leaf (.int r)), [T', .leaf (.int m)]) ∧ DrOk T' ∧ 0 ≤ r ∧ r < m := by
 obtain ⟨ns, i, c, z, rfl, i0, c0, z0, z1⟩ := hT
 -- the first part: a number of the script is taken, or none
 have key : ∃ i' c' z' y, (sIf (bWk (bAnd (bW (wOp oLt (wOp oIxL (wV 0) (wC (.int 2))) (wV 1))) (bW (wOp oLt (wOp oIxL (wV 0) (wC (.int 1))) (wCb cLen (aCons (wOp oIxL (wV 0) (wC (.int 0))) aNil))))))
  (sSeq (sAsg 2 (xW (wOp oIxL (wOp oIxL (wV 0) (wC (.int 0))) (wOp oIxL (wV 0) (wC (.int 1))))))
  (sSeq (sPut 0 (xS (wC (.int 1))) (xW (wOp oAdd (wOp oIxL (wV 0) (wC (.int 1))) (wC (.int 1)))))
  (sSeq (sPut 0 (xS (wC (.int 2))) (xS (wC (.int 0))))
  (sIf (bS (bW (wOp oGe (wCb cAbs (aCons (wV 2) aNil)) (wOp oPow (wC (.int 10)) (wC (.int 18))))))
  (sPut 0 (xS (wC (.int 2))) (xS (wCb cAbs (aCons (wV 2) aNil))))
  (sPut 0 (xS (wC (.int 3))) (xW (wOp oMod (wOp oAdd (wOp oAdd (wOp oMul (wOp oIxL (wV 0) (wC (.int 3))) (wC (.int 48271))) (wOp oMul (wOp oMod (wV 2) (wC (.int 2147483629))) (wC (.int 69621)))) (wC (.int 12345))) (wC (.int 2147483647)))))))))
  sNil) [some (drT ns i c z), some (.leaf (.int m)), none, none] = some (.nx, [some (drT ns i' c' z'), some (.leaf (.int m)), y, none]) ∧ 0 ≤ i' ∧ 0 ≤ c' ∧ 0 ≤ z' ∧ z' < 2147483647 := by
  have hc : (bWk (bAnd (bW (wOp oLt (wOp oIxL (wV 0) (wC (.int 2))) (wV 1))) (bW (wOp oLt (wOp oIxL (wV 0) (wC (.int 1))) (wCb cLen (aCons (wOp oIxL (wV 0) (wC (.int 0))) aNil)))))) [some (drT ns i c z), some (.leaf (.int m)), none, none] = some (.ok (decide (c < m) && decide (i < (ns.length : Nat))), [some (drT ns i c z), some (.leaf (.int m)), none, none]) := by
   simp [bWk, okx, weak, drT, OT.data, OT.datas, bAnd, bW, wOp, wV, wC, oIxL, Zdc, ZeR, ZeK, oCmp, asB, wCb, aCons, aNil, cLen]
   by_cases h : c < m <;> simp [h]
  rw [Zs3 hc]
  by_cases hcond : (decide (c < m) && decide (i < (ns.length : Nat))) = true
  ·rw [if_pos hcond]
   rw [Bool.and_eq_true, decide_eq_true_eq, decide_eq_true_eq] at hcond
   obtain ⟨k, rfl⟩ : ∃ k : Nat, i = (k : Int) := ⟨i.toNat, by omega⟩
   have hk : k < ns.length := by omega
   have hat : L2.atI (ns.map PyData.int) (k : Int) = some (.int ns[k]) := atI_nat (by rw [List.getElem?_map, List.getElem?_eq_getElem hk]; rfl)
   have hab : (0 : Int) ≤ if ns[k] < 0 then -ns[k] else ns[k] := by split <;> omega
   by_cases hbig : 1000000000000000000 ≤ (if ns[k] < 0 then -ns[k] else ns[k])
   ·refine ⟨(k : Int) + 1, if ns[k] < 0 then -ns[k] else ns[k], z, some (.leaf (.int ns[k])), ?_, by omega, hab, z0, z1⟩
    simp [sSeq, sIf, sAsg, sPut, lstAt, bs, xW, xS, okx, weak, strong, drT, OT.data, OT.datas, wOp, wV, wC, oIxL, Zdc, ZeR, ZeK, Zgh, oI, hat, flatD, asI, ZhI, ZhM, ZhR, bS, bW, oCmp, asB, wCb, aCons, aNil, cAbs, oIc, cPow, hbig]
   ·refine ⟨(k : Int) + 1, 0, (z * 48271 + ns[k] % 2147483629 * 69621 + 12345) % 2147483647, some (.leaf (.int ns[k])), ?_, by omega, by omega, by omega, by omega⟩
    simp [sSeq, sIf, sAsg, sPut, lstAt, bs, xW, xS, okx, weak, strong, drT, OT.data, OT.datas, wOp, wV, wC, oIxL, Zdc, ZeR, ZeK, Zgh, oI, hat, flatD, asI, ZhI, ZhM, ZhR, bS, bW, oCmp, asB, wCb, aCons, aNil, cAbs, oIc, cPow, hbig, ZiJ, ZiI]
  ·rw [if_neg hcond]
   exact ⟨i, c, z, none, rfl, i0, c0, z0, z1⟩
 obtain ⟨i', c', z', y, hkey, i0', c0', z0', z1'⟩ := key
 have fin : ∃ r T' en', Zck (start0 4 (drT ns i c z :: [PyData.int m].map OT.leaf)) = some (.rt (.leaf (.int r)), some T' :: en') ∧ DrOk T' ∧ 0 ≤ r ∧ r < m ∧ en'.length = 3 := by
  have hst : start0 4 (drT ns i c z :: [PyData.int m].map OT.leaf) = [some (drT ns i c z), some (.leaf (.int m)), none, none] := rfl
  rw [hst]
  unfold Zck
  rw [Zsc hkey]
  by_cases hcm : m ≤ c'
  ·refine ⟨c' % m, drT ns i' (c' / m) z', [some (.leaf (.int m)), y, none], ?_, ⟨ns, i', c' / m, z', rfl, i0', Int.ediv_nonneg c0' (by omega), z0', z1'⟩, Int.emod_nonneg _ (by omega), Int.emod_lt_of_pos _ h0, rfl⟩
   simp [sSeq, sIf, sAsg, sPut, sRet, nMove, lstAt, bs, xW, xS, okx, weak, strong, drT, OT.data, OT.datas, wOp, wV, wC, oIxL, Zdc, ZeR, ZeK, Zgh, oI, flatD, asI, ZhI, ZhM, ZhR, bS, bWk, bW, oCmp, asB, wCb, aCons, aNil, oIc, hcm, ZiJ, ZiI h0, Zla h0 h1]
  ·have e3 : 0 ≤ (z' * z' % 2147483629 * 5 + z' * 16811 + 2531011) % 2147483647 ∧ (z' * z' % 2147483629 * 5 + z' * 16811 + 2531011) % 2147483647 < 2147483647 := by omega
   have hzl : cMul z' z' = true := Zrw (by omega) (by omega)
   refine ⟨((z' * z' % 2147483629 * 5 + z' * 16811 + 2531011) % 2147483647 / 61 + (z' * z' % 2147483629 * 5 + z' * 16811 + 2531011) % 2147483647 % 8191 * 31) % m, drT ns i' c' ((z' * z' % 2147483629 * 5 + z' * 16811 + 2531011) % 2147483647), [some (.leaf (.int m)), y, none], ?_, ⟨ns, i', c', _, rfl, i0', c0', e3.1, e3.2⟩, Int.emod_nonneg _ (by omega), Int.emod_lt_of_pos _ h0, rfl⟩
   simp [sSeq, sIf, sAsg, sPut, sRet, nX, bx, lstAt, bs, xW, xS, okx, weak, strong, drT, OT.data, OT.datas, wOp, wV, wC, oIxL, Zdc, ZeR, ZeK, Zgh, oI, flatD, asI, ZhI, ZhM, ZhR, bS, bWk, bW, oCmp, asB, wCb, aCons, aNil, oIc, hcm, ZiJ, hzl, ZiI, h0, Zla, sNil]
 obtain ⟨r, T', en', hf, hT', r0, r1, hl⟩ := fin
 exact ⟨r, T', Zp7 (np := 2) (n := 4) (ds := [.int m]) rfl hf (by rw [hl]; show 1 ≤ 3; decide), hT', r0, r1⟩
theorem Zj6 {n : Nat} {ss : List Str} (h : ss.length ≤ 50000) : Sm (n + 1) (dLS ss) := ⟨by rw [List.length_map]; exact h, fun d hd => by
 obtain ⟨s, _, rfl⟩ := List.mem_map.mp hd
 cases n <;> trivial⟩
theorem Zmx (o : Option OT) (l : En) : strong (o :: l) = (o.bind leafD) :: strong l := by
 cases o with
 | none => rfl
 | some T => cases T <;> rfl
theorem ZmT : strong [] = [] := id rfl
theorem ZqT (o : Option OT) (l : En) : weak (o :: l) = (o.map OT.data) :: weak l := id rfl
theorem Zre : weak [] = [] := id rfl
theorem Zkl (d : PyData) : leafD (.leaf d) = some d := id rfl
theorem ZkD (k : Kd) (cs : List (Lab × OT)) : leafD (.node k cs) = none := id rfl
theorem Zlg (ds : List PyData) : leafD (lstT ds) = none := id rfl
theorem Zpy {i j : Int} : oEq false (.int i) (.int j) = some (.bool (decide (i = j))) := by simp [oEq, flatD, scal, scV]
theorem Zoz {i j : Int} : oEq true (.int i) (.int j) = some (.bool (!decide (i = j))) := by simp [oEq, flatD, scal, scV]
theorem ZpQ {i j : Str} : oEq false (.str i) (.str j) = some (.bool (decide (i = j))) := by simp [oEq, flatD, scal, scV]
theorem Zp4 {i j : Str} : oEq true (.str i) (.str j) = some (.bool (!decide (i = j))) := by simp [oEq, flatD, scal, scV]
theorem ZkU {n : Bool} : oIsN n .none .none = some (.bool (!n)) := by cases n <;> rfl
theorem Zm0 {n : Bool} {i : Int} : oIsN n (.int i) .none = some (.bool n) := by cases n <;> rfl
theorem ZpJ {cs : List (Lab × OT)} {l : En} : lstAt (some (.node .lst cs) :: l) 0 = some cs := id rfl
theorem ZnX {ds : List PyData} {l : En} : lstAt (some (lstT ds) :: l) 0 = some (oLeafs ds) := id rfl
theorem Zo0 {o : Option OT} {l : En} {i : Nat} : lstAt (o :: l) (i + 1) = lstAt l i := id rfl
theorem ZkM (ds : List PyData) : freshR (lstT ds) = true := id rfl
theorem Zjo (d : PyData) : freshR (.leaf d) = flatD d := id rfl
theorem Zs2 (ds : List PyData) : asL (.list ds) = some ds := id rfl
theorem Ztu (ds : List PyData) : asT (.tuple ds) = some ds := id rfl
theorem ZsM (b : Bool) : asB (.bool b) = some b := id rfl
theorem Zss (b : Int) : asI (.int b) = some b := id rfl
theorem ZtE {g : Int → Int → Int} {i j : Int} : oI g (.int i) (.int j) = some (.int (g i j)) := id rfl
theorem ZrM {g : Int → Int → Bool} {i j : Int} : oCmp g (.int i) (.int j) = some (.bool (g i j)) := id rfl
theorem Zmv (ds : List PyData) : freshT (.list ds) = lstT ds := id rfl
theorem Zmr (i : Int) : freshT (.int i) = .leaf (.int i) := id rfl
theorem ZrL (ds : List PyData) : cLen [.list ds] = some (.int (ds.length : Nat)) := id rfl
theorem Zqu (ds : List PyData) : cLen [.tuple ds] = some (.int (ds.length : Nat)) := id rfl
theorem Zn9 (ds : List PyData) : cList [.list ds] = some (.list ds) := id rfl
theorem ZpP (ds : List PyData) : cList [.tuple ds] = some (.list ds) := id rfl
theorem ZsB (ds : List PyData) (i : Int) : oIxL (.list ds) (.int i) = L2.atI ds i := id rfl
theorem ZsK (ds : List PyData) (i : Int) : oIxT (.tuple ds) (.int i) = L2.atI ds i := id rfl
theorem Zqj (i : Int) : oNeg (.int i) = some (.int (-i)) := id rfl
theorem Zpk (i : Int) : flatD (.int i) = true := id rfl
theorem ZpA : flatD .none = true := id rfl
theorem Zpp (b : Bool) : flatD (.bool b) = true := id rfl
theorem Zkp (ds : List PyData) (d : PyData) : OT.node .lst (oLeafs ds ++ [(.no, .leaf d)]) = lstT (ds ++ [d]) := by simp [lstT, oLeafs]
theorem ZmU {α : Type} (f : α → Bool) (l : List α) : cAll [.list (l.map fun a => PyData.bool (f a))] = some (.bool (l.all f)) := by
 unfold cAll
 dsimp only
 rw [show (l.map fun a => PyData.bool (f a)) = (l.map f).map PyData.bool by rw [List.map_map]; rfl, Zno]
 simp [List.all_map]
noncomputable def Drw := {T : OT // DrOk T}
theorem ZgH (D : Drw) (m : Int) : ∃ p : Int × Drw, 0 < m → m < 1073741824 → f__law_take [D.1, .leaf (.int m)] = some (.ok (.leaf (.int p.1)), [p.2.1, .leaf (.int m)]) ∧ 0 ≤ p.1 ∧ p.1 < m := by
 by_cases h : 0 < m ∧ m < 1073741824
 ·obtain ⟨r, T', h1, h2, h3, h4⟩ := Zpw D.2 h.1 h.2
  exact ⟨(r, ⟨T', h2⟩), fun _ _ => ⟨h1, h3, h4⟩⟩
 ·exact ⟨(0, D), fun a b => absurd ⟨a, b⟩ h⟩
noncomputable def Drw.r (D : Drw) (m : Int) : Int := (Classical.choose (ZgH D m)).1
noncomputable def Drw.n (D : Drw) (m : Int) : Drw := (Classical.choose (ZgH D m)).2
theorem Ze9 (D : Drw) (m : Int) (h0 : 0 < m) (h1 : m < 1073741824) : f__law_take [D.1, .leaf (.int m)] = some (.ok (.leaf (.int (D.r m))), [(D.n m).1, .leaf (.int m)]) := (Classical.choose_spec (ZgH D m) h0 h1).1
theorem ZhQ (D : Drw) (m : Int) (h0 : 0 < m) (h1 : m < 1073741824) : 0 ≤ D.r m := (Classical.choose_spec (ZgH D m) h0 h1).2.1
theorem ZhO (D : Drw) (m : Int) (h0 : 0 < m) (h1 : m < 1073741824) : D.r m < m := (Classical.choose_spec (ZgH D m) h0 h1).2.2
theorem ZnM {en : En} {i : Nat} {T : OT} (h : en[i]? = some (some T)) : pV i en = some (i, []) := by
 unfold pV subE
 rw [h]
 cases T <;> rfl
theorem ixN_nat {n k : Nat} (h : k < n) : L2.ixN n (k : Int) = some k := by
 unfold L2.ixN
 rw [if_pos (by omega), if_pos (by omega)]
 simp
local macro_rules
 | `(tactic| exists $es,*) => do
  let ts := es.getElems
  let a ← (s!"↓Znc ↓ZoH ↓Zru ↓Zpl ↓Zne ↓ZpX Zoo Zr4 ZpD ZpZ Zr5 ZpF ↓ZqX ↓Zlx ↓Zm1 ZjP ZoE ZnF ZnH ↓ZrJ ↓ZqC ↓Zoa ↓ZmB ZpG Zp8 ↓ZmM ↓Zmg ↓ZpR ↓Zqi ↓ZoT ↓Zos ↓Zsa ↓ZsO ↓Zsn ↓ZsZ ↓Zkw ↓ZmF ↓Zsj ↓Ztv ZmW Zmq ↓ZdZ ↓Ztr ↓Zs9 ↓Zsu Zal ZjX ZbH Zoj ↓Zle ↓ZrW ↓ZqF ↓Zpr ↓Zo3 ↓Zek ↓ZrZ ↓Zon ↓ZnC ↓ZsS ↓Zsv ↓Ztt ↓Zrz ↓Zqc ↓ZsJ ↓ZsI ↓ZsR ↓ZrE ↓ZsP ↓Zso ↓ZqO ↓ZqA ↓Zny ↓ZlP ↓Ztg ↓ZrK ↓ZpV ↓Zoi ↓ZqR ↓ZmP ↓Zpt ↓Zme ↓Zqw ↓ZqQ ↓Zot ↓Zs7 ↓Zrn ↓ZsV ↓ZtC ↓Zls ↓Zhl ↓ZkC ↓Zqs ↓ZnS ↓Zoe ↓Zpf ↓Znm ↓ZqG ↓Zs8 ↓Zpb ↓ZlY ↓Zkm ↓ZoS Zod ↓ZmA ↓Zsy ↓Zp9 ↓Zng ↓Znl ↓Znh ↓ZrR ↓ZqM ↓ZmJ ↓ZkT ↓ZmK ↓ZrY ↓ZrI Znv Znr Znt Zo6 Zn1 Zpq ↓Zn4 ↓Zm6 ↓Zrj ↓ZoA ↓Zpx ↓Ztk ↓ZsG ↓Zsr ↓Zph ↓Zof ↓Zp3 ↓ZrV ↓Zp5 Zo1 Zor Zrk ZqU Zld Zhb ZjY Zcj ZhP Zei Zdi Zkx ZkH Zag String.reduceEq List.nil_append List.cons_append ↓ZqP ↓Zp2 ↓Zp6 ↓Zna ↓ZlU ↓Znu ↓ZqS ZtD Zsw ↓Zrx ↓ZqL Zsb ZrS Zmb Zm5 Zmf Zpu ↓ZsQ ↓ZsU ↓ZsN ↓ZsW ↓ZsT ↓Zti ↓Ztj ↓Zsl ↓Ztc ↓Ztx ↓Zsp ↓Zst ↓Ztb ↓Zsx ↓Zs1 ↓Ztp ↓Zq ↓Zd ↓Z4 ↓Ztz ↓ZsF ↓Zro ↓Zrc ↓Zsh ↓Zpc ↓Zmk ↓Zty ↓Zn5 ↓ZrU ↓ZpU ↓Zou ↓Zqd ↓Zrq ↓ZnU ↓ZqE ↓ZjI ↓ZoK ↓Zse ↓Zrs ↓Zrv ↓Zlt ↓Zr7 ↓Zr3 ↓Zrb ↓ZqY ↓Zn3 ↓ZmE ↓Zo4 ↓Zl2 ↓ZpH ↓ZoG ↓Zmi ↓Zpz ↓Zni ↓Zpm ↓ZpS ↓Zs4 ↓Zm9 ↓Zlh ↓Zmc ↓Zob ↓Zox Zq ZaH Zd9 Zac Zol ZmH Zlq Zog Ziw Zqr ZrA Zo2 ZoO ZoZ Zrp ZqZ Zqa Zok ZnZ Zoh Zpj ZoI ZpN Znp ZmN Zms Zow ZpW Zp0 Zmx ZmT ZqT Zre Zkl ZkD Zlg wipeD wipeE backE ZtE ZrM Zpy Zoz ZpQ Zp4 ZkU Zm0 ZpJ ZnX Zo0 ZkM Zjo Zhr Za6 Zs2 Ztu ZsM Zss Zmv Zmr ZrL Zqu Zn9 ZpP ZsB ZsK Zqj Zpk ZpA Zpp Zkp ZkG List.length_cons List.length_nil List.length_map List.map_cons List.map_nil Nat.reduceAdd Nat.reduceLeDiff Nat.reduceLT Nat.reduceEqDiff decide_true decide_false Nat.zero_add Option.bind_some Option.bind_none Option.map_some Option.map_none Option.join_some Option.join_none List.getElem?_cons_zero List.getElem?_cons_succ List.set_cons_zero List.set_cons_succ Option.some.injEq true_and and_true exists_eq exists_eq' decide_eq_true_eq decide_eq_false_iff_not Bool.not_eq_true' Bool.not_eq_false' if_true if_false Bool.false_eq_true ite_true ite_false reduceIte false_implies true_implies forall_const implies_true reduceCtorEq Bool.not_true Bool.not_false imp_self and_self not_true_eq_false not_false_eq_true".splitOn " ").toArray.mapM fun s =>
   let i := Lean.mkIdent (s.dropPrefix "↓").toString.toName
   if s.startsWith "↓" then `(Lean.Parser.Tactic.simpLemma| ↓ $i:term) else `(Lean.Parser.Tactic.simpLemma| $i:term)
  let b ← ts.mapM fun t => `(Lean.Parser.Tactic.simpLemma| $t:term)
  let c := a ++ b
  `(tactic| simp only [$[$c:simpLemma],*])
theorem Zmm {α : Type} {k : Key} {m : List (Key × α)} : (lkM k m).isSome = true ↔ k ∈ m.map (·.1) := by
 unfold lkM
 rw [Option.isSome_map, List.find?_isSome, List.mem_map]
 exact ⟨fun ⟨x, h1, h2⟩ => ⟨x, h1, by simpa using h2⟩, fun ⟨x, h1, h2⟩ => ⟨x, h1, by simpa using h2⟩⟩
noncomputable def dTI (c : List Int) : PyData := .tuple (c.map PyData.int)
theorem Zgb {a lo hi : Int} : gR ZaK [.int a, .int lo, .int hi] = some (.bool (decide (lo ≤ a) && decide (a ≤ hi))) := Zfm ⟨a, lo, hi, rfl, rfl⟩ fun e ⟨a', lo', hi', h, he⟩ => by
 injection h with h1 h
 injection h with h2 h
 injection h with h3 _
 injection h1 with h1
 injection h2 with h2
 injection h3 with h3
 rw [he, h1, h2, h3]
structure SD where
 size : Int
 wear : Int
 bls : List (List (List Int × Int))
 looks : List (Key × List (List Nat))
 stories : List (Key × List PyData)
 cnt : Int
 wishes : List (Key × List (List Nat))
noncomputable def dSt (s : List Int × Int) : PyData := .tuple [dTI s.1, .int s.2]
noncomputable def bT (bs : List (List (List Int × Int))) : OT := .node .lst (bs.map fun b => (Lab.no, lstT (b.map dSt)))
noncomputable def dTx (l : List (List Nat)) : PyData := .tuple ((l.map tx).map PyData.str)
noncomputable def lkF (l : List (List Nat)) : PyData := dLook l
noncomputable def shT (C : Addr) (s : SD) : OT := .node (.ins C) [(.fld "field", .leaf (.int s.size)), (.fld "strength", .leaf (.int s.wear)), (.fld "block_states", bT s.bls), (.fld "sheet_looks", .node .dct (dT lkF s.looks)), (.fld "sheet_stories", .node .dct (dT PyData.tuple s.stories)), (.fld "sheet_count", .leaf (.int s.cnt)), (.fld "wished", .node .dct (dT dTx s.wishes))]
theorem ZcT (bs : List (List (List Int × Int))) : (bT bs).data = .list (bs.map fun b => .list (b.map dSt)) := by
 unfold bT
 rw [OT.data, OT.datas_map, List.map_map]
 congr 1
 exact List.map_congr_left fun b _ => Zhr _
noncomputable def blkOk (s : SD) (b : Int) : Bool := decide (0 ≤ b) && decide (b ≤ (s.bls.length : Int) - 1)
theorem ZfR (cN C : Addr) (s : SD) (b : Int) : Zaa cN C [shT C s, .leaf (.int b)] = some (if blkOk s b then .ok (.leaf .none) else .ex cN, [shT C s, .leaf (.int b)]) := by
 unfold Zaa
 refine ZK (ds := [.int b]) ?_
 unfold Zba shT
 cases h : blkOk s b with
 | true =>
  have h1 : gR ZaK [.int b, .int 0, .int ((s.bls.length : Int) - 1)] = some (.bool true) := by rw [Zgb]; exact congrArg (fun x => some (PyData.bool x)) h
  exists ZcT, h1, Nat.le_refl
 | false =>
  have h1 : gR ZaK [.int b, .int 0, .int ((s.bls.length : Int) - 1)] = some (.bool false) := by rw [Zgb]; exact congrArg (fun x => some (PyData.bool x)) h
  exists ZcT, h1, Nat.le_refl
theorem Zc9 (cN C : Addr) (s : SD) (x : Int) : ZN cN C [shT C s, .leaf (.int x)] = some (if (lkM (.inl x) s.looks).isSome then .ok (.leaf .none) else .ex cN, [shT C s, .leaf (.int x)]) := by
 unfold ZN
 refine ZK (ds := [.int x]) ?_
 unfold Za8 shT
 have hk := ZjQ (f := lkF) (l := s.looks) (d := .int x) (k := .inl x) rfl true
 cases h : (lkM (.inl x) s.looks).isSome with
 | true => exists hk, h, Nat.le_refl
 | false => exists hk, h, Nat.le_refl
theorem Zpn {α : Type} {f : α → PyData} {l : List α} {d : α} {i : Nat} (h : i < l.length) : L2.atI (l.map f) (i : Int) = some (f (l.getD i d)) := by
 refine atI_nat ?_
 rw [List.getElem?_map, List.getElem?_eq_getElem h, List.getD_eq_getElem?_getD, List.getElem?_eq_getElem h]
 rfl
theorem Zml {α : Type} {l : List α} {x : α} (h : l.getLast? = some x) : L2.atI l (-1) = some x := by
 have hl : l ≠ [] := by rintro rfl; simp at h
 have h1 : 0 < l.length := List.length_pos_iff.mpr hl
 rw [List.getLast?_eq_getElem?] at h
 unfold L2.atI L2.ixN
 rw [if_neg (by decide), if_pos (by omega)]
 have : ((-1 : Int) + (l.length : Int)).toNat = l.length - 1 := by omega
 rw [this]
 exact h
noncomputable def lastS (b : List (List Int × Int)) : List Int × Int := (b.getLast?).getD ([], 0)
theorem ZgF {b : List (List Int × Int)} (h : b ≠ []) : b.getLast? = some (lastS b) := by
 cases hb : b.getLast? with
 | none => exact absurd (List.getLast?_eq_none_iff.mp hb) h
 | some x => unfold lastS; rw [hb]; rfl
theorem ZiK {b : List (List Int × Int)} (h : b ≠ []) : L2.atI (b.map dSt) (-1) = some (dSt (lastS b)) := Zml (by rw [List.getLast?_map, ZgF h]; rfl)
structure SOk (s : SD) : Prop where
 sz : 1 ≤ s.size ∧ s.size ≤ 24
 ne : ∀ b ∈ s.bls, b ≠ []
 bl : s.bls.length ≤ 8
 st : ∀ b ∈ s.bls, b.length ≤ 1000 ∧ ∀ x ∈ b, x.1.length ≤ 24
noncomputable def SD.blk (s : SD) (b : Int) : List (List Int × Int) := s.bls.getD b.toNat []
theorem Zd5 {s : SD} {b : Int} (h : blkOk s b = true) : ∃ k : Nat, b = (k : Int) ∧ k < s.bls.length ∧ s.bls[k]? = some (s.blk b) ∧ s.blk b ∈ s.bls := by
 unfold blkOk at h
 rw [Bool.and_eq_true, decide_eq_true_eq, decide_eq_true_eq] at h
 refine ⟨b.toNat, by omega, by omega, ?_, ?_⟩
 ·unfold SD.blk
  rw [List.getD_eq_getElem?_getD, List.getElem?_eq_getElem (by omega)]
  rfl
 ·unfold SD.blk
  rw [List.getD_eq_getElem?_getD, List.getElem?_eq_getElem (by omega)]
  exact List.getElem_mem _
theorem ZkR (ds : List PyData) : allLeaf (oLeafs ds) = true := by
 unfold allLeaf oLeafs
 rw [List.all_map]
 exact List.all_eq_true.mpr fun _ _ => rfl
theorem ZcZ (cNB C : Addr) (s : SD) (b : Int) : ZP cNB C [shT C s, .leaf (.int b)] = some (if blkOk s b then .ok (lstT ((s.blk b).map dSt)) else .ex cNB, [shT C s, .leaf (.int b)]) := by
 have h1 := ZfR cNB C s b
 unfold ZP
 refine ZK (ds := [.int b]) ?_
 unfold ZcE
 unfold shT bT at h1 ⊢
 cases hb : blkOk s b with
 | false =>
  rw [hb] at h1
  exists h1, Nat.le_refl
 | true =>
  rw [hb] at h1
  obtain ⟨k, rfl, hk, hat, hmem⟩ := Zd5 hb
  have hix := ixN_nat hk
  have hg : (s.bls.map fun b => (Lab.no, lstT (b.map dSt)))[k]? = some (Lab.no, lstT ((s.blk (k : Int)).map dSt)) := by
   rw [List.getElem?_map, hat]
   rfl
  exists h1, hix, hg, ZkR, Nat.le_refl
  rfl
noncomputable def pulls (b : List (List Int × Int)) : Int := (b.map (·.2)).sum
noncomputable def SD.left (s : SD) (b : Int) : Int := s.wear - pulls (s.blk b)
theorem ZkO (cNB C : Addr) {s : SD} (hs : SOk s) (b : Int) : Zbo cNB C [shT C s, .leaf (.int b)] = some (if blkOk s b then .ok (.leaf (.int (s.left b))) else .ex cNB, [shT C s, .leaf (.int b)]) := by
 have h1 := ZcZ cNB C s b
 unfold Zbo
 refine ZK (ds := [.int b]) ?_
 unfold Zdu
 unfold shT at h1 ⊢
 cases hb : blkOk s b with
 | false =>
  rw [hb] at h1
  exists h1, Nat.le_refl
 | true =>
  rw [hb] at h1
  obtain ⟨k, rfl, hk, hat, hmem⟩ := Zd5 hb
  have hl := (hs.st _ hmem).1
  exists h1
  refine ZX ⟨rfl, by omega⟩ ?_
  exists wipeE
  refine Zk2 dSt (s.blk (k : Int)) (fun pre ys e => ys = pre.map (fun x : List Int × Int => PyData.int x.2) ∧ e = [some (.node (.ins C) [(.fld "field", .leaf (.int s.size)), (.fld "strength", .leaf (.int s.wear)), (.fld "block_states", bT s.bls), (.fld "sheet_looks", .node .dct (dT lkF s.looks)), (.fld "sheet_stories", .node .dct (dT PyData.tuple s.stories)), (.fld "sheet_count", .leaf (.int s.cnt)), (.fld "wished", .node .dct (dT dTx s.wishes))]), some (.leaf (.int (k : Int))), none, none]) ⟨rfl, rfl⟩ ?_ ?_
  ·rintro pre x _ ys e ⟨rfl, rfl⟩
   exists dSt, wipeE
   rw [List.map_append]
   rfl
  ·rintro ys e ⟨rfl, rfl⟩
   have hsum : cSum [.list ((s.blk (k : Int)).map fun x : List Int × Int => PyData.int x.2)] = some (.int (pulls (s.blk (k : Int)))) := by
    show (asLI _).map _ = _
    rw [show ((s.blk (k : Int)).map fun x : List Int × Int => PyData.int x.2) = ((s.blk (k : Int)).map (·.2)).map PyData.int by rw [List.map_map]; rfl, Zik]
    rfl
   exists hsum, SD.left, Nat.le_refl
theorem Zn0 {Q : List (Lab × OT) → Prop} {bs : List (List (List Int × Int))} : kLst Q (bT bs) = Q (bs.map fun b => (Lab.no, lstT (b.map dSt))) := id rfl
theorem Zk3 {bs : List (List (List Int × Int))} {k : Nat} {p : List Nat} : (bT bs).sub (k :: p) = ((bs.map fun b => (Lab.no, lstT (b.map dSt)))[k]?).bind fun x => x.2.sub p := id rfl
theorem ZfL (c : List Int) : (c.map PyData.int).all flatD = true := by rw [List.all_map]; exact List.all_eq_true.mpr fun _ _ => rfl
theorem Zgp (l : List (List Nat)) : ((l.map tx).map PyData.str).all flatD = true := by rw [List.all_map]; exact List.all_eq_true.mpr fun _ _ => rfl
noncomputable def SD.lk (s : SD) (x : Int) : List (List Nat) := (lkM (.inl x) s.looks).getD []
theorem Znz {k : Key} {f : List PyData → PyData} {l : List (Key × List PyData)} {r : List PyData} (h : lkM k l = some r) : valT k (dT f l) = some (f r) := by
 rw [ZjX, h]
 rfl
theorem ZnQ {α : Type} {j a : Key} {w : α} {r : List (Key × α)} : lkM j ((a, w) :: r) = if a = j then some w else lkM j r := by
 unfold lkM
 rw [List.find?_cons]
 by_cases h : a = j
 ·rw [if_pos h]; simp [h]
 ·rw [if_neg h]; simp [h]
theorem Zkv (cN C : Addr) (s : SD) (x : Int) : Zbd cN C [shT C s, .leaf (.int x)] = some (match lkM (.inl x) s.looks with | some l => .ok (lstT ((l.map tx).map PyData.str)) | none => .ex cN, [shT C s, .leaf (.int x)]) := by
 have h1 := Zc9 cN C s x
 unfold Zbd
 refine ZK (ds := [.int x]) ?_
 unfold Zdw
 unfold shT at h1 ⊢
 cases h : lkM (.inl x) s.looks with
 | none =>
  rw [h] at h1
  exists h1, Option.isSome_none, Nat.le_refl
 | some l =>
  rw [h] at h1
  have hg := Zf2 (f := lkF) (l := s.looks) (d := .int x) (k := .inl x) rfl
  rw [h] at hg
  have hg : oDGet (dM lkF s.looks) (.int x) = some (dLook l) := hg
  exists h1, Option.isSome_some, Zal, hg, Zgp, Nat.le_refl
theorem Zku (C : Addr) (s : SD) : Zbi C [shT C s] = some (.ok (.leaf (.int (s.bls.length : Nat))), [shT C s]) := by
 unfold Zbi
 refine ZK (ds := []) ?_
 unfold Zds shT
 exists ZcT, Nat.le_refl
noncomputable def SD.new (size wear : Int) : SD := ⟨size, wear, [], [], [], 0, []⟩
theorem Zl4 {C : Addr} {n : Int} (h : 1 ≤ n ∧ n ≤ 24) : gR (ZaB C) [.int n] = some (.inl .none) := Zfm ⟨n, rfl, by rw [if_pos]; unfold sizeB; rw [Bool.and_eq_true]; exact ⟨decide_eq_true h.1, decide_eq_true h.2⟩⟩ fun e ⟨m, hm, he⟩ => by
 injection hm with hm _
 have := PyData.int.inj hm
 subst this
 rw [he, if_pos]
 unfold sizeB
 rw [Bool.and_eq_true]
 exact ⟨decide_eq_true h.1, decide_eq_true h.2⟩
theorem Zmy {C : Addr} {n : Int} (h : 1 ≤ n ∧ n ≤ 60) : gR (Zbj C) [.int n] = some (.inl .none) := Zfm ⟨n, rfl, by rw [if_pos]; unfold wearB; rw [Bool.and_eq_true]; exact ⟨decide_eq_true h.1, decide_eq_true h.2⟩⟩ fun e ⟨m, hm, he⟩ => by
 injection hm with hm _
 have := PyData.int.inj hm
 subst this
 rw [he, if_pos]
 unfold wearB
 rw [Bool.and_eq_true]
 exact ⟨decide_eq_true h.1, decide_eq_true h.2⟩
theorem Zks (cS cW C : Addr) {size wear : Int} (h1 : 1 ≤ size ∧ size ≤ 24) (h2 : 1 ≤ wear ∧ wear ≤ 60) : Zt cS cW C [.node (.ins C) [], .leaf (.int size), .leaf (.int wear)] = some (.ok (.leaf .none), [shT C (SD.new size wear), .leaf (.int size), .leaf (.int wear)]) := by
 unfold Zt
 refine ZK (ds := [.int size, .int wear]) ?_
 unfold ZaY
 exists Zl4 h1, Zmy h2, rxO, Nat.le_refl
 rfl
theorem ZgY (cNB C : Addr) {s : SD} (hs : SOk s) (b : Int) : Zau cNB C [shT C s, .leaf (.int b)] = some (if blkOk s b = true then .ok (lstT ((lastS (s.blk b)).1.map PyData.int)) else .ex cNB, [shT C s, .leaf (.int b)]) := by
 have h1 := ZcZ cNB C s b
 unfold Zau
 refine ZK (ds := [.int b]) ?_
 unfold ZbO
 unfold shT at h1 ⊢
 cases hb : blkOk s b with
 | false =>
  rw [hb] at h1
  exists h1, Nat.le_refl
 | true =>
  rw [hb] at h1
  obtain ⟨k, rfl, hk, hat, hmem⟩ := Zd5 hb
  have a2 := ZiK (hs.ne _ hmem)
  have a3 : L2.atI [dTI (lastS (s.blk (k : Int))).1, PyData.int (lastS (s.blk (k : Int))).2] 0 = some (dTI (lastS (s.blk (k : Int))).1) := Zdc
  have e2 : cList [dTI (lastS (s.blk (k : Int))).1] = some (.list ((lastS (s.blk (k : Int))).1.map PyData.int)) := rfl
  exists h1, a2, dSt, a3, e2, Nat.le_refl
theorem ZkL (cN C : Addr) (s : SD) (n : Str) : ZaV cN C [shT C s, .leaf (.str n)] = some (match lkM (.inr n) s.wishes with | some l => .ok (lstT ((l.map tx).map PyData.str)) | none => .ex cN, [shT C s, .leaf (.str n)]) := by
 have h3 := ZjQ (f := dTx) (l := s.wishes) (d := .str n) (k := .inr n) rfl true
 have hg := Zf2 (f := dTx) (l := s.wishes) (d := .str n) (k := .inr n) rfl
 unfold ZaV
 refine ZK (ds := [.str n]) ?_
 unfold Zdq shT
 cases h : lkM (.inr n) s.wishes with
 | none =>
  have h3 : oDIn true (.str n) (dM dTx s.wishes) = some (.bool true) := by rw [h3, h]; rfl
  exists Zal, h3, Nat.le_refl
 | some l =>
  have h3 : oDIn true (.str n) (dM dTx s.wishes) = some (.bool false) := by rw [h3, h]; rfl
  have hg : oDGet (dM dTx s.wishes) (.str n) = some (dTx l) := by rw [hg, h]; rfl
  have hc : cList [dTx l] = some (.list ((l.map tx).map PyData.str)) := rfl
  exists Zal, h3, hg, hc, Zgp, Nat.le_refl
noncomputable def bkT (s : SD) : OT := .node .dct [(.key (.inr (Str.ofString "size")), .leaf (.int s.size)), (.key (.inr (Str.ofString "wear")), .leaf (.int s.wear)), (.key (.inr (Str.ofString "blocks")), bT s.bls), (.key (.inr (Str.ofString "looks")), .node .dct (dT lkF s.looks)), (.key (.inr (Str.ofString "stories")), .node .dct (dT PyData.list s.stories)), (.key (.inr (Str.ofString "came")), .leaf (.int s.cnt)), (.key (.inr (Str.ofString "wishes")), .node .dct (dT lkF s.wishes))]
noncomputable def bkD (s : SD) : PyData := (bkT s).data
theorem Zj4 (s : SD) : oDGet (bkD s) (.str (Str.ofString "size")) = some (.int s.size) := by
 unfold bkD bkT
 rw [Za4]
 simp only [ZbH, Option.bind_some, Zbx, Sum.inr.injEq, Zag, String.reduceEq, if_true, if_false, Option.map_some, Za6]
theorem ZgR (s : SD) : oDGet (bkD s) (.str (Str.ofString "wear")) = some (.int s.wear) := by
 unfold bkD bkT
 rw [Za4]
 simp only [ZbH, Option.bind_some, Zbx, Sum.inr.injEq, Zag, String.reduceEq, if_true, if_false, Option.map_some, Za6]
theorem Zcn (s : SD) : oDGet (bkD s) (.str (Str.ofString "blocks")) = some (.list (s.bls.map fun b => .list (b.map dSt))) := by
 unfold bkD bkT
 rw [Za4]
 simp only [ZbH, Option.bind_some, Zbx, Sum.inr.injEq, Zag, String.reduceEq, if_true, if_false, Option.map_some, ZcT]
theorem ZiF (s : SD) : oDGet (bkD s) (.str (Str.ofString "looks")) = some (dM lkF s.looks) := by
 unfold bkD bkT
 rw [Za4]
 simp only [ZbH, Option.bind_some, Zbx, Sum.inr.injEq, Zag, String.reduceEq, if_true, if_false, Option.map_some, Zal]
theorem Zhj (s : SD) : oDGet (bkD s) (.str (Str.ofString "wishes")) = some (dM lkF s.wishes) := by
 unfold bkD bkT
 rw [Za4]
 simp only [ZbH, Option.bind_some, Zbx, Sum.inr.injEq, Zag, String.reduceEq, if_true, if_false, Option.map_some, Zal]
theorem ZkF (size wear : Int) : f__law_shop [.int size, .int wear] = some (bkT (SD.new size wear)) := by
 unfold f__law_shop
 refine Zqn ?_
 unfold ZdQ
 exists Zn2
 refine ZX (by decide) ?_
 exists ZlH, ZlG, ZoU
 exact ⟨rfl, rfl⟩
theorem ZqW {s : SD} {k : Nat} (hat : s.bls[k]? = some (s.blk (k : Int))) : L2.atI (s.bls.map fun b => PyData.list (b.map dSt)) (k : Int) = some (.list ((s.blk (k : Int)).map dSt)) := by
 refine atI_nat ?_
 rw [List.getElem?_map, hat]
 rfl
theorem ZkA {s : SD} (hs : SOk s) {b : Int} (hb : blkOk s b = true) : f__law_left [bkD s, .int b] = some (.int (s.left b)) := by
 obtain ⟨k, rfl, hk, hat, hmem⟩ := Zd5 hb
 have hl := (hs.st _ hmem).1
 have a1 := ZqW hat
 have hsum : cSum [.list ((s.blk (k : Int)).map fun x : List Int × Int => PyData.int x.2)] = some (.int (pulls (s.blk (k : Int)))) := by
  show (asLI _).map _ = _
  rw [show ((s.blk (k : Int)).map fun x : List Int × Int => PyData.int x.2) = ((s.blk (k : Int)).map (·.2)).map PyData.int by rw [List.map_map]; rfl, Zik]
  rfl
 unfold f__law_left
 refine ZrH ?_
 unfold ZdL
 exists ZgR, Zcn
 refine Zsg dSt (s.blk (k : Int)) (fun x => .int x.2) (by omega) ?_ (fun x hx => ?_) ?_
 ·exists Zcn, a1
 ·exists dSt
 ·exists hsum
  rfl
theorem Zgj (s : SD) : (bkT s).data = bkD s := rfl
theorem Zky (C : Addr) (s : SD) : ZaU C [shT C s] = some (.ok (.leaf (.int s.size)), [shT C s]) := by
 unfold ZaU
 refine ZK (ds := []) ?_
 unfold ZdC shT
 exists Nat.le_refl
theorem ZkN (C : Addr) (s : SD) : ZaX C [shT C s] = some (.ok (.leaf (.int s.wear)), [shT C s]) := by
 unfold ZaX
 refine ZK (ds := []) ?_
 unfold ZdP shT
 exists Nat.le_refl
theorem Zij (C : Addr) {s : SD} {ks : List Int} (h : s.looks.map (·.1) = ks.map Sum.inl) (hl : ks.length < 64) : ZaR C [shT C s] = some (.ok (lstT ((srt ks).map PyData.int)), [shT C s]) := by
 have e := Zgt (f := lkF) h hl
 unfold ZaR
 refine ZK (ds := []) ?_
 unfold ZcA shT
 exists Zal, e, ZfL, Nat.le_refl
theorem Zjg (C : Addr) {s : SD} {ks : List Str} (h : s.wishes.map (·.1) = ks.map Sum.inr) (hl : ks.length < 64) : ZaS C [shT C s] = some (.ok (lstT ((srtS ks).map PyData.str)), [shT C s]) := by
 have e := ZgA (f := dTx) h hl
 have hf : ((srtS ks).map PyData.str).all flatD = true := by rw [List.all_map]; exact List.all_eq_true.mpr fun _ _ => rfl
 unfold ZaS
 refine ZK (ds := []) ?_
 unfold Zcz shT
 exists Zal, e, hf, Nat.le_refl
theorem Zjx (cN C : Addr) {s : SD} {x : Int} {l : List (List Nat)} {r : List PyData} (hl : lkM (.inl x) s.looks = some l) (hr : lkM (.inl x) s.stories = some r) : Za2 cN C [shT C s, .leaf (.int x)] = some (.ok (lstT r), [shT C s, .leaf (.int x)]) := by
 have h1 := Zc9 cN C s x
 rw [hl] at h1
 have hv := Znz (f := PyData.tuple) hr
 have hc : cList [.tuple r] = some (.list r) := rfl
 unfold Za2
 refine ZK (ds := [.int x]) ?_
 unfold Zc6
 unfold shT at h1 ⊢
 exists h1, Option.isSome_some, hv, hc, Nat.le_refl
theorem Zak {C : Addr} {s : SD} {l : En} {m : String} (h : m ≠ "field" ∧ m ≠ "strength" ∧ m ≠ "block_states" ∧ m ≠ "sheet_looks" ∧ m ≠ "sheet_stories" ∧ m ≠ "sheet_count" ∧ m ≠ "wished") : insNo (some (shT C s) :: l) 0 C (Str.ofString m) = true := by
 obtain ⟨h1, h2, h3, h4, h5, h6, h7⟩ := h
 unfold shT
 rw [ZjP]
 simp only [ZnH, ZnF, Zag, h1, h2, h3, h4, h5, h6, h7, if_false]
theorem Ze7 {α : Type} {k : Key} {v : α} : ∀ {l : List (Key × α)}, (l.map (·.1)).Nodup → (k, v) ∈ l → lkM k l = some v
 | (a, w) :: r, hn, h => by
  rw [List.map_cons, List.nodup_cons] at hn
  rw [ZnQ]
  rcases List.mem_cons.mp h with h | h
  ·cases h
   rw [if_pos rfl]
  ·rw [if_neg (fun e => hn.1 (List.mem_map.mpr ⟨_, h, e.symm⟩))]
   exact Ze7 hn.2 h
theorem Zjb {α : Type} {k : Key} {v : α} {l : List (Key × α)} (h : lkM k l = some v) : (k, v) ∈ l := by
 induction l with
 | nil => cases h
 | cons x r ih =>
  obtain ⟨a, w⟩ := x
  rw [ZnQ] at h
  split at h
  ·rename_i e; cases h; rw [e]; exact List.mem_cons_self
  ·exact List.mem_cons_of_mem _ (ih h)
theorem Zp1 {α : Type} {k : Key} {l : List (Key × α)} : (lkM k l).isSome = true ↔ k ∈ l.map (·.1) := Zmm
structure BkOk (s : SD) : Prop where
 ok : SOk s
 lk : ∃ ks : List Int, s.looks.map (·.1) = ks.map Sum.inl ∧ ks.length < 64 ∧ ks.Nodup
 sk : s.stories.map (·.1) = s.looks.map (·.1)
 wk : ∃ ks : List Str, s.wishes.map (·.1) = ks.map Sum.inr ∧ ks.length < 64 ∧ ks.Nodup
 lv : ∀ kv ∈ s.looks, kv.2.length ≤ 1000
 sv : ∀ kv ∈ s.stories, kv.2.length ≤ 50000 ∧ ∀ d ∈ kv.2, Sm 2 d ∧ noLk d = true
 wv : ∀ kv ∈ s.wishes, kv.2.length ≤ 1000
theorem ZbB {α : Type} {f : α → PyData} {l : List α} (h : ∀ x ∈ l, noLk (f x) = true) : noLks (l.map f) = true := ZbG.mpr fun d hd => by
 obtain ⟨x, hx, rfl⟩ := List.mem_map.mp hd
 exact h x hx
theorem Zhs {α : Type} {f : α → PyData} : ∀ {l : List (Key × α)}, (∀ kv ∈ l, noLk (f kv.2) = true) → noLkK (l.map fun kv => (keyD kv.1, f kv.2)) = true
 | [], _ => rfl
 | kv :: l, h => by
  rw [List.map_cons, noLkK, h kv List.mem_cons_self, Zhs fun x hx => h x (List.mem_cons_of_mem _ hx)]
  rfl
theorem ZcQ {α : Type} {f : α → PyData} {l : List (Key × α)} (h : ∀ kv ∈ l, noLk (f kv.2) = true) : noLk (dM f l) = true := by
 unfold dM
 rw [noLk, Zhs h, Bool.and_true]
 cases l with
 | nil => rfl
 | cons kv l =>
  obtain ⟨k, v⟩ := kv
  cases k <;> rfl
theorem Zct (l : List (List Nat)) : noLk (dLook l) = true := by
 show noLks ((l.map tx).map PyData.str) = true
 exact ZbB fun _ _ => rfl
theorem Zpd (x : List Int × Int) : noLk (dSt x) = true := by
 have h1 : noLks (x.1.map PyData.int) = true := ZbB fun _ _ => rfl
 show (noLk (dTI x.1) && (noLk (.int x.2) && true)) = true
 show (noLks (x.1.map PyData.int) && _) = true
 rw [h1]
 rfl
theorem ZjT (bs : List (List (List Int × Int))) : noLk (bT bs).data = true := by
 rw [ZcT]
 refine ZbB fun b hb => ?_
 exact ZbB fun x hx => Zpd x
theorem BkOk.noS {s : SD} (h : BkOk s) (C : Addr) : noLk (shT C s).data = true := by
 have e : (shT C s).data = .dict ((.none, .int (C : Nat)) :: [(.str (Str.ofString "field"), .int s.size), (.str (Str.ofString "strength"), .int s.wear), (.str (Str.ofString "block_states"), (bT s.bls).data), (.str (Str.ofString "sheet_looks"), dM lkF s.looks), (.str (Str.ofString "sheet_stories"), dM PyData.tuple s.stories), (.str (Str.ofString "sheet_count"), .int s.cnt), (.str (Str.ofString "wished"), dM dTx s.wishes)]) := by
  unfold shT
  rw [OT.data]
  simp only [OT.datas, Za6, Zal]
  rfl
 have h1 := ZcQ (f := lkF) (l := s.looks) fun kv _ => Zct kv.2
 have h2 := ZcQ (f := PyData.tuple) (l := s.stories) fun kv hk => ZbG.mpr fun d hd => ((h.sv kv hk).2 d hd).2
 have h3 := ZcQ (f := dTx) (l := s.wishes) fun kv _ => Zct kv.2
 have h4 := ZjT s.bls
 rw [e]
 show (true && (true && (true && (true && (noLk (bT s.bls).data && (noLk (dM lkF s.looks) && (noLk (dM PyData.tuple s.stories) && (true && (noLk (dM dTx s.wishes) && true))))))))) = true
 rw [h1, h2, h3, h4]
 rfl
theorem BkOk.noB {s : SD} (h : BkOk s) : noLk (bkT s).data = true := by
 have e : (bkT s).data = .dict [(.str (Str.ofString "size"), .int s.size), (.str (Str.ofString "wear"), .int s.wear), (.str (Str.ofString "blocks"), (bT s.bls).data), (.str (Str.ofString "looks"), dM lkF s.looks), (.str (Str.ofString "stories"), dM PyData.list s.stories), (.str (Str.ofString "came"), .int s.cnt), (.str (Str.ofString "wishes"), dM lkF s.wishes)] := by
  unfold bkT
  rw [OT.data]
  simp only [OT.datas, Za6, Zal]
  rfl
 have h1 := ZcQ (f := lkF) (l := s.looks) fun kv _ => Zct kv.2
 have h2 := ZcQ (f := PyData.list) (l := s.stories) fun kv hk => ZbG.mpr fun d hd => ((h.sv kv hk).2 d hd).2
 have h3 := ZcQ (f := lkF) (l := s.wishes) fun kv _ => Zct kv.2
 have h4 := ZjT s.bls
 rw [e]
 show (true && (true && (true && (noLk (bT s.bls).data && (noLk (dM lkF s.looks) && (noLk (dM PyData.list s.stories) && (true && (noLk (dM lkF s.wishes) && true)))))))) = true
 rw [h1, h2, h3, h4]
 rfl
noncomputable def bkL (a : Addr) (s : SD) : OT := .node .dct [(.key (.inr (Str.ofString "size")), .leaf (.int s.size)), (.key (.inr (Str.ofString "wear")), .leaf (.int s.wear)), (.key (.inr (Str.ofString "blocks")), bT s.bls), (.key (.inr (Str.ofString "looks")), .leaf (lkD a (kdOf (dT lkF s.looks)))), (.key (.inr (Str.ofString "stories")), .node .dct (dT PyData.list s.stories)), (.key (.inr (Str.ofString "came")), .leaf (.int s.cnt)), (.key (.inr (Str.ofString "wishes")), .node .dct (dT lkF s.wishes))]
noncomputable def bkW (a : Addr) (s : SD) : OT := .node .dct [(.key (.inr (Str.ofString "size")), .leaf (.int s.size)), (.key (.inr (Str.ofString "wear")), .leaf (.int s.wear)), (.key (.inr (Str.ofString "blocks")), bT s.bls), (.key (.inr (Str.ofString "looks")), .node .dct (dT lkF s.looks)), (.key (.inr (Str.ofString "stories")), .node .dct (dT PyData.list s.stories)), (.key (.inr (Str.ofString "came")), .leaf (.int s.cnt)), (.key (.inr (Str.ofString "wishes")), .leaf (lkD a (kdOf (dT lkF s.wishes))))]
theorem Zk1 (a : Addr) (s : SD) : oDGet (bkL a s).data (.str (Str.ofString "looks")) = some (lkD a (kdOf (dT lkF s.looks))) := by
 unfold bkL
 rw [Za4]
 simp only [ZbH, Option.bind_some, Zbx, Sum.inr.injEq, Zag, String.reduceEq, if_true, if_false, Option.map_some, Za6]
theorem Zjt (a : Addr) (s : SD) : oDGet (bkL a s).data (.str (Str.ofString "stories")) = some (dM PyData.list s.stories) := by
 unfold bkL
 rw [Za4]
 simp only [ZbH, Option.bind_some, Zbx, Sum.inr.injEq, Zag, String.reduceEq, if_true, if_false, Option.map_some, Zal]
theorem ZoC {Q : List (Lab × OT) → Prop} {s : SD} : kDct Q (bkT s) = Q [(.key (.inr (Str.ofString "size")), .leaf (.int s.size)), (.key (.inr (Str.ofString "wear")), .leaf (.int s.wear)), (.key (.inr (Str.ofString "blocks")), bT s.bls), (.key (.inr (Str.ofString "looks")), .node .dct (dT lkF s.looks)), (.key (.inr (Str.ofString "stories")), .node .dct (dT PyData.list s.stories)), (.key (.inr (Str.ofString "came")), .leaf (.int s.cnt)), (.key (.inr (Str.ofString "wishes")), .node .dct (dT lkF s.wishes))] := id rfl
theorem ZjL {s : SD} {p : List Nat} : (bkT s).sub (2 :: p) = (bT s.bls).sub p := id rfl
theorem Zmo {en : En} {i : Nat} {s : SD} (h : en[i]? = some (some (bkT s))) : pD (pV i) (wC (.str (Str.ofString "looks"))) en = some (i, [3]) := by
 have hs : subE en i [] = some (bkT s) := by unfold subE; rw [h]; exact Zcj
 show ((pV i en).bind fun q => (subE en q.1 q.2).bind _) = _
 have hp : pV i en = some (i, []) := ZnM h
 rw [hp, Option.bind_some]
 show ((subE en i []).bind _) = _
 rw [hs, Option.bind_some]
 unfold bkT
 dsimp only
 simp only [Zgu, Sum.inr.injEq, Zag, String.reduceEq, if_true, if_false, Option.map_some, List.nil_append, Nat.zero_add, Nat.reduceAdd]
theorem Zly {en : En} {i : Nat} {s : SD} (h : en[i]? = some (some (bkT s))) : pD (pV i) (wC (.str (Str.ofString "wishes"))) en = some (i, [6]) := by
 have hs : subE en i [] = some (bkT s) := by unfold subE; rw [h]; exact Zcj
 show ((pV i en).bind fun q => (subE en q.1 q.2).bind _) = _
 have hp : pV i en = some (i, []) := ZnM h
 rw [hp, Option.bind_some]
 show ((subE en i []).bind _) = _
 rw [hs, Option.bind_some]
 unfold bkT
 dsimp only
 simp only [Zgu, Sum.inr.injEq, Zag, String.reduceEq, if_true, if_false, Option.map_some, List.nil_append, Nat.zero_add, Nat.reduceAdd]
theorem ZgC {en : En} {i : Nat} {s : SD} (h : en[i]? = some (some (bkT s))) : dctL en (i, [3]) = some (dT lkF s.looks) := by
 have hs : subE en i [3] = some (.node .dct (dT lkF s.looks)) := by
  unfold subE
  rw [h]
  show ((bkT s).sub [3]) = _
  unfold bkT
  rw [ZhP]
  exact Zcj
 show ((subE en i [3]).bind _) = _
 rw [hs, Option.bind_some]
 dsimp only
 rw [Zgz]
 rfl
theorem ZfJ {en : En} {i : Nat} {s : SD} (h : en[i]? = some (some (bkT s))) : dctL en (i, [6]) = some (dT lkF s.wishes) := by
 have hs : subE en i [6] = some (.node .dct (dT lkF s.wishes)) := by
  unfold subE
  rw [h]
  show ((bkT s).sub [6]) = _
  unfold bkT
  rw [ZhP]
  exact Zcj
 show ((subE en i [6]).bind _) = _
 rw [hs, Option.bind_some]
 dsimp only
 rw [Zgz]
 rfl
theorem Zfw {a : Addr} {s : SD} {A : Option OT} {l : En} : lockE a (1, [3]) (dT lkF s.looks) (A :: some (bkT s) :: l) = A :: some (bkL a s) :: l := by
 unfold lockE putE1 bkT bkL
 simp only [List.getElem?_cons_succ, List.getElem?_cons_zero, Option.join_some, Zdi, Zei, ZkH, Zkx, List.set_cons_succ, List.set_cons_zero]
theorem ZiE {a : Addr} {s : SD} {A : Option OT} {l : En} : lockE a (1, [6]) (dT lkF s.wishes) (A :: some (bkT s) :: l) = A :: some (bkW a s) :: l := by
 unfold lockE putE1 bkT bkW
 simp only [List.getElem?_cons_succ, List.getElem?_cons_zero, Option.join_some, Zdi, Zei, ZkH, Zkx, List.set_cons_succ, List.set_cons_zero]
theorem Zh0 {k g : Key} {T : OT} {r : List (Lab × OT)} : valT k ((.key g, T) :: r) = if g = k then leafD T else valT k r := by
 unfold valT
 rw [Zgu]
 split
 ·rfl
 ·cases h : idxK k r with
  | none => rfl
  | some n => rfl
theorem ZmC {Q : List (Lab × OT) → Prop} {a : Addr} {s : SD} : kDct Q (bkL a s) = Q [(.key (.inr (Str.ofString "size")), .leaf (.int s.size)), (.key (.inr (Str.ofString "wear")), .leaf (.int s.wear)), (.key (.inr (Str.ofString "blocks")), bT s.bls), (.key (.inr (Str.ofString "looks")), .leaf (lkD a (kdOf (dT lkF s.looks)))), (.key (.inr (Str.ofString "stories")), .node .dct (dT PyData.list s.stories)), (.key (.inr (Str.ofString "came")), .leaf (.int s.cnt)), (.key (.inr (Str.ofString "wishes")), .node .dct (dT lkF s.wishes))] := id rfl
theorem Zji {Q : List (Lab × OT) → Prop} {a : Addr} {s : SD} : kDct Q (bkW a s) = Q [(.key (.inr (Str.ofString "size")), .leaf (.int s.size)), (.key (.inr (Str.ofString "wear")), .leaf (.int s.wear)), (.key (.inr (Str.ofString "blocks")), bT s.bls), (.key (.inr (Str.ofString "looks")), .node .dct (dT lkF s.looks)), (.key (.inr (Str.ofString "stories")), .node .dct (dT PyData.list s.stories)), (.key (.inr (Str.ofString "came")), .leaf (.int s.cnt)), (.key (.inr (Str.ofString "wishes")), .leaf (lkD a (kdOf (dT lkF s.wishes))))] := id rfl
theorem Zsz {p q : Prop} (h : p = q) (k : q) : p := h ▸ k
theorem Zgd {e : PyData} (h : Sm 4 e) : gR (Zbm 5) [e, e] = some (.bool true) := Zfm ⟨e, rfl, h, rfl⟩ fun d ⟨_, _, _, hd⟩ => hd
theorem ZnI {n : Nat} {c : List Int} (h : c.length ≤ 50000) : Sm (n + 1) (dLI c) := ⟨by rw [List.length_map]; exact h, fun d hd => by
 obtain ⟨x, _, rfl⟩ := List.mem_map.mp hd
 cases n <;> trivial⟩
theorem ZtA {n : Nat} {c : List Int} (h : c.length ≤ 50000) : Sm (n + 1) (dTI c) := ⟨by rw [List.length_map]; exact h, fun d hd => by
 obtain ⟨x, _, rfl⟩ := List.mem_map.mp hd
 cases n <;> trivial⟩
theorem Zj9 {n : Nat} {l : List (List Nat)} (h : l.length ≤ 50000) : Sm (n + 1) (dLook l) := Zj6 (by rw [List.length_map]; exact h)
theorem ZsY {n : Nat} {x : List Int × Int} (h : x.1.length ≤ 50000) : Sm (n + 2) (dSt x) := ⟨by simp, fun d hd => by
 rcases List.mem_cons.mp hd with rfl | hd
 ·exact ZtA h
 ·rw [List.mem_singleton.mp hd]; trivial⟩
theorem Zrr {n : Nat} {b : List (List Int × Int)} (h : b.length ≤ 1000 ∧ ∀ x ∈ b, x.1.length ≤ 24) : Sm (n + 3) (.list (b.map dSt)) := ⟨by rw [List.length_map]; omega, fun d hd => by
 obtain ⟨x, hx, rfl⟩ := List.mem_map.mp hd
 have := h.2 x hx
 exact ZsY (by omega)⟩
noncomputable def keyAt (s : SD) : Nat → Option OT
 | 0 => none
 | i + 1 => (s.looks[i]?).map fun kv => .leaf (keyD kv.1)
noncomputable def toldAt (s : SD) : Nat → Option OT
 | 0 => none
 | i + 1 => (s.looks[i]?).map fun kv => .leaf (.list [dLook kv.2, .list ((lkM kv.1 s.stories).getD [])])
theorem Zjp (cNB cNS cNW C : Addr) {s : SD} (hB : BkOk s) : Za5 cNB cNS cNW C [shT C s, bkT s] = some (.ok (.leaf (.bool true)), [shT C s, bkT s]) := by
 have hs := hB.ok
 obtain ⟨ks, hk1, hk2, hk3⟩ := hB.lk
 obtain ⟨ws, hw1, hw2, hw3⟩ := hB.wk
 have kln := congrArg List.length hk1
 have wln := congrArg List.length hw1
 rw [List.length_map, List.length_map] at kln wln
 have hlnd : (s.looks.map (·.1)).Nodup := by rw [hk1]; exact List.pairwise_map.mpr (hk3.imp fun h e => h (Sum.inl.inj e))
 have hwnd : (s.wishes.map (·.1)).Nodup := by rw [hw1]; exact List.pairwise_map.mpr (hw3.imp fun h e => h (Sum.inr.inj e))
 have hbl := hs.bl
 have r1 := Zky C s
 have r2 := ZkN C s
 have r3 := Zku C s
 have r4 := Zij C hk1 hk2
 have r5 := Zjg C hw1 hw2
 have s1 := Zgt (f := lkF) hk1 hk2
 have s2 := ZgA (f := lkF) hw1 hw2
 have hfs : ((srtS ws).map PyData.str).all flatD = true := by rw [List.all_map]; exact List.all_eq_true.mpr fun _ _ => rfl
 have is1 := fun l => Zak (C := C) (s := s) (l := l) (m := "size") (by decide)
 have is2 := fun l => Zak (C := C) (s := s) (l := l) (m := "wear") (by decide)
 have is3 := fun l => Zak (C := C) (s := s) (l := l) (m := "cuts") (by decide)
 have is4 := fun l => Zak (C := C) (s := s) (l := l) (m := "sheets") (by decide)
 have is5 := fun l => Zak (C := C) (s := s) (l := l) (m := "wishes") (by decide)
 have is6 := fun l => Zak (C := C) (s := s) (l := l) (m := "states") (by decide)
 have is7 := fun l => Zak (C := C) (s := s) (l := l) (m := "standing") (by decide)
 have is8 := fun l => Zak (C := C) (s := s) (l := l) (m := "left") (by decide)
 have is9 := fun l => Zak (C := C) (s := s) (l := l) (m := "look") (by decide)
 have is10 := fun l => Zak (C := C) (s := s) (l := l) (m := "story") (by decide)
 have is11 := fun l => Zak (C := C) (s := s) (l := l) (m := "wish") (by decide)
 have sl1 : (srt ks).length = ks.length := (ZiO ks).length_eq
 have sl2 : (srtS ws).length = ws.length := (Zey ws).length_eq
 obtain ⟨D, hD⟩ : ∃ D, D = PyData.list [.int s.size, .int s.wear, .int (s.bls.length : Nat), dLI (srt ks), dLS (srtS ws)] := ⟨_, rfl⟩
 have hDs : Sm 4 D := by
  rw [hD]
  refine ⟨by simp, fun d hd => ?_⟩
  simp only [List.mem_cons, List.not_mem_nil, or_false] at hd
  rcases hd with rfl | rfl | rfl | rfl | rfl
  ·trivial
  ·trivial
  ·trivial
  ·exact ZnI (by omega)
  ·exact Zj6 (by omega)
 have hsame := Zgd hDs
 unfold Za5
 refine Zqk ?_
 unfold Zdb
 rw [ZdZ]
 refine Zbs (fun en => en = [some (shT C s), some (bkT s), some (.leaf D), none, none, none, none, none, none]) ?_ ?_
 ·exists is1, is2, is3, is4, is5, r1, r2, r3, r4, r5
  rw [hD]
 rintro _ rfl
 refine Zbs (fun en => en = [some (shT C s), some (bkT s), some (.leaf D), some (.leaf D), none, none, none, none, none]) ?_ ?_
 ·exists Zgj, Zj4, ZgR, Zcn, ZiF, Zhj, s1, s2
  exists Zgj, Zj4, ZgR, Zcn, ZiF, Zhj, s1, s2, ZfL, hfs
  rw [hD]
 rintro _ rfl
 refine Zbs (fun en => en = [some (shT C s), some (bkT s), some (.leaf D), some (.leaf D), none, none, none, none, none]) (by exists hsame) ?_
 rintro _ rfl
 have hrg : rg1 [.int (s.bls.length : Nat)] = some ((List.range s.bls.length).map fun i : Nat => PyData.int (i : Int)) := by
  show (if okI (s.bls.length : Int) = true then some (rgI 0 ((s.bls.length : Int)).toNat) else none) = _
  rw [if_pos (ZlT (by omega) (by omega)), Int.toNat_natCast]
  unfold rgI
  congr 1
  exact List.map_congr_left fun i _ => by rw [Int.zero_add]
 refine Zbs (fun en => ∃ y4, (∀ T, y4 = some T → noLk T.data = true) ∧ en = [some (shT C s), some (bkT s), some (.leaf D), some (.leaf D), y4, none, none, none, none]) ?_ ?_
 ·exists Zgj, Zcn, hrg
  refine Zfk (fun i : Nat => PyData.int (i : Int)) (List.range s.bls.length) (fun i en => ∃ y4, (∀ T, y4 = some T → noLk T.data = true) ∧ en = [some (shT C s), some (bkT s), some (.leaf D), some (.leaf D), y4, none, none, none, none]) ⟨none, fun _ h => (nomatch h), rfl⟩ ?_ ?_
  ·rintro i x hx e ⟨y4, hy4, rfl⟩
   obtain ⟨hi, hxe⟩ := List.getElem?_eq_some_iff.mp hx
   rw [List.getElem_range] at hxe
   rw [List.length_range] at hi
   subst hxe
   have hb : blkOk s (i : Int) = true := by
    unfold blkOk
    rw [decide_eq_true (by omega), decide_eq_true (by omega)]
    rfl
   obtain ⟨k, hk, hkl, hat, hmem⟩ := Zd5 hb
   have : i = k := by omega
   subst this
   have q1 := ZcZ cNB C s (i : Int)
   have q2 := ZgY cNB C hs (i : Int)
   have q3 := ZkO cNB C hs (i : Int)
   have q4 := ZkA hs hb
   rw [hb, if_pos rfl] at q1 q2 q3
   have hix := ixN_nat hkl
   have hg : (s.bls.map fun b => (Lab.no, lstT (b.map dSt)))[i]? = some (Lab.no, lstT ((s.blk (i : Int)).map dSt)) := by
    rw [List.getElem?_map, hat]
    rfl
   have a2 := ZiK (hs.ne _ hmem)
   have a3 : L2.atI [dTI (lastS (s.blk (i : Int))).1, PyData.int (lastS (s.blk (i : Int))).2] 0 = some (dTI (lastS (s.blk (i : Int))).1) := Zdc
   have e2 : cList [dTI (lastS (s.blk (i : Int))).1] = some (.list ((lastS (s.blk (i : Int))).1.map PyData.int)) := rfl
   have hst := hs.st _ hmem
   have hll := hst.2 _ (List.mem_of_getLast? (ZgF (hs.ne _ hmem)))
   have hsm : Sm 4 (.list [.list ((s.blk (i : Int)).map dSt), dLI (lastS (s.blk (i : Int))).1]) := ⟨by simp, fun d hd => by
    rcases List.mem_cons.mp hd with rfl | hd
    ·exact Zrr hst
    ·rw [List.mem_singleton.mp hd]; exact ZnI (by omega)⟩
   have hsame2 := Zgd hsm
   have hsame3 := Zgd (e := .int (s.left (i : Int))) trivial
   refine ⟨_, rfl, ?_⟩
   refine Zsz Zm3 ?_
   exists Zsk, ZoC, Zgu, Sum.inr.injEq, ZjL, hix, hg, Zn0, Zk3, is6, is7, q1, q2
   refine ZX (by decide) ?_
   exists ZjL, hix, Zk3, Zcj, hg, is6, is7, q1, q2, a2, a3, e2, dSt, hsame2, is8, q3, Zgj, q4, hsame3
   exact ⟨_, fun T h => (by cases h; rfl), rfl⟩
  ·rintro e ⟨y4, hy4, rfl⟩
   exact ⟨y4, hy4, rfl⟩
 rintro _ ⟨y4, hy4, rfl⟩
 have hend : noLkE [some (shT C s), some (bkT s), some (.leaf D), some (.leaf D), y4, keyAt s s.looks.length, toldAt s s.looks.length, none, none] = true := by
  have e1 := hB.noS C
  have e2 := hB.noB
  have e3 : noLk D = true := by
   rw [hD]
   have z1 : noLks ((srt ks).map PyData.int) = true := ZbB fun _ _ => rfl
   have z2 : noLks ((srtS ws).map PyData.str) = true := ZbB fun _ _ => rfl
   show (true && (true && (true && (noLks ((srt ks).map PyData.int) && (noLks ((srtS ws).map PyData.str) && true))))) = true
   rw [z1, z2]
   rfl
  have e4 : ∀ T, keyAt s s.looks.length = some T → noLk T.data = true := fun T hT => by
   cases z : s.looks.length with
   | zero => rw [z] at hT; cases hT
   | succ i =>
    rw [z] at hT
    obtain ⟨kv, _, rfl⟩ := Option.map_eq_some_iff.mp hT
    obtain ⟨k, v⟩ := kv
    cases k <;> rfl
  have e5 : ∀ T, toldAt s s.looks.length = some T → noLk T.data = true := fun T hT => by
   cases z : s.looks.length with
   | zero => rw [z] at hT; cases hT
   | succ i =>
    rw [z] at hT
    obtain ⟨kv, _, rfl⟩ := Option.map_eq_some_iff.mp hT
    have z1 := Zct kv.2
    have z2 : noLks ((lkM kv.1 s.stories).getD []) = true := by
     cases y : lkM kv.1 s.stories with
     | none => rfl
     | some r => exact ZbG.mpr fun d hd => ((hB.sv _ (Zjb y)).2 d hd).2
    show (noLk (dLook kv.2) && (noLks ((lkM kv.1 s.stories).getD []) && true)) = true
    rw [z1, z2]
    rfl
  have e6 : ∀ T, y4 = some T → noLk T.data = true := hy4
  unfold noLkE
  rw [List.all_eq_true]
  intro o ho
  simp only [List.mem_cons, List.not_mem_nil, or_false] at ho
  cases o with
  | none => rfl
  | some T =>
   rcases ho with h | h | h | h | h | h | h | h | h
   ·cases h; exact e1
   ·cases h; exact e2
   ·cases h; exact e3
   ·cases h; exact e3
   ·exact e6 T h.symm
   ·exact e4 T h.symm
   ·exact e5 T h.symm
   ·cases h
   ·cases h
 refine Zbs (fun en => en = [some (shT C s), some (bkT s), some (.leaf D), some (.leaf D), y4, none, keyAt s s.looks.length, toldAt s s.looks.length, none]) ?_ ?_
 ·refine ZoN (1, [3]) (dT lkF s.looks) [some (shT C s), some (bkT s), some (.leaf D), some (.leaf D), y4, none, keyAt s s.looks.length, toldAt s s.looks.length, none] (Zmo rfl) (ZgC rfl) (fun a => ?_) (ZgC rfl) hend rfl
  rw [Zfw, Zfw]
  exists ZmC, Zh0, Sum.inr.injEq, Zjz, Zfd, Zj5
  refine Zfk (fun kv : Key × List (List Nat) => keyD kv.1) s.looks (fun i en => en = [some (shT C s), some (bkL a s), some (.leaf D), some (.leaf D), y4, none, keyAt s i, toldAt s i, none]) rfl ?_ ?_
  ·rintro i kv hkv _ rfl
   have hmem := List.mem_of_getElem? hkv
   obtain ⟨k, l⟩ := kv
   have hkx : ∃ x : Int, k = .inl x := by
    have := congrArg (fun z => z[i]?) hk1
    simp only [List.getElem?_map, hkv, Option.map_some] at this
    obtain ⟨x, _, hx⟩ := Option.map_eq_some_iff.mp this.symm
    exact ⟨x, hx.symm⟩
   obtain ⟨x, rfl⟩ := hkx
   have hl := Ze7 hlnd hmem
   have hrs : (lkM (.inl x) s.stories).isSome = true := Zp1.mpr (by rw [hB.sk]; exact List.mem_map.mpr ⟨_, hmem, rfl⟩)
   obtain ⟨r, hr⟩ := Option.isSome_iff_exists.mp hrs
   have hr2 : r.length ≤ 50000 ∧ ∀ d ∈ r, Sm 2 d ∧ noLk d = true := hB.sv _ (Zjb hr)
   have hl2 : l.length ≤ 1000 := hB.lv _ hmem
   have q1 := Zkv cNS C s x
   have q2 := Zjx cNS C hl hr
   rw [hl] at q1
   have k1 : keyAt s (i + 1) = some (.leaf (.int x)) := by
    show (s.looks[i]?).map _ = _
    rw [hkv]
    rfl
   have t1 : toldAt s (i + 1) = some (.leaf (.list [dLook l, .list r])) := by
    show (s.looks[i]?).map _ = _
    rw [hkv]
    show some (OT.leaf (.list [dLook l, .list ((lkM (.inl x) s.stories).getD [])])) = _
    rw [hr]
    rfl
   have hsm : Sm 4 (.list [dLook l, .list r]) := ⟨by simp, fun d hd => by
    rcases List.mem_cons.mp hd with rfl | hd
    ·exact Zj9 (by omega)
    ·rw [List.mem_singleton.mp hd]
     exact ⟨hr2.1, fun d hd => (hr2.2 d hd).1⟩⟩
   have hsame4 := Zgd hsm
   have hlg : (lkM (.inl x) s.looks).map lkF = some (dLook l) := by rw [hl]; rfl
   have hsg := Zf2 (f := PyData.list) (l := s.stories) (d := .int x) (k := .inl x) rfl
   rw [hr] at hsg
   rw [k1, t1]
   refine ⟨_, rfl, ?_⟩
   have kx : keyD (.inl x) = .int x := rfl
   exists kx, is9, is10, q1, q2, Zk1, Zjt, Zjk, Zfd, Zix, hlg, hsg, hsame4
  ·rintro _ rfl
   exact ⟨rfl, rfl⟩
 rintro _ rfl
 have hw : ∀ n l, (.inr n, l) ∈ s.wishes → lkM (.inr n) s.wishes = some l := fun n l h => Ze7 hwnd h
 have hnl : noLk (.list (s.wishes.map fun _ => PyData.bool true)) = true := ZbB fun _ _ => rfl
 have hal : cAll [.list (s.wishes.map fun _ => PyData.bool true)] = some (.bool true) := by
  have := ZmU (fun _ : Key × List (List Nat) => true) s.wishes
  rw [this]
  congr 2
  exact List.all_eq_true.mpr fun _ _ => rfl
 exists true_and
 refine Zl8 (1, [6]) (dT lkF s.wishes) (.list (s.wishes.map fun _ => PyData.bool true)) [some (shT C s), some (bkT s), some (.leaf D), some (.leaf D), y4, none, keyAt s s.looks.length, toldAt s s.looks.length, none] (Zly rfl) (ZfJ rfl) (fun a => ?_) hnl (ZfJ rfl) hend ?_
 ·rw [ZiE]
  exists Zji, Zh0, Sum.inr.injEq, Zjz, Zfd, Zj5
  refine ZX ⟨rfl, by omega⟩ ?_
  exists wipeE
  refine Zk2 (fun kv : Key × List (List Nat) => keyD kv.1) s.wishes (fun pre ys e => ys = pre.map (fun _ => PyData.bool true) ∧ e = [some (shT C s), some (bkW a s), some (.leaf D), some (.leaf D), y4, none, keyAt s s.looks.length, toldAt s s.looks.length, none]) ⟨rfl, rfl⟩ ?_ ?_
  ·rintro pre kv ⟨post, hp⟩ ys e ⟨rfl, rfl⟩
   have hmem : kv ∈ s.wishes := by rw [← hp]; simp
   obtain ⟨k, l⟩ := kv
   have hkx : ∃ x : Str, k = .inr x := by
    have : k ∈ s.wishes.map (·.1) := List.mem_map.mpr ⟨_, hmem, rfl⟩
    rw [hw1] at this
    obtain ⟨x, _, hx⟩ := List.mem_map.mp this
    exact ⟨x, hx.symm⟩
   obtain ⟨x, rfl⟩ := hkx
   have hl := hw x l hmem
   have hl3 : l.length ≤ 1000 := hB.wv _ hmem
   have q1 := ZkL cNW C s x
   rw [hl] at q1
   have kx : keyD (.inr x) = .str x := rfl
   have hlg : (lkM (.inr x) s.wishes).map lkF = some (dLook l) := by rw [hl]; rfl
   have hsame5 := Zgd (e := dLook l) (Zj9 (by omega))
   exists kx, is11, q1, Zji, Zh0, Sum.inr.injEq, Zjk, Zfd, Zix, hlg, hsame5, wipeE
   rw [List.map_append]
   rfl
  ·rintro ys e ⟨rfl, rfl⟩
   exists true_and
 ·exists hal
  rfl
theorem ZrP {α : Type} (f : α → PyData) {xs : List α} {r : Int} (h0 : 0 ≤ r) (h1 : r < xs.length) : ∃ x, x ∈ xs ∧ L2.atI (xs.map f) r = some (f x) := by
 obtain ⟨k, rfl⟩ : ∃ k : Nat, r = (k : Int) := ⟨r.toNat, by omega⟩
 have hk : k < xs.length := by omega
 exact ⟨xs[k], List.getElem_mem hk, atI_nat (j := k) (by rw [List.getElem?_map, List.getElem?_eq_getElem hk]; rfl)⟩
theorem ZmR {xs : List Int} {r : Int} (h0 : 0 ≤ r) (h1 : r < xs.length) : ∃ x, x ∈ xs ∧ L2.atI (xs.map PyData.int) r = some (.int x) := ZrP PyData.int h0 h1
theorem Zk4 {i j : Int} (h : i.natAbs ≤ 18446744073709551615) : oMul (.int i) (.int j) = some (.int (i * j)) := by
 show (if cMul _ _ = true then _ else none) = _
 rw [if_pos]
 unfold cMul
 rw [Bool.or_eq_true]
 exact .inl (Nat.ble_eq.mpr h)
theorem Zjj (D : Drw) : ∃ (x : Int) (D' : Drw), f__law_odd [D.1] = some (.ok (.leaf (.int x)), [D'.1]) := by
 have tk9 := Ze9 D 1000000000 (by decide) (by decide)
 have lo9 := ZhQ D 1000000000 (by decide) (by decide)
 have hi9 := ZhO D 1000000000 (by decide) (by decide)
 generalize D.r 1000000000 = a at *
 generalize D.n 1000000000 = D1 at *
 have tk := Ze9 D1 9 (by decide) (by decide)
 have lo := ZhQ D1 9 (by decide) (by decide)
 have hi := ZhO D1 9 (by decide) (by decide)
 generalize D1.r 9 = r at *
 generalize D1.n 9 = D2 at *
 obtain ⟨x, _, hx⟩ := ZmR (xs := [-1, 0, 1, 25, 61, a, -1 - a, a * 100000000000000000000, -a * 100000000000000000000]) lo hi
 have hx : L2.atI [PyData.int (-1), PyData.int 0, PyData.int 1, PyData.int 25, PyData.int 61, PyData.int a, PyData.int (-1 - a), PyData.int (a * 100000000000000000000), PyData.int (-a * 100000000000000000000)] r = some (.int x) := hx
 have p9 : oPow (.int 10) (.int 9) = some (.int 1000000000) := rfl
 have p20 : oPow (.int 10) (.int 20) = some (.int 100000000000000000000) := rfl
 have m1 := Zk4 (i := a) (j := 100000000000000000000) (by omega)
 have m2 := Zk4 (i := -a) (j := 100000000000000000000) (by omega)
 refine ⟨x, D2, ?_⟩
 unfold f__law_odd
 refine ZK (ds := []) ?_
 unfold Zeg
 exists p9, p20, tk9, m1, m2, tk, hx, Nat.le_refl
theorem ZiZ {α : Type} (f : α → PyData) {xs : List α} {r : Int} (h0 : 0 ≤ r) (h1 : r < xs.length) : ∃ x, x ∈ xs ∧ L2.atI (xs.map f) r = some (f x) := by
 obtain ⟨k, rfl⟩ : ∃ k : Nat, r = (k : Int) := ⟨r.toNat, by omega⟩
 have hk : k < xs.length := by omega
 exact ⟨xs.getD k xs[k], by rw [List.getD_eq_getElem?_getD, List.getElem?_eq_getElem hk]; exact List.getElem_mem hk, Zpn (f := f) (d := xs[k]) hk⟩
theorem Zrg {p : FP} {en : En} {q : Nat × List Nat} {S : OT} {r : List FP} {qs : List (Nat × List Nat)} (h1 : p en = some q) (h2 : subE en q.1 q.2 = some S) (h3 : posA r en = some qs) : posA (p :: r) en = some (q :: qs) := by
 unfold posA
 rw [h1, Option.bind_some, h2, Option.bind_some, h3]
 rfl
theorem Zov {C : Addr} {m : Str} {fd : FD} {pl : FP} {w : DE → Option (List PyData)} {en : En} {QN : Ke (Rx OT)} (q : Nat × List Nat) (S S' : OT) (rest : List OT) (ds : List PyData) (r : Rx OT) (hp : pl en = some q) (hs : subE en q.1 q.2 = some S) (hi : insNoP en q C m = true) (hq : q.2.length < 12) (hw : w (strong en) = some ds) (hf : fd (S :: ds.map OT.leaf) = some (r, S' :: rest)) (k : QN.q r (putE1 en q S')) : @Ru _ (nAskP C m fd pl w) en QN := by
 rw [Zqb]
 refine ⟨q, hp, hi, ?_⟩
 refine Zma [q] [S] [S'] rest ds r (Zrg hp hs rfl) ⟨hs, trivial⟩ rfl (by show q.2.length + 0 < 12; omega) hw hf rfl ?_
 exact k
theorem Zo9 {fd : FD} {as bs : List OT} {T : OT} (h : fd as = some (.ok T, bs)) : noX fd as = some (.ok T, bs) := by unfold noX; rw [h]; rfl
theorem Zhn {C : Addr} {n : Int} : gR (ZaB C) [.int n] = some (if sizeB n = true then .inl .none else .inr C) := Zfm ⟨n, rfl, rfl⟩ fun e ⟨m, hm, he⟩ => by
 injection hm with hm _
 have := PyData.int.inj hm
 subst this
 exact he
theorem Zk6 {C : Addr} {n : Int} : gR (Zbj C) [.int n] = some (if wearB n = true then .inl .none else .inr C) := Zfm ⟨n, rfl, rfl⟩ fun e ⟨m, hm, he⟩ => by
 injection hm with hm _
 have := PyData.int.inj hm
 subst this
 exact he
/-- what is refused when a shop is opened -/
noncomputable def mkEr (cS cW : Addr) (z w : Int) : Option Addr := if sizeB z = false then some cS else if wearB w = false then some cW else none
noncomputable def rMk : Option Addr → Rx OT
 | none => .ok (.leaf .none)
 | some E => .ex E
theorem Zh6 (cS cW C : Addr) (z w : Int) : Zt cS cW C [.node (.ins C) [], .leaf (.int z), .leaf (.int w)] = some (rMk (mkEr cS cW z w), [if (mkEr cS cW z w).isNone = true then shT C (SD.new z w) else .node (.ins C) [], .leaf (.int z), .leaf (.int w)]) := by
 have h1 := Zhn (C := cS) (n := z)
 have h2 := Zk6 (C := cW) (n := w)
 unfold Zt
 refine ZK (ds := [.int z, .int w]) ?_
 unfold ZaY mkEr
 cases q1 : sizeB z with
 | false =>
  rw [q1] at h1
  exists h1, rxO, rMk, Option.isNone_some, Nat.le_refl
 | true =>
  rw [q1] at h1
  cases q2 : wearB w with
  | false =>
   rw [q2] at h2
   exists h1, h2, rxO, rMk, Option.isNone_some, Nat.le_refl
  | true =>
   rw [q2] at h2
   exists h1, h2, rxO, rMk, Option.isNone_none, Nat.le_refl
   rfl
noncomputable def bookT (C : Addr) (d : PyData) : OT := .node (.ins C) [(.fld "house", .leaf d), (.fld "done", lstT []), (.fld "past", lstT []), (.fld "gone", lstT [])]
theorem ZfQ (cS cW cB C : Addr) (z w : Int) : ZE cS cW cB C [.node (.ins cB) [], .leaf (.int z), .leaf (.int w)] = some (rMk (mkEr cS cW z w), [if (mkEr cS cW z w).isNone = true then bookT cB (shT C (SD.new z w)).data else .node (.ins cB) [], .leaf (.int z), .leaf (.int w)]) := by
 have h := Zh6 cS cW C z w
 unfold ZE
 refine ZK (ds := [.int z, .int w]) ?_
 unfold ZbI
 cases hE : mkEr cS cW z w with
 | some E =>
  rw [hE] at h
  exists h, rMk, Option.isNone_some, Nat.le_refl
 | none =>
  rw [hE] at h
  exists h, rMk, Option.isNone_none, Nat.le_refl
  rfl
theorem ZmG (cS cW cB cD C : Addr) (z w : Int) : Z8 cS cW cB cD C [.node (.ins cD) [], .leaf (.int z), .leaf (.int w)] = some (rMk (mkEr cS cW z w), [if (mkEr cS cW z w).isNone = true then .node (.ins cD) [(.fld "kept_book", bookT cB (shT C (SD.new z w)).data)] else .node (.ins cD) [], .leaf (.int z), .leaf (.int w)]) := by
 have h := ZfQ cS cW cB C z w
 unfold Z8
 refine ZK (ds := [.int z, .int w]) ?_
 unfold ZbJ
 cases hE : mkEr cS cW z w with
 | some E =>
  rw [hE] at h
  exists h, rMk, Option.isNone_some, Nat.le_refl
 | none =>
  rw [hE] at h
  exists h, rMk, Option.isNone_none, Nat.le_refl
/-- a shop told, read and told anew -/
theorem ZgQ (C : Addr) (s : SD) : oFld C (Str.ofString "field") (shT C s).data = some (.int s.size) ∧ oFld C (Str.ofString "strength") (shT C s).data = some (.int s.wear) ∧ oFld C (Str.ofString "block_states") (shT C s).data = some (bT s.bls).data ∧ oFld C (Str.ofString "sheet_looks") (shT C s).data = some (dM lkF s.looks) ∧ oFld C (Str.ofString "sheet_stories") (shT C s).data = some (dM PyData.tuple s.stories) ∧ oFld C (Str.ofString "sheet_count") (shT C s).data = some (.int s.cnt) ∧ oFld C (Str.ofString "wished") (shT C s).data = some (dM dTx s.wishes) := by
 unfold shT
 simp only [ZjY, Zhb, Zag, String.reduceEq, if_true, if_false, reduceIte, Option.map_some, Za6, Zal, and_self]
theorem ZiC (C : Addr) (s : SD) {m : String} (h : m ∉ ["field", "strength", "block_states", "sheet_looks", "sheet_stories", "sheet_count", "wished"]) : isI C (Str.ofString m) (shT C s).data = true := by
 have h0 : lookT (Str.ofString m) [(.fld "field", .leaf (.int s.size)), (.fld "strength", .leaf (.int s.wear)), (.fld "block_states", bT s.bls), (.fld "sheet_looks", .node .dct (dT lkF s.looks)), (.fld "sheet_stories", .node .dct (dT PyData.tuple s.stories)), (.fld "sheet_count", .leaf (.int s.cnt)), (.fld "wished", .node .dct (dT dTx s.wishes))] = none := by
  simp only [List.mem_cons, List.not_mem_nil, or_false, not_or] at h
  simp only [Zhb, Zag, h.1, h.2.1, h.2.2.1, h.2.2.2.1, h.2.2.2.2.1, h.2.2.2.2.2.1, h.2.2.2.2.2.2, if_false, reduceIte]
  rfl
 have h1 := Ze5 (Str.ofString m) [(.fld "field", .leaf (.int s.size)), (.fld "strength", .leaf (.int s.wear)), (.fld "block_states", bT s.bls), (.fld "sheet_looks", .node .dct (dT lkF s.looks)), (.fld "sheet_stories", .node .dct (dT PyData.tuple s.stories)), (.fld "sheet_count", .leaf (.int s.cnt)), (.fld "wished", .node .dct (dT dTx s.wishes))]
 rw [h0] at h1
 unfold shT isI
 show (decide ((C : Int) = (C : Int)) && _) = true
 rw [h1, decide_eq_true rfl]
 rfl
theorem Znn (C : Addr) (s : SD) : Zas C [.leaf (shT C s).data] = some (.ok (.leaf (.int s.size)), [.leaf (shT C s).data]) := by
 obtain ⟨h1, _⟩ := ZgQ C s
 unfold Zas
 refine Zfj (ds := [(shT C s).data]) ?_
 unfold ZcF
 exists h1, Z1, Nat.le_refl
theorem Zmn (C : Addr) (s : SD) : Zar C [.leaf (shT C s).data] = some (.ok (.leaf (.int s.wear)), [.leaf (shT C s).data]) := by
 obtain ⟨_, h1, _⟩ := ZgQ C s
 unfold Zar
 refine Zfj (ds := [(shT C s).data]) ?_
 unfold ZcD
 exists h1, Z1, Nat.le_refl
theorem Znw (cS cW C : Addr) {s : SD} (hz : 1 ≤ s.size ∧ s.size ≤ 24) (hw : 1 ≤ s.wear ∧ s.wear ≤ 60) (hb : s.bls = []) : ZaP cS cW C [.leaf (shT C s).data] = some (.ok (shT C s), [.leaf (shT C s).data]) := by
 have hi := Zks cS cW C hz hw
 obtain ⟨h1, h2, h3, h4, h5, h6, h7⟩ := ZgQ C s
 rw [ZcT] at h3
 unfold ZaP
 refine Zfj (ds := [(shT C s).data]) ?_
 unfold ZcB
 generalize (shT C s).data = d at *
 rw [ZdZ]
 unfold shT at hi ⊢
 exists h1, h2, hi
 refine Zqe (fun b : List (List Int × Int) => PyData.list (b.map dSt)) s.bls (fun b => lstT (b.map dSt)) (by rw [hb]; decide) ?_ (fun b hb2 => by rw [hb] at hb2; cases hb2) ?_
 ·exists h3
 ·exists h4, h5, h6, h7, ZoL, Zn7, Z1, Nat.le_refl
  rfl
theorem ZpB (cS cW cB C : Addr) {z w : Int} (hz : 1 ≤ z ∧ z ≤ 24) (hw : 1 ≤ w ∧ w ≤ 60) : ZaT cS cW cB C [bookT cB (shT C (SD.new z w)).data] = some (.ok (shT C (SD.new z w)), [bookT cB (shT C (SD.new z w)).data]) := by
 have h := Znw cS cW C (s := SD.new z w) hz hw rfl
 have hi : isI C (Str.ofString "twin") (shT C (SD.new z w)).data = true := ZiC C _ (by decide)
 unfold ZaT
 refine ZK (ds := []) ?_
 unfold ZdB
 generalize (shT C (SD.new z w)).data = d at *
 unfold bookT
 exists ZgW, Zfc
 refine ZX hi ?_
 exists h, Nat.le_refl
theorem Zkd (cS cW cB C : Addr) {z w : Int} (hz : 1 ≤ z ∧ z ≤ 24) (hw : 1 ≤ w ∧ w ≤ 60) : Zbq cS cW cB C [bookT cB (shT C (SD.new z w)).data] = some (.ok (bookT cB (shT C (SD.new z w)).data), [bookT cB (shT C (SD.new z w)).data]) := by
 have h1 := Znn C (SD.new z w)
 have h2 := Zmn C (SD.new z w)
 have h3 := ZfQ cS cW cB C z w
 have hE : mkEr cS cW z w = none := by
  unfold mkEr sizeB wearB
  simp [hz.1, hz.2, hw.1, hw.2]
 rw [hE, Option.isNone_none, if_pos rfl] at h3
 have h1 : Zas C [.leaf (shT C (SD.new z w)).data] = some (.ok (.leaf (.int z)), [.leaf (shT C (SD.new z w)).data]) := h1
 have h2 : Zar C [.leaf (shT C (SD.new z w)).data] = some (.ok (.leaf (.int w)), [.leaf (shT C (SD.new z w)).data]) := h2
 have i1 : isI C (Str.ofString "size") (shT C (SD.new z w)).data = true := ZiC C _ (by decide)
 have i2 : isI C (Str.ofString "wear") (shT C (SD.new z w)).data = true := ZiC C _ (by decide)
 unfold Zbq
 refine ZK (ds := []) ?_
 unfold Zdz
 generalize (shT C (SD.new z w)).data = d at *
 rw [ZdZ]
 unfold bookT at h3 ⊢
 exists ZgW, Zfc
 refine ZX i1 ?_
 exists h1, ZgW, Zfc
 refine ZX i2 ?_
 have al : allLeaf (oLeafs []) = true := rfl
 exists h2, h3, rMk, Zfc, al, Nat.le_refl
 rfl
noncomputable def deskT (C cB : Addr) (d : PyData) : OT := .node (.ins C) [(.fld "kept_book", bookT cB d)]
theorem Zoc (cS cW cB cD C : Addr) {z w : Int} (hz : 1 ≤ z ∧ z ≤ 24) (hw : 1 ≤ w ∧ w ≤ 60) : Zbh cS cW cB cD C [deskT cD cB (shT C (SD.new z w)).data] = some (.ok (bookT cB (shT C (SD.new z w)).data), [deskT cD cB (shT C (SD.new z w)).data]) := by
 have h := Zkd cS cW cB C hz hw
 unfold Zbh
 refine ZK (ds := []) ?_
 unfold ZdE
 generalize (shT C (SD.new z w)).data = d at *
 have hp : pF cD (Str.ofString "kept_book") (pV 0) [some (deskT cD cB d)] = some (0, [0]) := by
  have h : @og _ (pF cD (Str.ofString "kept_book") (pV 0) [some (deskT cD cB d)]) ⟨fun q => q = (0, [0])⟩ := by
   unfold deskT
   exists true_and
  obtain ⟨q, h1, rfl⟩ := h
  exact h1
 exists true_and
 refine Zov (0, [0]) (bookT cB d) (bookT cB d) [] [] (.ok (bookT cB d)) hp rfl (by show (decide (cB = cB) && _) = true; rw [decide_eq_true rfl]; rfl) (by decide) rfl (Zo9 h) ?_
 refine ⟨rfl, ?_, Nat.le_refl _⟩
 rfl
/-- a thing made by one of four ways, or the word of its refusal -/
noncomputable def madeT (C : Addr) (i : Nat) (z w : Int) : OT := if i < 3 ∧ sizeB z = true ∧ wearB w = true then shT C (SD.new z w) else .leaf .none
noncomputable def madeW (i : Nat) (z w : Int) : String := if sizeB z = false then "size" else if i < 3 ∧ wearB w = false then "wear" else ""
noncomputable def alT22 (C : Addr) (z : Int) : OT := .node (.ins C) [(.fld "field", .leaf (.int z)), (.fld "kept", .node .dct [])]
theorem ZnA (cA cS : Addr) (z : Int) : Zaj cA cS [.node (.ins cA) [], .leaf (.int z)] = some (rMk (if sizeB z = false then some cS else none), [if sizeB z = true then alT22 cA z else .node (.ins cA) [], .leaf (.int z)]) := by
 have h1 := Zhn (C := cS) (n := z)
 unfold Zaj
 refine ZK (ds := [.int z]) ?_
 unfold Zby alT22
 cases q1 : sizeB z with
 | false =>
  rw [q1] at h1
  exists h1, rxO, rMk, Nat.le_refl
 | true =>
  rw [q1] at h1
  exists h1, rxO, rMk, Nat.le_refl
theorem Zkr (cA cS cW cB cD C : Addr) (hne : cS ≠ cW) (i : Nat) (hi : i < 4) (z w : Int) : Zbn cA cS cW cB cD C [.leaf (.int (i : Int)), .leaf (.int z), .leaf (.int w)] = some (.ok (.node .tup [(.no, madeT C i z w), (.no, .leaf (.str (Str.ofString (madeW i z w))))]), [.leaf (.int (i : Int)), .leaf (.int z), .leaf (.int w)]) := by
 have q0 := Zh6 cS cW C z w
 have q1 := ZfQ cS cW cB C z w
 have q2 := ZmG cS cW cB cD C z w
 have q3 := ZnA cA cS z
 have it0 : L2.atI [PyData.str (Str.ofString "size"), .str (Str.ofString "wear"), .str (Str.ofString "other")] 0 = some (.str (Str.ofString "size")) := rfl
 have it1 : L2.atI [PyData.str (Str.ofString "size"), .str (Str.ofString "wear"), .str (Str.ofString "other")] 1 = some (.str (Str.ofString "wear")) := rfl
 have ix0 : oIdxT (dLB [true, decide (cS = cW), true]) = some (.int 0) := rfl
 have ix1 : oIdxT (dLB [decide (cW = cS), true, true]) = some (.int 1) := by
  rw [decide_eq_false (Ne.symm hne)]
  rfl
 have m0 : ((0 : Nat) : Int) = 0 := rfl
 have m1 : ((1 : Nat) : Int) = 1 := rfl
 have m2 : ((2 : Nat) : Int) = 2 := rfl
 have m3 : ((3 : Nat) : Int) = 3 := rfl
 unfold Zbn
 refine Zfj (ds := [.int (i : Int), .int z, .int w]) ?_
 unfold Zdv
 rw [ZdZ]
 have hcase : i = 0 ∨ i = 1 ∨ i = 2 ∨ i = 3 := by omega
 cases hE : mkEr cS cW z w with
 | some E =>
  rw [hE] at q0 q1 q2
  have hEc : (E = cS ∧ sizeB z = false) ∨ (E = cW ∧ sizeB z = true ∧ wearB w = false) := by
   unfold mkEr at hE
   split at hE
   ·rename_i h; cases hE; exact .inl ⟨rfl, h⟩
   ·rename_i h
    split at hE
    ·rename_i h2; cases hE; exact .inr ⟨rfl, by simpa using h, h2⟩
    ·cases hE
  rcases hEc with ⟨rfl, hz⟩ | ⟨rfl, hz, hw⟩
  ·have hW : ∀ i, madeW i z w = "size" := fun i => if_pos hz
   have hT : ∀ i, madeT C i z w = .leaf .none := fun i => if_neg fun h => by rw [hz] at h; exact absurd h.2.1 (by decide)
   rw [if_pos hz] at q3
   rcases hcase with rfl | rfl | rfl | rfl
   ·exists m0, Int.reduceEq, q0, rMk
    refine ⟨by simp, ?_⟩
    exists ix0, it0, ZW
    refine ZX rfl ?_
    exists ZaQ, Z1, hW, hT, Nat.le_refl
   ·exists m1, Int.reduceEq, ZbC, q1, rMk
    refine ⟨by simp, ?_⟩
    exists ix0, it0, ZW
    refine ZX rfl ?_
    exists ZaQ, Z1, hW, hT, Nat.le_refl
   ·exists m2, Int.reduceEq, ZbC, q2, rMk
    refine ⟨by simp, ?_⟩
    exists ix0, it0, ZW
    refine ZX rfl ?_
    exists ZaQ, Z1, hW, hT, Nat.le_refl
   ·exists m3, Int.reduceEq, q3, rMk, Zek
    refine ⟨by simp, ?_⟩
    exists ix0, it0, ZW
    refine ZX rfl ?_
    exists ZaQ, Z1, hW, hT, Nat.le_refl
  ·have hW : ∀ i, i < 3 → madeW i z w = "wear" := fun i h => by
    unfold madeW
    rw [if_neg (by rw [hz]; decide), if_pos ⟨h, hw⟩]
   have hT : ∀ i, madeT C i z w = .leaf .none := fun i => if_neg fun h => by rw [hw] at h; exact absurd h.2.2 (by decide)
   have hW0 := hW 0 (by decide)
   have hW1 := hW 1 (by decide)
   have hW2 := hW 2 (by decide)
   have hW3 : madeW 3 z w = "" := by
    unfold madeW
    rw [if_neg (by rw [hz]; decide), if_neg fun h => absurd h.1 (by decide)]
   rw [if_neg (by rw [hz]; decide), if_pos hz] at q3
   rcases hcase with rfl | rfl | rfl | rfl
   ·exists m0, Int.reduceEq, q0, rMk
    refine ⟨by simp, ?_⟩
    exists ix1, it1, ZW
    refine ZX rfl ?_
    exists ZaQ, Z1, hW0, hW1, hW2, hT, Nat.le_refl
   ·exists m1, Int.reduceEq, ZbC, q1, rMk
    refine ⟨by simp, ?_⟩
    exists ix1, it1, ZW
    refine ZX rfl ?_
    exists ZaQ, Z1, hW0, hW1, hW2, hT, Nat.le_refl
   ·exists m2, Int.reduceEq, ZbC, q2, rMk
    refine ⟨by simp, ?_⟩
    exists ix1, it1, ZW
    refine ZX rfl ?_
    exists ZaQ, Z1, hW0, hW1, hW2, hT, Nat.le_refl
   ·exists m3, Int.reduceEq, q3, rMk, Zek, ZW
    refine ZX rfl ?_
    exists ZaQ, Z1, hW3, hT, Nat.le_refl
 | none =>
  have hok : sizeB z = true ∧ wearB w = true := by
   unfold mkEr at hE
   split at hE
   ·cases hE
   ·rename_i h
    split at hE
    ·cases hE
    ·rename_i h2
     exact ⟨by simpa using h, by simpa using h2⟩
  have hz : 1 ≤ z ∧ z ≤ 24 := by
   have := hok.1
   unfold sizeB at this
   rw [Bool.and_eq_true, decide_eq_true_eq, decide_eq_true_eq] at this
   exact this
  have hw : 1 ≤ w ∧ w ≤ 60 := by
   have := hok.2
   unfold wearB at this
   rw [Bool.and_eq_true, decide_eq_true_eq, decide_eq_true_eq] at this
   exact this
  have hW : ∀ i, madeW i z w = "" := fun i => by
   unfold madeW
   rw [if_neg (by rw [hok.1]; decide), if_neg fun h => by rw [hok.2] at h; exact absurd h.2 (by decide)]
  have hT : ∀ i, i < 3 → madeT C i z w = shT C (SD.new z w) := fun i h => if_pos ⟨h, hok⟩
  have hT0 := hT 0 (by decide)
  have hT1 := hT 1 (by decide)
  have hT2 := hT 2 (by decide)
  have hT3 : madeT C 3 z w = .leaf .none := if_neg fun h => absurd h.1 (by decide)
  rw [hE, Option.isNone_none, if_pos rfl] at q0 q1 q2
  rw [if_neg (by rw [hok.1]; decide), if_pos hok.1] at q3
  have b1 := ZpB cS cW cB C hz hw
  have b2 := Zoc cS cW cB cD C hz hw
  have b3 := Zkd cS cW cB C hz hw
  have n1 : insNo [some (bookT cB (shT C (SD.new z w)).data)] 0 cB (Str.ofString "shop") = true := by
   show (decide (cB = cB) && _) = true
   rw [decide_eq_true rfl]
   rfl
  have n2 : insNo [some (deskT cD cB (shT C (SD.new z w)).data)] 0 cD (Str.ofString "book") = true := by
   show (decide (cD = cD) && _) = true
   rw [decide_eq_true rfl]
   rfl
  rcases hcase with rfl | rfl | rfl | rfl
  ·exists m0, Int.reduceEq, q0, rMk, ZW
   refine ZX rfl ?_
   exists ZaQ, Z1, hW, hT0, Nat.le_refl
  ·exists m1, Int.reduceEq, ZbC, q1, rMk
   refine ZX n1 ?_
   exists b1, ZW
   refine ZX rfl ?_
   exists ZaQ, Z1, hW, hT1, Nat.le_refl
  ·have q2 : Z8 cS cW cB cD C [.node (.ins cD) [], .leaf (.int z), .leaf (.int w)] = some (.ok (.leaf .none), [deskT cD cB (shT C (SD.new z w)).data, .leaf (.int z), .leaf (.int w)]) := q2
   exists m2, Int.reduceEq, ZbC, q2
   refine ZX n2 ?_
   exists b2
   refine ZX n1 ?_
   exists b1, ZW
   refine ZX rfl ?_
   exists ZaQ, Z1, hW, hT2, Nat.le_refl
  ·exists m3, Int.reduceEq, q3, rMk, Zek, ZW
   refine ZX rfl ?_
   exists ZaQ, Z1, hW, hT3, Nat.le_refl
theorem Zrm {z w : Int} (hz : 1 ≤ z ∧ z ≤ 24) : BkOk (SD.new z w) := ⟨⟨hz, (fun _ h => nomatch h), (by decide : (0 : Nat) ≤ 8), fun _ h => nomatch h⟩, ⟨[], rfl, by decide, List.nodup_nil⟩, rfl, ⟨[], rfl, by decide, List.nodup_nil⟩, (fun _ h => nomatch h), (fun _ h => nomatch h), fun _ h => nomatch h⟩
noncomputable def dueW (z w : Int) : String := if sizeB z = false then "size" else if wearB w = false then "wear" else ""
theorem Znd (i : Nat) (z w : Int) : (if i < 3 ∨ dueW z w = "size" then dueW z w else "") = madeW i z w := by
 unfold dueW madeW
 cases sizeB z <;> cases wearB w <;> by_cases h : i < 3 <;> simp [h]
theorem Zr1 (cAlbum cBadSize cBadWear cBook cDesk cNoBlock cNoSheet cNoWish cShop : Addr) (hn : [cBadSize, cBadWear].Nodup) : lawOk 9 (Zgk cAlbum cBadSize cBadWear cBook cDesk cNoBlock cNoSheet cNoWish cShop) := by
 intro T hT
 have hne : cBadSize ≠ cBadWear := by simpa using hn
 have main : @Ru _ (Zgk cAlbum cBadSize cBadWear cBook cDesk cNoBlock cNoSheet cNoWish cShop) [none, some T, none, none, none, none, none, none, none] ⟨fun o _ => o = .rt (.leaf (.bool true))⟩ := by
  unfold Zgk
  obtain ⟨D0, rfl⟩ : ∃ D : Drw, T = D.1 := ⟨⟨T, hT⟩, rfl⟩
  have r4 : rg1 [PyData.int 4] = some ((List.range 4).map fun k : Nat => PyData.int (k : Int)) := by
   show (if okI 4 = true then some (rgI 0 (4 : Int).toNat) else none) = _
   rw [if_pos (ZlT (by omega) (by omega))]
   rfl
  exists r4
  refine Zfk (fun k : Nat => PyData.int (k : Int)) (List.range 4) (fun _ e => ∃ (D : Drw) (y2 y3 y4 y5 y6 y7 y8 : Option OT), e = [none, some D.1, y2, y3, y4, y5, y6, y7, y8]) ⟨D0, _, _, _, _, _, _, _, rfl⟩ ?_ ?_
  ·rintro k x hx e ⟨D, y2, y3, y4, y5, y6, y7, y8, rfl⟩
   refine ⟨_, rfl, ?_⟩
   -- the size
   refine Zbs (fun e => ∃ (D : Drw) (z : Int), e = [none, some D.1, some (.leaf (.int (x : Int))), some (.leaf (.int z)), y4, y5, y6, y7, y8]) ?_ ?_
   ·have t1 := Ze9 D 24 (by decide) (by decide)
    generalize D.n 24 = D1 at *
    generalize D.r 24 = r1 at *
    obtain ⟨o, D2, hodd⟩ := Zjj D1
    have t2 := Ze9 D2 4 (by decide) (by decide)
    have l2 := ZhQ D2 4 (by decide) (by decide)
    have g2 := ZhO D2 4 (by decide) (by decide)
    generalize D2.n 4 = D3 at *
    generalize D2.r 4 = r2 at *
    obtain ⟨z, _, hz⟩ := ZiZ PyData.int (xs := [1 + r1, o, 24, 25]) l2 g2
    have hz : L2.atI [PyData.int (1 + r1), .int o, .int 24, .int 25] r2 = some (.int z) := hz
    have ha : oAdd (.int 1) (.int r1) = some (.int (1 + r1)) := rfl
    exists t1, ha, hodd, t2, hz
    exact ⟨D3, z, rfl⟩
   rintro _ ⟨Da, z, rfl⟩
   refine Zbs (fun e => ∃ (D : Drw) (w : Int), e = [none, some D.1, some (.leaf (.int (x : Int))), some (.leaf (.int z)), some (.leaf (.int w)), y5, y6, y7, y8]) ?_ ?_
   ·have t1 := Ze9 Da 60 (by decide) (by decide)
    generalize Da.n 60 = D1 at *
    generalize Da.r 60 = r1 at *
    obtain ⟨o, D2, hodd⟩ := Zjj D1
    have t2 := Ze9 D2 4 (by decide) (by decide)
    have l2 := ZhQ D2 4 (by decide) (by decide)
    have g2 := ZhO D2 4 (by decide) (by decide)
    generalize D2.n 4 = D3 at *
    generalize D2.r 4 = r2 at *
    obtain ⟨w, _, hw⟩ := ZiZ PyData.int (xs := [1 + r1, o, 60, 61]) l2 g2
    have hw : L2.atI [PyData.int (1 + r1), .int o, .int 60, .int 61] r2 = some (.int w) := hw
    have ha : oAdd (.int 1) (.int r1) = some (.int (1 + r1)) := rfl
    exists t1, ha, hodd, t2, hw
    exact ⟨D3, w, rfl⟩
   rintro _ ⟨Db, w, rfl⟩
   refine Zbs (fun e => e = [none, some Db.1, some (.leaf (.int (x : Int))), some (.leaf (.int z)), some (.leaf (.int w)), some (.leaf (.str (Str.ofString (dueW z w)))), y6, y7, y8]) ?_ ?_
   ·have j0 : L2.atI [PyData.str (Str.ofString ""), .str (Str.ofString "wear")] 0 = some (.str (Str.ofString "")) := rfl
    have j1 : L2.atI [PyData.str (Str.ofString ""), .str (Str.ofString "wear")] 1 = some (.str (Str.ofString "wear")) := rfl
    have i0 : cInt [.bool false] = some (.int 0) := rfl
    have i1 : cInt [.bool true] = some (.int 1) := rfl
    unfold dueW sizeB wearB
    cases q1 : decide (1 ≤ z) <;> cases q2 : decide (z ≤ 24) <;> cases q3 : decide (1 ≤ w) <;> cases q4 : decide (w ≤ 60)
    all_goals exists q1, q2, q3, q4, Bool.and_self, Bool.and_true, Bool.true_and, Bool.and_false, Bool.false_and, i0, i1, j0, j1
   rintro _ rfl
   exists r4
   refine Zfk (fun k : Nat => PyData.int (k : Int)) (List.range 4) (fun _ e => ∃ (y6 y7 y8 : Option OT), e = [none, some Db.1, some (.leaf (.int (x : Int))), some (.leaf (.int z)), some (.leaf (.int w)), some (.leaf (.str (Str.ofString (dueW z w)))), y6, y7, y8]) ⟨_, _, _, rfl⟩ ?_ ?_
   ·rintro i x' hx' e ⟨y6, y7, y8, rfl⟩
    obtain ⟨hi, hxe⟩ := List.getElem?_eq_some_iff.mp hx'
    rw [List.getElem_range] at hxe
    rw [List.length_range] at hi
    subst hxe
    have hm := Zkr cAlbum cBadSize cBadWear cBook cDesk cShop hne i hi z w
    refine ⟨_, rfl, ?_⟩
    refine Zbs (fun e => e = [none, some Db.1, some (.leaf (.int (x : Int))), some (.leaf (.int z)), some (.leaf (.int w)), some (.leaf (.str (Str.ofString (dueW z w)))), some (.leaf (.int (i : Int))), some (madeT cShop i z w), some (.leaf (.str (Str.ofString (madeW i z w))))]) ?_ ?_
    ·exists ZpM, Zl7, hm, Znk
    rintro _ rfl
    refine Zbs (fun e => e = [none, some Db.1, some (.leaf (.int (x : Int))), some (.leaf (.int z)), some (.leaf (.int w)), some (.leaf (.str (Str.ofString (dueW z w)))), some (.leaf (.int (i : Int))), some (madeT cShop i z w), some (.leaf (.str (Str.ofString (madeW i z w))))]) ?_ ?_
    ·have hdm := Znd i z w
     have hlt : decide ((i : Int) < 3) = decide (i < 3) := decide_eq_decide.mpr (by omega)
     cases h3 : decide (i < 3) with
     | true =>
      rw [if_pos (.inl (of_decide_eq_true h3))] at hdm
      rw [h3] at hlt
      exists hlt, hdm
     | false =>
      rw [h3] at hlt
      by_cases hs : dueW z w = "size"
      ·rw [if_pos (.inr hs)] at hdm
       exists hlt, hs
       rw [hs] at hdm
       exists hdm
      ·rw [if_neg (not_or.mpr ⟨of_decide_eq_false h3, hs⟩)] at hdm
       exists hlt, hs, hdm
    rintro _ rfl
    unfold madeT
    by_cases hc : i < 3 ∧ sizeB z = true ∧ wearB w = true
    ·rw [if_pos hc]
     have hz : 1 ≤ z ∧ z ≤ 24 := by
      have := hc.2.1
      unfold sizeB at this
      rw [Bool.and_eq_true, decide_eq_true_eq, decide_eq_true_eq] at this
      exact this
     have hf := Zjp cNoBlock cNoSheet cNoWish cShop (Zrm (w := w) hz)
     have hsh := ZkF z w
     have hno : oIsN true (shT cShop (SD.new z w)).data .none = some (.bool true) := rfl
     exists hno, Zju
     exists hsh, hf
     exact ⟨_, _, _, rfl⟩
    ·rw [if_neg hc]
     exists true_and
     exact ⟨_, _, _, rfl⟩
   ·rintro e ⟨y6, y7, y8, rfl⟩
    exact ⟨Db, _, _, _, _, _, _, _, rfl⟩
  ·rintro e ⟨D, y2, y3, y4, y5, y6, y7, y8, rfl⟩
   exists true_and
 obtain ⟨o, e, h1, h2⟩ := main
 subst h2
 exact ⟨e, h1⟩
theorem all_mk {l : PySem.W.OpenLaw} {w : World} {K : PySem.W.Frag} {h : Heap} {mg : Str → Option Value} {fa : Addr} (X : K.In h) (G : h.Ns mainGlobals mg) (hfa : mg "law" = some (.ref fa)) (c0 : hd.obs K = hd.val w) :
  ∃ fd : FuncData, (∀ (s : Shared) (v : Value), BindsTo s fd ⟨[v], []⟩ [("_law_script", v)]) ∧ ∀ base : Heap, K.In base → base.Ns mainGlobals mg → FnOk l.prog w K mg base CX0 10 fa fd ["_law_script"] (spLaw K) := by
 have c := Hd.ok c0
 have A32 := c.glo X G 11 (x := "law") rfl
 have e := hfa.symm.trans A32
 cases e
 have T : Tx mg := ⟨c.free X G 0 (x := "len") rfl, c.free X G 1 (x := "sorted") rfl, c.free X G 2 (x := "set") rfl, c.free X G 3 (x := "dict") rfl, c.free X G 4 (x := "list") rfl, c.free X G 5 (x := "tuple") rfl, c.free X G 6 (x := "range") rfl, c.free X G 7 (x := "enumerate") rfl, c.free X G 8 (x := "zip") rfl, c.free X G 9 (x := "isinstance") rfl, c.free X G 10 (x := "all") rfl, c.free X G 11 (x := "any") rfl, c.free X G 12 (x := "abs") rfl, c.free X G 13 (x := "min") rfl, c.free X G 14 (x := "max") rfl, c.free X G 15 (x := "sum") rfl, c.free X G 16 (x := "int") rfl, c.free X G 17 (x := "bool") rfl, c.free X G 18 (x := "str") rfl⟩
 have EBB : EBase K mg _ := c.base X G 21 rfl rfl
 have yn := c.nd rfl
 have EB_BadSize : EB K mg _ "BadSize" _ := c.eb X G 16 0 (x := "BadSize") rfl rfl rfl
 have EX_BadSize := EB_BadSize.own
 have EB_BadWear : EB K mg _ "BadWear" _ := c.eb X G 17 1 (x := "BadWear") rfl rfl rfl
 have EX_BadWear := EB_BadWear.own
 have EX_NoSheet : ExC K mg "NoSheet" _ := c.exc X G 18 0 (x := "NoSheet") rfl rfl
 have EX_NoBlock : ExC K mg "NoBlock" _ := c.exc X G 19 1 (x := "NoBlock") rfl rfl
 have EX_NoWish : ExC K mg "NoWish" _ := c.exc X G 20 2 (x := "NoWish") rfl rfl
 have CL_Shop : Cls K (He.ga K "Shop") := c.cls 0 rfl
 have FL_Shop : Fls K (He.ga K "Shop") fl_Shop := ⟨CL_Shop, fun f hf => by
  rcases List.mem_cons.mp hf with rfl | hf
  ·exact c.no 0 (x := "Shop") rfl
  rcases List.mem_cons.mp hf with rfl | hf
  ·exact c.no 1 (x := "Shop") rfl
  rcases List.mem_cons.mp hf with rfl | hf
  ·exact c.no 2 (x := "Shop") rfl
  rcases List.mem_cons.mp hf with rfl | hf
  ·exact c.no 3 (x := "Shop") rfl
  rcases List.mem_cons.mp hf with rfl | hf
  ·exact c.no 4 (x := "Shop") rfl
  rcases List.mem_cons.mp hf with rfl | hf
  ·exact c.no 5 (x := "Shop") rfl
  rcases List.mem_cons.mp hf with rfl | hf
  ·exact c.no 6 (x := "Shop") rfl
  cases hf⟩
 have CL_Book : Cls K (He.ga K "Book") := c.cls 1 rfl
 have FL_Book : Fls K (He.ga K "Book") fl_Book := ⟨CL_Book, fun f hf => by
  rcases List.mem_cons.mp hf with rfl | hf
  ·exact c.no 7 (x := "Book") rfl
  rcases List.mem_cons.mp hf with rfl | hf
  ·exact c.no 8 (x := "Book") rfl
  rcases List.mem_cons.mp hf with rfl | hf
  ·exact c.no 9 (x := "Book") rfl
  rcases List.mem_cons.mp hf with rfl | hf
  ·exact c.no 10 (x := "Book") rfl
  cases hf⟩
 have CL_Desk : Cls K (He.ga K "Desk") := c.cls 2 rfl
 have FL_Desk : Fls K (He.ga K "Desk") fl_Desk := ⟨CL_Desk, fun f hf => by
  rcases List.mem_cons.mp hf with rfl | hf
  ·exact c.no 11 (x := "Desk") rfl
  cases hf⟩
 have CL_Album : Cls K (He.ga K "Album") := c.cls 3 rfl
 have FL_Album : Fls K (He.ga K "Album") fl_Album := ⟨CL_Album, fun f hf => by
  rcases List.mem_cons.mp hf with rfl | hf
  ·exact c.no 12 (x := "Album") rfl
  rcases List.mem_cons.mp hf with rfl | hf
  ·exact c.no 13 (x := "Album") rfl
  cases hf⟩
 obtain ⟨fd0, F0⟩ := c.funG 0 (x := "_law_begin") Zc0 rfl
 have A0 := c.glo X G 0 (x := "_law_begin") rfl
 obtain ⟨fd1, F1⟩ := c.funG 1 (x := "_law_take") ZdJ rfl
 have A1 := c.glo X G 1 (x := "_law_take") rfl
 obtain ⟨fd2, F2⟩ := c.funG 2 (x := "between") ZeF rfl
 have A2 := c.glo X G 2 (x := "between") rfl
 obtain ⟨fd3, F3⟩ := c.funG 3 (x := "need_size") ZdM rfl
 have A3 := c.glo X G 3 (x := "need_size") rfl
 obtain ⟨fd4, F4⟩ := c.funG 4 (x := "need_wear") ZdK rfl
 have A4 := c.glo X G 4 (x := "need_wear") rfl
 obtain ⟨fd5, F5⟩ := c.funM 5 (C := "Shop") (m := "__init__") (q := "Shop.__init__") ZbL rfl
 obtain ⟨fd6, F6⟩ := c.funM 6 (C := "Shop") (m := "twin") (q := "Shop.twin") ZaW rfl
 obtain ⟨fd7, F7⟩ := c.funM 7 (C := "Book") (m := "shop") (q := "Book.shop") Zdp rfl
 obtain ⟨fd8, F8⟩ := c.funM 8 (C := "Shop") (m := "size") (q := "Shop.size") Zb2 rfl
 obtain ⟨fd9, F9⟩ := c.funM 9 (C := "Shop") (m := "wear") (q := "Shop.wear") Zb8 rfl
 obtain ⟨fd10, F10⟩ := c.funM 10 (C := "Book") (m := "__init__") (q := "Book.__init__") ZbN rfl
 obtain ⟨fd11, F11⟩ := c.funM 11 (C := "Book") (m := "twin") (q := "Book.twin") ZdD rfl
 obtain ⟨fd12, F12⟩ := c.funM 12 (C := "Desk") (m := "book") (q := "Desk.book") ZdO rfl
 obtain ⟨fd13, F13⟩ := c.funM 13 (C := "Album") (m := "__init__") (q := "Album.__init__") ZbA rfl
 obtain ⟨fd14, F14⟩ := c.funM 14 (C := "Desk") (m := "__init__") (q := "Desk.__init__") ZbT rfl
 obtain ⟨fd15, F15⟩ := c.funG 15 (x := "_law_made") ZdF rfl
 have A15 := c.glo X G 5 (x := "_law_made") rfl
 obtain ⟨fd16, F16⟩ := c.funG 16 (x := "_law_odd") Zeh rfl
 have A16 := c.glo X G 6 (x := "_law_odd") rfl
 obtain ⟨fd17, F17⟩ := c.funM 17 (C := "Shop") (m := "cuts") (q := "Shop.cuts") Zdr rfl
 obtain ⟨fd18, F18⟩ := c.funM 18 (C := "Shop") (m := "sheets") (q := "Shop.sheets") ZcC rfl
 obtain ⟨fd19, F19⟩ := c.funM 19 (C := "Shop") (m := "wishes") (q := "Shop.wishes") Zcx rfl
 obtain ⟨fd20, F20⟩ := c.funM 20 (C := "Shop") (m := "need_sheet") (q := "Shop.need_sheet") Zbb rfl
 obtain ⟨fd21, F21⟩ := c.funM 21 (C := "Shop") (m := "look") (q := "Shop.look") Zdt rfl
 obtain ⟨fd22, F22⟩ := c.funM 22 (C := "Shop") (m := "story") (q := "Shop.story") ZcW rfl
 obtain ⟨fd23, F23⟩ := c.funM 23 (C := "Shop") (m := "need_block") (q := "Shop.need_block") Za9 rfl
 obtain ⟨fd24, F24⟩ := c.funM 24 (C := "Shop") (m := "states") (q := "Shop.states") Zcy rfl
 obtain ⟨fd25, F25⟩ := c.funM 25 (C := "Shop") (m := "left") (q := "Shop.left") Zb9 rfl
 obtain ⟨fd26, F26⟩ := c.funM 26 (C := "Shop") (m := "wish") (q := "Shop.wish") ZdG rfl
 obtain ⟨fd27, F27⟩ := c.funM 27 (C := "Shop") (m := "standing") (q := "Shop.standing") ZbM rfl
 obtain ⟨fd28, F28⟩ := c.funG 28 (x := "_law_same") Zbr rfl
 have A28 := c.glo X G 7 (x := "_law_same") rfl
 obtain ⟨fd29, F29⟩ := c.funG 29 (x := "_law_left") Zcc rfl
 have A29 := c.glo X G 8 (x := "_law_left") rfl
 obtain ⟨fd30, F30⟩ := c.funG 30 (x := "_law_facts") ZbS rfl
 have A30 := c.glo X G 9 (x := "_law_facts") rfl
 obtain ⟨fd31, F31⟩ := c.funG 31 (x := "_law_shop") ZdI rfl
 have A31 := c.glo X G 10 (x := "_law_shop") rfl
 obtain ⟨kV, doc, pm, an, cdv, ct, F32⟩ := c.lawF 32 (x := "law") Zfb rfl
 refine ⟨PySem.W.fnOf "law" "law" (defArgs Zfb) (defBody Zfb) (defScope Zfb) .none kV doc pm an cdv ct, fun s v => .of_eq rfl, fun base _ _ => ?_⟩
 have C__law_begin := Zbl (x := "_law_begin") (ZhD (P := l.prog) (w := w) (base := base) T F0) A0 F0.kp (F0.binds (ps := ZbV) fun _ _ _ _ _ _ us hl => ll1 us hl fun _ => rfl)
 have C__law_take := Zbl (x := "_law_take") (ZhZ (P := l.prog) (w := w) (base := base) T F1) A1 F1.kp (F1.binds (ps := Zbe) fun _ _ _ _ _ _ us hl => ll2 us hl fun _ _ => rfl)
 have C_between := Zbl (x := "between") (ZkE (P := l.prog) (w := w) (base := base) T F2) A2 F2.kp (F2.binds (ps := ZbE) fun _ _ _ _ _ _ us hl => ll3 us hl fun _ _ _ => rfl)
 have C_need_size := ZjE (x := "need_size") (Zis (P := l.prog) (w := w) (base := base) T F3 C_between EX_BadSize) A3 F3.kp (F3.binds (ps := Zbf) fun _ _ _ _ _ _ us hl => ll1 us hl fun _ => rfl)
 have C_need_wear := ZjE (x := "need_wear") (Zic (P := l.prog) (w := w) (base := base) T F4 C_between EX_BadWear) A4 F4.kp (F4.binds (ps := Zcb) fun _ _ _ _ _ _ us hl => ll1 us hl fun _ => rfl)
 have C_Shop : CalN l.prog w K mg base "Shop" (He.ga K "Shop") _ _ _ := ⟨_, _, (ZfZ (P := l.prog) (w := w) (base := base) T F5 C_need_size C_need_wear FL_Shop), ⟨c.mks 0 rfl, c.mA 0 (x := "Shop") rfl, c.mF 0 (x := "Shop") (m := "__init__") rfl, c.kc 0 (x := "Shop") rfl⟩, c.glo X G 12 (x := "Shop") rfl, (F5.binds (ps := ZS) fun _ _ _ _ _ _ us hl => ll3 us hl fun _ _ _ => rfl)⟩
 have C_Shop_twin : CalM l.prog w K mg base (He.ga K "Shop") "twin" _ _ _ := ⟨_, _, (ZiA (P := l.prog) (w := w) (base := base) T F6 C_Shop FL_Shop), CL_Shop, ⟨c.mA 1 (x := "Shop") rfl, c.mF 1 (x := "Shop") (m := "twin") rfl, F6.kp⟩, (F6.binds (ps := Zax) fun _ _ _ _ _ _ us hl => ll1 us hl fun _ => rfl)⟩
 have C_Shop_twin_O : CalM l.prog w K mg base (He.ga K "Shop") "twin" _ _ _ := ⟨_, _, (ZgV (P := l.prog) (w := w) (base := base) T F6 C_Shop FL_Shop), CL_Shop, ⟨c.mA 1 (x := "Shop") rfl, c.mF 1 (x := "Shop") (m := "twin") rfl, F6.kp⟩, (F6.binds (ps := Zax) fun _ _ _ _ _ _ us hl => ll1 us hl fun _ => rfl)⟩
 have C_Book_shop : CalM l.prog w K mg base (He.ga K "Book") "shop" _ _ _ := ⟨_, _, (Zi7 (P := l.prog) (w := w) (base := base) T F7 C_Shop_twin C_Shop_twin_O FL_Book), CL_Book, ⟨c.mA 2 (x := "Book") rfl, c.mF 2 (x := "Book") (m := "shop") rfl, F7.kp⟩, (F7.binds (ps := Zb3) fun _ _ _ _ _ _ us hl => ll1 us hl fun _ => rfl)⟩
 have C_Shop_size : CalM l.prog w K mg base (He.ga K "Shop") "size" _ _ _ := ⟨_, _, (ZiR (P := l.prog) (w := w) (base := base) T F8 FL_Shop), CL_Shop, ⟨c.mA 3 (x := "Shop") rfl, c.mF 3 (x := "Shop") (m := "size") rfl, F8.kp⟩, (F8.binds (ps := Zaf) fun _ _ _ _ _ _ us hl => ll1 us hl fun _ => rfl)⟩
 have C_Shop_size_O : CalM l.prog w K mg base (He.ga K "Shop") "size" _ _ _ := ⟨_, _, (ZgS (P := l.prog) (w := w) (base := base) T F8 FL_Shop), CL_Shop, ⟨c.mA 3 (x := "Shop") rfl, c.mF 3 (x := "Shop") (m := "size") rfl, F8.kp⟩, (F8.binds (ps := Zaf) fun _ _ _ _ _ _ us hl => ll1 us hl fun _ => rfl)⟩
 have C_Shop_wear : CalM l.prog w K mg base (He.ga K "Shop") "wear" _ _ _ := ⟨_, _, (ZhW (P := l.prog) (w := w) (base := base) T F9 FL_Shop), CL_Shop, ⟨c.mA 4 (x := "Shop") rfl, c.mF 4 (x := "Shop") (m := "wear") rfl, F9.kp⟩, (F9.binds (ps := Zad) fun _ _ _ _ _ _ us hl => ll1 us hl fun _ => rfl)⟩
 have C_Shop_wear_O : CalM l.prog w K mg base (He.ga K "Shop") "wear" _ _ _ := ⟨_, _, (ZgM (P := l.prog) (w := w) (base := base) T F9 FL_Shop), CL_Shop, ⟨c.mA 4 (x := "Shop") rfl, c.mF 4 (x := "Shop") (m := "wear") rfl, F9.kp⟩, (F9.binds (ps := Zad) fun _ _ _ _ _ _ us hl => ll1 us hl fun _ => rfl)⟩
 have C_Book : CalN l.prog w K mg base "Book" (He.ga K "Book") _ _ _ := ⟨_, _, (Zf9 (P := l.prog) (w := w) (base := base) T F10 C_Shop FL_Book), ⟨c.mks 1 rfl, c.mA 5 (x := "Book") rfl, c.mF 5 (x := "Book") (m := "__init__") rfl, c.kc 1 (x := "Book") rfl⟩, c.glo X G 13 (x := "Book") rfl, (F10.binds (ps := Z7) fun _ _ _ _ _ _ us hl => ll3 us hl fun _ _ _ => rfl)⟩
 have C_Book_twin : CalM l.prog w K mg base (He.ga K "Book") "twin" _ _ _ := ⟨_, _, (Zh8 (P := l.prog) (w := w) (base := base) T F11 C_Shop_size C_Shop_wear C_Book C_Shop_size_O C_Shop_wear_O FL_Book), CL_Book, ⟨c.mA 6 (x := "Book") rfl, c.mF 6 (x := "Book") (m := "twin") rfl, F11.kp⟩, (F11.binds (ps := Zb6) fun _ _ _ _ _ _ us hl => ll1 us hl fun _ => rfl)⟩
 have C_Desk_book : CalM l.prog w K mg base (He.ga K "Desk") "book" _ _ _ := ⟨_, _, (Ziv (P := l.prog) (w := w) (base := base) T F12 C_Book_twin FL_Desk), CL_Desk, ⟨c.mA 7 (x := "Desk") rfl, c.mF 7 (x := "Desk") (m := "book") rfl, F12.kp⟩, (F12.binds (ps := Zcf) fun _ _ _ _ _ _ us hl => ll1 us hl fun _ => rfl)⟩
 have C_Album : CalN l.prog w K mg base "Album" (He.ga K "Album") _ _ _ := ⟨_, _, (Zfp (P := l.prog) (w := w) (base := base) T F13 C_need_size FL_Album), ⟨c.mks 3 rfl, c.mA 8 (x := "Album") rfl, c.mF 8 (x := "Album") (m := "__init__") rfl, c.kc 3 (x := "Album") rfl⟩, c.glo X G 15 (x := "Album") rfl, (F13.binds (ps := ZaO) fun _ _ _ _ _ _ us hl => ll2 us hl fun _ _ => rfl)⟩
 have C_Desk : CalN l.prog w K mg base "Desk" (He.ga K "Desk") _ _ _ := ⟨_, _, (Zf0 (P := l.prog) (w := w) (base := base) T F14 C_Book FL_Desk), ⟨c.mks 2 rfl, c.mA 9 (x := "Desk") rfl, c.mF 9 (x := "Desk") (m := "__init__") rfl, c.kc 2 (x := "Desk") rfl⟩, c.glo X G 14 (x := "Desk") rfl, (F14.binds (ps := Za1) fun _ _ _ _ _ _ us hl => ll3 us hl fun _ _ _ => rfl)⟩
 have C__law_made := Zbl (x := "_law_made") (Zi0 (P := l.prog) (w := w) (base := base) T F15 C_Book_shop C_Desk_book C_Shop C_Album C_Book C_Desk EBB EB_BadSize EB_BadWear yn) A15 F15.kp (F15.binds (ps := Zce) fun _ _ _ _ _ _ us hl => ll3 us hl fun _ _ _ => rfl)
 have C__law_odd := Zbl (x := "_law_odd") (Zjr (P := l.prog) (w := w) (base := base) T F16 C__law_take) A16 F16.kp (F16.binds (ps := ZcM) fun _ _ _ _ _ _ us hl => ll1 us hl fun _ => rfl)
 have C_Shop_cuts : CalM l.prog w K mg base (He.ga K "Shop") "cuts" _ _ _ := ⟨_, _, (Zia (P := l.prog) (w := w) (base := base) T F17 FL_Shop), CL_Shop, ⟨c.mA 10 (x := "Shop") rfl, c.mF 10 (x := "Shop") (m := "cuts") rfl, F17.kp⟩, (F17.binds (ps := Zcd) fun _ _ _ _ _ _ us hl => ll1 us hl fun _ => rfl)⟩
 have C_Shop_sheets : CalM l.prog w K mg base (He.ga K "Shop") "sheets" _ _ _ := ⟨_, _, (Zg8 (P := l.prog) (w := w) (base := base) T F18 FL_Shop), CL_Shop, ⟨c.mA 11 (x := "Shop") rfl, c.mF 11 (x := "Shop") (m := "sheets") rfl, F18.kp⟩, (F18.binds (ps := Zbv) fun _ _ _ _ _ _ us hl => ll1 us hl fun _ => rfl)⟩
 have C_Shop_wishes : CalM l.prog w K mg base (He.ga K "Shop") "wishes" _ _ _ := ⟨_, _, (Zg1 (P := l.prog) (w := w) (base := base) T F19 FL_Shop), CL_Shop, ⟨c.mA 12 (x := "Shop") rfl, c.mF 12 (x := "Shop") (m := "wishes") rfl, F19.kp⟩, (F19.binds (ps := Zbw) fun _ _ _ _ _ _ us hl => ll1 us hl fun _ => rfl)⟩
 have C_Shop_need_sheet : CalMX l.prog w K mg base (He.ga K "Shop") "need_sheet" _ _ _ := ⟨_, _, (ZeS (P := l.prog) (w := w) (base := base) T F20 EX_NoSheet FL_Shop), CL_Shop, ⟨c.mA 13 (x := "Shop") rfl, c.mF 13 (x := "Shop") (m := "need_sheet") rfl, F20.kp⟩, (F20.binds (ps := Zab) fun _ _ _ _ _ _ us hl => ll2 us hl fun _ _ => rfl)⟩
 have C_Shop_look : CalMX l.prog w K mg base (He.ga K "Shop") "look" _ _ _ := ⟨_, _, (ZiB (P := l.prog) (w := w) (base := base) T F21 C_Shop_need_sheet FL_Shop), CL_Shop, ⟨c.mA 14 (x := "Shop") rfl, c.mF 14 (x := "Shop") (m := "look") rfl, F21.kp⟩, (F21.binds (ps := Zci) fun _ _ _ _ _ _ us hl => ll2 us hl fun _ _ => rfl)⟩
 have C_Shop_story : CalMX l.prog w K mg base (He.ga K "Shop") "story" _ _ _ := ⟨_, _, (ZhF (P := l.prog) (w := w) (base := base) T F22 C_Shop_need_sheet FL_Shop), CL_Shop, ⟨c.mA 15 (x := "Shop") rfl, c.mF 15 (x := "Shop") (m := "story") rfl, F22.kp⟩, (F22.binds (ps := ZbK) fun _ _ _ _ _ _ us hl => ll2 us hl fun _ _ => rfl)⟩
 have C_Shop_need_block : CalMX l.prog w K mg base (He.ga K "Shop") "need_block" _ _ _ := ⟨_, _, (ZeJ (P := l.prog) (w := w) (base := base) T F23 C_between EX_NoBlock FL_Shop), CL_Shop, ⟨c.mA 16 (x := "Shop") rfl, c.mF 16 (x := "Shop") (m := "need_block") rfl, F23.kp⟩, (F23.binds (ps := ZaD) fun _ _ _ _ _ _ us hl => ll2 us hl fun _ _ => rfl)⟩
 have C_Shop_states : CalMX l.prog w K mg base (He.ga K "Shop") "states" _ _ _ := ⟨_, _, (ZgT (P := l.prog) (w := w) (base := base) T F24 C_Shop_need_block FL_Shop), CL_Shop, ⟨c.mA 17 (x := "Shop") rfl, c.mF 17 (x := "Shop") (m := "states") rfl, F24.kp⟩, (F24.binds (ps := Zap) fun _ _ _ _ _ _ us hl => ll2 us hl fun _ _ => rfl)⟩
 have C_Shop_left : CalMX l.prog w K mg base (He.ga K "Shop") "left" _ _ _ := ⟨_, _, (ZiD (P := l.prog) (w := w) (base := base) T F25 C_Shop_states FL_Shop), CL_Shop, ⟨c.mA 18 (x := "Shop") rfl, c.mF 18 (x := "Shop") (m := "left") rfl, F25.kp⟩, (F25.binds (ps := Zb5) fun _ _ _ _ _ _ us hl => ll2 us hl fun _ _ => rfl)⟩
 have C_Shop_wish : CalMX l.prog w K mg base (He.ga K "Shop") "wish" _ _ _ := ⟨_, _, (Zig (P := l.prog) (w := w) (base := base) T F26 EX_NoWish FL_Shop), CL_Shop, ⟨c.mA 19 (x := "Shop") rfl, c.mF 19 (x := "Shop") (m := "wish") rfl, F26.kp⟩, (F26.binds (ps := Zb7) fun _ _ _ _ _ _ us hl => ll2 us hl fun _ _ => rfl)⟩
 have C_Shop_standing : CalMX l.prog w K mg base (He.ga K "Shop") "standing" _ _ _ := ⟨_, _, (ZfN (P := l.prog) (w := w) (base := base) T F27 C_Shop_states), CL_Shop, ⟨c.mA 20 (x := "Shop") rfl, c.mF 20 (x := "Shop") (m := "standing") rfl, F27.kp⟩, (F27.binds (ps := Za0) fun _ _ _ _ _ _ us hl => ll2 us hl fun _ _ => rfl)⟩
 have B_same := F28.binds (ps := Zay) fun _ _ _ _ _ _ us hl => ll2 us hl fun _ _ => rfl
 have C__law_same := Zbl (x := "_law_same") (ZeQ (P := l.prog) (w := w) (base := base) T F28 A28 B_same 5) A28 F28.kp B_same
 have C__law_left := Zbl (x := "_law_left") (ZiT (P := l.prog) (w := w) (base := base) T F29) A29 F29.kp (F29.binds (ps := Zb4) fun _ _ _ _ _ _ us hl => ll2 us hl fun _ _ => rfl)
 have C__law_facts := Zbl (x := "_law_facts") (ZhH (P := l.prog) (w := w) (base := base) T F30 C_Shop_size C_Shop_wear C_Shop_cuts C_Shop_sheets C_Shop_wishes C_Shop_look C_Shop_story C_Shop_left C_Shop_wish C_Shop_states C_Shop_standing C__law_same C__law_left) A30 F30.kp (F30.binds (ps := ZbR) fun _ _ _ _ _ _ us hl => ll2 us hl fun _ _ => rfl)
 have C__law_shop := Zbl (x := "_law_shop") (Zjh (P := l.prog) (w := w) (base := base) T F31) A31 F31.kp (F31.binds (ps := Zcg) fun _ _ _ _ _ _ us hl => ll2 us hl fun _ _ => rfl)
 exact Zqx T F32 C__law_begin C__law_take C__law_made C__law_odd C__law_facts C__law_shop (Zr1 _ _ _ _ _ _ _ _ _ (List.nodup_cons.mp yn).2)
end Kb
open PySem PySem.W PySem.Calls PyProof.Rows
set_option maxRecDepth 100000 in
set_option maxHeartbeats 0 in
theorem PySem.Challenge.cw_keyblock_k22_shops_opened_holds : PySem.Challenge.rw_keyblock_k22_shops_opened.Holds := by
 w_on; o_law
 refine HandSHeadRun.head_any (r := OpenLaw.row PySem.Challenge.rw_keyblock_k22_shops_opened) (q := view (OpenLaw.row PySem.Challenge.rw_keyblock_k22_shops_opened).prog [60]) (H := Kb.hd.hook Kb.hdAs) (ob := Kb.hd.ob Kb.hdAs) (M := 7367) (loose := Kb.hdNm) (d := HandSHeadRun.topDef (OpenLaw.row PySem.Challenge.rw_keyblock_k22_shops_opened).prog 60) (kwd := []) (Kb.Hd.ob_eq Kb.hd Kb.hdAs)
  (by kernel_rfl) (fun s => by kernel_rfl) Kb.hdRun (by kernel_rfl) (by kernel_rfl) (by kernel_rfl) (by rfl) (by first | assumption | decide +kernel) (by decide +kernel) ⟨rfl, rfl, rfl, rfl, rfl, by decide +kernel⟩ ?hw ?hc
 case hw => w_witness2
 case hc =>
  refine L2.walk_ofE (l := PySem.Challenge.rw_keyblock_k22_shops_opened) (n := 63) (k := 10) (x := "_law_script") (CX := L2.CX0) rfl (by decide) (by kernel_rfl) ⟨rfl, by decide, by decide⟩ ?F (fun _ _ _ _ z => z)
  intro w mg fa h Y G hmg0
  obtain ⟨K, KX, c⟩ := Y
  have hmg : mg ("law" : PySem.Str) = some (.ref fa) := by
   have e : (HandSHeadRun.topDef (OpenLaw.row PySem.Challenge.rw_keyblock_k22_shops_opened).prog 60).name = ("law" : PySem.Str) := by kernel_rfl
   rw [← e]
   exact hmg0
  obtain ⟨fd, hb, hF⟩ := Kb.all_mk (l := PySem.Challenge.rw_keyblock_k22_shops_opened) (w := w) KX G hmg c
  exact ⟨K, fd, Kb.spLaw K, KX, hb, fun H a ns hl _ hS => ⟨a, ns, rfl, hS, hl, fun _ => rfl⟩, hF⟩