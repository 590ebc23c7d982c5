import PyProof.Rows.All
import Wide.All
import OpenK.AllK
import Wide.FinOn
import KE.KStateDown
import HandS.Head0
import HandS.Head1
import HandS.Head2
import Lean
import HandS.ForMost
import HandS.Defaults
import HandS.HeadEnd
import HandS.HeadHook1
import HandS.HeadHook2
import HandS.Star
import HandS.Deep
import HandS.IsInst
import HandS.Gcd
import HandS.Evl
import HandS.Style
import HandS.TupAny
import KE.KMathG
import KE.GoesEnum
import PyProof.NoPylong
import HandS.TryOnly
import HandS.Small
import PySem.Challenge.RW_ballmoves_k72_whole_lines_led
set_option Elab.async false
set_option linter.all false
-- BmImp
set_option maxRecDepth 100000
set_option maxHeartbeats 2000000
/-! BmImp: a head whose text opens with an import: the opening and the top by one kernel run over the heap as a tree. -/
noncomputable section
namespace BmHead
open PySem PySem.W PySem.Calls PyProof.Rows HandSHeadRun

/-- the opening's run, to its end -/
def impF (st : SharedT → Thread → Option (SharedT × Thread)) : Nat → SharedT → Thread → Option SharedT
  | 0, _, _ => none
  | m + 1, s, t => match t.atExitBegin with
    | some [] => some s
    | some (_ :: _) => none
    | none => match st s t with
      | some (s', t') => frS s' fun s' => impF st m s' t'
      | none => none
theorem impF_ok {tb : String → Option Builtin} {p : Program} {w : World} : ∀ {m : Nat} {s s' : SharedT} {t : Thread},
    impF (stepT (denote tb) p w) m s t = some s' → importEnds tb p w m s.abs t = some s'.abs
  | 0, _, _, _, h => by cases h
  | m + 1, s, s', t, h => by
    unfold impF at h
    unfold importEnds
    cases ht : t.atExitBegin with
    | some l =>
      rw [ht] at h
      cases l with
      | nil =>
        cases h
        rfl
      | cons a r => cases h
    | none =>
      rw [ht] at h
      cases hs : stepT (denote tb) p w s t with
      | none =>
        rw [hs] at h
        cases h
      | some r =>
        obtain ⟨s2, t2⟩ := r
        rw [hs] at h
        dsimp only at h
        rw [frS_eq] at h
        rw [stepT_spec hs]
        exact impF_ok h

/-- what the fence writes: where, what -/
def fenceAt (m : Str) (s : Shared) : Option (Addr × Obj) :=
  match boundIn s.heap sysModules m, tameNamesOf? m with
  | some (.ref a), some row => (match s.heap.get? a with
    | some o => (match o.dict with
      | some D => (match s.heap.get? D with
        | some od => (match fenceDict? m row od with
          | some od' => some (D, od')
          | none => none)
        | none => none)
      | none => none)
    | none => none)
  | _, _ => none
theorem fenceAt_ok {m : Str} {s : Shared} {D : Addr} {o : Obj} (h : fenceAt m s = some (D, o)) : fenceModule? m s = some { s with heap := s.heap.update D fun _ => o } := by
  unfold fenceAt at h
  unfold fenceModule?
  split at h
  · rename_i a row e1 e2
    rw [e1, e2]
    dsimp only
    split at h
    · rename_i o' e3
      rw [e3]
      dsimp only
      split at h
      · rename_i D' e4
        rw [e4]
        dsimp only
        split at h
        · rename_i od e5
          rw [e5]
          dsimp only
          split at h
          · rename_i od' e6
            rw [e6]
            cases h
            rfl
          · cases h
        · cases h
      · cases h
    · cases h
  · cases h
def fenceT (m : Str) (s : SharedT) : Option SharedT := match fenceAt m s.abs with
  | some (D, o) => (match s.tree.get D with
    | some _ => some { s with tree := s.tree.set D fun _ => o }
    | none => none)
  | none => none
theorem fenceT_ok {m : Str} {s s' : SharedT} (h : fenceT m s = some s') : fenceModule? m s.abs = some s'.abs := by
  unfold fenceT at h
  cases e : fenceAt m s.abs with
  | none =>
    rw [e] at h
    cases h
  | some r =>
    obtain ⟨D, o⟩ := r
    rw [e] at h
    dsimp only at h
    cases g : s.tree.get D with
    | none =>
      rw [g] at h
      cases h
    | some u =>
      rw [g] at h
      cases h
      rw [fenceAt_ok e]
      show some _ = some (SharedT.abs _)
      unfold SharedT.abs
      dsimp only
      rw [absHeap_set g]

/-- the opening, the fence, the top: both states -/
def endG (st : Program → SharedT → Thread → Option (SharedT × Thread)) (m : Str) (M1 M2 : Nat) (p : Program) : Option (SharedT × SharedT) :=
  match putAll (PySem.start (opening p)).1.heap.objs.toList .nil 0 with
  | some (t, n) => frNat n fun n => (match impF (st (opening p)) M1 ⟨t, n, (PySem.start (opening p)).1.heap.life, (PySem.start (opening p)).1.gens, (PySem.start (opening p)).1.drawn, (PySem.start (opening p)).1.toks, (PySem.start (opening p)).1.os⟩ (PySem.start (opening p)).2 with
    | some sa => (match fenceT m sa with
      | some s0 => frS s0 fun s0 => (match goF (st p) s0.n (s0.abs.heap.nsMap mainGlobals "__annotations__") M2 s0 (topStub p) with
        | some s1 => some (s0, s1)
        | none => none)
      | none => none)
    | none => none)
  | none => none
theorem endG_ok {m : Str} {M1 M2 : Nat} {p : Program} {w : World} {s0 s1 : SharedT} (h : endG (fun q => stepT (denote treeTable) q w) m M1 M2 p = some (s0, s1)) :
    (∃ sa, importEnds treeTable (opening p) w M1 (PySem.start (opening p)).1 (PySem.start (opening p)).2 = some sa ∧ fenceModule? m sa = some s0.abs) ∧
      topRun treeTable p w s0.abs.heap.objs.size (s0.abs.heap.nsMap mainGlobals "__annotations__") M2 s0.abs (topStub p) = some s1.abs := by
  unfold endG at h
  cases e : putAll (PySem.start (opening p)).1.heap.objs.toList .nil 0 with
  | none =>
    rw [e] at h
    cases h
  | some r =>
    obtain ⟨t, n⟩ := r
    rw [e] at h
    dsimp only at h
    rw [frNat_eq] at h
    have eh := putAll_heap e
    cases e1 : impF (stepT (denote treeTable) (opening p) w) M1 ⟨t, n, (PySem.start (opening p)).1.heap.life, (PySem.start (opening p)).1.gens, (PySem.start (opening p)).1.drawn, (PySem.start (opening p)).1.toks, (PySem.start (opening p)).1.os⟩ (PySem.start (opening p)).2 with
    | none =>
      rw [e1] at h
      cases h
    | some sa =>
      rw [e1] at h
      dsimp only at h
      have q1 := impF_ok e1
      have es : (SharedT.mk t n (PySem.start (opening p)).1.heap.life (PySem.start (opening p)).1.gens (PySem.start (opening p)).1.drawn (PySem.start (opening p)).1.toks (PySem.start (opening p)).1.os).abs = (PySem.start (opening p)).1 := by
        unfold SharedT.abs
        dsimp only
        rw [eh]
      rw [es] at q1
      cases e2 : fenceT m sa with
      | none =>
        rw [e2] at h
        cases h
      | some s0' =>
        rw [e2] at h
        dsimp only at h
        rw [frS_eq] at h
        cases e3 : goF (stepT (denote treeTable) p w) s0'.n (s0'.abs.heap.nsMap mainGlobals "__annotations__") M2 s0' (topStub p) with
        | none =>
          rw [e3] at h
          cases h
        | some s1' =>
          rw [e3] at h
          cases h
          refine ⟨⟨_, q1, fenceT_ok e2⟩, ?_⟩
          have q := goF_ok e3
          have en : s0.abs.heap.objs.size = s0.n := absHeap_size _ _ _
          rw [en]
          exact q

/-- the run's equation: m the one module that is imported; M1, M2 more than the opening's and the top's machine steps -/
def RunEqG (r : OpenRow) (q : Program) (H : Hook) (ob : SharedT → H.α) (m : Str) (M1 M2 : Nat) (loose : List PySem.Str) (w : World) : Prop :=
  (endG (fun p => stepQ (denQ tabQ) p w) m M1 M2 r.prog).map (fun s => (s.1.abs.heap.isNs mainGlobals && s.1.gens.size == 0, looksF r.prog s.1.abs.heap s.2.abs, seenQ q loose (importedModules r.prog.main.body) (fun s => xlAt q [] s && recOk r.toRowW.records s) s.2.abs, ob s.2)) = some (true, true, openGood q loose, H.val w)

theorem left_g {r : OpenRow} {q : Program} {H : Hook} {ob : SharedT → H.α} {m : Str} {M1 M2 : Nat} {loose : List PySem.Str} (ho : ∀ s : SharedT, ob s = H.obs s.abs)
    (hm : importedModules r.prog.main.body = [m]) (hn : r.prog.main.body.any namesNumpy = false) (run : ∀ w, RunEqG r q H ob m M1 M2 loose w) :
    LeftO r.prog q loose (fun s => xlAt q [] s && recOk r.toRowW.records s) H.obs H.val (M1 + M2) true := fun w => by
  have z := run w
  have eo : ob = fun s => H.obs s.abs := funext ho
  unfold RunEqG at z
  rw [eo, ← stepQ_eq, ← denQ_eq, ← tabQ_eq] at z
  obtain ⟨⟨s0, s1⟩, hs, hv⟩ := Option.map_eq_some_iff.mp z
  obtain ⟨l0, l1, l2, l3⟩ : _ ∧ _ ∧ _ ∧ _ := by simpa only [Prod.mk.injEq] using hv
  obtain ⟨⟨sa, k1, k2⟩, k3⟩ := endG_ok hs
  have m1 := importEnds_mono M2 _ _ _ _ k1
  have fe : fenceModules? r.prog sa = some s0.abs := by
    unfold fenceModules?
    rw [hm, hn]
    show ((fenceModule? m sa).bind (fenceAll? [])).bind _ = _
    rw [k2]
    rfl
  have m2 := topRun_mono M1 _ _ _ _ k3
  rw [Nat.add_comm M2 M1] at m2
  have l1' : (staticsOk (importedModules r.prog.main.body) s0.abs.heap s1.abs.heap && namesBound r.prog s1.abs.heap && gensDone s1.abs && laidKept s0.abs.heap s1.abs.heap) = true := l1
  have t : topFrom treeTable r.prog w (M1 + M2) s0.abs = some s1.abs := by
    unfold topFrom
    rw [show (s0.abs.heap.isNs mainGlobals && s0.abs.gens.size == 0) = true from l0]
    show (topRun treeTable r.prog w s0.abs.heap.objs.size (s0.abs.heap.nsMap mainGlobals "__annotations__") (M1 + M2) s0.abs (topStub r.prog)).bind _ = _
    rw [m2]
    show (match staticsOk (importedModules r.prog.main.body) s0.abs.heap s1.abs.heap && namesBound r.prog s1.abs.heap && gensDone s1.abs && laidKept s0.abs.heap s1.abs.heap with | true => some s1.abs | false => none) = _
    rw [l1']
  unfold openEnds fencedOpening
  rw [m1]
  show ((fenceModules? r.prog sa).bind _).map _ = _
  rw [fe]
  show (topFrom treeTable r.prog w (M1 + M2) s0.abs).map _ = _
  rw [t]
  have l2' := l2
  rw [← seenQ_eq] at l2'
  exact congrArg some (Prod.ext l2' l3)
end BmHead
-- BmHead
set_option maxRecDepth 100000
set_option maxHeartbeats 0
namespace BmHead
open PySem PySem.Spec PyProof.Rows L2
def topS (i : Nat) : Stmt := PySem.Challenge.pw_ballmoves_k72_whole_lines_led.main.body.getD i (.Pass ⟨0, 0, 0, 0⟩)
def dd (x : Str) (i : Nat) : He.DefD := ⟨(x, none), x, x, defArgs (topS i), defBody (topS i), defScope (topS i), [], []⟩
def fn : List He.DefD := [dd "is_number" 9, dd "is_row_of_numbers" 10, dd "fraction" 11, dd "is_fraction" 12, dd "plus" 13, dd "minus" 14, dd "times_of" 15, dd "divided" 16, dd "is_less" 17, dd "split_off" 19, dd "parts" 20, dd "raised" 21, dd "power_of" 22, dd "inverse" 23, dd "rest" 24, dd "is_ball" 27, dd "ball" 28, dd "about" 29, dd "within" 30, dd "neighbours" 31, dd "least_about" 32, dd "in_form" 37, dd "size" 38, dd "sum_of" 39, dd "after" 40, dd "back" 41, dd "has_more" 43, dd "ball_of" 44, dd "led" 45, dd "road" 47, dd "steps" 48, dd "on_road" 49, dd "is_side" 50, dd "on_side" 51, dd "are_apart" 52, dd "lies_in" 53, dd "stretch" 55, dd "resting" 56, dd "on_line" 58, dd "line_from" 59, dd "gate" 60, dd "need_stretching" 63, dd "between" 64, dd "next_ball" 66, dd "last_shared" 67, dd "way_at" 68, dd "lines" 69, dd "two_sides" 71, dd "four_sides" 72, dd "are_four_sides" 73, dd "leads_beyond" 74, dd "judge_sides" 75, dd "change_moves" 77, dd "next_change" 78, dd "shorten" 79, dd "_law_open_cells" 81, dd "_law_pick" 82, dd "_law_any_order" 83, dd "_law_common" 84, dd "_law_fraction" 85, dd "_law_parts" 86, dd "_law_raised" 87, dd "_law_power" 88, dd "_law_move" 89, dd "_law_after" 90, dd "_law_back" 91, dd "_law_size" 92, dd "_law_stretch" 93, dd "_law_draw_prime" 94, dd "_law_draw_move" 95, dd "_law_draw_point" 96, dd "_law_by_ends" 97, dd "_law_draw_stretching" 98, dd "_law_between" 99, dd "_law_lines_kind" 100, dd "_law_draw_pair" 101, dd "_law_draw_ends" 102, dd "_law_draw_length" 103, dd "_law_draw_near" 104, dd "_law_products_right" 105, dd "_law_led_right" 106, dd "law" 107]
def fa : List He.Fa := [.glo "is_number", .glo "is_row_of_numbers", .glo "fraction", .glo "is_fraction", .glo "plus", .glo "minus", .glo "times_of", .glo "divided", .glo "is_less", .glo "split_off", .glo "parts", .glo "raised", .glo "power_of", .glo "inverse", .glo "rest", .glo "is_ball", .glo "ball", .glo "about", .glo "within", .glo "neighbours", .glo "least_about", .glo "in_form", .glo "size", .glo "sum_of", .glo "after", .glo "back", .glo "has_more", .glo "ball_of", .glo "led", .glo "road", .glo "steps", .glo "on_road", .glo "is_side", .glo "on_side", .glo "are_apart", .glo "lies_in", .glo "stretch", .glo "resting", .glo "on_line", .glo "line_from", .glo "gate", .glo "need_stretching", .glo "between", .glo "next_ball", .glo "last_shared", .glo "way_at", .glo "lines", .glo "two_sides", .glo "four_sides", .glo "are_four_sides", .glo "leads_beyond", .glo "judge_sides", .glo "change_moves", .glo "next_change", .glo "shorten", .glo "_law_open_cells", .glo "_law_pick", .glo "_law_any_order", .glo "_law_common", .glo "_law_fraction", .glo "_law_parts", .glo "_law_raised", .glo "_law_power", .glo "_law_move", .glo "_law_after", .glo "_law_back", .glo "_law_size", .glo "_law_stretch", .glo "_law_draw_prime", .glo "_law_draw_move", .glo "_law_draw_point", .glo "_law_by_ends", .glo "_law_draw_stretching", .glo "_law_between", .glo "_law_lines_kind", .glo "_law_draw_pair", .glo "_law_draw_ends", .glo "_law_draw_length", .glo "_law_draw_near", .glo "_law_products_right", .glo "_law_led_right", .glo "law", .free "abs", .free "all", .free "bool", .free "dict", .free "enumerate", .free "int", .free "isinstance", .free "len", .free "list", .free "max", .free "min", .free "range", .free "tuple", .free "zip"]
/-- the head's facts beside the defs: gcd, the tuples of the top -/
def extra (K : PySem.W.Frag) : Bool := He.eqO (PySem.W.nsIn K mainGlobals "gcd") (some (some (.builtin "math.gcd")))
  && He.eqO (PySem.W.nsIn K mainGlobals "ZERO") (some (some (.ref (He.ga K "ZERO"))))
  && He.eqO (PySem.W.nsIn K mainGlobals "FIRST_BALL") (some (some (.ref (He.ga K "FIRST_BALL"))))
  && He.tupB K "ZERO" [.int 0, .int 1]
  && (match K.lookup (He.ga K "FIRST_BALL") with
    | some ⟨_, _, .seq its _, _⟩ => (match its.toList with
      | [_, .ref a] => He.tupB K "FIRST_BALL" [.int 0, .adr fun _ => a] && (match K.lookup a with
        | some ⟨.type c, _, .seq jts _, _⟩ => decide (c = "tuple") && (decide (jts.size ≤ sizeLine) && He.relAll [.int 0, .int 1] jts.toList)
        | _ => false)
      | _ => false)
    | _ => false)
/-- the addresses that are looked at: the module's names, what they name, the defs' code -/
def asM (g : Addr → Option Obj) : List Addr := mainGlobals :: (match g mainGlobals with
  | some ⟨_, _, .dict es _, _⟩ => es.toList.flatMap fun e => (match e.val with
    | .ref a => a :: (match g a with
      | some ⟨_, _, .func fd, _⟩ => He.refV fd.code
      | some ⟨_, _, .seq its _, _⟩ => its.toList.flatMap He.refV
      | _ => [])
    | _ => [])
  | _ => [])
def obsM (g : Addr → Option Obj) : He.AlD × Bool := let K := He.frG g (asM g); (He.obsD fa fn K, extra K)
abbrev AlM : Type := He.AlD × Bool
def hk : PySem.W.Hook where
  α := AlM
  obs := fun s => obsM s.heap.get?
  val := fun _ => (He.valD fn, true)
  says := fun _ h => ∃ K : PySem.W.Frag, K.In h ∧ He.SaysD fa fn K ∧ extra K = true
  of := fun _ _ e => ⟨_, He.frG_in, congrArg Prod.fst e, congrArg Prod.snd e⟩
  keeps := fun _ _ _ ⟨K, hK, c⟩ k => ⟨K, PySem.W.Frag.In.keeps hK k, c⟩
abbrev R : PySem.W.OpenRow := PySem.W.OpenLaw.row PySem.Challenge.rw_ballmoves_k72_whole_lines_led
def ob (s : PySem.W.SharedT) : AlM := obsM (HandSHeadRun.getT s)
theorem ob_eq (s : PySem.W.SharedT) : ob s = hk.obs s.abs := by
  have e : HandSHeadRun.getT s = s.abs.heap.get? := funext (HandSHeadRun.getT_eq s)
  unfold ob
  rw [e]
  rfl
def nm0 : List PySem.Str := ["gcd", "copied", "BallError", "BadPoint", "BadBall", "NotOnLine", "NotStretching", "is_number", "is_row_of_numbers", "fraction", "is_fraction", "plus", "minus", "times_of", "divided", "is_less", "split_off", "parts", "raised", "power_of", "inverse", "rest", "ZERO", "is_ball", "ball", "about", "within", "neighbours", "least_about", "FAR"]
def nm1 : List PySem.Str := ["point", "in_form", "size", "sum_of", "after", "back", "has_more", "ball_of", "led", "road", "steps", "on_road", "is_side", "on_side", "are_apart", "lies_in", "stretch", "resting", "on_line", "line_from", "gate", "FIRST_BALL", "need_stretching", "between", "led_to_nought", "next_ball", "last_shared", "way_at", "lines", "two_sides"]
def nm2 : List PySem.Str := ["four_sides", "are_four_sides", "leads_beyond", "judge_sides", "change_moves", "next_change", "shorten", "_law_open_cells", "_law_pick", "_law_any_order", "_law_common", "_law_fraction", "_law_parts", "_law_raised", "_law_power", "_law_move", "_law_after", "_law_back", "_law_size", "_law_stretch", "_law_draw_prime", "_law_draw_move", "_law_draw_point", "_law_by_ends", "_law_draw_stretching", "_law_between", "_law_lines_kind", "_law_draw_pair", "_law_draw_ends", "_law_draw_length"]
def nm3 : List PySem.Str := ["_law_draw_near", "_law_products_right", "_law_led_right"]
def nms : List PySem.Str := nm0 ++ nm1 ++ nm2 ++ nm3
theorem run (w : World) : RunEqG R (PySem.W.view R.prog [107]) hk ob "math" 8000 8000 nms w := by
  unfold RunEqG
  kernel_rfl
end BmHead
-- BmClose
set_option maxRecDepth 100000
set_option maxHeartbeats 0
/-! BmClose: the statement from the law's walk: what the head and the witness cost is paid here, ahead of the rest. -/
namespace BmHead
open PySem PySem.W PySem.Calls PyProof.Rows
theorem closing (hc : WalkO (view (OpenLaw.row PySem.Challenge.rw_ballmoves_k72_whole_lines_led).prog [107]) BmHead.nms (XL (view (OpenLaw.row PySem.Challenge.rw_ballmoves_k72_whole_lines_led).prog [107]) []) BmHead.hk.says (OpenLaw.row PySem.Challenge.rw_ballmoves_k72_whole_lines_led).toRowW (HandSHeadRun.topDef (OpenLaw.row PySem.Challenge.rw_ballmoves_k72_whole_lines_led).prog 107) [] (fun f vs => PySem.call f vs)) : PySem.Challenge.rw_ballmoves_k72_whole_lines_led.Holds := by
  w_on; o_law
  refine holds_open (r := OpenLaw.row PySem.Challenge.rw_ballmoves_k72_whole_lines_led) (q := view (OpenLaw.row PySem.Challenge.rw_ballmoves_k72_whole_lines_led).prog [107]) (loose := BmHead.nms) (XP := XL (view (OpenLaw.row PySem.Challenge.rw_ballmoves_k72_whole_lines_led).prog [107]) []) (YP := BmHead.hk.says) (d := HandSHeadRun.topDef (OpenLaw.row PySem.Challenge.rw_ballmoves_k72_whole_lines_led).prog 107) (kwd := [])
    (BmHead.left_g (m := "math") BmHead.ob_eq (by kernel_rfl) (by kernel_rfl) BmHead.run) BmHead.hk.of BmHead.hk.keeps (fun s z => xl_of s (Bool.and_eq_true_iff.mp z).1) XL.keeps
    (by kernel_rfl) (by kernel_rfl) (by kernel_rfl) (fun s z => recFacts_of (Bool.and_eq_true_iff.mp z).2) (by rfl) (by first | assumption | decide +kernel) (by decide +kernel) ⟨rfl, rfl, rfl, rfl, rfl, by decide +kernel⟩ ?hw ?hc
  case hw => w_witness2
  case hc => exact hc
end BmHead
-- BtTree
/-! BtTree: integer trees as metric spaces, isometries that stretch, their lines. Plain Lean. -/
namespace Bt

structure Tree (B : Type) where
  d : B → B → Int
  on : B → B → Int → B
  self : ∀ x, d x x = 0
  eq : ∀ x y, d x y ≤ 0 → x = y
  symm : ∀ x y, d x y = d y x
  four : ∀ x y z w, d x y + d z w ≤ d x z + d y w ∨ d x y + d z w ≤ d x w + d y z
  par : ∀ x y z, (d x y + d y z + d x z) % 2 = 0
  on1 : ∀ x y k, 0 ≤ k → k ≤ d x y → d x (on x y k) = k
  on2 : ∀ x y k, 0 ≤ k → k ≤ d x y → d (on x y k) y = d x y - k

structure Iso {B : Type} (T : Tree B) (g g' : B → B) : Prop where
  iso : ∀ x y, T.d (g x) (g y) = T.d x y
  r : ∀ x, g (g' x) = x
  l : ∀ x, g' (g x) = x

structure Hyp {B : Type} (T : Tree B) (g : B → B) (l : Int) : Prop where
  pos : 0 < l
  disp : ∀ x, ∃ w, 0 ≤ w ∧ T.d x (g x) = l + 2 * w ∧ T.d x (g (g x)) = 2 * l + 2 * w

section
variable {B : Type} (T : Tree B)

theorem Tree.tri (x y z : B) : T.d x z ≤ T.d x y + T.d y z := by
  have h := T.four x z y y
  have e := T.self y
  have s := T.symm z y
  omega

theorem Tree.nn (x y : B) : 0 ≤ T.d x y := by
  have h := T.tri x y x
  have e := T.self x
  have s := T.symm x y
  omega

/-- three pieces of a road -/
theorem Tree.concat {a b c e : B} (h1 : T.d a c = T.d a b + T.d b c) (h2 : T.d b e = T.d b c + T.d c e) (h : 0 < T.d b c) :
    T.d a e = T.d a b + T.d b c + T.d c e := by
  have f := T.four a c b e
  have t1 := T.tri a b e
  have s := T.symm c b
  omega

/-- points between the same two at the same place are one -/
theorem Tree.uniq {x y z z' : B} (h1 : T.d x z = T.d x z') (h2 : T.d z y = T.d z' y) (h : T.d x z + T.d z y = T.d x y) : z = z' := by
  apply T.eq
  have f := T.four z z' x y
  have s1 := T.symm z x
  have s2 := T.symm z' x
  omega

theorem Iso.back {g g' : B → B} {T : Tree B} (G : Iso T g g') : Iso T g' g :=
  ⟨fun x y => by rw [← G.iso, G.r, G.r], G.l, G.r⟩

theorem Iso.swap {g g' : B → B} {T : Tree B} (G : Iso T g g') (x y : B) : T.d (g' x) y = T.d x (g y) := by
  rw [← G.iso, G.r]

/-- the line of an isometry that stretches by l -/
def Ax (g : B → B) (l : Int) (x : B) : Prop := T.d x (g x) = l
end

section
variable {B : Type} {T : Tree B} {g g' : B → B} {l : Int}

theorem Hyp.inv (G : Iso T g g') (H : Hyp T g l) : Hyp T g' l := by
  refine ⟨H.pos, fun x => ?_⟩
  obtain ⟨w, h0, h1, h2⟩ := H.disp (g' (g' x))
  have e1 : g (g' (g' x)) = g' x := G.r _
  have e2 : g (g' x) = x := G.r _
  obtain ⟨w', h0', h1', h2'⟩ := H.disp (g' x)
  rw [e2] at h1' h2'
  rw [e1] at h1 h2
  rw [e2] at h2
  have s1 := T.symm x (g' x)
  have s2 := T.symm x (g' (g' x))
  have e3 : T.d (g' (g' x)) (g' x) = T.d (g' x) x := G.back.iso _ _
  exact ⟨w', h0', by omega, by omega⟩

theorem Ax.two (H : Hyp T g l) {x : B} (h : Ax T g l x) : T.d x (g (g x)) = 2 * l := by
  obtain ⟨w, h0, h1, h2⟩ := H.disp x
  have h' : T.d x (g x) = l := h
  omega

theorem Ax.ge (H : Hyp T g l) (x : B) : l ≤ T.d x (g x) := by
  obtain ⟨w, h0, h1, h2⟩ := H.disp x
  omega

theorem Ax.fwd (G : Iso T g g') {x : B} (h : Ax T g l x) : Ax T g l (g x) := by
  unfold Ax at *
  rw [G.iso]; exact h

theorem Ax.inv (G : Iso T g g') {x : B} : Ax T g' l x ↔ Ax T g l x := by
  unfold Ax
  have e := G.swap x x
  have s := T.symm (g' x) x
  constructor <;> intro h <;> omega

theorem Ax.bwd (G : Iso T g g') {x : B} (h : Ax T g l x) : Ax T g l (g' x) := by
  unfold Ax at *
  rw [G.r, G.swap]; exact h

/-- the gate: the place at half of what is too much -/
def gateT (T : Tree B) (g : B → B) (l : Int) (x : B) : B := T.on x (g x) ((T.d x (g x) - l) / 2)

theorem gate_ax (G : Iso T g g') (H : Hyp T g l) (x : B) : Ax T g l (gateT T g l x) ∧ 2 * T.d x (gateT T g l x) = T.d x (g x) - l := by
  obtain ⟨w, h0, h1, h2⟩ := H.disp x
  have hw : (T.d x (g x) - l) / 2 = w := by omega
  have hp := H.pos
  unfold gateT
  rw [hw]
  have a1 := T.on1 x (g x) w h0 (by omega)
  have a2 := T.on2 x (g x) w h0 (by omega)
  generalize ha : T.on x (g x) w = a at *
  refine ⟨?_, by omega⟩
  have ge := Ax.ge H a
  unfold Ax
  have b1 := G.iso x a
  have b2 := G.iso a (g x)
  have f1 := T.four x (g a) (g x) (g (g x))
  have i1 := G.iso x (g x)
  have s1 := T.symm (g a) (g x)
  have s2 := T.symm (g (g x)) (g x)
  have t1 := T.tri x (g a) (g x)
  have f2 := T.four a (g a) x (g x)
  have s3 := T.symm a x
  have s4 := T.symm (g a) x
  omega

/-- lines are convex -/
theorem Ax.convex (G : Iso T g g') (H : Hyp T g l) {x y z : B} (hx : Ax T g l x) (hy : Ax T g l y) (hz : T.d x z + T.d z y = T.d x y) : Ax T g l z := by
  have hp := H.pos
  have ge := Ax.ge H z
  unfold Ax at *
  have i1 := G.iso x z
  have i2 := G.iso z y
  have i3 := G.iso x y
  have f1 := T.four z (g z) x y
  have f2 := T.four (g z) y (g x) (g y)
  have f3 := T.four (g z) x (g x) (g y)
  have s1 := T.symm z x
  have s2 := T.symm (g z) x
  have s3 := T.symm (g z) y
  have s4 := T.symm (g z) (g x)
  have s5 := T.symm (g y) x
  have s6 := T.symm (g x) y
  have s7 := T.symm (g x) x
  have s8 := T.symm (g y) y
  have t1 := T.tri y (g y) (g x)
  have t2 := T.tri x (g x) (g y)
  have s9 := T.symm (g y) (g x)
  have s10 := T.symm y x
  have n1 := T.nn x z
  have n2 := T.nn z y
  omega

/-- a point on both roads, to a and to b, from x -/
theorem Tree.branch (T : Tree B) (x a b : B) (c : Int) (h0 : 0 ≤ c) (h : 2 * c = T.d x a + T.d x b - T.d a b) :
    ∃ z, T.d x z = c ∧ T.d z a = T.d x a - c ∧ T.d z b = T.d x b - c := by
  have t1 := T.tri x a b
  have t2 := T.tri x b a
  have s := T.symm a b
  have hc : c ≤ T.d x a := by omega
  refine ⟨T.on x a c, T.on1 x a c h0 hc, T.on2 x a c h0 hc, ?_⟩
  have e1 := T.on1 x a c h0 hc
  have e2 := T.on2 x a c h0 hc
  generalize T.on x a c = z at *
  have f := T.four z b x a
  have t3 := T.tri x z b
  have s1 := T.symm z x
  have s2 := T.symm b x
  have s3 := T.symm b a
  omega

theorem Tree.gp (T : Tree B) (x a b : B) : ∃ c, 0 ≤ c ∧ 2 * c = T.d x a + T.d x b - T.d a b := by
  have p := T.par a x b
  have s := T.symm a x
  have t := T.tri a x b
  exact ⟨(T.d x a + T.d x b - T.d a b) / 2, by omega, by omega⟩

/-- the gate is the nearest: all roads to the line go through it -/
theorem gate_proj (G : Iso T g g') (H : Hyp T g l) (x : B) {y : B} (hy : Ax T g l y) : T.d x y = T.d x (gateT T g l x) + T.d (gateT T g l x) y := by
  obtain ⟨ha, hd⟩ := gate_ax G H x
  generalize gateT T g l x = a at *
  obtain ⟨c, c0, hc⟩ := T.gp a x y
  have s := T.symm a x
  rcases Int.lt_or_le 0 c with hcp | hcp
  · exfalso
    obtain ⟨z, z1, z2, z3⟩ := T.branch a x y c c0 hc
    have hz : Ax T g l z := Ax.convex G H ha hy (by omega)
    unfold Ax at hz
    have t1 := T.tri x z (g z)
    have t2 := T.tri x (g z) (g x)
    have i := G.iso z x
    have s2 := T.symm z x
    omega
  · omega
end
end Bt
-- BtLine
/-! BtLine: coordinates on lines; how two lines lie. -/
namespace Bt
section
variable {B : Type} {T : Tree B} {g g' h h' : B → B} {l m : Int}

/-- y lies onward from x (or is x) -/
def Fw (T : Tree B) (g : B → B) (l : Int) (x y : B) : Prop := T.d x (g y) = T.d x y + l

theorem Fw.refl {x : B} (hx : Ax T g l x) : Fw T g l x x := by
  have e := T.self x
  unfold Fw Ax at *
  omega

theorem Fw.cmp (G : Iso T g g') (H : Hyp T g l) {x y : B} (hx : Ax T g l x) (hy : Ax T g l y) : Fw T g l x y ∨ Fw T g l y x := by
  have e2 := Ax.two (Hyp.inv G H) ((Ax.inv G).mpr hy)
  have ht := Ax.two H (Ax.bwd G hy)
  have e3 : g (g' y) = y := G.r y
  rw [e3] at ht
  unfold Fw Ax at *
  have f := T.four x y (g y) (g' y)
  have f2 := T.four x y (g' y) (g y)
  have s1 := G.swap y x
  have s2 := G.swap y y
  have s3 := T.symm (g' y) x
  have s4 := T.symm (g' y) y
  have s5 := T.symm (g' y) (g y)
  have t1 := T.tri x y (g y)
  have t2 := T.tri y x (g x)
  have s6 := T.symm y x
  omega

theorem Fw.anti (G : Iso T g g') (H : Hyp T g l) {x y : B} (hx : Ax T g l x) (hy : Ax T g l y) (a : Fw T g l x y) (b : Fw T g l y x) : x = y := by
  apply T.eq
  unfold Fw Ax at *
  have f := T.four x (g y) y (g x)
  have i := G.iso y x
  have s1 := T.symm (g y) y
  have s2 := T.symm y x
  have s3 := T.symm (g y) (g x)
  have hp := H.pos
  have i2 := G.iso x y
  omega

theorem Fw.trans (G : Iso T g g') (H : Hyp T g l) {x y z : B} (hy : Ax T g l y) (hz : Ax T g l z) (a : Fw T g l x y) (b : Fw T g l y z) :
    T.d x z = T.d x y + T.d y z ∧ Fw T g l x z := by
  rcases Int.lt_or_le 0 (T.d y z) with hp | hp
  · have na : ¬ Fw T g l z y := fun c => by
      have e := Fw.anti G H hy hz b c
      rw [e, T.self] at hp
      omega
    unfold Fw Ax at *
    have f := T.four x (g y) z y
    have t1 := T.tri z y (g y)
    have t2 := T.tri x y z
    have s1 := T.symm z y
    have s2 := T.symm (g y) y
    have s3 := T.symm (g y) z
    have s4 := T.symm z y
    have e1 : T.d x z = T.d x y + T.d y z := by omega
    exact ⟨e1, by have c := T.concat (a := x) (b := y) (c := z) (e := g z) e1 (by omega) hp; omega⟩
  · have e := T.eq y z hp
    subst e
    have s := T.self y
    exact ⟨by omega, a⟩

/-- a line's coordinate from a point of it -/
theorem coord (G : Iso T g g') (H : Hyp T g l) {o : B} (ho : Ax T g l o) :
    ∃ pos : B → Int, pos o = 0 ∧ (∀ y z, Ax T g l y → Ax T g l z → pos y ≤ pos z → T.d y z = pos z - pos y) ∧
      (∀ y, Ax T g l y → pos (g y) = pos y + l) := by
  have dec : ∀ y, Decidable (Fw T g l o y) := fun y => by unfold Fw; exact inferInstance
  let pos : B → Int := fun y => if T.d o (g y) = T.d o y + l then T.d o y else - T.d o y
  have pt : ∀ y, Fw T g l o y → pos y = T.d o y := fun y h => if_pos h
  have pf : ∀ y, ¬ Fw T g l o y → pos y = - T.d o y := fun y h => if_neg h
  have all : ∀ y z, Ax T g l y → Ax T g l z → (pos y ≤ pos z ∧ T.d y z = pos z - pos y) ∨ (pos z ≤ pos y ∧ T.d y z = pos y - pos z) := by
    intro y z hy hz
    have n1 := T.nn o y
    have n2 := T.nn o z
    have n3 := T.nn y z
    have s1 := T.symm o y
    have s2 := T.symm o z
    have s3 := T.symm y z
    by_cases a : Fw T g l o y
    · by_cases b : Fw T g l o z
      · have p1 := pt y a
        have p2 := pt z b
        rcases Fw.cmp G H hy hz with c | c
        · have t := (Fw.trans G H hy hz a c).1
          omega
        · have t := (Fw.trans G H hz hy b c).1
          omega
      · have p1 := pt y a
        have p2 := pf z b
        have c := (Fw.cmp G H ho hz).resolve_left b
        have t := (Fw.trans G H ho hy c a).1
        omega
    · have c := (Fw.cmp G H ho hy).resolve_left a
      have p1 := pf y a
      by_cases b : Fw T g l o z
      · have p2 := pt z b
        have t := (Fw.trans G H ho hz c b).1
        omega
      · have p2 := pf z b
        have e := (Fw.cmp G H ho hz).resolve_left b
        rcases Fw.cmp G H hy hz with k | k
        · have t := (Fw.trans G H hz ho k e).1
          omega
        · have t := (Fw.trans G H hy ho k c).1
          omega
  refine ⟨pos, ?_, fun y z hy hz h => ?_, fun y hy => ?_⟩
  · rw [pt o (Fw.refl ho), T.self]
  · have := all y z hy hz
    omega
  · have hg := Ax.fwd G hy
    have fy : Fw T g l y (g y) := by
      have e := Ax.two H hy
      have e' : T.d y (g y) = l := hy
      unfold Fw
      omega
    have dl : T.d y (g y) = l := hy
    have hp := H.pos
    have s1 := T.symm o y
    have s2 := T.symm o (g y)
    by_cases a : Fw T g l o y
    · have t := Fw.trans G H hy hg a fy
      have p1 := pt y a
      have p2 := pt (g y) t.2
      omega
    · have c := (Fw.cmp G H ho hy).resolve_left a
      have p1 := pf y a
      by_cases b : Fw T g l o (g y)
      · have p2 := pt _ b
        have t := (Fw.trans G H ho hg c b).1
        omega
      · have e := (Fw.cmp G H ho hg).resolve_left b
        have p2 := pf _ b
        have t := (Fw.trans G H hg ho fy e).1
        omega

/-- the next ball onward -/
def nxt (T : Tree B) (g : B → B) (x : B) : B := T.on x (g x) 1

theorem nxt_ax (G : Iso T g g') (H : Hyp T g l) {x : B} (hx : Ax T g l x) : Ax T g l (nxt T g x) ∧ T.d x (nxt T g x) = 1 ∧ T.d (nxt T g x) (g x) = l - 1 := by
  have hp := H.pos
  have e : T.d x (g x) = l := hx
  have a := T.on1 x (g x) 1 (by omega) (by omega)
  have b := T.on2 x (g x) 1 (by omega) (by omega)
  unfold nxt
  exact ⟨Ax.convex G H hx (Ax.fwd G hx) (by omega), a, by omega⟩

/-- coordinates: what one uses -/
structure Crd (T : Tree B) (g : B → B) (l : Int) (pos : B → Int) : Prop where
  le : ∀ y z, Ax T g l y → Ax T g l z → pos y ≤ pos z → T.d y z = pos z - pos y
  fw : ∀ y, Ax T g l y → pos (g y) = pos y + l

theorem Crd.ab {pos : B → Int} (C : Crd T g l pos) {y z : B} (hy : Ax T g l y) (hz : Ax T g l z) :
    (pos y ≤ pos z ∧ T.d y z = pos z - pos y) ∨ (pos z ≤ pos y ∧ T.d y z = pos y - pos z) := by
  rcases Int.le_total (pos y) (pos z) with h | h
  · exact .inl ⟨h, C.le y z hy hz h⟩
  · refine .inr ⟨h, ?_⟩
    rw [T.symm]; exact C.le z y hz hy h

theorem Crd.bw (G : Iso T g g') {pos : B → Int} (C : Crd T g l pos) {y : B} (hy : Ax T g l y) : pos (g' y) = pos y - l := by
  have e := C.fw (g' y) (Ax.bwd G hy)
  rw [G.r] at e
  omega

theorem Crd.nx (G : Iso T g g') (H : Hyp T g l) {pos : B → Int} (C : Crd T g l pos) {y : B} (hy : Ax T g l y) : pos (nxt T g y) = pos y + 1 := by
  obtain ⟨a, b, c⟩ := nxt_ax G H hy
  have f := C.fw y hy
  have u := C.ab hy a
  have v := C.ab a (Ax.fwd G hy)
  have hp := H.pos
  omega

theorem Crd.pv (G : Iso T g g') (H : Hyp T g l) {pos : B → Int} (C : Crd T g l pos) {y : B} (hy : Ax T g l y) : pos (nxt T g' y) = pos y - 1 ∧ Ax T g l (nxt T g' y) := by
  obtain ⟨a, b, c⟩ := nxt_ax G.back (Hyp.inv G H) ((Ax.inv G).mpr hy)
  have a' := (Ax.inv G).mp a
  have f := C.bw G hy
  have u := C.ab hy a'
  have v := C.ab a' (Ax.bwd G hy)
  have hp := H.pos
  exact ⟨by omega, a'⟩

theorem Crd.eq {pos : B → Int} (C : Crd T g l pos) {y z : B} (hy : Ax T g l y) (hz : Ax T g l z) (h : pos y = pos z) : y = z := by
  apply T.eq
  have := C.ab hy hz
  omega

theorem coord' (G : Iso T g g') (H : Hyp T g l) {o : B} (ho : Ax T g l o) : ∃ pos : B → Int, pos o = 0 ∧ Crd T g l pos := by
  obtain ⟨pos, a, b, c⟩ := coord G H ho
  exact ⟨pos, a, b, c⟩

theorem Crd.fwd (G : Iso T g g') (H : Hyp T g l) {pos : B → Int} (C : Crd T g l pos) {y z : B} (hy : Ax T g l y) (hz : Ax T g l z) : Fw T g l y z ↔ pos y ≤ pos z := by
  unfold Fw
  have f := C.fw z hz
  have u := C.ab hy hz
  have v := C.ab hy (Ax.fwd G hz)
  have hp := H.pos
  constructor <;> intro <;> omega

/-! ### how two lines lie -/
/-- apart: the bridge from b to o -/
structure Apart (T : Tree B) (g : B → B) (l : Int) (h : B → B) (m : Int) (b o : B) : Prop where
  hb : Ax T g l b
  ho : Ax T h m o
  pos : 0 < T.d b o
  all : ∀ y z, Ax T g l y → Ax T h m z → T.d y z = T.d y b + T.d b o + T.d o z

/-- along: what is shared is the road from F to L, told as g leads -/
structure Along (T : Tree B) (g : B → B) (l : Int) (h : B → B) (m : Int) (F L : B) : Prop where
  gF : Ax T g l F
  hF : Ax T h m F
  gL : Ax T g l L
  hL : Ax T h m L
  all : ∀ z, Ax T g l z → Ax T h m z → T.d F z + T.d z L = T.d F L
  fw : Fw T g l F L

theorem apart_of (G : Iso T g g') (Hg : Hyp T g l) (K : Iso T h h') (Hh : Hyp T h m) {x : B} (hx : Ax T g l x)
    (ne : gateT T g l (gateT T h m x) ≠ gateT T h m x) : Apart T g l h m (gateT T g l (gateT T h m x)) (gateT T h m x) := by
  obtain ⟨ho, _⟩ := gate_ax K Hh x
  have po : ∀ z, Ax T h m z → T.d x z = T.d x (gateT T h m x) + T.d (gateT T h m x) z := fun z hz => gate_proj K Hh x hz
  generalize gateT T h m x = o at *
  obtain ⟨hb, _⟩ := gate_ax G Hg o
  have pb : ∀ y, Ax T g l y → T.d o y = T.d o (gateT T g l o) + T.d (gateT T g l o) y := fun y hy => gate_proj G Hg o hy
  generalize gateT T g l o = b at *
  have pp : 0 < T.d b o := by
    rcases Int.lt_or_le 0 (T.d b o) with h | h
    · exact h
    · exact absurd (T.eq _ _ h) ne
  refine ⟨hb, ho, pp, fun y z hy hz => ?_⟩
  have h1 := pb y hy
  have h2 := pb x hx
  have h3 := po z hz
  have t := T.tri x b z
  have t2 := T.tri b o z
  have s1 := T.symm o y
  have s2 := T.symm o b
  have s3 := T.symm b y
  have s4 := T.symm o x
  have s5 := T.symm b x
  exact T.concat (a := y) (b := b) (c := o) (e := z) (by omega) (by omega) pp

theorem shared_of (G : Iso T g g') (Hg : Hyp T g l) (K : Iso T h h') (Hh : Hyp T h m) {x : B}
    (e : gateT T g l (gateT T h m x) = gateT T h m x) : Ax T g l (gateT T h m x) ∧ Ax T h m (gateT T h m x) := by
  obtain ⟨ho, _⟩ := gate_ax K Hh x
  obtain ⟨hb, _⟩ := gate_ax G Hg (gateT T h m x)
  rw [e] at hb
  exact ⟨hb, ho⟩

/-- the last shared ball onward from x -/
structure Last (T : Tree B) (g : B → B) (l : Int) (h : B → B) (m : Int) (x L : B) : Prop where
  ag : Ax T g l L
  ah : Ax T h m L
  fw : Fw T g l x L
  no : ¬ Ax T h m (nxt T g L)

theorem along_of (G : Iso T g g') (Hg : Hyp T g l) (K : Iso T h h') (Hh : Hyp T h m) {x F L : B} (hx : Ax T g l x) (hx' : Ax T h m x)
    (A : Last T g' l h m x F) (C : Last T g l h m x L) : Along T g l h m F L := by
  obtain ⟨pos, p0, P⟩ := coord' G Hg hx
  have gF : Ax T g l F := (Ax.inv G).mp A.ag
  have Hg' := Hyp.inv G Hg
  obtain ⟨pos', p0', P'⟩ := coord' G.back Hg' ((Ax.inv G).mpr hx)
  have fF := (P'.fwd G.back Hg' ((Ax.inv G).mpr hx) A.ag).mp A.fw
  have fL := (P.fwd G Hg hx C.ag).mp C.fw
  have pF : pos F ≤ 0 := by
    have a1 := P'.ab ((Ax.inv G).mpr hx) A.ag
    have a2 := P'.bw G.back A.ag
    have a3 := P'.ab ((Ax.inv G).mpr hx) (Ax.bwd G.back A.ag)
    have b1 := P.ab hx gF
    have b2 := P.fw F gF
    have b3 := P.ab hx (Ax.fwd G gF)
    have hp := Hg.pos
    omega
  refine ⟨gF, A.ah, C.ag, C.ah, fun z hz hz' => ?_, (P.fwd G Hg gF C.ag).mpr (by omega)⟩
  have u1 := P.ab hx hz
  have nL := P.nx G Hg C.ag
  have aL := (nxt_ax G Hg C.ag).1
  have zl : pos z ≤ pos L := by
    refine Int.not_lt.mp fun q => C.no ?_
    refine Ax.convex K Hh hx' hz' ?_
    have v1 := P.ab hx aL
    have v2 := P.ab aL hz
    omega
  have nF := P.pv G Hg gF
  have fz : pos F ≤ pos z := by
    refine Int.not_lt.mp fun q => A.no ?_
    refine Ax.convex K Hh hx' hz' ?_
    have v1 := P.ab hx nF.2
    have v2 := P.ab nF.2 hz
    omega
  have w1 := P.ab gF hz
  have w2 := P.ab hz C.ag
  have w3 := P.ab gF C.ag
  omega

/-- which way h leads from F to L -/
def WayIs (T : Tree B) (h : B → B) (m : Int) (F L : B) (w : Int) : Prop :=
  (F = L ∧ w = 0) ∨ (F ≠ L ∧ w = 1 ∧ T.d F (h L) = T.d F L + m) ∨ (F ≠ L ∧ w = -1 ∧ T.d L (h F) = T.d F L + m)

theorem Tree.dne {x y : B} (T : Tree B) (h : x ≠ y) : 0 < T.d x y := Int.not_le.mp fun q => h (T.eq _ _ q)

theorem nxt_shared (G : Iso T g g') (Hg : Hyp T g l) (K : Iso T h h') (Hh : Hyp T h m) {F L : B} (A : Along T g l h m F L) (ne : F ≠ L) :
    Ax T h m (nxt T g F) ∧ T.d (nxt T g F) L = T.d F L - 1 := by
  obtain ⟨pos, p0, P⟩ := coord' G Hg A.gF
  have a := nxt_ax G Hg A.gF
  have b := P.nx G Hg A.gF
  have c := (P.fwd G Hg A.gF A.gL).mp A.fw
  have d1 := P.ab A.gF A.gL
  have d2 := P.ab a.1 A.gL
  have d3 := P.ab A.gF a.1
  have dn := T.dne ne
  exact ⟨Ax.convex K Hh A.hF A.hL (by omega), by omega⟩

theorem way_of (G : Iso T g g') (Hg : Hyp T g l) (K : Iso T h h') (Hh : Hyp T h m) {F L : B} (A : Along T g l h m F L) (ne : F ≠ L) :
    (nxt T g F = nxt T h F → WayIs T h m F L 1) ∧ (nxt T g F ≠ nxt T h F → WayIs T h m F L (-1)) := by
  obtain ⟨n1, n2⟩ := nxt_shared G Hg K Hh A ne
  obtain ⟨pos, p0, P⟩ := coord' K Hh A.hF
  have n3 := (nxt_ax G Hg A.gF).2.1
  have c1 := P.nx K Hh A.hF
  have a1 := (nxt_ax K Hh A.hF).1
  have u1 := P.ab A.hF A.hL
  have u2 := P.ab n1 A.hL
  have u3 := P.ab A.hF n1
  have f1 := P.fw L A.hL
  have f2 := P.fw F A.hF
  have u4 := P.ab A.hF (Ax.fwd K A.hL)
  have u5 := P.ab A.hL (Ax.fwd K A.hF)
  have dn := T.dne ne
  have hp := Hh.pos
  constructor
  · intro e
    have q : pos (nxt T g F) = pos (nxt T h F) := by rw [e]
    exact .inr (.inl ⟨ne, rfl, by omega⟩)
  · intro e
    have : pos (nxt T g F) ≠ pos (nxt T h F) := fun q => e (P.eq n1 a1 q)
    exact .inr (.inr ⟨ne, rfl, by omega⟩)

/-! ### there is just one answer -/
theorem Apart.uniq {b o b1 o1 : B} (A : Apart T g l h m b o) (C : Apart T g l h m b1 o1) : b = b1 ∧ o = o1 := by
  have e1 := A.all b1 o1 C.hb C.ho
  have e2 := C.all b o A.hb A.ho
  have n1 := T.nn b1 b
  have n2 := T.nn o o1
  have s1 := T.symm b1 b
  have s2 := T.symm o o1
  exact ⟨T.eq _ _ (by omega), T.eq _ _ (by omega)⟩

theorem Apart.none {b o z : B} (A : Apart T g l h m b o) (h1 : Ax T g l z) (h2 : Ax T h m z) : False := by
  have e := A.all z z h1 h2
  have s := T.self z
  have n1 := T.nn z b
  have n2 := T.nn o z
  have := A.pos
  omega

theorem Along.uniq (G : Iso T g g') (Hg : Hyp T g l) {F L F1 L1 : B} (A : Along T g l h m F L) (C : Along T g l h m F1 L1) : F = F1 ∧ L = L1 := by
  obtain ⟨pos, p0, P⟩ := coord' G Hg A.gF
  have a := (P.fwd G Hg A.gF A.gL).mp A.fw
  have c := (P.fwd G Hg C.gF C.gL).mp C.fw
  have e1 := A.all F1 C.gF C.hF
  have e2 := A.all L1 C.gL C.hL
  have e3 := C.all F A.gF A.hF
  have e4 := C.all L A.gL A.hL
  have u1 := P.ab A.gF C.gF
  have u2 := P.ab A.gF C.gL
  have u3 := P.ab A.gF A.gL
  have u4 := P.ab A.gL C.gF
  have u5 := P.ab A.gL C.gL
  have u6 := P.ab C.gF C.gL
  have s1 := T.symm F1 F
  have s2 := T.symm F1 L
  have s3 := T.symm L1 F
  have s4 := T.symm L1 L
  exact ⟨P.eq A.gF C.gF (by omega), P.eq A.gL C.gL (by omega)⟩

theorem WayIs.uniq (K : Iso T h h') (Hh : Hyp T h m) {F L : B} (hF : Ax T h m F) (hL : Ax T h m L) {w w1 : Int} (a : WayIs T h m F L w) (b : WayIs T h m F L w1) : w = w1 := by
  have s := T.symm F L
  have key : F ≠ L → T.d F (h L) = T.d F L + m → T.d L (h F) = T.d F L + m → False := fun n x y =>
    n (Fw.anti K Hh hF hL x (show T.d L (h F) = T.d L F + m by omega))
  rcases a with ⟨a1, a2⟩ | ⟨a1, a2, a3⟩ | ⟨a1, a2, a3⟩
  · rcases b with ⟨b1, b2⟩ | ⟨b1, b2, b3⟩ | ⟨b1, b2, b3⟩
    · omega
    · exact absurd a1 b1
    · exact absurd a1 b1
  · rcases b with ⟨b1, b2⟩ | ⟨b1, b2, b3⟩ | ⟨b1, b2, b3⟩
    · exact absurd b1 a1
    · omega
    · exact (key a1 a3 b3).elim
  · rcases b with ⟨b1, b2⟩ | ⟨b1, b2, b3⟩ | ⟨b1, b2, b3⟩
    · exact absurd b1 a1
    · exact (key a1 b3 a3).elim
    · omega

theorem WayIs.one {F L : B} {w : Int} (a : WayIs T h m F L w) : w = 0 ∨ w = 1 ∨ w = -1 := by
  rcases a with ⟨a1, a2⟩ | ⟨a1, a2, a3⟩ | ⟨a1, a2, a3⟩ <;> omega

/-! ### the back of h -/
theorem Apart.inv (K : Iso T h h') {b o : B} (A : Apart T g l h m b o) : Apart T g l h' m b o :=
  ⟨A.hb, (Ax.inv K).mpr A.ho, A.pos, fun y z hy hz => A.all y z hy ((Ax.inv K).mp hz)⟩
theorem Along.inv (K : Iso T h h') {F L : B} (A : Along T g l h m F L) : Along T g l h' m F L :=
  ⟨A.gF, (Ax.inv K).mpr A.hF, A.gL, (Ax.inv K).mpr A.hL, fun z hz hz' => A.all z hz ((Ax.inv K).mp hz'), A.fw⟩
theorem WayIs.inv (K : Iso T h h') {F L : B} {w : Int} (a : WayIs T h m F L w) : WayIs T h' m F L (-w) := by
  rcases a with ⟨a1, a2⟩ | ⟨a1, a2, a3⟩ | ⟨a1, a2, a3⟩
  · exact .inl ⟨a1, by omega⟩
  · refine .inr (.inr ⟨a1, by omega, ?_⟩)
    have s := K.swap F L
    have s2 := T.symm (h' F) L
    omega
  · refine .inr (.inl ⟨a1, by omega, ?_⟩)
    have s := K.swap L F
    have s2 := T.symm (h' L) F
    omega
end
end Bt
-- BtProd
/-! BtProd: what products of two stretching isometries stretch by; four sides; conjugates. -/
namespace Bt

/-- n is what u stretches by (0: it does not) -/
structure StrOk {B : Type} (T : Tree B) (u : B → B) (n : Int) : Prop where
  nn : 0 ≤ n
  le : ∀ z, n ≤ T.d z (u z)
  two : ∀ z, 0 < T.d z (u z) → T.d z (u (u z)) = 2 * T.d z (u z) → n = T.d z (u z)
  hyp : 0 < n → Hyp T u n

section
variable {B : Type} {T : Tree B} {g g' h h' u : B → B} {l m n : Int}

theorem StrOk.uniq {v v' : B → B} (V : Iso T v v') {n1 n2 : Int} (a : StrOk T v n1) (b : StrOk T v n2) (o : B) : n1 = n2 := by
  have key : ∀ {n1 n2 : Int}, StrOk T v n1 → StrOk T v n2 → 0 < n1 → n2 = n1 := by
    intro n1 n2 a b p
    have H := a.hyp p
    obtain ⟨z1, _⟩ := gate_ax V H o
    have e := Ax.two H z1
    unfold Ax at z1
    have := b.two (gateT T v n1 o) (by omega) (by omega)
    omega
  have n1p := a.nn
  have n2p := b.nn
  rcases Int.lt_or_le 0 n1 with p | p
  · have := key a b p; omega
  · rcases Int.lt_or_le 0 n2 with q | q
    · have := key b a q; omega
    · omega

theorem Iso.sq {v v' : B → B} (V : Iso T v v') (x y : B) : T.d (v (v x)) (v y) = T.d (v x) y := V.iso _ _

set_option maxHeartbeats 4000000 in
theorem prod_apart (G : Iso T g g') (Hg : Hyp T g l) (K : Iso T h h') (Hh : Hyp T h m) {b o : B} (A : Apart T g l h m b o)
    (U : Iso T u u') (eu : ∀ x, u x = g (h x)) (S : StrOk T u n) : n = l + m + 2 * T.d b o := by
  have hl := Hg.pos
  have hm := Hh.pos
  have D := A.pos
  have ob : T.d o b = T.d b o := T.symm _ _
  have eb : T.d b b = 0 := T.self b
  have eo : T.d o o = 0 := T.self o
  have b1 : T.d b (g b) = l := A.hb
  have o1 : T.d o (h o) = m := A.ho
  have o2 : T.d (h' o) o = m := by
    have e := K.swap o o
    omega
  have b2 : T.d (g' b) b = l := by
    have e := G.swap b b
    omega
  have ph : Ax T h m (h' o) := Ax.bwd K A.ho
  have pg : Ax T g l (g b) := Ax.fwd G A.hb
  have pg' : Ax T g l (g' b) := Ax.bwd G A.hb
  have ph2 : Ax T h m (h o) := Ax.fwd K A.ho
  have c1 := A.all b (h' o) A.hb ph
  have c2 := A.all (g b) o pg A.ho
  have c3 := A.all (g' b) o pg' A.ho
  have c4 := A.all b (h o) A.hb ph2
  have s1 := T.symm b (h' o)
  have s2 := T.symm o (h' o)
  have s3 := T.symm o (g b)
  have s4 := T.symm b (g b)
  have s5 := T.symm (g b) o
  have k1 : T.d (h' o) (g b) = T.d (h' o) o + T.d o b + T.d b (g b) := T.concat (by omega) (by omega) (by omega)
  have e3 : T.d b (g o) = l + T.d b o := by have := G.swap b o; omega
  have e4 : T.d (g b) (g o) = T.d b o := G.iso _ _
  have k2 : T.d (h' o) (g o) = T.d (h' o) b + T.d b (g b) + T.d (g b) (g o) := T.concat (by omega) (by omega) (by omega)
  have k3 : T.d o (g o) = T.d o b + T.d b (g b) + T.d (g b) (g o) := T.concat (by omega) (by omega) (by omega)
  have uz : u (h' o) = g o := by rw [eu, K.r]
  have uo : u o = g (h o) := eu o
  have e5 : T.d (g b) (g (h o)) = T.d b (h o) := G.iso _ _
  have e6 : T.d (g o) (g (h o)) = T.d o (h o) := G.iso _ _
  have k4 : T.d (h' o) (g (h o)) = T.d (h' o) (g b) + T.d (g b) (g o) + T.d (g o) (g (h o)) := T.concat (by omega) (by omega) (by omega)
  have e7 : T.d (g o) (u (g o)) = T.d (h' o) (g o) := by
    have := U.iso (h' o) (g o)
    rw [uz] at this
    exact this
  have e8 : T.d (g (h o)) (u (g o)) = T.d o (g o) := by
    have := U.iso o (g o)
    rw [uo] at this
    exact this
  have k5 : T.d (h' o) (u (g o)) = T.d (h' o) (g o) + T.d (g o) (g (h o)) + T.d (g (h o)) (u (g o)) := T.concat (by omega) (by omega) (by omega)
  have := S.two (h' o) (by rw [uz]; omega) (by rw [uz]; omega)
  rw [uz] at this
  omega

theorem prod_nb (G : Iso T g g') (Hg : Hyp T g l) (K : Iso T h h') (Hh : Hyp T h m) {x : B} (gx : Ax T g l x) (hx : Ax T h m x)
    (n1 : T.d (h' x) (g x) = m + l) (n2 : T.d (g' x) (h x) = l + m)
    (U : Iso T u u') (eu : ∀ x, u x = g (h x)) (S : StrOk T u n) : n = l + m := by
  have hl := Hg.pos
  have hm := Hh.pos
  have b1 : T.d x (g x) = l := gx
  have o1 : T.d x (h x) = m := hx
  have o2 : T.d (h' x) x = m := by have e := K.swap x x; omega
  have uz : u (h' x) = g x := by rw [eu, K.r]
  have ux : u x = g (h x) := eu x
  have e1 : T.d x (g (h x)) = l + m := by have := G.swap x (h x); omega
  have e2 : T.d (g x) (g (h x)) = m := by have := G.iso x (h x); omega
  have k1 : T.d (h' x) (g (h x)) = T.d (h' x) x + T.d x (g x) + T.d (g x) (g (h x)) := T.concat (by omega) (by omega) (by omega)
  have e3 : T.d (g x) (u (g x)) = T.d (h' x) (g x) := by
    have := U.iso (h' x) (g x)
    rw [uz] at this
    exact this
  have e4 : T.d (g (h x)) (u (g x)) = T.d x (g x) := by
    have := U.iso x (g x)
    rw [ux] at this
    exact this
  have k2 : T.d (h' x) (u (g x)) = T.d (h' x) (g x) + T.d (g x) (g (h x)) + T.d (g (h x)) (u (g x)) := T.concat (by omega) (by omega) (by omega)
  have := S.two (h' x) (by rw [uz]; omega) (by rw [uz]; omega)
  rw [uz] at this
  omega

/-- beyond L on g's line: the road to any ball of h's line goes through L; likewise ahead of F -/
theorem Along.tailL (G : Iso T g g') (Hg : Hyp T g l) (K : Iso T h h') (Hh : Hyp T h m) {F L a b : B} (A : Along T g l h m F L)
    (ha : Ax T g l a) (e : T.d F a = T.d F L + T.d L a) (hb : Ax T h m b) : T.d a b = T.d a L + T.d L b := by
  obtain ⟨c, c0, hc⟩ := T.gp L a b
  have s := T.symm a L
  rcases Int.lt_or_le 0 c with p | p
  · exfalso
    obtain ⟨z, z1, z2, z3⟩ := T.branch L a b c c0 hc
    have hz := Ax.convex G Hg A.gL ha (z := z) (by omega)
    have hz' := Ax.convex K Hh A.hL hb (z := z) (by omega)
    have q := A.all z hz hz'
    have t := T.tri F z a
    have s2 := T.symm z L
    omega
  · omega
theorem Along.tailF (G : Iso T g g') (Hg : Hyp T g l) (K : Iso T h h') (Hh : Hyp T h m) {F L a b : B} (A : Along T g l h m F L)
    (ha : Ax T g l a) (e : T.d a L = T.d a F + T.d F L) (hb : Ax T h m b) : T.d a b = T.d a F + T.d F b := by
  obtain ⟨c, c0, hc⟩ := T.gp F a b
  have s := T.symm a F
  rcases Int.lt_or_le 0 c with p | p
  · exfalso
    obtain ⟨z, z1, z2, z3⟩ := T.branch F a b c c0 hc
    have hz := Ax.convex G Hg A.gF ha (z := z) (by omega)
    have hz' := Ax.convex K Hh A.hF hb (z := z) (by omega)
    have q := A.all z hz hz'
    have t := T.tri a z L
    have s2 := T.symm a z
    omega
  · omega
theorem Along.tailLh (G : Iso T g g') (Hg : Hyp T g l) (K : Iso T h h') (Hh : Hyp T h m) {F L a b : B} (A : Along T g l h m F L)
    (ha : Ax T g l a) (hb : Ax T h m b) (e : T.d F b = T.d F L + T.d L b) : T.d a b = T.d a L + T.d L b := by
  obtain ⟨c, c0, hc⟩ := T.gp L b a
  have s := T.symm a L
  have s3 := T.symm a b
  rcases Int.lt_or_le 0 c with p | p
  · exfalso
    obtain ⟨z, z1, z2, z3⟩ := T.branch L b a c c0 hc
    have hz := Ax.convex K Hh A.hL hb (z := z) (by omega)
    have hz' := Ax.convex G Hg A.gL ha (z := z) (by omega)
    have q := A.all z hz' hz
    have t := T.tri F z b
    have s2 := T.symm z L
    omega
  · omega
theorem Along.tailFh (G : Iso T g g') (Hg : Hyp T g l) (K : Iso T h h') (Hh : Hyp T h m) {F L a b : B} (A : Along T g l h m F L)
    (ha : Ax T g l a) (hb : Ax T h m b) (e : T.d b L = T.d b F + T.d F L) : T.d a b = T.d a F + T.d F b := by
  obtain ⟨c, c0, hc⟩ := T.gp F b a
  have s := T.symm a F
  have s3 := T.symm a b
  rcases Int.lt_or_le 0 c with p | p
  · exfalso
    obtain ⟨z, z1, z2, z3⟩ := T.branch F b a c c0 hc
    have hz := Ax.convex K Hh A.hF hb (z := z) (by omega)
    have hz' := Ax.convex G Hg A.gF ha (z := z) (by omega)
    have q := A.all z hz' hz
    have t := T.tri b z L
    have s2 := T.symm b z
    have s4 := T.symm b F
    omega
  · omega

/-- where h's own balls stand from F and L, h leading from F to L -/
theorem way1_pos (K : Iso T h h') (Hh : Hyp T h m) {F L : B} (hF : Ax T h m F) (hL : Ax T h m L) {w : Int} (W : WayIs T h m F L w) (hw : 0 ≤ w) :
    ∃ pos : B → Int, Crd T h m pos ∧ pos F = 0 ∧ pos L = T.d F L := by
  obtain ⟨pos, p0, P⟩ := coord' K Hh hF
  refine ⟨pos, P, p0, ?_⟩
  rcases W with ⟨e, _⟩ | ⟨_, _, e⟩ | ⟨_, e, _⟩
  · rw [← e, p0, T.self]
  · have := (P.fwd K Hh hF hL).mp e
    have u := P.ab hF hL
    omega
  · omega

/-- both products of lines that lie along one another, h leading as g does (or one ball shared) -/
theorem prod_along (G : Iso T g g') (Hg : Hyp T g l) (K : Iso T h h') (Hh : Hyp T h m) {F L : B} (A : Along T g l h m F L) {w : Int}
    (W : WayIs T h m F L w) (hw : 0 ≤ w) (U : Iso T u u') (eu : ∀ x, u x = g (h x)) (S : StrOk T u n) : n = l + m := by
  obtain ⟨pos, P, p0, p1⟩ := way1_pos K Hh A.hF A.hL W hw
  have b1 : T.d F (g F) = l := A.gF
  have o1 : T.d F (h F) = m := A.hF
  have a2 := Ax.bwd K A.hF
  have q1 := P.bw K A.hF
  have u1 := P.ab a2 A.hL
  have u2 := P.ab a2 A.hF
  have hm := Hh.pos
  have nFL := T.nn F L
  have f1 := A.tailFh G Hg K Hh (Ax.fwd G A.gF) a2 (by omega)
  have e2 : T.d (g' F) L = T.d F L + l := by
    have := G.swap F L
    have f : T.d F (g L) = T.d F L + l := A.fw
    omega
  have e3 : T.d (g' F) F = l := by have := G.swap F F; omega
  have f2 := A.tailF G Hg K Hh (Ax.bwd G A.gF) (by omega) (Ax.fwd K A.hF)
  have s1 := T.symm (g F) F
  have s2 := T.symm (g F) (h' F)
  have s3 := T.symm F (h' F)
  exact prod_nb G Hg K Hh A.gF A.hF (by omega) (by omega) U eu S

theorem prod_short (G : Iso T g g') (Hg : Hyp T g l) (K : Iso T h h') (Hh : Hyp T h m) {F L : B} (A : Along T g l h m F L) {w : Int}
    (W : WayIs T h m F L w) (hw : 0 ≤ w) (hs1 : T.d F L < l) (hs2 : T.d F L < m) (U : Iso T u u') (eu : ∀ x, u x = g (h' x)) (S : StrOk T u n) :
    n = l + m - 2 * T.d F L := by
  obtain ⟨pos, P, p0, p1⟩ := way1_pos K Hh A.hF A.hL W hw
  obtain ⟨qos, q0, Q⟩ := coord' G Hg A.gF
  have qL := (Q.fwd G Hg A.gF A.gL).mp A.fw
  have v1 := Q.ab A.gF A.gL
  have hl := Hg.pos
  have hm := Hh.pos
  have nFL := T.nn F L
  -- h's line
  have aF := Ax.fwd K A.hF
  have a2 := P.fw F A.hF
  have u1 := P.ab aF A.hL
  have u2 := P.ab A.hF aF
  have bL := Ax.bwd K A.hL
  have b2 := P.bw K A.hL
  have u3 := P.ab bL A.hF
  -- g's line
  have cF := Ax.fwd G A.gF
  have c2 := Q.fw F A.gF
  have v2 := Q.ab A.gL cF
  have v3 := Q.ab A.gF cF
  have dL := Ax.bwd G A.gL
  have d2 := Q.bw G A.gL
  have v4 := Q.ab dL A.gF
  have v5 := Q.ab dL A.gL
  have k1 := A.tailL G Hg K Hh cF (by omega) aF
  have k2 := A.tailF G Hg K Hh dL (by omega) bL
  have s1 := T.symm (g F) L
  have s2 := T.symm (h F) L
  have s3 := T.symm (g F) (h F)
  have s4 := T.symm (h' L) F
  have uz : u (h F) = g F := by rw [eu, K.l]
  have uL : u L = g (h' L) := eu L
  have e1 : T.d L (g (h' L)) = T.d (g' L) (h' L) := by have := G.swap L (h' L); omega
  have e2 : T.d (g F) (g (h' L)) = T.d F (h' L) := G.iso _ _
  have k3 : T.d (h F) (g (h' L)) = T.d (h F) L + T.d L (g F) + T.d (g F) (g (h' L)) := T.concat (by omega) (by omega) (by omega)
  have e3 : T.d (g F) (u (g F)) = T.d (h F) (g F) := by
    have := U.iso (h F) (g F)
    rw [uz] at this
    exact this
  have e4 : T.d (g (h' L)) (u (g F)) = T.d L (g F) := by
    have := U.iso L (g F)
    rw [uL] at this
    exact this
  have k4 : T.d (h F) (u (g F)) = T.d (h F) (g F) + T.d (g F) (g (h' L)) + T.d (g (h' L)) (u (g F)) := T.concat (by omega) (by omega) (by omega)
  have := S.two (h F) (by rw [uz]; omega) (by rw [uz]; omega)
  rw [uz] at this
  omega

theorem long_near (G : Iso T g g') (Hg : Hyp T g l) (K : Iso T h h') (Hh : Hyp T h m) {F L : B} (A : Along T g l h m F L) {w : Int}
    (W : WayIs T h m F L w) (hw : 0 ≤ w) (hs : ¬ (T.d F L < l ∧ T.d F L < m)) : T.d (h F) (g F) = l - m ∨ T.d (h F) (g F) = m - l := by
  obtain ⟨pos, P, p0, p1⟩ := way1_pos K Hh A.hF A.hL W hw
  obtain ⟨qos, q0, Q⟩ := coord' G Hg A.gF
  have qL := (Q.fwd G Hg A.gF A.gL).mp A.fw
  have v1 := Q.ab A.gF A.gL
  have hl := Hg.pos
  have hm := Hh.pos
  have nFL := T.nn F L
  have aF := Ax.fwd K A.hF
  have a2 := P.fw F A.hF
  have u1 := P.ab aF A.hL
  have u2 := P.ab A.hF aF
  have cF := Ax.fwd G A.gF
  have c2 := Q.fw F A.gF
  have v2 := Q.ab cF A.gL
  have v3 := Q.ab A.gF cF
  have s := T.symm (h F) (g F)
  by_cases q : m ≤ T.d F L
  · have i : Ax T g l (h F) := Ax.convex G Hg A.gF A.gL (by omega)
    have w1 := Q.ab A.gF i
    have w2 := Q.ab i A.gL
    have w3 := Q.ab i cF
    omega
  · have i : Ax T h m (g F) := Ax.convex K Hh A.hF A.hL (by omega)
    have w1 := P.ab A.hF i
    have w2 := P.ab i A.hL
    have w3 := P.ab i aF
    omega

theorem prod_long (G : Iso T g g') (Hg : Hyp T g l) (K : Iso T h h') (Hh : Hyp T h m) {F L : B} (A : Along T g l h m F L) {w : Int}
    (W : WayIs T h m F L w) (hw : 0 ≤ w) (hs : ¬ (T.d F L < l ∧ T.d F L < m)) (eu : ∀ x, u x = g (h' x)) (S : StrOk T u n) : n ≤ l - m ∨ n ≤ m - l := by
  have k := long_near G Hg K Hh A W hw hs
  have e := S.le (h F)
  rw [eu, K.l] at e
  omega
end

/-! ### four sides -/
section
variable {B : Type} {T : Tree B} {g g' h h' : B → B} {l m : Int}
/-- the sides of g at x: (x, the ball behind), (the ball ahead of where x is led, where it is led) -/
structure Sds (T : Tree B) (g : B → B) (l : Int) (x v0 u1 v1 : B) : Prop where
  ax : Ax T g l x
  a0 : Ax T g l v0
  a1 : Ax T g l u1
  a2 : Ax T g l v1
  d0 : T.d x v0 = 1
  b0 : Fw T g l v0 x
  d1 : T.d x u1 = l - 1
  f1 : Fw T g l x u1
  e2 : v1 = g x
theorem sds_of (G : Iso T g g') (Hg : Hyp T g l) {x u1 : B} (ax : Ax T g l x) (a1 : Ax T g l u1) (d1 : T.d x u1 = l - 1) (f1 : Fw T g l x u1) :
    Sds T g l x (nxt T g' x) u1 (g x) := by
  obtain ⟨pos, p0, P⟩ := coord' G Hg ax
  obtain ⟨a, b⟩ := P.pv G Hg ax
  have u := P.ab ax b
  refine ⟨ax, b, a1, Ax.fwd G ax, by omega, (P.fwd G Hg b ax).mpr (by omega), d1, f1, rfl⟩

/-- each ball of the other line is nearer to the first ball of the side -/
def Out (T : Tree B) (h : B → B) (m : Int) (u v : B) : Prop := ∀ w, Ax T h m w → T.d u w < T.d v w

theorem Sds.pos (G : Iso T g g') (Hg : Hyp T g l) {x v0 u1 v1 : B} (S : Sds T g l x v0 u1 v1) {pos : B → Int} (P : Crd T g l pos) :
    pos v0 = pos x - 1 ∧ pos u1 = pos x + l - 1 ∧ pos v1 = pos x + l := by
  have h1 := (P.fwd G Hg S.a0 S.ax).mp S.b0
  have h2 := (P.fwd G Hg S.ax S.a1).mp S.f1
  have h3 := P.fw x S.ax
  have e1 := P.ab S.ax S.a0
  have e2 := P.ab S.ax S.a1
  have d0 := S.d0
  have d1 := S.d1
  rw [← S.e2] at h3
  omega

theorem out_apart (G : Iso T g g') (Hg : Hyp T g l) (K : Iso T h h') (Hh : Hyp T h m) {b o v0 u1 v1 : B} (A : Apart T g l h m b o)
    (S : Sds T g l b v0 u1 v1) : Out T h m b v0 ∧ Out T h m u1 v1 := by
  obtain ⟨pos, p0, P⟩ := coord' G Hg A.hb
  obtain ⟨e1, e2, e3⟩ := S.pos G Hg P
  have hl := Hg.pos
  have q0 := P.ab A.hb S.a0
  have q1 := P.ab A.hb S.a1
  have q2 := P.ab A.hb S.a2
  have s0 := T.symm v0 b
  have s1 := T.symm u1 b
  have s2 := T.symm v1 b
  have e := T.self b
  constructor
  · intro w hw
    have a := A.all b w A.hb hw
    have c := A.all v0 w S.a0 hw
    omega
  · intro w hw
    have a := A.all u1 w S.a1 hw
    have c := A.all v1 w S.a2 hw
    omega

theorem Apart.symm {b o : B} (A : Apart T g l h m b o) : Apart T h m g l o b :=
  ⟨A.ho, A.hb, by rw [T.symm]; exact A.pos, fun y z hy hz => by
    have e := A.all z y hz hy
    have s1 := T.symm y z
    have s2 := T.symm y o
    have s3 := T.symm b z
    have s4 := T.symm o b
    omega⟩

theorem out_along (G : Iso T g g') (Hg : Hyp T g l) (K : Iso T h h') (Hh : Hyp T h m) {F L v0 u1 v1 : B} (A : Along T g l h m F L)
    (hs : T.d F L < l) (S : Sds T g l F v0 u1 v1) : Out T h m F v0 ∧ Out T h m u1 v1 := by
  obtain ⟨pos, p0, P⟩ := coord' G Hg A.gF
  obtain ⟨e1, e2, e3⟩ := S.pos G Hg P
  have hl := Hg.pos
  have pL := (P.fwd G Hg A.gF A.gL).mp A.fw
  have c1 := P.ab A.gF A.gL
  have q0 := P.ab S.a0 A.gF
  have q0' := P.ab S.a0 A.gL
  have q1 := P.ab A.gF S.a1
  have q1' := P.ab A.gL S.a1
  have q2 := P.ab A.gF S.a2
  have q2' := P.ab A.gL S.a2
  have s1 := T.symm u1 L
  have s2 := T.symm v1 L
  constructor
  · intro w hw
    have t := A.tailF G Hg K Hh S.a0 (by omega) hw
    omega
  · intro w hw
    have t := A.tailL G Hg K Hh S.a1 (by omega) hw
    have t2 := A.tailL G Hg K Hh S.a2 (by omega) hw
    omega

/-- h's sides: at F if h leads onward, at L if it leads back -/
theorem out_alongH (G : Iso T g g') (Hg : Hyp T g l) (K : Iso T h h') (Hh : Hyp T h m) {F L y v0 u1 v1 : B} (A : Along T g l h m F L) {w : Int}
    (W : WayIs T h m F L w) (hy : y = if w = -1 then L else F)
    (hs : T.d F L < m) (S : Sds T h m y v0 u1 v1) : Out T g l y v0 ∧ Out T g l u1 v1 := by
  have hm := Hh.pos
  have nFL := T.nn F L
  by_cases hw : w = -1
  · rw [if_pos hw] at hy
    subst hy
    obtain ⟨pos, p0, P⟩ := coord' K Hh A.hL
    obtain ⟨e1, e2, e3⟩ := S.pos K Hh P
    have pF : pos F = T.d F y := by
      rcases W with ⟨_, e⟩ | ⟨_, e, _⟩ | ⟨_, _, e⟩
      · omega
      · omega
      · have s := T.symm F y
        have := (P.fwd K Hh A.hL A.hF).mp (show T.d y (h F) = T.d y F + m by omega)
        have u := P.ab A.hL A.hF
        omega
    have c1 := P.ab A.hF A.hL
    have q0 := P.ab A.hL S.a0
    have q0' := P.ab A.hF S.a0
    have q1 := P.ab S.a1 A.hF
    have q1' := P.ab S.a1 A.hL
    have q2 := P.ab S.a2 A.hF
    have q2' := P.ab S.a2 A.hL
    constructor
    · intro z hz
      have t := A.tailLh G Hg K Hh hz S.a0 (by omega)
      have s := T.symm z y
      have s2 := T.symm z v0
      omega
    · intro z hz
      have t := A.tailFh G Hg K Hh hz S.a1 (by omega)
      have t2 := A.tailFh G Hg K Hh hz S.a2 (by omega)
      have s := T.symm z u1
      have s2 := T.symm z v1
      have s3 := T.symm F u1
      have s4 := T.symm F v1
      omega
  · rw [if_neg hw] at hy
    subst hy
    have hw0 : 0 ≤ w := by have := W.one; omega
    obtain ⟨pos, P, p0, p1⟩ := way1_pos K Hh A.hF A.hL W hw0
    obtain ⟨e1, e2, e3⟩ := S.pos K Hh P
    have c1 := P.ab A.hF A.hL
    have q0 := P.ab A.hF S.a0
    have q0' := P.ab A.hL S.a0
    have q1 := P.ab A.hF S.a1
    have q1' := P.ab A.hL S.a1
    have q2 := P.ab A.hF S.a2
    have q2' := P.ab A.hL S.a2
    constructor
    · intro z hz
      have s3 := T.symm v0 L
      have s4 := T.symm v0 y
      have t := A.tailFh G Hg K Hh hz S.a0 (by omega)
      have s := T.symm z y
      have s2 := T.symm z v0
      omega
    · intro z hz
      have t := A.tailLh G Hg K Hh hz S.a1 (by omega)
      have t2 := A.tailLh G Hg K Hh hz S.a2 (by omega)
      have s := T.symm z u1
      have s2 := T.symm z v1
      omega

/-- a side's balls are those nearer to its second ball -/
def onS (T : Tree B) (s : B × B) (x : B) : Prop := T.d s.2 x < T.d s.1 x
def apS (T : Tree B) (s r : B × B) : Prop := ¬ onS T s r.2 ∧ ¬ onS T r s.2

/-- two of one move's sides are apart -/
theorem Sds.ap (G : Iso T g g') (Hg : Hyp T g l) {x v0 u1 v1 : B} (S : Sds T g l x v0 u1 v1) : apS T (x, v0) (u1, v1) := by
  obtain ⟨pos, p0, P⟩ := coord' G Hg S.ax
  obtain ⟨e1, e2, e3⟩ := S.pos G Hg P
  have hl := Hg.pos
  have q1 := P.ab S.a0 S.a2
  have q2 := P.ab S.ax S.a2
  have q3 := P.ab S.a2 S.a0
  have q4 := P.ab S.a1 S.a0
  constructor
  · show ¬ (T.d v0 v1 < T.d x v1)
    omega
  · show ¬ (T.d v1 v0 < T.d u1 v0)
    omega

theorem Out.ap {u v u' v' : B} (a : Out T h m u v) (b : Out T g l u' v') (hv' : Ax T h m v') (hv : Ax T g l v) : apS T (u, v) (u', v') := by
  have e1 := a v' hv'
  have e2 := b v hv
  constructor
  · show ¬ (T.d v v' < T.d u v')
    omega
  · show ¬ (T.d v' v < T.d u' v)
    omega

/-- g leads all that is not on the first side to the second side -/
theorem Sds.leads (G : Iso T g g') (Hg : Hyp T g l) {x v0 u1 v1 : B} (S : Sds T g l x v0 u1 v1) : apS T (g v0, g x) (v1, u1) := by
  obtain ⟨pos, p0, P⟩ := coord' G Hg S.ax
  obtain ⟨e1, e2, e3⟩ := S.pos G Hg P
  have e4 := P.fw v0 S.a0
  have e5 := P.fw x S.ax
  have q1 := P.ab (Ax.fwd G S.ax) S.a1
  have q2 := P.ab (Ax.fwd G S.a0) S.a1
  have q3 := P.ab S.a1 (Ax.fwd G S.ax)
  have q4 := P.ab S.a2 (Ax.fwd G S.ax)
  constructor
  · show ¬ (T.d (g x) u1 < T.d (g v0) u1)
    omega
  · show ¬ (T.d u1 (g x) < T.d v1 (g x))
    omega
end

/-! ### conjugates -/
section
variable {B : Type} {T : Tree B} {g g' h h' t t' g1 g1' h1 h1' : B → B} {l m : Int}
/-- g1 is g led along by t -/
def Cj (t g g1 : B → B) : Prop := ∀ x, g1 (t x) = t (g x)

theorem Cj.ax (I : Iso T t t') (c : Cj t g g1) (x : B) : Ax T g1 l (t x) ↔ Ax T g l x := by
  unfold Ax
  rw [c, I.iso]
theorem Cj.ax' (I : Iso T t t') (c : Cj t g g1) (x : B) : Ax T g1 l x ↔ Ax T g l (t' x) := by
  rw [← Cj.ax I c, I.r]
theorem Cj.str (I : Iso T t t') (c : Cj t g g1) {n : Int} (S : StrOk T g n) : StrOk T g1 n := by
  have e1 : ∀ z, T.d z (g1 z) = T.d (t' z) (g (t' z)) := fun z => by
    have := c (t' z)
    rw [I.r] at this
    rw [this, ← I.iso (t' z), I.r]
  have e2 : ∀ z, T.d z (g1 (g1 z)) = T.d (t' z) (g (g (t' z))) := fun z => by
    have a := c (t' z)
    rw [I.r] at a
    rw [a, c, ← I.iso (t' z), I.r]
  refine ⟨S.nn, fun z => ?_, fun z => ?_, fun p => ⟨p, fun z => ?_⟩⟩
  · rw [e1]; exact S.le _
  · rw [e1, e2]; exact S.two _
  · rw [e1, e2]; exact (S.hyp p).disp _
theorem Cj.hyp (I : Iso T t t') (c : Cj t g g1) (H : Hyp T g l) : Hyp T g1 l := by
  have e1 : ∀ z, T.d z (g1 z) = T.d (t' z) (g (t' z)) := fun z => by
    have := c (t' z)
    rw [I.r] at this
    rw [this, ← I.iso (t' z), I.r]
  have e2 : ∀ z, T.d z (g1 (g1 z)) = T.d (t' z) (g (g (t' z))) := fun z => by
    have a := c (t' z)
    rw [I.r] at a
    rw [a, c, ← I.iso (t' z), I.r]
  refine ⟨H.pos, fun z => ?_⟩
  rw [e1, e2]; exact H.disp _
theorem Cj.apart (I : Iso T t t') (c : Cj t g g1) (e : Cj t h h1) {b o : B} (A : Apart T g l h m b o) : Apart T g1 l h1 m (t b) (t o) := by
  refine ⟨(Cj.ax I c b).mpr A.hb, (Cj.ax I e o).mpr A.ho, by rw [I.iso]; exact A.pos, fun y z hy hz => ?_⟩
  have q := A.all (t' y) (t' z) ((Cj.ax' I c y).mp hy) ((Cj.ax' I e z).mp hz)
  rw [I.iso, ← I.swap, ← I.back.iso]
  rw [I.back.iso] at q
  have s1 := I.swap y b
  have s2 := I.swap z o
  have s3 := T.symm (t' z) o
  have s4 := T.symm z (t o)
  have s5 := I.back.iso y z
  omega
theorem Cj.along (I : Iso T t t') (c : Cj t g g1) (e : Cj t h h1) {F L : B} (A : Along T g l h m F L) : Along T g1 l h1 m (t F) (t L) := by
  refine ⟨(Cj.ax I c F).mpr A.gF, (Cj.ax I e F).mpr A.hF, (Cj.ax I c L).mpr A.gL, (Cj.ax I e L).mpr A.hL, fun z hz hz' => ?_, ?_⟩
  · have q := A.all (t' z) ((Cj.ax' I c z).mp hz) ((Cj.ax' I e z).mp hz')
    have s1 := I.swap z L
    have s2 := I.swap z F
    have s3 := T.symm (t' z) F
    have s4 := T.symm z (t F)
    have s5 := I.iso F L
    omega
  · unfold Fw
    rw [c, I.iso, I.iso]
    exact A.fw
theorem Cj.way (I : Iso T t t') (e : Cj t h h1) {F L : B} {w : Int} (W : WayIs T h m F L w) : WayIs T h1 m (t F) (t L) w := by
  have inj : t F = t L → F = L := fun q => by rw [← I.l F, q, I.l]
  rcases W with ⟨a, b⟩ | ⟨a, b, d⟩ | ⟨a, b, d⟩
  · exact .inl ⟨by rw [a], b⟩
  · exact .inr (.inl ⟨fun q => a (inj q), b, by rw [e, I.iso, I.iso]; exact d⟩)
  · exact .inr (.inr ⟨fun q => a (inj q), b, by rw [e, I.iso, I.iso]; exact d⟩)
end
end Bt
-- BtVal
/-! BtVal: how often a prime divides a fraction. Plain Lean. -/
namespace Bt

structure IsPr (p : Int) : Prop where
  one : 1 < p
  pr : ∀ a b : Int, p ∣ a * b → p ∣ a ∨ p ∣ b

theorem isPr_of (p : Int) (h : p = 2 ∨ p = 3 ∨ p = 5 ∨ p = 7) : IsPr p := by
  have key : ∀ p : Int, 0 < p → (∀ i : Fin p.toNat, ∀ j : Fin p.toNat, ((i.val * j.val : Nat) : Int) % p = 0 → i.val = 0 ∨ j.val = 0) → ∀ a b : Int, p ∣ a * b → p ∣ a ∨ p ∣ b := by
    intro p hp k a b d
    have ha := Int.emod_nonneg a (show p ≠ 0 by omega)
    have hb := Int.emod_nonneg b (show p ≠ 0 by omega)
    have ha2 := Int.emod_lt_of_pos a hp
    have hb2 := Int.emod_lt_of_pos b hp
    have e : (a * b) % p = 0 := Int.emod_eq_zero_of_dvd d
    have := k ⟨(a % p).toNat, by omega⟩ ⟨(b % p).toNat, by omega⟩ (by
      rw [Int.mul_emod] at e
      rw [Int.natCast_mul, Int.toNat_of_nonneg ha, Int.toNat_of_nonneg hb]
      exact e)
    rcases this with q | q
    · exact .inl (Int.dvd_of_emod_eq_zero (by simp at q; omega))
    · exact .inr (Int.dvd_of_emod_eq_zero (by simp at q; omega))
  rcases h with rfl | rfl | rfl | rfl
  · exact ⟨by decide, key 2 (by decide) (by decide)⟩
  · exact ⟨by decide, key 3 (by decide) (by decide)⟩
  · exact ⟨by decide, key 5 (by decide) (by decide)⟩
  · exact ⟨by decide, key 7 (by decide) (by decide)⟩

/-- p ^ k as a fraction -/
def Pw (p k : Int) : Rat := (p : Rat) ^ k

section
variable {p : Int} (hp : IsPr p)
include hp
theorem IsPr.ne0 : (p : Rat) ≠ 0 := by
  have := hp.one
  intro e
  have := Rat.intCast_eq_zero_iff.mp e
  omega
theorem pw_add (j k : Int) : Pw p (j + k) = Pw p j * Pw p k := Rat.zpow_add hp.ne0 j k
theorem pw_ne (k : Int) : Pw p k ≠ 0 := fun e => by
  have h := pw_add hp k (-k)
  rw [e, Rat.zero_mul, show k + -k = 0 by omega] at h
  have h1 : Pw p 0 = 1 := Rat.zpow_zero _
  rw [h1] at h
  exact absurd h (by decide)
theorem pw_pos (k : Int) : 0 < Pw p k := Rat.zpow_pos (by
  have := hp.one
  exact Rat.intCast_pos.mpr (by omega))
end
theorem pw_zero {p : Int} : Pw p 0 = 1 := Rat.zpow_zero _
theorem pw_one {p : Int} : Pw p 1 = p := Rat.zpow_one _
theorem pw_nat {p : Int} (n : Nat) : Pw p n = ((p ^ n : Int) : Rat) := by
  rw [Rat.intCast_pow]; exact Rat.zpow_natCast _ n
theorem pw_nonneg {p k : Int} (h : 0 ≤ k) : Pw p k = ((p ^ k.toNat : Int) : Rat) := by
  rw [← pw_nat]
  congr 1
  omega

/-- x has at least k parts -/
def Ge (p k : Int) (x : Rat) : Prop := ∃ u w : Int, ¬ p ∣ w ∧ x * w = Pw p k * u
/-- x has just k parts -/
def Vx (p k : Int) (x : Rat) : Prop := ∃ u w : Int, ¬ p ∣ u ∧ ¬ p ∣ w ∧ x * w = Pw p k * u

section
variable {p : Int} (hp : IsPr p)

theorem ge_zero (hp : IsPr p) (k : Int) : Ge p k 0 := ⟨0, 1, fun h => by have := Int.le_of_dvd (by decide) h; have := hp.one; omega, by grind⟩
theorem ndvd_mul (hp : IsPr p) {a b : Int} (ha : ¬ p ∣ a) (hb : ¬ p ∣ b) : ¬ p ∣ a * b := fun h => (hp.pr a b h).elim ha hb
theorem ge_add (hp : IsPr p) {k : Int} {x y : Rat} (hx : Ge p k x) (hy : Ge p k y) : Ge p k (x + y) := by
  obtain ⟨u, w, hw, e⟩ := hx
  obtain ⟨u', w', hw', e'⟩ := hy
  refine ⟨u * w' + u' * w, w * w', ndvd_mul hp hw hw', ?_⟩
  simp only [Rat.intCast_mul, Rat.intCast_add]
  grind
theorem ge_neg {k : Int} {x : Rat} (hx : Ge p k x) : Ge p k (-x) := by
  obtain ⟨u, w, hw, e⟩ := hx
  exact ⟨-u, w, hw, by rw [Rat.intCast_neg]; grind⟩
theorem ge_sub (hp : IsPr p) {k : Int} {x y : Rat} (hx : Ge p k x) (hy : Ge p k y) : Ge p k (x - y) := by
  rw [Rat.sub_eq_add_neg]; exact ge_add hp hx (ge_neg hy)
theorem ge_mul (hp : IsPr p) {j k : Int} {x y : Rat} (hx : Ge p j x) (hy : Ge p k y) : Ge p (j + k) (x * y) := by
  obtain ⟨u, w, hw, e⟩ := hx
  obtain ⟨u', w', hw', e'⟩ := hy
  refine ⟨u * u', w * w', ndvd_mul hp hw hw', ?_⟩
  rw [pw_add hp]
  simp only [Rat.intCast_mul]
  grind
theorem ge_mono (hp : IsPr p) {j k : Int} {x : Rat} (hx : Ge p k x) (h : j ≤ k) : Ge p j x := by
  obtain ⟨u, w, hw, e⟩ := hx
  refine ⟨p ^ (k - j).toNat * u, w, hw, ?_⟩
  rw [Rat.intCast_mul, ← pw_nonneg (p := p) (k := k - j) (by omega), e, ← Rat.mul_assoc, ← pw_add hp]
  congr 2
  omega
theorem ndvd_one (hp : IsPr p) : ¬ p ∣ 1 := fun h => by have := Int.le_of_dvd (by decide) h; have := hp.one; omega
theorem ge_int (hp : IsPr p) (n : Int) : Ge p 0 (n : Rat) := ⟨n, 1, ndvd_one hp, by rw [pw_zero]; grind⟩
theorem vx_ge {k : Int} {x : Rat} (h : Vx p k x) : Ge p k x := by
  obtain ⟨u, w, _, hw, e⟩ := h
  exact ⟨u, w, hw, e⟩
theorem vx_not (hp : IsPr p) {k : Int} {x : Rat} (h : Vx p k x) : ¬ Ge p (k + 1) x := by
  rintro ⟨u', w', hw', e'⟩
  obtain ⟨u, w, hu, hw, e⟩ := h
  rw [pw_add hp, pw_one] at e'
  have q : ((u * w' : Int) : Rat) = ((p * (u' * w) : Int) : Rat) := by
    simp only [Rat.intCast_mul]
    have n := pw_ne hp k
    have : Pw p k * ((u : Rat) * w') = Pw p k * ((p : Rat) * (u' * w)) := by grind
    grind
  have q' := Rat.intCast_inj.mp q
  exact ndvd_mul hp hu hw' ⟨_, q'⟩
theorem vx_pw (hp : IsPr p) (k : Int) : Vx p k (Pw p k) := ⟨1, 1, ndvd_one hp, ndvd_one hp, rfl⟩
theorem vx_mul (hp : IsPr p) {j k : Int} {x y : Rat} (hx : Vx p j x) (hy : Vx p k y) : Vx p (j + k) (x * y) := by
  obtain ⟨u, w, hu, hw, e⟩ := hx
  obtain ⟨u', w', hu', hw', e'⟩ := hy
  refine ⟨u * u', w * w', ndvd_mul hp hu hu', ndvd_mul hp hw hw', ?_⟩
  rw [pw_add hp]
  simp only [Rat.intCast_mul]
  grind
theorem vx_ne (hp : IsPr p) {k : Int} {x : Rat} (h : Vx p k x) : x ≠ 0 := by
  obtain ⟨u, w, hu, hw, e⟩ := h
  intro z
  subst z
  rw [Rat.zero_mul] at e
  rcases Rat.mul_eq_zero.mp e.symm with q | q
  · exact pw_ne hp k q
  · exact hu (by rw [Rat.intCast_eq_zero_iff.mp q]; exact Int.dvd_zero p)
theorem vx_neg {k : Int} {x : Rat} (h : Vx p k x) : Vx p k (-x) := by
  obtain ⟨u, w, hu, hw, e⟩ := h
  exact ⟨-u, w, fun d => hu (Int.dvd_neg.mp d), hw, by rw [Rat.intCast_neg]; grind⟩
theorem vx_inv (hp : IsPr p) {k : Int} {x : Rat} (h : Vx p k x) : Vx p (-k) x⁻¹ := by
  have n := vx_ne hp h
  obtain ⟨u, w, hu, hw, e⟩ := h
  refine ⟨w, u, hw, hu, ?_⟩
  have z : Pw p (-k) * Pw p k = 1 := by
    rw [← pw_add hp, show -k + k = 0 by omega, pw_zero]
  have n1 : x * x⁻¹ = 1 := Rat.mul_inv_cancel x n
  grind

/-- an integer other than 0 is a power of p times one that p does not divide -/
theorem int_split (hp : IsPr p) : ∀ (k : Nat) (n : Int), n ≠ 0 → n.natAbs ≤ k → ∃ (a : Nat) (u : Int), n = p ^ a * u ∧ ¬ p ∣ u
  | 0, n, h, hk => absurd (Int.natAbs_eq_zero.mp (Nat.le_zero.mp hk)) h
  | k + 1, n, h, hk => by
    by_cases d : p ∣ n
    · obtain ⟨c, e⟩ := d
      have h1 := hp.one
      have hc : c ≠ 0 := fun z => h (by rw [e, z, Int.mul_zero])
      have hlt : c.natAbs < n.natAbs := by
        rw [e, Int.natAbs_mul]
        have h2 : 2 ≤ p.natAbs := by omega
        have h3 : 0 < c.natAbs := Int.natAbs_pos.mpr hc
        calc c.natAbs < 2 * c.natAbs := by omega
          _ ≤ p.natAbs * c.natAbs := Nat.mul_le_mul_right _ h2
      obtain ⟨a, u, e1, hu⟩ := int_split hp k c hc (by omega)
      exact ⟨a + 1, u, by rw [e, e1, Int.pow_succ]; grind, hu⟩
    · exact ⟨0, n, by simp, d⟩

theorem vx_int (hp : IsPr p) {a : Nat} {u : Int} (hu : ¬ p ∣ u) : Vx p a ((p ^ a * u : Int) : Rat) :=
  ⟨u, 1, hu, ndvd_one hp, by rw [pw_nat, Rat.intCast_mul]; grind⟩

theorem vx_ex (hp : IsPr p) {x : Rat} (h : x ≠ 0) : ∃ k, Vx p k x := by
  have hn : x.num ≠ 0 := fun e => h (Rat.num_eq_zero.mp e)
  have hd : (x.den : Int) ≠ 0 := by
    have := x.den_nz
    omega
  obtain ⟨a, u, e1, hu⟩ := int_split hp _ x.num hn (Nat.le_refl _)
  obtain ⟨b, w, e2, hw⟩ := int_split hp _ (x.den : Int) hd (Nat.le_refl _)
  have v1 := vx_int hp (a := a) hu
  have v2 := vx_int hp (a := b) hw
  rw [← e1] at v1
  rw [← e2] at v2
  have v := vx_mul hp v1 (vx_inv hp v2)
  have e : (x.num : Rat) * ((x.den : Int) : Rat)⁻¹ = x := by
    rw [← Rat.div_def, ← Rat.divInt_eq_div, Rat.num_divInt_den]
  rw [e] at v
  exact ⟨_, v⟩

theorem vx_uniq (hp : IsPr p) {j k : Int} {x : Rat} (a : Vx p j x) (b : Vx p k x) : j = k := by
  rcases Int.lt_trichotomy j k with h | h | h
  · exact absurd (ge_mono hp (vx_ge b) (show j + 1 ≤ k by omega)) (vx_not hp a)
  · exact h
  · exact absurd (ge_mono hp (vx_ge a) (show k + 1 ≤ j by omega)) (vx_not hp b)

/-- how often p divides x (0 for 0) -/
noncomputable def vl (p : Int) (x : Rat) : Int := open Classical in if h : ∃ k, Vx p k x then h.choose else 0
theorem vl_of (hp : IsPr p) {k : Int} {x : Rat} (h : Vx p k x) : vl p x = k := by
  unfold vl
  rw [dif_pos ⟨k, h⟩]
  exact vx_uniq hp (Exists.choose_spec (⟨k, h⟩ : ∃ k, Vx p k x)) h
theorem vl_vx (hp : IsPr p) {x : Rat} (h : x ≠ 0) : Vx p (vl p x) x := by
  obtain ⟨k, hk⟩ := vx_ex hp h
  rw [vl_of hp hk]; exact hk
theorem vl_zero (hp : IsPr p) : vl p 0 = 0 := by
  unfold vl
  rw [dif_neg]
  rintro ⟨k, h⟩
  exact vx_ne hp h rfl
theorem ge_iff (hp : IsPr p) {x : Rat} (h : x ≠ 0) (k : Int) : Ge p k x ↔ k ≤ vl p x := by
  have v := vl_vx hp h
  constructor
  · intro g
    refine Int.not_lt.mp fun q => vx_not hp v (ge_mono hp g (by omega))
  · intro q
    exact ge_mono hp (vx_ge v) q
theorem vl_mul (hp : IsPr p) {x y : Rat} (hx : x ≠ 0) (hy : y ≠ 0) : vl p (x * y) = vl p x + vl p y := vl_of hp (vx_mul hp (vl_vx hp hx) (vl_vx hp hy))
theorem vl_pw (hp : IsPr p) (k : Int) : vl p (Pw p k) = k := vl_of hp (vx_pw hp k)
theorem vl_neg (hp : IsPr p) {x : Rat} (hx : x ≠ 0) : vl p (-x) = vl p x := vl_of hp (vx_neg (vl_vx hp hx))
theorem vl_inv (hp : IsPr p) {x : Rat} (hx : x ≠ 0) : vl p x⁻¹ = - vl p x := vl_of hp (vx_inv hp (vl_vx hp hx))
theorem vx_of_ge (hp : IsPr p) {k : Int} {x : Rat} (a : Ge p k x) (b : ¬ Ge p (k + 1) x) : Vx p k x := by
  have h : x ≠ 0 := fun e => b (by rw [e]; exact ge_zero hp _)
  have c := (ge_iff hp h k).mp a
  have d : ¬ (k + 1 ≤ vl p x) := fun q => b ((ge_iff hp h _).mpr q)
  have e : vl p x = k := by omega
  rw [← e]; exact vl_vx hp h
theorem vl_intNonneg (hp : IsPr p) (n : Int) : 0 ≤ vl p (n : Rat) := by
  by_cases h : (n : Rat) = 0
  · rw [h, vl_zero hp]; decide
  · exact (ge_iff hp h 0).mp (ge_int hp n)
theorem ge_div (hp : IsPr p) {j k : Int} {x y : Rat} (hx : Ge p j x) (hy : Vx p k y) : Ge p (j - k) (x * y⁻¹) := by
  rw [Int.sub_eq_add_neg]
  exact ge_mul hp hx (vx_ge (vx_inv hp hy))
/-- Ge told by a power of p -/
theorem ge_shift (hp : IsPr p) {j k : Int} {x : Rat} : Ge p (j + k) (Pw p k * x) ↔ Ge p j x := by
  constructor
  · intro h
    have e := ge_mul hp h (vx_ge (vx_pw hp (-k)))
    rw [show j + k + -k = j by omega, show Pw p k * x * Pw p (-k) = (Pw p k * Pw p (-k)) * x by grind, ← pw_add hp, show k + -k = 0 by omega, pw_zero, Rat.one_mul] at e
    exact e
  · intro h
    rw [Int.add_comm]
    exact ge_mul hp (vx_ge (vx_pw hp k)) h
end
end Bt
-- BtMat
/-! BtMat: tables of fractions, their least parts. -/
namespace Bt

structure Mt where
  a : Rat
  b : Rat
  c : Rat
  d : Rat

namespace Mt
@[ext] theorem ext' {M N : Mt} (h1 : M.a = N.a) (h2 : M.b = N.b) (h3 : M.c = N.c) (h4 : M.d = N.d) : M = N := by
  cases M; cases N; simp_all
def mul (M N : Mt) : Mt := ⟨M.a * N.a + M.b * N.c, M.a * N.b + M.b * N.d, M.c * N.a + M.d * N.c, M.c * N.b + M.d * N.d⟩
def det (M : Mt) : Rat := M.a * M.d - M.b * M.c
def adj (M : Mt) : Mt := ⟨M.d, -M.b, -M.c, M.a⟩
def tr (M : Mt) : Rat := M.a + M.d
def sm (k : Rat) (M : Mt) : Mt := ⟨k * M.a, k * M.b, k * M.c, k * M.d⟩
def one : Mt := ⟨1, 0, 0, 1⟩
def sub (M N : Mt) : Mt := ⟨M.a - N.a, M.b - N.b, M.c - N.c, M.d - N.d⟩
theorem mul_assoc (M N L : Mt) : mul (mul M N) L = mul M (mul N L) := by
  apply ext' <;> simp only [mul] <;> grind
theorem det_mul (M N : Mt) : det (mul M N) = det M * det N := by simp only [det, mul]; grind
theorem mul_adj (M : Mt) : mul M (adj M) = sm (det M) one := by apply ext' <;> simp only [mul, adj, sm, one, det] <;> grind
theorem adj_mul (M : Mt) : mul (adj M) M = sm (det M) one := by apply ext' <;> simp only [mul, adj, sm, one, det] <;> grind
theorem one_mul (M : Mt) : mul one M = M := by apply ext' <;> simp only [mul, one] <;> grind
theorem mul_one (M : Mt) : mul M one = M := by apply ext' <;> simp only [mul, one] <;> grind
theorem sm_mul (k : Rat) (M N : Mt) : mul (sm k M) N = sm k (mul M N) := by apply ext' <;> simp only [mul, sm] <;> grind
theorem mul_sm (k : Rat) (M N : Mt) : mul M (sm k N) = sm k (mul M N) := by apply ext' <;> simp only [mul, sm] <;> grind
theorem sm_sm (j k : Rat) (M : Mt) : sm j (sm k M) = sm (j * k) M := by apply ext' <;> simp only [sm] <;> grind
theorem sm_one (M : Mt) : sm 1 M = M := by apply ext' <;> simp only [sm] <;> grind
theorem det_sm (k : Rat) (M : Mt) : det (sm k M) = k * k * det M := by simp only [det, sm]; grind
theorem det_adj (M : Mt) : det (adj M) = det M := by simp only [det, adj]; grind
theorem tr_sm (k : Rat) (M : Mt) : tr (sm k M) = k * tr M := by simp only [tr, sm]; grind
theorem adj_sm (k : Rat) (M : Mt) : adj (sm k M) = sm k (adj M) := by apply ext' <;> simp only [adj, sm] <;> grind
theorem adj_mul' (M N : Mt) : adj (mul M N) = mul (adj N) (adj M) := by apply ext' <;> simp only [adj, mul] <;> grind
theorem adj_adj (M : Mt) : adj (adj M) = M := by apply ext' <;> simp only [adj] <;> grind
theorem tr_mul_comm (M N : Mt) : tr (mul M N) = tr (mul N M) := by simp only [tr, mul]; grind
theorem det_one : det one = 1 := by simp only [det, one]; grind
/-- M M = (a + d) M - size -/
theorem sq_eq (M : Mt) : mul M M = sub (sm (tr M) M) (sm (det M) one) := by apply ext' <;> simp only [mul, sm, one, det, tr, sub] <;> grind
end Mt
open Mt

/-- all four numbers have at least k parts -/
def AllGe (p k : Int) (M : Mt) : Prop := Ge p k M.a ∧ Ge p k M.b ∧ Ge p k M.c ∧ Ge p k M.d
/-- the least parts of the four numbers are k -/
def Mv (p k : Int) (M : Mt) : Prop := AllGe p k M ∧ ¬ AllGe p (k + 1) M
/-- invertible over the fractions without p below -/
def Gl (p : Int) (M : Mt) : Prop := AllGe p 0 M ∧ Vx p 0 (det M)

section
variable {p : Int} (hp : IsPr p)

theorem ag_mono (hp : IsPr p) {j k : Int} {M : Mt} (h : AllGe p k M) (q : j ≤ k) : AllGe p j M :=
  ⟨ge_mono hp h.1 q, ge_mono hp h.2.1 q, ge_mono hp h.2.2.1 q, ge_mono hp h.2.2.2 q⟩
theorem ag_mul (hp : IsPr p) {j k : Int} {M N : Mt} (h : AllGe p j M) (q : AllGe p k N) : AllGe p (j + k) (mul M N) :=
  ⟨ge_add hp (ge_mul hp h.1 q.1) (ge_mul hp h.2.1 q.2.2.1), ge_add hp (ge_mul hp h.1 q.2.1) (ge_mul hp h.2.1 q.2.2.2),
    ge_add hp (ge_mul hp h.2.2.1 q.1) (ge_mul hp h.2.2.2 q.2.2.1), ge_add hp (ge_mul hp h.2.2.1 q.2.1) (ge_mul hp h.2.2.2 q.2.2.2)⟩
theorem ag_sub (hp : IsPr p) {k : Int} {M N : Mt} (h : AllGe p k M) (q : AllGe p k N) : AllGe p k (sub M N) :=
  ⟨ge_sub hp h.1 q.1, ge_sub hp h.2.1 q.2.1, ge_sub hp h.2.2.1 q.2.2.1, ge_sub hp h.2.2.2 q.2.2.2⟩
theorem ag_sm (hp : IsPr p) {j k : Int} {x : Rat} {M : Mt} (h : Ge p j x) (q : AllGe p k M) : AllGe p (j + k) (sm x M) :=
  ⟨ge_mul hp h q.1, ge_mul hp h q.2.1, ge_mul hp h q.2.2.1, ge_mul hp h q.2.2.2⟩
theorem ag_adj {k : Int} {M : Mt} (h : AllGe p k M) : AllGe p k (adj M) := ⟨h.2.2.2, ge_neg h.2.1, ge_neg h.2.2.1, h.1⟩
theorem ag_tr (hp : IsPr p) {k : Int} {M : Mt} (h : AllGe p k M) : Ge p k (tr M) := ge_add hp h.1 h.2.2.2
theorem ag_det (hp : IsPr p) {k : Int} {M : Mt} (h : AllGe p k M) : Ge p (k + k) (det M) := ge_sub hp (ge_mul hp h.1 h.2.2.2) (ge_mul hp h.2.1 h.2.2.1)
theorem ag_one (hp : IsPr p) : AllGe p 0 one := by
  have h1 : Ge p 0 (1 : Rat) := ge_int hp 1
  exact ⟨h1, ge_zero hp _, ge_zero hp _, h1⟩

theorem mv_uniq (hp : IsPr p) {j k : Int} {M : Mt} (a : Mv p j M) (b : Mv p k M) : j = k := by
  rcases Int.lt_trichotomy j k with h | h | h
  · exact absurd (ag_mono hp b.1 (show j + 1 ≤ k by omega)) a.2
  · exact h
  · exact absurd (ag_mono hp a.1 (show k + 1 ≤ j by omega)) b.2
/-- least parts there are, unless the size is 0 -/
theorem mv_ex (hp : IsPr p) {M : Mt} (h : det M ≠ 0) : ∃ k, Mv p k M := by
  have one_ : ∀ x : Rat, ∃ j, Ge p j x := fun x => by
    by_cases e : x = 0
    · exact ⟨0, by rw [e]; exact ge_zero hp _⟩
    · exact ⟨_, vx_ge (vl_vx hp e)⟩
  have start : ∃ j, AllGe p j M := by
    obtain ⟨j1, a1⟩ := one_ M.a
    obtain ⟨j2, a2⟩ := one_ M.b
    obtain ⟨j3, a3⟩ := one_ M.c
    obtain ⟨j4, a4⟩ := one_ M.d
    exact ⟨min (min j1 j2) (min j3 j4), ge_mono hp a1 (by omega), ge_mono hp a2 (by omega), ge_mono hp a3 (by omega), ge_mono hp a4 (by omega)⟩
  obtain ⟨j, hj⟩ := start
  have v := vl_vx hp h
  have top : ∀ k, AllGe p k M → k + k ≤ vl p (det M) := fun k hk => (ge_iff hp h _).mp (ag_det hp hk)
  have climb : ∀ (n : Nat) (k : Int), AllGe p k M → vl p (det M) - k - k < n → ∃ k, Mv p k M := by
    intro n
    induction n with
    | zero => intro k hk hn; have := top k hk; omega
    | succ n ih =>
      intro k hk hn
      by_cases q : AllGe p (k + 1) M
      · exact ih (k + 1) q (by omega)
      · exact ⟨k, hk, q⟩
  exact climb (vl p (det M) - j - j + 1).toNat j hj (by have := top j hj; omega)

theorem gl_adj (hp : IsPr p) {K : Mt} (h : Gl p K) : AllGe p 0 (sm (det K)⁻¹ (adj K)) := by
  have := ag_sm hp (vx_ge (vx_inv hp h.2)) (ag_adj h.1)
  simpa using this
theorem gl_inv_mul (hp : IsPr p) {K : Mt} (h : Gl p K) (M : Mt) : mul (mul M K) (sm (det K)⁻¹ (adj K)) = M := by
  have n := vx_ne hp h.2
  rw [mul_assoc, mul_sm, mul_adj, sm_sm, Rat.inv_mul_cancel _ n, sm_one, mul_one]
theorem gl_mul_inv (hp : IsPr p) {K : Mt} (h : Gl p K) (M : Mt) : mul (sm (det K)⁻¹ (adj K)) (mul K M) = M := by
  have n := vx_ne hp h.2
  rw [← mul_assoc, sm_mul, adj_mul, sm_sm, Rat.inv_mul_cancel _ n, sm_one, one_mul]
theorem ag_gl_r (hp : IsPr p) {k : Int} {K M : Mt} (h : Gl p K) : AllGe p k (mul M K) ↔ AllGe p k M := by
  constructor
  · intro q
    have := ag_mul hp q (gl_adj hp h)
    rw [gl_inv_mul hp h, Int.add_zero] at this
    exact this
  · intro q
    have := ag_mul hp q h.1
    rwa [Int.add_zero] at this
theorem ag_gl_l (hp : IsPr p) {k : Int} {K M : Mt} (h : Gl p K) : AllGe p k (mul K M) ↔ AllGe p k M := by
  constructor
  · intro q
    have := ag_mul hp (gl_adj hp h) q
    rw [gl_mul_inv hp h, Int.zero_add] at this
    exact this
  · intro q
    have := ag_mul hp h.1 q
    rwa [Int.zero_add] at this
theorem mv_gl_r (hp : IsPr p) {k : Int} {K M : Mt} (h : Gl p K) : Mv p k (mul M K) ↔ Mv p k M := by
  unfold Mv; rw [ag_gl_r hp h, ag_gl_r hp h]
theorem mv_gl_l (hp : IsPr p) {k : Int} {K M : Mt} (h : Gl p K) : Mv p k (mul K M) ↔ Mv p k M := by
  unfold Mv; rw [ag_gl_l hp h, ag_gl_l hp h]
theorem ge_sm_iff (hp : IsPr p) {j k : Int} {x y : Rat} (h : Vx p j x) : Ge p (j + k) (x * y) ↔ Ge p k y := by
  constructor
  · intro q
    have e := ge_mul hp (vx_ge (vx_inv hp h)) q
    have n := vx_ne hp h
    rw [show -j + (j + k) = k by omega, ← Rat.mul_assoc, Rat.inv_mul_cancel _ n, Rat.one_mul] at e
    exact e
  · intro q
    exact ge_mul hp (vx_ge h) q
theorem ag_sm_iff (hp : IsPr p) {j k : Int} {x : Rat} {M : Mt} (h : Vx p j x) : AllGe p (j + k) (sm x M) ↔ AllGe p k M := by
  unfold AllGe sm
  simp only [ge_sm_iff hp h]
theorem mv_sm (hp : IsPr p) {j k : Int} {x : Rat} {M : Mt} (h : Vx p j x) : Mv p (j + k) (sm x M) ↔ Mv p k M := by
  unfold Mv
  rw [ag_sm_iff hp h, show j + k + 1 = j + (k + 1) by omega, ag_sm_iff hp h]
theorem gl_mul (hp : IsPr p) {K L : Mt} (h : Gl p K) (q : Gl p L) : Gl p (mul K L) :=
  ⟨by simpa using ag_mul hp h.1 q.1, by rw [det_mul]; simpa using vx_mul hp h.2 q.2⟩
theorem gl_inv (hp : IsPr p) {K : Mt} (h : Gl p K) : Gl p (sm (det K)⁻¹ (adj K)) := by
  refine ⟨gl_adj hp h, ?_⟩
  rw [det_sm, det_adj]
  have n := vx_ne hp h.2
  rw [Rat.mul_assoc, Rat.inv_mul_cancel _ n, Rat.mul_one]
  simpa using vx_inv hp h.2
theorem gl_one (hp : IsPr p) : Gl p one := ⟨ag_one hp, by
  rw [det_one]
  have h := vx_pw hp 0
  rwa [pw_zero] at h⟩
/-- how far a table moves: its size's parts less twice the least parts -/
theorem gl_of_mv (hp : IsPr p) {K : Mt} (h : AllGe p 0 K) (q : Vx p 0 (det K)) : Gl p K := ⟨h, q⟩
end
end Bt
-- BtBall
/-! BtBall: balls (n, q), how far they are, reduction of the middle. -/
namespace Bt
open Mt

/-- sums of powers of p -/
def Zi (p : Int) (x : Rat) : Prop := ∃ (f : Nat) (z : Int), x * Pw p f = z

section
variable {p : Int} (hp : IsPr p)
theorem zi_int (n : Int) : Zi p (n : Rat) := ⟨0, n, by rw [show ((0 : Nat) : Int) = 0 from rfl, pw_zero]; grind⟩
theorem zi_neg {x : Rat} (h : Zi p x) : Zi p (-x) := by
  obtain ⟨f, z, e⟩ := h
  exact ⟨f, -z, by rw [Rat.intCast_neg]; grind⟩
theorem zi_add (hp : IsPr p) {x y : Rat} (h : Zi p x) (q : Zi p y) : Zi p (x + y) := by
  obtain ⟨f, z, e⟩ := h
  obtain ⟨f', z', e'⟩ := q
  refine ⟨f + f', z * p ^ f' + z' * p ^ f, ?_⟩
  rw [Int.natCast_add, pw_add hp, Rat.intCast_add, Rat.intCast_mul, Rat.intCast_mul, ← pw_nat, ← pw_nat]
  grind
theorem zi_sub (hp : IsPr p) {x y : Rat} (h : Zi p x) (q : Zi p y) : Zi p (x - y) := by
  rw [Rat.sub_eq_add_neg]; exact zi_add hp h (zi_neg q)
theorem zi_mul (hp : IsPr p) {x y : Rat} (h : Zi p x) (q : Zi p y) : Zi p (x * y) := by
  obtain ⟨f, z, e⟩ := h
  obtain ⟨f', z', e'⟩ := q
  refine ⟨f + f', z * z', ?_⟩
  rw [Int.natCast_add, pw_add hp, Rat.intCast_mul]
  grind
theorem zi_pw (hp : IsPr p) (k : Int) : Zi p (Pw p k) := by
  by_cases h : 0 ≤ k
  · rw [pw_nonneg h]; exact zi_int _
  · refine ⟨(-k).toNat, 1, ?_⟩
    rw [← pw_add hp, show k + ((-k).toNat : Int) = 0 by omega, pw_zero]
    rfl

theorem dvd_pow_of (hp : IsPr p) {w : Int} (hw : ¬ p ∣ w) : ∀ (f : Nat) (z u : Int), z * w = u * p ^ f → p ^ f ∣ z
  | 0, z, _, _ => ⟨z, by simp⟩
  | f + 1, z, u, h => by
    have d : p ∣ z * w := ⟨u * p ^ f, by rw [h, Int.pow_succ]; grind⟩
    rcases hp.pr z w d with ⟨c, e⟩ | q
    · have p0 : p ≠ 0 := by have := hp.one; omega
      have h2 : c * w = u * p ^ f := by
        apply Int.eq_of_mul_eq_mul_left p0
        rw [e, Int.pow_succ] at h
        grind
      obtain ⟨r, hr⟩ := dvd_pow_of hp hw f c u h2
      exact ⟨r, by rw [e, hr, Int.pow_succ]; grind⟩
    · exact absurd q hw

theorem ge0_int (hp : IsPr p) {x : Rat} (h : Zi p x) (g : Ge p 0 x) : ∃ z : Int, x = z := by
  obtain ⟨f, z, e⟩ := h
  obtain ⟨u, w, hw, e'⟩ := g
  rw [pw_zero, Rat.one_mul] at e'
  have q : ((z * w : Int) : Rat) = ((u * p ^ f : Int) : Rat) := by
    rw [Rat.intCast_mul, Rat.intCast_mul, ← pw_nat]
    grind
  obtain ⟨r, hr⟩ := dvd_pow_of hp hw f z u (Rat.intCast_inj.mp q)
  refine ⟨r, ?_⟩
  rw [hr, Rat.intCast_mul, ← pw_nat] at e
  have n := pw_ne hp (f : Int)
  grind

/-- the middle of a ball as it is told -/
structure Ok (p n : Int) (q : Rat) : Prop where
  nn : 0 ≤ q
  lt : q < Pw p n
  zi : Zi p q

theorem ok_uniq (hp : IsPr p) {n : Int} {q r : Rat} (h : Ok p n q) (k : Ok p n r) (g : Ge p n (q - r)) : q = r := by
  have z1 : Zi p ((q - r) * Pw p (-n)) := zi_mul hp (zi_sub hp h.zi k.zi) (zi_pw hp _)
  have g1 : Ge p 0 ((q - r) * Pw p (-n)) := by
    have := ge_mul hp g (vx_ge (vx_pw hp (-n)))
    rwa [show n + -n = 0 by omega] at this
  obtain ⟨z, e⟩ := ge0_int hp z1 g1
  have one : Pw p (-n) * Pw p n = 1 := by rw [← pw_add hp, show -n + n = 0 by omega, pw_zero]
  have e2 : q - r = z * Pw p n := by grind
  have pos := pw_pos hp n
  have h1 := h.nn
  have h2 := h.lt
  have h3 := k.nn
  have h4 := k.lt
  have zl : z < 1 := by
    refine Int.not_le.mp fun c => ?_
    have c1 : (1 : Rat) ≤ (z : Rat) := by
      have := Rat.intCast_le_intCast.mpr c
      exact this
    have := Rat.mul_le_mul_of_nonneg_right c1 (Rat.le_of_lt pos)
    grind
  have zg : -1 < z := by
    refine Int.not_le.mp fun c => ?_
    have c1 : (z : Rat) ≤ ((-1 : Int) : Rat) := Rat.intCast_le_intCast.mpr c
    have c2 : ((-1 : Int) : Rat) = -1 := rfl
    rw [c2] at c1
    have := Rat.mul_le_mul_of_nonneg_right c1 (Rat.le_of_lt pos)
    grind
  have z0 : z = 0 := by omega
  rw [z0] at e2
  have : ((0 : Int) : Rat) = 0 := rfl
  grind

abbrev Bl : Type := Int × Rat
/-- the level of the least ball about two -/
noncomputable def tl (p : Int) (x y : Bl) : Int := open Classical in if x.2 = y.2 then min x.1 y.1 else min (min x.1 y.1) (vl p (x.2 - y.2))
theorem tl_ge (hp : IsPr p) (x y : Bl) (k : Int) : k ≤ tl p x y ↔ k ≤ x.1 ∧ k ≤ y.1 ∧ Ge p k (x.2 - y.2) := by
  unfold tl
  split
  · rename_i h
    rw [h, Rat.sub_self]
    have := ge_zero hp k
    constructor
    · intro q; exact ⟨by omega, by omega, this⟩
    · intro q; omega
  · rename_i h
    have n : x.2 - y.2 ≠ 0 := fun e => h (by grind)
    rw [ge_iff hp n]
    omega
theorem tl_symm (hp : IsPr p) (x y : Bl) : tl p x y = tl p y x := by
  have key : ∀ x y, tl p x y ≤ tl p y x := fun x y => by
    have h := (tl_ge hp x y _).mp (Int.le_refl _)
    refine (tl_ge hp y x _).mpr ⟨h.2.1, h.1, ?_⟩
    have := ge_neg h.2.2
    rwa [Rat.neg_sub] at this
  have := key x y
  have := key y x
  omega
theorem tl_le (hp : IsPr p) (x y : Bl) : tl p x y ≤ x.1 ∧ tl p x y ≤ y.1 := by
  have h := (tl_ge hp x y _).mp (Int.le_refl _)
  exact ⟨h.1, h.2.1⟩
theorem tl_ultra (hp : IsPr p) (x y z : Bl) : min (tl p x y) (tl p y z) ≤ tl p x z := by
  have h := (tl_ge hp x y (min (tl p x y) (tl p y z))).mp (by omega)
  have k := (tl_ge hp y z (min (tl p x y) (tl p y z))).mp (by omega)
  refine (tl_ge hp x z _).mpr ⟨h.1, k.2.1, ?_⟩
  have := ge_add hp h.2.2 k.2.2
  rwa [show x.2 - y.2 + (y.2 - z.2) = x.2 - z.2 by grind] at this
theorem tl_self (x : Bl) : tl p x x = x.1 := by
  unfold tl
  rw [if_pos rfl]
  omega
/-- steps -/
noncomputable def ds (p : Int) (x y : Bl) : Int := x.1 + y.1 - 2 * tl p x y

/-- a ball's table -/
def Tb (p : Int) (x : Bl) : Mt := ⟨Pw p x.1, x.2, 0, 1⟩
def Ti (p : Int) (x : Bl) : Mt := ⟨Pw p (-x.1), - x.2 * Pw p (-x.1), 0, 1⟩
theorem pw_inv (hp : IsPr p) (n : Int) : Pw p (-n) * Pw p n = 1 := by rw [← pw_add hp, show -n + n = 0 by omega, pw_zero]
theorem ti_tb (hp : IsPr p) (x : Bl) : mul (Ti p x) (Tb p x) = one := by
  have e := pw_inv hp x.1
  apply ext' <;> simp only [mul, Ti, Tb, one] <;> grind
theorem tb_ti (hp : IsPr p) (x : Bl) : mul (Tb p x) (Ti p x) = one := by
  have e := pw_inv hp x.1
  apply ext' <;> simp only [mul, Ti, Tb, one] <;> grind
theorem det_tb (x : Bl) : det (Tb p x) = Pw p x.1 := by simp only [det, Tb]; grind
theorem det_ti (x : Bl) : det (Ti p x) = Pw p (-x.1) := by simp only [det, Ti]; grind

/-- how far a table moves -/
def Dsp (p : Int) (M : Mt) (k : Int) : Prop := ∃ j, Mv p j M ∧ Vx p (k + j + j) (det M)
theorem dsp_uniq (hp : IsPr p) {M : Mt} {j k : Int} (a : Dsp p M j) (b : Dsp p M k) : j = k := by
  obtain ⟨i, h1, h2⟩ := a
  obtain ⟨i', h1', h2'⟩ := b
  have e := mv_uniq hp h1 h1'
  have e2 := vx_uniq hp h2 h2'
  omega
theorem dsp_gl_l (hp : IsPr p) {K M : Mt} {k : Int} (h : Gl p K) (d : Dsp p M k) : Dsp p (mul K M) k := by
  obtain ⟨j, h1, h2⟩ := d
  exact ⟨j, (mv_gl_l hp h).mpr h1, by rw [det_mul]; simpa using vx_mul hp h.2 h2⟩
theorem dsp_gl_r (hp : IsPr p) {K M : Mt} {k : Int} (h : Gl p K) (d : Dsp p M k) : Dsp p (mul M K) k := by
  obtain ⟨j, h1, h2⟩ := d
  exact ⟨j, (mv_gl_r hp h).mpr h1, by rw [det_mul]; simpa using vx_mul hp h2 h.2⟩
theorem dsp_sm (hp : IsPr p) {M : Mt} {k : Int} {x : Rat} (hx : x ≠ 0) (d : Dsp p M k) : Dsp p (sm x M) k := by
  obtain ⟨j, h1, h2⟩ := d
  have v := vl_vx hp hx
  refine ⟨vl p x + j, (mv_sm hp v).mpr h1, ?_⟩
  rw [det_sm, show k + (vl p x + j) + (vl p x + j) = (vl p x + vl p x) + (k + j + j) by omega]
  exact vx_mul hp (vx_mul hp v v) h2
theorem dsp_ds (hp : IsPr p) (x y : Bl) : Dsp p (mul (Ti p x) (Tb p y)) (ds p x y) := by
  have e : mul (Ti p x) (Tb p y) = ⟨Pw p (y.1 - x.1), Pw p (-x.1) * (y.2 - x.2), 0, 1⟩ := by
    rw [show y.1 - x.1 = -x.1 + y.1 by omega, pw_add hp]
    apply ext' <;> simp only [mul, Ti, Tb] <;> grind
  have one : ∀ k, Ge p k (1 : Rat) ↔ k ≤ 0 := fun k => by
    have v := vx_pw hp 0
    rw [pw_zero] at v
    rw [ge_iff hp (vx_ne hp v), vl_of hp v]
  have key : ∀ k, AllGe p k (mul (Ti p x) (Tb p y)) ↔ k + x.1 ≤ tl p x y := fun k => by
    rw [e, tl_ge hp]
    unfold AllGe
    simp only [one]
    rw [ge_iff hp (pw_ne hp _), vl_pw hp, ← ge_shift hp (j := k) (k := x.1) (x := Pw p (-x.1) * (y.2 - x.2)), ← Rat.mul_assoc, ← pw_add hp, show x.1 + -x.1 = 0 by omega, pw_zero, Rat.one_mul]
    constructor
    · rintro ⟨h1, h2, _, h4⟩
      refine ⟨by omega, by omega, ?_⟩
      have := ge_neg h2
      rwa [Rat.neg_sub] at this
    · rintro ⟨h1, h2, h3⟩
      refine ⟨by omega, ?_, ge_zero hp _, by omega⟩
      have := ge_neg h3
      rwa [Rat.neg_sub] at this
  refine ⟨tl p x y - x.1, ⟨(key _).mpr (by omega), fun q => ?_⟩, ?_⟩
  · have := (key _).mp q
    omega
  · rw [det_mul, det_ti, det_tb, ← pw_add hp]
    have := vx_pw hp (-x.1 + y.1)
    rw [show ds p x y + (tl p x y - x.1) + (tl p x y - x.1) = -x.1 + y.1 by unfold ds; omega]
    exact this
end
end Bt
-- BtAct
/-! BtAct: the tree of balls; tables lead balls; what a table stretches by. -/
namespace Bt
open Mt

section
variable {p : Int} (hp : IsPr p)

/-! ### reduction -/
theorem dvd_inv (hp : IsPr p) {w : Int} (hw : ¬ p ∣ w) (h1 : ∃ j, p ∣ w * j - 1) : ∀ k : Nat, ∃ i, p ^ k ∣ w * i - 1
  | 0 => ⟨0, by simp [Int.pow_zero]⟩
  | k + 1 => by
    obtain ⟨i, t, ht⟩ := dvd_inv hp hw h1 k
    obtain ⟨j, s, hs⟩ := h1
    refine ⟨i + p ^ k * (-t * j), -t * s, ?_⟩
    rw [Int.pow_succ]
    grind

/-- p is a prime with inverses: what is needed of 2, 3, 5, 7 -/
structure IsPI (p : Int) : Prop extends IsPr p where
  inv : ∀ w, ¬ p ∣ w → ∃ j, p ∣ w * j - 1

theorem isPI_of (p : Int) (h : p = 2 ∨ p = 3 ∨ p = 5 ∨ p = 7) : IsPI p := by
  refine ⟨isPr_of p h, fun w hw => ?_⟩
  have key : ∀ r j : Int, w % p = r → p ∣ r * j - 1 → p ∣ w * j - 1 := fun r j e d => by
    obtain ⟨c, hc⟩ := d
    refine ⟨c + w / p * j, ?_⟩
    have := Int.emod_add_mul_ediv w p
    rw [e] at this
    grind
  have hn : w % p ≠ 0 := fun e => hw (Int.dvd_of_emod_eq_zero e)
  rcases h with rfl | rfl | rfl | rfl
  · exact ⟨1, key 1 1 (by omega) (by decide)⟩
  · rcases (show w % 3 = 1 ∨ w % 3 = 2 by omega) with e | e
    · exact ⟨1, key 1 1 e (by decide)⟩
    · exact ⟨2, key 2 2 e (by decide)⟩
  · rcases (show w % 5 = 1 ∨ w % 5 = 2 ∨ w % 5 = 3 ∨ w % 5 = 4 by omega) with e | e | e | e
    · exact ⟨1, key 1 1 e (by decide)⟩
    · exact ⟨3, key 2 3 e (by decide)⟩
    · exact ⟨2, key 3 2 e (by decide)⟩
    · exact ⟨4, key 4 4 e (by decide)⟩
  · rcases (show w % 7 = 1 ∨ w % 7 = 2 ∨ w % 7 = 3 ∨ w % 7 = 4 ∨ w % 7 = 5 ∨ w % 7 = 6 by omega) with e | e | e | e | e | e
    · exact ⟨1, key 1 1 e (by decide)⟩
    · exact ⟨4, key 2 4 e (by decide)⟩
    · exact ⟨5, key 3 5 e (by decide)⟩
    · exact ⟨2, key 4 2 e (by decide)⟩
    · exact ⟨3, key 5 3 e (by decide)⟩
    · exact ⟨6, key 6 6 e (by decide)⟩

/-- a middle below p ^ n, nearer than n to x, there is -/
theorem red_ex (hp : IsPI p) (n : Int) (x : Rat) : ∃ q, Ok p n q ∧ Ge p n (x - q) := by
  have hq := hp.toIsPr
  obtain ⟨b, w, e2, hw⟩ := int_split hq _ (x.den : Int) (by have := x.den_nz; omega) (Nat.le_refl _)
  have xe : x * (((p ^ b * w : Int)) : Rat) = x.num := by
    rw [← e2]
    have : (x.den : Rat) ≠ 0 := fun e => x.den_nz (Rat.natCast_eq_zero_iff.mp e)
    have h := Rat.num_divInt_den x
    rw [Rat.divInt_eq_div] at h
    have h2 : ((x.den : Int) : Rat) = (x.den : Rat) := rfl
    rw [h2] at h ⊢
    grind
  -- q = (num * i mod p ^ (n + b)) / p ^ b
  by_cases hnb : n + b ≤ 0
  · refine ⟨0, ⟨by grind, pw_pos hq n, zi_int 0⟩, ?_⟩
    rw [show x - 0 = x by grind]
    refine ⟨x.num * p ^ (-(n + b)).toNat, w, hw, ?_⟩
    rw [Rat.intCast_mul, ← pw_nonneg (p := p) (k := -(n + b)) (by omega)]
    rw [Rat.intCast_mul, ← pw_nat] at xe
    have e3 : Pw p n * Pw p (-(n + b)) * Pw p b = 1 := by
      rw [← pw_add hq, ← pw_add hq, show n + -(n + (b : Int)) + b = 0 by omega, pw_zero]
    have nb := pw_ne hq (b : Int)
    grind
  · obtain ⟨i, t, ht⟩ := dvd_inv hq hw (hp.inv w hw) (n + b).toNat
    have P : (0 : Int) < p ^ (n + b).toNat := Int.pow_pos (by have := hq.one; omega)
    have r0 := Int.emod_nonneg (x.num * i) (Int.ne_of_gt P)
    have r1 := Int.emod_lt_of_pos (x.num * i) P
    have rd := Int.emod_add_mul_ediv (x.num * i) (p ^ (n + b).toNat)
    generalize x.num * i % p ^ (n + b).toNat = r at *
    generalize x.num * i / p ^ (n + b).toNat = d at *
    have one : Pw p (-b) * Pw p b = 1 := by rw [← pw_add hq, show -(b : Int) + b = 0 by omega, pw_zero]
    have pb := pw_pos hq (-(b : Int))
    refine ⟨r * Pw p (-b), ⟨?_, ?_, zi_mul hq (zi_int r) (zi_pw hq _)⟩, ?_⟩
    · exact Rat.mul_nonneg (by have := Rat.intCast_le_intCast.mpr r0; exact this) (Rat.le_of_lt pb)
    · have h := Rat.mul_lt_mul_of_pos_right (Rat.intCast_lt_intCast.mpr r1) pb
      rw [← pw_nonneg (p := p) (k := n + b) (by omega), ← pw_add hq, show n + (b : Int) + -b = n by omega] at h
      exact h
    · -- x - r / p ^ b, times p ^ b * w, is num - r w = num (1 - w i) + w p ^ (n + b) d
      refine ⟨-x.num * t + w * d, w, hw, ?_⟩
      rw [Rat.intCast_mul, ← pw_nat] at xe
      have e4 : ((x.num - r * w : Int) : Rat) = ((p ^ (n + b).toNat * (-x.num * t + w * d) : Int) : Rat) := by
        congr 1
        have h5 : w * i = 1 + p ^ (n + b).toNat * t := by omega
        grind
      rw [Rat.intCast_mul, ← pw_nonneg (p := p) (k := n + b) (by omega), Rat.intCast_sub, Rat.intCast_mul, pw_add hq] at e4
      have nb := pw_ne hq (b : Int)
      grind

/-! ### the tree -/
abbrev B (p : Int) : Type := { x : Bl // Ok p x.1 x.2 }
theorem b_ext {x y : B p} (h1 : x.1.1 = y.1.1) (h2 : x.1.2 = y.1.2) : x = y := Subtype.ext (Prod.ext h1 h2)
/-- the ball with number n that has x -/
noncomputable def nb (hp : IsPI p) (n : Int) (x : Rat) : B p := ⟨(n, (red_ex hp n x).choose), (red_ex hp n x).choose_spec.1⟩
theorem nb_n (hp : IsPI p) (n : Int) (x : Rat) : (nb hp n x).1.1 = n := rfl
theorem nb_ge (hp : IsPI p) (n : Int) (x : Rat) : Ge p n (x - (nb hp n x).1.2) := (red_ex hp n x).choose_spec.2
theorem nb_eq (hp : IsPI p) {n : Int} {x q : Rat} (h : Ok p n q) (g : Ge p n (x - q)) : nb hp n x = ⟨(n, q), h⟩ := by
  refine b_ext rfl (ok_uniq hp.toIsPr (nb hp n x).2 h ?_)
  have a := ge_sub hp.toIsPr g (nb_ge hp n x)
  rwa [show x - q - (x - (nb hp n x).1.2) = (nb hp n x).1.2 - q by grind] at a
theorem nb_self (hp : IsPI p) (x : B p) : nb hp x.1.1 x.1.2 = x := nb_eq hp x.2 (by rw [Rat.sub_self]; exact ge_zero hp.toIsPr _)

theorem tl_nb (hp : IsPI p) (x : Bl) (y : Bl) (n : Int) : tl p (nb hp n y.2).1 x = tl p (n, y.2) x := by
  have hq := hp.toIsPr
  have g := nb_ge hp n y.2
  have key : ∀ k, k ≤ tl p (nb hp n y.2).1 x ↔ k ≤ tl p (n, y.2) x := fun k => by
    rw [tl_ge hq, tl_ge hq, nb_n]
    constructor
    · rintro ⟨a, b, c⟩
      refine ⟨a, b, ?_⟩
      have := ge_add hq (ge_mono hq g a) c
      rwa [show y.2 - (nb hp n y.2).1.2 + ((nb hp n y.2).1.2 - x.2) = y.2 - x.2 by grind] at this
    · rintro ⟨a, b, c⟩
      refine ⟨a, b, ?_⟩
      have := ge_sub hq c (ge_mono hq g a)
      rwa [show y.2 - x.2 - (y.2 - (nb hp n y.2).1.2) = (nb hp n y.2).1.2 - x.2 by grind] at this
  have a := (key _).mp (Int.le_refl _)
  have b := (key _).mpr (Int.le_refl _)
  omega

theorem ds_eq0 (hp : IsPr p) {x y : B p} (h : ds p x.1 y.1 ≤ 0) : x = y := by
  have e := tl_le hp x.1 y.1
  unfold ds at h
  have g := (tl_ge hp x.1 y.1 _).mp (Int.le_refl _)
  have h1 : x.1.1 = y.1.1 := by omega
  refine b_ext h1 (ok_uniq hp (n := x.1.1) x.2 (by rw [h1]; exact y.2) (ge_mono hp g.2.2 (by omega)))

theorem tl_up (hp : IsPr p) (x y : Bl) (k : Int) (h : k ≤ x.1) : tl p (k, x.2) y = min k (tl p x y) := by
  have key : ∀ j, j ≤ tl p (k, x.2) y ↔ j ≤ min k (tl p x y) := fun j => by
    rw [tl_ge hp]
    constructor
    · rintro ⟨a, b, c⟩
      have := (tl_ge hp x y j).mpr ⟨by show j ≤ x.1; have : j ≤ k := a; omega, b, c⟩
      have : j ≤ k := a
      omega
    · intro q
      have := (tl_ge hp x y j).mp (by omega)
      exact ⟨by show j ≤ k; omega, this.2.1, this.2.2⟩
  have a := (key _).mp (Int.le_refl _)
  have b := (key _).mpr (Int.le_refl _)
  omega

noncomputable def onB (hp : IsPI p) (x y : B p) (k : Int) : B p :=
  if k ≤ x.1.1 - tl p x.1 y.1 then nb hp (x.1.1 - k) x.1.2 else nb hp (tl p x.1 y.1 + k - (x.1.1 - tl p x.1 y.1)) y.1.2

theorem ds_symm (hp : IsPr p) (x y : Bl) : ds p x y = ds p y x := by
  unfold ds
  rw [tl_symm hp x y]
  omega

noncomputable def tree (hp : IsPI p) : Tree (B p) where
  d x y := ds p x.1 y.1
  on x y k := onB hp x y k
  self x := by
    unfold ds
    rw [tl_self]
    omega
  eq x y h := ds_eq0 hp.toIsPr h
  symm x y := ds_symm hp.toIsPr _ _
  four x y z w := by
    have hq := hp.toIsPr
    unfold ds
    have a1 := tl_ultra hq x.1 z.1 y.1
    have a2 := tl_ultra hq x.1 w.1 y.1
    have a3 := tl_ultra hq z.1 x.1 w.1
    have a4 := tl_ultra hq z.1 y.1 w.1
    have s1 := tl_symm hq z.1 y.1
    have s2 := tl_symm hq w.1 y.1
    have s3 := tl_symm hq z.1 x.1
    omega
  par x y z := by
    show (ds p x.1 y.1 + ds p y.1 z.1 + ds p x.1 z.1) % 2 = 0
    unfold ds
    omega
  on1 x y k h0 h1 := by
    have hq := hp.toIsPr
    have h1' : k ≤ ds p x.1 y.1 := h1
    have l := tl_le hq x.1 y.1
    show ds p x.1 (onB hp x y k).1 = k
    unfold ds at h1'
    unfold onB
    split
    · rename_i h
      rw [ds_symm hq]
      unfold ds
      rw [tl_nb, tl_up hq x.1 x.1 _ (by omega), tl_self, nb_n]
      omega
    · rename_i h
      rw [ds_symm hq]
      unfold ds
      rw [tl_nb, tl_up hq y.1 x.1 _ (by omega), nb_n, tl_symm hq y.1 x.1]
      omega
  on2 x y k h0 h1 := by
    have hq := hp.toIsPr
    have h1' : k ≤ ds p x.1 y.1 := h1
    have l := tl_le hq x.1 y.1
    show ds p (onB hp x y k).1 y.1 = ds p x.1 y.1 - k
    unfold ds at h1' ⊢
    unfold onB
    split
    · rename_i h
      rw [tl_nb, tl_up hq x.1 y.1 _ (by omega), nb_n]
      omega
    · rename_i h
      rw [tl_nb, tl_up hq y.1 y.1 _ (by omega), nb_n, tl_self]
      omega

/-! ### tables lead balls -/
/-- M leads x to y -/
def Leads (p : Int) (M : Mt) (x y : Bl) : Prop := ∃ lam K, lam ≠ 0 ∧ Gl p K ∧ mul M (Tb p x) = sm lam (mul (Tb p y) K)

theorem Leads.comp (hp : IsPr p) {M N : Mt} {x y z : Bl} (a : Leads p M x y) (b : Leads p N y z) : Leads p (mul N M) x z := by
  obtain ⟨l1, K1, n1, g1, e1⟩ := a
  obtain ⟨l2, K2, n2, g2, e2⟩ := b
  refine ⟨l1 * l2, mul K2 K1, fun h => (Rat.mul_eq_zero.mp h).elim n1 n2, gl_mul hp g2 g1, ?_⟩
  rw [mul_assoc, e1, mul_sm, ← mul_assoc, e2, sm_mul, sm_sm, mul_assoc]
theorem Leads.one (hp : IsPr p) (x : Bl) : Leads p Mt.one x x := ⟨1, Mt.one, by decide, gl_one hp, by rw [Mt.one_mul, Mt.mul_one, sm_one]⟩
theorem Leads.sm {M : Mt} {x y : Bl} {k : Rat} (hk : k ≠ 0) (a : Leads p M x y) : Leads p (Mt.sm k M) x y := by
  obtain ⟨l1, K1, n1, g1, e1⟩ := a
  exact ⟨k * l1, K1, fun h => (Rat.mul_eq_zero.mp h).elim hk n1, g1, by rw [sm_mul, e1, sm_sm]⟩
theorem ti_mul (hp : IsPr p) (x : Bl) (M : Mt) : mul (Ti p x) (mul (Tb p x) M) = M := by rw [← mul_assoc, ti_tb hp, Mt.one_mul]
theorem tb_mul (hp : IsPr p) (x : Bl) (M : Mt) : mul (Tb p x) (mul (Ti p x) M) = M := by rw [← mul_assoc, tb_ti hp, Mt.one_mul]

/-- steps are kept -/
theorem Leads.ds (hp : IsPr p) {M : Mt} {x1 x2 y1 y2 : Bl} (a : Leads p M x1 y1) (b : Leads p M x2 y2) : ds p y1 y2 = ds p x1 x2 := by
  obtain ⟨l1, K1, n1, g1, e1⟩ := a
  obtain ⟨l2, K2, n2, g2, e2⟩ := b
  have h : mul (Tb p x1) (mul (Ti p x1) (Tb p x2)) = Tb p x2 := tb_mul hp _ _
  have h2 : mul (Tb p y1) (mul (Ti p y1) (Tb p y2)) = Tb p y2 := tb_mul hp _ _
  have key : Mt.sm l1 (mul K1 (mul (Ti p x1) (Tb p x2))) = Mt.sm l2 (mul (mul (Ti p y1) (Tb p y2)) K2) := by
    have e3 : mul M (mul (Tb p x1) (mul (Ti p x1) (Tb p x2))) = mul M (Tb p x2) := by rw [h]
    rw [← mul_assoc, e1, e2, sm_mul, mul_assoc] at e3
    have e4 := congrArg (mul (Ti p y1)) e3
    rw [mul_sm, mul_sm, ti_mul hp, ← mul_assoc (Ti p y1)] at e4
    exact e4
  have d1 := dsp_sm hp n1 (dsp_gl_l hp g1 (dsp_ds hp x1 x2))
  have d2 := dsp_sm hp n2 (dsp_gl_r hp g2 (dsp_ds hp y1 y2))
  rw [key] at d1
  exact dsp_uniq hp d2 d1

theorem Leads.uniq (hp : IsPr p) {M : Mt} {x : Bl} {y z : B p} (a : Leads p M x y.1) (b : Leads p M x z.1) : y = z := by
  apply ds_eq0 hp
  rw [Leads.ds hp a b]
  unfold Bt.ds
  rw [tl_self]
  omega

/-- how far a ball is led: by the table told at it -/
theorem Leads.dsp (hp : IsPr p) {M : Mt} {x y : Bl} (a : Leads p M x y) : Dsp p (mul (Ti p x) (mul M (Tb p x))) (Bt.ds p x y) := by
  obtain ⟨l, K, n, g, e⟩ := a
  rw [e, mul_sm, ← mul_assoc]
  exact dsp_sm hp n (dsp_gl_r hp g (dsp_ds hp x y))

/-- a table told by its columns, the second one's lower number having no more parts -/
theorem leads_col (hp : IsPI p) {N S : Mt} {x : Bl} {o1x o1y o2x o2y : Rat} {M : Mt} (hN : mul M (Tb p x) = N) (hS : Gl p S) (hNS : mul N S = ⟨o1x, o2x, o1y, o2y⟩)
    (h2 : o2y ≠ 0) (ht : Ge p 0 (o1y / o2y)) (hl : (o1x - o1y / o2y * o2x) / o2y ≠ 0) :
    Leads p M x (nb hp (vl p ((o1x - o1y / o2y * o2x) / o2y)) (o2x / o2y)).1 := by
  have hq := hp.toIsPr
  have te : o1y / o2y * o2y = o1y := Rat.div_mul_cancel h2
  have le : (o1x - o1y / o2y * o2x) / o2y * o2y = o1x - o1y / o2y * o2x := Rat.div_mul_cancel h2
  have xe : o2x / o2y * o2y = o2x := Rat.div_mul_cancel h2
  generalize o1y / o2y = t at *
  generalize hleft : (o1x - t * o2x) / o2y = left at *
  generalize o2x / o2y = X at *
  have v := vl_vx hq hl
  have g := nb_ge hp (vl p left) X
  have okq := (nb hp (vl p left) X).2
  generalize hq' : (nb hp (vl p left) X).1.2 = q at *
  have hn : (nb hp (vl p left) X).1.1 = vl p left := rfl
  generalize hk : vl p left = k at *
  -- K = [[left / p^k, (X - q) / p^k], [0, 1]] [[1, 0], [t, 1]] S^-1
  have inv := pw_inv hq k
  have gk : Gl p ⟨left * Pw p (-k), (X - q) * Pw p (-k), 0, 1⟩ := by
    have one : Ge p 0 (1 : Rat) := ge_int hq 1
    have a1 := vx_mul hq v (vx_pw hq (-k))
    rw [show k + -k = 0 by omega] at a1
    have a2 := ge_mul hq g (vx_ge (vx_pw hq (-k)))
    rw [show k + -k = 0 by omega] at a2
    refine ⟨⟨vx_ge a1, a2, ge_zero hq _, one⟩, ?_⟩
    rw [show det ⟨left * Pw p (-k), (X - q) * Pw p (-k), 0, 1⟩ = left * Pw p (-k) by simp only [det]; grind]
    exact a1
  have gt : Gl p ⟨1, 0, t, 1⟩ := by
    have one : Ge p 0 (1 : Rat) := ge_int hq 1
    refine ⟨⟨one, ge_zero hq _, ht, one⟩, ?_⟩
    rw [show det ⟨1, 0, t, 1⟩ = 1 by simp only [det]; grind]
    have := vx_pw hq 0
    rwa [pw_zero] at this
  refine ⟨o2y, mul (mul ⟨left * Pw p (-k), (X - q) * Pw p (-k), 0, 1⟩ ⟨1, 0, t, 1⟩) (Mt.sm (det S)⁻¹ (adj S)), h2, gl_mul hq (gl_mul hq gk gt) (gl_inv hq hS), ?_⟩
  rw [hN, ← gl_inv_mul hq hS N, hNS, ← mul_assoc, ← sm_mul]
  congr 1
  have hb : Tb p (nb hp k X).1 = ⟨Pw p k, q, 0, 1⟩ := by
    unfold Tb
    rw [hq', hn]
  rw [hb]
  apply ext' <;> simp only [mul, Mt.sm] <;> grind

theorem leads_ex (hp : IsPI p) {M : Mt} (hM : det M ≠ 0) (x : Bl) : ∃ y : B p, Leads p M x y.1 := by
  have hq := hp.toIsPr
  have hdet : det (mul M (Tb p x)) ≠ 0 := by
    rw [det_mul, det_tb]
    exact fun h => (Rat.mul_eq_zero.mp h).elim hM (pw_ne hq _)
  have hA : mul (mul M (Tb p x)) Mt.one = ⟨(mul M (Tb p x)).a, (mul M (Tb p x)).b, (mul M (Tb p x)).c, (mul M (Tb p x)).d⟩ := Mt.mul_one _
  generalize hN : mul M (Tb p x) = N at *
  have sw : Gl p ⟨0, 1, 1, 0⟩ := by
    have one : Ge p 0 (1 : Rat) := ge_int hq 1
    refine ⟨⟨ge_zero hq _, one, one, ge_zero hq _⟩, ?_⟩
    rw [show det ⟨0, 1, 1, 0⟩ = -1 by simp only [det]; grind]
    have := vx_neg (vx_pw hq 0)
    rwa [pw_zero] at this
  have lne : ∀ {a b c d : Rat}, a * d - b * c ≠ 0 → d ≠ 0 → (a - c / d * b) / d ≠ 0 := fun {a b c d} h hd e => by
    have e1 : c / d * d = c := Rat.div_mul_cancel hd
    have e2 : (a - c / d * b) / d * d = a - c / d * b := Rat.div_mul_cancel hd
    rw [e] at e2
    generalize c / d = t at *
    apply h
    grind
  have hNd : N.a * N.d - N.b * N.c ≠ 0 := hdet
  have quo : ∀ {c d : Rat}, d ≠ 0 → (c = 0 ∨ (c ≠ 0 ∧ vl p d ≤ vl p c)) → Ge p 0 (c / d) := fun {c d} hd h => by
    rcases h with e | ⟨hc, h⟩
    · rw [e, show (0 : Rat) / d = 0 by rw [Rat.div_def]; grind]
      exact ge_zero hq _
    · rw [Rat.div_def]
      have := vx_mul hq (vl_vx hq hc) (vx_inv hq (vl_vx hq hd))
      exact ge_mono hq (vx_ge this) (by omega)
  by_cases hd : N.d = 0
  · have hc : N.c ≠ 0 := fun e => hNd (by rw [hd, e]; grind)
    refine ⟨_, leads_col hp hN sw (o1x := N.b) (o1y := N.d) (o2x := N.a) (o2y := N.c) ?_ hc (quo hc (.inl hd)) (lne (by grind) hc)⟩
    apply ext' <;> simp only [mul] <;> grind
  · by_cases hc : N.c = 0
    · exact ⟨_, leads_col hp hN (gl_one hq) hA hd (quo hd (.inl hc)) (lne hNd hd)⟩
    · by_cases h : vl p N.d ≤ vl p N.c
      · exact ⟨_, leads_col hp hN (gl_one hq) hA hd (quo hd (.inr ⟨hc, h⟩)) (lne hNd hd)⟩
      · refine ⟨_, leads_col hp hN sw (o1x := N.b) (o1y := N.d) (o2x := N.a) (o2y := N.c) ?_ hc (quo hc (.inr ⟨hd, by omega⟩)) (lne (by grind) hc)⟩
        apply ext' <;> simp only [mul] <;> grind
end
end Bt
-- BtStr
/-! BtStr: tables as isometries of the tree of balls; how far two lines run along. -/
namespace Bt
open Mt

section
variable {p : Int}

noncomputable def act (hp : IsPI p) (M : Mt) (x : B p) : B p := open Classical in if h : det M ≠ 0 then (leads_ex hp h x.1).choose else x
theorem act_leads (hp : IsPI p) {M : Mt} (h : det M ≠ 0) (x : B p) : Leads p M x.1 (act hp M x).1 := by
  unfold act
  rw [dif_pos h]
  exact (leads_ex hp h x.1).choose_spec
theorem act_eq (hp : IsPI p) {M : Mt} (h : det M ≠ 0) {x y : B p} (l : Leads p M x.1 y.1) : act hp M x = y := Leads.uniq hp.toIsPr (act_leads hp h x) l
theorem act_mul (hp : IsPI p) {M N : Mt} (h : det M ≠ 0) (k : det N ≠ 0) (x : B p) : act hp (mul M N) x = act hp M (act hp N x) :=
  act_eq hp (by rw [det_mul]; exact fun e => (Rat.mul_eq_zero.mp e).elim h k) (Leads.comp hp.toIsPr (act_leads hp k x) (act_leads hp h _))
theorem act_sm (hp : IsPI p) {M : Mt} (h : det M ≠ 0) {k : Rat} (hk : k ≠ 0) (x : B p) : act hp (sm k M) x = act hp M x :=
  act_eq hp (by rw [det_sm]; exact fun e => (Rat.mul_eq_zero.mp e).elim (fun e => (Rat.mul_eq_zero.mp e).elim hk hk) h) (Leads.sm hk (act_leads hp h x))
theorem act_one (hp : IsPI p) (x : B p) : act hp Mt.one x = x := act_eq hp (by rw [det_one]; decide) (Leads.one hp.toIsPr x.1)
theorem act_iso (hp : IsPI p) {M : Mt} (h : det M ≠ 0) : Iso (tree hp) (act hp M) (act hp (adj M)) := by
  have h' : det (adj M) ≠ 0 := by rw [det_adj]; exact h
  refine ⟨fun x y => Leads.ds hp.toIsPr (act_leads hp h x) (act_leads hp h y), fun x => ?_, fun x => ?_⟩
  · rw [← act_mul hp h h', mul_adj, act_sm hp (by rw [det_one]; decide) h, act_one]
  · rw [← act_mul hp h' h, adj_mul, act_sm hp (by rw [det_one]; decide) h, act_one]

/-- a table told at a ball -/
def told (p : Int) (x : Bl) (M : Mt) : Mt := mul (Ti p x) (mul M (Tb p x))
theorem told_eq (hp : IsPr p) (x : Bl) (M : Mt) : told p x M = ⟨M.a - x.2 * M.c, Pw p (-x.1) * (M.a * x.2 + M.b - x.2 * (M.c * x.2 + M.d)), M.c * Pw p x.1, M.c * x.2 + M.d⟩ := by
  have e := pw_inv hp x.1
  unfold told
  apply ext' <;> simp only [mul, Ti, Tb] <;> grind
theorem told_det (hp : IsPr p) (x : Bl) (M : Mt) : det (told p x M) = det M := by
  have e := pw_inv hp x.1
  unfold told
  rw [det_mul, det_mul, det_ti, det_tb]
  grind
theorem told_tr (hp : IsPr p) (x : Bl) (M : Mt) : tr (told p x M) = tr M := by
  rw [told_eq hp]
  simp only [tr]
  grind
theorem told_mul (hp : IsPr p) (x : Bl) (M N : Mt) : told p x (mul M N) = mul (told p x M) (told p x N) := by
  unfold told
  rw [mul_assoc (Ti p x), mul_assoc M (Tb p x), tb_mul hp, ← mul_assoc M]

/-- by how much a table stretches -/
noncomputable def strv (p : Int) (M : Mt) : Int := open Classical in if tr M = 0 then 0 else max 0 (vl p (det M) - 2 * vl p (tr M))

/-- the steps to where a ball is led, by the least parts of the table told there -/
theorem disp_mv (hp : IsPI p) {M : Mt} (h : det M ≠ 0) (x : B p) : ∃ j, Mv p j (told p x.1 M) ∧ (tree hp).d x (act hp M x) = vl p (det M) - 2 * j := by
  have hq := hp.toIsPr
  obtain ⟨j, h1, h2⟩ := Leads.dsp hq (act_leads hp h x)
  refine ⟨j, h1, ?_⟩
  have e := vl_of hq h2
  rw [show det (mul (Ti p x.1) (mul M (Tb p x.1))) = det M from told_det hq x.1 M] at e
  show ds p x.1 (act hp M x).1 = _
  omega

theorem sub_add (hp : IsPr p) {k : Int} {M N : Mt} (h : AllGe p k (sub M N)) (q : AllGe p k N) : AllGe p k M := by
  have e : ∀ a b : Rat, a = a - b + b := fun a b => by grind
  unfold AllGe sub at h
  exact ⟨by rw [e M.a N.a]; exact ge_add hp h.1 q.1, by rw [e M.b N.b]; exact ge_add hp h.2.1 q.2.1, by rw [e M.c N.c]; exact ge_add hp h.2.2.1 q.2.2.1, by rw [e M.d N.d]; exact ge_add hp h.2.2.2 q.2.2.2⟩

theorem str_ok (hp : IsPI p) {M : Mt} (h : det M ≠ 0) : StrOk (tree hp) (act hp M) (strv p M) := by
  have hq := hp.toIsPr
  have vd := vl_vx hq h
  have hMM : det (mul M M) ≠ 0 := by rw [det_mul]; exact fun e => (Rat.mul_eq_zero.mp e).elim h h
  -- the two steps
  have two : ∀ x : B p, ∃ j j2, Mv p j (told p x.1 M) ∧ Mv p j2 (mul (told p x.1 M) (told p x.1 M)) ∧ (tree hp).d x (act hp M x) = vl p (det M) - 2 * j ∧
      (tree hp).d x (act hp M (act hp M x)) = 2 * vl p (det M) - 2 * j2 := fun x => by
    obtain ⟨j, a1, a2⟩ := disp_mv hp h x
    obtain ⟨j2, b1, b2⟩ := disp_mv hp hMM x
    rw [told_mul hq] at b1
    rw [act_mul hp h h, det_mul, vl_mul hq h h] at b2
    exact ⟨j, j2, a1, b1, a2, by omega⟩
  have trj : ∀ (x : B p) (j : Int), Mv p j (told p x.1 M) → Ge p j (tr M) := fun x j a => by
    have := ag_tr hq a.1
    rwa [told_tr hq] at this
  have sqe : ∀ x : B p, mul (told p x.1 M) (told p x.1 M) = sub (sm (tr M) (told p x.1 M)) (sm (det M) Mt.one) := fun x => by
    rw [sq_eq, told_tr hq, told_det hq]
  have done : ∀ k, k ≤ vl p (det M) → AllGe p k (sm (det M) Mt.one) := fun k hk => by
    have := ag_sm hq (vx_ge vd) (ag_one hq)
    exact ag_mono hq this (by omega)
  have nn : 0 ≤ strv p M := by
    unfold strv
    split <;> omega
  refine ⟨nn, fun z => ?_, fun z h0 h2 => ?_, fun hpos => ⟨hpos, fun z => ?_⟩⟩
  · obtain ⟨j, j2, a, b, c, d⟩ := two z
    have n0 := (tree hp).nn z (act hp M z)
    unfold strv
    split
    · exact n0
    · rename_i ht
      have := (ge_iff hq ht j).mp (trj z j a)
      omega
  · obtain ⟨j, j2, a, b, c, d⟩ := two z
    have e2 : j2 = 2 * j := by omega
    have hD : 2 * j + 1 ≤ vl p (det M) := by omega
    have no : ¬ AllGe p (2 * j + 1) (sm (tr M) (told p z.1 M)) := fun q => by
      apply b.2
      rw [e2, sqe]
      exact ag_sub hq q (done _ hD)
    by_cases ht : tr M = 0
    · exact absurd (by
        rw [ht]
        have e : sm 0 (told p z.1 M) = ⟨0, 0, 0, 0⟩ := by apply ext' <;> simp only [sm] <;> grind
        rw [e]
        exact ⟨ge_zero hq _, ge_zero hq _, ge_zero hq _, ge_zero hq _⟩) no
    · have g := (ge_iff hq ht j).mp (trj z j a)
      have l : ¬ j + 1 ≤ vl p (tr M) := fun q => no (by
        have := ag_sm hq (ge_mono hq (vx_ge (vl_vx hq ht)) q) a.1
        exact ag_mono hq this (by omega))
      unfold strv
      rw [if_neg ht]
      omega
  · obtain ⟨j, j2, a, b, c, d⟩ := two z
    by_cases ht : tr M = 0
    · unfold strv at hpos
      rw [if_pos ht] at hpos
      omega
    · have g := (ge_iff hq ht j).mp (trj z j a)
      have es : strv p M = vl p (det M) - 2 * vl p (tr M) := by
        unfold strv at hpos ⊢
        rw [if_neg ht] at hpos ⊢
        omega
      have vt := vl_vx hq ht
      have m2 : Mv p (vl p (tr M) + j) (mul (told p z.1 M) (told p z.1 M)) := by
        constructor
        · rw [sqe]
          exact ag_sub hq ((ag_sm_iff hq vt).mpr a.1) (done _ (by omega))
        · intro q
          rw [sqe] at q
          have := sub_add hq q (done _ (by omega))
          rw [show vl p (tr M) + j + 1 = vl p (tr M) + (j + 1) by omega] at this
          exact a.2 ((ag_sm_iff hq vt).mp this)
      have e := mv_uniq hq b m2
      exact ⟨vl p (tr M) - j, by omega, by omega, by omega⟩

/-- on the line: the told table has no fewer parts than the sum -/
theorem ax_ge (hp : IsPI p) {M : Mt} (h : det M ≠ 0) (hs : 0 < strv p M) {x : B p} (hx : Ax (tree hp) (act hp M) (strv p M) x) : AllGe p (vl p (tr M)) (told p x.1 M) := by
  have hq := hp.toIsPr
  obtain ⟨j, a, b⟩ := disp_mv hp h x
  have hx' : (tree hp).d x (act hp M x) = strv p M := hx
  have es : strv p M = vl p (det M) - 2 * vl p (tr M) := by
    unfold strv at hs ⊢
    by_cases ht : tr M = 0
    · rw [if_pos ht] at hs; omega
    · rw [if_neg ht] at hs ⊢; omega
  have e : j = vl p (tr M) := by omega
  rw [← e]
  exact a.1

/-- the table G H - H G -/
def comm (G H : Mt) : Mt := sub (mul G H) (mul H G)

/-- levels of balls on both lines -/
theorem level_near (hp : IsPI p) {G H : Mt} (hG : det G ≠ 0) (hH : det H ≠ 0) (sG : 0 < strv p G) (sH : 0 < strv p H) (hC : det (comm G H) ≠ 0) {x y : B p}
    (gx : Ax (tree hp) (act hp G) (strv p G) x) (hx : Ax (tree hp) (act hp H) (strv p H) x) (gy : Ax (tree hp) (act hp G) (strv p G) y) (hy : Ax (tree hp) (act hp H) (strv p H) y)
    (hle : y.1.1 ≤ x.1.1) : x.1.1 - y.1.1 ≤ vl p (det (comm G H)) - 2 * vl p (tr G) - 2 * vl p (tr H) := by
  have hq := hp.toIsPr
  have a1 := ax_ge hp hG sG gx
  have a2 := ax_ge hp hH sH hx
  have a3 := ax_ge hp hG sG gy
  have a4 := ax_ge hp hH sH hy
  rw [told_eq hq] at a1 a2 a3 a4
  obtain ⟨⟨n, q⟩, okx⟩ := x
  obtain ⟨⟨n', q'⟩, oky⟩ := y
  generalize vl p (tr G) = s at *
  generalize vl p (tr H) = r at *
  obtain ⟨ga, gb, gc, gd⟩ := a1
  obtain ⟨ha, hb, hc, hd⟩ := a2
  obtain ⟨_, _, gc', _⟩ := a3
  obtain ⟨_, _, hc', _⟩ := a4
  dsimp only at ga gb gc gd ha hb hc hd gc' hc' hle ⊢
  have inv := pw_inv hq n
  have inv' := pw_inv hq n'
  -- numbers told at (0, q)
  have f1 : Ge p (s + n) (G.a * q + G.b - q * (G.c * q + G.d)) := by
    have := (ge_shift hq (j := s) (k := n) (x := Pw p (-n) * (G.a * q + G.b - q * (G.c * q + G.d)))).mpr gb
    rwa [← Rat.mul_assoc, show Pw p n * Pw p (-n) = 1 by grind, Rat.one_mul] at this
  have f2 : Ge p (r + n) (H.a * q + H.b - q * (H.c * q + H.d)) := by
    have := (ge_shift hq (j := r) (k := n) (x := Pw p (-n) * (H.a * q + H.b - q * (H.c * q + H.d)))).mpr hb
    rwa [← Rat.mul_assoc, show Pw p n * Pw p (-n) = 1 by grind, Rat.one_mul] at this
  have c1 : Ge p (s - n') G.c := by
    have := ge_mul hq gc' (vx_ge (vx_pw hq (-n')))
    rwa [Rat.mul_assoc, show Pw p n' * Pw p (-n') = 1 by grind, Rat.mul_one] at this
  have c2 : Ge p (r - n') H.c := by
    have := ge_mul hq hc' (vx_ge (vx_pw hq (-n')))
    rwa [Rat.mul_assoc, show Pw p n' * Pw p (-n') = 1 by grind, Rat.mul_one] at this
  generalize hfg : G.a * q + G.b - q * (G.c * q + G.d) = f at *
  generalize hfh : H.a * q + H.b - q * (H.c * q + H.d) = f' at *
  generalize hag : G.a - q * G.c = A at *
  generalize hah : H.a - q * H.c = A' at *
  generalize hdg : G.c * q + G.d = D at *
  generalize hdh : H.c * q + H.d = D' at *
  have e : det (comm G H) = (f * H.c - f' * G.c) * (G.c * f' - H.c * f) - (A * f' + f * D' - (A' * f + f' * D)) * (G.c * A' + D * H.c - (H.c * A + D' * G.c)) := by
    subst hag hah hdg hdh
    simp only [comm, det, sub, mul]
    grind
  have k1 : Ge p (s + r + n - n') (f * H.c - f' * G.c) := ge_sub hq (ge_mono hq (ge_mul hq f1 c2) (by omega)) (ge_mono hq (ge_mul hq f2 c1) (by omega))
  have k2 : Ge p (s + r + n - n') (G.c * f' - H.c * f) := ge_sub hq (ge_mono hq (ge_mul hq c1 f2) (by omega)) (ge_mono hq (ge_mul hq c2 f1) (by omega))
  have k3 : Ge p (s + r + n) (A * f' + f * D' - (A' * f + f' * D)) :=
    ge_sub hq (ge_add hq (ge_mono hq (ge_mul hq ga f2) (by omega)) (ge_mono hq (ge_mul hq f1 hd) (by omega))) (ge_add hq (ge_mono hq (ge_mul hq ha f1) (by omega)) (ge_mono hq (ge_mul hq f2 gd) (by omega)))
  have k4 : Ge p (s + r - n') (G.c * A' + D * H.c - (H.c * A + D' * G.c)) :=
    ge_sub hq (ge_add hq (ge_mono hq (ge_mul hq c1 ha) (by omega)) (ge_mono hq (ge_mul hq gd c2) (by omega))) (ge_add hq (ge_mono hq (ge_mul hq c2 ga) (by omega)) (ge_mono hq (ge_mul hq hd c1) (by omega)))
  have k5 : Ge p (2 * s + 2 * r + (n - n')) (det (comm G H)) := by
    rw [e]
    exact ge_sub hq (ge_mono hq (ge_mul hq k1 k2) (by omega)) (ge_mono hq (ge_mul hq k3 k4) (by omega))
  have := (ge_iff hq hC _).mp k5
  omega

/-- two balls on both lines are not far from one another -/
theorem shared_near (hp : IsPI p) {G H : Mt} (hG : det G ≠ 0) (hH : det H ≠ 0) (sG : 0 < strv p G) (sH : 0 < strv p H) (hC : det (comm G H) ≠ 0) {x y : B p}
    (gx : Ax (tree hp) (act hp G) (strv p G) x) (hx : Ax (tree hp) (act hp H) (strv p H) x) (gy : Ax (tree hp) (act hp G) (strv p G) y) (hy : Ax (tree hp) (act hp H) (strv p H) y) :
    (tree hp).d x y ≤ 2 * (vl p (det (comm G H)) - 2 * vl p (tr G) - 2 * vl p (tr H)) := by
  have hq := hp.toIsPr
  have l := tl_le hq x.1 y.1
  have hk : (tree hp).d x y = x.1.1 + y.1.1 - 2 * tl p x.1 y.1 := rfl
  have IG := act_iso hp hG
  have IH := act_iso hp hH
  have HG := (str_ok hp hG).hyp sG
  have HH := (str_ok hp hH).hyp sH
  -- the ball at the top of the road
  have z1 := (tree hp).on1 x y (x.1.1 - tl p x.1 y.1) (by omega) (by omega)
  have z2 := (tree hp).on2 x y (x.1.1 - tl p x.1 y.1) (by omega) (by omega)
  have lz : ((tree hp).on x y (x.1.1 - tl p x.1 y.1)).1.1 = tl p x.1 y.1 := by
    show (onB hp x y _).1.1 = _
    unfold onB
    rw [if_pos (Int.le_refl _), nb_n]
    omega
  generalize (tree hp).on x y (x.1.1 - tl p x.1 y.1) = z at *
  have gz := Ax.convex IG HG gx gy (z := z) (by omega)
  have hz := Ax.convex IH HH hx hy (z := z) (by omega)
  have e1 := level_near hp hG hH sG sH hC gx hx gz hz (by omega)
  have e2 := level_near hp hG hH sG sH hC gy hy gz hz (by omega)
  omega
end
end Bt
-- BmLay
set_option maxRecDepth 100000
set_option maxHeartbeats 2000000
/-! BmLay: readings told by data. What stands in the slots is told by data (tuples, lists, ints ..); heaps only grow. -/
namespace Bm
open PySem PySem.Spec PyProof.Rows L2

abbrev Ex (H H' : Hp) : Prop := Evl.Ex H H'

mutual
/-- v is the data d; its lists are tracked -/
inductive DD (K : PySem.W.Frag) (H : Hp) : V → PyData → Prop
  | non : DD K H .non .none
  | bl (b : Bool) : DD K H (.bl b) (.bool b)
  | int (i : Int) : DD K H (.int i) (.int i)
  | str (x : Str) : DD K H (.str x) (.str x)
  | lst {a : Addr} {xs : List V} {ds : List PyData} : H a = some (.lst xs) → DDs K H xs ds → DD K H (.ref a) (.list ds)
  | tup {a : Addr} {xs : List V} {ds : List PyData} : SqT K H a xs → DDs K H xs ds → DD K H (.ref a) (.tuple ds)
  /-- a list that is only read -/
  | rd {a : Addr} {xs : List V} {ds : List PyData} : SqL K H a xs → DDs K H xs ds → DD K H (.ref a) (.dict [(.list ds, .none)])
  /-- some object, nothing told of it -/
  | obj (a : Addr) : DD K H (.ref a) (.dict [(.int (a : Nat), .none)])
inductive DDs (K : PySem.W.Frag) (H : Hp) : List V → List PyData → Prop
  | nil : DDs K H [] []
  | cons {v : V} {vs : List V} {d : PyData} {ds : List PyData} : DD K H v d → DDs K H vs ds → DDs K H (v :: vs) (d :: ds)
end

section
variable {K : PySem.W.Frag} {H H' : Hp}
mutual
theorem DD.mono (e : Ex H H') : ∀ {d : PyData} {v : V}, DD K H v d → DD K H' v d
  | _, _, .non => .non
  | _, _, .bl b => .bl b
  | _, _, .int i => .int i
  | _, _, .str x => .str x
  | _, _, .lst h r => .lst (e _ _ h) (DDs.mono e r)
  | _, _, .tup h r => .tup (Evl.ex_t e h) (DDs.mono e r)
  | _, _, .rd h r => .rd (Evl.ex_l e h) (DDs.mono e r)
  | _, _, .obj a => .obj a
theorem DDs.mono (e : Ex H H') : ∀ {ds : List PyData} {vs : List V}, DDs K H vs ds → DDs K H' vs ds
  | _, _, .nil => .nil
  | _, _, .cons a r => .cons (DD.mono e a) (DDs.mono e r)
end
mutual
theorem DD.dp0 : ∀ {d : PyData} {v : V}, DD K H v d → d.canLay0 = true → Dp K H v d
  | _, _, .non, _ => .non
  | _, _, .bl b, _ => .bl b
  | _, _, .int i, _ => .int i
  | _, _, .str x, _ => .str x
  | _, _, .lst h r, c => .lst (SqL.of h) (DDs.dp0 r c)
  | _, _, .tup h r, c => .tup h (DDs.dp0 r c)
  | _, _, .rd h r, c => by cases c
  | _, _, .obj a, c => by cases c
theorem DDs.dp0 : ∀ {ds : List PyData} {vs : List V}, DDs K H vs ds → PyData.canLayAll0 ds = true → DpAll K H vs ds
  | _, _, .nil, _ => .nil
  | _, _, .cons a r, c => by
    have c' := Bool.and_eq_true_iff.mp c
    exact .cons (DD.dp0 a c'.1) (DDs.dp0 r c'.2)
end
theorem DDs.len : ∀ {ds : List PyData} {vs : List V}, DDs K H vs ds → vs.length = ds.length
  | _, _, .nil => rfl
  | _, _, .cons _ r => congrArg (· + 1) (DDs.len r)
theorem DDs.get : ∀ {ds : List PyData} {vs : List V} {i : Nat} {d : PyData}, DDs K H vs ds → ds[i]? = some d → ∃ v, vs[i]? = some v ∧ DD K H v d
  | _, _, _, _, .nil, e => by simp at e
  | _, _, 0, _, .cons a r, e => by simp at e; subst e; exact ⟨_, rfl, a⟩
  | _, _, i + 1, _, .cons a r, e => by
    obtain ⟨v, h1, h2⟩ := DDs.get (i := i) r (by simpa using e)
    exact ⟨v, by simpa using h1, h2⟩
theorem DDs.append : ∀ {ds es : List PyData} {vs ws : List V}, DDs K H vs ds → DDs K H ws es → DDs K H (vs ++ ws) (ds ++ es)
  | _, _, _, _, .nil, q => q
  | _, _, _, _, .cons a r, q => .cons a (DDs.append r q)
theorem DDs.take : ∀ {ds : List PyData} {vs : List V} (n : Nat), DDs K H vs ds → DDs K H (vs.take n) (ds.take n)
  | _, _, 0, _ => .nil
  | _, _, _ + 1, .nil => .nil
  | _, _, n + 1, .cons a r => .cons a (DDs.take n r)
theorem DDs.drop : ∀ {ds : List PyData} {vs : List V} (n : Nat), DDs K H vs ds → DDs K H (vs.drop n) (ds.drop n)
  | _, _, 0, r => r
  | _, _, _ + 1, .nil => .nil
  | _, _, n + 1, .cons _ r => DDs.drop n r
theorem DDs.reverse : ∀ {ds : List PyData} {vs : List V}, DDs K H vs ds → DDs K H vs.reverse ds.reverse
  | _, _, .nil => .nil
  | _, _, .cons a r => by
    rw [List.reverse_cons, List.reverse_cons]
    exact DDs.append (DDs.reverse r) (.cons a .nil)

/-- the slots, told by data; none: nothing is told -/
inductive Sl (K : PySem.W.Frag) (H : Hp) : L2.St → List (Option PyData) → Prop
  | nil : Sl K H [] []
  | skip {x : Option V} {σ : L2.St} {S : List (Option PyData)} : Sl K H σ S → Sl K H (x :: σ) (none :: S)
  | cons {v : V} {d : PyData} {σ : L2.St} {S : List (Option PyData)} : DD K H v d → Sl K H σ S → Sl K H (some v :: σ) (some d :: S)
theorem Sl.mono (e : Ex H H') : ∀ {S : List (Option PyData)} {σ : L2.St}, Sl K H σ S → Sl K H' σ S
  | _, _, .nil => .nil
  | _, _, .skip r => .skip (Sl.mono e r)
  | _, _, .cons a r => .cons (a.mono e) (Sl.mono e r)
theorem Sl.get : ∀ {S : List (Option PyData)} {σ : L2.St} {i : Nat} {d : PyData}, Sl K H σ S → S[i]? = some (some d) → ∃ v, σ[i]? = some (some v) ∧ DD K H v d
  | _, _, _, _, .nil, e => by simp at e
  | _, _, 0, _, .skip r, e => by simp at e
  | _, _, 0, _, .cons a r, e => by simp at e; subst e; exact ⟨_, rfl, a⟩
  | _, _, i + 1, _, .skip r, e => by
    obtain ⟨v, h1, h2⟩ := Sl.get (i := i) r (by simpa using e)
    exact ⟨v, by simpa using h1, h2⟩
  | _, _, i + 1, _, .cons a r, e => by
    obtain ⟨v, h1, h2⟩ := Sl.get (i := i) r (by simpa using e)
    exact ⟨v, by simpa using h1, h2⟩
theorem Sl.set {v : V} {d : PyData} (a : DD K H v d) : ∀ {S : List (Option PyData)} {σ : L2.St} (i : Nat), Sl K H σ S → Sl K H (σ.set i (some v)) (S.set i (some d))
  | _, _, _, .nil => .nil
  | _, _, 0, .skip r => .cons a r
  | _, _, 0, .cons _ r => .cons a r
  | _, _, i + 1, .skip r => .skip (Sl.set a i r)
  | _, _, i + 1, .cons b r => .cons b (Sl.set a i r)
theorem Sl.unset : ∀ {S : List (Option PyData)} {σ : L2.St} (x : Option V) (i : Nat), Sl K H σ S → Sl K H (σ.set i x) (S.set i none)
  | _, _, _, _, .nil => .nil
  | _, _, _, 0, .skip r => .skip r
  | _, _, _, 0, .cons _ r => .skip r
  | _, _, x, i + 1, .skip r => .skip (Sl.unset x i r)
  | _, _, x, i + 1, .cons b r => .cons b (Sl.unset x i r)
theorem Sl.start : ∀ {ds : List PyData} {vs : List V} {n : Nat}, DDs K H vs ds → Sl K H (vs.map some ++ List.replicate n none) (ds.map some ++ List.replicate n none)
  | _, _, 0, .nil => .nil
  | _, _, n + 1, .nil => .skip (Sl.start (n := n) .nil)
  | _, _, _, .cons a r => .cons a (Sl.start r)
end

/-! ### what stands aside: objects that are told elsewhere -/
structure Fr where
  ms : Addr → Bool
  ok : Hp → Prop
  loc : ∀ H H', (∀ b, ms b = true → H' b = H b) → ok H → ok H'
  tr : ∀ H b, ok H → ms b = true → H b ≠ none
def Fr.mk' (F : Fr) (H : Hp) : Hp := fun b => if F.ms b = true then none else H b
def Fr.no : Fr := ⟨fun _ => false, fun _ => True, fun _ _ _ _ => trivial, fun _ _ _ h => by cases h⟩
theorem Fr.sub (F : Fr) {H : Hp} : Ex (F.mk' H) H := fun a o h => by
  unfold Fr.mk' at h
  split at h
  · cases h
  · exact h
theorem Fr.at {F : Fr} {H : Hp} {p : Addr} (h : F.ms p = false) : F.mk' H p = H p := by
  unfold Fr.mk'
  rw [h]
  rfl
theorem Fr.out {F : Fr} {H : Hp} {p : Addr} (o : F.ok H) (h : H p = none) : F.ms p = false := by
  cases e : F.ms p with
  | false => rfl
  | true => exact absurd h (F.tr H p o e)
theorem Fr.put {F : Fr} {H : Hp} {p : Addr} {u : HO} (o : F.ok H) (m : F.ms p = false) : F.ok (upd H p u) := F.loc H _ (fun b hb => by
  have : b ≠ p := fun e => by rw [e, m] at hb; cases hb
  rw [upd_ne this]) o
theorem Fr.mk_put {F : Fr} {H : Hp} {p : Addr} {u : HO} (m : F.ms p = false) : F.mk' (upd H p u) = upd (F.mk' H) p u := by
  funext b
  by_cases e : b = p
  · subst e
    rw [Fr.at m, upd_same, upd_same]
  · rw [upd_ne e]
    unfold Fr.mk'
    rw [upd_ne e]
def Go (F : Fr) (H H' : Hp) : Prop := F.ok H' ∧ Ex (F.mk' H) (F.mk' H')
abbrev DF (F : Fr) (K : PySem.W.Frag) (H : Hp) (v : V) (d : PyData) : Prop := DD K (F.mk' H) v d
abbrev DFs (F : Fr) (K : PySem.W.Frag) (H : Hp) (v : List V) (d : List PyData) : Prop := DDs K (F.mk' H) v d
structure SF (F : Fr) (K : PySem.W.Frag) (H : Hp) (σ : L2.St) (S : List (Option PyData)) : Prop where
  ok : F.ok H
  sl : Sl K (F.mk' H) σ S
section
variable {F : Fr} {K : PySem.W.Frag} {H H1 H2 : Hp}
theorem Go.trans (a : Go F H H1) (b : Go F H1 H2) : Go F H H2 := ⟨b.1, a.2.trans b.2⟩
theorem Go.rf (a : Go F H H1) : Go F H1 H1 := ⟨a.1, Evl.Ex.refl _⟩
theorem Go.stp {p : Addr} {o : HO} (a : Go F H H1) (hp : H1 p = none) : Go F H1 (upd H1 p o) := by
  have m := Fr.out a.1 hp
  refine ⟨Fr.put a.1 m, ?_⟩
  rw [Fr.mk_put m]
  refine Evl.Ex.new ?_
  rw [Fr.at m]
  exact hp
theorem Go.new {p : Addr} {o : HO} (a : Go F H H1) (hp : H1 p = none) : Go F H (upd H1 p o) := a.trans (a.stp hp)
theorem Go.sm {p : Addr} {o : HO} (a : Go F H H1) (hp : H1 p = none) : F.mk' (upd H1 p o) p = some o := by
  rw [Fr.mk_put (Fr.out a.1 hp)]
  exact upd_same
theorem SF.rf {σ : L2.St} {S : List (Option PyData)} (h : SF F K H σ S) : Go F H H := ⟨h.ok, Evl.Ex.refl _⟩
theorem SF.mono {σ : L2.St} {S : List (Option PyData)} (h : SF F K H σ S) (e : Go F H H1) : SF F K H1 σ S := ⟨e.1, h.sl.mono e.2⟩
theorem SF.get {σ : L2.St} {S : List (Option PyData)} {i : Nat} {d : PyData} (h : SF F K H σ S) (e : S[i]? = some (some d)) : ∃ v, σ[i]? = some (some v) ∧ DF F K H v d := h.sl.get e
theorem SF.set {σ : L2.St} {S : List (Option PyData)} {v : V} {d : PyData} (h : SF F K H σ S) (a : DF F K H v d) (i : Nat) : SF F K H (σ.set i (some v)) (S.set i (some d)) := ⟨h.ok, h.sl.set a i⟩
theorem SF.unset {σ : L2.St} {S : List (Option PyData)} (h : SF F K H σ S) (x : Option V) (i : Nat) : SF F K H (σ.set i x) (S.set i none) := ⟨h.ok, h.sl.unset x i⟩
theorem dp_of {v : V} {d : PyData} (h : DF F K H v d) (s : SeqAt.shaped d = true) : Dp K H v d := (h.mono F.sub).dp0 (SeqAt.canLay_of_shaped s)
end

abbrev SS := List (Option PyData)

/-! ### what readings give, told by data -/
def EV (F : Fr) (K : PySem.W.Frag) (te : TE) (S : SS) (W : PyData → Prop) : Prop := ∀ σ H, SF F K H σ S → ∀ Q : VK, (∀ v d H', Go F H H' → DF F K H' v d → W d → Q v H') → te σ H Q
def EA (F : Fr) (K : PySem.W.Frag) (ta : TA) (S : SS) (W : List PyData → Prop) : Prop := ∀ σ H, SF F K H σ S → ∀ Q : List V → Hp → Prop, (∀ vs ds H', Go F H H' → DFs F K H' vs ds → W ds → Q vs H') → ta σ H Q
def ET (F : Fr) (K : PySem.W.Frag) (tt : TT) (S : SS) (W : Bool → Prop) : Prop := ∀ σ H, SF F K H σ S → ∀ Q : Bool → Hp → Prop, (∀ b H', Go F H H' → W b → Q b H') → tt σ H Q
/-- a statement: N of the slots behind it, R of what is returned -/
def XS (F : Fr) (K : PySem.W.Frag) (ts : TS) (S : SS) (N : SS → Prop) (R : PyData → Prop) : Prop := ∀ σ H, SF F K H σ S → ∀ D : Ends,
  (∀ σ' S' H', Go F H H' → SF F K H' σ' S' → N S' → D.nx σ' H') → (∀ v d H', Go F H H' → DF F K H' v d → R d → D.rt v H') → ts D σ H
/-- a target -/
def EG (F : Fr) (K : PySem.W.Frag) (g : TG) (d : PyData) (S : SS) (N : SS → Prop) : Prop := ∀ v σ H, DF F K H v d → SF F K H σ S → ∀ Q : L2.St → Hp → Prop, (∀ σ' S', SF F K H σ' S' → N S' → Q σ' H) → g v σ H Q
def EGs (F : Fr) (K : PySem.W.Frag) (g : TGs) (ds : List PyData) (S : SS) (N : SS → Prop) : Prop := ∀ vs σ H, DFs F K H vs ds → SF F K H σ S → ∀ Q : L2.St → Hp → Prop, (∀ σ' S', SF F K H σ' S' → N S' → Q σ' H) → g vs σ H Q

section
variable {F : Fr} {K : PySem.W.Frag} {S : SS} {W : PyData → Prop} {WA : List PyData → Prop} {WB : Bool → Prop} {ta tb te tc : TE} {tr : TA} {t u : TT} {i j : Nat} {d : PyData}

theorem EV.imp {W' : PyData → Prop} (h : EV F K te S W) (k : ∀ d, W d → W' d) : EV F K te S W' := fun σ H hs Q q => h σ H hs Q fun v d H' e a w => q v d H' e a (k d w)
theorem EA.imp {W' : List PyData → Prop} (h : EA F K tr S WA) (k : ∀ d, WA d → W' d) : EA F K tr S W' := fun σ H hs Q q => h σ H hs Q fun v d H' e a w => q v d H' e a (k d w)
theorem ET.imp {W' : Bool → Prop} (h : ET F K t S WB) (k : ∀ d, WB d → W' d) : ET F K t S W' := fun σ H hs Q q => h σ H hs Q fun b H' e w => q b H' e (k b w)

/-! values -/
theorem ev_var (h : S[i]? = some (some d)) (w : W d) : EV F K (tVar i) S W := fun σ H hs Q q => by
  obtain ⟨v, e, a⟩ := hs.get h
  exact ⟨v, e, q v d H hs.rf a w⟩
theorem ev_int {n : Int} (w : W (.int n)) : EV F K (tC (.int n)) S W := fun σ H hs Q q => q _ _ H hs.rf (.int n) w
theorem ev_bl {b : Bool} (w : W (.bool b)) : EV F K (tC (.bl b)) S W := fun σ H hs Q q => q _ _ H hs.rf (.bl b) w
theorem ev_str {x : Str} (w : W (.str x)) : EV F K (tC (.str x)) S W := fun σ H hs Q q => q _ _ H hs.rf (.str x) w
theorem ev_non (w : W .none) : EV F K (tC .non) S W := fun σ H hs Q q => q _ _ H hs.rf .non w
/-- a module's tuple -/
theorem ev_glob {a : Addr} (h : ∀ H, DF F K H (.ref a) d) (w : W d) : EV F K (tC (.ref a)) S W := fun σ H hs Q q => q _ _ H hs.rf (h H) w

/-- two values in a row -/
theorem ev_op {r : R2} {W2 : PyData → PyData → Prop} (h : EV F K ta S fun d => EV F K tb S fun e => W2 d e)
    (hr : ∀ d e x y H, Go F H H → W2 d e → DF F K H x d → DF F K H y e → ∀ Q : VK, (∀ v d H', Go F H H' → DF F K H' v d → W d → Q v H') → r x y H Q) : EV F K (tOp r ta tb) S W := fun σ H hs Q q =>
  h σ H hs _ fun x d H1 e1 a1 h2 => h2 σ H1 (hs.mono e1) _ fun y e H2 e2 a2 w => hr d e x y H2 (e1.trans e2).rf w (a1.mono e2.2) a2 Q fun v z H3 e3 a3 w3 => q v z H3 ((e1.trans e2).trans e3) a3 w3
theorem int_inv {H : Hp} {v : V} {n : Int} (h : DD K H v (.int n)) : v = .int n := by cases h; rfl
theorem bl_inv {H : Hp} {v : V} {n : Bool} (h : DD K H v (.bool n)) : v = .bl n := by cases h; rfl
theorem str_inv {H : Hp} {v : V} {n : Str} (h : DD K H v (.str n)) : v = .str n := by cases h; rfl
theorem tup_inv {H : Hp} {v : V} {ds : List PyData} (h : DD K H v (.tuple ds)) : ∃ a xs, v = .ref a ∧ SqT K H a xs ∧ DDs K H xs ds := by cases h; exact ⟨_, _, rfl, by assumption, by assumption⟩
theorem lst_inv {H : Hp} {v : V} {ds : List PyData} (h : DD K H v (.list ds)) : ∃ a xs, v = .ref a ∧ H a = some (.lst xs) ∧ DDs K H xs ds := by cases h; exact ⟨_, _, rfl, by assumption, by assumption⟩

theorem ev_rI0 {g : Int → Int → V} {f : Int → Int → PyData} (hf : ∀ H i j, DF F K H (g i j) (f i j)) (h : EV F K ta S fun d => EV F K tb S fun e => ∃ i j, d = .int i ∧ e = .int j ∧ W (f i j)) : EV F K (tOp (rI0 g) ta tb) S W :=
  ev_op h fun d e x y H g0 ⟨i, j, e1, e2, w⟩ a1 a2 Q q => by
    subst e1 e2
    exact ⟨i, j, int_inv a1, int_inv a2, q _ _ H g0 (hf H i j) w⟩
theorem ev_rI {C : Int → Int → Prop} {g : Int → Int → V} {f : Int → Int → PyData} (hf : ∀ H i j, DF F K H (g i j) (f i j)) (h : EV F K ta S fun d => EV F K tb S fun e => ∃ i j, d = .int i ∧ e = .int j ∧ C i j ∧ W (f i j)) : EV F K (tOp (rI C g) ta tb) S W :=
  ev_op h fun d e x y H g0 ⟨i, j, e1, e2, c, w⟩ a1 a2 Q q => by
    subst e1 e2
    exact ⟨i, j, int_inv a1, int_inv a2, c, q _ _ H g0 (hf H i j) w⟩
theorem ev_add (h : EV F K ta S fun d => EV F K tb S fun e => ∃ i j, d = .int i ∧ e = .int j ∧ W (.int (i + j))) : EV F K (tOp (rI0 fun i j => .int (i + j)) ta tb) S W := ev_rI0 (f := fun i j => .int (i + j)) (fun _ _ _ => .int _) h
theorem ev_sub (h : EV F K ta S fun d => EV F K tb S fun e => ∃ i j, d = .int i ∧ e = .int j ∧ W (.int (i - j))) : EV F K (tOp (rI0 fun i j => .int (i - j)) ta tb) S W := ev_rI0 (f := fun i j => .int (i - j)) (fun _ _ _ => .int _) h
theorem ev_lt (h : EV F K ta S fun d => EV F K tb S fun e => ∃ i j, d = .int i ∧ e = .int j ∧ W (.bool (decide (i < j)))) : EV F K (tOp (rI0 fun i j => .bl (decide (i < j))) ta tb) S W := ev_rI0 (f := fun i j => .bool (decide (i < j))) (fun _ _ _ => .bl _) h
theorem ev_le (h : EV F K ta S fun d => EV F K tb S fun e => ∃ i j, d = .int i ∧ e = .int j ∧ W (.bool (decide (i ≤ j)))) : EV F K (tOp (rI0 fun i j => .bl (decide (i ≤ j))) ta tb) S W := ev_rI0 (f := fun i j => .bool (decide (i ≤ j))) (fun _ _ _ => .bl _) h
theorem ev_gt (h : EV F K ta S fun d => EV F K tb S fun e => ∃ i j, d = .int i ∧ e = .int j ∧ W (.bool (decide (j < i)))) : EV F K (tOp (rI0 fun i j => .bl (decide (j < i))) ta tb) S W := ev_rI0 (f := fun i j => .bool (decide (j < i))) (fun _ _ _ => .bl _) h
theorem ev_ge (h : EV F K ta S fun d => EV F K tb S fun e => ∃ i j, d = .int i ∧ e = .int j ∧ W (.bool (decide (j ≤ i)))) : EV F K (tOp (rI0 fun i j => .bl (decide (j ≤ i))) ta tb) S W := ev_rI0 (f := fun i j => .bool (decide (j ≤ i))) (fun _ _ _ => .bl _) h
theorem ev_neg (h : EV F K ta S fun d => ∃ i, d = .int i ∧ W (.int (-i))) : EV F K (tUn (rU fun i => .int (-i)) ta) S W := fun σ H hs Q q =>
  h σ H hs _ fun x d H1 e1 a1 ⟨i, ed, w⟩ => by
    subst ed
    exact ⟨i, int_inv a1, q _ _ H1 e1 (.int _) w⟩
/-- ==, != of scalars: ints, texts -/
theorem ev_eqI (h : EV F K ta S fun d => EV F K tb S fun e => ∃ i j, d = .int i ∧ e = .int j ∧ W (.bool (decide (i = j)))) : EV F K (tOp rEq ta tb) S W :=
  ev_op h fun d e x y H g0 ⟨i, j, e1, e2, w⟩ a1 a2 Q q => by
    subst e1 e2
    cases int_inv a1
    cases int_inv a2
    refine ⟨rfl, q _ (.bool (decide (i = j))) H g0 ?_ w⟩
    rw [show decide (V.int i = V.int j) = decide (i = j) from decide_eq_decide.mpr ⟨fun e => V.int.inj e, fun e => by rw [e]⟩]
    exact .bl _
theorem ev_neI (h : EV F K ta S fun d => EV F K tb S fun e => ∃ i j, d = .int i ∧ e = .int j ∧ W (.bool (!decide (i = j)))) : EV F K (tOp rNe ta tb) S W :=
  ev_op h fun d e x y H g0 ⟨i, j, e1, e2, w⟩ a1 a2 Q q => by
    subst e1 e2
    cases int_inv a1
    cases int_inv a2
    refine ⟨rfl, q _ (.bool (!decide (i = j))) H g0 ?_ w⟩
    rw [show decide (V.int i = V.int j) = decide (i = j) from decide_eq_decide.mpr ⟨fun e => V.int.inj e, fun e => by rw [e]⟩]
    exact .bl _
theorem ev_eqS (h : EV F K ta S fun d => EV F K tb S fun e => ∃ i j, d = .str i ∧ e = .str j ∧ W (.bool (decide (i = j)))) : EV F K (tOp rEq ta tb) S W :=
  ev_op h fun d e x y H g0 ⟨i, j, e1, e2, w⟩ a1 a2 Q q => by
    subst e1 e2
    cases str_inv a1
    cases str_inv a2
    refine ⟨rfl, q _ (.bool (decide (i = j))) H g0 ?_ w⟩
    rw [show decide (V.str i = V.str j) = decide (i = j) from decide_eq_decide.mpr ⟨fun e => V.str.inj e, fun e => by rw [e]⟩]
    exact .bl _
theorem ev_neS (h : EV F K ta S fun d => EV F K tb S fun e => ∃ i j, d = .str i ∧ e = .str j ∧ W (.bool (!decide (i = j)))) : EV F K (tOp rNe ta tb) S W :=
  ev_op h fun d e x y H g0 ⟨i, j, e1, e2, w⟩ a1 a2 Q q => by
    subst e1 e2
    cases str_inv a1
    cases str_inv a2
    refine ⟨rfl, q _ (.bool (!decide (i = j))) H g0 ?_ w⟩
    rw [show decide (V.str i = V.str j) = decide (i = j) from decide_eq_decide.mpr ⟨fun e => V.str.inj e, fun e => by rw [e]⟩]
    exact .bl _
/-- == of data -/
theorem ev_eqD (h : EV F K ta S fun d => EV F K tb S fun e => SeqAt.shaped d = true ∧ SeqAt.shaped e = true ∧ W (.bool (PyData.eqv d e))) : EV F K (tOp (rEqD K) ta tb) S W :=
  ev_op h fun d e x y H g0 ⟨s1, s2, w⟩ a1 a2 Q q => ⟨d, e, (dp_of a1 s1), (dp_of a2 s2), s1, s2, q _ _ H g0 (.bl _) w⟩
theorem ev_neD (h : EV F K ta S fun d => EV F K tb S fun e => SeqAt.shaped d = true ∧ SeqAt.shaped e = true ∧ W (.bool (!PyData.eqv d e))) : EV F K (tOp (rNeD K) ta tb) S W :=
  ev_op h fun d e x y H g0 ⟨s1, s2, w⟩ a1 a2 Q q => ⟨d, e, (dp_of a1 s1), (dp_of a2 s2), s1, s2, q _ _ H g0 (.bl _) w⟩
theorem ev_inD (h : EV F K ta S fun d => EV F K tb S fun e => ∃ ds, e = .list ds ∧ SeqAt.shaped d = true ∧ SeqAt.shaped (.list ds) = true ∧ W (.bool (ds.any fun z => PyData.eqv z d))) : EV F K (tOp (rInD K) ta tb) S W :=
  ev_op h fun d e x y H g0 ⟨ds, e2, s1, s2, w⟩ a1 a2 Q q => by
    subst e2
    exact ⟨d, ds, (dp_of a1 s1), (dp_of a2 s2), s1, s2, q _ _ H g0 (.bl _) w⟩
/-- x in a written tuple of texts -/
theorem DDs.strs : ∀ {H : Hp} {ys : List Str} {vs : List V}, DDs K H vs (ys.map PyData.str) → vs = ys.map V.str
  | _, [], _, .nil => rfl
  | _, y :: ys, _, .cons a r => by rw [str_inv a, DDs.strs r]; rfl
theorem ev_inS (h : EV F K ta S fun d => EV F K tb S fun e => ∃ (x : Str) (ys : List Str), d = .str x ∧ e = .tuple (ys.map PyData.str) ∧ W (.bool (ys.any fun y => decide (y = x)))) : EV F K (tOp (rIn K false) ta tb) S W :=
  ev_op h fun d e x y H g0 ⟨z, ys, e1, e2, w⟩ a1 a2 Q q => by
    subst e1 e2
    cases str_inv a1
    obtain ⟨a, xs, rfl, hx, hd⟩ := tup_inv a2
    have hxs := DDs.strs hd
    subst hxs
    refine ⟨a, _, rfl, .inr (Evl.ex_t F.sub hx), rfl, ?_, q _ (.bool (ys.any fun y => decide (y = z))) H g0 ?_ w⟩
    · rw [List.all_map]
      exact List.all_eq_true.mpr fun _ _ => rfl
    · have e : inV (.str z) (ys.map V.str) = ys.any fun y => decide (y = z) := by
        unfold inV
        rw [List.any_map]
        rfl
      rw [e]
      exact .bl _
/-- is None -/
def isNo : PyData → Bool
  | .none => true
  | _ => false
theorem isNo_v {H : Hp} {v : V} {d : PyData} (h : DD K H v d) : decide (v = .non) = isNo d := by cases h <;> rfl
theorem ev_isN (h : EV F K ta S fun d => EV F K tb S fun e => e = .none ∧ W (.bool (isNo d))) : EV F K (tOp (fun x y H Q => y = .non ∧ Q (.bl (decide (x = .non))) H) ta tb) S W :=
  ev_op h fun d e x y H g0 ⟨e2, w⟩ a1 a2 Q q => by
    subst e2
    refine ⟨by cases a2; rfl, q _ (.bool (isNo d)) H g0 ?_ w⟩
    rw [isNo_v a1]
    exact .bl _
theorem ev_notN (h : EV F K ta S fun d => EV F K tb S fun e => e = .none ∧ W (.bool (!isNo d))) : EV F K (tOp (fun x y H Q => y = .non ∧ Q (.bl (!decide (x = .non))) H) ta tb) S W :=
  ev_op h fun d e x y H g0 ⟨e2, w⟩ a1 a2 Q q => by
    subst e2
    refine ⟨by cases a2; rfl, q _ (.bool (!isNo d)) H g0 ?_ w⟩
    rw [isNo_v a1]
    exact .bl _

/-! tests -/
theorem et_B (h : EV F K te S fun d => ∃ b, d = .bool b ∧ WB b) : ET F K (tB te) S WB := fun σ H hs Q q => h σ H hs _ fun v d H' e a ⟨b, ed, w⟩ => by
  subst ed
  exact ⟨b, bl_inv a, q b H' e w⟩
theorem et_T (h : EV F K te S fun d => ∃ b, d = .bool b ∧ WB b) : ET F K (tTest te) S WB := fun σ H hs Q q => h σ H hs _ fun v d H' e a ⟨b, ed, w⟩ => by
  subst ed
  exact ⟨b, bl_inv a, q b H' e w⟩
theorem et_and (h : ET F K t S fun b => if b = true then ET F K u S WB else WB false) : ET F K (tAnd t u) S WB := fun σ H hs Q q => h σ H hs _ fun b H1 e w => by
  cases b with
  | true => exact w σ H1 (hs.mono e) Q fun b' H2 e2 w2 => q b' H2 (e.trans e2) w2
  | false => exact q false H1 e w
theorem et_or (h : ET F K t S fun b => if b = true then WB true else ET F K u S WB) : ET F K (tOr t u) S WB := fun σ H hs Q q => h σ H hs _ fun b H1 e w => by
  cases b with
  | true => exact q true H1 e w
  | false => exact w σ H1 (hs.mono e) Q fun b' H2 e2 w2 => q b' H2 (e.trans e2) w2
theorem et_not (h : ET F K t S fun b => WB (!b)) : ET F K (tNot t) S WB := fun σ H hs Q q => h σ H hs _ fun b H1 e w => q (!b) H1 e w
theorem et_yes (w : WB true) : ET F K tYes S WB := fun σ H hs Q q => q true H hs.rf w
/-! bools as values -/
theorem ev_and (h : EV F K ta S fun d => ∃ b, d = .bool b ∧ if b = true then EV F K tb S W else W (.bool false)) : EV F K (tAndV ta tb) S W := fun σ H hs Q q => h σ H hs _ fun v d H1 e a ⟨b, ed, w⟩ => by
  subst ed
  refine ⟨b, bl_inv a, ?_⟩
  cases b with
  | true => exact w σ H1 (hs.mono e) Q fun v' d' H2 e2 a2 w2 => q v' d' H2 (e.trans e2) a2 w2
  | false => exact q _ _ H1 e (.bl false) w
theorem ev_or (h : EV F K ta S fun d => ∃ b, d = .bool b ∧ if b = true then W (.bool true) else EV F K tb S W) : EV F K (tOrV ta tb) S W := fun σ H hs Q q => h σ H hs _ fun v d H1 e a ⟨b, ed, w⟩ => by
  subst ed
  refine ⟨b, bl_inv a, ?_⟩
  cases b with
  | true => exact q _ _ H1 e (.bl true) w
  | false => exact w σ H1 (hs.mono e) Q fun v' d' H2 e2 a2 w2 => q v' d' H2 (e.trans e2) a2 w2
theorem ev_not (h : EV F K ta S fun d => ∃ b, d = .bool b ∧ W (.bool (!b))) : EV F K (tNotV ta) S W := fun σ H hs Q q => h σ H hs _ fun v d H1 e a ⟨b, ed, w⟩ => by
  subst ed
  exact ⟨b, bl_inv a, q _ _ H1 e (.bl _) w⟩
theorem ev_if (h : ET F K t S fun b => if b = true then EV F K ta S W else EV F K tb S W) : EV F K (tIf t ta tb) S W := fun σ H hs Q q => h σ H hs _ fun b H1 e w => by
  cases b with
  | true => exact w σ H1 (hs.mono e) Q fun v' d' H2 e2 a2 w2 => q v' d' H2 (e.trans e2) a2 w2
  | false => exact w σ H1 (hs.mono e) Q fun v' d' H2 e2 a2 w2 => q v' d' H2 (e.trans e2) a2 w2
/-- a comparison of three -/
theorem ev_chain {r r' : R2} {W2 : PyData → PyData → Prop} {W1 : PyData → PyData → PyData → Prop}
    (h : EV F K ta S fun d => EV F K tb S fun e => W2 d e)
    (hr : ∀ d e x y H, Go F H H → W2 d e → DF F K H x d → DF F K H y e → ∀ Q : VK, (∀ v b H', Go F H H' → DF F K H' v (.bool b) → (if b = true then EV F K tc S fun f => W1 d e f else W (.bool false)) → Q v H') → r x y H Q)
    (hr' : ∀ d e f y z H, Go F H H → W1 d e f → DF F K H y e → DF F K H z f → ∀ Q : VK, (∀ v d H', Go F H H' → DF F K H' v d → W d → Q v H') → r' y z H Q) : EV F K (tChain r r' ta tb tc) S W := fun σ H hs Q q =>
  h σ H hs _ fun x d H1 e1 a1 h2 => h2 σ H1 (hs.mono e1) _ fun y e H2 e2 a2 w => hr d e x y H2 (e1.trans e2).rf w (a1.mono e2.2) a2 _ fun v b H3 e3 a3 w3 => by
    refine ⟨b, bl_inv a3, ?_⟩
    cases b with
    | true => exact w3 σ H3 (hs.mono ((e1.trans e2).trans e3)) _ fun z f H4 e4 a4 w4 => hr' d e f y z H4 (((e1.trans e2).trans e3).trans e4).rf w4 (a2.mono (e3.trans e4).2) a4 Q fun v' d' H5 e5 a5 w5 => q v' d' H5 ((((e1.trans e2).trans e3).trans e4).trans e5) a5 w5
    | false => exact q _ _ H3 ((e1.trans e2).trans e3) (.bl false) w3

/-! arguments, displays -/
theorem ea_nil (w : WA []) : EA F K tNil S WA := fun σ H hs Q q => q [] [] H hs.rf .nil w
theorem ea_cons (h : EV F K te S fun d => EA F K tr S fun ds => WA (d :: ds)) : EA F K (tCons te tr) S WA := fun σ H hs Q q =>
  h σ H hs _ fun v d H1 e a w => w σ H1 (hs.mono e) _ fun vs ds H2 e2 a2 w2 => q (v :: vs) (d :: ds) H2 (e.trans e2) (.cons (a.mono e2.2) a2) w2
theorem ea_star (h : EV F K te S fun d => ∃ xs, (d = .list xs ∨ d = .tuple xs) ∧ EA F K tr S fun ds => WA (xs ++ ds)) : EA F K (StX.tStar K te tr) S WA := fun σ H hs Q q =>
  h σ H hs _ fun v d H1 e a ⟨xs, hd, w⟩ => by
    rcases hd with hd | hd
    · subst hd
      obtain ⟨p, ys, rfl, hp, hy⟩ := lst_inv a
      exact ⟨p, ys, rfl, .inr (SqL.of (F.sub _ _ hp)), w σ H1 (hs.mono e) _ fun vs ds H2 e2 a2 w2 => q _ _ H2 (e.trans e2) ((hy.mono e2.2).append a2) w2⟩
    · subst hd
      obtain ⟨p, ys, rfl, hp, hy⟩ := tup_inv a
      exact ⟨p, ys, rfl, .inl (Evl.ex_t F.sub hp), w σ H1 (hs.mono e) _ fun vs ds H2 e2 a2 w2 => q _ _ H2 (e.trans e2) ((hy.mono e2.2).append a2) w2⟩
theorem ev_tup (h : EA F K tr S fun ds => ds.length ≤ sizeLine ∧ W (.tuple ds)) : EV F K (tTup tr) S W := fun σ H hs Q q => h σ H hs _ fun vs ds H1 e a ⟨hl, w⟩ =>
  ⟨by rw [a.len]; exact hl, fun p hp => q _ _ _ (e.new hp) (.tup (SqT.of (e.sm hp)) (a.mono (e.stp hp).2)) w⟩
theorem ev_lst (h : EA F K tr S fun ds => ds.length ≤ sizeLine ∧ W (.list ds)) : EV F K (tLst tr) S W := fun σ H hs Q q => h σ H hs _ fun vs ds H1 e a ⟨hl, w⟩ =>
  ⟨by rw [a.len]; exact hl, fun p hp => q _ _ _ (e.new hp) (.lst (e.sm hp) (a.mono (e.stp hp).2)) w⟩

/-! subscripts, slices -/
theorem ixN_len {α β : Type} {xs : List α} {ys : List β} (h : xs.length = ys.length) (i : Int) : ixN xs.length i = ixN ys.length i := by rw [h]
theorem DDs.atI {H : Hp} {vs : List V} {ds : List PyData} {i : Int} {d : PyData} (h : DDs K H vs ds) (e : L2.atI ds i = some d) : ∃ v, L2.atI vs i = some v ∧ DD K H v d := by
  unfold L2.atI at e ⊢
  rw [h.len]
  cases q : ixN ds.length i with
  | none => rw [q] at e; cases e
  | some j => rw [q] at e; exact h.get e
theorem ev_ixT (h : EV F K ta S fun d => EV F K tb S fun e => ∃ ds i r, d = .tuple ds ∧ e = .int i ∧ L2.atI ds i = some r ∧ W r) : EV F K (tOp (rIxT K) ta tb) S W :=
  ev_op h fun d e x y H g0 ⟨ds, i, r, e1, e2, hr, w⟩ a1 a2 Q q => by
    subst e1 e2
    obtain ⟨a, xs, rfl, hx, hd⟩ := tup_inv a1
    obtain ⟨v, hv, av⟩ := hd.atI hr
    exact ⟨a, xs, i, v, rfl, int_inv a2, Evl.ex_t F.sub hx, hv, q v r H g0 av w⟩
theorem ev_ixL (h : EV F K ta S fun d => EV F K tb S fun e => ∃ ds i r, d = .list ds ∧ e = .int i ∧ L2.atI ds i = some r ∧ W r) : EV F K (tOp (rIxL K) ta tb) S W :=
  ev_op h fun d e x y H g0 ⟨ds, i, r, e1, e2, hr, w⟩ a1 a2 Q q => by
    subst e1 e2
    obtain ⟨a, xs, rfl, hx, hd⟩ := lst_inv a1
    obtain ⟨v, hv, av⟩ := hd.atI hr
    exact ⟨a, xs, i, v, rfl, int_inv a2, SqL.of (F.sub _ _ hx), hv, q v r H g0 av w⟩
/-- xs[lo:hi] of data -/
def cutD (ds : List PyData) (lo hi : Option Int) : List PyData := (ds.drop (HT.sIx ds.length 0 lo)).take (HT.sIx ds.length ds.length hi - HT.sIx ds.length 0 lo)
def EO (F : Fr) (K : PySem.W.Frag) (to : TO) (S : SS) (W : Option Int → Prop) : Prop := ∀ σ H, SF F K H σ S → ∀ Q : Option Int → Hp → Prop, (∀ o H', Go F H H' → W o → Q o H') → to σ H Q
theorem eo_none {W : Option Int → Prop} (w : W none) : EO F K tNoPart S W := fun σ H hs Q q => q none H hs.rf w
theorem eo_some {W : Option Int → Prop} (h : EV F K te S fun d => ∃ i, d = .int i ∧ W (some i)) : EO F K (tPart te) S W := fun σ H hs Q q => h σ H hs _ fun v d H1 e a ⟨i, ed, w⟩ => by
  subst ed
  exact ⟨i, int_inv a, q _ H1 e w⟩
theorem ev_slL {tl th : TO} (h : EV F K te S fun d => EO F K tl S fun lo => EO F K th S fun hi => ∃ ds, d = .list ds ∧ W (.list (cutD ds lo hi))) : EV F K (tSl (rSlL K) te tl th) S W := fun σ H hs Q q =>
  h σ H hs _ fun v d H1 e1 a1 h2 => h2 σ H1 (hs.mono e1) _ fun lo H2 e2 h3 => h3 σ H2 (hs.mono (e1.trans e2)) _ fun hi H3 e3 ⟨ds, ed, w⟩ => by
    subst ed
    obtain ⟨a, xs, rfl, hx, hd⟩ := lst_inv (a1.mono (e2.trans e3).2)
    refine ⟨a, xs, rfl, SqL.of (F.sub _ _ hx), fun p hp => q _ _ _ (((e1.trans e2).trans e3).new hp) (.lst (((e1.trans e2).trans e3).sm hp) ?_) w⟩
    unfold cutV cutD
    rw [hd.len]
    exact ((hd.mono (((e1.trans e2).trans e3).stp hp).2).drop _).take _
theorem cut_all {xs : List PyData} {lo hi : Option Int} (h : HT.sIx xs.length 0 lo = 0 ∧ HT.sIx xs.length xs.length hi = xs.length) : cutD xs lo hi = xs := by
  unfold cutD
  rw [h.1, h.2, List.drop_zero, Nat.sub_zero, List.take_length]
theorem ev_slT {tl th : TO} (h : EV F K te S fun d => EO F K tl S fun lo => EO F K th S fun hi => ∃ ds, d = .tuple ds ∧ W (.tuple (cutD ds lo hi))) : EV F K (tSl (rSlA K) te tl th) S W := fun σ H hs Q q =>
  h σ H hs _ fun v d H1 e1 a1 h2 => h2 σ H1 (hs.mono e1) _ fun lo H2 e2 h3 => h3 σ H2 (hs.mono (e1.trans e2)) _ fun hi H3 e3 ⟨ds, ed, w⟩ => by
    subst ed
    have a3 := a1.mono (e2.trans e3).2
    obtain ⟨a, xs, rfl, hx, hd⟩ := tup_inv a3
    refine ⟨a, xs, rfl, Evl.ex_t F.sub hx, fun hw => ?_, fun _ p hp => q _ _ _ (((e1.trans e2).trans e3).new hp) (.tup (SqT.of (((e1.trans e2).trans e3).sm hp)) ?_) w⟩
    · rw [hd.len] at hw
      rw [cut_all hw] at w
      exact q _ _ H3 ((e1.trans e2).trans e3) a3 w
    · unfold cutV cutD
      rw [hd.len]
      exact ((hd.mono (((e1.trans e2).trans e3).stp hp).2).drop _).take _
theorem ev_revL (h : EV F K te S fun d => ∃ ds, d = .list ds ∧ W (.list ds.reverse)) : EV F K (tRevL K te) S W := fun σ H hs Q q => h σ H hs _ fun v d H1 e1 a1 ⟨ds, ed, w⟩ => by
  subst ed
  obtain ⟨a, xs, rfl, hx, hd⟩ := lst_inv a1
  exact ⟨a, xs, rfl, SqL.of (F.sub _ _ hx), fun p hp => q _ _ _ (e1.new hp) (.lst (e1.sm hp) (hd.mono (e1.stp hp).2).reverse) w⟩

/-! + of lists, of tuples -/
theorem ev_cat (h : EV F K ta S fun d => EV F K tb S fun e => ∃ xs ys, d = .list xs ∧ e = .list ys ∧ xs.length + ys.length ≤ sizeLine ∧ W (.list (xs ++ ys))) : EV F K (tOp rCat ta tb) S W :=
  ev_op h fun d e x y H g0 ⟨xs, ys, e1, e2, hl, w⟩ a1 a2 Q q => by
    subst e1 e2
    obtain ⟨a, us, rfl, hx, hd⟩ := lst_inv a1
    obtain ⟨b, vs, rfl, hy, he⟩ := lst_inv a2
    exact ⟨a, b, us, vs, rfl, rfl, F.sub _ _ hx, F.sub _ _ hy, by rw [hd.len, he.len]; exact hl, fun p hp => q _ _ _ (g0.stp hp) (.lst (g0.sm hp) ((hd.append he).mono (g0.stp hp).2)) w⟩
theorem ev_catT (h : EV F K ta S fun d => EV F K tb S fun e => ∃ xs ys, d = .tuple xs ∧ e = .tuple ys ∧ xs ≠ [] ∧ ys ≠ [] ∧ xs.length + ys.length ≤ sizeLine ∧ W (.tuple (xs ++ ys))) : EV F K (tOp (rCatT K) ta tb) S W :=
  ev_op h fun d e x y H g0 ⟨xs, ys, e1, e2, n1, n2, hl, w⟩ a1 a2 Q q => by
    subst e1 e2
    obtain ⟨a, us, rfl, hx, hd⟩ := tup_inv a1
    obtain ⟨b, vs, rfl, hy, he⟩ := tup_inv a2
    have m1 : us ≠ [] := fun z => n1 (List.length_eq_zero_iff.mp (by rw [← hd.len, z]; rfl))
    have m2 : vs ≠ [] := fun z => n2 (List.length_eq_zero_iff.mp (by rw [← he.len, z]; rfl))
    exact ⟨a, b, us, vs, rfl, rfl, Evl.ex_t F.sub hx, Evl.ex_t F.sub hy, m1, by rw [hd.len, he.len]; exact hl, fun z => absurd z m2, fun _ p hp => q _ _ _ (g0.stp hp) (.tup (SqT.of (g0.sm hp)) ((hd.append he).mono (g0.stp hp).2)) w⟩

/-! built-ins -/
theorem ev_cb {r : List V → Hp → VK → Prop} {W2 : List PyData → Prop} (h : EA F K tr S W2)
    (hr : ∀ ds vs H, Go F H H → W2 ds → DFs F K H vs ds → ∀ Q : VK, (∀ v d H', Go F H H' → DF F K H' v d → W d → Q v H') → r vs H Q) : EV F K (tCB r tr) S W := fun σ H hs Q q =>
  h σ H hs _ fun vs ds H1 e1 a1 w => hr ds vs H1 e1.rf w a1 Q fun v d H2 e2 a2 w2 => q v d H2 (e1.trans e2) a2 w2
theorem one_inv {H : Hp} {vs : List V} {d : PyData} (h : DDs K H vs [d]) : ∃ v, vs = [v] ∧ DD K H v d := by
  cases h with
  | cons a r => cases r; exact ⟨_, rfl, a⟩
theorem two_inv {H : Hp} {vs : List V} {d e : PyData} (h : DDs K H vs [d, e]) : ∃ v u, vs = [v, u] ∧ DD K H v d ∧ DD K H u e := by
  cases h with
  | cons a r =>
    obtain ⟨u, rfl, b⟩ := one_inv r
    exact ⟨_, u, rfl, a, b⟩
theorem ev_len (h : EA F K tr S fun ds => ∃ xs, (ds = [.list xs] ∨ ds = [.tuple xs]) ∧ W (.int xs.length)) : EV F K (tCB (fun xs H Q => ∃ p ys, xs = [.ref p] ∧ (SqL K H p ys ∨ SqT K H p ys) ∧ Q (.int ys.length) H) tr) S W :=
  ev_cb h fun ds vs H g0 ⟨xs, hd, w⟩ a Q q => by
    rcases hd with rfl | rfl
    · obtain ⟨v, rfl, b⟩ := one_inv a
      obtain ⟨p, ys, rfl, hp, hy⟩ := lst_inv b
      refine ⟨p, ys, rfl, .inl (SqL.of (F.sub _ _ hp)), ?_⟩
      rw [hy.len]
      exact q _ _ H g0 (.int _) w
    · obtain ⟨v, rfl, b⟩ := one_inv a
      obtain ⟨p, ys, rfl, hp, hy⟩ := tup_inv b
      refine ⟨p, ys, rfl, .inr (Evl.ex_t F.sub hp), ?_⟩
      rw [hy.len]
      exact q _ _ H g0 (.int _) w
theorem ev_abs (h : EA F K tr S fun ds => ∃ i, ds = [.int i] ∧ W (.int (if i < 0 then -i else i))) : EV F K (tCB (fun xs H Q => ∃ i, xs = [.int i] ∧ Q (.int (if i < 0 then -i else i)) H) tr) S W :=
  ev_cb h fun ds vs H g0 ⟨i, e, w⟩ a Q q => by
    subst e
    obtain ⟨v, rfl, b⟩ := one_inv a
    cases int_inv b
    exact ⟨i, rfl, q _ _ H g0 (.int _) w⟩
theorem ev_max2 (h : EA F K tr S fun ds => ∃ i j, ds = [.int i, .int j] ∧ W (.int (if j > i then j else i))) : EV F K (tCB (fun xs H Q => ∃ i j, xs = [.int i, .int j] ∧ Q (.int (if j > i then j else i)) H) tr) S W :=
  ev_cb h fun ds vs H g0 ⟨i, j, e, w⟩ a Q q => by
    subst e
    obtain ⟨v, u, rfl, b, c⟩ := two_inv a
    cases int_inv b
    cases int_inv c
    exact ⟨i, j, rfl, q _ _ H g0 (.int _) w⟩
theorem ev_min2 (h : EA F K tr S fun ds => ∃ i j, ds = [.int i, .int j] ∧ W (.int (if j < i then j else i))) : EV F K (tCB (fun xs H Q => ∃ i j, xs = [.int i, .int j] ∧ Q (.int (if j < i then j else i)) H) tr) S W :=
  ev_cb h fun ds vs H g0 ⟨i, j, e, w⟩ a Q q => by
    subst e
    obtain ⟨v, u, rfl, b, c⟩ := two_inv a
    cases int_inv b
    cases int_inv c
    exact ⟨i, j, rfl, q _ _ H g0 (.int _) w⟩
theorem ev_int1 (h : EA F K tr S fun ds => ∃ i, ds = [.int i] ∧ W (.int i)) : EV F K (tCB (fun xs H Q => (∃ i, xs = [.int i] ∧ Q (.int i) H) ∨ ∃ k, xs = [.bl k] ∧ Q (.int (if k then 1 else 0)) H) tr) S W :=
  ev_cb h fun ds vs H g0 ⟨i, e, w⟩ a Q q => by
    subst e
    obtain ⟨v, rfl, b⟩ := one_inv a
    cases int_inv b
    exact .inl ⟨i, rfl, q _ _ H g0 (.int _) w⟩
theorem ev_tupleOf (h : EA F K tr S fun ds => ∃ xs, ds = [.list xs] ∧ W (.tuple xs)) : EV F K (tCB (fun xs H Q => ∃ p ys, xs = [.ref p] ∧ ((SqL K H p ys ∧ ∀ l, H l = none → Q (.ref l) (upd H l (.tup ys))) ∨ (SqT K H p ys ∧ Q (.ref p) H))) tr) S W :=
  ev_cb h fun ds vs H g0 ⟨xs, e, w⟩ a Q q => by
    subst e
    obtain ⟨v, rfl, b⟩ := one_inv a
    obtain ⟨p, ys, rfl, hp, hy⟩ := lst_inv b
    exact ⟨p, ys, rfl, .inl ⟨SqL.of (F.sub _ _ hp), fun l hl => q _ _ _ (g0.stp hl) (.tup (SqT.of (g0.sm hl)) (hy.mono (g0.stp hl).2)) w⟩⟩
theorem ev_listOf (h : EA F K tr S fun ds => ∃ xs, (ds = [.list xs] ∨ ds = [.tuple xs]) ∧ W (.list xs)) : EV F K (tCB (fun xs H Q => ∃ p ys, xs = [.ref p] ∧ (SqL K H p ys ∨ SqT K H p ys) ∧ ∀ l, H l = none → Q (.ref l) (upd H l (.lst ys))) tr) S W :=
  ev_cb h fun ds vs H g0 ⟨xs, hd, w⟩ a Q q => by
    rcases hd with rfl | rfl
    · obtain ⟨v, rfl, b⟩ := one_inv a
      obtain ⟨p, ys, rfl, hp, hy⟩ := lst_inv b
      exact ⟨p, ys, rfl, .inl (SqL.of (F.sub _ _ hp)), fun l hl => q _ _ _ (g0.stp hl) (.lst (g0.sm hl) (hy.mono (g0.stp hl).2)) w⟩
    · obtain ⟨v, rfl, b⟩ := one_inv a
      obtain ⟨p, ys, rfl, hp, hy⟩ := tup_inv b
      exact ⟨p, ys, rfl, .inr (Evl.ex_t F.sub hp), fun l hl => q _ _ _ (g0.stp hl) (.lst (g0.sm hl) (hy.mono (g0.stp hl).2)) w⟩
theorem DDs.bls : ∀ {H : Hp} {ys : List Bool} {vs : List V}, DDs K H vs (ys.map PyData.bool) → vs = ys.map V.bl
  | _, [], _, .nil => rfl
  | _, y :: ys, _, .cons a r => by rw [bl_inv a, DDs.bls r]; rfl
theorem ev_all (h : EA F K tr S fun ds => ∃ bs : List Bool, ds = [.list (bs.map PyData.bool)] ∧ W (.bool (bs.all id))) : EV F K (tCB (rAll K) tr) S W :=
  ev_cb h fun ds vs H g0 ⟨bs, e, w⟩ a Q q => by
    subst e
    obtain ⟨v, rfl, b⟩ := one_inv a
    obtain ⟨p, ys, rfl, hp, hy⟩ := lst_inv b
    have hys := DDs.bls hy
    subst hys
    exact ⟨p, bs, rfl, SqL.of (F.sub _ _ hp), q _ _ H g0 (.bl _) w⟩
theorem ev_gcd2 (h : EA F K tr S fun ds => ∃ i j, ds = [.int i, .int j] ∧ W (.int ((Nat.gcd i.natAbs j.natAbs : Nat) : Int))) : EV F K (tCB rGcd tr) S W :=
  ev_cb h fun ds vs H g0 ⟨i, j, e, w⟩ a Q q => by
    subst e
    obtain ⟨v, u, rfl, b, c⟩ := two_inv a
    cases int_inv b
    cases int_inv c
    exact ⟨i, j, rfl, q _ _ H g0 (.int _) w⟩
end
end Bm
-- BmRule
set_option maxRecDepth 100000
set_option maxHeartbeats 2000000
/-! BmRule: rules that the hand layer lacks: products and quotients of great ints, gcd of four, a tuple turned about, enumerate of a tuple. -/
namespace Bm
open PySem PySem.Spec PyProof.Rows L2

/-- two factors, together below 130 million bits -/
def CMulX (i j : Int) : Prop := i.natAbs.log2 + j.natAbs.log2 < 130000000 ∨ CMul i j
theorem CMulX.ok {i j : Int} (h : CMulX i j) : IntMulOk i j := by
  rcases h with h | h
  rotate_left
  · exact h.ok
  have bits : ∀ x : Int, Builtin.Int.intBits x ≤ x.natAbs.log2 + 1 := fun x => by
    unfold Builtin.Int.intBits
    split <;> omega
  have hi := bits i
  have hj := bits j
  unfold IntMulOk
  intro z
  have z2 := (Bool.and_eq_true_iff.mp z).2
  unfold Builtin.Int.intTooBig at z2
  have z3 := of_decide_eq_true z2
  have line : bitsLine = 134217728 := by decide
  omega
section
variable {X : Cx}
theorem op_mulX : OpR X (binaryOp .Mult) (rI CMulX fun i j => .int (i * j)) := opI fun i j t u Q s E c q => mul_int q c.ok

/-- what a def's context has for a quotient of great ints -/
structure Dv (X : Cx) : Prop where
  seer : X.base.NoSeer
  room : X.A.depth + Builtin.pylongFrames < recursionLimit
  tree : X.prog.given.tree = none
  top : ∃ env l, X.stack = env :: l ∧ env.scope.isGenerator = false ∧ env.scope.isCoroutine = false ∧ env.builtins = builtinsNs ∧ env.globals = mainGlobals
theorem op_fdivX (d : Dv X) : OpR X (binaryOp .FloorDiv) (rI (fun _ j => j ≠ 0) fun i j => .int (i.fdiv j)) := by
  rintro pins s σ H x y v u Q I rx ry ⟨i, j, rfl, rfl, hj, q⟩
  obtain ⟨t, rfl⟩ := rx
  obtain ⟨t', rfl⟩ := ry
  obtain ⟨env, l, e, h1, h2, h3, h4⟩ := d.top
  have fr : X.A.frames = some (env :: l) := by rw [← e]; exact I.ok.frames
  exact floordiv_int hj ⟨.int _, H, I.tok _, ⟨_, rfl⟩, q⟩ (.inr (PylongRoom.of I.nolimit d.room (SeerAt.of (M := model X.prog X.w) (d.seer.keeps I.bk) d.tree fr h1 h2 h3 h4)))

/-! gcd of four -/
theorem args_gcd4 (a b c d : Value) : argsOk "math.gcd" ⟨[a, b, c, d], []⟩ := by unfold argsOk; kernel_rfl
theorem run_gcd4 (a : Int) (t : Tok) (b : Int) (u : Tok) (c : Int) (v : Tok) (d : Int) (z : Tok) :
    Gives (Builtin.«math.gcd» ⟨[.int a t, .int b u, .int c v, .int d z], []⟩) (.int (((((Nat.gcd 0 a.natAbs).gcd b.natAbs).gcd c.natAbs).gcd d.natAbs : Nat) : Int)) :=
  .of_wp fun M A E s Q h => by
    obtain ⟨hp, g, dr, tk, os⟩ := s
    wp_walk
    exact ⟨_, rfl, h⟩
def rGcd4 : List V → Hp → VK → Prop := fun vs H Q => ∃ a b c d : Int, vs = [.int a, .int b, .int c, .int d] ∧ Q (.int ((((a.natAbs.gcd b.natAbs).gcd c.natAbs).gcd d.natAbs : Nat) : Int)) H
theorem cr_gcd4 : CallR X (.builtin "math.gcd") rGcd4 := by
  intro pins s σ H vs us Q I r h
  obtain ⟨a, b, c, d, rfl, q⟩ := h
  obtain ⟨u1, us1, rfl, r1, r⟩ : ∃ u1 us1, us = u1 :: us1 ∧ RelV (.int a) u1 ∧ Vals [.int b, .int c, .int d] us1 := by
    cases r with
    | cons p q => exact ⟨_, _, rfl, p, q⟩
  obtain ⟨u2, us2, rfl, r2, r⟩ : ∃ u1 us2, us1 = u1 :: us2 ∧ RelV (.int b) u1 ∧ Vals [.int c, .int d] us2 := by
    cases r with
    | cons p q => exact ⟨_, _, rfl, p, q⟩
  obtain ⟨u3, u4, rfl, r3, r4⟩ := vals2 r
  obtain ⟨t1, rfl⟩ := r1
  obtain ⟨t2, rfl⟩ := r2
  obtain ⟨t3, rfl⟩ := r3
  obtain ⟨t4, rfl⟩ := r4
  have g := run_gcd4 a t1 b t2 c t3 d t4
  rw [Nat.gcd_zero_left] at g
  exact call_function_meets PySem.W.MGF.kind_gcd PySem.W.MGF.plain_gcd PySem.W.MGF.entry_gcd (args_gcd4 _ _ _ _) g.meets ⟨.int _, H, I.tok _, ⟨_, rfl⟩, q⟩

/-! t[::-1], t a pair -/
theorem pair_applied {prog : Program} {w : World} {A : Around} {E : Value → Shared → Prop} {s : Shared} {sl : Addr} {vl vu vs : Value} {t : Tok} {Q : Int × Int × Nat → Shared → Prop}
    (hs : s.heap.IsSliceOf sl vl vu vs) (pl : IsPart vl none) (pu : IsPart vu none) (ps : IsPart vs (some (-1))) (h : Q (1, -1, 2) s) :
    wpAny (model prog w) A (Builtin.Slice.sliceApplied (.ref sl) (pure ((2 : Nat) : Int))) Q E s := by
  obtain ⟨os, hos, hcs, hds⟩ := id hs
  unfold Builtin.Slice.sliceApplied Builtin.Slice.sliceFields
  refine wpAny_bind (wpAny_bind (wpAny_field hos hds (x := vl) rfl (wpAny_bind (wpAny_field hos hds (x := vu) rfl (wpAny_bind (wpAny_field hos hds (x := vs) rfl (wpAny_pure ?_)))))))
  refine wpAny_bind (HT.slicePart_ ps ?_)
  show wpAny _ _ (if ((-1 : Int) == 0) = true then _ else _) _ _ s
  rw [if_neg (by decide)]
  refine wpAny_bind (HT.slicePart_ pl (wpAny_bind (HT.slicePart_ pu (wpAny_bind (wpAny_pure ?_)))))
  exact wpAny_pure h
theorem pair_turned {prog : Program} {w : World} {A : Around} {E : Value → Shared → Prop} {s : Shared} {tp sl : Addr} {x y vl vu vs : Value} {Q : Value → Shared → Prop}
    (ht : IsTup s.heap tp #[x, y]) (hs : s.heap.IsSliceOf sl vl vu vs) (pl : IsPart vl none) (pu : IsPart vu none) (ps : IsPart vs (some (-1)))
    (h : Q (.ref s.heap.objs.size) { s with heap := s.heap.push { cls := .type "tuple", data := .seq #[y, x] } }) : wpAny (model prog w) A (getItem (.ref tp) (.ref sl)) Q E s := by
  obtain ⟨os, hos, hcs, hds⟩ := id hs
  have hTs : s.TypeIs (.ref sl) "slice" := ⟨os, hos, hcs⟩
  unfold getItem
  try with_reducible refine wpAny_holding ?_
  first | refine wpAny_bind (wpAny_pure ?_) | skip
  refine wpAny_bind (wpAny_sequenceKey ht.typeIs (by decide) ?_)
  refine wpAny_bind (wpAny_callSpecial?_slot (name := Str.ofString "__getitem__") ht.typeIs PyProof.Rows.slot_tuple_getitem
    (wpAny_call_entry PyProof.Rows.slot_tuple_getitem ht.typeIs entry_tuple_getitem ?_ (args_tuple_getitem _ _)))
  show wpAny _ _ (Builtin.Tuple.tupleItemsOf (.ref tp) >>= _) _ _ s
  refine wpAny_bind (tupleItemsOf_ ht ?_)
  refine wpAny_bind (wpAny_typeOf hTs ?_)
  rw [if_pos (by decide)]
  refine wpAny_bind (pair_applied (t := 0) hs pl pu ps ?_)
  show wpAny _ _ (if ((1 : Int) == 0 && (-1 : Int) == 1 && 2 == 2) = true then _ else _) _ _ s
  rw [if_neg (by decide)]
  have htake : sizeOk (.seq (#[y, x] : Array Value)) := by show 2 ≤ sizeLine; decide
  first
    | exact wpAny_bind (m := Builtin.Tuple.tupleExact _) (wpAny_newObj_type (wpAny_pure ⟨_, rfl, wpAny_pure h⟩) htake)
    | exact wpAny_bind (m := Builtin.Tuple.tupleExact _) (wpAny_newObj_type (wpAny_bind (wpAny_pure (wpAny_pure ⟨_, rfl, wpAny_pure h⟩))) htake)
    | exact wpAny_bind (wpAny_bind (m := Builtin.Tuple.tupleExact _) (wpAny_newObj_type (wpAny_pure (wpAny_pure ⟨_, rfl, wpAny_pure h⟩)) htake))
    | exact wpAny_bind (wpAny_bind (m := Builtin.Tuple.tupleExact _) (wpAny_newObj_type (wpAny_pure ⟨_, rfl, wpAny_pure h⟩) htake))
def tRev2 (K : PySem.W.Frag) (te : TE) : TE := fun σ H Q => te σ H fun x H1 => ∃ a u v, x = .ref a ∧ SqT K H1 a [u, v] ∧ ∀ p, H1 p = none → Q (.ref p) (upd H1 p (.tup [v, u]))
theorem pe_rev2 {e : Expr} {te : TE} {k : Nat} {p1 p2 p3 pos : Pos} (he : PE X e te) : PE X (.Subscript e (.Slice none none (some (.UnaryOp .USub (.Constant (.int 1) k p1) p2)) p3) pos) (tRev2 X.K te) := by
  constructor
  intro pins s σ H Q I h
  refine Subscript_ (thn (he.run pins s σ H _ I h) fun v s1 ⟨x, H1, I1, r1, q1⟩ => ?_)
  obtain ⟨a, z1, z2, ex, hx, q⟩ := q1
  subst ex
  cases r1
  have hst : PO X (some (.UnaryOp .USub (.Constant (.int 1) k p1) p2)) (tPart (tUn (rU fun i => .int (-i)) (tC (.int 1)))) := po_some (pe_un un_neg pe_int)
  refine wpAny_Slice (thn (po_none.run pins s1 σ H1 (fun o H2 => o = none ∧ H2 = H1) I1 ⟨rfl, rfl⟩) fun vl s2 ⟨l, H2, I2, pl, el, e2⟩ => ?_)
  subst el e2
  refine thn (po_none.run pins s2 σ H2 (fun o H3 => o = none ∧ H3 = H2) I2 ⟨rfl, rfl⟩) fun vu s3 ⟨u, H3, I3, pu, eu, e3⟩ => ?_
  subst eu e3
  refine thn (hst.run pins s3 σ H3 (fun o H4 => o = some (-1) ∧ H4 = H3) I3 ⟨1, rfl, -1, rfl, rfl, rfl⟩) fun vs s4 ⟨o, H4, I4, ps, eo, e4⟩ => ?_
  subst eo e4
  have I5 : Inv X pins σ H4 { s4 with heap := s4.heap.push { cls := .type "slice", data := .fields #[vl, vu, vs] } } := I4.kept (t' := s4.toks) fun b ob q => Heap.get?_push_of_some _ q
  obtain ⟨its, r, ht, hz⟩ := I5.tuple hx
  obtain ⟨u1, u2, rfl, ru1, ru2⟩ := vals2 r
  show wpAny (model X.prog X.w) X.A (subscriptTail e (.Slice none none (some (.UnaryOp .USub (.Constant (.int 1) k p1) p2)) p3) (.ref a) (.ref s4.heap.objs.size)) (EP X pins σ Q) X.xe _
  refine tail_any (ops := [.ref a, .ref s4.heap.objs.size]) ht.typeIs (PyProof.Rows.slot_tuple_getitem.lookup) ?_ (by with_unfolding_all rfl)
  refine pair_turned ht (Heap.IsSliceOf.new _ vl vu vs) pl pu ps ?_
  refine ⟨.ref _, _, I5.laid (t' := s4.toks) (o := .tup [z2, z1]) (fun b ob q => Heap.get?_push_of_some _ q) (Nat.le_refl _) ?_, rfl, q _ (I5.hok.fresh (Nat.le_refl _))⟩
  exact ⟨by show 2 ≤ sizeLine; decide, [u2, u1], .cons ru2 (.cons ru1 .nil), IsTup.new _ _⟩

/-! enumerate(t), t a tuple -/
set_option maxHeartbeats 4000000 in
theorem meets_enumT {v : Value} {o : Obj} {HP : Heap → Prop} (B : Begins v o HP) :
    Meets (Builtin.«enumerate.__new__» ⟨[.type "enumerate", v], []⟩) (fun _ R s => HP s.heap ∧
      R (.ok (.ret (.ref (s.heap.push o).objs.size))) { s with heap := (s.heap.push o).push { cls := .type "enumerate", data := .fields #[.none, .bool false, .ref s.heap.objs.size, rawInt 0, .none, .none] } }) :=
  .of_wp fun prog w A R s h => by
    obtain ⟨hp, g, d, tk, os⟩ := s
    obtain ⟨h1, h⟩ := h
    have hsub := sub_enumerate
    have q1 : ∀ {A' : Around} {E : Value → Shared → Prop} {Q : Value → Shared → Prop}, Q (.ref hp.objs.size) ⟨hp.push o, g, d, tk, os⟩ → wpAny (model prog w) A' (pyIter v) Q E ⟨hp, g, d, tk, os⟩ :=
      fun q => B.iter prog w _ _ ⟨hp, g, d, tk, os⟩ _ h1 q
    wp_walk using q1
    refine wpAny_stack_any fun st => wpAny_pure ?_
    split
    · rename_i c _ _ _ _ _
      cases (c == Value.type "enumerate")
      · wp_walk using q1
        exact ⟨_, rfl, h⟩
      · wp_walk using q1
        exact ⟨_, rfl, h⟩
    · wp_walk using q1
      exact ⟨_, rfl, h⟩
theorem call_enumT {prog : Program} {w : World} {A : Around} {E : Value → Shared → Prop} {s : Shared} {v : Value} {o : Obj} {HP : Heap → Prop} {Q : Value → Shared → Prop} (B : Begins v o HP) (h1 : HP s.heap)
    (h : ∀ h', IsEnum h' (s.heap.objs.size + 1) s.heap.objs.size 0 .none → h'.get? s.heap.objs.size = some o →
      (∀ b o, s.heap.get? b = some o → h'.get? b = some o) → Q (.ref (s.heap.objs.size + 1)) { s with heap := h' }) :
    wpAny (model prog w) A (call (.type "enumerate") [v]) Q E s := by
  refine callType_new F.called_enumerate (by decide) (F.typeCall_enumerate_1 _) (F.newCall_enumerate_1 _) (fun obj => F.args_object_init_2 obj _) F.entry_enumerate_new (meets_enumT B) ⟨h1, ?_⟩
  have hz : (s.heap.push o).objs.size = s.heap.objs.size + 1 := Heap.size_push ..
  show _ ∧ _
  rw [hz]
  have he := Heap.get?_push_size (s.heap.push o) (o := { cls := .type "enumerate", data := .fields #[.none, .bool false, .ref s.heap.objs.size, rawInt 0, .none, .none] }) rfl
  rw [hz] at he
  exact ⟨⟨_, he, rfl⟩, h _ he (Heap.get?_push_of_some _ (Heap.get?_push_size _ B.free)) fun b o x => Heap.get?_push_of_some _ (Heap.get?_push_of_some _ x)⟩
end
end Bm
-- BmStm
set_option maxRecDepth 100000
set_option maxHeartbeats 2000000
/-! BmStm: statements, loops, comprehensions, calls told by data; enumerate of a tuple walked. -/
namespace Bm
open PySem PySem.Spec PyProof.Rows L2

/-! ### enumerate(t) walked -/
def IteT (K : PySem.W.Frag) (a : Addr) : It :=
  ⟨fun i H => ∃ (xs : List V) (x : V), SqT K H a xs ∧ xs[i]? = some x, fun i H v H' => ∃ T x, v = .ref T ∧ H T = none ∧ H' = upd H T (.tup [.int (i : Nat), x]) ∧ ∀ xs, SqT K H a xs → xs[i]? = some x,
    fun i H => ∃ xs : List V, SqT K H a xs ∧ xs.length = i⟩
theorem turn_enumT {P : Program} {w : World} {K : PySem.W.Frag} {elts : List Expr} {kk : Nat} {tpos : Pos} (a e it : Addr) :
    Turn P w K (.Tuple elts kk tpos) (IteT K a) [e, it] e (fun i h => (∃ old, IsEnum h e it ((i : Nat) : Int) old) ∧ h.IsTupleIter it a i ∧ e ≠ it ∧ a ≠ it ∧ e ≠ a) where
  mem := by simp
  obj := fun i h st b hb => by
    obtain ⟨⟨old, he⟩, ⟨o, ho, hc, hd⟩, _⟩ := st
    rcases (show b = e ∨ b = it by simpa using hb) with z | z
    · rw [z]; exact ⟨_, he, fun v q => nomatch q⟩
    · rw [z]; exact ⟨o, ho, fun v q => by rw [hd] at q; cases q⟩
  keep := fun i h h' st k => let ⟨⟨old, he⟩, hi, hne⟩ := st; ⟨⟨old, k e (by simp) _ he⟩, hi.at fun o q => k it (by simp) o q, hne⟩
  item := by
    intro X hP hw hK hc i pins s σ H E I hf st hg
    subst hP hw hK
    obtain ⟨⟨old, he⟩, hit, hne, hai, hea⟩ := st
    obtain ⟨xs, x, hq, hx⟩ := hg
    obtain ⟨its, rv, pt, hz⟩ := I.tuple hq
    obtain ⟨u, hu, ru⟩ := rv.get hx
    have hel : e < s.heap.objs.size := Heap.lt_size he
    have hil : it < s.heap.objs.size := by obtain ⟨_, q, _⟩ := hit; exact Heap.lt_size q
    have hlt : i < its.toArray.size := by
      rw [List.size_toArray]
      exact (List.getElem?_eq_some_iff.mp hu).1
    refine wpAny_pyNext_enum_itemC (Draws.tuple (prog := X.prog) (w := X.w) (A := X.A.in1) (I.ok.hd hc) it a hai its.toArray) he ⟨hit, pt⟩ hlt hne (by simp; exact ⟨hne, hea⟩) fun y h' tk hP ho hst' hT hsz hk => ?_
    have ey : y = u := by
      have hP' : its.toArray[i]? = some y := hP
      rw [List.getElem?_toArray, hu] at hP'
      exact (Option.some.inj hP').symm
    subst ey
    refine ⟨_, rfl, wpAny_letOwnedTupleGo_enum (s := { s with heap := h', toks := tk + 1 }) ho fun h'' he' sb => ?_⟩
    have hT2 : h''.get? s.heap.objs.size = some { cls := .type "tuple", data := .seq #[.int i tk, y] } := (sb.2 _ (Nat.ne_of_gt hel)).trans hT
    have new : ObjOk X.prog X.w (upd H s.heap.objs.size (.tup [.int (i : Nat), x])) h'' s.heap.objs.size (.tup [.int (i : Nat), x]) :=
      ⟨by show 2 ≤ sizeLine; decide, [.int i tk, y], .cons ⟨_, rfl⟩ (.cons ru .nil), ⟨_, hT2, rfl, _, rfl⟩⟩
    have I1 : Inv X pins σ (upd H s.heap.objs.size (.tup [.int (i : Nat), x])) { s with heap := h'', toks := tk + 1 } :=
      I.turnedNew (ch := [e, it]) (fun b ob hb q => (sb.2 b (fun z => hb (by simp [z]))).trans (hk b ob (fun z => hb (by simp [z])) (fun z => hb (by simp [z])) q)) hf (Nat.le_refl _) new
    refine ⟨.ref s.heap.objs.size, _, I1, rfl, ⟨_, x, rfl, I.hok.fresh (Nat.le_refl _), rfl, fun ys hy => by rw [I.tuple_inj hy hq]; exact hx⟩, ⟨⟨y, ?_⟩, hst'.1.at fun o q => (sb.2 it (Ne.symm hne)).trans q, hne, hai, hea⟩, fun b hb => ?_⟩
    · rw [show ((i + 1 : Nat) : Int) = (i : Int) + 1 by omega]
      exact he'
    · have hb' : b < s.heap.objs.size := by
        rcases (show b = e ∨ b = it by simpa using hb) with z | z
        · rw [z]; exact hel
        · rw [z]; exact hil
      rw [upd_ne (Nat.ne_of_lt hb')]
      exact (hf b hb).1
  done := by
    intro X hP hw hK hc i pins s σ H E I hf st hg
    subst hP hw hK
    obtain ⟨⟨old, he⟩, hit, hne, hai, hea⟩ := st
    obtain ⟨xs, hq, hx⟩ := hg
    obtain ⟨its, rv, pt, hz⟩ := I.tuple hq
    obtain ⟨f0, f1, f2, f3, f4, f5⟩ := hf it (by simp)
    have hl := rv.length
    have hsz : i = its.toArray.size := by rw [List.size_toArray]; omega
    subst hsz
    exact wpAny_pyNext_enum_endD (Draws.tuple (prog := X.prog) (w := X.w) (A := X.A.in1) (I.ok.hd hc) it a hai its.toArray) he ⟨hit, pt⟩ fun h' eb => ⟨rfl, I.turned (t' := s.toks) (fun b o hb q => eb b o hb q) f0 f1 f3 f4 f5⟩
  self := fun A i s Q E st h => let ⟨⟨_, he⟩, _⟩ := st; wpAny_pyIter_enum he h
def iEnumT (K : PySem.W.Frag) (ta : TA) : TI := fun σ H R => ta σ H fun vs H1 => ∃ a xs, vs = [.ref a] ∧ SqT K H1 a xs ∧ R (IteT K a) H1
theorem pi_enumT {X : Cx} {e : Expr} {ta : TA} {p pos tpos : Pos} {elts : List Expr} {kk : Nat} (hg : Gl X "enumerate") (hm : X.mg "enumerate" = none) (ha : PA X [e] ta) (hs : starEach [e] X.env = [(false, eval e X.env)] := by rfl) :
    PI X (.Tuple elts kk tpos) (.Call (.Name "enumerate" p) [e] [] pos) (iEnumT X.K ta) := by
  constructor
  intro pins s σ H R I h
  refine Call_ (ld_blt I hg hm boot_enumerate (PyProof.Rows.callWith_type1 (thn (ha.run pos pins s σ H _ I h) fun us s1 ⟨vs, H1, I1, r1, q1⟩ => ?_) hs rfl))
  obtain ⟨a, xs, ex, hq, q⟩ := q1
  subst ex
  obtain ⟨u, rfl, r⟩ := vals1 r1
  cases r
  obtain ⟨its, rv, pt, hz⟩ := I1.tuple hq
  have hal : a < s1.heap.objs.size := by obtain ⟨o, e, _⟩ := pt; exact Heap.lt_size e
  refine call_enumT (begins_tuple a its.toArray) pt fun h' he hit hk => wpAny_pyIter_enum he ?_
  have I2 : Inv X pins σ H1 { s1 with heap := h' } := I1.kept (t' := s1.toks) hk
  refine ⟨s1.heap.objs.size + 1, [s1.heap.objs.size + 1, s1.heap.objs.size], _, _, H1, rfl, I2, turn_enumT a (s1.heap.objs.size + 1) s1.heap.objs.size,
    ⟨⟨.none, he⟩, ⟨_, hit, rfl, rfl⟩, Nat.succ_ne_self _, Nat.ne_of_lt hal, Nat.ne_of_gt (Nat.lt_succ_of_lt hal)⟩, fun b hb => ?_, q⟩
  have hle : s1.heap.objs.size ≤ b := by
    rcases (show b = s1.heap.objs.size + 1 ∨ b = s1.heap.objs.size by simpa using hb) with z | z
    · rw [z]; exact Nat.le_add_right _ _
    · rw [z]; exact Nat.le_refl _
  exact I1.fpOk hle (I1.hok.fresh hle)

/-! ### statements told by data -/
section
variable {F : Fr} {K : PySem.W.Frag} {S : SS} {N : SS → Prop} {R : PyData → Prop} {W : PyData → Prop} {te ta tb : TE} {tr : TA} {tt : TT} {t u : TS} {g : TG} {i j : Nat} {d : PyData}

theorem XS.imp {N' : SS → Prop} (h : XS F K t S N R) (k : ∀ S, N S → N' S) : XS F K t S N' R := fun σ H hs D hn hr => h σ H hs D (fun σ' S' H' e a n => hn σ' S' H' e a (k S' n)) hr
theorem xs_next (n : N S) : XS F K tNext S N R := fun σ H hs D hn hr => hn σ S H hs.rf hs n
theorem xs_seq (h : XS F K t S (fun S' => XS F K u S' N R) R) : XS F K (tSeq t u) S N R := fun σ H hs D hn hr =>
  h σ H hs { D with nx := u D } (fun σ' S' H' e a n => n σ' H' a D (fun σ2 S2 H2 e2 a2 n2 => hn σ2 S2 H2 (e.trans e2) a2 n2) fun v d H2 e2 a2 r2 => hr v d H2 (e.trans e2) a2 r2) hr
theorem xs_ret (h : EV F K te S R) : XS F K (tRet te) S N R := fun σ H hs D hn hr => h σ H hs D.rt hr
theorem xs_asg (h : EV F K te S fun d => N (S.set i (some d))) : XS F K (tAsg te (gName i)) S N R := fun σ H hs D hn hr =>
  h σ H hs _ fun v d H1 e a n => hn _ _ H1 e ((hs.mono e).set a i) n
theorem xs_asgG (h : EV F K te S fun d => EG F K g d S N) : XS F K (tAsg te g) S N R := fun σ H hs D hn hr =>
  h σ H hs _ fun v d H1 e a n => n v σ H1 a (hs.mono e) D.nx fun σ' S' hs' n' => hn σ' S' H1 e hs' n'
theorem xs_if (h : ET F K tt S fun b => if b = true then XS F K t S N R else XS F K u S N R) : XS F K (tIfS tt t u) S N R := fun σ H hs D hn hr =>
  h σ H hs _ fun b H1 e w => by
    have go : ∀ {z : TS}, XS F K z S N R → z D σ H1 := fun {z} w => w σ H1 (hs.mono e) D (fun σ' S' H2 e2 a2 n => hn σ' S' H2 (e.trans e2) a2 n) fun v d H2 e2 a2 r => hr v d H2 (e.trans e2) a2 r
    cases b with
    | true => exact go w
    | false => exact go w
theorem xs_par (h : EA F K tr S fun ds => ∃ d e, ds = [d, e] ∧ N ((S.set i (some d)).set j (some e))) : XS F K (tPar i j tr) S N R := fun σ H hs D hn hr =>
  h σ H hs _ fun vs ds H1 e a ⟨d, f, ed, n⟩ => by
    subst ed
    obtain ⟨v, w, rfl, av, aw⟩ := two_inv a
    exact ⟨v, w, rfl, hn _ _ H1 e (((hs.mono e).set av i).set aw j) n⟩
theorem three_inv {H : Hp} {vs : List V} {d e f : PyData} (h : DDs K H vs [d, e, f]) : ∃ v u w, vs = [v, u, w] ∧ DD K H v d ∧ DD K H u e ∧ DD K H w f := by
  cases h with
  | cons a r =>
    obtain ⟨u, w, rfl, b, c⟩ := two_inv r
    exact ⟨_, u, w, rfl, a, b, c⟩
theorem xs_par3 {l : Nat} (h : EA F K tr S fun ds => ∃ d e f, ds = [d, e, f] ∧ N (((S.set i (some d)).set j (some e)).set l (some f))) : XS F K (tPar3 i j l tr) S N R := fun σ H hs D hn hr =>
  h σ H hs _ fun vs ds H1 e a ⟨d, f, k, ed, n⟩ => by
    subst ed
    obtain ⟨v, u, w, rfl, av, au, aw⟩ := three_inv a
    exact ⟨v, u, w, rfl, hn _ _ H1 e ((((hs.mono e).set av i).set au j).set aw l) n⟩
/-! targets -/
theorem eg_name (n : N (S.set i (some d))) : EG F K (gName i) d S N := fun v σ H a hs Q q => q _ _ (hs.set a i) n
theorem egs_nil (n : N S) : EGs F K gNil [] S N := fun vs σ H a hs Q q => by
  cases a
  exact ⟨rfl, q σ S hs n⟩
theorem egs_cons {gs : TGs} {ds : List PyData} (h : EG F K g d S fun S' => EGs F K gs ds S' N) : EGs F K (gCons g gs) (d :: ds) S N := fun vs σ H a hs Q q => by
  cases a with
  | cons a r => exact ⟨_, _, rfl, h _ σ H a hs _ fun σ' S' hs' n => n _ σ' H r hs' Q q⟩
theorem eg_tup {gs : TGs} {ds : List PyData} {n : Nat} (hl : ds.length = n) (h : EGs F K gs ds S N) : EG F K (gTup K n gs) (.tuple ds) S N := fun v σ H a hs Q q => by
  obtain ⟨p, xs, rfl, hp, hx⟩ := tup_inv a
  exact ⟨p, xs, rfl, Evl.ex_t F.sub hp, by rw [hx.len]; exact hl, h xs σ H hx hs Q q⟩
/-- a, b, .. = a tuple: the slots is -/
def sets (S : SS) : List Nat → List PyData → SS
  | i :: is, d :: ds => sets (S.set i (some d)) is ds
  | _, _ => S
def gNames : List Nat → TGs
  | [] => gNil
  | i :: is => gCons (gName i) (gNames is)
theorem egs_names : ∀ {is : List Nat} {ds : List PyData} {S : SS}, is.length = ds.length → N (sets S is ds) → EGs F K (gNames is) ds S N
  | [], [], _, _, n => egs_nil n
  | i :: is, d :: ds, _, hl, n => egs_cons (eg_name (egs_names (is := is) (ds := ds) (by simpa using hl) n))
  | [], _ :: _, _, hl, _ => by cases hl
  | _ :: _, [], _, hl, _ => by cases hl
theorem xs_asgT {is : List Nat} {n : Nat} (hn : is.length = n) (h : EV F K te S fun d => ∃ ds, d = .tuple ds ∧ ds.length = n ∧ N (sets S is ds)) : XS F K (tAsg te (gTup K n (gNames is))) S N R :=
  xs_asgG (h.imp fun d ⟨ds, ed, hl, k⟩ => by
    subst ed
    exact eg_tup hl (egs_names (hn.trans hl.symm) k))

/-! loops -/
theorem xs_while {I : Nat → SS → Prop} {m0 : Nat} (h0 : I m0 S)
    (hs : ∀ m S, I m S → ET F K tt S fun b => if b = true then XS F K t S (fun S' => ∃ m', m' < m ∧ I m' S') R else N S) : XS F K (tWhile tt t) S N R := fun σ H hS D hn hr => by
  refine ⟨fun m σ' H' => ∃ S', Go F H H' ∧ SF F K H' σ' S' ∧ I m S', ⟨m0, S, hS.rf, hS, h0⟩, ?_⟩
  rintro m σ1 H1 ⟨S1, e1, s1, i1⟩
  refine hs m S1 i1 σ1 H1 s1 _ fun b H2 e2 w => ?_
  cases b with
  | true =>
    rw [if_pos rfl]
    refine ⟨fun σ' H' => ∃ S', Go F H H' ∧ SF F K H' σ' S' ∧ ∃ m', m' < m ∧ I m' S', ?_, ?_⟩
    · rintro σ' H' ⟨S', e', s', m', hm, i'⟩
      exact ⟨m', hm, S', e', s', i'⟩
    · exact w σ1 H2 (s1.mono e2) _ (fun σ' S' H' e' s' n => ⟨S', (e1.trans e2).trans e', s', n⟩) fun v d H' e' a' r' => hr v d H' ((e1.trans e2).trans e') a' r'
  | false =>
    rw [if_neg Bool.false_ne_true]
    exact hn σ1 S1 H2 (e1.trans e2) (s1.mono e2) w
/-- what a turn of a for is to give: P of the slots at each turn -/
theorem xs_forR {lo : Int} {n : Nat} {P : Nat → SS → Prop} {σ : L2.St} {H H0 : Hp} {D : Ends} (e0 : Go F H0 H) (hS : SF F K H σ S) (p0 : P 0 S)
    (hn : ∀ σ' S' H', Go F H0 H' → SF F K H' σ' S' → N S' → D.nx σ' H') (hr : ∀ v d H', Go F H0 H' → DF F K H' v d → R d → D.rt v H')
    (turn : ∀ i S, i < n → P i S → XS F K t (S.set j (some (.int (lo + (i : Int))))) (P (i + 1)) R) (fin : ∀ S, P n S → N S) :
    ∃ W : Nat → Nat → L2.St → Hp → Prop, (∃ m, W 0 m σ H) ∧ ∀ i m σ H, W i m σ H →
      ((Itr lo n).stop i H ∧ D.nx σ H) ∨ ((Itr lo n).go i H ∧ ∃ Nx : L2.St → Hp → Prop, (∀ σ' H', Nx σ' H' → ∃ m', m' < m ∧ W (i + 1) m' σ' H') ∧ ∀ x H', (Itr lo n).yld i H x H' → gName j x σ H' fun σ2 H2 => t { D with nx := Nx, ct := Nx, bk := D.nx } σ2 H2) :=
  for_range (fun i σ' H' => ∃ S', Go F H0 H' ∧ SF F K H' σ' S' ∧ P i S') ⟨S, e0, hS, p0⟩
    (fun i σ1 H1 hi ⟨S1, e1, s1, p1⟩ => turn i S1 hi p1 _ H1 (s1.set (.int _) j) _ (fun σ' S' H' e' s' p' => ⟨S', e1.trans e', s', p'⟩) fun v d H' e' a' r' => hr v d H' (e1.trans e') a' r')
    (fun σ1 H1 ⟨S1, e1, s1, p1⟩ => hn σ1 S1 H1 e1 s1 (fin S1 p1))
theorem xs_forR1 {P : Nat → SS → Prop} (h : EA F K tr S fun ds => ∃ n : Int, ds = [.int n] ∧ -(2 ^ 62) ≤ n ∧ n < 2 ^ 62 ∧ P 0 S ∧
    (∀ i S, i < n.toNat → P i S → XS F K t (S.set j (some (.int (i : Int)))) (P (i + 1)) R) ∧ ∀ S, P n.toNat S → N S) : XS F K (tFor (iRng1 tr) (gName j) t) S N R := fun σ H hs D hn hr =>
  h σ H hs _ fun vs ds H1 e1 a ⟨n, ed, b1, b2, p0, turn, fin⟩ => by
    subst ed
    obtain ⟨v, rfl, av⟩ := one_inv a
    cases int_inv av
    refine ⟨n, rfl, b1, b2, xs_forR (lo := 0) (n := n.toNat) (H0 := H) e1 (hs.mono e1) p0 hn hr (fun i S hi p => ?_) fin⟩
    rw [Int.zero_add]
    exact turn i S hi p
theorem xs_forR2 {P : Nat → SS → Prop} (h : EA F K tr S fun ds => ∃ lo n : Int, ds = [.int lo, .int n] ∧ (-(2 ^ 62) ≤ lo ∧ lo < 2 ^ 62 ∧ -(2 ^ 62) ≤ n ∧ n < 2 ^ 62) ∧ P 0 S ∧
    (∀ i S, i < (n - lo).toNat → P i S → XS F K t (S.set j (some (.int (lo + (i : Int))))) (P (i + 1)) R) ∧ ∀ S, P (n - lo).toNat S → N S) : XS F K (tFor (iRng2 tr) (gName j) t) S N R := fun σ H hs D hn hr =>
  h σ H hs _ fun vs ds H1 e1 a ⟨lo, n, ed, bd, p0, turn, fin⟩ => by
    subst ed
    obtain ⟨v, u, rfl, av, au⟩ := two_inv a
    cases int_inv av
    cases int_inv au
    exact ⟨lo, n, rfl, bd, xs_forR (lo := lo) (n := (n - lo).toNat) (H0 := H) e1 (hs.mono e1) p0 hn hr turn fin⟩
/-- for k, x in enumerate(t) -/
theorem xs_forE {P : Nat → SS → Prop} (h : EA F K tr S fun ds => ∃ xs, ds = [.tuple xs] ∧ P 0 S ∧
    (∀ k x S, xs[k]? = some x → P k S → XS F K t ((S.set i (some (.int (k : Int)))).set j (some x)) (P (k + 1)) R) ∧ ∀ S, P xs.length S → N S) : XS F K (tFor (iEnumT K tr) (gTup K 2 (gCons (gName i) (gCons (gName j) gNil))) t) S N R := fun σ H hs D hn hr =>
  h σ H hs _ fun vs ds H1 e1 a ⟨xs, ed, p0, turn, fin⟩ => by
    subst ed
    obtain ⟨v, rfl, av⟩ := one_inv a
    obtain ⟨p, ys, rfl, hp, hy⟩ := tup_inv av
    refine ⟨p, ys, rfl, Evl.ex_t F.sub hp, fun k m σ' H' => ∃ S', m = xs.length - k ∧ k ≤ xs.length ∧ Go F H H' ∧ Go F H1 H' ∧ SF F K H' σ' S' ∧ P k S', ⟨_, S, rfl, Nat.zero_le _, e1, e1.rf, hs.mono e1, p0⟩, ?_⟩
    rintro k m σ1 H2 ⟨S1, rfl, hk, f1, f2, s1, q1⟩
    have hp2 := Evl.ex_t F.sub (Evl.ex_t f2.2 hp)
    by_cases hlt : k < xs.length
    · have hlt' : k < ys.length := by rw [hy.len]; exact hlt
      obtain ⟨z, hz, az⟩ := (hy.mono f2.2).get (List.getElem?_eq_getElem hlt)
      refine .inr ⟨⟨ys, z, hp2, hz⟩, fun σ' H' => ∃ S', Go F H H' ∧ Go F H1 H' ∧ SF F K H' σ' S' ∧ P (k + 1) S', ?_, ?_⟩
      · rintro σ' H' ⟨S', g1, g2, s', q'⟩
        exact ⟨xs.length - (k + 1), by omega, S', rfl, hlt, g1, g2, s', q'⟩
      · rintro x H' ⟨T, z', rfl, hT, rfl, hz'⟩
        have ez : z' = z := Option.some.inj ((hz' ys hp2).symm.trans hz)
        subst ez
        have g := f2.stp (o := .tup [.int (k : Nat), z']) hT
        refine ⟨T, [.int (k : Nat), z'], rfl, SqT.of upd_same, rfl, .int (k : Nat), [z'], rfl, z', [], rfl, rfl, ?_⟩
        exact turn k _ S1 (List.getElem?_eq_getElem hlt) q1 _ _ (((s1.mono g).set (.int _) i).set (az.mono g.2) j) _ (fun σ' S' H' e' s' p' => ⟨S', (f1.trans g).trans e', (f2.trans g).trans e', s', p'⟩)
          fun v d H' e' a' r' => hr v d H' ((f1.trans g).trans e') a' r'
    · have ek : k = xs.length := by omega
      subst ek
      exact .inl ⟨⟨ys, hp2, hy.len⟩, hn σ1 S1 H2 f1 s1 (fin S1 q1)⟩
/-- for x in t, in xs (a tuple, a list that stand still) -/
theorem xs_forT {P : Nat → SS → Prop} (h : EV F K te S fun d => ∃ xs, d = .tuple xs ∧ P 0 S ∧
    (∀ k x S, xs[k]? = some x → P k S → XS F K t (S.set j (some x)) (P (k + 1)) R) ∧ ∀ S, P xs.length S → N S) : XS F K (tFor (iTup K te) (gName j) t) S N R := fun σ H hs D hn hr =>
  h σ H hs _ fun v d H1 e1 a ⟨xs, ed, p0, turn, fin⟩ => by
    subst ed
    obtain ⟨p, ys, rfl, hp, hy⟩ := tup_inv a
    refine ⟨p, rfl, ⟨ys, Evl.ex_t F.sub hp⟩, for_tup (xs := ys) (fun k σ' H' => ∃ S', Go F H H' ∧ Go F H1 H' ∧ SF F K H' σ' S' ∧ P k S') ⟨S, e1, e1.rf, hs.mono e1, p0⟩ (fun k σ' H' _ ⟨_, _, f2, _⟩ => Evl.ex_t F.sub (Evl.ex_t f2.2 hp)) ?_ ?_⟩
    · rintro k x σ1 H2 hx ⟨S1, f1, f2, s1, q1⟩
      have hlt : k < xs.length := by rw [← hy.len]; exact (List.getElem?_eq_some_iff.mp hx).1
      obtain ⟨z, hz, az⟩ := (hy.mono f2.2).get (List.getElem?_eq_getElem hlt)
      have ez : x = z := Option.some.inj (hx.symm.trans hz)
      subst ez
      exact turn k _ S1 (List.getElem?_eq_getElem hlt) q1 _ _ (s1.set az j) _ (fun σ' S' H' e' s' p' => ⟨S', f1.trans e', f2.trans e', s', p'⟩) fun v d H' e' a' r' => hr v d H' (f1.trans e') a' r'
    · rintro σ1 H2 ⟨S1, f1, f2, s1, q1⟩
      rw [hy.len] at q1
      exact hn σ1 S1 H2 f1 s1 (fin S1 q1)
end
end Bm
-- BmCall
set_option maxRecDepth 100000
set_option maxHeartbeats 2000000
/-! BmCall: products, quotients, isinstance, comprehensions, calls told by data. -/
namespace Bm
open PySem PySem.Spec PyProof.Rows L2
section
variable {F : Fr} {K : PySem.W.Frag} {S : SS} {N : SS → Prop} {R : PyData → Prop} {W : PyData → Prop} {te ta tb tl : TE} {tr : TA} {tt : TT} {t u : TS} {g : TG} {i j : Nat} {d : PyData}

theorem ev_mul (h : EV F K ta S fun d => EV F K tb S fun e => ∃ i j, d = .int i ∧ e = .int j ∧ CMulX i j ∧ W (.int (i * j))) : EV F K (tOp (rI CMulX fun i j => .int (i * j)) ta tb) S W := ev_rI (f := fun i j => .int (i * j)) (fun _ _ _ => .int _) h
theorem ev_fdiv (h : EV F K ta S fun d => EV F K tb S fun e => ∃ i j, d = .int i ∧ e = .int j ∧ j ≠ 0 ∧ W (.int (i.fdiv j))) : EV F K (tOp (rI (fun _ j => j ≠ 0) fun i j => .int (i.fdiv j)) ta tb) S W := ev_rI (f := fun i j => .int (i.fdiv j)) (fun _ _ _ => .int _) h
theorem ev_mod (h : EV F K ta S fun d => EV F K tb S fun e => ∃ i j, d = .int i ∧ e = .int j ∧ j ≠ 0 ∧ W (.int (i.fmod j))) : EV F K (tOp (rI (fun _ j => j ≠ 0) fun i j => .int (i.fmod j)) ta tb) S W := ev_rI (f := fun i j => .int (i.fmod j)) (fun _ _ _ => .int _) h
theorem four_inv {H : Hp} {vs : List V} {a b c d : PyData} (h : DDs K H vs [a, b, c, d]) : ∃ x y z w, vs = [x, y, z, w] ∧ DD K H x a ∧ DD K H y b ∧ DD K H z c ∧ DD K H w d := by
  cases h with
  | cons p r =>
    obtain ⟨y, z, w, rfl, b, c, d⟩ := three_inv r
    exact ⟨_, y, z, w, rfl, p, b, c, d⟩
theorem ev_gcd4 (h : EA F K tr S fun ds => ∃ a b c d, ds = [.int a, .int b, .int c, .int d] ∧ W (.int ((((a.natAbs.gcd b.natAbs).gcd c.natAbs).gcd d.natAbs : Nat) : Int))) : EV F K (tCB rGcd4 tr) S W :=
  ev_cb h fun ds vs H g0 ⟨a, b, c, d, e, w⟩ av Q q => by
    subst e
    obtain ⟨x, y, z, w', rfl, p1, p2, p3, p4⟩ := four_inv av
    cases int_inv p1
    cases int_inv p2
    cases int_inv p3
    cases int_inv p4
    exact ⟨a, b, c, d, rfl, q _ _ H g0 (.int _) w⟩
theorem ev_rev2 (h : EV F K te S fun d => ∃ a b, d = .tuple [a, b] ∧ W (.tuple [b, a])) : EV F K (tRev2 K te) S W := fun σ H hs Q q => h σ H hs _ fun v d H1 e1 a1 ⟨a, b, ed, w⟩ => by
  subst ed
  obtain ⟨p, xs, rfl, hx, hd⟩ := tup_inv a1
  obtain ⟨x, y, rfl, ax, ay⟩ := two_inv hd
  exact ⟨p, x, y, rfl, Evl.ex_t F.sub hx, fun l hl => q _ _ _ (e1.new hl) (.tup (SqT.of (e1.sm hl)) (.cons (ay.mono (e1.stp hl).2) (.cons (ax.mono (e1.stp hl).2) .nil))) w⟩

/-! isinstance -/
def tyN : PyData → String
  | .none => "NoneType"
  | .bool _ => "bool"
  | .int _ => "int"
  | .str _ => "str"
  | .list _ => "list"
  | .tuple _ => "tuple"
  | .dict _ => "dict"
def isObj : PyData → Bool
  | .dict _ => true
  | _ => false
theorem tyx_of {H : Hp} {v : V} {d : PyData} (h : DF F K H v d) (o : isObj d = false) : TyX K H v (.type (tyN d)) := by
  cases h with
  | non => exact .base .non
  | bl b => exact .base (.bl b)
  | int i => exact .base (.int i)
  | str x => exact .base (.str x)
  | lst h r => exact .base (.lst (F.sub _ _ h))
  | tup h r =>
    rcases h with h | ⟨o, its, m, e, c, _⟩
    · rcases h with h | h
      · exact .base (.tup (F.sub _ _ h))
      · obtain ⟨o, h⟩ := h
        exact .fTuple (F.sub _ _ h)
    · exact .kTuple e c
  | rd h r => cases o
  | obj a => cases o
/-- isinstance(x, c): the types' names are known -/
def tIsi (K : PySem.W.Frag) (n : String) (te : TE) : TE := tCB (rIsi K) (tCons te (tCons (tC (.ty n)) tNil))
theorem ev_isi {n : String} (h : EV F K te S fun d => isObj d = false ∧ ∃ b, kitB (tyN d) n = some b ∧ W (.bool b)) : EV F K (tIsi K n te) S W := fun σ H hs Q q =>
  h σ H hs _ fun v d H1 e1 a1 ⟨o, b, hk, w⟩ => ⟨v, .ty n, _, _, b, rfl, .ty n, tyx_of a1 o, kit_ty hk, q _ _ H1 e1 (.bl b) w⟩

/-! ### a list that grows stands aside -/
def Fr.hide (F : Fr) (D : Addr) (acc : List V) : Fr where
  ms := fun b => F.ms b || decide (b = D)
  ok := fun H => F.ok H ∧ H D = some (.lst acc)
  loc := fun H H' e o => ⟨F.loc H H' (fun b hb => e b (by rw [hb]; rfl)) o.1, (e D (by simp)).trans o.2⟩
  tr := fun H b o m => by
    rcases Bool.or_eq_true_iff.mp m with m | m
    · exact F.tr H b o.1 m
    · have := of_decide_eq_true m
      subst this
      rw [o.2]
      exact fun z => nomatch z
/-- frames that hide more -/
inductive Hid (F : Fr) : Fr → Prop
  | refl : Hid F F
  | hide {F' : Fr} (D : Addr) (acc : List V) : F'.ms D = false → Hid F F' → Hid F (F'.hide D acc)
theorem Fr.hide_sub {D : Addr} {acc : List V} {H : Hp} : Ex ((F.hide D acc).mk' H) (F.mk' H) := fun b o h => by
  unfold Fr.mk' at h ⊢
  split at h
  · cases h
  · rename_i q
    have : F.ms b = false := by
      cases e : F.ms b with
      | false => rfl
      | true => exact absurd (show (F.ms b || decide (b = D)) = true by rw [e]; rfl) q
    rw [this]
    exact h
/-- what holds of the list at D behind k turns -/
def LcI (F : Fr) (K : PySem.W.Frag) (H1 : Hp) (D : Addr) (P : Nat → List PyData → Prop) (k : Nat) (H' : Hp) : Prop :=
  ∃ acc ds, acc.length ≤ k ∧ (F.ok H' ∧ H' D = some (.lst acc)) ∧ Ex (F.mk' H1) ((F.hide D acc).mk' H') ∧ DDs K ((F.hide D acc).mk' H') acc ds ∧ P k ds
theorem LcI.start {H1 : Hp} {D : Addr} {P : Nat → List PyData → Prop} (ok : F.ok H1) (hD : H1 D = none) (p : P 0 []) : LcI F K H1 D P 0 (upd H1 D (.lst [])) := by
  have m := Fr.out ok hD
  refine ⟨[], [], Nat.le_refl _, ⟨Fr.put ok m, upd_same⟩, fun b o h => ?_, .nil, p⟩
  have hb : F.ms b = false := by
    cases e : F.ms b with
    | false => rfl
    | true =>
      unfold Fr.mk' at h
      rw [e] at h
      cases h
  have hb' := F.sub _ _ h
  have ne : b ≠ D := fun e => by rw [e, hD] at hb'; cases hb'
  have : (F.hide D []).ms b = false := by
    show (F.ms b || decide (b = D)) = false
    rw [hb, decide_eq_false ne]
    rfl
  rw [Fr.at this, upd_ne ne]
  exact hb'
theorem LcI.end {H1 H' : Hp} {D : Addr} {P : Nat → List PyData → Prop} {k : Nat} (ok : F.ok H1) (hD : H1 D = none) (h : LcI F K H1 D P k H') : ∃ ds, Go F H1 H' ∧ DF F K H' (.ref D) (.list ds) ∧ P k ds := by
  obtain ⟨acc, ds, _, ⟨o, e⟩, x, dd, p⟩ := h
  refine ⟨ds, ⟨o, x.trans Fr.hide_sub⟩, .lst ?_ (dd.mono Fr.hide_sub), p⟩
  rw [Fr.at (Fr.out ok hD)]
  exact e
/-- one turn -/
theorem lc_turn {σ : L2.St} {H1 H' : Hp} {D : Addr} {vs : List Nat} {P : Nat → List PyData → Prop} {k : Nat} {v : V} {x : PyData} {S2 S3 : SS} (ok : F.ok H1) (hD : H1 D = none) (hk : k < sizeLine) (inv : LcI F K H1 D P k H')
    (hs : Sl K (F.mk' H1) (wipe σ vs) S2) (hv : DD K (F.mk' H1) v x)
    (hg : ∀ (G : Fr) (H : Hp), DD K (G.mk' H) v x → SF G K H (wipe σ vs) S2 → ∀ Q : L2.St → Hp → Prop, (∀ σ2, SF G K H σ2 S3 → wipe σ2 vs = wipe σ vs → Q σ2 H) → g v (wipe σ vs) H Q)
    (step : ∀ G, Hid F G → ∀ ds, P k ds → ET G K tt S3 fun b => if b = true then EV G K te S3 fun y => P (k + 1) (ds ++ [y]) else P (k + 1) ds) :
    g v (wipe σ vs) H' fun σ2 H2 => wipe σ2 vs = wipe σ vs ∧ tt σ2 H2 fun b H3 =>
      if b = true then te σ2 H3 fun y H4 => ∃ acc, H4 D = some (.lst acc) ∧ acc.length < sizeLine ∧ LcI F K H1 D P (k + 1) (upd H4 D (.lst (acc ++ [y]))) else LcI F K H1 D P (k + 1) H3 := by
  obtain ⟨acc, ds, hl, o, ex, dd, p⟩ := inv
  have mD := Fr.out ok hD
  refine hg (F.hide D acc) H' (hv.mono ex) ⟨o, hs.mono ex⟩ _ fun σ2 s2 w2 => ⟨w2, ?_⟩
  refine step (F.hide D acc) (.hide D acc mD .refl) ds p σ2 H' s2 _ fun b H3 e3 w3 => ?_
  cases b with
  | false => exact ⟨acc, ds, Nat.le_succ_of_le hl, e3.1, ex.trans e3.2, dd.mono e3.2, w3⟩
  | true =>
    rw [if_pos rfl] at w3
    refine w3 σ2 H3 (s2.mono e3) _ fun y d H4 e4 a4 w4 => ?_
    have mD' : (F.hide D acc).ms D = true := by
      show (F.ms D || decide (D = D)) = true
      simp
    have mk4 : (F.hide D (acc ++ [y])).mk' (upd H4 D (.lst (acc ++ [y]))) = (F.hide D acc).mk' H4 := by
      funext b
      show (if (F.ms b || decide (b = D)) = true then none else upd H4 D (.lst (acc ++ [y])) b) = (if (F.ms b || decide (b = D)) = true then none else H4 b)
      by_cases e : b = D
      · rw [decide_eq_true e, Bool.or_true, if_pos rfl, if_pos rfl]
      · rw [upd_ne e]
    refine ⟨acc, e4.1.2, Nat.lt_of_le_of_lt hl hk, acc ++ [y], ds ++ [d], by rw [List.length_append]; exact Nat.succ_le_succ hl, ⟨Fr.put e4.1.1 mD, upd_same⟩, ?_, ?_, w4⟩
    · rw [mk4]
      exact (ex.trans e3.2).trans e4.2
    · rw [mk4]
      exact (dd.mono (e3.2.trans e4.2)).append (.cons a4 .nil)
def wipeS (S : SS) : List Nat → SS
  | [] => S
  | v :: vs => (wipeS S vs).set v none
theorem Sl.wipe {H : Hp} {σ : L2.St} (h : Sl K H σ S) : ∀ vs : List Nat, Sl K H (L2.wipe σ vs) (wipeS S vs)
  | [] => h
  | v :: vs => Sl.unset none v (Sl.wipe h vs)
theorem wipe1 {σ : L2.St} {v : V} : L2.wipe ((L2.wipe σ [j]).set j (some v)) [j] = L2.wipe σ [j] := by
  show ((σ.set j none).set j (some v)).set j none = σ.set j none
  rw [List.set_set, List.set_set]
theorem wipe2 {σ : L2.St} {v w : V} : L2.wipe (((L2.wipe σ [i, j]).set i (some v)).set j (some w)) [i, j] = L2.wipe σ [i, j] := by
  show (((((σ.set j none).set i none).set i (some v)).set j (some w)).set j none).set i none = (σ.set j none).set i none
  by_cases e : i = j
  · subst e
    simp only [List.set_set]
  · rw [List.set_set, List.set_set, List.set_comm _ _ (Ne.symm e : j ≠ i), List.set_set, List.set_comm _ _ e, List.set_set]
/-- the turn's wish -/
def LcP (F : Fr) (K : PySem.W.Frag) (tt : TT) (te : TE) (S3 : PyData → SS) (xs : List PyData) (P : Nat → List PyData → Prop) : Prop :=
  ∀ k x, xs[k]? = some x → ∀ G, Hid F G → ∀ ds, P k ds → ET G K tt (S3 x) fun b => if b = true then EV G K te (S3 x) fun y => P (k + 1) (ds ++ [y]) else P (k + 1) ds
theorem gt1 {σ : L2.St} {S2 : SS} {v : V} {x : PyData} : ∀ (G : Fr) (H : Hp), DD K (G.mk' H) v x → SF G K H (L2.wipe σ [j]) S2 → ∀ Q : L2.St → Hp → Prop, (∀ σ2, SF G K H σ2 (S2.set j (some x)) → L2.wipe σ2 [j] = L2.wipe σ [j] → Q σ2 H) → gName j v (L2.wipe σ [j]) H Q :=
  fun G H hv hs Q q => q _ (hs.set hv j) wipe1
theorem ev_lcL (h : EV F K tl S fun d => ∃ xs P, d = .list xs ∧ xs.length ≤ 1000000 ∧ P 0 [] ∧ LcP F K tt te (fun x => (wipeS S [j]).set j (some x)) xs P ∧ ∀ ds, P xs.length ds → W (.list ds)) : EV F K (tLc (iList K tl) (gName j) tt te [j]) S W := fun σ H hs Q q =>
  h σ H hs _ fun v d H1 e1 a1 ⟨xs, P, ed, hl, p0, step, fin⟩ => by
    subst ed
    obtain ⟨a, ys, rfl, hx, hy⟩ := lst_inv a1
    refine ⟨a, rfl, ⟨ys, SqL.of (F.sub _ _ hx)⟩, fun D hD => lc_list (xs := ys) (LcI F K H1 D P) (.start e1.1 hD p0) (fun k H' _ ⟨_, _, _, _, ex, _⟩ => SqL.of (Fr.sub _ _ _ (ex _ _ hx))) (fun k v H' hv inv => ?_) fun H' inv => ?_⟩
    · have hk : k < xs.length := by rw [← hy.len]; exact (List.getElem?_eq_some_iff.mp hv).1
      obtain ⟨z, hz, az⟩ := hy.get (List.getElem?_eq_getElem hk)
      have ez : v = z := Option.some.inj (hv.symm.trans hz)
      subst ez
      exact lc_turn e1.1 hD (Nat.lt_of_lt_of_le hk (Nat.le_trans hl (by decide))) inv ((hs.mono e1).sl.wipe [j]) az gt1 (step k _ (List.getElem?_eq_getElem hk))
    · rw [hy.len] at inv
      obtain ⟨ds, g, dd, p⟩ := inv.end e1.1 hD
      exact q _ _ H' (e1.trans g) dd (fin ds p)
theorem ev_lcT (h : EV F K tl S fun d => ∃ xs P, d = .tuple xs ∧ xs.length ≤ 1000000 ∧ P 0 [] ∧ LcP F K tt te (fun x => (wipeS S [j]).set j (some x)) xs P ∧ ∀ ds, P xs.length ds → W (.list ds)) : EV F K (tLc (iTup K tl) (gName j) tt te [j]) S W := fun σ H hs Q q =>
  h σ H hs _ fun v d H1 e1 a1 ⟨xs, P, ed, hl, p0, step, fin⟩ => by
    subst ed
    obtain ⟨a, ys, rfl, hx, hy⟩ := tup_inv a1
    refine ⟨a, rfl, ⟨ys, Evl.ex_t F.sub hx⟩, fun D hD => lc_tup (xs := ys) (LcI F K H1 D P) (.start e1.1 hD p0) (fun k H' _ ⟨_, _, _, _, ex, _⟩ => Evl.ex_t (Fr.sub _) (Evl.ex_t ex hx)) (fun k v H' hv inv => ?_) fun H' inv => ?_⟩
    · have hk : k < xs.length := by rw [← hy.len]; exact (List.getElem?_eq_some_iff.mp hv).1
      obtain ⟨z, hz, az⟩ := hy.get (List.getElem?_eq_getElem hk)
      have ez : v = z := Option.some.inj (hv.symm.trans hz)
      subst ez
      exact lc_turn e1.1 hD (Nat.lt_of_lt_of_le hk (Nat.le_trans hl (by decide))) inv ((hs.mono e1).sl.wipe [j]) az gt1 (step k _ (List.getElem?_eq_getElem hk))
    · rw [hy.len] at inv
      obtain ⟨ds, g, dd, p⟩ := inv.end e1.1 hD
      exact q _ _ H' (e1.trans g) dd (fin ds p)
/-- over pairs in a tuple: for u, v in t -/
theorem ev_lcT2 (h : EV F K tl S fun d => ∃ (xs : List (PyData × PyData)) (P : Nat → List PyData → Prop), d = .tuple (xs.map fun x => .tuple [x.1, x.2]) ∧ xs.length ≤ 1000000 ∧ P 0 [] ∧
    (∀ k x, xs[k]? = some x → ∀ G, Hid F G → ∀ ds, P k ds → ET G K tt (((wipeS S [i, j]).set i (some x.1)).set j (some x.2)) fun b => if b = true then EV G K te (((wipeS S [i, j]).set i (some x.1)).set j (some x.2)) fun y => P (k + 1) (ds ++ [y]) else P (k + 1) ds) ∧ ∀ ds, P xs.length ds → W (.list ds)) :
    EV F K (tLc (iTup K tl) (gTup K 2 (gCons (gName i) (gCons (gName j) gNil))) tt te [i, j]) S W := fun σ H hs Q q =>
  h σ H hs _ fun v d H1 e1 a1 ⟨xs, P, ed, hl, p0, step, fin⟩ => by
    subst ed
    obtain ⟨a, ys, rfl, hx, hy⟩ := tup_inv a1
    have len : ys.length = xs.length := by rw [hy.len, List.length_map]
    refine ⟨a, rfl, ⟨ys, Evl.ex_t F.sub hx⟩, fun D hD => lc_tup (xs := ys) (LcI F K H1 D P) (.start e1.1 hD p0) (fun k H' _ ⟨_, _, _, _, ex, _⟩ => Evl.ex_t (Fr.sub _) (Evl.ex_t ex hx)) (fun k v H' hv inv => ?_) fun H' inv => ?_⟩
    · have hk : k < xs.length := by rw [← len]; exact (List.getElem?_eq_some_iff.mp hv).1
      have hk' : (xs.map fun x => PyData.tuple [x.1, x.2])[k]? = some (.tuple [xs[k].1, xs[k].2]) := by rw [List.getElem?_map, List.getElem?_eq_getElem hk]; rfl
      obtain ⟨z, hz, az⟩ := hy.get hk'
      have ez : v = z := Option.some.inj (hv.symm.trans hz)
      subst ez
      refine lc_turn (S3 := ((wipeS S [i, j]).set i (some xs[k].1)).set j (some xs[k].2)) e1.1 hD (Nat.lt_of_lt_of_le hk (Nat.le_trans hl (by decide))) inv ((hs.mono e1).sl.wipe [i, j]) az ?_ (step k _ (List.getElem?_eq_getElem hk))
      intro G H hv hs Q q
      obtain ⟨p, zs, rfl, hp, hz⟩ := tup_inv hv
      obtain ⟨v1, v2, rfl, h1, h2⟩ := two_inv hz
      exact ⟨p, _, rfl, Evl.ex_t G.sub hp, rfl, v1, [v2], rfl, v2, [], rfl, rfl, q _ ((hs.set h1 i).set h2 j) wipe2⟩
    · rw [len] at inv
      obtain ⟨ds, g, dd, p⟩ := inv.end e1.1 hD
      exact q _ _ H' (e1.trans g) dd (fin ds p)
/-- over a range -/
theorem lc_rng {σ : L2.St} {H H1 : Hp} {lo : Int} {n : Nat} {Q : VK} {D : Addr} {P : Nat → List PyData → Prop} (hs : SF F K H σ S) (e1 : Go F H H1) (hD : H1 D = none) (hl : n ≤ 1000000) (p0 : P 0 [])
    (step : ∀ k, k < n → ∀ G, Hid F G → ∀ ds, P k ds → ET G K tt ((wipeS S [j]).set j (some (.int (lo + (k : Int))))) fun b => if b = true then EV G K te ((wipeS S [j]).set j (some (.int (lo + (k : Int))))) fun y => P (k + 1) (ds ++ [y]) else P (k + 1) ds)
    (fin : ∀ ds, P n ds → W (.list ds)) (q : ∀ v d H', Go F H H' → DF F K H' v d → W d → Q v H') :
    ∃ W : Nat → Nat → Hp → Prop, (∃ m, W 0 m (upd H1 D (.lst []))) ∧ ∀ i m H, W i m H →
      ((Itr lo n).stop i H ∧ Q (.ref D) H) ∨ ((Itr lo n).go i H ∧ ∃ Nx : Hp → Prop, (∀ H', Nx H' → ∃ m', m' < m ∧ W (i + 1) m' H') ∧ ∀ x H', (Itr lo n).yld i H x H' → gName j x (wipe σ [j]) H' fun σ2 H2 => wipe σ2 [j] = wipe σ [j] ∧ tt σ2 H2 fun b H3 =>
        if b = true then te σ2 H3 fun y H4 => ∃ acc, H4 D = some (.lst acc) ∧ acc.length < sizeLine ∧ Nx (upd H4 D (.lst (acc ++ [y]))) else Nx H3) :=
  lc_range (LcI F K H1 D P) (.start e1.1 hD p0) (fun k H' hk inv => lc_turn e1.1 hD (Nat.lt_of_lt_of_le hk (Nat.le_trans hl (by decide))) inv ((hs.mono e1).sl.wipe [j]) (.int _) gt1 (step k hk)) fun H' inv => by
    obtain ⟨ds, g, dd, p⟩ := inv.end e1.1 hD
    exact q _ _ H' (e1.trans g) dd (fin ds p)
theorem ev_lcR1 (h : EA F K tr S fun ds => ∃ (n : Nat) (P : Nat → List PyData → Prop), ds = [.int n] ∧ n ≤ 1000000 ∧ P 0 [] ∧
    (∀ k, k < n → ∀ G, Hid F G → ∀ ds, P k ds → ET G K tt ((wipeS S [j]).set j (some (.int ((0 : Int) + (k : Int))))) fun b => if b = true then EV G K te ((wipeS S [j]).set j (some (.int ((0 : Int) + (k : Int))))) fun y => P (k + 1) (ds ++ [y]) else P (k + 1) ds) ∧ ∀ ds, P n ds → W (.list ds)) :
    EV F K (tLc (iRng1 tr) (gName j) tt te [j]) S W := fun σ H hs Q q => h σ H hs _ fun vs ds H1 e1 a ⟨n, P, ed, hl, p0, step, fin⟩ => by
  subst ed
  obtain ⟨v, rfl, av⟩ := one_inv a
  cases int_inv av
  exact ⟨n, rfl, by omega, by omega, fun D hD => lc_rng hs e1 hD hl p0 step fin q⟩
theorem ev_lcR2 (h : EA F K tr S fun ds => ∃ (lo hi : Int) (n : Nat) (P : Nat → List PyData → Prop), ds = [.int lo, .int hi] ∧ (-(2 ^ 62) ≤ lo ∧ lo < 2 ^ 62 ∧ -(2 ^ 62) ≤ hi ∧ hi < 2 ^ 62) ∧ (hi - lo).toNat = n ∧ n ≤ 1000000 ∧ P 0 [] ∧
    (∀ k, k < n → ∀ G, Hid F G → ∀ ds, P k ds → ET G K tt ((wipeS S [j]).set j (some (.int (lo + (k : Int))))) fun b => if b = true then EV G K te ((wipeS S [j]).set j (some (.int (lo + (k : Int))))) fun y => P (k + 1) (ds ++ [y]) else P (k + 1) ds) ∧ ∀ ds, P n ds → W (.list ds)) :
    EV F K (tLc (iRng2 tr) (gName j) tt te [j]) S W := fun σ H hs Q q => h σ H hs _ fun vs ds H1 e1 a ⟨lo, hi, n, P, ed, bd, hn, hl, p0, step, fin⟩ => by
  subst ed hn
  obtain ⟨v, u, rfl, av, au⟩ := two_inv a
  cases int_inv av
  cases int_inv au
  exact ⟨lo, hi, rfl, bd, fun D hD => lc_rng hs e1 hD hl p0 step fin q⟩
/-- range(lo, hi, -1) -/
theorem ev_lcR3 (h : EA F K tr S fun ds => ∃ (lo hi : Int) (n : Nat) (P : Nat → List PyData → Prop), ds = [.int lo, .int hi, .int (-1)] ∧ (-(2 ^ 62) ≤ lo ∧ lo < 2 ^ 62 ∧ -(2 ^ 62) ≤ hi ∧ hi < 2 ^ 62) ∧ (lo - hi).toNat = n ∧ n ≤ 1000000 ∧ P 0 [] ∧
    (∀ k, k < n → ∀ G, Hid F G → ∀ ds, P k ds → ET G K tt ((wipeS S [j]).set j (some (.int (lo - (k : Int))))) fun b => if b = true then EV G K te ((wipeS S [j]).set j (some (.int (lo - (k : Int))))) fun y => P (k + 1) (ds ++ [y]) else P (k + 1) ds) ∧ ∀ ds, P n ds → W (.list ds)) :
    EV F K (tLc (iRng3 tr) (gName j) tt te [j]) S W := fun σ H hs Q q => h σ H hs _ fun vs ds H1 e1 a ⟨lo, hi, n, P, ed, bd, hn, hl, p0, step, fin⟩ => by
  subst ed hn
  obtain ⟨v, u, w, rfl, av, au, aw⟩ := three_inv a
  cases int_inv av
  cases int_inv au
  cases int_inv aw
  refine ⟨lo, hi, -1, (lo - hi).toNat, rfl, RgC.neg bd.1 bd.2.1 bd.2.2.1 bd.2.2.2, fun D hD => ?_⟩
  refine ⟨fun k m H' => m = (lo - hi).toNat - k ∧ k ≤ (lo - hi).toNat ∧ LcI F K H1 D P k H', ⟨_, rfl, Nat.zero_le _, .start e1.1 hD p0⟩, ?_⟩
  rintro k m H' ⟨rfl, hk, inv⟩
  by_cases hlt : k < (lo - hi).toNat
  · refine .inr ⟨hlt, LcI F K H1 D P (k + 1), fun H'' p' => ⟨(lo - hi).toNat - (k + 1), by omega, rfl, hlt, p'⟩, fun x H'' y => ?_⟩
    obtain ⟨e, y⟩ := y
    subst e y
    rw [show lo + (k : Int) * -1 = lo - (k : Int) by omega]
    exact lc_turn e1.1 hD (Nat.lt_of_lt_of_le hlt (Nat.le_trans hl (by decide))) inv ((hs.mono e1).sl.wipe [j]) (.int _) gt1 (step k hlt)
  · have e : k = (lo - hi).toNat := by omega
    subst e
    refine .inl ⟨Nat.le_refl _, ?_⟩
    obtain ⟨ds, g, dd, p⟩ := inv.end e1.1 hD
    exact q _ _ H' (e1.trans g) dd (fin ds p)
end

/-! ### calls -/
/-- a def's promise: called with ds, wanting W, C is to hold -/
abbrev Ct : Type := List PyData → (PyData → Prop) → Prop
def PurF (F : Fr) (K : PySem.W.Frag) (n : Nat) (C : Ct) : Sp := fun vs H Q _ => ∃ ds W, ds.length = n ∧ F.ok H ∧ DFs F K H vs ds ∧ C ds W ∧ ∀ v d H', Go F H H' → DF F K H' v d → W d → Q v H'
def Pur (K : PySem.W.Frag) (n : Nat) (C : Ct) : Sp := fun vs H Q E => ∃ F, PurF F K n C vs H Q E
section
variable {F : Fr} {K : PySem.W.Frag} {S : SS} {W : PyData → Prop} {te : TE} {tr : TA} {C : Ct} {n : Nat}
theorem ev_call (h : EA F K tr S fun ds => ds.length = n ∧ C ds W) : EV F K (tCall (Pur K n C) [] E0 tr) S W := fun σ H hs Q q => h σ H hs _ fun vs ds H1 e1 a1 ⟨hl, c⟩ => by
  show Pur K n C (vs ++ []) H1 Q E0
  rw [List.append_nil]
  exact ⟨F, ds, W, hl, e1.1, a1, c, fun v d H' e a w => q v d H' (e1.trans e) a w⟩
end
/-- the same where the frame is one of a family (the source stands aside) -/
def PurI {I : Type} (Fam : I → Fr → Prop) (K : PySem.W.Frag) (n : Nat) (C : I → Ct) : Sp := fun vs H Q E => ∃ i F, Fam i F ∧ PurF F K n (C i) vs H Q E
section
variable {F : Fr} {K : PySem.W.Frag} {S : SS} {W : PyData → Prop} {te : TE} {tr : TA} {n : Nat} {I : Type} {Fam : I → Fr → Prop} {C : I → Ct}
theorem ev_callI (i : I) (hF : Fam i F) (h : EA F K tr S fun ds => ds.length = n ∧ C i ds W) : EV F K (tCall (PurI Fam K n C) [] E0 tr) S W := fun σ H hs Q q => h σ H hs _ fun vs ds H1 e1 a1 ⟨hl, c⟩ => by
  show PurI Fam K n C (vs ++ []) H1 Q E0
  rw [List.append_nil]
  exact ⟨i, F, hF, ds, W, hl, e1.1, a1, c, fun v d H' e a w => q v d H' (e1.trans e) a w⟩
end
/-- a def that keeps its promise -/
structure Fct (P : Program) (w : World) (K : PySem.W.Frag) (mg : Str → Option Value) (base : Heap) (k : Nat) (x : Str) (sp : Sp) : Prop where
  ex : ∃ (f : Addr) (fd : FuncData) (ps : List Str), FnOk P w K mg base CX0 k f fd ps sp ∧ mg x = some (.ref f) ∧ PySem.W.keepIn K (.ref f) = true ∧ Binds K fd ps []
section
variable {X : Cx} {k : Nat} {x : Str} {sp : Sp} {p pos : Pos} {e : Expr} {es : List Expr} {t : TA}
theorem pe_fct (h : Fct X.prog X.w X.K X.mg X.base k x sp) (hr : Room k X.A) (hg : Gl X x) (ha : PA X (e :: es) t) (hdb : (x == ("__debug__" : Str)) = false := by decide +kernel)
    (he : starEach (e :: es) X.env = (false, eval e X.env) :: starEach es X.env := by rfl) (hpl : (backTo pos (starEach es X.env)).any (·.1) = false := by rfl) : PE X (.Call (.Name x p) (e :: es) [] pos) (tCall sp [] E0 t) := by
  obtain ⟨f, fd, ps, F, hm, hk, hb⟩ := h.ex
  exact pe_call F hr hg hm hk hb .nil pass0 ha hdb he hpl
end
section
variable {P : Program} {w : World} {K : PySem.W.Frag} {mg : Str → Option Value} {base : Heap} {x qual : Str} {params : Arguments} {body : List Stmt} {scope : Scope} {f : Addr} {fd : FuncData} {N ps : List Str} {k n : Nat} {C : Ct} {t : TS}
/-- THE RULE: the body as a term, its reading against the promise -/
theorem fct_of (D : FunD K x qual params body scope [] [] f fd) (hm : mg x = some (.ref f)) (S : FnScope N ps scope) (hn : ps.length = n)
    (hb : ∀ (kV doc pm : Value) (an : Option Addr) (cdv ct : Value) (us : List Value), us.length = ps.length → bindArgs (PySem.W.fnOf x qual params body scope .none kV doc pm an cdv ct) ⟨us, []⟩ = pure (ps.zip us))
    (body_ok : ∀ (cdv : Value) (A : Around) (outer : List Env) (s : Shared) (H : Hp) (E : XK), Room k (A.deeper (envOfC qual scope s.heap.objs.size f cdv)) → PSs (cxOf CX0 P w K mg base N qual scope f cdv A outer s H E).nox body t)
    (reads : ∀ F ds W, ds.length = n → C ds W → XS F K t (ds.map some ++ List.replicate (N.length - n) none) (fun _ => W .none) W) :
    Fct P w K mg base (k + 1) x (Pur K n C) := by
  refine ⟨f, fd, ps, D.ok S (fun vs H Q E ⟨F, ds, W, hl, _, dd, _⟩ => by rw [dd.len, hl, hn]) (fun cdv A outer s H vs Q E hr ⟨F, ds, W, hl, ok, dd, c, q⟩ => ⟨t, (body_ok cdv A outer s H E hr).nox, ?_⟩), hm, D.kp, D.bindsN hb⟩
  have hl' : vs.length = n := by rw [dd.len, hl]
  have e : L2.start N vs = vs.map some ++ List.replicate (N.length - n) none := by
    unfold L2.start
    rw [hl']
  rw [e]
  refine reads F ds W hl c _ H ⟨ok, .start dd⟩ _ (fun σ' S' H' g s' w' => q .non .none H' g .non w') fun v d H' g a r => q v d H' g a r
theorem fctI_of {I : Type} {Fam : I → Fr → Prop} {C : I → Ct} (D : FunD K x qual params body scope [] [] f fd) (hm : mg x = some (.ref f)) (S : FnScope N ps scope) (hn : ps.length = n)
    (hb : ∀ (kV doc pm : Value) (an : Option Addr) (cdv ct : Value) (us : List Value), us.length = ps.length → bindArgs (PySem.W.fnOf x qual params body scope .none kV doc pm an cdv ct) ⟨us, []⟩ = pure (ps.zip us))
    (body_ok : ∀ (cdv : Value) (A : Around) (outer : List Env) (s : Shared) (H : Hp) (E : XK), Room k (A.deeper (envOfC qual scope s.heap.objs.size f cdv)) → PSs (cxOf CX0 P w K mg base N qual scope f cdv A outer s H E).nox body t)
    (reads : ∀ i F ds W, Fam i F → ds.length = n → C i ds W → XS F K t (ds.map some ++ List.replicate (N.length - n) none) (fun _ => W .none) W) :
    Fct P w K mg base (k + 1) x (PurI Fam K n C) := by
  refine ⟨f, fd, ps, D.ok S (fun vs H Q E ⟨i, F, _, ds, W, hl, _, dd, _⟩ => by rw [dd.len, hl, hn]) (fun cdv A outer s H vs Q E hr ⟨i, F, fam, ds, W, hl, ok, dd, c, q⟩ => ⟨t, (body_ok cdv A outer s H E hr).nox, ?_⟩), hm, D.kp, D.bindsN hb⟩
  have hl' : vs.length = n := by rw [dd.len, hl]
  have e : L2.start N vs = vs.map some ++ List.replicate (N.length - n) none := by
    unfold L2.start
    rw [hl']
  rw [e]
  refine reads i F ds W fam hl c _ H ⟨ok, .start dd⟩ _ (fun σ' S' H' g s' w' => q .non .none H' g .non w') fun v d H' g a r => q v d H' g a r
end
end Bm
-- BmTx
set_option maxRecDepth 100000
set_option maxHeartbeats 2000000
/-! BmTx: what the top has left, as the walks use it; the readings' short names. -/
namespace Bm
open PySem PySem.Spec PyProof.Rows L2
open BmHead (topS)

structure Tx (P : Program) (w : World) (K : PySem.W.Frag) (mg : Str → Option Value) (base : Heap) : Prop where
  seer : base.NoSeer
  tree : P.given.tree = none
  m_abs : mg "abs" = none
  m_all : mg "all" = none
  m_bool : mg "bool" = none
  m_dict : mg "dict" = none
  m_enumerate : mg "enumerate" = none
  m_int : mg "int" = none
  m_isinstance : mg "isinstance" = none
  m_len : mg "len" = none
  m_list : mg "list" = none
  m_max : mg "max" = none
  m_min : mg "min" = none
  m_range : mg "range" = none
  m_tuple : mg "tuple" = none
  m_zip : mg "zip" = none
  mGcd : mg "gcd" = some (.builtin "math.gcd")
  mZero : mg "ZERO" = some (.ref (He.ga K "ZERO"))
  mFirst : mg "FIRST_BALL" = some (.ref (He.ga K "FIRST_BALL"))
  dZero : ∀ H, DD K H (.ref (He.ga K "ZERO")) (.tuple [.int 0, .int 1])
  dFirst : ∀ H, DD K H (.ref (He.ga K "FIRST_BALL")) (.tuple [.int 0, .tuple [.int 0, .int 1]])
  df : ∀ x i, BmHead.dd x i ∈ BmHead.fn → mg x = some (.ref (He.ga K x)) ∧ ∃ fd, FunD K x x (defArgs (topS i)) (defBody (topS i)) (defScope (topS i)) [] [] (He.ga K x) fd

def rAdd : R2 := rI0 fun i j => .int (i + j)
def rSub : R2 := rI0 fun i j => .int (i - j)
def rMul : R2 := rI CMulX fun i j => .int (i * j)
def rFdv : R2 := rI (fun _ j => j ≠ 0) fun i j => .int (i.fdiv j)
def rMod : R2 := rI (fun _ j => j ≠ 0) fun i j => .int (i.fmod j)
def rLt : R2 := rI0 fun i j => .bl (decide (i < j))
def rLe : R2 := rI0 fun i j => .bl (decide (i ≤ j))
def rGt : R2 := rI0 fun i j => .bl (decide (j < i))
def rGe : R2 := rI0 fun i j => .bl (decide (j ≤ i))
def rNeg : V → Hp → VK → Prop := rU fun i => .int (-i)
def rIsN : R2 := fun x y H Q => y = .non ∧ Q (.bl (decide (x = .non))) H
def rNotN : R2 := fun x y H Q => y = .non ∧ Q (.bl (!decide (x = .non))) H
def rAbs : List V → Hp → VK → Prop := fun xs H Q => ∃ i, xs = [.int i] ∧ Q (.int (if i < 0 then -i else i)) H
def rInt1 : List V → Hp → VK → Prop := fun xs H Q => (∃ i, xs = [.int i] ∧ Q (.int i) H) ∨ ∃ k, xs = [.bl k] ∧ Q (.int (if k then 1 else 0)) H
def rLen (K : PySem.W.Frag) : List V → Hp → VK → Prop := fun xs H Q => ∃ p ys, xs = [.ref p] ∧ (SqL K H p ys ∨ SqT K H p ys) ∧ Q (.int ys.length) H
def rLst (K : PySem.W.Frag) : List V → Hp → VK → Prop := fun xs H Q => ∃ p ys, xs = [.ref p] ∧ (SqL K H p ys ∨ SqT K H p ys) ∧ ∀ l, H l = none → Q (.ref l) (upd H l (.lst ys))
def rTpl (K : PySem.W.Frag) : List V → Hp → VK → Prop := fun xs H Q => ∃ p ys, xs = [.ref p] ∧ ((SqL K H p ys ∧ ∀ l, H l = none → Q (.ref l) (upd H l (.tup ys))) ∨ (SqT K H p ys ∧ Q (.ref p) H))
def rMax : List V → Hp → VK → Prop := fun xs H Q => ∃ i j, xs = [.int i, .int j] ∧ Q (.int (if j > i then j else i)) H
def rMin : List V → Hp → VK → Prop := fun xs H Q => ∃ i j, xs = [.int i, .int j] ∧ Q (.int (if j < i then j else i)) H

theorem Tx.dv {P : Program} {w : World} {K : PySem.W.Frag} {mg : Str → Option Value} {base : Heap} (T : Tx P w K mg base) {CX : CXT} {N : List Str} {qual : Str} {scope : Scope} {f : Addr} {cd : Value} {A : Around} {outer : List Env} {s : Shared} {H : Hp} {E : XK} {k : Nat}
    (hr : Room k (A.deeper (envOfC qual scope s.heap.objs.size f cd))) (hk : 35 ≤ k) (h1 : scope.isGenerator = false) (h2 : scope.isCoroutine = false) : Dv (cxOf CX P w K mg base N qual scope f cd A outer s H E).nox :=
  ⟨T.seer, by
    have h := hr.dp
    show (A.deeper (envOfC qual scope s.heap.objs.size f cd)).depth + 100 < recursionLimit
    omega, T.tree, _, _, rfl, h1, h2, rfl, rfl⟩
theorem Dv.blk {X : Cx} (d : Dv X) {s : Shared} {H : Hp} {scope : Scope} {cenv : Env} {fp : List Addr} : Dv (X.blk s H scope cenv fp) := ⟨d.seer, d.room, d.tree, d.top⟩
theorem Room.u65 {k : Nat} {A : Around} (r : Room k A) : A.units + 65 < cLine := by have := r.un; omega
end Bm
-- BmSpec
set_option maxRecDepth 100000
set_option maxHeartbeats 2000000
/-! BmSpec: what each def promises, in the words of the mathematics. -/
namespace Bm
open PySem PySem.Spec PyProof.Rows L2 Bt

def PP (p : Int) : Prop := p = 2 ∨ p = 3 ∨ p = 5 ∨ p = 7
theorem PP.pi {p : Int} (h : PP p) : IsPI p := isPI_of p h
def sz (n : Nat) (i : Int) : Prop := i.natAbs < 2 ^ n
def Sz (n : Nat) (x : Rat) : Prop := sz n x.num ∧ sz n (x.den : Int)
/-! data -/
abbrev dF (q : Rat) : PyData := .tuple [.int q.num, .int (q.den : Int)]
abbrev dB (x : Bl) : PyData := .tuple [.int x.1, dF x.2]
structure Mi where
  a : Int
  b : Int
  c : Int
  d : Int
def Mi.m (M : Mi) : Mt := ⟨(M.a : Rat), (M.b : Rat), (M.c : Rat), (M.d : Rat)⟩
def Mi.sz (n : Nat) (M : Mi) : Prop := Bm.sz n M.a ∧ Bm.sz n M.b ∧ Bm.sz n M.c ∧ Bm.sz n M.d
abbrev dM (M : Mi) : PyData := .tuple [.int M.a, .int M.b, .int M.c, .int M.d]
abbrev dS {p : Int} (x y : B p) : PyData := .tuple [dB x.1, dB y.1]
/-- a move that is walked: no table of rank one, entries not too long -/
structure Mi.ok (M : Mi) : Prop where
  det : Mt.det M.m ≠ 0
  len : M.sz 12000
/-! balls near the root -/
def Nr (x : Bl) : Prop := x.1.natAbs ≤ 800000 ∧ Sz 5000000 x.2
noncomputable def root {p : Int} (h : PP p) : B p := nb h.pi 0 0
noncomputable abbrev tr {p : Int} (h : PP p) : Tree (B p) := tree h.pi
noncomputable abbrev ac {p : Int} (h : PP p) (M : Mi) : B p → B p := act h.pi M.m
noncomputable abbrev st (p : Int) (M : Mi) : Int := strv p M.m
def Rd {p : Int} (h : PP p) (R : Int) (x : B p) : Prop := (tr h).d (root h) x ≤ R
/-- the balls of the line, from x onward -/
noncomputable def itn {p : Int} (h : PP p) (M : Mi) (x : B p) : Nat → B p
  | 0 => x
  | n + 1 => nxt (tr h) (ac h M) (itn h M x n)

/-! ### fractions.py, primes.py -/
def c_is_number : Ct := fun ds W => ∃ i : Int, ds = [.int i] ∧ W (.bool true)
def c_is_row_of_numbers : Ct := fun ds W => ∃ a b : Int, ds = [.tuple [.int a, .int b], .int 2] ∧ W (.bool true)
def c_fraction : Ct := fun ds W => ∃ n d : Int, ds = [.int n, .int d] ∧ d ≠ 0 ∧ W (dF ((n : Rat) / (d : Rat)))
def c_is_fraction : Ct := fun ds W => ∃ q : Rat, ds = [dF q] ∧ W (.bool true)
def c_plus : Ct := fun ds W => ∃ x y : Rat, ds = [dF x, dF y] ∧ Sz 60000000 x ∧ Sz 60000000 y ∧ W (dF (x + y))
def c_minus : Ct := fun ds W => ∃ x y : Rat, ds = [dF x, dF y] ∧ Sz 60000000 x ∧ Sz 60000000 y ∧ W (dF (x - y))
def c_times_of : Ct := fun ds W => ∃ x y : Rat, ds = [dF x, dF y] ∧ Sz 60000000 x ∧ Sz 60000000 y ∧ W (dF (x * y))
def c_divided : Ct := fun ds W => ∃ x y : Rat, ds = [dF x, dF y] ∧ Sz 60000000 x ∧ Sz 60000000 y ∧ y ≠ 0 ∧ W (dF (x / y))
def c_is_less : Ct := fun ds W => ∃ x y : Rat, ds = [dF x, dF y] ∧ Sz 60000000 x ∧ Sz 60000000 y ∧ W (.bool (decide (x < y)))
def c_split_off : Ct := fun ds W => ∃ p n : Int, PP p ∧ ds = [.int p, .int n] ∧ n ≠ 0 ∧ ∀ (k : Nat) (u : Int), n = p ^ k * u → ¬ p ∣ u → W (.tuple [.int (k : Int), .int u])
def c_parts : Ct := fun ds W => ∃ (p : Int) (x : Rat), PP p ∧ ds = [.int p, dF x] ∧ x ≠ 0 ∧ W (.int (vl p x))
def c_raised : Ct := fun ds W => ∃ (n : Int) (k : Nat), ds = [.int n, .int (k : Int)] ∧ sz 3 n ∧ k ≤ 20000000 ∧ W (.int (n ^ k))
def c_power_of : Ct := fun ds W => ∃ (p n : Int), PP p ∧ ds = [.int p, .int n] ∧ n.natAbs ≤ 20000000 ∧ W (dF (Pw p n))
def c_inverse : Ct := fun ds W => ∃ n m : Int, ds = [.int n, .int m] ∧ 0 < m ∧ sz 60000001 m ∧ (∃ a b : Int, n * a + m * b = 1) ∧ ∀ r : Int, 0 ≤ r → r < m → m ∣ n * r - 1 → W (.int r)
def c_rest : Ct := fun ds W => ∃ (p : Int) (k : Nat) (x : Rat), PP p ∧ ds = [.int p, .int (k : Int), dF x] ∧ k ≤ 20000000 ∧ ¬ p ∣ (x.den : Int) ∧ Sz 60000000 x ∧ ∀ r : Int, 0 ≤ r → r < p ^ k → Ge p k (x - r) → W (.int r)
/-! ### balls.py -/
def c_is_ball : Ct := fun ds W => ∃ (p : Int) (x : Bl), PP p ∧ ds = [.int p, dB x] ∧ Ok p x.1 x.2 ∧ Nr x ∧ W (.bool true)
def c_ball : Ct := fun ds W => ∃ (p : Int) (h : PP p) (n : Int) (x : Rat), ds = [.int p, .int n, dF x] ∧ n.natAbs ≤ 12000000 ∧ Sz 5000000 x ∧ W (dB (nb h.pi n x).1)
def c_about : Ct := fun ds W => ∃ (p : Int) (h : PP p) (x : B p), ds = [.int p, dB x.1] ∧ Nr x.1 ∧ W (dB (nb h.pi (x.1.1 - 1) x.1.2).1)
def c_within : Ct := fun ds W => ∃ (p : Int) (h : PP p) (x : B p), ds = [.int p, dB x.1] ∧ Nr x.1 ∧ W (.list ((List.range p.toNat).map fun k => dB (x.1.1 + 1, x.1.2 + ((k : Nat) : Rat) * Pw p x.1.1)))
def c_neighbours : Ct := fun ds W => ∃ (p : Int) (h : PP p) (x : B p), ds = [.int p, dB x.1] ∧ Nr x.1 ∧ W (.list (dB (nb h.pi (x.1.1 - 1) x.1.2).1 :: (List.range p.toNat).map fun k => dB (x.1.1 + 1, x.1.2 + ((k : Nat) : Rat) * Pw p x.1.1)))
def c_least_about : Ct := fun ds W => ∃ (p : Int) (h : PP p) (x y : B p), ds = [.int p, dB x.1, dB y.1] ∧ Nr x.1 ∧ Nr y.1 ∧ W (dB (nb h.pi (tl p x.1 y.1) x.1.2).1)
/-! ### moves.py -/
def c_in_form : Ct := fun ds W => ∃ M : Mi, ds = [dM M] ∧ (M.a ≠ 0 ∨ M.b ≠ 0 ∨ M.c ≠ 0 ∨ M.d ≠ 0) ∧ ∀ (L : Mi) (k : Int), k ≠ 0 → M.a = k * L.a → M.b = k * L.b → M.c = k * L.c → M.d = k * L.d → W (dM L)
def c_size : Ct := fun ds W => ∃ M : Mi, ds = [dM M] ∧ M.sz 60000000 ∧ W (.int (M.a * M.d - M.b * M.c))
def c_sum_of : Ct := fun ds W => ∃ M : Mi, ds = [dM M] ∧ W (.int (M.a + M.d))
def c_after : Ct := fun ds W => ∃ M N : Mi, ds = [dM M, dM N] ∧ M.sz 60000000 ∧ N.sz 60000000 ∧ Mt.det M.m ≠ 0 ∧ Mt.det N.m ≠ 0 ∧
  ∀ (L : Mi) (k : Int), k ≠ 0 → M.a * N.a + M.b * N.c = k * L.a → M.a * N.b + M.b * N.d = k * L.b → M.c * N.a + M.d * N.c = k * L.c → M.c * N.b + M.d * N.d = k * L.d → W (dM L)
def c_back : Ct := fun ds W => ∃ M : Mi, ds = [dM M] ∧ Mt.det M.m ≠ 0 ∧ ∀ (L : Mi) (k : Int), k ≠ 0 → M.d = k * L.a → -M.b = k * L.b → -M.c = k * L.c → M.a = k * L.d → W (dM L)
/-! ### leads.py, roads.py -/
def c_has_more : Ct := fun ds W => ∃ (p : Int) (x y : Rat), PP p ∧ ds = [.int p, dF x, dF y] ∧ W (.bool (decide (y ≠ 0 ∧ (x = 0 ∨ vl p y < vl p x))))
def c_ball_of : Ct := fun ds W => ∃ (p : Int) (h : PP p) (M : Mt) (x z : B p) (ax ay bx bby : Rat), ds = [.int p, .tuple [dF ax, dF ay], .tuple [dF bx, dF bby]] ∧
  Mt.mul M (Tb p x.1) = ⟨ax, bx, ay, bby⟩ ∧ Mt.det M ≠ 0 ∧ Sz 2500000 ax ∧ Sz 2500000 ay ∧ Sz 2500000 bx ∧ Sz 2500000 bby ∧ (act h.pi M x).1.1.natAbs ≤ 12000000 ∧ W (dB (act h.pi M x).1)
def c_led : Ct := fun ds W => ∃ (p : Int) (h : PP p) (M : Mi) (x : B p), ds = [.int p, dM M, dB x.1] ∧ M.ok ∧ Rd h 400000 x ∧ W (dB (ac h M x).1)
def c_road : Ct := fun ds W => ∃ (p : Int) (h : PP p) (x y : B p), ds = [.int p, dB x.1, dB y.1] ∧ Nr x.1 ∧ Nr y.1 ∧ (tr h).d x y ≤ 900000 ∧ W (.tuple ((List.range (((tr h).d x y).toNat + 1)).map fun k : Nat => dB ((tr h).on x y (k : Int)).1))
def c_steps : Ct := fun ds W => ∃ (p : Int) (h : PP p) (x y : B p), ds = [.int p, dB x.1, dB y.1] ∧ Nr x.1 ∧ Nr y.1 ∧ W (.int ((tr h).d x y))
def c_on_road : Ct := fun ds W => ∃ (p : Int) (h : PP p) (x y : B p) (k : Int), ds = [.int p, dB x.1, dB y.1, .int k] ∧ Nr x.1 ∧ Nr y.1 ∧ 0 ≤ k ∧ k ≤ (tr h).d x y ∧ W (dB ((tr h).on x y k).1)
def c_is_side : Ct := fun ds W => ∃ (p : Int) (h : PP p) (x y : B p), ds = [.int p, dS x y] ∧ Nr x.1 ∧ Nr y.1 ∧ (tr h).d x y = 1 ∧ W (.bool true)
def c_on_side : Ct := fun ds W => ∃ (p : Int) (h : PP p) (u v x : B p), ds = [.int p, dS u v, dB x.1] ∧ Nr u.1 ∧ Nr v.1 ∧ Nr x.1 ∧ ∀ b : Bool, (b = true ↔ onS (tr h) (u, v) x) → W (.bool b)
def c_are_apart : Ct := fun ds W => ∃ (p : Int) (h : PP p) (u v x y : B p), ds = [.int p, dS u v, dS x y] ∧ Nr u.1 ∧ Nr v.1 ∧ Nr x.1 ∧ Nr y.1 ∧ ∀ b : Bool, (b = true ↔ apS (tr h) (u, v) (x, y)) → W (.bool b)
def c_lies_in : Ct := fun ds W => ∃ (p : Int) (h : PP p) (u v x y : B p), ds = [.int p, dS u v, dS x y] ∧ Nr u.1 ∧ Nr v.1 ∧ Nr x.1 ∧ Nr y.1 ∧ ∀ b : Bool, (b = true ↔ apS (tr h) (u, v) (y, x)) → W (.bool b)
/-! ### kinds.py, kept.py, lines.py -/
def c_stretch : Ct := fun ds W => ∃ (p : Int) (M : Mi), PP p ∧ ds = [.int p, dM M] ∧ Mt.det M.m ≠ 0 ∧ M.sz 60000000 ∧ W (.int (st p M))
def c_resting : Ct := fun ds W => ∃ (p : Int) (h : PP p) (M : Mi) (x : B p), ds = [.int p, dM M, dB x.1] ∧ M.ok ∧ 0 < st p M ∧ Rd h 300000 x ∧ W (dB (gateT (tr h) (ac h M) (st p M) x).1)
def c_on_line : Ct := fun ds W => ∃ (p : Int) (h : PP p) (M : Mi) (x : B p), ds = [.int p, dM M, dB x.1] ∧ M.ok ∧ 0 < st p M ∧ Rd h 300000 x ∧ ∀ b : Bool, (b = true ↔ Ax (tr h) (ac h M) (st p M) x) → W (.bool b)
def c_line_from : Ct := fun ds W => ∃ (p : Int) (h : PP p) (M : Mi) (x : B p) (k : Nat), ds = [.int p, dM M, dB x.1, .int (k : Int)] ∧ M.ok ∧ 0 < st p M ∧ Rd h 200000 x ∧ Ax (tr h) (ac h M) (st p M) x ∧ (k : Int) ≤ st p M ∧
  W (.tuple ((List.range (k + 1)).map fun i => dB (itn h M x i).1))
abbrev c_gate : Ct := c_resting
def c_need_stretching : Ct := fun ds W => ∃ (p : Int) (M N : Mi), PP p ∧ ds = [.int p, dM M, dM N] ∧ M.ok ∧ N.ok ∧ 0 < st p M ∧ 0 < st p N ∧ W .none
/-- the table of lines' question -/
def Mi.btw (M N : Mi) : Mi := ⟨M.b * N.c - N.b * M.c, M.a * N.b + M.b * N.d - N.a * M.b - N.b * M.d, M.c * N.a + M.d * N.c - N.c * M.a - N.d * M.c, M.c * N.b - N.c * M.b⟩
def c_between : Ct := fun ds W => ∃ M N : Mi, ds = [dM M, dM N] ∧ M.sz 60000000 ∧ N.sz 60000000 ∧ W (dM (M.btw N))
def c_next_ball : Ct := fun ds W => ∃ (p : Int) (h : PP p) (M : Mi) (x : B p), ds = [.int p, dM M, dB x.1] ∧ M.ok ∧ 0 < st p M ∧ Rd h 200000 x ∧ Ax (tr h) (ac h M) (st p M) x ∧ W (dB (nxt (tr h) (ac h M) x).1)
def c_last_shared : Ct := fun ds W => ∃ (p : Int) (h : PP p) (M N : Mi) (x : B p), ds = [.int p, dM M, dM N, dB x.1] ∧ M.ok ∧ N.ok ∧ 0 < st p M ∧ 0 < st p N ∧ Mt.det (comm M.m N.m) ≠ 0 ∧ Rd h 90000 x ∧
  Ax (tr h) (ac h M) (st p M) x ∧ Ax (tr h) (ac h N) (st p N) x ∧ ∀ L : B p, Last (tr h) (ac h M) (st p M) (ac h N) (st p N) x L → Rd h 190000 L → W (dB L.1)
def c_way_at : Ct := fun ds W => ∃ (p : Int) (h : PP p) (M N : Mi) (x : B p), ds = [.int p, dM M, dM N, dB x.1] ∧ M.ok ∧ N.ok ∧ 0 < st p M ∧ 0 < st p N ∧ Rd h 200000 x ∧ Ax (tr h) (ac h M) (st p M) x ∧ Ax (tr h) (ac h N) (st p N) x ∧
  ∀ w : Int, (w = 1 ∧ nxt (tr h) (ac h M) x = nxt (tr h) (ac h N) x) ∨ (w = -1 ∧ nxt (tr h) (ac h M) x ≠ nxt (tr h) (ac h N) x) → W (.int w)
/-- two moves whose lines are asked for -/
structure Two {p : Int} (h : PP p) (M N : Mi) : Prop where
  om : M.ok
  on : N.ok
  sm : 0 < st p M
  sn : 0 < st p N
  cm : Mt.det (comm M.m N.m) ≠ 0
abbrev ApM {p : Int} (h : PP p) (M N : Mi) (b o : B p) : Prop := Apart (tr h) (ac h M) (st p M) (ac h N) (st p N) b o
abbrev AlM {p : Int} (h : PP p) (M N : Mi) (F L : B p) : Prop := Along (tr h) (ac h M) (st p M) (ac h N) (st p N) F L
abbrev WyM {p : Int} (h : PP p) (N : Mi) (F L : B p) (w : Int) : Prop := WayIs (tr h) (ac h N) (st p N) F L w
noncomputable def dAp {p : Int} (h : PP p) (b o : B p) : PyData := .tuple [.str "apart", .int ((tr h).d b o), dB b.1, dB o.1]
noncomputable def dAl {p : Int} (h : PP p) (F L : B p) (w : Int) : PyData := .tuple [.str "along", .int ((tr h).d F L), .int w, dB F.1, dB L.1]
/-- what lines tells -/
inductive Tld {p : Int} (h : PP p) (M N : Mi) : PyData → Prop
  | ap {b o : B p} : ApM h M N b o → Rd h 190000 b → Rd h 190000 o → Tld h M N (dAp h b o)
  | al {F L : B p} {w : Int} : AlM h M N F L → WyM h N F L w → Rd h 190000 F → Rd h 190000 L → Tld h M N (dAl h F L w)
def c_lines : Ct := fun ds W => ∃ (p : Int) (h : PP p) (M N : Mi), ds = [.int p, dM M, dM N] ∧ Two h M N ∧ ∀ d, Tld h M N d → W d
/-! ### sides.py -/
abbrev SdM {p : Int} (h : PP p) (M : Mi) (x v0 u1 v1 : B p) : Prop := Sds (tr h) (ac h M) (st p M) x v0 u1 v1
def c_two_sides : Ct := fun ds W => ∃ (p : Int) (h : PP p) (M : Mi) (x : B p), ds = [.int p, dM M, dB x.1] ∧ M.ok ∧ 0 < st p M ∧ Rd h 190000 x ∧ Ax (tr h) (ac h M) (st p M) x ∧
  ∀ v0 u1 v1 : B p, SdM h M x v0 u1 v1 → Rd h 220000 v0 → Rd h 220000 u1 → Rd h 220000 v1 → W (.list [dS x v0, dS u1 v1])
/-- four sides, as data -/
structure F4 (p : Int) where
  u0 : B p
  v0 : B p
  u1 : B p
  v1 : B p
  u2 : B p
  v2 : B p
  u3 : B p
  v3 : B p
def F4.D {p : Int} (s : F4 p) : PyData := .tuple [dS s.u0 s.v0, dS s.u1 s.v1, dS s.u2 s.v2, dS s.u3 s.v3]
structure F4.rd {p : Int} (s : F4 p) (h : PP p) (R : Int) : Prop where
  a : Rd h R s.u0 ∧ Rd h R s.v0
  b : Rd h R s.u1 ∧ Rd h R s.v1
  c : Rd h R s.u2 ∧ Rd h R s.v2
  d : Rd h R s.u3 ∧ Rd h R s.v3
inductive Frs {p : Int} (h : PP p) (M N : Mi) : PyData → Prop
  | no {F L : B p} {w : Int} : AlM h M N F L → WyM h N F L w → min (st p M) (st p N) ≤ (tr h).d F L → Frs h M N .none
  | ap {s : F4 p} : ApM h M N s.u0 s.u2 → SdM h M s.u0 s.v0 s.u1 s.v1 → SdM h N s.u2 s.v2 s.u3 s.v3 → s.rd h 220000 → Frs h M N s.D
  | al {F L : B p} {w : Int} {s : F4 p} : AlM h M N F L → WyM h N F L w → (tr h).d F L < min (st p M) (st p N) → s.u0 = F → s.u2 = (if w = -1 then L else F) →
      SdM h M s.u0 s.v0 s.u1 s.v1 → SdM h N s.u2 s.v2 s.u3 s.v3 → s.rd h 220000 → Frs h M N s.D
def c_four_sides : Ct := fun ds W => ∃ (p : Int) (h : PP p) (M N : Mi), ds = [.int p, dM M, dM N] ∧ Two h M N ∧ ∀ d, Frs h M N d → W d
structure F4.nr {p : Int} (s : F4 p) : Prop where
  a : Nr s.u0.1 ∧ Nr s.v0.1
  b : Nr s.u1.1 ∧ Nr s.v1.1
  c : Nr s.u2.1 ∧ Nr s.v2.1
  d : Nr s.u3.1 ∧ Nr s.v3.1
structure F4.adj {p : Int} (s : F4 p) (h : PP p) : Prop where
  a : (tr h).d s.u0 s.v0 = 1
  b : (tr h).d s.u1 s.v1 = 1
  c : (tr h).d s.u2 s.v2 = 1
  d : (tr h).d s.u3 s.v3 = 1
def c_are_four_sides : Ct := fun ds W => ∃ (p : Int) (h : PP p) (s : F4 p), ds = [.int p, s.D] ∧ s.nr ∧ s.adj h ∧ W (.bool true)
def c_leads_beyond : Ct := fun ds W => ∃ (p : Int) (h : PP p) (M : Mi) (u v x y : B p), ds = [.int p, dM M, dS u v, dS x y] ∧ M.ok ∧ Rd h 300000 u ∧ Rd h 300000 v ∧ Rd h 300000 x ∧ Rd h 300000 y ∧
  ∀ b : Bool, (b = true ↔ apS (tr h) (ac h M v, ac h M u) (y, x)) → W (.bool b)
structure F4.good {p : Int} (s : F4 p) (h : PP p) (M N : Mi) : Prop where
  a01 : apS (tr h) (s.u0, s.v0) (s.u1, s.v1)
  a02 : apS (tr h) (s.u0, s.v0) (s.u2, s.v2)
  a03 : apS (tr h) (s.u0, s.v0) (s.u3, s.v3)
  a12 : apS (tr h) (s.u1, s.v1) (s.u2, s.v2)
  a13 : apS (tr h) (s.u1, s.v1) (s.u3, s.v3)
  a23 : apS (tr h) (s.u2, s.v2) (s.u3, s.v3)
  l0 : apS (tr h) (ac h M s.v0, ac h M s.u0) (s.v1, s.u1)
  l1 : apS (tr h) (ac h N s.v2, ac h N s.u2) (s.v3, s.u3)
def c_judge_sides : Ct := fun ds W => ∃ (p : Int) (h : PP p) (M N : Mi) (s : F4 p), ds = [.int p, dM M, dM N, s.D] ∧ M.ok ∧ N.ok ∧ s.rd h 300000 ∧ s.adj h ∧ s.good h M N ∧ W .none
/-! ### shorten.py -/
/-- M is changed by N, w the way: the product that goes against the way -/
def Chg (M N L : Mi) (s : Int) : Prop := ∃ k : Rat, k ≠ 0 ∧ Mt.sm k L.m = Mt.mul (if s = 1 then N.m else Mt.adj N.m) M.m
def c_change_moves : Ct := fun ds W => ∃ (M N : Mi) (k s : Int), ds = [.list [dM M, dM N], .tuple [.int k, .int s]] ∧ M.sz 60000000 ∧ N.sz 60000000 ∧ Mt.det M.m ≠ 0 ∧ Mt.det N.m ≠ 0 ∧ (s = 1 ∨ s = -1) ∧
  ((k = 0 ∧ ∀ L : Mi, Chg M N L s → (∀ n m, M.sz n → N.sz m → L.sz (n + m + 1)) → W (.list [dM L, dM N])) ∨ (k = 1 ∧ ∀ L : Mi, Chg N M L s → (∀ n m, M.sz n → N.sz m → L.sz (n + m + 1)) → W (.list [dM M, dM L])))
def c_next_change : Ct := fun ds W => ∃ (p : Int) (h : PP p) (M N : Mi), ds = [.int p, .list [dM M, dM N]] ∧ Two h M N ∧ (∃ F L : B p, AlM h M N F L) ∧ ∀ (F L : B p) (w k : Int), AlM h M N F L → WyM h N F L w → (k = 0 ∧ st p N < st p M ∨ k = 1 ∧ ¬ st p N < st p M) → W (.tuple [.int k, .int (-w)])
inductive Vd where
  | rests (k : Int)
  | free
/-- what shorten does -/
inductive Shr {p : Int} (h : PP p) : Mi → Mi → List (Int × Int) → Vd → Prop
  | free {M N : Mi} {s : F4 p} : Frs h M N s.D → Shr h M N [] .free
  | rest0 {M N L F0 L0} {w : Int} : AlM h M N F0 L0 → WyM h N F0 L0 w → min (st p M) (st p N) ≤ (tr h).d F0 L0 → st p N < st p M → Chg M N L (-w) → st p L = 0 → Shr h M N [(0, -w)] (.rests 0)
  | rest1 {M N L F0 L0} {w : Int} : AlM h M N F0 L0 → WyM h N F0 L0 w → min (st p M) (st p N) ≤ (tr h).d F0 L0 → ¬ st p N < st p M → Chg N M L (-w) → st p L = 0 → Shr h M N [(1, -w)] (.rests 1)
  | step0 {M N L F0 L0} {w : Int} {cs : List (Int × Int)} {v : Vd} : AlM h M N F0 L0 → WyM h N F0 L0 w → min (st p M) (st p N) ≤ (tr h).d F0 L0 → st p N < st p M → Chg M N L (-w) → 0 < st p L → Shr h L N cs v → Shr h M N ((0, -w) :: cs) v
  | step1 {M N L F0 L0} {w : Int} {cs : List (Int × Int)} {v : Vd} : AlM h M N F0 L0 → WyM h N F0 L0 w → min (st p M) (st p N) ≤ (tr h).d F0 L0 → ¬ st p N < st p M → Chg N M L (-w) → 0 < st p L → Shr h M L cs v → Shr h M N ((1, -w) :: cs) v
abbrev dC (c : Int × Int) : PyData := .tuple [.int c.1, .int c.2]
inductive dV : Vd → PyData → Prop
  | rests (k : Int) : dV (.rests k) (.tuple [.str "rests", .int k])
  | free (d : PyData) : dV .free (.tuple [.str "free", d])
/-- room to shorten: the words that come are not too long -/
def Shrt (p : Int) (M N : Mi) : Prop := M.sz 50 ∧ N.sz 50 ∧ st p M + st p N ≤ 210
def c_shorten : Ct := fun ds W => ∃ (p : Int) (h : PP p) (M N : Mi), ds = [.int p, dM M, dM N] ∧ Two h M N ∧ Shrt p M N ∧ ∀ (cs : List (Int × Int)) (v : Vd) (d : PyData), Shr h M N cs v → dV v d → W (.tuple [.list (cs.map dC), d])

/-! ### the law's own -/
def c__law_common : Ct := fun ds W => ∃ a b : Int, ds = [.int a, .int b] ∧ W (.int (Int.gcd a b : Nat))
def c__law_fraction : Ct := fun ds W => ∃ n d : Int, ds = [.int n, .int d] ∧ d ≠ 0 ∧ ∀ a b k : Int, k ≠ 0 → n = k * a → d = k * b → 0 < b → Int.gcd a b = 1 → W (.tuple [.int a, .int b])
def c__law_parts : Ct := fun ds W => ∃ p n : Int, PP p ∧ ds = [.int p, .tuple [.int n, .int 1]] ∧ n ≠ 0 ∧ W (.int (vl p (n : Rat)))
def c__law_raised : Ct := fun ds W => ∃ (n : Int) (k : Nat), ds = [.int n, .int (k : Int)] ∧ sz 3 n ∧ k ≤ 1000 ∧ W (.int (n ^ k))
def c__law_power : Ct := fun ds W => ∃ (n : Int) (k : Nat), ds = [.int n, .int (k : Int)] ∧ sz 3 n ∧ k ≤ 1000 ∧ W (.tuple [.int (n ^ k), .int 1])
def c__law_move : Ct := fun ds W => ∃ M : Mi, ds = [.int M.a, .int M.b, .int M.c, .int M.d] ∧ (M.a ≠ 0 ∨ M.b ≠ 0 ∨ M.c ≠ 0 ∨ M.d ≠ 0) ∧ ∀ (L : Mi) (k : Int), k ≠ 0 → M.a = k * L.a → M.b = k * L.b → M.c = k * L.c → M.d = k * L.d → W (dM L)
abbrev c__law_after : Ct := c_after
abbrev c__law_back : Ct := c_back
abbrev c__law_size : Ct := c_size
abbrev c__law_stretch : Ct := c_stretch
def c__law_between : Ct := c_between
def c__law_lines_kind : Ct := fun ds W => ∃ (p : Int) (M N : Mi), ds = [.int p, dM M, dM N] ∧ M.sz 12000 ∧ N.sz 12000 ∧ (Mt.det (comm M.m N.m) ≠ 0 → W (.str "none")) ∧ W (.str "same") ∧ W (.str "end")
/-- points: two numbers, no common part -/
structure Pt where
  x : Int
  y : Int
abbrev dP (a : Pt) : PyData := .tuple [.int a.x, .int a.y]
structure Pt.ok (a : Pt) : Prop where
  cop : Int.gcd a.x a.y = 1
  nn : 0 < a.y ∨ (a.y = 0 ∧ a.x = 1)
def Pt.sz (n : Nat) (a : Pt) : Prop := Bm.sz n a.x ∧ Bm.sz n a.y
def crs (a b : Pt) : Int := a.x * b.y - b.x * a.y
/-- the move with the ends a and b: its stretch is n -/
def c__law_by_ends : Ct := fun ds W => ∃ (p : Int) (a b : Pt) (n m : Nat) (s : Int), PP p ∧ ds = [.int p, dP a, dP b, .int (n : Int), .int s] ∧ m ≤ 20 ∧ a.sz m ∧ b.sz m ∧ crs a b ≠ 0 ∧ 0 < n ∧ n ≤ 3 ∧ (s = 1 ∨ s = -1) ∧
  ∀ L : Mi, Mt.det L.m ≠ 0 → L.sz (2 * m + 11) → st p L = n → W (dM L)

/-! ### the source -/
abbrev dO (a : Addr) : PyData := .dict [(.int (a : Nat), .none)]
def srcKv (c : Addr) (l m t : Int) : List (Key × V) := [(.inr "cells", .ref c), (.inr "left", .int l), (.inr "mixed", .int m), (.inr "turn", .int t)]
structure Src (a c : Addr) (H : Hp) : Prop where
  ex : ∃ (l m t : Int) (is : List Int), H a = some (.dK (srcKv c l m t)) ∧ H c = some (.lst (is.map V.int))
/-- frames where the source stands aside -/
structure SrcF (i : Addr × Addr) (F : Fr) : Prop where
  ma : F.ms i.1 = true
  mc : F.ms i.2 = true
  ne : i.1 ≠ i.2
  at_ : ∀ H, F.ok H → Src i.1 i.2 H
  ch : ∀ H H', F.ok H → (∀ b, b ≠ i.1 → b ≠ i.2 → H' b = H b) → Src i.1 i.2 H' → F.ok H'
theorem SrcF.hid {i : Addr × Addr} {F F' : Fr} (s : SrcF i F) (h : Hid F F') : SrcF i F' := by
  induction h with
  | refl => exact s
  | hide D acc m _ ih =>
    have n1 : D ≠ i.1 := fun e => by rw [e, ih.ma] at m; cases m
    have n2 : D ≠ i.2 := fun e => by rw [e, ih.mc] at m; cases m
    exact ⟨Bool.or_eq_true_iff.mpr (.inl ih.ma), Bool.or_eq_true_iff.mpr (.inl ih.mc), ih.ne, fun H o => ih.at_ H o.1, fun H H' o e q => ⟨ih.ch H H' o.1 e q, (e D n1 n2).trans o.2⟩⟩
abbrev CtS : Type := Addr × Addr → Ct
def c__law_pick : CtS := fun i ds W => ∃ m : Int, ds = [dO i.1, .int m] ∧ 0 < m ∧ ∀ k : Int, 0 ≤ k → k < m → W (.int k)
/-- data of points: told, no object of its own -/
def c__law_any_order : CtS := fun i ds W => ∃ xs : List PyData, ds = [dO i.1, .list xs] ∧ (xs.length = 2 ∨ xs.length = 3) ∧ ∀ ys : List PyData, ys.Perm xs → W (.list ys)
def c__law_draw_prime : CtS := fun i ds W => ds = [dO i.1] ∧ ∀ p : Int, PP p → W (.int p)
/-- a move that was drawn -/
structure Drw (n : Nat) (M : Mi) : Prop where
  det : Mt.det M.m ≠ 0
  len : M.sz n
def c__law_draw_move : CtS := fun i ds W => ∃ p : Int, PP p ∧ ds = [dO i.1, .int p] ∧ ∀ L : Mi, Drw 35 L → W (dM L)
def c__law_draw_point : CtS := fun i ds W => ∃ p : Int, PP p ∧ ds = [dO i.1, .int p] ∧ ∀ a : Pt, a.ok → a.sz 5 → W (dP a)
def c__law_draw_stretching : CtS := fun i ds W => ∃ p : Int, PP p ∧ ds = [dO i.1, .int p] ∧ ∀ L : Mi, Drw 35 L → 0 < st p L → W (dM L)
def c__law_draw_pair : CtS := fun i ds W => ∃ p : Int, PP p ∧ ds = [dO i.1, .int p] ∧ ∀ M N : Mi, Drw 42 M → Drw 42 N → 0 < st p M → 0 < st p N → W (.tuple [dM M, dM N])
def c__law_draw_ends : CtS := fun i ds W => ∃ p : Int, PP p ∧ ds = [dO i.1, .int p] ∧ ∀ a b : Pt, a.ok → b.ok → a.sz 5 → b.sz 5 → crs a b ≠ 0 → W (.list [dP a, dP b])
def c__law_draw_length : CtS := fun i ds W => ∃ p : Int, PP p ∧ ds = [dO i.1, .int p] ∧ ∀ n : Nat, 0 < n → n ≤ 3 → W (.int (n : Int))
def c__law_draw_near : CtS := c__law_draw_pair
/-! ### the law's questions -/
def c__law_products_right : Ct := fun ds W => ∃ (p : Int) (h : PP p) (M N : Mi) (d : PyData), ds = [.int p, dM M, dM N, d] ∧ Two h M N ∧ M.sz 50 ∧ N.sz 50 ∧ Tld h M N d ∧ W (.bool true)
/-- the move that turns both: [k, j; 0, 1] -/
def Trn (p : Int) (t : Mi) : Prop := Mt.det t.m ≠ 0 ∧ t.sz 3
def c__law_led_right : Ct := fun ds W => ∃ (p : Int) (h : PP p) (M N : Mi) (d : PyData) (t : Mi), ds = [.int p, dM M, dM N, d, dM t] ∧ Two h M N ∧ M.sz 42 ∧ N.sz 42 ∧ Tld h M N d ∧ Trn p t ∧ W (.bool true)
/-- open_cells makes a source -/
def spOpen (K : PySem.W.Frag) : Sp := fun vs H Q _ => ∃ (q : Addr) (is : List Int), vs = [.ref q] ∧ SqL K H q (is.map V.int) ∧ is.length ≤ 1000000 ∧ ∀ (a c : Addr) (H' : Hp), a ≠ c → Src a c H' → Q (.ref a) H'
/-- the law: whatever the script, true -/
def spLaw (K : PySem.W.Frag) : Sp := fun vs H Q _ => ∃ (q : Addr) (is : List Int), vs = [.ref q] ∧ SqL K H q (is.map V.int) ∧ is.length ≤ 63 ∧ ∀ H', Q (.bl true) H'
end Bm
-- BmT
set_option maxRecDepth 100000
set_option maxHeartbeats 2000000
/-! BmT: printed by mkwalk.py: what each def asks, construct by construct. -/
namespace Bm
open PySem PySem.Spec PyProof.Rows L2
def t_is_number (K : PySem.W.Frag) : TS := tRet (tAndV (tIsi K "int" (tVar 0)) (tNotV (tIsi K "bool" (tVar 0))))
def t_is_row_of_numbers (K : PySem.W.Frag) : TS := tRet (tAndV (tIsi K "tuple" (tVar 0)) (tAndV (tOp rEq (tCB (rLen K) (tCons (tVar 0) (tNil))) (tVar 1)) (tCB (rAll K) (tCons (tLc (iTup K (tVar 0)) (gName 2) (tYes) (tCall (Pur K 1 c_is_number) [] E0 (tCons (tVar 2) (tNil))) [2]) (tNil)))))
def t_fraction (K : PySem.W.Frag) : TS := tSeq (tAsg (tIf (tTest (tOp rGt (tVar 1) (tC (.int 0)))) (tCB rGcd (tCons (tVar 0) (tCons (tVar 1) (tNil)))) (tUn rNeg (tCB rGcd (tCons (tVar 0) (tCons (tVar 1) (tNil)))))) (gName 2)) (tRet (tTup (tCons (tOp rFdv (tVar 0) (tVar 2)) (tCons (tOp rFdv (tVar 1) (tVar 2)) (tNil)))))
def t_is_fraction (K : PySem.W.Frag) : TS := tRet (tAndV (tCall (Pur K 2 c_is_row_of_numbers) [] E0 (tCons (tVar 0) (tCons (tC (.int 2)) (tNil)))) (tAndV (tOp rGt (tOp (rIxT K) (tVar 0) (tC (.int 1))) (tC (.int 0))) (tOp rEq (tCB rGcd (tCons (tOp (rIxT K) (tVar 0) (tC (.int 0))) (tCons (tOp (rIxT K) (tVar 0) (tC (.int 1))) (tNil)))) (tC (.int 1)))))
def t_plus (K : PySem.W.Frag) : TS := tRet (tCall (Pur K 2 c_fraction) [] E0 (tCons (tOp rAdd (tOp rMul (tOp (rIxT K) (tVar 0) (tC (.int 0))) (tOp (rIxT K) (tVar 1) (tC (.int 1)))) (tOp rMul (tOp (rIxT K) (tVar 1) (tC (.int 0))) (tOp (rIxT K) (tVar 0) (tC (.int 1))))) (tCons (tOp rMul (tOp (rIxT K) (tVar 0) (tC (.int 1))) (tOp (rIxT K) (tVar 1) (tC (.int 1)))) (tNil))))
def t_minus (K : PySem.W.Frag) : TS := tRet (tCall (Pur K 2 c_fraction) [] E0 (tCons (tOp rSub (tOp rMul (tOp (rIxT K) (tVar 0) (tC (.int 0))) (tOp (rIxT K) (tVar 1) (tC (.int 1)))) (tOp rMul (tOp (rIxT K) (tVar 1) (tC (.int 0))) (tOp (rIxT K) (tVar 0) (tC (.int 1))))) (tCons (tOp rMul (tOp (rIxT K) (tVar 0) (tC (.int 1))) (tOp (rIxT K) (tVar 1) (tC (.int 1)))) (tNil))))
def t_times_of (K : PySem.W.Frag) : TS := tRet (tCall (Pur K 2 c_fraction) [] E0 (tCons (tOp rMul (tOp (rIxT K) (tVar 0) (tC (.int 0))) (tOp (rIxT K) (tVar 1) (tC (.int 0)))) (tCons (tOp rMul (tOp (rIxT K) (tVar 0) (tC (.int 1))) (tOp (rIxT K) (tVar 1) (tC (.int 1)))) (tNil))))
def t_divided (K : PySem.W.Frag) : TS := tRet (tCall (Pur K 2 c_fraction) [] E0 (tCons (tOp rMul (tOp (rIxT K) (tVar 0) (tC (.int 0))) (tOp (rIxT K) (tVar 1) (tC (.int 1)))) (tCons (tOp rMul (tOp (rIxT K) (tVar 0) (tC (.int 1))) (tOp (rIxT K) (tVar 1) (tC (.int 0)))) (tNil))))
def t_is_less (K : PySem.W.Frag) : TS := tRet (tOp rLt (tOp rMul (tOp (rIxT K) (tVar 0) (tC (.int 0))) (tOp (rIxT K) (tVar 1) (tC (.int 1)))) (tOp rMul (tOp (rIxT K) (tVar 1) (tC (.int 0))) (tOp (rIxT K) (tVar 0) (tC (.int 1)))))
def t_split_off (K : PySem.W.Frag) : TS := tSeq (tAsg (tC (.int 0)) (gName 2)) (tSeq (tWhile (tTest (tOp rEq (tOp rMod (tVar 1) (tVar 0)) (tC (.int 0)))) (tPar 2 1 (tCons (tOp rAdd (tVar 2) (tC (.int 1))) (tCons (tOp rFdv (tVar 1) (tVar 0)) (tNil))))) (tRet (tTup (tCons (tVar 2) (tCons (tVar 1) (tNil))))))
def t_parts (K : PySem.W.Frag) : TS := tSeq (tIfS (tTest (tOp rEq (tOp (rIxT K) (tVar 1) (tC (.int 0))) (tC (.int 0)))) (tRet (tC .non)) (tNext)) (tRet (tOp rSub (tOp (rIxT K) (tCall (Pur K 2 c_split_off) [] E0 (tCons (tVar 0) (tCons (tOp (rIxT K) (tVar 1) (tC (.int 0))) (tNil)))) (tC (.int 0))) (tOp (rIxT K) (tCall (Pur K 2 c_split_off) [] E0 (tCons (tVar 0) (tCons (tOp (rIxT K) (tVar 1) (tC (.int 1))) (tNil)))) (tC (.int 0)))))
def t_raised (K : PySem.W.Frag) : TS := tSeq (tAsg (tC (.int 1)) (gName 2)) (tSeq (tFor (iRng1 (tCons (tVar 1) (tNil))) (gName 3) (tAsg (tOp rMul (tVar 2) (tVar 0)) (gName 2))) (tRet (tVar 2)))
def t_power_of (K : PySem.W.Frag) : TS := tRet (tIf (tTest (tOp rGe (tVar 1) (tC (.int 0)))) (tTup (tCons (tCall (Pur K 2 c_raised) [] E0 (tCons (tVar 0) (tCons (tVar 1) (tNil)))) (tCons (tC (.int 1)) (tNil)))) (tTup (tCons (tC (.int 1)) (tCons (tCall (Pur K 2 c_raised) [] E0 (tCons (tVar 0) (tCons (tUn rNeg (tVar 1)) (tNil)))) (tNil)))))
def t_inverse (K : PySem.W.Frag) : TS := tSeq (tAsg (tTup (tCons (tOp rMod (tVar 0) (tVar 1)) (tCons (tVar 1) (tCons (tC (.int 1)) (tCons (tC (.int 0)) (tNil)))))) (gTup K 4 (gNames [2, 3, 4, 5]))) (tSeq (tWhile (tTest (tOp rNe (tVar 3) (tC (.int 0)))) (tSeq (tAsg (tOp rFdv (tVar 2) (tVar 3)) (gName 6)) (tAsg (tTup (tCons (tVar 3) (tCons (tOp rSub (tVar 2) (tOp rMul (tVar 6) (tVar 3))) (tCons (tVar 5) (tCons (tOp rSub (tVar 4) (tOp rMul (tVar 6) (tVar 5))) (tNil)))))) (gTup K 4 (gNames [2, 3, 4, 5]))))) (tRet (tOp rMod (tVar 4) (tVar 1))))
def t_rest (K : PySem.W.Frag) : TS := tSeq (tAsg (tCall (Pur K 2 c_raised) [] E0 (tCons (tVar 0) (tCons (tVar 1) (tNil)))) (gName 3)) (tRet (tOp rMod (tOp rMul (tOp (rIxT K) (tVar 2) (tC (.int 0))) (tCall (Pur K 2 c_inverse) [] E0 (tCons (tOp (rIxT K) (tVar 2) (tC (.int 1))) (tCons (tVar 3) (tNil))))) (tVar 3)))
def t_is_ball (K : PySem.W.Frag) : TS := tSeq (tIfS (tOr (tNot (tB (tIsi K "tuple" (tVar 1)))) (tOr (tTest (tOp rNe (tCB (rLen K) (tCons (tVar 1) (tNil))) (tC (.int 2)))) (tOr (tNot (tB (tCall (Pur K 1 c_is_number) [] E0 (tCons (tOp (rIxT K) (tVar 1) (tC (.int 0))) (tNil))))) (tNot (tB (tCall (Pur K 1 c_is_fraction) [] E0 (tCons (tOp (rIxT K) (tVar 1) (tC (.int 1))) (tNil)))))))) (tNever) (tNext)) (tSeq (tAsg (tVar 1) (gTup K 2 (gNames [2, 3]))) (tRet (tAndV (tOp rEq (tOp (rIxT K) (tCall (Pur K 2 c_split_off) [] E0 (tCons (tVar 0) (tCons (tOp (rIxT K) (tVar 3) (tC (.int 1))) (tNil)))) (tC (.int 1))) (tC (.int 1))) (tAndV (tOp rGe (tOp (rIxT K) (tVar 3) (tC (.int 0))) (tC (.int 0))) (tCall (Pur K 2 c_is_less) [] E0 (tCons (tVar 3) (tCons (tCall (Pur K 2 c_power_of) [] E0 (tCons (tVar 0) (tCons (tVar 2) (tNil)))) (tNil))))))))
def t_ball (K : PySem.W.Frag) : TS := tSeq (tIfS (tOr (tNot (tB (tCall (Pur K 1 c_is_number) [] E0 (tCons (tVar 1) (tNil))))) (tNot (tB (tCall (Pur K 1 c_is_fraction) [] E0 (tCons (tVar 2) (tNil)))))) (tNever) (tNext)) (tSeq (tAsg (tOp (rIxT K) (tCall (Pur K 2 c_split_off) [] E0 (tCons (tVar 0) (tCons (tOp (rIxT K) (tVar 2) (tC (.int 1))) (tNil)))) (tC (.int 0))) (gName 3)) (tSeq (tIfS (tTest (tOp rLe (tOp rAdd (tVar 1) (tVar 3)) (tC (.int 0)))) (tRet (tTup (tCons (tVar 1) (tCons (tC (.ref (He.ga K "ZERO"))) (tNil))))) (tNext)) (tSeq (tAsg (tCall (Pur K 2 c_power_of) [] E0 (tCons (tVar 0) (tCons (tVar 3) (tNil)))) (gName 4)) (tRet (tTup (tCons (tVar 1) (tCons (tCall (Pur K 2 c_fraction) [] E0 (tCons (tCall (Pur K 3 c_rest) [] E0 (tCons (tVar 0) (tCons (tOp rAdd (tVar 1) (tVar 3)) (tCons (tCall (Pur K 2 c_times_of) [] E0 (tCons (tVar 2) (tCons (tVar 4) (tNil)))) (tNil))))) (tCons (tOp (rIxT K) (tVar 4) (tC (.int 0))) (tNil)))) (tNil))))))))
def t_about (K : PySem.W.Frag) : TS := tRet (tCall (Pur K 3 c_ball) [] E0 (tCons (tVar 0) (tCons (tOp rSub (tOp (rIxT K) (tVar 1) (tC (.int 0))) (tC (.int 1))) (tCons (tOp (rIxT K) (tVar 1) (tC (.int 1))) (tNil)))))
def t_within (K : PySem.W.Frag) : TS := tSeq (tAsg (tVar 1) (gTup K 2 (gNames [2, 3]))) (tRet (tLc (iRng1 (tCons (tVar 0) (tNil))) (gName 4) (tYes) (tTup (tCons (tOp rAdd (tVar 2) (tC (.int 1))) (tCons (tCall (Pur K 2 c_plus) [] E0 (tCons (tVar 3) (tCons (tCall (Pur K 2 c_times_of) [] E0 (tCons (tTup (tCons (tVar 4) (tCons (tC (.int 1)) (tNil)))) (tCons (tCall (Pur K 2 c_power_of) [] E0 (tCons (tVar 0) (tCons (tVar 2) (tNil)))) (tNil)))) (tNil)))) (tNil)))) [4]))
def t_neighbours (K : PySem.W.Frag) : TS := tRet (tLst (tCons (tCall (Pur K 2 c_about) [] E0 (tCons (tVar 0) (tCons (tVar 1) (tNil)))) (StX.tStar K (tCall (Pur K 2 c_within) [] E0 (tCons (tVar 0) (tCons (tVar 1) (tNil)))) (tNil))))
def t_least_about (K : PySem.W.Frag) : TS := tSeq (tPar 3 4 (tCons (tCall (Pur K 2 c_minus) [] E0 (tCons (tOp (rIxT K) (tVar 1) (tC (.int 1))) (tCons (tOp (rIxT K) (tVar 2) (tC (.int 1))) (tNil)))) (tCons (tCB rMin (tCons (tOp (rIxT K) (tVar 1) (tC (.int 0))) (tCons (tOp (rIxT K) (tVar 2) (tC (.int 0))) (tNil)))) (tNil)))) (tRet (tCall (Pur K 3 c_ball) [] E0 (tCons (tVar 0) (tCons (tIf (tTest (tOp (rEqD K) (tVar 3) (tC (.ref (He.ga K "ZERO"))))) (tVar 4) (tCB rMin (tCons (tVar 4) (tCons (tCall (Pur K 2 c_parts) [] E0 (tCons (tVar 0) (tCons (tVar 3) (tNil)))) (tNil))))) (tCons (tOp (rIxT K) (tVar 1) (tC (.int 1))) (tNil))))))
def t_in_form (K : PySem.W.Frag) : TS := tSeq (tAsg (tCB rGcd4 (tCons (tOp (rIxT K) (tVar 0) (tC (.int 0))) (tCons (tOp (rIxT K) (tVar 0) (tC (.int 1))) (tCons (tOp (rIxT K) (tVar 0) (tC (.int 2))) (tCons (tOp (rIxT K) (tVar 0) (tC (.int 3))) (tNil)))))) (gName 1)) (tSeq (tAsg (tOp (rIxL K) (tLc (iTup K (tVar 0)) (gName 3) (tTest (tOp rNe (tVar 3) (tC (.int 0)))) (tVar 3) [3]) (tC (.int 0))) (gName 2)) (tSeq (tAsg (tIf (tTest (tOp rGt (tVar 2) (tC (.int 0)))) (tVar 1) (tUn rNeg (tVar 1))) (gName 1)) (tRet (tCB (rTpl K) (tCons (tLc (iTup K (tVar 0)) (gName 3) (tYes) (tOp rFdv (tVar 3) (tVar 1)) [3]) (tNil))))))
def t_size (K : PySem.W.Frag) : TS := tSeq (tAsg (tVar 0) (gTup K 4 (gNames [1, 2, 3, 4]))) (tRet (tOp rSub (tOp rMul (tVar 1) (tVar 4)) (tOp rMul (tVar 2) (tVar 3))))
def t_sum_of (K : PySem.W.Frag) : TS := tRet (tOp rAdd (tOp (rIxT K) (tVar 0) (tC (.int 0))) (tOp (rIxT K) (tVar 0) (tC (.int 3))))
def t_after (K : PySem.W.Frag) : TS := tSeq (tAsg (tVar 0) (gTup K 4 (gNames [2, 3, 4, 5]))) (tSeq (tAsg (tVar 1) (gTup K 4 (gNames [6, 7, 8, 9]))) (tRet (tCall (Pur K 1 c_in_form) [] E0 (tCons (tTup (tCons (tOp rAdd (tOp rMul (tVar 2) (tVar 6)) (tOp rMul (tVar 3) (tVar 8))) (tCons (tOp rAdd (tOp rMul (tVar 2) (tVar 7)) (tOp rMul (tVar 3) (tVar 9))) (tCons (tOp rAdd (tOp rMul (tVar 4) (tVar 6)) (tOp rMul (tVar 5) (tVar 8))) (tCons (tOp rAdd (tOp rMul (tVar 4) (tVar 7)) (tOp rMul (tVar 5) (tVar 9))) (tNil)))))) (tNil)))))
def t_back (K : PySem.W.Frag) : TS := tSeq (tAsg (tVar 0) (gTup K 4 (gNames [1, 2, 3, 4]))) (tRet (tCall (Pur K 1 c_in_form) [] E0 (tCons (tTup (tCons (tVar 4) (tCons (tUn rNeg (tVar 2)) (tCons (tUn rNeg (tVar 3)) (tCons (tVar 1) (tNil)))))) (tNil))))
def t_has_more (K : PySem.W.Frag) : TS := tSeq (tIfS (tTest (tOp rEq (tOp (rIxT K) (tVar 2) (tC (.int 0))) (tC (.int 0)))) (tRet (tC (.bl false))) (tNext)) (tRet (tOrV (tOp rEq (tOp (rIxT K) (tVar 1) (tC (.int 0))) (tC (.int 0))) (tOp rGt (tCall (Pur K 2 c_parts) [] E0 (tCons (tVar 0) (tCons (tVar 1) (tNil)))) (tCall (Pur K 2 c_parts) [] E0 (tCons (tVar 0) (tCons (tVar 2) (tNil)))))))
def t_ball_of (K : PySem.W.Frag) : TS := tSeq (tIfS (tB (tCall (Pur K 3 c_has_more) [] E0 (tCons (tVar 0) (tCons (tOp (rIxT K) (tVar 2) (tC (.int 1))) (tCons (tOp (rIxT K) (tVar 1) (tC (.int 1))) (tNil)))))) (tPar 1 2 (tCons (tVar 2) (tCons (tVar 1) (tNil)))) (tNext)) (tSeq (tAsg (tCall (Pur K 2 c_divided) [] E0 (tCons (tOp (rIxT K) (tVar 1) (tC (.int 1))) (tCons (tOp (rIxT K) (tVar 2) (tC (.int 1))) (tNil)))) (gName 3)) (tSeq (tAsg (tCall (Pur K 2 c_divided) [] E0 (tCons (tCall (Pur K 2 c_minus) [] E0 (tCons (tOp (rIxT K) (tVar 1) (tC (.int 0))) (tCons (tCall (Pur K 2 c_times_of) [] E0 (tCons (tVar 3) (tCons (tOp (rIxT K) (tVar 2) (tC (.int 0))) (tNil)))) (tNil)))) (tCons (tOp (rIxT K) (tVar 2) (tC (.int 1))) (tNil)))) (gName 4)) (tRet (tCall (Pur K 3 c_ball) [] E0 (tCons (tVar 0) (tCons (tCall (Pur K 2 c_parts) [] E0 (tCons (tVar 0) (tCons (tVar 4) (tNil)))) (tCons (tCall (Pur K 2 c_divided) [] E0 (tCons (tOp (rIxT K) (tVar 2) (tC (.int 0))) (tCons (tOp (rIxT K) (tVar 2) (tC (.int 1))) (tNil)))) (tNil))))))))
def t_led (K : PySem.W.Frag) : TS := tSeq (tAsg (tLc (iTup K (tVar 1)) (gName 11) (tYes) (tTup (tCons (tVar 11) (tCons (tC (.int 1)) (tNil)))) [11]) (gLst K 4 (gNames [3, 4, 5, 6]))) (tSeq (tAsg (tVar 2) (gTup K 2 (gNames [7, 8]))) (tSeq (tAsg (tCall (Pur K 2 c_power_of) [] E0 (tCons (tVar 0) (tCons (tVar 7) (tNil)))) (gName 9)) (tSeq (tAsg (tTup (tCons (tCall (Pur K 2 c_times_of) [] E0 (tCons (tVar 3) (tCons (tVar 9) (tNil)))) (tCons (tCall (Pur K 2 c_times_of) [] E0 (tCons (tVar 5) (tCons (tVar 9) (tNil)))) (tNil)))) (gName 10)) (tRet (tCall (Pur K 3 c_ball_of) [] E0 (tCons (tVar 0) (tCons (tVar 10) (tCons (tTup (tCons (tCall (Pur K 2 c_plus) [] E0 (tCons (tCall (Pur K 2 c_times_of) [] E0 (tCons (tVar 3) (tCons (tVar 8) (tNil)))) (tCons (tVar 4) (tNil)))) (tCons (tCall (Pur K 2 c_plus) [] E0 (tCons (tCall (Pur K 2 c_times_of) [] E0 (tCons (tVar 5) (tCons (tVar 8) (tNil)))) (tCons (tVar 6) (tNil)))) (tNil)))) (tNil)))))))))
def t_road (K : PySem.W.Frag) : TS := tSeq (tAsg (tCall (Pur K 3 c_least_about) [] E0 (tCons (tVar 0) (tCons (tVar 1) (tCons (tVar 2) (tNil))))) (gName 3)) (tSeq (tAsg (tLc (iRng3 (tCons (tOp (rIxT K) (tVar 1) (tC (.int 0))) (tCons (tOp (rIxT K) (tVar 3) (tC (.int 0))) (tCons (tUn rNeg (tC (.int 1))) (tNil))))) (gName 6) (tYes) (tCall (Pur K 3 c_ball) [] E0 (tCons (tVar 0) (tCons (tVar 6) (tCons (tOp (rIxT K) (tVar 1) (tC (.int 1))) (tNil))))) [6]) (gName 4)) (tSeq (tAsg (tLc (iRng2 (tCons (tOp rAdd (tOp (rIxT K) (tVar 3) (tC (.int 0))) (tC (.int 1))) (tCons (tOp rAdd (tOp (rIxT K) (tVar 2) (tC (.int 0))) (tC (.int 1))) (tNil)))) (gName 6) (tYes) (tCall (Pur K 3 c_ball) [] E0 (tCons (tVar 0) (tCons (tVar 6) (tCons (tOp (rIxT K) (tVar 2) (tC (.int 1))) (tNil))))) [6]) (gName 5)) (tRet (tTup (StX.tStar K (tVar 4) (tCons (tVar 3) (StX.tStar K (tVar 5) (tNil))))))))
def t_steps (K : PySem.W.Frag) : TS := tRet (tOp rSub (tOp rAdd (tOp (rIxT K) (tVar 1) (tC (.int 0))) (tOp (rIxT K) (tVar 2) (tC (.int 0)))) (tOp rMul (tC (.int 2)) (tOp (rIxT K) (tCall (Pur K 3 c_least_about) [] E0 (tCons (tVar 0) (tCons (tVar 1) (tCons (tVar 2) (tNil))))) (tC (.int 0)))))
def t_on_road (K : PySem.W.Frag) : TS := tSeq (tAsg (tOp (rIxT K) (tCall (Pur K 3 c_least_about) [] E0 (tCons (tVar 0) (tCons (tVar 1) (tCons (tVar 2) (tNil))))) (tC (.int 0))) (gName 4)) (tSeq (tAsg (tOp rSub (tOp (rIxT K) (tVar 1) (tC (.int 0))) (tVar 4)) (gName 5)) (tRet (tIf (tTest (tOp rLe (tVar 3) (tVar 5))) (tCall (Pur K 3 c_ball) [] E0 (tCons (tVar 0) (tCons (tOp rSub (tOp (rIxT K) (tVar 1) (tC (.int 0))) (tVar 3)) (tCons (tOp (rIxT K) (tVar 1) (tC (.int 1))) (tNil))))) (tCall (Pur K 3 c_ball) [] E0 (tCons (tVar 0) (tCons (tOp rSub (tOp rAdd (tVar 4) (tVar 3)) (tVar 5)) (tCons (tOp (rIxT K) (tVar 2) (tC (.int 1))) (tNil))))))))
def t_is_side (K : PySem.W.Frag) : TS := tSeq (tIfS (tOr (tNot (tB (tIsi K "tuple" (tVar 1)))) (tOr (tTest (tOp rNe (tCB (rLen K) (tCons (tVar 1) (tNil))) (tC (.int 2)))) (tNot (tB (tCB (rAll K) (tCons (tLc (iTup K (tVar 1)) (gName 2) (tYes) (tCall (Pur K 2 c_is_ball) [] E0 (tCons (tVar 0) (tCons (tVar 2) (tNil)))) [2]) (tNil))))))) (tRet (tC (.bl false))) (tNext)) (tRet (tOp (rInD K) (tOp (rIxT K) (tVar 1) (tC (.int 1))) (tCall (Pur K 2 c_neighbours) [] E0 (tCons (tVar 0) (tCons (tOp (rIxT K) (tVar 1) (tC (.int 0))) (tNil))))))
def t_on_side (K : PySem.W.Frag) : TS := tRet (tOp rLt (tCall (Pur K 3 c_steps) [] E0 (tCons (tVar 0) (tCons (tOp (rIxT K) (tVar 1) (tC (.int 1))) (tCons (tVar 2) (tNil))))) (tCall (Pur K 3 c_steps) [] E0 (tCons (tVar 0) (tCons (tOp (rIxT K) (tVar 1) (tC (.int 0))) (tCons (tVar 2) (tNil))))))
def t_are_apart (K : PySem.W.Frag) : TS := tRet (tAndV (tNotV (tCall (Pur K 3 c_on_side) [] E0 (tCons (tVar 0) (tCons (tVar 1) (tCons (tOp (rIxT K) (tVar 2) (tC (.int 1))) (tNil)))))) (tNotV (tCall (Pur K 3 c_on_side) [] E0 (tCons (tVar 0) (tCons (tVar 2) (tCons (tOp (rIxT K) (tVar 1) (tC (.int 1))) (tNil)))))))
def t_lies_in (K : PySem.W.Frag) : TS := tRet (tCall (Pur K 3 c_are_apart) [] E0 (tCons (tVar 0) (tCons (tVar 1) (tCons (tRev2 K (tVar 2)) (tNil)))))
def t_stretch (K : PySem.W.Frag) : TS := tSeq (tIfS (tTest (tOp rEq (tCall (Pur K 1 c_sum_of) [] E0 (tCons (tVar 1) (tNil))) (tC (.int 0)))) (tRet (tC (.int 0))) (tNext)) (tRet (tCB rMax (tCons (tC (.int 0)) (tCons (tOp rSub (tOp (rIxT K) (tCall (Pur K 2 c_split_off) [] E0 (tCons (tVar 0) (tCons (tCall (Pur K 1 c_size) [] E0 (tCons (tVar 1) (tNil))) (tNil)))) (tC (.int 0))) (tOp rMul (tC (.int 2)) (tOp (rIxT K) (tCall (Pur K 2 c_split_off) [] E0 (tCons (tVar 0) (tCons (tCall (Pur K 1 c_sum_of) [] E0 (tCons (tVar 1) (tNil))) (tNil)))) (tC (.int 0))))) (tNil)))))
def t_resting (K : PySem.W.Frag) : TS := tSeq (tAsg (tCall (Pur K 3 c_led) [] E0 (tCons (tVar 0) (tCons (tVar 1) (tCons (tVar 2) (tNil))))) (gName 3)) (tRet (tCall (Pur K 4 c_on_road) [] E0 (tCons (tVar 0) (tCons (tVar 2) (tCons (tVar 3) (tCons (tOp rFdv (tOp rSub (tCall (Pur K 3 c_steps) [] E0 (tCons (tVar 0) (tCons (tVar 2) (tCons (tVar 3) (tNil))))) (tCall (Pur K 2 c_stretch) [] E0 (tCons (tVar 0) (tCons (tVar 1) (tNil))))) (tC (.int 2))) (tNil)))))))
def t_on_line (K : PySem.W.Frag) : TS := tSeq (tAsg (tCall (Pur K 2 c_stretch) [] E0 (tCons (tVar 0) (tCons (tVar 1) (tNil)))) (gName 3)) (tRet (tAndV (tOp rGt (tVar 3) (tC (.int 0))) (tOp rEq (tCall (Pur K 3 c_steps) [] E0 (tCons (tVar 0) (tCons (tVar 2) (tCons (tCall (Pur K 3 c_led) [] E0 (tCons (tVar 0) (tCons (tVar 1) (tCons (tVar 2) (tNil))))) (tNil))))) (tVar 3))))
def t_line_from (K : PySem.W.Frag) : TS := tSeq (tIfS (tNot (tB (tCall (Pur K 3 c_on_line) [] E0 (tCons (tVar 0) (tCons (tVar 1) (tCons (tVar 2) (tNil))))))) (tNever) (tNext)) (tSeq (tAsg (tLst (tCons (tVar 2) (tNil))) (gName 4)) (tSeq (tWhile (tTest (tOp rLe (tCB (rLen K) (tCons (tVar 4) (tNil))) (tVar 3))) (tAsg (tOp rCat (tVar 4) (tCB (rLst K) (tCons (tSl (rSlA K) (tCall (Pur K 3 c_road) [] E0 (tCons (tVar 0) (tCons (tOp (rIxL K) (tVar 4) (tUn rNeg (tC (.int 1)))) (tCons (tCall (Pur K 3 c_led) [] E0 (tCons (tVar 0) (tCons (tVar 1) (tCons (tOp (rIxL K) (tVar 4) (tUn rNeg (tC (.int 1)))) (tNil))))) (tNil))))) (tPart (tC (.int 1))) (tNoPart)) (tNil)))) (gName 4))) (tRet (tCB (rTpl K) (tCons (tSl (rSlL K) (tVar 4) (tNoPart) (tPart (tOp rAdd (tVar 3) (tC (.int 1))))) (tNil))))))
def t_gate (K : PySem.W.Frag) : TS := tRet (tCall (Pur K 3 c_resting) [] E0 (tCons (tVar 0) (tCons (tVar 1) (tCons (tVar 2) (tNil)))))
def t_need_stretching (K : PySem.W.Frag) : TS := tFor (iEnumT K (tCons (tTup (tCons (tVar 1) (tCons (tVar 2) (tNil)))) (tNil))) (gTup K 2 (gCons (gName 3) (gCons (gName 4) (gNil)))) (tIfS (tTest (tOp rEq (tCall (Pur K 2 c_stretch) [] E0 (tCons (tVar 0) (tCons (tVar 4) (tNil)))) (tC (.int 0)))) (tNever) (tNext))
def t_between (K : PySem.W.Frag) : TS := tSeq (tAsg (tVar 0) (gTup K 4 (gNames [2, 3, 4, 5]))) (tSeq (tAsg (tVar 1) (gTup K 4 (gNames [6, 7, 8, 9]))) (tRet (tTup (tCons (tOp rSub (tOp rMul (tVar 3) (tVar 8)) (tOp rMul (tVar 7) (tVar 4))) (tCons (tOp rSub (tOp rSub (tOp rAdd (tOp rMul (tVar 2) (tVar 7)) (tOp rMul (tVar 3) (tVar 9))) (tOp rMul (tVar 6) (tVar 3))) (tOp rMul (tVar 7) (tVar 5))) (tCons (tOp rSub (tOp rSub (tOp rAdd (tOp rMul (tVar 4) (tVar 6)) (tOp rMul (tVar 5) (tVar 8))) (tOp rMul (tVar 8) (tVar 2))) (tOp rMul (tVar 9) (tVar 4))) (tCons (tOp rSub (tOp rMul (tVar 4) (tVar 7)) (tOp rMul (tVar 8) (tVar 3))) (tNil))))))))
def t_next_ball (K : PySem.W.Frag) : TS := tRet (tOp (rIxT K) (tCall (Pur K 4 c_line_from) [] E0 (tCons (tVar 0) (tCons (tVar 1) (tCons (tVar 2) (tCons (tC (.int 1)) (tNil)))))) (tC (.int 1)))
def t_last_shared (K : PySem.W.Frag) : TS := tSeq (tAsg (tCall (Pur K 3 c_next_ball) [] E0 (tCons (tVar 0) (tCons (tVar 1) (tCons (tVar 3) (tNil))))) (gName 4)) (tSeq (tWhile (tB (tCall (Pur K 3 c_on_line) [] E0 (tCons (tVar 0) (tCons (tVar 2) (tCons (tVar 4) (tNil)))))) (tSeq (tAsg (tVar 4) (gName 3)) (tAsg (tCall (Pur K 3 c_next_ball) [] E0 (tCons (tVar 0) (tCons (tVar 1) (tCons (tVar 3) (tNil))))) (gName 4)))) (tRet (tVar 3)))
def t_way_at (K : PySem.W.Frag) : TS := tRet (tIf (tTest (tOp (rEqD K) (tCall (Pur K 3 c_next_ball) [] E0 (tCons (tVar 0) (tCons (tVar 1) (tCons (tVar 3) (tNil))))) (tCall (Pur K 3 c_next_ball) [] E0 (tCons (tVar 0) (tCons (tVar 2) (tCons (tVar 3) (tNil))))))) (tC (.int 1)) (tUn rNeg (tC (.int 1))))
def t_lines (K : PySem.W.Frag) : TS := tSeq (tDrop (tCall (Pur K 3 c_need_stretching) [] E0 (tCons (tVar 0) (tCons (tVar 1) (tCons (tVar 2) (tNil)))))) (tSeq (tAsg (tCall (Pur K 2 c_between) [] E0 (tCons (tVar 1) (tCons (tVar 2) (tNil)))) (gName 3)) (tSeq (tIfS (tTest (tOp (rEqD K) (tVar 3) (tTup (tCons (tC (.int 0)) (tCons (tC (.int 0)) (tCons (tC (.int 0)) (tCons (tC (.int 0)) (tNil)))))))) (tNever) (tNext)) (tSeq (tIfS (tTest (tOp rEq (tOp rMul (tOp (rIxT K) (tVar 3) (tC (.int 0))) (tOp (rIxT K) (tVar 3) (tC (.int 3)))) (tOp rMul (tOp (rIxT K) (tVar 3) (tC (.int 1))) (tOp (rIxT K) (tVar 3) (tC (.int 2)))))) (tNever) (tNext)) (tSeq (tAsg (tCall (Pur K 3 c_gate) [] E0 (tCons (tVar 0) (tCons (tVar 2) (tCons (tCall (Pur K 3 c_gate) [] E0 (tCons (tVar 0) (tCons (tVar 1) (tCons (tC (.ref (He.ga K "FIRST_BALL"))) (tNil))))) (tNil))))) (gName 4)) (tSeq (tAsg (tCall (Pur K 3 c_gate) [] E0 (tCons (tVar 0) (tCons (tVar 1) (tCons (tVar 4) (tNil))))) (gName 5)) (tSeq (tIfS (tTest (tOp (rNeD K) (tVar 5) (tVar 4))) (tRet (tTup (tCons (tC (.str "apart")) (tCons (tCall (Pur K 3 c_steps) [] E0 (tCons (tVar 0) (tCons (tVar 5) (tCons (tVar 4) (tNil))))) (tCons (tVar 5) (tCons (tVar 4) (tNil))))))) (tNext)) (tSeq (tPar 6 7 (tCons (tCall (Pur K 4 c_last_shared) [] E0 (tCons (tVar 0) (tCons (tCall (Pur K 1 c_back) [] E0 (tCons (tVar 1) (tNil))) (tCons (tVar 2) (tCons (tVar 5) (tNil)))))) (tCons (tCall (Pur K 4 c_last_shared) [] E0 (tCons (tVar 0) (tCons (tVar 1) (tCons (tVar 2) (tCons (tVar 5) (tNil)))))) (tNil)))) (tSeq (tAsg (tIf (tTest (tOp (rEqD K) (tVar 6) (tVar 7))) (tC (.int 0)) (tCall (Pur K 4 c_way_at) [] E0 (tCons (tVar 0) (tCons (tVar 1) (tCons (tVar 2) (tCons (tVar 6) (tNil))))))) (gName 8)) (tRet (tTup (tCons (tC (.str "along")) (tCons (tCall (Pur K 3 c_steps) [] E0 (tCons (tVar 0) (tCons (tVar 6) (tCons (tVar 7) (tNil))))) (tCons (tVar 8) (tCons (tVar 6) (tCons (tVar 7) (tNil))))))))))))))))
def t_two_sides (K : PySem.W.Frag) : TS := tSeq (tAsg (tCall (Pur K 4 c_line_from) [] E0 (tCons (tVar 0) (tCons (tVar 1) (tCons (tVar 2) (tCons (tCall (Pur K 2 c_stretch) [] E0 (tCons (tVar 0) (tCons (tVar 1) (tNil)))) (tNil)))))) (gName 3)) (tRet (tLst (tCons (tTup (tCons (tVar 2) (tCons (tCall (Pur K 3 c_next_ball) [] E0 (tCons (tVar 0) (tCons (tCall (Pur K 1 c_back) [] E0 (tCons (tVar 1) (tNil))) (tCons (tVar 2) (tNil))))) (tNil)))) (tCons (tTup (tCons (tOp (rIxT K) (tVar 3) (tUn rNeg (tC (.int 2)))) (tCons (tOp (rIxT K) (tVar 3) (tUn rNeg (tC (.int 1)))) (tNil)))) (tNil)))))
def t_four_sides (K : PySem.W.Frag) : TS := tSeq (tAsg (tCall (Pur K 3 c_lines) [] E0 (tCons (tVar 0) (tCons (tVar 1) (tCons (tVar 2) (tNil))))) (gName 3)) (tSeq (tIfS (tTest (tOp rEq (tOp (rIxT K) (tVar 3) (tC (.int 0))) (tC (.str "apart")))) (tRet (tCB (rTpl K) (tCons (tOp rCat (tCall (Pur K 3 c_two_sides) [] E0 (tCons (tVar 0) (tCons (tVar 1) (tCons (tOp (rIxT K) (tVar 3) (tC (.int 2))) (tNil))))) (tCall (Pur K 3 c_two_sides) [] E0 (tCons (tVar 0) (tCons (tVar 2) (tCons (tOp (rIxT K) (tVar 3) (tC (.int 3))) (tNil)))))) (tNil)))) (tNext)) (tSeq (tIfS (tOr (tTest (tOp rNe (tOp (rIxT K) (tVar 3) (tC (.int 0))) (tC (.str "along")))) (tTest (tOp rGe (tOp (rIxT K) (tVar 3) (tC (.int 1))) (tCB rMin (tCons (tCall (Pur K 2 c_stretch) [] E0 (tCons (tVar 0) (tCons (tVar 1) (tNil)))) (tCons (tCall (Pur K 2 c_stretch) [] E0 (tCons (tVar 0) (tCons (tVar 2) (tNil)))) (tNil))))))) (tRet (tC .non)) (tNext)) (tRet (tCB (rTpl K) (tCons (tOp rCat (tCall (Pur K 3 c_two_sides) [] E0 (tCons (tVar 0) (tCons (tVar 1) (tCons (tOp (rIxT K) (tVar 3) (tC (.int 3))) (tNil))))) (tCall (Pur K 3 c_two_sides) [] E0 (tCons (tVar 0) (tCons (tVar 2) (tCons (tIf (tTest (tOp rEq (tOp (rIxT K) (tVar 3) (tC (.int 2))) (tUn rNeg (tC (.int 1))))) (tOp (rIxT K) (tVar 3) (tC (.int 4))) (tOp (rIxT K) (tVar 3) (tC (.int 3)))) (tNil)))))) (tNil))))))
def t_are_four_sides (K : PySem.W.Frag) : TS := tRet (tAndV (tIsi K "tuple" (tVar 1)) (tAndV (tOp rEq (tCB (rLen K) (tCons (tVar 1) (tNil))) (tC (.int 4))) (tCB (rAll K) (tCons (tLc (iTup K (tVar 1)) (gName 2) (tYes) (tCall (Pur K 2 c_is_side) [] E0 (tCons (tVar 0) (tCons (tVar 2) (tNil)))) [2]) (tNil)))))
def t_leads_beyond (K : PySem.W.Frag) : TS := tSeq (tAsg (tVar 2) (gTup K 2 (gNames [4, 5]))) (tRet (tCall (Pur K 3 c_lies_in) [] E0 (tCons (tVar 0) (tCons (tTup (tCons (tCall (Pur K 3 c_led) [] E0 (tCons (tVar 0) (tCons (tVar 1) (tCons (tVar 5) (tNil))))) (tCons (tCall (Pur K 3 c_led) [] E0 (tCons (tVar 0) (tCons (tVar 1) (tCons (tVar 4) (tNil))))) (tNil)))) (tCons (tVar 3) (tNil))))))
def t_judge_sides (K : PySem.W.Frag) : TS := tSeq (tIfS (tNot (tB (tCall (Pur K 2 c_are_four_sides) [] E0 (tCons (tVar 0) (tCons (tVar 3) (tNil)))))) (tRet (tTup (tCons (tC (.str "form")) (tNil)))) (tNext)) (tSeq (tFor (iRng1 (tCons (tC (.int 4)) (tNil))) (gName 4) (tFor (iRng2 (tCons (tOp rAdd (tVar 4) (tC (.int 1))) (tCons (tC (.int 4)) (tNil)))) (gName 5) (tIfS (tNot (tB (tCall (Pur K 3 c_are_apart) [] E0 (tCons (tVar 0) (tCons (tOp (rIxT K) (tVar 3) (tVar 4)) (tCons (tOp (rIxT K) (tVar 3) (tVar 5)) (tNil))))))) (tRet (tTup (tCons (tC (.str "meet")) (tCons (tVar 4) (tCons (tVar 5) (tNil)))))) (tNext)))) (tSeq (tFor (iEnumT K (tCons (tTup (tCons (tVar 1) (tCons (tVar 2) (tNil)))) (tNil))) (gTup K 2 (gCons (gName 6) (gCons (gName 7) (gNil)))) (tIfS (tNot (tB (tCall (Pur K 4 c_leads_beyond) [] E0 (tCons (tVar 0) (tCons (tVar 7) (tCons (tOp (rIxT K) (tVar 3) (tOp rMul (tC (.int 2)) (tVar 6))) (tCons (tOp (rIxT K) (tVar 3) (tOp rAdd (tOp rMul (tC (.int 2)) (tVar 6)) (tC (.int 1)))) (tNil)))))))) (tRet (tTup (tCons (tC (.str "led")) (tCons (tVar 6) (tNil))))) (tNext))) (tRet (tC .non))))
def t_change_moves (K : PySem.W.Frag) : TS := tSeq (tAsg (tVar 1) (gTup K 2 (gNames [2, 3]))) (tSeq (tAsg (tIf (tTest (tOp rEq (tVar 3) (tC (.int 1)))) (tOp (rIxL K) (tVar 0) (tOp rSub (tC (.int 1)) (tVar 2))) (tCall (Pur K 1 c_back) [] E0 (tCons (tOp (rIxL K) (tVar 0) (tOp rSub (tC (.int 1)) (tVar 2))) (tNil)))) (gName 4)) (tSeq (tAsg (tCB (rLst K) (tCons (tVar 0) (tNil))) (gName 5)) (tSeq (tAsg (tCall (Pur K 2 c_after) [] E0 (tCons (tVar 4) (tCons (tOp (rIxL K) (tVar 0) (tVar 2)) (tNil)))) (gSub (tVar 5) (tVar 2) rSetL)) (tRet (tVar 5)))))
def t_next_change (K : PySem.W.Frag) : TS := tSeq (tAsg (tIf (tTest (tOp rLt (tCall (Pur K 2 c_stretch) [] E0 (tCons (tVar 0) (tCons (tOp (rIxL K) (tVar 1) (tC (.int 1))) (tNil)))) (tCall (Pur K 2 c_stretch) [] E0 (tCons (tVar 0) (tCons (tOp (rIxL K) (tVar 1) (tC (.int 0))) (tNil)))))) (tC (.int 0)) (tC (.int 1))) (gName 2)) (tRet (tTup (tCons (tVar 2) (tCons (tUn rNeg (tOp (rIxT K) (tCall (Pur K 3 c_lines) [] E0 (tCons (tVar 0) (tCons (tOp (rIxL K) (tVar 1) (tC (.int 0))) (tCons (tOp (rIxL K) (tVar 1) (tC (.int 1))) (tNil))))) (tC (.int 2)))) (tNil)))))
def t_shorten (K : PySem.W.Frag) : TS := tSeq (tAsg (tCall (Pur K 3 c_lines) [] E0 (tCons (tVar 0) (tCons (tVar 1) (tCons (tVar 2) (tNil))))) (gName 3)) (tSeq (tIfS (tTest (tOp (rIn K false) (tOp (rIxT K) (tVar 3) (tC (.int 0))) (tTup (tCons (tC (.str "same")) (tCons (tC (.str "end")) (tNil)))))) (tNever) (tNext)) (tSeq (tPar3 4 5 6 (tCons (tLst (tCons (tVar 1) (tCons (tVar 2) (tNil)))) (tCons (tLst (tNil)) (tCons (tCall (Pur K 3 c_four_sides) [] E0 (tCons (tVar 0) (tCons (tVar 1) (tCons (tVar 2) (tNil))))) (tNil))))) (tSeq (tWhile (tTest (tOp rIsN (tVar 6) (tC .non))) (tSeq (tAsg (tCall (Pur K 2 c_next_change) [] E0 (tCons (tVar 0) (tCons (tVar 4) (tNil)))) (gName 7)) (tSeq (tDrop (tBM K "list" rAppend (tVar 5) (tCons (tVar 7) (tNil)))) (tSeq (tAsg (tCall (Pur K 2 c_change_moves) [] E0 (tCons (tVar 4) (tCons (tVar 7) (tNil)))) (gName 4)) (tSeq (tIfS (tTest (tOp rEq (tCall (Pur K 2 c_stretch) [] E0 (tCons (tVar 0) (tCons (tOp (rIxL K) (tVar 4) (tOp (rIxT K) (tVar 7) (tC (.int 0)))) (tNil)))) (tC (.int 0)))) (tRet (tTup (tCons (tVar 5) (tCons (tTup (tCons (tC (.str "rests")) (tCons (tOp (rIxT K) (tVar 7) (tC (.int 0))) (tNil)))) (tNil))))) (tNext)) (tAsg (tCall (Pur K 3 c_four_sides) [] E0 (tCons (tVar 0) (tCons (tOp (rIxL K) (tVar 4) (tC (.int 0))) (tCons (tOp (rIxL K) (tVar 4) (tC (.int 1))) (tNil))))) (gName 6))))))) (tRet (tTup (tCons (tVar 5) (tCons (tTup (tCons (tC (.str "free")) (tCons (tVar 6) (tNil)))) (tNil))))))))
def t__law_open_cells (K : PySem.W.Frag) : TS := tSeq (tAsg (tC (.int 11)) (gName 1)) (tSeq (tFor (iList K (tVar 0)) (gName 2) (tAsg (tOp rMod (tCB rInt1 (tCons (tOp rAdd (tOp rAdd (tOp rMul (tVar 1) (tC (.int 69069))) (tOp rMul (tVar 2) (tC (.int 31)))) (tC (.int 5))) (tNil))) (tC (.int 2147483629))) (gName 1))) (tSeq (tAsg (tLc (iList K (tVar 0)) (gName 2) (tYes) (tCB rAbs (tCons (tVar 2) (tNil))) [2]) (gName 3)) (tRet (tDisp [(tC (.str "cells"), tRevL K (tVar 3)), (tC (.str "left"), tC (.int 1)), (tC (.str "mixed"), tVar 1), (tC (.str "turn"), tC (.int 0))]))))
def t__law_pick (K : PySem.W.Frag) : TS := tSeq (tIfS (tTest (tOp rLt (tVar 1) (tC (.int 2)))) (tRet (tC (.int 0))) (tNext)) (tSeq (tAsg (tDGet (tVar 0) (tC (.str "cells"))) (gName 2)) (tSeq (tWhile (tAnd (tTest (tOp rLt (tDGet (tVar 0) (tC (.str "left"))) (tC (.int 2)))) (tTest (tOp rGt (tCB (rLen K) (tCons (tVar 2) (tNil))) (tC (.int 0))))) (tAsg (tBM0 K "list" rPop (tVar 2)) (gSub (tVar 0) (tC (.str "left")) rSetD))) (tSeq (tAsg (tDGet (tVar 0) (tC (.str "left"))) (gName 3)) (tSeq (tIfS (tTest (tOp rGt (tVar 3) (tC (.int 1)))) (tSeq (tAsg (tOp rFdv (tVar 3) (tVar 1)) (gSub (tVar 0) (tC (.str "left")) rSetD)) (tRet (tOp rMod (tCB rInt1 (tCons (tVar 3) (tNil))) (tVar 1)))) (tNext)) (tSeq (tAsg (tOp rAdd (tDGet (tVar 0) (tC (.str "turn"))) (tC (.int 1))) (gSub (tVar 0) (tC (.str "turn")) rSetD)) (tSeq (tAsg (tDGet (tVar 0) (tC (.str "turn"))) (gName 4)) (tSeq (tAsg (tOp rMod (tCB rInt1 (tCons (tOp rAdd (tDGet (tVar 0) (tC (.str "mixed"))) (tOp rMul (tVar 4) (tC (.int 104729)))) (tNil))) (tC (.int 998244353))) (gName 5)) (tSeq (tAsg (tOp rMod (tCB rInt1 (tCons (tOp rAdd (tOp rMul (tVar 5) (tVar 5)) (tOp rMul (tVar 4) (tC (.int 17)))) (tNil))) (tC (.int 2147483647))) (gName 5)) (tRet (tOp rMod (tCB rInt1 (tCons (tOp rFdv (tVar 5) (tC (.int 16))) (tNil))) (tVar 1)))))))))))
def t__law_any_order (K : PySem.W.Frag) : TS := tSeq (tAsg (tCB (rLst K) (tCons (tVar 1) (tNil))) (gName 2)) (tRet (tLc (iRng1 (tCons (tCB (rLen K) (tCons (tVar 2) (tNil))) (tNil))) (gName 3) (tYes) (tBM K "list" rPopAt (tVar 2) (tCons (tCall (PurI SrcF K 2 c__law_pick) [] E0 (tCons (tVar 0) (tCons (tCB (rLen K) (tCons (tVar 2) (tNil))) (tNil)))) (tNil))) [3]))
def t__law_common (K : PySem.W.Frag) : TS := tSeq (tPar 0 1 (tCons (tCB rAbs (tCons (tVar 0) (tNil))) (tCons (tCB rAbs (tCons (tVar 1) (tNil))) (tNil)))) (tSeq (tWhile (tTest (tOp rNe (tVar 1) (tC (.int 0)))) (tPar 0 1 (tCons (tVar 1) (tCons (tOp rMod (tVar 0) (tVar 1)) (tNil))))) (tRet (tVar 0)))
def t__law_fraction (K : PySem.W.Frag) : TS := tSeq (tAsg (tIf (tTest (tOp rGt (tVar 1) (tC (.int 0)))) (tC (.int 1)) (tOp rSub (tC (.int 0)) (tC (.int 1)))) (gName 2)) (tSeq (tAsg (tOp rMul (tCall (Pur K 2 c__law_common) [] E0 (tCons (tVar 0) (tCons (tVar 1) (tNil)))) (tVar 2)) (gName 3)) (tRet (tTup (tCons (tOp rFdv (tVar 0) (tVar 3)) (tCons (tOp rFdv (tVar 1) (tVar 3)) (tNil))))))
def t__law_parts (K : PySem.W.Frag) : TS := tSeq (tPar3 2 3 4 (tCons (tIf (tTest (tOp rEq (tOp (rIxT K) (tVar 1) (tC (.int 0))) (tC (.int 0)))) (tC (.int 9999)) (tC (.int 0))) (tCons (tOp (rIxT K) (tVar 1) (tC (.int 0))) (tCons (tOp (rIxT K) (tVar 1) (tC (.int 1))) (tNil))))) (tSeq (tWhile (tAnd (tTest (tOp rGt (tVar 0) (tC (.int 1)))) (tAnd (tTest (tOp rNe (tVar 3) (tC (.int 0)))) (tTest (tOp rEq (tOp rMod (tVar 3) (tVar 0)) (tC (.int 0)))))) (tPar 2 3 (tCons (tOp rAdd (tVar 2) (tC (.int 1))) (tCons (tOp rFdv (tVar 3) (tVar 0)) (tNil))))) (tSeq (tWhile (tAnd (tTest (tOp rGt (tVar 0) (tC (.int 1)))) (tAnd (tTest (tOp rNe (tVar 4) (tC (.int 0)))) (tTest (tOp rEq (tOp rMod (tVar 4) (tVar 0)) (tC (.int 0)))))) (tPar 2 4 (tCons (tOp rSub (tVar 2) (tC (.int 1))) (tCons (tOp rFdv (tVar 4) (tVar 0)) (tNil))))) (tRet (tVar 2))))
def t__law_raised (K : PySem.W.Frag) : TS := tSeq (tAsg (tC (.int 1)) (gName 2)) (tSeq (tFor (iRng1 (tCons (tVar 1) (tNil))) (gName 3) (tAsg (tOp rMul (tVar 2) (tVar 0)) (gName 2))) (tRet (tVar 2)))
def t__law_power (K : PySem.W.Frag) : TS := tRet (tIf (tTest (tOp rGe (tVar 1) (tC (.int 0)))) (tTup (tCons (tCall (Pur K 2 c__law_raised) [] E0 (tCons (tVar 0) (tCons (tVar 1) (tNil)))) (tCons (tC (.int 1)) (tNil)))) (tTup (tCons (tC (.int 1)) (tCons (tCall (Pur K 2 c__law_raised) [] E0 (tCons (tVar 0) (tCons (tOp rSub (tC (.int 0)) (tVar 1)) (tNil)))) (tNil)))))
def t__law_move (K : PySem.W.Frag) : TS := tSeq (tAsg (tCall (Pur K 2 c__law_common) [] E0 (tCons (tCall (Pur K 2 c__law_common) [] E0 (tCons (tVar 0) (tCons (tVar 1) (tNil)))) (tCons (tCall (Pur K 2 c__law_common) [] E0 (tCons (tVar 2) (tCons (tVar 3) (tNil)))) (tNil)))) (gName 4)) (tSeq (tAsg (tOp (rIxL K) (tLc (iTup K (tTup (tCons (tVar 0) (tCons (tVar 1) (tCons (tVar 2) (tCons (tVar 3) (tNil))))))) (gName 6) (tTest (tOp rNe (tVar 6) (tC (.int 0)))) (tVar 6) [6]) (tC (.int 0))) (gName 5)) (tSeq (tAsg (tIf (tTest (tOp rGt (tVar 5) (tC (.int 0)))) (tVar 4) (tOp rSub (tC (.int 0)) (tVar 4))) (gName 4)) (tRet (tTup (tCons (tOp rFdv (tVar 0) (tVar 4)) (tCons (tOp rFdv (tVar 1) (tVar 4)) (tCons (tOp rFdv (tVar 2) (tVar 4)) (tCons (tOp rFdv (tVar 3) (tVar 4)) (tNil)))))))))
def t__law_after (K : PySem.W.Frag) : TS := tSeq (tAsg (tVar 0) (gTup K 4 (gNames [2, 3, 4, 5]))) (tSeq (tAsg (tVar 1) (gTup K 4 (gNames [6, 7, 8, 9]))) (tRet (tCall (Pur K 4 c__law_move) [] E0 (tCons (tOp rAdd (tOp rMul (tVar 2) (tVar 6)) (tOp rMul (tVar 3) (tVar 8))) (tCons (tOp rAdd (tOp rMul (tVar 2) (tVar 7)) (tOp rMul (tVar 3) (tVar 9))) (tCons (tOp rAdd (tOp rMul (tVar 4) (tVar 6)) (tOp rMul (tVar 5) (tVar 8))) (tCons (tOp rAdd (tOp rMul (tVar 4) (tVar 7)) (tOp rMul (tVar 5) (tVar 9))) (tNil))))))))
def t__law_back (K : PySem.W.Frag) : TS := tRet (tCall (Pur K 4 c__law_move) [] E0 (tCons (tOp (rIxT K) (tVar 0) (tC (.int 3))) (tCons (tOp rSub (tC (.int 0)) (tOp (rIxT K) (tVar 0) (tC (.int 1)))) (tCons (tOp rSub (tC (.int 0)) (tOp (rIxT K) (tVar 0) (tC (.int 2)))) (tCons (tOp (rIxT K) (tVar 0) (tC (.int 0))) (tNil))))))
def t__law_size (K : PySem.W.Frag) : TS := tRet (tOp rSub (tOp rMul (tOp (rIxT K) (tVar 0) (tC (.int 0))) (tOp (rIxT K) (tVar 0) (tC (.int 3)))) (tOp rMul (tOp (rIxT K) (tVar 0) (tC (.int 1))) (tOp (rIxT K) (tVar 0) (tC (.int 2)))))
def t__law_stretch (K : PySem.W.Frag) : TS := tSeq (tPar 2 3 (tCons (tCall (Pur K 2 c__law_parts) [] E0 (tCons (tVar 0) (tCons (tTup (tCons (tCall (Pur K 1 c__law_size) [] E0 (tCons (tVar 1) (tNil))) (tCons (tC (.int 1)) (tNil)))) (tNil)))) (tCons (tOp rAdd (tOp (rIxT K) (tVar 1) (tC (.int 0))) (tOp (rIxT K) (tVar 1) (tC (.int 3)))) (tNil)))) (tRet (tIf (tTest (tOp rNe (tVar 3) (tC (.int 0)))) (tCB rMax (tCons (tC (.int 0)) (tCons (tOp rSub (tVar 2) (tOp rMul (tC (.int 2)) (tCall (Pur K 2 c__law_parts) [] E0 (tCons (tVar 0) (tCons (tTup (tCons (tVar 3) (tCons (tC (.int 1)) (tNil)))) (tNil)))))) (tNil)))) (tC (.int 0))))
def t__law_draw_prime (K : PySem.W.Frag) : TS := tRet (tOp (rIxL K) (tLst (tCons (tC (.int 2)) (tCons (tC (.int 3)) (tCons (tC (.int 2)) (tCons (tC (.int 5)) (tCons (tC (.int 7)) (tNil))))))) (tCall (PurI SrcF K 2 c__law_pick) [] E0 (tCons (tVar 0) (tCons (tC (.int 5)) (tNil)))))
def t__law_draw_move (K : PySem.W.Frag) : TS := tSeq (tPar 2 3 (tCons (tCall (PurI SrcF K 2 c__law_pick) [] E0 (tCons (tVar 0) (tCons (tC (.int 6)) (tNil)))) (tCons (tOp rSub (tCall (PurI SrcF K 2 c__law_pick) [] E0 (tCons (tVar 0) (tCons (tC (.int 9)) (tNil)))) (tC (.int 4))) (tNil)))) (tSeq (tIfS (tTest (tOp rEq (tVar 2) (tC (.int 0)))) (tAsg (tCall (Pur K 4 c__law_move) [] E0 (tCons (tC (.int 1)) (tCons (tOp rMul (tVar 3) (tOp (rIxL K) (tLst (tCons (tC (.int 1)) (tCons (tVar 1) (tNil)))) (tCall (PurI SrcF K 2 c__law_pick) [] E0 (tCons (tVar 0) (tCons (tC (.int 2)) (tNil)))))) (tCons (tC (.int 0)) (tCons (tOp (rIxL K) (tLst (tCons (tC (.int 1)) (tCons (tVar 1) (tCons (tOp rMul (tVar 1) (tVar 1)) (tNil))))) (tCall (PurI SrcF K 2 c__law_pick) [] E0 (tCons (tVar 0) (tCons (tC (.int 3)) (tNil))))) (tNil)))))) (gName 4)) (tIfS (tTest (tOp rEq (tVar 2) (tC (.int 1)))) (tAsg (tCall (Pur K 4 c__law_move) [] E0 (tCons (tCall (Pur K 2 c__law_raised) [] E0 (tCons (tVar 1) (tCons (tCall (PurI SrcF K 2 c__law_pick) [] E0 (tCons (tVar 0) (tCons (tC (.int 3)) (tNil)))) (tNil)))) (tCons (tC (.int 0)) (tCons (tC (.int 0)) (tCons (tOp (rIxL K) (tLst (tCons (tC (.int 1)) (tCons (tC (.int 2)) (tCons (tC (.int 3)) (tCons (tOp rSub (tC (.int 0)) (tC (.int 1))) (tNil)))))) (tCall (PurI SrcF K 2 c__law_pick) [] E0 (tCons (tVar 0) (tCons (tC (.int 4)) (tNil))))) (tNil)))))) (gName 4)) (tIfS (tTest (tOp rEq (tVar 2) (tC (.int 2)))) (tAsg (tCall (Pur K 4 c__law_move) [] E0 (tCons (tC (.int 0)) (tCons (tOp (rIxL K) (tLst (tCons (tC (.int 1)) (tCons (tVar 1) (tCons (tOp rSub (tC (.int 0)) (tC (.int 1))) (tCons (tOp rSub (tC (.int 0)) (tVar 1)) (tNil)))))) (tCall (PurI SrcF K 2 c__law_pick) [] E0 (tCons (tVar 0) (tCons (tC (.int 4)) (tNil))))) (tCons (tC (.int 1)) (tCons (tVar 3) (tNil)))))) (gName 4)) (tSeq (tAsg (tLc (iRng1 (tCons (tC (.int 4)) (tNil))) (gName 8) (tYes) (tOp rSub (tCall (PurI SrcF K 2 c__law_pick) [] E0 (tCons (tVar 0) (tCons (tC (.int 9)) (tNil)))) (tC (.int 4))) [8]) (gName 5)) (tSeq (tAsg (tOp rEq (tOp rMul (tOp (rIxL K) (tVar 5) (tC (.int 0))) (tOp (rIxL K) (tVar 5) (tC (.int 3)))) (tOp rMul (tOp (rIxL K) (tVar 5) (tC (.int 1))) (tOp (rIxL K) (tVar 5) (tC (.int 2))))) (gName 6)) (tAsg (tIf (tB (tVar 6)) (tCall (Pur K 4 c__law_move) [] E0 (tCons (tC (.int 1)) (tCons (tVar 3) (tCons (tC (.int 0)) (tCons (tC (.int 1)) (tNil)))))) (tCall (Pur K 4 c__law_move) [] E0 (tCons (tOp (rIxL K) (tVar 5) (tC (.int 0))) (tCons (tOp (rIxL K) (tVar 5) (tC (.int 1))) (tCons (tOp (rIxL K) (tVar 5) (tC (.int 2))) (tCons (tOp (rIxL K) (tVar 5) (tC (.int 3))) (tNil))))))) (gName 4))))))) (tSeq (tIfS (tTest (tOp rEq (tCall (PurI SrcF K 2 c__law_pick) [] E0 (tCons (tVar 0) (tCons (tC (.int 3)) (tNil)))) (tC (.int 0)))) (tSeq (tAsg (tCall (Pur K 4 c__law_move) [] E0 (tCons (tCall (Pur K 2 c__law_raised) [] E0 (tCons (tVar 1) (tCons (tCall (PurI SrcF K 2 c__law_pick) [] E0 (tCons (tVar 0) (tCons (tC (.int 2)) (tNil)))) (tNil)))) (tCons (tOp rSub (tCall (PurI SrcF K 2 c__law_pick) [] E0 (tCons (tVar 0) (tCons (tC (.int 5)) (tNil)))) (tC (.int 2))) (tCons (tC (.int 0)) (tCons (tC (.int 1)) (tNil)))))) (gName 7)) (tAsg (tCall (Pur K 2 c__law_after) [] E0 (tCons (tVar 7) (tCons (tCall (Pur K 2 c__law_after) [] E0 (tCons (tVar 4) (tCons (tCall (Pur K 1 c__law_back) [] E0 (tCons (tVar 7) (tNil))) (tNil)))) (tNil)))) (gName 4))) (tNext)) (tRet (tVar 4))))
def t__law_draw_point (K : PySem.W.Frag) : TS := tSeq (tPar 2 3 (tCons (tOp rSub (tCall (PurI SrcF K 2 c__law_pick) [] E0 (tCons (tVar 0) (tCons (tC (.int 7)) (tNil)))) (tC (.int 3))) (tCons (tOp (rIxL K) (tLst (tCons (tC (.int 1)) (tCons (tC (.int 1)) (tCons (tVar 1) (tCons (tC (.int 0)) (tNil)))))) (tCall (PurI SrcF K 2 c__law_pick) [] E0 (tCons (tVar 0) (tCons (tC (.int 4)) (tNil))))) (tNil)))) (tSeq (tIfS (tTest (tOp rEq (tVar 3) (tC (.int 0)))) (tRet (tTup (tCons (tC (.int 1)) (tCons (tC (.int 0)) (tNil))))) (tNext)) (tRet (tCall (Pur K 2 c__law_fraction) [] E0 (tCons (tOp rMul (tVar 2) (tOp (rIxL K) (tLst (tCons (tC (.int 1)) (tCons (tC (.int 1)) (tCons (tVar 1) (tNil))))) (tCall (PurI SrcF K 2 c__law_pick) [] E0 (tCons (tVar 0) (tCons (tC (.int 3)) (tNil)))))) (tCons (tVar 3) (tNil))))))
def t__law_by_ends (K : PySem.W.Frag) : TS := tSeq (tAsg (tTup (tCons (tOp (rIxT K) (tVar 1) (tC (.int 0))) (tCons (tOp (rIxT K) (tVar 2) (tC (.int 0))) (tCons (tOp (rIxT K) (tVar 1) (tC (.int 1))) (tCons (tOp (rIxT K) (tVar 2) (tC (.int 1))) (tCons (tOp (rIxT K) (tCall (Pur K 2 c__law_power) [] E0 (tCons (tVar 0) (tCons (tVar 3) (tNil)))) (tC (.int 0))) (tNil))))))) (gTup K 5 (gNames [5, 6, 7, 8, 9]))) (tRet (tCall (Pur K 2 c__law_after) [] E0 (tCons (tCall (Pur K 4 c__law_move) [] E0 (tCons (tOp rMul (tVar 5) (tVar 9)) (tCons (tOp rMul (tVar 6) (tVar 4)) (tCons (tOp rMul (tVar 7) (tVar 9)) (tCons (tOp rMul (tVar 8) (tVar 4)) (tNil)))))) (tCons (tCall (Pur K 4 c__law_move) [] E0 (tCons (tVar 8) (tCons (tOp rSub (tC (.int 0)) (tVar 6)) (tCons (tOp rSub (tC (.int 0)) (tVar 7)) (tCons (tVar 5) (tNil)))))) (tNil)))))
def t__law_draw_stretching (K : PySem.W.Frag) : TS := tSeq (tAsg (tCall (PurI SrcF K 2 c__law_draw_move) [] E0 (tCons (tVar 0) (tCons (tVar 1) (tNil)))) (gName 2)) (tSeq (tIfS (tAnd (tTest (tOp rEq (tCall (PurI SrcF K 2 c__law_pick) [] E0 (tCons (tVar 0) (tCons (tC (.int 3)) (tNil)))) (tC (.int 0)))) (tTest (tOp rGt (tCall (Pur K 2 c__law_stretch) [] E0 (tCons (tVar 1) (tCons (tVar 2) (tNil)))) (tC (.int 0))))) (tRet (tVar 2)) (tNext)) (tSeq (tAsg (tCall (PurI SrcF K 2 c__law_draw_ends) [] E0 (tCons (tVar 0) (tCons (tVar 1) (tNil)))) (gName 3)) (tRet (tCall (Pur K 5 c__law_by_ends) [] E0 (tCons (tVar 1) (tCons (tOp (rIxL K) (tVar 3) (tC (.int 0))) (tCons (tOp (rIxL K) (tVar 3) (tC (.int 1))) (tCons (tCall (PurI SrcF K 2 c__law_draw_length) [] E0 (tCons (tVar 0) (tCons (tVar 1) (tNil)))) (tCons (tOp (rIxL K) (tLst (tCons (tC (.int 1)) (tCons (tOp rSub (tC (.int 0)) (tC (.int 1))) (tNil)))) (tCall (PurI SrcF K 2 c__law_pick) [] E0 (tCons (tVar 0) (tCons (tC (.int 2)) (tNil))))) (tNil))))))))))
def t__law_between (K : PySem.W.Frag) : TS := tSeq (tAsg (tVar 0) (gTup K 4 (gNames [2, 3, 4, 5]))) (tSeq (tAsg (tVar 1) (gTup K 4 (gNames [6, 7, 8, 9]))) (tRet (tTup (tCons (tOp rSub (tOp rMul (tVar 3) (tVar 8)) (tOp rMul (tVar 7) (tVar 4))) (tCons (tOp rSub (tOp rSub (tOp rAdd (tOp rMul (tVar 2) (tVar 7)) (tOp rMul (tVar 3) (tVar 9))) (tOp rMul (tVar 6) (tVar 3))) (tOp rMul (tVar 7) (tVar 5))) (tCons (tOp rSub (tOp rSub (tOp rAdd (tOp rMul (tVar 4) (tVar 6)) (tOp rMul (tVar 5) (tVar 8))) (tOp rMul (tVar 8) (tVar 2))) (tOp rMul (tVar 9) (tVar 4))) (tCons (tOp rSub (tOp rMul (tVar 4) (tVar 7)) (tOp rMul (tVar 8) (tVar 3))) (tNil))))))))
def t__law_lines_kind (K : PySem.W.Frag) : TS := tSeq (tAsg (tCall (Pur K 2 c__law_between) [] E0 (tCons (tVar 1) (tCons (tVar 2) (tNil)))) (gName 3)) (tSeq (tIfS (tTest (tOp (rEqD K) (tVar 3) (tTup (tCons (tC (.int 0)) (tCons (tC (.int 0)) (tCons (tC (.int 0)) (tCons (tC (.int 0)) (tNil)))))))) (tRet (tC (.str "same"))) (tNext)) (tRet (tIf (tTest (tOp rEq (tOp rMul (tOp (rIxT K) (tVar 3) (tC (.int 0))) (tOp (rIxT K) (tVar 3) (tC (.int 3)))) (tOp rMul (tOp (rIxT K) (tVar 3) (tC (.int 1))) (tOp (rIxT K) (tVar 3) (tC (.int 2)))))) (tC (.str "end")) (tC (.str "none")))))
def t__law_draw_pair (K : PySem.W.Frag) : TS := tSeq (tPar 2 3 (tCons (tCall (PurI SrcF K 2 c__law_pick) [] E0 (tCons (tVar 0) (tCons (tC (.int 6)) (tNil)))) (tCons (tCall (PurI SrcF K 2 c__law_draw_stretching) [] E0 (tCons (tVar 0) (tCons (tVar 1) (tNil)))) (tNil)))) (tSeq (tIfS (tTest (tOp rEq (tVar 2) (tC (.int 0)))) (tSeq (tAsg (tCall (PurI SrcF K 2 c__law_draw_ends) [] E0 (tCons (tVar 0) (tCons (tVar 1) (tNil)))) (gName 4)) (tSeq (tAsg (tCall (PurI SrcF K 2 c__law_any_order) [] E0 (tCons (tVar 0) (tCons (tVar 4) (tNil)))) (gName 5)) (tSeq (tAsg (tCall (Pur K 5 c__law_by_ends) [] E0 (tCons (tVar 1) (tCons (tOp (rIxL K) (tVar 4) (tC (.int 0))) (tCons (tOp (rIxL K) (tVar 4) (tC (.int 1))) (tCons (tCall (PurI SrcF K 2 c__law_draw_length) [] E0 (tCons (tVar 0) (tCons (tVar 1) (tNil)))) (tCons (tC (.int 1)) (tNil))))))) (gName 3)) (tRet (tTup (tCons (tVar 3) (tCons (tCall (Pur K 5 c__law_by_ends) [] E0 (tCons (tVar 1) (tCons (tOp (rIxL K) (tVar 5) (tC (.int 0))) (tCons (tOp (rIxL K) (tVar 5) (tC (.int 1))) (tCons (tCall (PurI SrcF K 2 c__law_draw_length) [] E0 (tCons (tVar 0) (tCons (tVar 1) (tNil)))) (tCons (tOp (rIxL K) (tLst (tCons (tC (.int 1)) (tCons (tOp rSub (tC (.int 0)) (tC (.int 1))) (tNil)))) (tCall (PurI SrcF K 2 c__law_pick) [] E0 (tCons (tVar 0) (tCons (tC (.int 2)) (tNil))))) (tNil))))))) (tNil)))))))) (tNext)) (tSeq (tIfS (tTest (tOp rEq (tVar 2) (tC (.int 1)))) (tSeq (tAsg (tCall (PurI SrcF K 2 c__law_any_order) [] E0 (tCons (tVar 0) (tCons (tLst (tCons (tTup (tCons (tC (.int 1)) (tCons (tC (.int 0)) (tNil)))) (tCons (tTup (tCons (tCall (PurI SrcF K 2 c__law_pick) [] E0 (tCons (tVar 0) (tCons (tC (.int 3)) (tNil)))) (tCons (tC (.int 1)) (tNil)))) (tCons (tTup (tCons (tOp rAdd (tC (.int 3)) (tCall (PurI SrcF K 2 c__law_pick) [] E0 (tCons (tVar 0) (tCons (tC (.int 4)) (tNil))))) (tCons (tC (.int 1)) (tNil)))) (tNil))))) (tNil)))) (gName 6)) (tSeq (tPar 7 5 (tCons (tSl (rSlL K) (tVar 6) (tNoPart) (tPart (tC (.int 2)))) (tCons (tCall (PurI SrcF K 2 c__law_any_order) [] E0 (tCons (tVar 0) (tCons (tSl (rSlL K) (tVar 6) (tPart (tC (.int 1))) (tNoPart)) (tNil)))) (tNil)))) (tSeq (tAsg (tCall (Pur K 5 c__law_by_ends) [] E0 (tCons (tVar 1) (tCons (tOp (rIxL K) (tVar 7) (tC (.int 0))) (tCons (tOp (rIxL K) (tVar 7) (tC (.int 1))) (tCons (tCall (PurI SrcF K 2 c__law_draw_length) [] E0 (tCons (tVar 0) (tCons (tVar 1) (tNil)))) (tCons (tC (.int 1)) (tNil))))))) (gName 3)) (tRet (tTup (tCons (tVar 3) (tCons (tCall (Pur K 5 c__law_by_ends) [] E0 (tCons (tVar 1) (tCons (tOp (rIxL K) (tVar 5) (tC (.int 0))) (tCons (tOp (rIxL K) (tVar 5) (tC (.int 1))) (tCons (tCall (PurI SrcF K 2 c__law_draw_length) [] E0 (tCons (tVar 0) (tCons (tVar 1) (tNil)))) (tCons (tC (.int 1)) (tNil))))))) (tNil)))))))) (tNext)) (tSeq (tIfS (tTest (tOp rEq (tVar 2) (tC (.int 2)))) (tSeq (tAsg (tCall (Pur K 4 c__law_move) [] E0 (tCons (tC (.int 1)) (tCons (tOp rAdd (tC (.int 1)) (tCall (PurI SrcF K 2 c__law_pick) [] E0 (tCons (tVar 0) (tCons (tC (.int 2)) (tNil))))) (tCons (tC (.int 0)) (tCons (tC (.int 1)) (tNil)))))) (gName 8)) (tRet (tTup (tCons (tVar 3) (tCons (tOp (rIxL K) (tLst (tCons (tCall (Pur K 1 c__law_back) [] E0 (tCons (tVar 3) (tNil))) (tCons (tCall (Pur K 2 c__law_after) [] E0 (tCons (tVar 8) (tCons (tCall (Pur K 2 c__law_after) [] E0 (tCons (tVar 3) (tCons (tCall (Pur K 1 c__law_back) [] E0 (tCons (tVar 8) (tNil))) (tNil)))) (tNil)))) (tNil)))) (tCall (PurI SrcF K 2 c__law_pick) [] E0 (tCons (tVar 0) (tCons (tC (.int 2)) (tNil))))) (tNil)))))) (tNext)) (tRet (tTup (tCons (tVar 3) (tCons (tCall (PurI SrcF K 2 c__law_draw_stretching) [] E0 (tCons (tVar 0) (tCons (tVar 1) (tNil)))) (tNil))))))))
def t__law_draw_ends (K : PySem.W.Frag) : TS := tSeq (tPar 2 3 (tCons (tCall (PurI SrcF K 2 c__law_draw_point) [] E0 (tCons (tVar 0) (tCons (tVar 1) (tNil)))) (tCons (tCall (PurI SrcF K 2 c__law_draw_point) [] E0 (tCons (tVar 0) (tCons (tVar 1) (tNil)))) (tNil)))) (tRet (tIf (tTest (tOp (rNeD K) (tVar 2) (tVar 3))) (tLst (tCons (tVar 2) (tCons (tVar 3) (tNil)))) (tLst (tCons (tTup (tCons (tC (.int 1)) (tCons (tC (.int 0)) (tNil)))) (tCons (tTup (tCons (tOp rSub (tCall (PurI SrcF K 2 c__law_pick) [] E0 (tCons (tVar 0) (tCons (tC (.int 5)) (tNil)))) (tC (.int 2))) (tCons (tC (.int 1)) (tNil)))) (tNil))))))
def t__law_draw_length (K : PySem.W.Frag) : TS := tRet (tOp rAdd (tC (.int 1)) (tCall (PurI SrcF K 2 c__law_pick) [] E0 (tCons (tVar 0) (tCons (tIf (tTest (tOp rLt (tVar 1) (tC (.int 5)))) (tC (.int 3)) (tC (.int 2))) (tNil)))))
def t__law_draw_near (K : PySem.W.Frag) : TS := tSeq (tAsg (tTup (tCons (tCall (PurI SrcF K 2 c__law_draw_ends) [] E0 (tCons (tVar 0) (tCons (tVar 1) (tNil)))) (tCons (tIf (tTest (tOp rEq (tVar 1) (tC (.int 2)))) (tC (.int 6)) (tC (.int 3))) (tNil)))) (gTup K 2 (gNames [2, 3]))) (tSeq (tAsg (tLc (iRng1 (tCons (tC (.int 2)) (tNil))) (gName 11) (tYes) (tOp (rIxT K) (tCall (Pur K 2 c__law_power) [] E0 (tCons (tVar 1) (tCons (tOp rAdd (tC (.int 1)) (tCall (PurI SrcF K 2 c__law_pick) [] E0 (tCons (tVar 0) (tCons (tVar 3) (tNil))))) (tNil)))) (tC (.int 0))) [11]) (gName 4)) (tSeq (tAsg (tLst (tNil)) (gName 5)) (tSeq (tFor (iZip K (tCons (tVar 2) (tCons (tVar 4) (tNil)))) (gTup K 2 (gCons (gTup K 2 (gCons (gName 6) (gCons (gName 7) (gNil)))) (gCons (gName 8) (gNil)))) (tDrop (tBM K "list" rAppend (tVar 5) (tCons (tIf (tTest (tOp rEq (tVar 7) (tC (.int 0)))) (tTup (tCons (tC (.int 1)) (tCons (tVar 8) (tNil)))) (tCall (Pur K 2 c__law_fraction) [] E0 (tCons (tOp rAdd (tVar 6) (tOp rMul (tVar 8) (tVar 7))) (tCons (tVar 7) (tNil))))) (tNil))))) (tSeq (tAsg (tCall (Pur K 5 c__law_by_ends) [] E0 (tCons (tVar 1) (tCons (tOp (rIxL K) (tVar 2) (tC (.int 0))) (tCons (tOp (rIxL K) (tVar 2) (tC (.int 1))) (tCons (tOp rAdd (tC (.int 1)) (tCall (PurI SrcF K 2 c__law_pick) [] E0 (tCons (tVar 0) (tCons (tC (.int 2)) (tNil))))) (tCons (tC (.int 1)) (tNil))))))) (gName 9)) (tSeq (tAsg (tIf (tTest (tOp (rNeD K) (tOp (rIxL K) (tVar 5) (tC (.int 0))) (tOp (rIxL K) (tVar 5) (tC (.int 1))))) (tVar 5) (tVar 2)) (gName 5)) (tSeq (tAsg (tIf (tTest (tOp rEq (tCall (PurI SrcF K 2 c__law_pick) [] E0 (tCons (tVar 0) (tCons (tC (.int 2)) (tNil)))) (tC (.int 0)))) (tVar 5) (tRevL K (tVar 5))) (gName 10)) (tRet (tTup (tCons (tVar 9) (tCons (tCall (Pur K 5 c__law_by_ends) [] E0 (tCons (tVar 1) (tCons (tOp (rIxL K) (tVar 10) (tC (.int 0))) (tCons (tOp (rIxL K) (tVar 10) (tC (.int 1))) (tCons (tOp rAdd (tC (.int 1)) (tCall (PurI SrcF K 2 c__law_pick) [] E0 (tCons (tVar 0) (tCons (tC (.int 2)) (tNil))))) (tCons (tC (.int 1)) (tNil))))))) (tNil)))))))))))
def t__law_products_right (K : PySem.W.Frag) : TS := tSeq (tPar 4 5 (tCons (tCall (Pur K 2 c_stretch) [] E0 (tCons (tVar 0) (tCons (tVar 1) (tNil)))) (tCons (tCall (Pur K 2 c_stretch) [] E0 (tCons (tVar 0) (tCons (tVar 2) (tNil)))) (tNil)))) (tSeq (tPar 6 7 (tCons (tCall (Pur K 2 c_stretch) [] E0 (tCons (tVar 0) (tCons (tCall (Pur K 2 c_after) [] E0 (tCons (tVar 1) (tCons (tVar 2) (tNil)))) (tNil)))) (tCons (tCall (Pur K 2 c_stretch) [] E0 (tCons (tVar 0) (tCons (tCall (Pur K 2 c_after) [] E0 (tCons (tVar 1) (tCons (tCall (Pur K 1 c_back) [] E0 (tCons (tVar 2) (tNil))) (tNil)))) (tNil)))) (tNil)))) (tSeq (tIfS (tTest (tOp rEq (tOp (rIxT K) (tVar 3) (tC (.int 0))) (tC (.str "apart")))) (tRet (tChain rEq rEq (tVar 6) (tVar 7) (tOp rAdd (tOp rAdd (tVar 4) (tVar 5)) (tOp rMul (tC (.int 2)) (tOp (rIxT K) (tVar 3) (tC (.int 1))))))) (tNext)) (tSeq (tAsg (tIf (tTest (tOp rGt (tOp (rIxT K) (tVar 3) (tC (.int 2))) (tUn rNeg (tC (.int 1))))) (tTup (tCons (tVar 6) (tCons (tVar 7) (tNil)))) (tTup (tCons (tVar 7) (tCons (tVar 6) (tNil))))) (gTup K 2 (gNames [6, 7]))) (tSeq (tIfS (tTest (tOp rNe (tVar 6) (tOp rAdd (tVar 4) (tVar 5)))) (tRet (tC (.bl false))) (tNext)) (tRet (tIf (tTest (tOp rLt (tOp (rIxT K) (tVar 3) (tC (.int 1))) (tCB rMin (tCons (tVar 4) (tCons (tVar 5) (tNil)))))) (tOp rEq (tVar 7) (tOp rSub (tOp rAdd (tVar 4) (tVar 5)) (tOp rMul (tC (.int 2)) (tOp (rIxT K) (tVar 3) (tC (.int 1)))))) (tOp rLe (tVar 7) (tCB rAbs (tCons (tOp rSub (tVar 4) (tVar 5)) (tNil))))))))))
def t__law_led_right (K : PySem.W.Frag) : TS := tSeq (tPar 5 6 (tCons (tCall (Pur K 2 c_after) [] E0 (tCons (tVar 4) (tCons (tCall (Pur K 2 c_after) [] E0 (tCons (tVar 1) (tCons (tCall (Pur K 1 c_back) [] E0 (tCons (tVar 4) (tNil))) (tNil)))) (tNil)))) (tCons (tCall (Pur K 2 c_after) [] E0 (tCons (tVar 4) (tCons (tCall (Pur K 2 c_after) [] E0 (tCons (tVar 2) (tCons (tCall (Pur K 1 c_back) [] E0 (tCons (tVar 4) (tNil))) (tNil)))) (tNil)))) (tNil)))) (tSeq (tAsg (tIf (tTest (tOp rEq (tOp (rIxT K) (tVar 3) (tC (.int 0))) (tC (.str "apart")))) (tC (.int 2)) (tC (.int 3))) (gName 7)) (tSeq (tIfS (tTest (tOp (rNeD K) (tCall (Pur K 3 c_lines) [] E0 (tCons (tVar 0) (tCons (tVar 5) (tCons (tVar 6) (tNil))))) (tOp (rCatT K) (tSl (rSlA K) (tVar 3) (tNoPart) (tPart (tVar 7))) (tCB (rTpl K) (tCons (tLc (iTup K (tSl (rSlA K) (tVar 3) (tPart (tVar 7)) (tNoPart))) (gName 13) (tYes) (tCall (Pur K 3 c_led) [] E0 (tCons (tVar 0) (tCons (tVar 4) (tCons (tVar 13) (tNil))))) [13]) (tNil)))))) (tRet (tC (.bl false))) (tNext)) (tSeq (tAsg (tCall (Pur K 3 c_four_sides) [] E0 (tCons (tVar 0) (tCons (tVar 1) (tCons (tVar 2) (tNil))))) (gName 8)) (tSeq (tIfS (tTest (tOp rNotN (tVar 8) (tC .non))) (tSeq (tAsg (tCB (rTpl K) (tCons (tLc (iTup K (tVar 8)) (gTup K 2 (gCons (gName 14) (gCons (gName 15) (gNil)))) (tYes) (tTup (tCons (tCall (Pur K 3 c_led) [] E0 (tCons (tVar 0) (tCons (tVar 4) (tCons (tVar 14) (tNil))))) (tCons (tCall (Pur K 3 c_led) [] E0 (tCons (tVar 0) (tCons (tVar 4) (tCons (tVar 15) (tNil))))) (tNil)))) [14, 15]) (tNil))) (gName 9)) (tRet (tOp rIsN (tCall (Pur K 4 c_judge_sides) [] E0 (tCons (tVar 0) (tCons (tVar 5) (tCons (tVar 6) (tCons (tVar 9) (tNil)))))) (tC .non)))) (tNext)) (tSeq (tAsg (tCall (Pur K 3 c_shorten) [] E0 (tCons (tVar 0) (tCons (tVar 1) (tCons (tVar 2) (tNil))))) (gTup K 2 (gNames [10, 11]))) (tSeq (tAsg (tCall (Pur K 3 c_shorten) [] E0 (tCons (tVar 0) (tCons (tVar 5) (tCons (tVar 6) (tNil))))) (gName 12)) (tSeq (tIfS (tOr (tTest (tOp (rNeD K) (tOp (rIxT K) (tVar 12) (tC (.int 0))) (tVar 10))) (tOr (tTest (tOp rNe (tOp (rIxT K) (tOp (rIxT K) (tVar 12) (tC (.int 1))) (tC (.int 0))) (tOp (rIxT K) (tVar 11) (tC (.int 0))))) (tAnd (tTest (tOp rEq (tOp (rIxT K) (tVar 11) (tC (.int 0))) (tC (.str "rests")))) (tTest (tOp (rNeD K) (tOp (rIxT K) (tVar 12) (tC (.int 1))) (tVar 11)))))) (tRet (tC (.bl false))) (tNext)) (tRet (tOp rIsN (tCall (Pur K 3 c_four_sides) [] E0 (tCons (tVar 0) (tCons (tVar 5) (tCons (tVar 6) (tNil))))) (tC .non))))))))))
def t_law (K : PySem.W.Frag) : TS := tSeq (tAsg (tCall (spOpen K) [] E0 (tCons (tVar 0) (tNil))) (gName 1)) (tSeq (tFor (iRng1 (tCons (tC (.int 2)) (tNil))) (gName 2) (tSeq (tAsg (tCall (PurI SrcF K 1 c__law_draw_prime) [] E0 (tCons (tVar 1) (tNil))) (gName 3)) (tSeq (tAsg (tIf (tOr (tTest (tOp rLt (tVar 2) (tC (.int 1)))) (tTest (tOp rGt (tVar 3) (tC (.int 3))))) (tCall (PurI SrcF K 2 c__law_draw_pair) [] E0 (tCons (tVar 1) (tCons (tVar 3) (tNil)))) (tCall (PurI SrcF K 2 c__law_draw_near) [] E0 (tCons (tVar 1) (tCons (tVar 3) (tNil))))) (gTup K 2 (gNames [4, 5]))) (tIfS (tTest (tOp rEq (tCall (Pur K 3 c__law_lines_kind) [] E0 (tCons (tVar 3) (tCons (tVar 4) (tCons (tVar 5) (tNil))))) (tC (.str "none")))) (tSeq (tPar 6 7 (tCons (tCall (Pur K 3 c_lines) [] E0 (tCons (tVar 3) (tCons (tVar 4) (tCons (tVar 5) (tNil))))) (tCons (tCall (Pur K 4 c__law_move) [] E0 (tCons (tOp (rIxL K) (tLst (tCons (tC (.int 1)) (tCons (tVar 3) (tNil)))) (tCall (PurI SrcF K 2 c__law_pick) [] E0 (tCons (tVar 1) (tCons (tC (.int 2)) (tNil))))) (tCons (tOp rSub (tCall (PurI SrcF K 2 c__law_pick) [] E0 (tCons (tVar 1) (tCons (tC (.int 3)) (tNil)))) (tC (.int 1))) (tCons (tC (.int 0)) (tCons (tC (.int 1)) (tNil)))))) (tNil)))) (tSeq (tIfS (tOr (tNot (tB (tCall (Pur K 4 c__law_products_right) [] E0 (tCons (tVar 3) (tCons (tVar 4) (tCons (tVar 5) (tCons (tVar 6) (tNil)))))))) (tNot (tB (tCall (Pur K 5 c__law_led_right) [] E0 (tCons (tVar 3) (tCons (tVar 4) (tCons (tVar 5) (tCons (tVar 6) (tCons (tVar 7) (tNil)))))))))) (tRet (tC (.bl false))) (tNext)) (tSeq (tAsg (tCall (Pur K 3 c_lines) [] E0 (tCons (tVar 3) (tCons (tVar 4) (tCons (tCall (Pur K 1 c_back) [] E0 (tCons (tVar 5) (tNil))) (tNil))))) (gName 8)) (tSeq (tAsg (tIf (tTest (tOp rEq (tOp (rIxT K) (tVar 6) (tC (.int 0))) (tC (.str "apart")))) (tVar 6) (tOp (rCatT K) (tOp (rCatT K) (tSl (rSlA K) (tVar 6) (tNoPart) (tPart (tC (.int 2)))) (tTup (tCons (tOp rSub (tC (.int 0)) (tOp (rIxT K) (tVar 6) (tC (.int 2)))) (tNil)))) (tSl (rSlA K) (tVar 6) (tPart (tC (.int 3))) (tNoPart)))) (gName 9)) (tIfS (tTest (tOp (rNeD K) (tVar 8) (tVar 9))) (tRet (tC (.bl false))) (tNext)))))) (tNext))))) (tRet (tC (.bl true))))
end Bm
-- BmW
set_option maxRecDepth 100000
set_option maxHeartbeats 2000000
/-! BmW: printed by mkwalk.py: the text has these readings. -/
namespace Bm
open PySem PySem.Spec PyProof.Rows L2
open BmHead (topS)
section
variable {P : Program} {w : World} {K : PySem.W.Frag} {mg : Str → Option Value} {base : Heap}
abbrev N_is_number : List Str := ["value"]
theorem sc_is_number : FnScope N_is_number ["value"] (defScope (topS 9)) := ⟨rfl, rfl, rfl, by decide +kernel, rfl, by decide +kernel, by decide +kernel⟩
theorem w_is_number (T : Tx P w K mg base) {cdv : Value} {A : Around} {outer : List Env} {s : Shared} {H : Hp} {E : XK} {f : Addr} (hr : Room 1 (A.deeper (envOfC "is_number" (defScope (topS 9)) s.heap.objs.size f cdv))) :
    PSs (cxOf CX0 P w K mg base N_is_number "is_number" (defScope (topS 9)) f cdv A outer s H E).nox (defBody (topS 9)) (t_is_number K) :=
  pss_one (ps_ret (pe_and (pe_callB call_isi (by rfl) T.m_isinstance rfl (pa_cons (pv 0) (pa_cons (pe_bltn (by rfl) T.m_int rfl rfl (by decide +kernel) (by decide +kernel)) pa_nil))) (pe_one (pe_not (pe_callB call_isi (by rfl) T.m_isinstance rfl (pa_cons (pv 0) (pa_cons (pe_bltn (by rfl) T.m_bool rfl rfl (by decide +kernel) (by decide +kernel)) pa_nil)))))))
abbrev N_is_row_of_numbers : List Str := ["value", "many", "one"]
theorem sc_is_row_of_numbers : FnScope N_is_row_of_numbers ["value", "many"] (defScope (topS 10)) := ⟨rfl, rfl, rfl, by decide +kernel, rfl, by decide +kernel, by decide +kernel⟩
theorem w_is_row_of_numbers (T : Tx P w K mg base) (f_is_number : Fct P w K mg base 2 "is_number" (Pur K 1 c_is_number)) {cdv : Value} {A : Around} {outer : List Env} {s : Shared} {H : Hp} {E : XK} {f : Addr} (hr : Room 2 (A.deeper (envOfC "is_row_of_numbers" (defScope (topS 10)) s.heap.objs.size f cdv))) :
    PSs (cxOf CX0 P w K mg base N_is_row_of_numbers "is_row_of_numbers" (defScope (topS 10)) f cdv A outer s H E).nox (defBody (topS 10)) (t_is_row_of_numbers K) :=
  pss_one (ps_ret (pe_and (pe_callB call_isi (by rfl) T.m_isinstance rfl (pa_cons (pv 0) (pa_cons (pe_bltn (by rfl) T.m_tuple rfl rfl (by decide +kernel) (by decide +kernel)) pa_nil))) (pe_and (pe_cmpR op_eq (pe_callB call_len_seq (by rfl) T.m_len rfl (pa_cons (pv 0) (pa_nil))) (pv 1) (nomark _)) (pe_one (pe_callB (cr_all rfl) (by rfl) T.m_all rfl (pa_cons (pe_lc rfl sc_is_row_of_numbers.nd (pi_tup (pv 0)) (blkOk_by (own := [("one", 2)]) (by show blkC N_is_row_of_numbers (defScope (topS 10)) _ _ = true; decide +kernel)) (fun _ _ _ _ _ => pg_name (i := 2) sc_is_row_of_numbers.nd rfl (by first | exact .inl rfl | exact .inr rfl)) (fun _ _ _ _ _ => pts_nil) (fun _ _ _ _ _ => pe_fct f_is_number (hr.mono (by decide)) (by rfl) (pa_cons (pv 2) (pa_nil)))) (pa_nil)))))))
abbrev N_fraction : List Str := ["n", "d", "divisor"]
theorem sc_fraction : FnScope N_fraction ["n", "d"] (defScope (topS 11)) := ⟨rfl, rfl, rfl, by decide +kernel, rfl, by decide +kernel, by decide +kernel⟩
theorem w_fraction (T : Tx P w K mg base) {cdv : Value} {A : Around} {outer : List Env} {s : Shared} {H : Hp} {E : XK} {f : Addr} (hr : Room 35 (A.deeper (envOfC "fraction" (defScope (topS 11)) s.heap.objs.size f cdv))) :
    PSs (cxOf CX0 P w K mg base N_fraction "fraction" (defScope (topS 11)) f cdv A outer s H E).nox (defBody (topS 11)) (t_fraction K) :=
  have dv := T.dv (CX := CX0) (N := N_fraction) (outer := outer) (H := H) (E := E) hr (by decide) rfl rfl
  pss_cons (ps_set (i := 2) sc_fraction.nd rfl (by first | exact .inl rfl | exact .inr rfl) (pe_ifExp (pt_cmpR op_gt (pv 1) (pe_int) (nomark _)) (pe_callBfun cr_gcd (by rfl) T.mGcd (pa_cons (pv 0) (pa_cons (pv 1) (pa_nil)))) (pe_un un_neg (pe_callBfun cr_gcd (by rfl) T.mGcd (pa_cons (pv 0) (pa_cons (pv 1) (pa_nil))))))) (pss_one (ps_ret (pe_tup (pa_cons (pe_op (op_fdivX dv) (pv 0) (pv 2)) (pa_cons (pe_op (op_fdivX dv) (pv 1) (pv 2)) (pa_nil))))))
abbrev N_is_fraction : List Str := ["value"]
theorem sc_is_fraction : FnScope N_is_fraction ["value"] (defScope (topS 12)) := ⟨rfl, rfl, rfl, by decide +kernel, rfl, by decide +kernel, by decide +kernel⟩
theorem w_is_fraction (T : Tx P w K mg base) (f_is_row_of_numbers : Fct P w K mg base 3 "is_row_of_numbers" (Pur K 2 c_is_row_of_numbers)) {cdv : Value} {A : Around} {outer : List Env} {s : Shared} {H : Hp} {E : XK} {f : Addr} (hr : Room 3 (A.deeper (envOfC "is_fraction" (defScope (topS 12)) s.heap.objs.size f cdv))) :
    PSs (cxOf CX0 P w K mg base N_is_fraction "is_fraction" (defScope (topS 12)) f cdv A outer s H E).nox (defBody (topS 12)) (t_is_fraction K) :=
  pss_one (ps_ret (pe_and (pe_fct f_is_row_of_numbers (hr.mono (by decide)) (by rfl) (pa_cons (pv 0) (pa_cons (pe_int) (pa_nil)))) (pe_and (pe_cmpR op_gt (pe_ix ix_tup (pv 0) (pe_int) (fun _ _ => rfl)) (pe_int) (nomark _)) (pe_one (pe_cmpR op_eq (pe_callBfun cr_gcd (by rfl) T.mGcd (pa_cons (pe_ix ix_tup (pv 0) (pe_int) (fun _ _ => rfl)) (pa_cons (pe_ix ix_tup (pv 0) (pe_int) (fun _ _ => rfl)) (pa_nil)))) (pe_int) (nomark _))))))
abbrev N_plus : List Str := ["x", "y"]
theorem sc_plus : FnScope N_plus ["x", "y"] (defScope (topS 13)) := ⟨rfl, rfl, rfl, by decide +kernel, rfl, by decide +kernel, by decide +kernel⟩
theorem w_plus (T : Tx P w K mg base) (f_fraction : Fct P w K mg base 36 "fraction" (Pur K 2 c_fraction)) {cdv : Value} {A : Around} {outer : List Env} {s : Shared} {H : Hp} {E : XK} {f : Addr} (hr : Room 36 (A.deeper (envOfC "plus" (defScope (topS 13)) s.heap.objs.size f cdv))) :
    PSs (cxOf CX0 P w K mg base N_plus "plus" (defScope (topS 13)) f cdv A outer s H E).nox (defBody (topS 13)) (t_plus K) :=
  pss_one (ps_ret (pe_fct f_fraction (hr.mono (by decide)) (by rfl) (pa_cons (pe_op op_add (pe_op op_mulX (pe_ix ix_tup (pv 0) (pe_int) (fun _ _ => rfl)) (pe_ix ix_tup (pv 1) (pe_int) (fun _ _ => rfl))) (pe_op op_mulX (pe_ix ix_tup (pv 1) (pe_int) (fun _ _ => rfl)) (pe_ix ix_tup (pv 0) (pe_int) (fun _ _ => rfl)))) (pa_cons (pe_op op_mulX (pe_ix ix_tup (pv 0) (pe_int) (fun _ _ => rfl)) (pe_ix ix_tup (pv 1) (pe_int) (fun _ _ => rfl))) (pa_nil)))))
abbrev N_minus : List Str := ["x", "y"]
theorem sc_minus : FnScope N_minus ["x", "y"] (defScope (topS 14)) := ⟨rfl, rfl, rfl, by decide +kernel, rfl, by decide +kernel, by decide +kernel⟩
theorem w_minus (T : Tx P w K mg base) (f_fraction : Fct P w K mg base 36 "fraction" (Pur K 2 c_fraction)) {cdv : Value} {A : Around} {outer : List Env} {s : Shared} {H : Hp} {E : XK} {f : Addr} (hr : Room 36 (A.deeper (envOfC "minus" (defScope (topS 14)) s.heap.objs.size f cdv))) :
    PSs (cxOf CX0 P w K mg base N_minus "minus" (defScope (topS 14)) f cdv A outer s H E).nox (defBody (topS 14)) (t_minus K) :=
  pss_one (ps_ret (pe_fct f_fraction (hr.mono (by decide)) (by rfl) (pa_cons (pe_op op_sub (pe_op op_mulX (pe_ix ix_tup (pv 0) (pe_int) (fun _ _ => rfl)) (pe_ix ix_tup (pv 1) (pe_int) (fun _ _ => rfl))) (pe_op op_mulX (pe_ix ix_tup (pv 1) (pe_int) (fun _ _ => rfl)) (pe_ix ix_tup (pv 0) (pe_int) (fun _ _ => rfl)))) (pa_cons (pe_op op_mulX (pe_ix ix_tup (pv 0) (pe_int) (fun _ _ => rfl)) (pe_ix ix_tup (pv 1) (pe_int) (fun _ _ => rfl))) (pa_nil)))))
abbrev N_times_of : List Str := ["x", "y"]
theorem sc_times_of : FnScope N_times_of ["x", "y"] (defScope (topS 15)) := ⟨rfl, rfl, rfl, by decide +kernel, rfl, by decide +kernel, by decide +kernel⟩
theorem w_times_of (T : Tx P w K mg base) (f_fraction : Fct P w K mg base 36 "fraction" (Pur K 2 c_fraction)) {cdv : Value} {A : Around} {outer : List Env} {s : Shared} {H : Hp} {E : XK} {f : Addr} (hr : Room 36 (A.deeper (envOfC "times_of" (defScope (topS 15)) s.heap.objs.size f cdv))) :
    PSs (cxOf CX0 P w K mg base N_times_of "times_of" (defScope (topS 15)) f cdv A outer s H E).nox (defBody (topS 15)) (t_times_of K) :=
  pss_one (ps_ret (pe_fct f_fraction (hr.mono (by decide)) (by rfl) (pa_cons (pe_op op_mulX (pe_ix ix_tup (pv 0) (pe_int) (fun _ _ => rfl)) (pe_ix ix_tup (pv 1) (pe_int) (fun _ _ => rfl))) (pa_cons (pe_op op_mulX (pe_ix ix_tup (pv 0) (pe_int) (fun _ _ => rfl)) (pe_ix ix_tup (pv 1) (pe_int) (fun _ _ => rfl))) (pa_nil)))))
abbrev N_divided : List Str := ["x", "y"]
theorem sc_divided : FnScope N_divided ["x", "y"] (defScope (topS 16)) := ⟨rfl, rfl, rfl, by decide +kernel, rfl, by decide +kernel, by decide +kernel⟩
theorem w_divided (T : Tx P w K mg base) (f_fraction : Fct P w K mg base 36 "fraction" (Pur K 2 c_fraction)) {cdv : Value} {A : Around} {outer : List Env} {s : Shared} {H : Hp} {E : XK} {f : Addr} (hr : Room 36 (A.deeper (envOfC "divided" (defScope (topS 16)) s.heap.objs.size f cdv))) :
    PSs (cxOf CX0 P w K mg base N_divided "divided" (defScope (topS 16)) f cdv A outer s H E).nox (defBody (topS 16)) (t_divided K) :=
  pss_one (ps_ret (pe_fct f_fraction (hr.mono (by decide)) (by rfl) (pa_cons (pe_op op_mulX (pe_ix ix_tup (pv 0) (pe_int) (fun _ _ => rfl)) (pe_ix ix_tup (pv 1) (pe_int) (fun _ _ => rfl))) (pa_cons (pe_op op_mulX (pe_ix ix_tup (pv 0) (pe_int) (fun _ _ => rfl)) (pe_ix ix_tup (pv 1) (pe_int) (fun _ _ => rfl))) (pa_nil)))))
abbrev N_is_less : List Str := ["x", "y"]
theorem sc_is_less : FnScope N_is_less ["x", "y"] (defScope (topS 17)) := ⟨rfl, rfl, rfl, by decide +kernel, rfl, by decide +kernel, by decide +kernel⟩
theorem w_is_less (T : Tx P w K mg base) {cdv : Value} {A : Around} {outer : List Env} {s : Shared} {H : Hp} {E : XK} {f : Addr} (hr : Room 1 (A.deeper (envOfC "is_less" (defScope (topS 17)) s.heap.objs.size f cdv))) :
    PSs (cxOf CX0 P w K mg base N_is_less "is_less" (defScope (topS 17)) f cdv A outer s H E).nox (defBody (topS 17)) (t_is_less K) :=
  pss_one (ps_ret (pe_cmpR op_lt (pe_op op_mulX (pe_ix ix_tup (pv 0) (pe_int) (fun _ _ => rfl)) (pe_ix ix_tup (pv 1) (pe_int) (fun _ _ => rfl))) (pe_op op_mulX (pe_ix ix_tup (pv 1) (pe_int) (fun _ _ => rfl)) (pe_ix ix_tup (pv 0) (pe_int) (fun _ _ => rfl))) (nomark _)))
abbrev N_split_off : List Str := ["p", "n", "many"]
theorem sc_split_off : FnScope N_split_off ["p", "n"] (defScope (topS 19)) := ⟨rfl, rfl, rfl, by decide +kernel, rfl, by decide +kernel, by decide +kernel⟩
theorem w_split_off (T : Tx P w K mg base) {cdv : Value} {A : Around} {outer : List Env} {s : Shared} {H : Hp} {E : XK} {f : Addr} (hr : Room 35 (A.deeper (envOfC "split_off" (defScope (topS 19)) s.heap.objs.size f cdv))) :
    PSs (cxOf CX0 P w K mg base N_split_off "split_off" (defScope (topS 19)) f cdv A outer s H E).nox (defBody (topS 19)) (t_split_off K) :=
  have dv := T.dv (CX := CX0) (N := N_split_off) (outer := outer) (H := H) (E := E) hr (by decide) rfl rfl
  pss_cons (ps_set (i := 2) sc_split_off.nd rfl (by first | exact .inl rfl | exact .inr rfl) (pe_int)) (pss_cons (ps_while PassesOwn.never (pt_cmpR op_eq (pe_op op_modN (pv 1) (pv 0)) (pe_int) (nomark _)) (pss_one (ps_par (i := 2) (j := 1) rfl sc_split_off.nd rfl rfl (by decide) rfl rfl (pa_cons (pe_op op_add (pv 2) (pe_int)) (pa_cons (pe_op (op_fdivX dv) (pv 1) (pv 0)) (pa_nil))) (by rfl)))) (pss_one (ps_ret (pe_tup (pa_cons (pv 2) (pa_cons (pv 1) (pa_nil)))))))
abbrev N_parts : List Str := ["p", "x"]
theorem sc_parts : FnScope N_parts ["p", "x"] (defScope (topS 20)) := ⟨rfl, rfl, rfl, by decide +kernel, rfl, by decide +kernel, by decide +kernel⟩
theorem w_parts (T : Tx P w K mg base) (f_split_off : Fct P w K mg base 36 "split_off" (Pur K 2 c_split_off)) {cdv : Value} {A : Around} {outer : List Env} {s : Shared} {H : Hp} {E : XK} {f : Addr} (hr : Room 36 (A.deeper (envOfC "parts" (defScope (topS 20)) s.heap.objs.size f cdv))) :
    PSs (cxOf CX0 P w K mg base N_parts "parts" (defScope (topS 20)) f cdv A outer s H E).nox (defBody (topS 20)) (t_parts K) :=
  pss_cons (ps_if (pt_cmpR op_eq (pe_ix ix_tup (pv 1) (pe_int) (fun _ _ => rfl)) (pe_int) (nomark _)) (pss_one (ps_ret (pe_non))) (pss_nil)) (pss_one (ps_ret (pe_op op_sub (pe_ix ix_tup (pe_fct f_split_off (hr.mono (by decide)) (by rfl) (pa_cons (pv 0) (pa_cons (pe_ix ix_tup (pv 1) (pe_int) (fun _ _ => rfl)) (pa_nil)))) (pe_int) (fun _ _ => rfl)) (pe_ix ix_tup (pe_fct f_split_off (hr.mono (by decide)) (by rfl) (pa_cons (pv 0) (pa_cons (pe_ix ix_tup (pv 1) (pe_int) (fun _ _ => rfl)) (pa_nil)))) (pe_int) (fun _ _ => rfl)))))
abbrev N_raised : List Str := ["n", "times", "found", "lap"]
theorem sc_raised : FnScope N_raised ["n", "times"] (defScope (topS 21)) := ⟨rfl, rfl, rfl, by decide +kernel, rfl, by decide +kernel, by decide +kernel⟩
theorem w_raised (T : Tx P w K mg base) {cdv : Value} {A : Around} {outer : List Env} {s : Shared} {H : Hp} {E : XK} {f : Addr} (hr : Room 1 (A.deeper (envOfC "raised" (defScope (topS 21)) s.heap.objs.size f cdv))) :
    PSs (cxOf CX0 P w K mg base N_raised "raised" (defScope (topS 21)) f cdv A outer s H E).nox (defBody (topS 21)) (t_raised K) :=
  pss_cons (ps_set (i := 2) sc_raised.nd rfl (by first | exact .inl rfl | exact .inr rfl) (pe_int)) (pss_cons (ps_for PassesOwn.never rfl (pi_range1 (by rfl) T.m_range (pa_cons (pv 1) (pa_nil))) (pg_name (i := 3) sc_raised.nd rfl (by first | exact .inl rfl | exact .inr rfl)) (pss_one (ps_set (i := 2) sc_raised.nd rfl (by first | exact .inl rfl | exact .inr rfl) (pe_op op_mulX (pv 2) (pv 0))))) (pss_one (ps_ret (pv 2))))
abbrev N_power_of : List Str := ["p", "n"]
theorem sc_power_of : FnScope N_power_of ["p", "n"] (defScope (topS 22)) := ⟨rfl, rfl, rfl, by decide +kernel, rfl, by decide +kernel, by decide +kernel⟩
theorem w_power_of (T : Tx P w K mg base) (f_raised : Fct P w K mg base 2 "raised" (Pur K 2 c_raised)) {cdv : Value} {A : Around} {outer : List Env} {s : Shared} {H : Hp} {E : XK} {f : Addr} (hr : Room 2 (A.deeper (envOfC "power_of" (defScope (topS 22)) s.heap.objs.size f cdv))) :
    PSs (cxOf CX0 P w K mg base N_power_of "power_of" (defScope (topS 22)) f cdv A outer s H E).nox (defBody (topS 22)) (t_power_of K) :=
  pss_one (ps_ret (pe_ifExp (pt_cmpR op_ge (pv 1) (pe_int) (nomark _)) (pe_tup (pa_cons (pe_fct f_raised (hr.mono (by decide)) (by rfl) (pa_cons (pv 0) (pa_cons (pv 1) (pa_nil)))) (pa_cons (pe_int) (pa_nil)))) (pe_tup (pa_cons (pe_int) (pa_cons (pe_fct f_raised (hr.mono (by decide)) (by rfl) (pa_cons (pv 0) (pa_cons (pe_un un_neg (pv 1)) (pa_nil)))) (pa_nil))))))
abbrev N_inverse : List Str := ["n", "whole", "one", "other", "here", "there", "times"]
theorem sc_inverse : FnScope N_inverse ["n", "whole"] (defScope (topS 23)) := ⟨rfl, rfl, rfl, by decide +kernel, rfl, by decide +kernel, by decide +kernel⟩
theorem w_inverse (T : Tx P w K mg base) {cdv : Value} {A : Around} {outer : List Env} {s : Shared} {H : Hp} {E : XK} {f : Addr} (hr : Room 35 (A.deeper (envOfC "inverse" (defScope (topS 23)) s.heap.objs.size f cdv))) :
    PSs (cxOf CX0 P w K mg base N_inverse "inverse" (defScope (topS 23)) f cdv A outer s H E).nox (defBody (topS 23)) (t_inverse K) :=
  have dv := T.dv (CX := CX0) (N := N_inverse) (outer := outer) (H := H) (E := E) hr (by decide) rfl rfl
  pss_cons (ps_asg (pe_tup (pa_cons (pe_op op_modN (pv 0) (pv 1)) (pa_cons (pv 1) (pa_cons (pe_int) (pa_cons (pe_int) (pa_nil)))))) (pg_tup rfl (pgs_cons (pg_name (i := 2) sc_inverse.nd rfl (by first | exact .inl rfl | exact .inr rfl)) (pgs_cons (pg_name (i := 3) sc_inverse.nd rfl (by first | exact .inl rfl | exact .inr rfl)) (pgs_cons (pg_name (i := 4) sc_inverse.nd rfl (by first | exact .inl rfl | exact .inr rfl)) (pgs_cons (pg_name (i := 5) sc_inverse.nd rfl (by first | exact .inl rfl | exact .inr rfl)) (pgs_nil))))))) (pss_cons (ps_while PassesOwn.never (pt_cmpR op_ne (pv 3) (pe_int) (nomark _)) (pss_cons (ps_set (i := 6) sc_inverse.nd rfl (by first | exact .inl rfl | exact .inr rfl) (pe_op (op_fdivX dv) (pv 2) (pv 3))) (pss_one (ps_asg (pe_tup (pa_cons (pv 3) (pa_cons (pe_op op_sub (pv 2) (pe_op op_mulX (pv 6) (pv 3))) (pa_cons (pv 5) (pa_cons (pe_op op_sub (pv 4) (pe_op op_mulX (pv 6) (pv 5))) (pa_nil)))))) (pg_tup rfl (pgs_cons (pg_name (i := 2) sc_inverse.nd rfl (by first | exact .inl rfl | exact .inr rfl)) (pgs_cons (pg_name (i := 3) sc_inverse.nd rfl (by first | exact .inl rfl | exact .inr rfl)) (pgs_cons (pg_name (i := 4) sc_inverse.nd rfl (by first | exact .inl rfl | exact .inr rfl)) (pgs_cons (pg_name (i := 5) sc_inverse.nd rfl (by first | exact .inl rfl | exact .inr rfl)) (pgs_nil)))))))))) (pss_one (ps_ret (pe_op op_modN (pv 4) (pv 1)))))
abbrev N_rest : List Str := ["p", "k", "x", "whole"]
theorem sc_rest : FnScope N_rest ["p", "k", "x"] (defScope (topS 24)) := ⟨rfl, rfl, rfl, by decide +kernel, rfl, by decide +kernel, by decide +kernel⟩
theorem w_rest (T : Tx P w K mg base) (f_inverse : Fct P w K mg base 36 "inverse" (Pur K 2 c_inverse)) (f_raised : Fct P w K mg base 2 "raised" (Pur K 2 c_raised)) {cdv : Value} {A : Around} {outer : List Env} {s : Shared} {H : Hp} {E : XK} {f : Addr} (hr : Room 36 (A.deeper (envOfC "rest" (defScope (topS 24)) s.heap.objs.size f cdv))) :
    PSs (cxOf CX0 P w K mg base N_rest "rest" (defScope (topS 24)) f cdv A outer s H E).nox (defBody (topS 24)) (t_rest K) :=
  pss_cons (ps_set (i := 3) sc_rest.nd rfl (by first | exact .inl rfl | exact .inr rfl) (pe_fct f_raised (hr.mono (by decide)) (by rfl) (pa_cons (pv 0) (pa_cons (pv 1) (pa_nil))))) (pss_one (ps_ret (pe_op op_modN (pe_op op_mulX (pe_ix ix_tup (pv 2) (pe_int) (fun _ _ => rfl)) (pe_fct f_inverse (hr.mono (by decide)) (by rfl) (pa_cons (pe_ix ix_tup (pv 2) (pe_int) (fun _ _ => rfl)) (pa_cons (pv 3) (pa_nil))))) (pv 3))))
abbrev N_is_ball : List Str := ["p", "value", "n", "q"]
theorem sc_is_ball : FnScope N_is_ball ["p", "value"] (defScope (topS 27)) := ⟨rfl, rfl, rfl, by decide +kernel, rfl, by decide +kernel, by decide +kernel⟩
theorem w_is_ball (T : Tx P w K mg base) (f_is_fraction : Fct P w K mg base 4 "is_fraction" (Pur K 1 c_is_fraction)) (f_is_less : Fct P w K mg base 2 "is_less" (Pur K 2 c_is_less)) (f_is_number : Fct P w K mg base 2 "is_number" (Pur K 1 c_is_number)) (f_power_of : Fct P w K mg base 3 "power_of" (Pur K 2 c_power_of)) (f_split_off : Fct P w K mg base 36 "split_off" (Pur K 2 c_split_off)) {cdv : Value} {A : Around} {outer : List Env} {s : Shared} {H : Hp} {E : XK} {f : Addr} (hr : Room 36 (A.deeper (envOfC "is_ball" (defScope (topS 27)) s.heap.objs.size f cdv))) :
    PSs (cxOf CX0 P w K mg base N_is_ball "is_ball" (defScope (topS 27)) f cdv A outer s H E).nox (defBody (topS 27)) (t_is_ball K) :=
  pss_cons (ps_if (PW.pt (pw_or (pt_not (pt_val (pe_callB call_isi (by rfl) T.m_isinstance rfl (pa_cons (pv 1) (pa_cons (pe_bltn (by rfl) T.m_tuple rfl rfl (by decide +kernel) (by decide +kernel)) pa_nil))))) (pw_or (pt_cmpR op_ne (pe_callB call_len_seq (by rfl) T.m_len rfl (pa_cons (pv 1) (pa_nil))) (pe_int) (nomark _)) (pw_or (pt_not (pt_val (pe_fct f_is_number (hr.mono (by decide)) (by rfl) (pa_cons (pe_ix ix_tup (pv 1) (pe_int) (fun _ _ => rfl)) (pa_nil))))) (pw_or1 (pt_not (pt_val (pe_fct f_is_fraction (hr.mono (by decide)) (by rfl) (pa_cons (pe_ix ix_tup (pv 1) (pe_int) (fun _ _ => rfl)) (pa_nil)))))))))) (pss_never) (pss_nil)) (pss_cons (ps_asg (pv 1) (pg_tup rfl (pgs_cons (pg_name (i := 2) sc_is_ball.nd rfl (by first | exact .inl rfl | exact .inr rfl)) (pgs_cons (pg_name (i := 3) sc_is_ball.nd rfl (by first | exact .inl rfl | exact .inr rfl)) (pgs_nil))))) (pss_one (ps_ret (pe_and (pe_cmpR op_eq (pe_ix ix_tup (pe_fct f_split_off (hr.mono (by decide)) (by rfl) (pa_cons (pv 0) (pa_cons (pe_ix ix_tup (pv 3) (pe_int) (fun _ _ => rfl)) (pa_nil)))) (pe_int) (fun _ _ => rfl)) (pe_int) (nomark _)) (pe_and (pe_cmpR op_ge (pe_ix ix_tup (pv 3) (pe_int) (fun _ _ => rfl)) (pe_int) (nomark _)) (pe_one (pe_fct f_is_less (hr.mono (by decide)) (by rfl) (pa_cons (pv 3) (pa_cons (pe_fct f_power_of (hr.mono (by decide)) (by rfl) (pa_cons (pv 0) (pa_cons (pv 2) (pa_nil)))) (pa_nil))))))))))
abbrev N_ball : List Str := ["p", "n", "x", "low", "whole"]
theorem sc_ball : FnScope N_ball ["p", "n", "x"] (defScope (topS 28)) := ⟨rfl, rfl, rfl, by decide +kernel, rfl, by decide +kernel, by decide +kernel⟩
theorem w_ball (T : Tx P w K mg base) (f_fraction : Fct P w K mg base 36 "fraction" (Pur K 2 c_fraction)) (f_is_fraction : Fct P w K mg base 4 "is_fraction" (Pur K 1 c_is_fraction)) (f_is_number : Fct P w K mg base 2 "is_number" (Pur K 1 c_is_number)) (f_power_of : Fct P w K mg base 3 "power_of" (Pur K 2 c_power_of)) (f_rest : Fct P w K mg base 37 "rest" (Pur K 3 c_rest)) (f_split_off : Fct P w K mg base 36 "split_off" (Pur K 2 c_split_off)) (f_times_of : Fct P w K mg base 37 "times_of" (Pur K 2 c_times_of)) {cdv : Value} {A : Around} {outer : List Env} {s : Shared} {H : Hp} {E : XK} {f : Addr} (hr : Room 37 (A.deeper (envOfC "ball" (defScope (topS 28)) s.heap.objs.size f cdv))) :
    PSs (cxOf CX0 P w K mg base N_ball "ball" (defScope (topS 28)) f cdv A outer s H E).nox (defBody (topS 28)) (t_ball K) :=
  pss_cons (ps_if (PW.pt (pw_or (pt_not (pt_val (pe_fct f_is_number (hr.mono (by decide)) (by rfl) (pa_cons (pv 1) (pa_nil))))) (pw_or1 (pt_not (pt_val (pe_fct f_is_fraction (hr.mono (by decide)) (by rfl) (pa_cons (pv 2) (pa_nil)))))))) (pss_one (ps_never)) (pss_nil)) (pss_cons (ps_set (i := 3) sc_ball.nd rfl (by first | exact .inl rfl | exact .inr rfl) (pe_ix ix_tup (pe_fct f_split_off (hr.mono (by decide)) (by rfl) (pa_cons (pv 0) (pa_cons (pe_ix ix_tup (pv 2) (pe_int) (fun _ _ => rfl)) (pa_nil)))) (pe_int) (fun _ _ => rfl))) (pss_cons (ps_if (pt_cmpR op_le (pe_op op_add (pv 1) (pv 3)) (pe_int) (nomark _)) (pss_one (ps_ret (pe_tup (pa_cons (pv 1) (pa_cons (pe_glob (by rfl) T.mZero rfl (by decide +kernel)) (pa_nil)))))) (pss_nil)) (pss_cons (ps_set (i := 4) sc_ball.nd rfl (by first | exact .inl rfl | exact .inr rfl) (pe_fct f_power_of (hr.mono (by decide)) (by rfl) (pa_cons (pv 0) (pa_cons (pv 3) (pa_nil))))) (pss_one (ps_ret (pe_tup (pa_cons (pv 1) (pa_cons (pe_fct f_fraction (hr.mono (by decide)) (by rfl) (pa_cons (pe_fct f_rest (hr.mono (by decide)) (by rfl) (pa_cons (pv 0) (pa_cons (pe_op op_add (pv 1) (pv 3)) (pa_cons (pe_fct f_times_of (hr.mono (by decide)) (by rfl) (pa_cons (pv 2) (pa_cons (pv 4) (pa_nil)))) (pa_nil))))) (pa_cons (pe_ix ix_tup (pv 4) (pe_int) (fun _ _ => rfl)) (pa_nil)))) (pa_nil)))))))))
abbrev N_about : List Str := ["p", "one"]
theorem sc_about : FnScope N_about ["p", "one"] (defScope (topS 29)) := ⟨rfl, rfl, rfl, by decide +kernel, rfl, by decide +kernel, by decide +kernel⟩
theorem w_about (T : Tx P w K mg base) (f_ball : Fct P w K mg base 38 "ball" (Pur K 3 c_ball)) {cdv : Value} {A : Around} {outer : List Env} {s : Shared} {H : Hp} {E : XK} {f : Addr} (hr : Room 38 (A.deeper (envOfC "about" (defScope (topS 29)) s.heap.objs.size f cdv))) :
    PSs (cxOf CX0 P w K mg base N_about "about" (defScope (topS 29)) f cdv A outer s H E).nox (defBody (topS 29)) (t_about K) :=
  pss_one (ps_ret (pe_fct f_ball (hr.mono (by decide)) (by rfl) (pa_cons (pv 0) (pa_cons (pe_op op_sub (pe_ix ix_tup (pv 1) (pe_int) (fun _ _ => rfl)) (pe_int)) (pa_cons (pe_ix ix_tup (pv 1) (pe_int) (fun _ _ => rfl)) (pa_nil))))))
abbrev N_within : List Str := ["p", "one", "n", "q", "k"]
theorem sc_within : FnScope N_within ["p", "one"] (defScope (topS 30)) := ⟨rfl, rfl, rfl, by decide +kernel, rfl, by decide +kernel, by decide +kernel⟩
theorem w_within (T : Tx P w K mg base) (f_plus : Fct P w K mg base 37 "plus" (Pur K 2 c_plus)) (f_power_of : Fct P w K mg base 3 "power_of" (Pur K 2 c_power_of)) (f_times_of : Fct P w K mg base 37 "times_of" (Pur K 2 c_times_of)) {cdv : Value} {A : Around} {outer : List Env} {s : Shared} {H : Hp} {E : XK} {f : Addr} (hr : Room 37 (A.deeper (envOfC "within" (defScope (topS 30)) s.heap.objs.size f cdv))) :
    PSs (cxOf CX0 P w K mg base N_within "within" (defScope (topS 30)) f cdv A outer s H E).nox (defBody (topS 30)) (t_within K) :=
  pss_cons (ps_asg (pv 1) (pg_tup rfl (pgs_cons (pg_name (i := 2) sc_within.nd rfl (by first | exact .inl rfl | exact .inr rfl)) (pgs_cons (pg_name (i := 3) sc_within.nd rfl (by first | exact .inl rfl | exact .inr rfl)) (pgs_nil))))) (pss_one (ps_ret (pe_lc rfl sc_within.nd (pi_range1 (by rfl) T.m_range (pa_cons (pv 0) (pa_nil))) (blkOk_by (own := [("k", 4)]) (by show blkC N_within (defScope (topS 30)) _ _ = true; decide +kernel)) (fun _ _ _ _ _ => pg_name (i := 4) sc_within.nd rfl (by first | exact .inl rfl | exact .inr rfl)) (fun _ _ _ _ _ => pts_nil) (fun _ _ _ _ _ => pe_tup (pa_cons (pe_op op_add (pv 2) (pe_int)) (pa_cons (pe_fct f_plus (hr.mono (by decide)) (by rfl) (pa_cons (pv 3) (pa_cons (pe_fct f_times_of (hr.mono (by decide)) (by rfl) (pa_cons (pe_tup (pa_cons (pv 4) (pa_cons (pe_int) (pa_nil)))) (pa_cons (pe_fct f_power_of (hr.mono (by decide)) (by rfl) (pa_cons (pv 0) (pa_cons (pv 2) (pa_nil)))) (pa_nil)))) (pa_nil)))) (pa_nil)))))))
abbrev N_neighbours : List Str := ["p", "one"]
theorem sc_neighbours : FnScope N_neighbours ["p", "one"] (defScope (topS 31)) := ⟨rfl, rfl, rfl, by decide +kernel, rfl, by decide +kernel, by decide +kernel⟩
theorem w_neighbours (T : Tx P w K mg base) (f_about : Fct P w K mg base 39 "about" (Pur K 2 c_about)) (f_within : Fct P w K mg base 38 "within" (Pur K 2 c_within)) {cdv : Value} {A : Around} {outer : List Env} {s : Shared} {H : Hp} {E : XK} {f : Addr} (hr : Room 39 (A.deeper (envOfC "neighbours" (defScope (topS 31)) s.heap.objs.size f cdv))) :
    PSs (cxOf CX0 P w K mg base N_neighbours "neighbours" (defScope (topS 31)) f cdv A outer s H E).nox (defBody (topS 31)) (t_neighbours K) :=
  pss_one (ps_ret (pe_lst (pa_cons (pe_fct f_about (hr.mono (by decide)) (by rfl) (pa_cons (pv 0) (pa_cons (pv 1) (pa_nil)))) (StX.pa_star (pe_fct f_within (hr.mono (by decide)) (by rfl) (pa_cons (pv 0) (pa_cons (pv 1) (pa_nil)))) (pa_nil)))))
abbrev N_least_about : List Str := ["p", "one", "other", "left", "n"]
theorem sc_least_about : FnScope N_least_about ["p", "one", "other"] (defScope (topS 32)) := ⟨rfl, rfl, rfl, by decide +kernel, rfl, by decide +kernel, by decide +kernel⟩
theorem w_least_about (T : Tx P w K mg base) (f_ball : Fct P w K mg base 38 "ball" (Pur K 3 c_ball)) (f_minus : Fct P w K mg base 37 "minus" (Pur K 2 c_minus)) (f_parts : Fct P w K mg base 37 "parts" (Pur K 2 c_parts)) {cdv : Value} {A : Around} {outer : List Env} {s : Shared} {H : Hp} {E : XK} {f : Addr} (hr : Room 38 (A.deeper (envOfC "least_about" (defScope (topS 32)) s.heap.objs.size f cdv))) :
    PSs (cxOf CX0 P w K mg base N_least_about "least_about" (defScope (topS 32)) f cdv A outer s H E).nox (defBody (topS 32)) (t_least_about K) :=
  pss_cons (ps_par (i := 3) (j := 4) rfl sc_least_about.nd rfl rfl (by decide) rfl rfl (pa_cons (pe_fct f_minus (hr.mono (by decide)) (by rfl) (pa_cons (pe_ix ix_tup (pv 1) (pe_int) (fun _ _ => rfl)) (pa_cons (pe_ix ix_tup (pv 2) (pe_int) (fun _ _ => rfl)) (pa_nil)))) (pa_cons (pe_callB (call_min2 rfl) (by rfl) T.m_min rfl (pa_cons (pe_ix ix_tup (pv 1) (pe_int) (fun _ _ => rfl)) (pa_cons (pe_ix ix_tup (pv 2) (pe_int) (fun _ _ => rfl)) (pa_nil)))) (pa_nil))) (by rfl)) (pss_one (ps_ret (pe_fct f_ball (hr.mono (by decide)) (by rfl) (pa_cons (pv 0) (pa_cons (pe_ifExp (pt_cmpR (op_eqD hr.units) (pv 3) (pe_glob (by rfl) T.mZero rfl (by decide +kernel)) (nomark _)) (pv 4) (pe_callB (call_min2 rfl) (by rfl) T.m_min rfl (pa_cons (pv 4) (pa_cons (pe_fct f_parts (hr.mono (by decide)) (by rfl) (pa_cons (pv 0) (pa_cons (pv 3) (pa_nil)))) (pa_nil))))) (pa_cons (pe_ix ix_tup (pv 1) (pe_int) (fun _ _ => rfl)) (pa_nil)))))))
abbrev N_in_form : List Str := ["row", "divisor", "first", "one"]
theorem sc_in_form : FnScope N_in_form ["row"] (defScope (topS 37)) := ⟨rfl, rfl, rfl, by decide +kernel, rfl, by decide +kernel, by decide +kernel⟩
theorem w_in_form (T : Tx P w K mg base) {cdv : Value} {A : Around} {outer : List Env} {s : Shared} {H : Hp} {E : XK} {f : Addr} (hr : Room 35 (A.deeper (envOfC "in_form" (defScope (topS 37)) s.heap.objs.size f cdv))) :
    PSs (cxOf CX0 P w K mg base N_in_form "in_form" (defScope (topS 37)) f cdv A outer s H E).nox (defBody (topS 37)) (t_in_form K) :=
  have dv := T.dv (CX := CX0) (N := N_in_form) (outer := outer) (H := H) (E := E) hr (by decide) rfl rfl
  pss_cons (ps_set (i := 1) sc_in_form.nd rfl (by first | exact .inl rfl | exact .inr rfl) (pe_callBfun cr_gcd4 (by rfl) T.mGcd (pa_cons (pe_ix ix_tup (pv 0) (pe_int) (fun _ _ => rfl)) (pa_cons (pe_ix ix_tup (pv 0) (pe_int) (fun _ _ => rfl)) (pa_cons (pe_ix ix_tup (pv 0) (pe_int) (fun _ _ => rfl)) (pa_cons (pe_ix ix_tup (pv 0) (pe_int) (fun _ _ => rfl)) (pa_nil))))))) (pss_cons (ps_set (i := 2) sc_in_form.nd rfl (by first | exact .inl rfl | exact .inr rfl) (pe_ix ix_list (pe_lc rfl sc_in_form.nd (pi_tup (pv 0)) (blkOk_by (own := [("one", 3)]) (by show blkC N_in_form (defScope (topS 37)) _ _ = true; decide +kernel)) (fun _ _ _ _ _ => pg_name (i := 3) sc_in_form.nd rfl (by first | exact .inl rfl | exact .inr rfl)) (fun _ _ _ _ _ => pts_one (pt_cmpR op_ne (pv 3) (pe_int) (nomark _))) (fun _ _ _ _ _ => pv 3)) (pe_int) (fun _ _ => rfl))) (pss_cons (ps_set (i := 1) sc_in_form.nd rfl (by first | exact .inl rfl | exact .inr rfl) (pe_ifExp (pt_cmpR op_gt (pv 2) (pe_int) (nomark _)) (pv 1) (pe_un un_neg (pv 1)))) (pss_one (ps_ret (pe_callTy call_tuple_of (by rfl) T.m_tuple rfl (pa_cons (pe_lc rfl sc_in_form.nd (pi_tup (pv 0)) (blkOk_by (own := [("one", 3)]) (by show blkC N_in_form (defScope (topS 37)) _ _ = true; decide +kernel)) (fun _ _ _ _ _ => pg_name (i := 3) sc_in_form.nd rfl (by first | exact .inl rfl | exact .inr rfl)) (fun _ _ _ _ _ => pts_nil) (fun _ _ _ _ _ => pe_op (op_fdivX dv.blk) (pv 3) (pv 1))) (pa_nil)))))))
abbrev N_size : List Str := ["m", "a", "b", "c", "d"]
theorem sc_size : FnScope N_size ["m"] (defScope (topS 38)) := ⟨rfl, rfl, rfl, by decide +kernel, rfl, by decide +kernel, by decide +kernel⟩
theorem w_size (T : Tx P w K mg base) {cdv : Value} {A : Around} {outer : List Env} {s : Shared} {H : Hp} {E : XK} {f : Addr} (hr : Room 1 (A.deeper (envOfC "size" (defScope (topS 38)) s.heap.objs.size f cdv))) :
    PSs (cxOf CX0 P w K mg base N_size "size" (defScope (topS 38)) f cdv A outer s H E).nox (defBody (topS 38)) (t_size K) :=
  pss_cons (ps_asg (pv 0) (pg_tup rfl (pgs_cons (pg_name (i := 1) sc_size.nd rfl (by first | exact .inl rfl | exact .inr rfl)) (pgs_cons (pg_name (i := 2) sc_size.nd rfl (by first | exact .inl rfl | exact .inr rfl)) (pgs_cons (pg_name (i := 3) sc_size.nd rfl (by first | exact .inl rfl | exact .inr rfl)) (pgs_cons (pg_name (i := 4) sc_size.nd rfl (by first | exact .inl rfl | exact .inr rfl)) (pgs_nil))))))) (pss_one (ps_ret (pe_op op_sub (pe_op op_mulX (pv 1) (pv 4)) (pe_op op_mulX (pv 2) (pv 3)))))
abbrev N_sum_of : List Str := ["m"]
theorem sc_sum_of : FnScope N_sum_of ["m"] (defScope (topS 39)) := ⟨rfl, rfl, rfl, by decide +kernel, rfl, by decide +kernel, by decide +kernel⟩
theorem w_sum_of (T : Tx P w K mg base) {cdv : Value} {A : Around} {outer : List Env} {s : Shared} {H : Hp} {E : XK} {f : Addr} (hr : Room 1 (A.deeper (envOfC "sum_of" (defScope (topS 39)) s.heap.objs.size f cdv))) :
    PSs (cxOf CX0 P w K mg base N_sum_of "sum_of" (defScope (topS 39)) f cdv A outer s H E).nox (defBody (topS 39)) (t_sum_of K) :=
  pss_one (ps_ret (pe_op op_add (pe_ix ix_tup (pv 0) (pe_int) (fun _ _ => rfl)) (pe_ix ix_tup (pv 0) (pe_int) (fun _ _ => rfl))))
abbrev N_after : List Str := ["one", "other", "a", "b", "c", "d", "e", "f", "g", "h"]
theorem sc_after : FnScope N_after ["one", "other"] (defScope (topS 40)) := ⟨rfl, rfl, rfl, by decide +kernel, rfl, by decide +kernel, by decide +kernel⟩
theorem w_after (T : Tx P w K mg base) (f_in_form : Fct P w K mg base 36 "in_form" (Pur K 1 c_in_form)) {cdv : Value} {A : Around} {outer : List Env} {s : Shared} {H : Hp} {E : XK} {f : Addr} (hr : Room 36 (A.deeper (envOfC "after" (defScope (topS 40)) s.heap.objs.size f cdv))) :
    PSs (cxOf CX0 P w K mg base N_after "after" (defScope (topS 40)) f cdv A outer s H E).nox (defBody (topS 40)) (t_after K) :=
  pss_cons (ps_asg (pv 0) (pg_tup rfl (pgs_cons (pg_name (i := 2) sc_after.nd rfl (by first | exact .inl rfl | exact .inr rfl)) (pgs_cons (pg_name (i := 3) sc_after.nd rfl (by first | exact .inl rfl | exact .inr rfl)) (pgs_cons (pg_name (i := 4) sc_after.nd rfl (by first | exact .inl rfl | exact .inr rfl)) (pgs_cons (pg_name (i := 5) sc_after.nd rfl (by first | exact .inl rfl | exact .inr rfl)) (pgs_nil))))))) (pss_cons (ps_asg (pv 1) (pg_tup rfl (pgs_cons (pg_name (i := 6) sc_after.nd rfl (by first | exact .inl rfl | exact .inr rfl)) (pgs_cons (pg_name (i := 7) sc_after.nd rfl (by first | exact .inl rfl | exact .inr rfl)) (pgs_cons (pg_name (i := 8) sc_after.nd rfl (by first | exact .inl rfl | exact .inr rfl)) (pgs_cons (pg_name (i := 9) sc_after.nd rfl (by first | exact .inl rfl | exact .inr rfl)) (pgs_nil))))))) (pss_one (ps_ret (pe_fct f_in_form (hr.mono (by decide)) (by rfl) (pa_cons (pe_tup (pa_cons (pe_op op_add (pe_op op_mulX (pv 2) (pv 6)) (pe_op op_mulX (pv 3) (pv 8))) (pa_cons (pe_op op_add (pe_op op_mulX (pv 2) (pv 7)) (pe_op op_mulX (pv 3) (pv 9))) (pa_cons (pe_op op_add (pe_op op_mulX (pv 4) (pv 6)) (pe_op op_mulX (pv 5) (pv 8))) (pa_cons (pe_op op_add (pe_op op_mulX (pv 4) (pv 7)) (pe_op op_mulX (pv 5) (pv 9))) (pa_nil)))))) (pa_nil))))))
abbrev N_back : List Str := ["m", "a", "b", "c", "d"]
theorem sc_back : FnScope N_back ["m"] (defScope (topS 41)) := ⟨rfl, rfl, rfl, by decide +kernel, rfl, by decide +kernel, by decide +kernel⟩
theorem w_back (T : Tx P w K mg base) (f_in_form : Fct P w K mg base 36 "in_form" (Pur K 1 c_in_form)) {cdv : Value} {A : Around} {outer : List Env} {s : Shared} {H : Hp} {E : XK} {f : Addr} (hr : Room 36 (A.deeper (envOfC "back" (defScope (topS 41)) s.heap.objs.size f cdv))) :
    PSs (cxOf CX0 P w K mg base N_back "back" (defScope (topS 41)) f cdv A outer s H E).nox (defBody (topS 41)) (t_back K) :=
  pss_cons (ps_asg (pv 0) (pg_tup rfl (pgs_cons (pg_name (i := 1) sc_back.nd rfl (by first | exact .inl rfl | exact .inr rfl)) (pgs_cons (pg_name (i := 2) sc_back.nd rfl (by first | exact .inl rfl | exact .inr rfl)) (pgs_cons (pg_name (i := 3) sc_back.nd rfl (by first | exact .inl rfl | exact .inr rfl)) (pgs_cons (pg_name (i := 4) sc_back.nd rfl (by first | exact .inl rfl | exact .inr rfl)) (pgs_nil))))))) (pss_one (ps_ret (pe_fct f_in_form (hr.mono (by decide)) (by rfl) (pa_cons (pe_tup (pa_cons (pv 4) (pa_cons (pe_un un_neg (pv 2)) (pa_cons (pe_un un_neg (pv 3)) (pa_cons (pv 1) (pa_nil)))))) (pa_nil)))))
abbrev N_has_more : List Str := ["p", "x", "y"]
theorem sc_has_more : FnScope N_has_more ["p", "x", "y"] (defScope (topS 43)) := ⟨rfl, rfl, rfl, by decide +kernel, rfl, by decide +kernel, by decide +kernel⟩
theorem w_has_more (T : Tx P w K mg base) (f_parts : Fct P w K mg base 37 "parts" (Pur K 2 c_parts)) {cdv : Value} {A : Around} {outer : List Env} {s : Shared} {H : Hp} {E : XK} {f : Addr} (hr : Room 37 (A.deeper (envOfC "has_more" (defScope (topS 43)) s.heap.objs.size f cdv))) :
    PSs (cxOf CX0 P w K mg base N_has_more "has_more" (defScope (topS 43)) f cdv A outer s H E).nox (defBody (topS 43)) (t_has_more K) :=
  pss_cons (ps_if (pt_cmpR op_eq (pe_ix ix_tup (pv 2) (pe_int) (fun _ _ => rfl)) (pe_int) (nomark _)) (pss_one (ps_ret (pe_bl))) (pss_nil)) (pss_one (ps_ret (pe_or (pe_cmpR op_eq (pe_ix ix_tup (pv 1) (pe_int) (fun _ _ => rfl)) (pe_int) (nomark _)) (pe_one (pe_cmpR op_gt (pe_fct f_parts (hr.mono (by decide)) (by rfl) (pa_cons (pv 0) (pa_cons (pv 1) (pa_nil)))) (pe_fct f_parts (hr.mono (by decide)) (by rfl) (pa_cons (pv 0) (pa_cons (pv 2) (pa_nil)))) (nomark _))))))
abbrev N_ball_of : List Str := ["p", "one", "other", "times", "left"]
theorem sc_ball_of : FnScope N_ball_of ["p", "one", "other"] (defScope (topS 44)) := ⟨rfl, rfl, rfl, by decide +kernel, rfl, by decide +kernel, by decide +kernel⟩
theorem w_ball_of (T : Tx P w K mg base) (f_ball : Fct P w K mg base 38 "ball" (Pur K 3 c_ball)) (f_divided : Fct P w K mg base 37 "divided" (Pur K 2 c_divided)) (f_has_more : Fct P w K mg base 38 "has_more" (Pur K 3 c_has_more)) (f_minus : Fct P w K mg base 37 "minus" (Pur K 2 c_minus)) (f_parts : Fct P w K mg base 37 "parts" (Pur K 2 c_parts)) (f_times_of : Fct P w K mg base 37 "times_of" (Pur K 2 c_times_of)) {cdv : Value} {A : Around} {outer : List Env} {s : Shared} {H : Hp} {E : XK} {f : Addr} (hr : Room 38 (A.deeper (envOfC "ball_of" (defScope (topS 44)) s.heap.objs.size f cdv))) :
    PSs (cxOf CX0 P w K mg base N_ball_of "ball_of" (defScope (topS 44)) f cdv A outer s H E).nox (defBody (topS 44)) (t_ball_of K) :=
  pss_cons (ps_if (pt_val (pe_fct f_has_more (hr.mono (by decide)) (by rfl) (pa_cons (pv 0) (pa_cons (pe_ix ix_tup (pv 2) (pe_int) (fun _ _ => rfl)) (pa_cons (pe_ix ix_tup (pv 1) (pe_int) (fun _ _ => rfl)) (pa_nil)))))) (pss_one (ps_par (i := 1) (j := 2) rfl sc_ball_of.nd rfl rfl (by decide) rfl rfl (pa_cons (pv 2) (pa_cons (pv 1) (pa_nil))) (by rfl))) (pss_nil)) (pss_cons (ps_set (i := 3) sc_ball_of.nd rfl (by first | exact .inl rfl | exact .inr rfl) (pe_fct f_divided (hr.mono (by decide)) (by rfl) (pa_cons (pe_ix ix_tup (pv 1) (pe_int) (fun _ _ => rfl)) (pa_cons (pe_ix ix_tup (pv 2) (pe_int) (fun _ _ => rfl)) (pa_nil))))) (pss_cons (ps_set (i := 4) sc_ball_of.nd rfl (by first | exact .inl rfl | exact .inr rfl) (pe_fct f_divided (hr.mono (by decide)) (by rfl) (pa_cons (pe_fct f_minus (hr.mono (by decide)) (by rfl) (pa_cons (pe_ix ix_tup (pv 1) (pe_int) (fun _ _ => rfl)) (pa_cons (pe_fct f_times_of (hr.mono (by decide)) (by rfl) (pa_cons (pv 3) (pa_cons (pe_ix ix_tup (pv 2) (pe_int) (fun _ _ => rfl)) (pa_nil)))) (pa_nil)))) (pa_cons (pe_ix ix_tup (pv 2) (pe_int) (fun _ _ => rfl)) (pa_nil))))) (pss_one (ps_ret (pe_fct f_ball (hr.mono (by decide)) (by rfl) (pa_cons (pv 0) (pa_cons (pe_fct f_parts (hr.mono (by decide)) (by rfl) (pa_cons (pv 0) (pa_cons (pv 4) (pa_nil)))) (pa_cons (pe_fct f_divided (hr.mono (by decide)) (by rfl) (pa_cons (pe_ix ix_tup (pv 2) (pe_int) (fun _ _ => rfl)) (pa_cons (pe_ix ix_tup (pv 2) (pe_int) (fun _ _ => rfl)) (pa_nil)))) (pa_nil)))))))))
abbrev N_led : List Str := ["p", "m", "one", "a", "b", "c", "d", "n", "q", "wide", "first", "number"]
theorem sc_led : FnScope N_led ["p", "m", "one"] (defScope (topS 45)) := ⟨rfl, rfl, rfl, by decide +kernel, rfl, by decide +kernel, by decide +kernel⟩
theorem w_led (T : Tx P w K mg base) (f_ball_of : Fct P w K mg base 39 "ball_of" (Pur K 3 c_ball_of)) (f_plus : Fct P w K mg base 37 "plus" (Pur K 2 c_plus)) (f_power_of : Fct P w K mg base 3 "power_of" (Pur K 2 c_power_of)) (f_times_of : Fct P w K mg base 37 "times_of" (Pur K 2 c_times_of)) {cdv : Value} {A : Around} {outer : List Env} {s : Shared} {H : Hp} {E : XK} {f : Addr} (hr : Room 39 (A.deeper (envOfC "led" (defScope (topS 45)) s.heap.objs.size f cdv))) :
    PSs (cxOf CX0 P w K mg base N_led "led" (defScope (topS 45)) f cdv A outer s H E).nox (defBody (topS 45)) (t_led K) :=
  pss_cons (ps_asg (pe_lc rfl sc_led.nd (pi_tup (pv 1)) (blkOk_by (own := [("number", 11)]) (by show blkC N_led (defScope (topS 45)) _ _ = true; decide +kernel)) (fun _ _ _ _ _ => pg_name (i := 11) sc_led.nd rfl (by first | exact .inl rfl | exact .inr rfl)) (fun _ _ _ _ _ => pts_nil) (fun _ _ _ _ _ => pe_tup (pa_cons (pv 11) (pa_cons (pe_int) (pa_nil))))) (pg_lst rfl (pgs_cons (pg_name (i := 3) sc_led.nd rfl (by first | exact .inl rfl | exact .inr rfl)) (pgs_cons (pg_name (i := 4) sc_led.nd rfl (by first | exact .inl rfl | exact .inr rfl)) (pgs_cons (pg_name (i := 5) sc_led.nd rfl (by first | exact .inl rfl | exact .inr rfl)) (pgs_cons (pg_name (i := 6) sc_led.nd rfl (by first | exact .inl rfl | exact .inr rfl)) (pgs_nil))))))) (pss_cons (ps_asg (pv 2) (pg_tup rfl (pgs_cons (pg_name (i := 7) sc_led.nd rfl (by first | exact .inl rfl | exact .inr rfl)) (pgs_cons (pg_name (i := 8) sc_led.nd rfl (by first | exact .inl rfl | exact .inr rfl)) (pgs_nil))))) (pss_cons (ps_set (i := 9) sc_led.nd rfl (by first | exact .inl rfl | exact .inr rfl) (pe_fct f_power_of (hr.mono (by decide)) (by rfl) (pa_cons (pv 0) (pa_cons (pv 7) (pa_nil))))) (pss_cons (ps_set (i := 10) sc_led.nd rfl (by first | exact .inl rfl | exact .inr rfl) (pe_tup (pa_cons (pe_fct f_times_of (hr.mono (by decide)) (by rfl) (pa_cons (pv 3) (pa_cons (pv 9) (pa_nil)))) (pa_cons (pe_fct f_times_of (hr.mono (by decide)) (by rfl) (pa_cons (pv 5) (pa_cons (pv 9) (pa_nil)))) (pa_nil))))) (pss_one (ps_ret (pe_fct f_ball_of (hr.mono (by decide)) (by rfl) (pa_cons (pv 0) (pa_cons (pv 10) (pa_cons (pe_tup (pa_cons (pe_fct f_plus (hr.mono (by decide)) (by rfl) (pa_cons (pe_fct f_times_of (hr.mono (by decide)) (by rfl) (pa_cons (pv 3) (pa_cons (pv 8) (pa_nil)))) (pa_cons (pv 4) (pa_nil)))) (pa_cons (pe_fct f_plus (hr.mono (by decide)) (by rfl) (pa_cons (pe_fct f_times_of (hr.mono (by decide)) (by rfl) (pa_cons (pv 5) (pa_cons (pv 8) (pa_nil)))) (pa_cons (pv 6) (pa_nil)))) (pa_nil)))) (pa_nil))))))))))
abbrev N_road : List Str := ["p", "one", "other", "top", "up", "down", "n"]
theorem sc_road : FnScope N_road ["p", "one", "other"] (defScope (topS 47)) := ⟨rfl, rfl, rfl, by decide +kernel, rfl, by decide +kernel, by decide +kernel⟩
theorem w_road (T : Tx P w K mg base) (f_ball : Fct P w K mg base 38 "ball" (Pur K 3 c_ball)) (f_least_about : Fct P w K mg base 39 "least_about" (Pur K 3 c_least_about)) {cdv : Value} {A : Around} {outer : List Env} {s : Shared} {H : Hp} {E : XK} {f : Addr} (hr : Room 39 (A.deeper (envOfC "road" (defScope (topS 47)) s.heap.objs.size f cdv))) :
    PSs (cxOf CX0 P w K mg base N_road "road" (defScope (topS 47)) f cdv A outer s H E).nox (defBody (topS 47)) (t_road K) :=
  pss_cons (ps_set (i := 3) sc_road.nd rfl (by first | exact .inl rfl | exact .inr rfl) (pe_fct f_least_about (hr.mono (by decide)) (by rfl) (pa_cons (pv 0) (pa_cons (pv 1) (pa_cons (pv 2) (pa_nil)))))) (pss_cons (ps_setLc (i := 4) rfl sc_road.nd rfl rfl (sw_true rfl rfl rfl (by decide +kernel)) (pi_range3 (by rfl) T.m_range (pa_cons (pe_ix ix_tup (pv 1) (pe_int) (fun _ _ => rfl)) (pa_cons (pe_ix ix_tup (pv 3) (pe_int) (fun _ _ => rfl)) (pa_cons (pe_un un_neg (pe_int)) (pa_nil))))) (blkOk_by (own := [("n", 6)]) (by show blkC N_road (defScope (topS 47)) _ _ = true; decide +kernel)) (fun _ _ _ _ _ => pg_name (i := 6) sc_road.nd rfl (by first | exact .inl rfl | exact .inr rfl)) (fun _ _ _ _ _ => pts_nil) (fun _ _ _ _ _ => pe_fct f_ball (hr.mono (by decide)) (by rfl) (pa_cons (pv 0) (pa_cons (pv 6) (pa_cons (pe_ix ix_tup (pv 1) (pe_int) (fun _ _ => rfl)) (pa_nil)))))) (pss_cons (ps_setLc (i := 5) rfl sc_road.nd rfl rfl (sw_true rfl rfl rfl (by decide +kernel)) (pi_range2 (by rfl) T.m_range (pa_cons (pe_op op_add (pe_ix ix_tup (pv 3) (pe_int) (fun _ _ => rfl)) (pe_int)) (pa_cons (pe_op op_add (pe_ix ix_tup (pv 2) (pe_int) (fun _ _ => rfl)) (pe_int)) (pa_nil)))) (blkOk_by (own := [("n", 6)]) (by show blkC N_road (defScope (topS 47)) _ _ = true; decide +kernel)) (fun _ _ _ _ _ => pg_name (i := 6) sc_road.nd rfl (by first | exact .inl rfl | exact .inr rfl)) (fun _ _ _ _ _ => pts_nil) (fun _ _ _ _ _ => pe_fct f_ball (hr.mono (by decide)) (by rfl) (pa_cons (pv 0) (pa_cons (pv 6) (pa_cons (pe_ix ix_tup (pv 2) (pe_int) (fun _ _ => rfl)) (pa_nil)))))) (pss_one (ps_ret (pe_tup (StX.pa_star (pv 4) (pa_cons (pv 3) (StX.pa_star (pv 5) (pa_nil)))))))))
abbrev N_steps : List Str := ["p", "one", "other"]
theorem sc_steps : FnScope N_steps ["p", "one", "other"] (defScope (topS 48)) := ⟨rfl, rfl, rfl, by decide +kernel, rfl, by decide +kernel, by decide +kernel⟩
theorem w_steps (T : Tx P w K mg base) (f_least_about : Fct P w K mg base 39 "least_about" (Pur K 3 c_least_about)) {cdv : Value} {A : Around} {outer : List Env} {s : Shared} {H : Hp} {E : XK} {f : Addr} (hr : Room 39 (A.deeper (envOfC "steps" (defScope (topS 48)) s.heap.objs.size f cdv))) :
    PSs (cxOf CX0 P w K mg base N_steps "steps" (defScope (topS 48)) f cdv A outer s H E).nox (defBody (topS 48)) (t_steps K) :=
  pss_one (ps_ret (pe_op op_sub (pe_op op_add (pe_ix ix_tup (pv 1) (pe_int) (fun _ _ => rfl)) (pe_ix ix_tup (pv 2) (pe_int) (fun _ _ => rfl))) (pe_op op_mulX (pe_int) (pe_ix ix_tup (pe_fct f_least_about (hr.mono (by decide)) (by rfl) (pa_cons (pv 0) (pa_cons (pv 1) (pa_cons (pv 2) (pa_nil))))) (pe_int) (fun _ _ => rfl)))))
abbrev N_on_road : List Str := ["p", "one", "other", "k", "top", "up"]
theorem sc_on_road : FnScope N_on_road ["p", "one", "other", "k"] (defScope (topS 49)) := ⟨rfl, rfl, rfl, by decide +kernel, rfl, by decide +kernel, by decide +kernel⟩
theorem w_on_road (T : Tx P w K mg base) (f_ball : Fct P w K mg base 38 "ball" (Pur K 3 c_ball)) (f_least_about : Fct P w K mg base 39 "least_about" (Pur K 3 c_least_about)) {cdv : Value} {A : Around} {outer : List Env} {s : Shared} {H : Hp} {E : XK} {f : Addr} (hr : Room 39 (A.deeper (envOfC "on_road" (defScope (topS 49)) s.heap.objs.size f cdv))) :
    PSs (cxOf CX0 P w K mg base N_on_road "on_road" (defScope (topS 49)) f cdv A outer s H E).nox (defBody (topS 49)) (t_on_road K) :=
  pss_cons (ps_set (i := 4) sc_on_road.nd rfl (by first | exact .inl rfl | exact .inr rfl) (pe_ix ix_tup (pe_fct f_least_about (hr.mono (by decide)) (by rfl) (pa_cons (pv 0) (pa_cons (pv 1) (pa_cons (pv 2) (pa_nil))))) (pe_int) (fun _ _ => rfl))) (pss_cons (ps_set (i := 5) sc_on_road.nd rfl (by first | exact .inl rfl | exact .inr rfl) (pe_op op_sub (pe_ix ix_tup (pv 1) (pe_int) (fun _ _ => rfl)) (pv 4))) (pss_one (ps_ret (pe_ifExp (pt_cmpR op_le (pv 3) (pv 5) (nomark _)) (pe_fct f_ball (hr.mono (by decide)) (by rfl) (pa_cons (pv 0) (pa_cons (pe_op op_sub (pe_ix ix_tup (pv 1) (pe_int) (fun _ _ => rfl)) (pv 3)) (pa_cons (pe_ix ix_tup (pv 1) (pe_int) (fun _ _ => rfl)) (pa_nil))))) (pe_fct f_ball (hr.mono (by decide)) (by rfl) (pa_cons (pv 0) (pa_cons (pe_op op_sub (pe_op op_add (pv 4) (pv 3)) (pv 5)) (pa_cons (pe_ix ix_tup (pv 2) (pe_int) (fun _ _ => rfl)) (pa_nil)))))))))
abbrev N_is_side : List Str := ["p", "value", "one"]
theorem sc_is_side : FnScope N_is_side ["p", "value"] (defScope (topS 50)) := ⟨rfl, rfl, rfl, by decide +kernel, rfl, by decide +kernel, by decide +kernel⟩
theorem w_is_side (T : Tx P w K mg base) (f_is_ball : Fct P w K mg base 37 "is_ball" (Pur K 2 c_is_ball)) (f_neighbours : Fct P w K mg base 40 "neighbours" (Pur K 2 c_neighbours)) {cdv : Value} {A : Around} {outer : List Env} {s : Shared} {H : Hp} {E : XK} {f : Addr} (hr : Room 40 (A.deeper (envOfC "is_side" (defScope (topS 50)) s.heap.objs.size f cdv))) :
    PSs (cxOf CX0 P w K mg base N_is_side "is_side" (defScope (topS 50)) f cdv A outer s H E).nox (defBody (topS 50)) (t_is_side K) :=
  have hu5 := Room.u65 hr
  pss_cons (ps_if (PW.pt (pw_or (pt_not (pt_val (pe_callB call_isi (by rfl) T.m_isinstance rfl (pa_cons (pv 1) (pa_cons (pe_bltn (by rfl) T.m_tuple rfl rfl (by decide +kernel) (by decide +kernel)) pa_nil))))) (pw_or (pt_cmpR op_ne (pe_callB call_len_seq (by rfl) T.m_len rfl (pa_cons (pv 1) (pa_nil))) (pe_int) (nomark _)) (pw_or1 (pt_not (pt_val (pe_callB (cr_all rfl) (by rfl) T.m_all rfl (pa_cons (pe_lc rfl sc_is_side.nd (pi_tup (pv 1)) (blkOk_by (own := [("one", 2)]) (by show blkC N_is_side (defScope (topS 50)) _ _ = true; decide +kernel)) (fun _ _ _ _ _ => pg_name (i := 2) sc_is_side.nd rfl (by first | exact .inl rfl | exact .inr rfl)) (fun _ _ _ _ _ => pts_nil) (fun _ _ _ _ _ => pe_fct f_is_ball (hr.mono (by decide)) (by rfl) (pa_cons (pv 0) (pa_cons (pv 2) (pa_nil))))) (pa_nil))))))))) (pss_one (ps_ret (pe_bl))) (pss_nil)) (pss_one (ps_ret (pe_cmpR (op_inD hu5) (pe_ix ix_tup (pv 1) (pe_int) (fun _ _ => rfl)) (pe_fct f_neighbours (hr.mono (by decide)) (by rfl) (pa_cons (pv 0) (pa_cons (pe_ix ix_tup (pv 1) (pe_int) (fun _ _ => rfl)) (pa_nil)))) (by with_unfolding_all rfl))))
abbrev N_on_side : List Str := ["p", "side", "one"]
theorem sc_on_side : FnScope N_on_side ["p", "side", "one"] (defScope (topS 51)) := ⟨rfl, rfl, rfl, by decide +kernel, rfl, by decide +kernel, by decide +kernel⟩
theorem w_on_side (T : Tx P w K mg base) (f_steps : Fct P w K mg base 40 "steps" (Pur K 3 c_steps)) {cdv : Value} {A : Around} {outer : List Env} {s : Shared} {H : Hp} {E : XK} {f : Addr} (hr : Room 40 (A.deeper (envOfC "on_side" (defScope (topS 51)) s.heap.objs.size f cdv))) :
    PSs (cxOf CX0 P w K mg base N_on_side "on_side" (defScope (topS 51)) f cdv A outer s H E).nox (defBody (topS 51)) (t_on_side K) :=
  pss_one (ps_ret (pe_cmpR op_lt (pe_fct f_steps (hr.mono (by decide)) (by rfl) (pa_cons (pv 0) (pa_cons (pe_ix ix_tup (pv 1) (pe_int) (fun _ _ => rfl)) (pa_cons (pv 2) (pa_nil))))) (pe_fct f_steps (hr.mono (by decide)) (by rfl) (pa_cons (pv 0) (pa_cons (pe_ix ix_tup (pv 1) (pe_int) (fun _ _ => rfl)) (pa_cons (pv 2) (pa_nil))))) (nomark _)))
abbrev N_are_apart : List Str := ["p", "one", "other"]
theorem sc_are_apart : FnScope N_are_apart ["p", "one", "other"] (defScope (topS 52)) := ⟨rfl, rfl, rfl, by decide +kernel, rfl, by decide +kernel, by decide +kernel⟩
theorem w_are_apart (T : Tx P w K mg base) (f_on_side : Fct P w K mg base 41 "on_side" (Pur K 3 c_on_side)) {cdv : Value} {A : Around} {outer : List Env} {s : Shared} {H : Hp} {E : XK} {f : Addr} (hr : Room 41 (A.deeper (envOfC "are_apart" (defScope (topS 52)) s.heap.objs.size f cdv))) :
    PSs (cxOf CX0 P w K mg base N_are_apart "are_apart" (defScope (topS 52)) f cdv A outer s H E).nox (defBody (topS 52)) (t_are_apart K) :=
  pss_one (ps_ret (pe_and (pe_not (pe_fct f_on_side (hr.mono (by decide)) (by rfl) (pa_cons (pv 0) (pa_cons (pv 1) (pa_cons (pe_ix ix_tup (pv 2) (pe_int) (fun _ _ => rfl)) (pa_nil)))))) (pe_one (pe_not (pe_fct f_on_side (hr.mono (by decide)) (by rfl) (pa_cons (pv 0) (pa_cons (pv 2) (pa_cons (pe_ix ix_tup (pv 1) (pe_int) (fun _ _ => rfl)) (pa_nil)))))))))
abbrev N_lies_in : List Str := ["p", "one", "other"]
theorem sc_lies_in : FnScope N_lies_in ["p", "one", "other"] (defScope (topS 53)) := ⟨rfl, rfl, rfl, by decide +kernel, rfl, by decide +kernel, by decide +kernel⟩
theorem w_lies_in (T : Tx P w K mg base) (f_are_apart : Fct P w K mg base 42 "are_apart" (Pur K 3 c_are_apart)) {cdv : Value} {A : Around} {outer : List Env} {s : Shared} {H : Hp} {E : XK} {f : Addr} (hr : Room 42 (A.deeper (envOfC "lies_in" (defScope (topS 53)) s.heap.objs.size f cdv))) :
    PSs (cxOf CX0 P w K mg base N_lies_in "lies_in" (defScope (topS 53)) f cdv A outer s H E).nox (defBody (topS 53)) (t_lies_in K) :=
  pss_one (ps_ret (pe_fct f_are_apart (hr.mono (by decide)) (by rfl) (pa_cons (pv 0) (pa_cons (pv 1) (pa_cons (pe_rev2 (pv 2)) (pa_nil))))))
abbrev N_stretch : List Str := ["p", "m"]
theorem sc_stretch : FnScope N_stretch ["p", "m"] (defScope (topS 55)) := ⟨rfl, rfl, rfl, by decide +kernel, rfl, by decide +kernel, by decide +kernel⟩
theorem w_stretch (T : Tx P w K mg base) (f_size : Fct P w K mg base 2 "size" (Pur K 1 c_size)) (f_split_off : Fct P w K mg base 36 "split_off" (Pur K 2 c_split_off)) (f_sum_of : Fct P w K mg base 2 "sum_of" (Pur K 1 c_sum_of)) {cdv : Value} {A : Around} {outer : List Env} {s : Shared} {H : Hp} {E : XK} {f : Addr} (hr : Room 36 (A.deeper (envOfC "stretch" (defScope (topS 55)) s.heap.objs.size f cdv))) :
    PSs (cxOf CX0 P w K mg base N_stretch "stretch" (defScope (topS 55)) f cdv A outer s H E).nox (defBody (topS 55)) (t_stretch K) :=
  pss_cons (ps_if (pt_cmpR op_eq (pe_fct f_sum_of (hr.mono (by decide)) (by rfl) (pa_cons (pv 1) (pa_nil))) (pe_int) (nomark _)) (pss_one (ps_ret (pe_int))) (pss_nil)) (pss_one (ps_ret (pe_callB (call_max2 rfl) (by rfl) T.m_max rfl (pa_cons (pe_int) (pa_cons (pe_op op_sub (pe_ix ix_tup (pe_fct f_split_off (hr.mono (by decide)) (by rfl) (pa_cons (pv 0) (pa_cons (pe_fct f_size (hr.mono (by decide)) (by rfl) (pa_cons (pv 1) (pa_nil))) (pa_nil)))) (pe_int) (fun _ _ => rfl)) (pe_op op_mulX (pe_int) (pe_ix ix_tup (pe_fct f_split_off (hr.mono (by decide)) (by rfl) (pa_cons (pv 0) (pa_cons (pe_fct f_sum_of (hr.mono (by decide)) (by rfl) (pa_cons (pv 1) (pa_nil))) (pa_nil)))) (pe_int) (fun _ _ => rfl)))) (pa_nil))))))
abbrev N_resting : List Str := ["p", "m", "ball", "there"]
theorem sc_resting : FnScope N_resting ["p", "m", "ball"] (defScope (topS 56)) := ⟨rfl, rfl, rfl, by decide +kernel, rfl, by decide +kernel, by decide +kernel⟩
theorem w_resting (T : Tx P w K mg base) (f_led : Fct P w K mg base 40 "led" (Pur K 3 c_led)) (f_on_road : Fct P w K mg base 40 "on_road" (Pur K 4 c_on_road)) (f_steps : Fct P w K mg base 40 "steps" (Pur K 3 c_steps)) (f_stretch : Fct P w K mg base 37 "stretch" (Pur K 2 c_stretch)) {cdv : Value} {A : Around} {outer : List Env} {s : Shared} {H : Hp} {E : XK} {f : Addr} (hr : Room 40 (A.deeper (envOfC "resting" (defScope (topS 56)) s.heap.objs.size f cdv))) :
    PSs (cxOf CX0 P w K mg base N_resting "resting" (defScope (topS 56)) f cdv A outer s H E).nox (defBody (topS 56)) (t_resting K) :=
  have dv := T.dv (CX := CX0) (N := N_resting) (outer := outer) (H := H) (E := E) hr (by decide) rfl rfl
  pss_cons (ps_set (i := 3) sc_resting.nd rfl (by first | exact .inl rfl | exact .inr rfl) (pe_fct f_led (hr.mono (by decide)) (by rfl) (pa_cons (pv 0) (pa_cons (pv 1) (pa_cons (pv 2) (pa_nil)))))) (pss_one (ps_ret (pe_fct f_on_road (hr.mono (by decide)) (by rfl) (pa_cons (pv 0) (pa_cons (pv 2) (pa_cons (pv 3) (pa_cons (pe_op (op_fdivX dv) (pe_op op_sub (pe_fct f_steps (hr.mono (by decide)) (by rfl) (pa_cons (pv 0) (pa_cons (pv 2) (pa_cons (pv 3) (pa_nil))))) (pe_fct f_stretch (hr.mono (by decide)) (by rfl) (pa_cons (pv 0) (pa_cons (pv 1) (pa_nil))))) (pe_int)) (pa_nil))))))))
abbrev N_on_line : List Str := ["p", "m", "ball", "length"]
theorem sc_on_line : FnScope N_on_line ["p", "m", "ball"] (defScope (topS 58)) := ⟨rfl, rfl, rfl, by decide +kernel, rfl, by decide +kernel, by decide +kernel⟩
theorem w_on_line (T : Tx P w K mg base) (f_led : Fct P w K mg base 40 "led" (Pur K 3 c_led)) (f_steps : Fct P w K mg base 40 "steps" (Pur K 3 c_steps)) (f_stretch : Fct P w K mg base 37 "stretch" (Pur K 2 c_stretch)) {cdv : Value} {A : Around} {outer : List Env} {s : Shared} {H : Hp} {E : XK} {f : Addr} (hr : Room 40 (A.deeper (envOfC "on_line" (defScope (topS 58)) s.heap.objs.size f cdv))) :
    PSs (cxOf CX0 P w K mg base N_on_line "on_line" (defScope (topS 58)) f cdv A outer s H E).nox (defBody (topS 58)) (t_on_line K) :=
  pss_cons (ps_set (i := 3) sc_on_line.nd rfl (by first | exact .inl rfl | exact .inr rfl) (pe_fct f_stretch (hr.mono (by decide)) (by rfl) (pa_cons (pv 0) (pa_cons (pv 1) (pa_nil))))) (pss_one (ps_ret (pe_and (pe_cmpR op_gt (pv 3) (pe_int) (nomark _)) (pe_one (pe_cmpR op_eq (pe_fct f_steps (hr.mono (by decide)) (by rfl) (pa_cons (pv 0) (pa_cons (pv 2) (pa_cons (pe_fct f_led (hr.mono (by decide)) (by rfl) (pa_cons (pv 0) (pa_cons (pv 1) (pa_cons (pv 2) (pa_nil))))) (pa_nil))))) (pv 3) (nomark _))))))
abbrev N_line_from : List Str := ["p", "m", "ball", "k", "found"]
theorem sc_line_from : FnScope N_line_from ["p", "m", "ball", "k"] (defScope (topS 59)) := ⟨rfl, rfl, rfl, by decide +kernel, rfl, by decide +kernel, by decide +kernel⟩
theorem w_line_from (T : Tx P w K mg base) (f_led : Fct P w K mg base 40 "led" (Pur K 3 c_led)) (f_on_line : Fct P w K mg base 41 "on_line" (Pur K 3 c_on_line)) (f_road : Fct P w K mg base 40 "road" (Pur K 3 c_road)) {cdv : Value} {A : Around} {outer : List Env} {s : Shared} {H : Hp} {E : XK} {f : Addr} (hr : Room 41 (A.deeper (envOfC "line_from" (defScope (topS 59)) s.heap.objs.size f cdv))) :
    PSs (cxOf CX0 P w K mg base N_line_from "line_from" (defScope (topS 59)) f cdv A outer s H E).nox (defBody (topS 59)) (t_line_from K) :=
  pss_cons (ps_if (pt_not (pt_val (pe_fct f_on_line (hr.mono (by decide)) (by rfl) (pa_cons (pv 0) (pa_cons (pv 1) (pa_cons (pv 2) (pa_nil))))))) (pss_one (ps_never)) (pss_nil)) (pss_cons (ps_set (i := 4) sc_line_from.nd rfl (by first | exact .inl rfl | exact .inr rfl) (pe_lst (pa_cons (pv 2) (pa_nil)))) (pss_cons (ps_while PassesOwn.never (pt_cmpR op_le (pe_callB call_len_seq (by rfl) T.m_len rfl (pa_cons (pv 4) (pa_nil))) (pv 3) (nomark _)) (pss_one (ps_set (i := 4) sc_line_from.nd rfl (by first | exact .inl rfl | exact .inr rfl) (pe_op op_cat (pv 4) (pe_callTy call_list_of (by rfl) T.m_list rfl (pa_cons (pe_slice sl_tupA (pe_fct f_road (hr.mono (by decide)) (by rfl) (pa_cons (pv 0) (pa_cons (pe_ix ix_list (pv 4) (pe_un un_neg (pe_int)) (fun _ _ => rfl)) (pa_cons (pe_fct f_led (hr.mono (by decide)) (by rfl) (pa_cons (pv 0) (pa_cons (pv 1) (pa_cons (pe_ix ix_list (pv 4) (pe_un un_neg (pe_int)) (fun _ _ => rfl)) (pa_nil))))) (pa_nil))))) (po_some (pe_int)) (po_none)) (pa_nil))))))) (pss_one (ps_ret (pe_callTy call_tuple_of (by rfl) T.m_tuple rfl (pa_cons (pe_slice sl_list (pv 4) (po_none) (po_some (pe_op op_add (pv 3) (pe_int)))) (pa_nil)))))))
abbrev N_gate : List Str := ["p", "m", "ball"]
theorem sc_gate : FnScope N_gate ["p", "m", "ball"] (defScope (topS 60)) := ⟨rfl, rfl, rfl, by decide +kernel, rfl, by decide +kernel, by decide +kernel⟩
theorem w_gate (T : Tx P w K mg base) (f_resting : Fct P w K mg base 41 "resting" (Pur K 3 c_resting)) {cdv : Value} {A : Around} {outer : List Env} {s : Shared} {H : Hp} {E : XK} {f : Addr} (hr : Room 41 (A.deeper (envOfC "gate" (defScope (topS 60)) s.heap.objs.size f cdv))) :
    PSs (cxOf CX0 P w K mg base N_gate "gate" (defScope (topS 60)) f cdv A outer s H E).nox (defBody (topS 60)) (t_gate K) :=
  pss_one (ps_ret (pe_fct f_resting (hr.mono (by decide)) (by rfl) (pa_cons (pv 0) (pa_cons (pv 1) (pa_cons (pv 2) (pa_nil))))))
abbrev N_need_stretching : List Str := ["p", "g", "h", "number", "m"]
theorem sc_need_stretching : FnScope N_need_stretching ["p", "g", "h"] (defScope (topS 63)) := ⟨rfl, rfl, rfl, by decide +kernel, rfl, by decide +kernel, by decide +kernel⟩
theorem w_need_stretching (T : Tx P w K mg base) (f_stretch : Fct P w K mg base 37 "stretch" (Pur K 2 c_stretch)) {cdv : Value} {A : Around} {outer : List Env} {s : Shared} {H : Hp} {E : XK} {f : Addr} (hr : Room 37 (A.deeper (envOfC "need_stretching" (defScope (topS 63)) s.heap.objs.size f cdv))) :
    PSs (cxOf CX0 P w K mg base N_need_stretching "need_stretching" (defScope (topS 63)) f cdv A outer s H E).nox (defBody (topS 63)) (t_need_stretching K) :=
  pss_one (ps_for PassesOwn.never rfl (pi_enumT (by rfl) T.m_enumerate (pa_cons (pe_tup (pa_cons (pv 1) (pa_cons (pv 2) (pa_nil)))) (pa_nil))) (pg_tup rfl (pgs_cons (pg_name (i := 3) sc_need_stretching.nd rfl (by first | exact .inl rfl | exact .inr rfl)) (pgs_cons (pg_name (i := 4) sc_need_stretching.nd rfl (by first | exact .inl rfl | exact .inr rfl)) (pgs_nil)))) (pss_one (ps_if (pt_cmpR op_eq (pe_fct f_stretch (hr.mono (by decide)) (by rfl) (pa_cons (pv 0) (pa_cons (pv 4) (pa_nil)))) (pe_int) (nomark _)) (pss_one (ps_never)) (pss_nil))))
abbrev N_between : List Str := ["g", "h", "a", "b", "c", "d", "e", "f", "i", "j"]
theorem sc_between : FnScope N_between ["g", "h"] (defScope (topS 64)) := ⟨rfl, rfl, rfl, by decide +kernel, rfl, by decide +kernel, by decide +kernel⟩
theorem w_between (T : Tx P w K mg base) {cdv : Value} {A : Around} {outer : List Env} {s : Shared} {H : Hp} {E : XK} {f : Addr} (hr : Room 1 (A.deeper (envOfC "between" (defScope (topS 64)) s.heap.objs.size f cdv))) :
    PSs (cxOf CX0 P w K mg base N_between "between" (defScope (topS 64)) f cdv A outer s H E).nox (defBody (topS 64)) (t_between K) :=
  pss_cons (ps_asg (pv 0) (pg_tup rfl (pgs_cons (pg_name (i := 2) sc_between.nd rfl (by first | exact .inl rfl | exact .inr rfl)) (pgs_cons (pg_name (i := 3) sc_between.nd rfl (by first | exact .inl rfl | exact .inr rfl)) (pgs_cons (pg_name (i := 4) sc_between.nd rfl (by first | exact .inl rfl | exact .inr rfl)) (pgs_cons (pg_name (i := 5) sc_between.nd rfl (by first | exact .inl rfl | exact .inr rfl)) (pgs_nil))))))) (pss_cons (ps_asg (pv 1) (pg_tup rfl (pgs_cons (pg_name (i := 6) sc_between.nd rfl (by first | exact .inl rfl | exact .inr rfl)) (pgs_cons (pg_name (i := 7) sc_between.nd rfl (by first | exact .inl rfl | exact .inr rfl)) (pgs_cons (pg_name (i := 8) sc_between.nd rfl (by first | exact .inl rfl | exact .inr rfl)) (pgs_cons (pg_name (i := 9) sc_between.nd rfl (by first | exact .inl rfl | exact .inr rfl)) (pgs_nil))))))) (pss_one (ps_ret (pe_tup (pa_cons (pe_op op_sub (pe_op op_mulX (pv 3) (pv 8)) (pe_op op_mulX (pv 7) (pv 4))) (pa_cons (pe_op op_sub (pe_op op_sub (pe_op op_add (pe_op op_mulX (pv 2) (pv 7)) (pe_op op_mulX (pv 3) (pv 9))) (pe_op op_mulX (pv 6) (pv 3))) (pe_op op_mulX (pv 7) (pv 5))) (pa_cons (pe_op op_sub (pe_op op_sub (pe_op op_add (pe_op op_mulX (pv 4) (pv 6)) (pe_op op_mulX (pv 5) (pv 8))) (pe_op op_mulX (pv 8) (pv 2))) (pe_op op_mulX (pv 9) (pv 4))) (pa_cons (pe_op op_sub (pe_op op_mulX (pv 4) (pv 7)) (pe_op op_mulX (pv 8) (pv 3))) (pa_nil)))))))))
abbrev N_next_ball : List Str := ["p", "m", "ball"]
theorem sc_next_ball : FnScope N_next_ball ["p", "m", "ball"] (defScope (topS 66)) := ⟨rfl, rfl, rfl, by decide +kernel, rfl, by decide +kernel, by decide +kernel⟩
theorem w_next_ball (T : Tx P w K mg base) (f_line_from : Fct P w K mg base 42 "line_from" (Pur K 4 c_line_from)) {cdv : Value} {A : Around} {outer : List Env} {s : Shared} {H : Hp} {E : XK} {f : Addr} (hr : Room 42 (A.deeper (envOfC "next_ball" (defScope (topS 66)) s.heap.objs.size f cdv))) :
    PSs (cxOf CX0 P w K mg base N_next_ball "next_ball" (defScope (topS 66)) f cdv A outer s H E).nox (defBody (topS 66)) (t_next_ball K) :=
  pss_one (ps_ret (pe_ix ix_tup (pe_fct f_line_from (hr.mono (by decide)) (by rfl) (pa_cons (pv 0) (pa_cons (pv 1) (pa_cons (pv 2) (pa_cons (pe_int) (pa_nil)))))) (pe_int) (fun _ _ => rfl)))
abbrev N_last_shared : List Str := ["p", "m", "other", "ball", "later"]
theorem sc_last_shared : FnScope N_last_shared ["p", "m", "other", "ball"] (defScope (topS 67)) := ⟨rfl, rfl, rfl, by decide +kernel, rfl, by decide +kernel, by decide +kernel⟩
theorem w_last_shared (T : Tx P w K mg base) (f_next_ball : Fct P w K mg base 43 "next_ball" (Pur K 3 c_next_ball)) (f_on_line : Fct P w K mg base 41 "on_line" (Pur K 3 c_on_line)) {cdv : Value} {A : Around} {outer : List Env} {s : Shared} {H : Hp} {E : XK} {f : Addr} (hr : Room 43 (A.deeper (envOfC "last_shared" (defScope (topS 67)) s.heap.objs.size f cdv))) :
    PSs (cxOf CX0 P w K mg base N_last_shared "last_shared" (defScope (topS 67)) f cdv A outer s H E).nox (defBody (topS 67)) (t_last_shared K) :=
  pss_cons (ps_set (i := 4) sc_last_shared.nd rfl (by first | exact .inl rfl | exact .inr rfl) (pe_fct f_next_ball (hr.mono (by decide)) (by rfl) (pa_cons (pv 0) (pa_cons (pv 1) (pa_cons (pv 3) (pa_nil)))))) (pss_cons (ps_while PassesOwn.never (pt_val (pe_fct f_on_line (hr.mono (by decide)) (by rfl) (pa_cons (pv 0) (pa_cons (pv 2) (pa_cons (pv 4) (pa_nil)))))) (pss_cons (ps_set (i := 3) sc_last_shared.nd rfl (by first | exact .inl rfl | exact .inr rfl) (pv 4)) (pss_one (ps_set (i := 4) sc_last_shared.nd rfl (by first | exact .inl rfl | exact .inr rfl) (pe_fct f_next_ball (hr.mono (by decide)) (by rfl) (pa_cons (pv 0) (pa_cons (pv 1) (pa_cons (pv 3) (pa_nil))))))))) (pss_one (ps_ret (pv 3))))
abbrev N_way_at : List Str := ["p", "g", "h", "ball"]
theorem sc_way_at : FnScope N_way_at ["p", "g", "h", "ball"] (defScope (topS 68)) := ⟨rfl, rfl, rfl, by decide +kernel, rfl, by decide +kernel, by decide +kernel⟩
theorem w_way_at (T : Tx P w K mg base) (f_next_ball : Fct P w K mg base 43 "next_ball" (Pur K 3 c_next_ball)) {cdv : Value} {A : Around} {outer : List Env} {s : Shared} {H : Hp} {E : XK} {f : Addr} (hr : Room 43 (A.deeper (envOfC "way_at" (defScope (topS 68)) s.heap.objs.size f cdv))) :
    PSs (cxOf CX0 P w K mg base N_way_at "way_at" (defScope (topS 68)) f cdv A outer s H E).nox (defBody (topS 68)) (t_way_at K) :=
  pss_one (ps_ret (pe_ifExp (pt_cmpR (op_eqD hr.units) (pe_fct f_next_ball (hr.mono (by decide)) (by rfl) (pa_cons (pv 0) (pa_cons (pv 1) (pa_cons (pv 3) (pa_nil))))) (pe_fct f_next_ball (hr.mono (by decide)) (by rfl) (pa_cons (pv 0) (pa_cons (pv 2) (pa_cons (pv 3) (pa_nil))))) (nomark _)) (pe_int) (pe_un un_neg (pe_int))))
abbrev N_lines : List Str := ["p", "g", "h", "table", "other", "ball", "first", "last", "way"]
theorem sc_lines : FnScope N_lines ["p", "g", "h"] (defScope (topS 69)) := ⟨rfl, rfl, rfl, by decide +kernel, rfl, by decide +kernel, by decide +kernel⟩
theorem w_lines (T : Tx P w K mg base) (f_back : Fct P w K mg base 37 "back" (Pur K 1 c_back)) (f_between : Fct P w K mg base 2 "between" (Pur K 2 c_between)) (f_gate : Fct P w K mg base 42 "gate" (Pur K 3 c_gate)) (f_last_shared : Fct P w K mg base 44 "last_shared" (Pur K 4 c_last_shared)) (f_need_stretching : Fct P w K mg base 38 "need_stretching" (Pur K 3 c_need_stretching)) (f_steps : Fct P w K mg base 40 "steps" (Pur K 3 c_steps)) (f_way_at : Fct P w K mg base 44 "way_at" (Pur K 4 c_way_at)) {cdv : Value} {A : Around} {outer : List Env} {s : Shared} {H : Hp} {E : XK} {f : Addr} (hr : Room 44 (A.deeper (envOfC "lines" (defScope (topS 69)) s.heap.objs.size f cdv))) :
    PSs (cxOf CX0 P w K mg base N_lines "lines" (defScope (topS 69)) f cdv A outer s H E).nox (defBody (topS 69)) (t_lines K) :=
  pss_cons (ps_expr (pe_fct f_need_stretching (hr.mono (by decide)) (by rfl) (pa_cons (pv 0) (pa_cons (pv 1) (pa_cons (pv 2) (pa_nil)))))) (pss_cons (ps_set (i := 3) sc_lines.nd rfl (by first | exact .inl rfl | exact .inr rfl) (pe_fct f_between (hr.mono (by decide)) (by rfl) (pa_cons (pv 1) (pa_cons (pv 2) (pa_nil))))) (pss_cons (ps_if (pt_cmpR (op_eqD hr.units) (pv 3) (pe_tup (pa_cons (pe_int) (pa_cons (pe_int) (pa_cons (pe_int) (pa_cons (pe_int) (pa_nil)))))) (nomark _)) (pss_never) (pss_nil)) (pss_cons (ps_if (pt_cmpR op_eq (pe_op op_mulX (pe_ix ix_tup (pv 3) (pe_int) (fun _ _ => rfl)) (pe_ix ix_tup (pv 3) (pe_int) (fun _ _ => rfl))) (pe_op op_mulX (pe_ix ix_tup (pv 3) (pe_int) (fun _ _ => rfl)) (pe_ix ix_tup (pv 3) (pe_int) (fun _ _ => rfl))) (nomark _)) (pss_never) (pss_nil)) (pss_cons (ps_set (i := 4) sc_lines.nd rfl (by first | exact .inl rfl | exact .inr rfl) (pe_fct f_gate (hr.mono (by decide)) (by rfl) (pa_cons (pv 0) (pa_cons (pv 2) (pa_cons (pe_fct f_gate (hr.mono (by decide)) (by rfl) (pa_cons (pv 0) (pa_cons (pv 1) (pa_cons (pe_glob (by rfl) T.mFirst rfl (by decide +kernel)) (pa_nil))))) (pa_nil)))))) (pss_cons (ps_set (i := 5) sc_lines.nd rfl (by first | exact .inl rfl | exact .inr rfl) (pe_fct f_gate (hr.mono (by decide)) (by rfl) (pa_cons (pv 0) (pa_cons (pv 1) (pa_cons (pv 4) (pa_nil)))))) (pss_cons (ps_if (pt_cmpR (op_neD hr.units) (pv 5) (pv 4) (nomark _)) (pss_one (ps_ret (pe_tup (pa_cons (pe_str) (pa_cons (pe_fct f_steps (hr.mono (by decide)) (by rfl) (pa_cons (pv 0) (pa_cons (pv 5) (pa_cons (pv 4) (pa_nil))))) (pa_cons (pv 5) (pa_cons (pv 4) (pa_nil)))))))) (pss_nil)) (pss_cons (ps_par (i := 6) (j := 7) rfl sc_lines.nd rfl rfl (by decide) rfl rfl (pa_cons (pe_fct f_last_shared (hr.mono (by decide)) (by rfl) (pa_cons (pv 0) (pa_cons (pe_fct f_back (hr.mono (by decide)) (by rfl) (pa_cons (pv 1) (pa_nil))) (pa_cons (pv 2) (pa_cons (pv 5) (pa_nil)))))) (pa_cons (pe_fct f_last_shared (hr.mono (by decide)) (by rfl) (pa_cons (pv 0) (pa_cons (pv 1) (pa_cons (pv 2) (pa_cons (pv 5) (pa_nil)))))) (pa_nil))) (by rfl)) (pss_cons (ps_set (i := 8) sc_lines.nd rfl (by first | exact .inl rfl | exact .inr rfl) (pe_ifExp (pt_cmpR (op_eqD hr.units) (pv 6) (pv 7) (nomark _)) (pe_int) (pe_fct f_way_at (hr.mono (by decide)) (by rfl) (pa_cons (pv 0) (pa_cons (pv 1) (pa_cons (pv 2) (pa_cons (pv 6) (pa_nil)))))))) (pss_one (ps_ret (pe_tup (pa_cons (pe_str) (pa_cons (pe_fct f_steps (hr.mono (by decide)) (by rfl) (pa_cons (pv 0) (pa_cons (pv 6) (pa_cons (pv 7) (pa_nil))))) (pa_cons (pv 8) (pa_cons (pv 6) (pa_cons (pv 7) (pa_nil)))))))))))))))))
abbrev N_two_sides : List Str := ["p", "m", "ball", "row"]
theorem sc_two_sides : FnScope N_two_sides ["p", "m", "ball"] (defScope (topS 71)) := ⟨rfl, rfl, rfl, by decide +kernel, rfl, by decide +kernel, by decide +kernel⟩
theorem w_two_sides (T : Tx P w K mg base) (f_back : Fct P w K mg base 37 "back" (Pur K 1 c_back)) (f_line_from : Fct P w K mg base 42 "line_from" (Pur K 4 c_line_from)) (f_next_ball : Fct P w K mg base 43 "next_ball" (Pur K 3 c_next_ball)) (f_stretch : Fct P w K mg base 37 "stretch" (Pur K 2 c_stretch)) {cdv : Value} {A : Around} {outer : List Env} {s : Shared} {H : Hp} {E : XK} {f : Addr} (hr : Room 43 (A.deeper (envOfC "two_sides" (defScope (topS 71)) s.heap.objs.size f cdv))) :
    PSs (cxOf CX0 P w K mg base N_two_sides "two_sides" (defScope (topS 71)) f cdv A outer s H E).nox (defBody (topS 71)) (t_two_sides K) :=
  pss_cons (ps_set (i := 3) sc_two_sides.nd rfl (by first | exact .inl rfl | exact .inr rfl) (pe_fct f_line_from (hr.mono (by decide)) (by rfl) (pa_cons (pv 0) (pa_cons (pv 1) (pa_cons (pv 2) (pa_cons (pe_fct f_stretch (hr.mono (by decide)) (by rfl) (pa_cons (pv 0) (pa_cons (pv 1) (pa_nil)))) (pa_nil))))))) (pss_one (ps_ret (pe_lst (pa_cons (pe_tup (pa_cons (pv 2) (pa_cons (pe_fct f_next_ball (hr.mono (by decide)) (by rfl) (pa_cons (pv 0) (pa_cons (pe_fct f_back (hr.mono (by decide)) (by rfl) (pa_cons (pv 1) (pa_nil))) (pa_cons (pv 2) (pa_nil))))) (pa_nil)))) (pa_cons (pe_tup (pa_cons (pe_ix ix_tup (pv 3) (pe_un un_neg (pe_int)) (fun _ _ => rfl)) (pa_cons (pe_ix ix_tup (pv 3) (pe_un un_neg (pe_int)) (fun _ _ => rfl)) (pa_nil)))) (pa_nil))))))
abbrev N_four_sides : List Str := ["p", "g", "h", "told"]
theorem sc_four_sides : FnScope N_four_sides ["p", "g", "h"] (defScope (topS 72)) := ⟨rfl, rfl, rfl, by decide +kernel, rfl, by decide +kernel, by decide +kernel⟩
theorem w_four_sides (T : Tx P w K mg base) (f_lines : Fct P w K mg base 45 "lines" (Pur K 3 c_lines)) (f_stretch : Fct P w K mg base 37 "stretch" (Pur K 2 c_stretch)) (f_two_sides : Fct P w K mg base 44 "two_sides" (Pur K 3 c_two_sides)) {cdv : Value} {A : Around} {outer : List Env} {s : Shared} {H : Hp} {E : XK} {f : Addr} (hr : Room 45 (A.deeper (envOfC "four_sides" (defScope (topS 72)) s.heap.objs.size f cdv))) :
    PSs (cxOf CX0 P w K mg base N_four_sides "four_sides" (defScope (topS 72)) f cdv A outer s H E).nox (defBody (topS 72)) (t_four_sides K) :=
  pss_cons (ps_set (i := 3) sc_four_sides.nd rfl (by first | exact .inl rfl | exact .inr rfl) (pe_fct f_lines (hr.mono (by decide)) (by rfl) (pa_cons (pv 0) (pa_cons (pv 1) (pa_cons (pv 2) (pa_nil)))))) (pss_cons (ps_if (pt_cmpR op_eq (pe_ix ix_tup (pv 3) (pe_int) (fun _ _ => rfl)) (pe_str) (nomark _)) (pss_one (ps_ret (pe_callTy call_tuple_of (by rfl) T.m_tuple rfl (pa_cons (pe_op op_cat (pe_fct f_two_sides (hr.mono (by decide)) (by rfl) (pa_cons (pv 0) (pa_cons (pv 1) (pa_cons (pe_ix ix_tup (pv 3) (pe_int) (fun _ _ => rfl)) (pa_nil))))) (pe_fct f_two_sides (hr.mono (by decide)) (by rfl) (pa_cons (pv 0) (pa_cons (pv 2) (pa_cons (pe_ix ix_tup (pv 3) (pe_int) (fun _ _ => rfl)) (pa_nil)))))) (pa_nil))))) (pss_nil)) (pss_cons (ps_if (PW.pt (pw_or (pt_cmpR op_ne (pe_ix ix_tup (pv 3) (pe_int) (fun _ _ => rfl)) (pe_str) (nomark _)) (pw_or1 (pt_cmpR op_ge (pe_ix ix_tup (pv 3) (pe_int) (fun _ _ => rfl)) (pe_callB (call_min2 rfl) (by rfl) T.m_min rfl (pa_cons (pe_fct f_stretch (hr.mono (by decide)) (by rfl) (pa_cons (pv 0) (pa_cons (pv 1) (pa_nil)))) (pa_cons (pe_fct f_stretch (hr.mono (by decide)) (by rfl) (pa_cons (pv 0) (pa_cons (pv 2) (pa_nil)))) (pa_nil)))) (nomark _))))) (pss_one (ps_ret (pe_non))) (pss_nil)) (pss_one (ps_ret (pe_callTy call_tuple_of (by rfl) T.m_tuple rfl (pa_cons (pe_op op_cat (pe_fct f_two_sides (hr.mono (by decide)) (by rfl) (pa_cons (pv 0) (pa_cons (pv 1) (pa_cons (pe_ix ix_tup (pv 3) (pe_int) (fun _ _ => rfl)) (pa_nil))))) (pe_fct f_two_sides (hr.mono (by decide)) (by rfl) (pa_cons (pv 0) (pa_cons (pv 2) (pa_cons (pe_ifExp (pt_cmpR op_eq (pe_ix ix_tup (pv 3) (pe_int) (fun _ _ => rfl)) (pe_un un_neg (pe_int)) (nomark _)) (pe_ix ix_tup (pv 3) (pe_int) (fun _ _ => rfl)) (pe_ix ix_tup (pv 3) (pe_int) (fun _ _ => rfl))) (pa_nil)))))) (pa_nil)))))))
abbrev N_are_four_sides : List Str := ["p", "value", "one"]
theorem sc_are_four_sides : FnScope N_are_four_sides ["p", "value"] (defScope (topS 73)) := ⟨rfl, rfl, rfl, by decide +kernel, rfl, by decide +kernel, by decide +kernel⟩
theorem w_are_four_sides (T : Tx P w K mg base) (f_is_side : Fct P w K mg base 41 "is_side" (Pur K 2 c_is_side)) {cdv : Value} {A : Around} {outer : List Env} {s : Shared} {H : Hp} {E : XK} {f : Addr} (hr : Room 41 (A.deeper (envOfC "are_four_sides" (defScope (topS 73)) s.heap.objs.size f cdv))) :
    PSs (cxOf CX0 P w K mg base N_are_four_sides "are_four_sides" (defScope (topS 73)) f cdv A outer s H E).nox (defBody (topS 73)) (t_are_four_sides K) :=
  pss_one (ps_ret (pe_and (pe_callB call_isi (by rfl) T.m_isinstance rfl (pa_cons (pv 1) (pa_cons (pe_bltn (by rfl) T.m_tuple rfl rfl (by decide +kernel) (by decide +kernel)) pa_nil))) (pe_and (pe_cmpR op_eq (pe_callB call_len_seq (by rfl) T.m_len rfl (pa_cons (pv 1) (pa_nil))) (pe_int) (nomark _)) (pe_one (pe_callB (cr_all rfl) (by rfl) T.m_all rfl (pa_cons (pe_lc rfl sc_are_four_sides.nd (pi_tup (pv 1)) (blkOk_by (own := [("one", 2)]) (by show blkC N_are_four_sides (defScope (topS 73)) _ _ = true; decide +kernel)) (fun _ _ _ _ _ => pg_name (i := 2) sc_are_four_sides.nd rfl (by first | exact .inl rfl | exact .inr rfl)) (fun _ _ _ _ _ => pts_nil) (fun _ _ _ _ _ => pe_fct f_is_side (hr.mono (by decide)) (by rfl) (pa_cons (pv 0) (pa_cons (pv 2) (pa_nil))))) (pa_nil)))))))
abbrev N_leads_beyond : List Str := ["p", "m", "one", "other", "u", "v"]
theorem sc_leads_beyond : FnScope N_leads_beyond ["p", "m", "one", "other"] (defScope (topS 74)) := ⟨rfl, rfl, rfl, by decide +kernel, rfl, by decide +kernel, by decide +kernel⟩
theorem w_leads_beyond (T : Tx P w K mg base) (f_led : Fct P w K mg base 40 "led" (Pur K 3 c_led)) (f_lies_in : Fct P w K mg base 43 "lies_in" (Pur K 3 c_lies_in)) {cdv : Value} {A : Around} {outer : List Env} {s : Shared} {H : Hp} {E : XK} {f : Addr} (hr : Room 43 (A.deeper (envOfC "leads_beyond" (defScope (topS 74)) s.heap.objs.size f cdv))) :
    PSs (cxOf CX0 P w K mg base N_leads_beyond "leads_beyond" (defScope (topS 74)) f cdv A outer s H E).nox (defBody (topS 74)) (t_leads_beyond K) :=
  pss_cons (ps_asg (pv 2) (pg_tup rfl (pgs_cons (pg_name (i := 4) sc_leads_beyond.nd rfl (by first | exact .inl rfl | exact .inr rfl)) (pgs_cons (pg_name (i := 5) sc_leads_beyond.nd rfl (by first | exact .inl rfl | exact .inr rfl)) (pgs_nil))))) (pss_one (ps_ret (pe_fct f_lies_in (hr.mono (by decide)) (by rfl) (pa_cons (pv 0) (pa_cons (pe_tup (pa_cons (pe_fct f_led (hr.mono (by decide)) (by rfl) (pa_cons (pv 0) (pa_cons (pv 1) (pa_cons (pv 5) (pa_nil))))) (pa_cons (pe_fct f_led (hr.mono (by decide)) (by rfl) (pa_cons (pv 0) (pa_cons (pv 1) (pa_cons (pv 4) (pa_nil))))) (pa_nil)))) (pa_cons (pv 3) (pa_nil)))))))
abbrev N_judge_sides : List Str := ["p", "g", "h", "value", "i", "j", "k", "m"]
theorem sc_judge_sides : FnScope N_judge_sides ["p", "g", "h", "value"] (defScope (topS 75)) := ⟨rfl, rfl, rfl, by decide +kernel, rfl, by decide +kernel, by decide +kernel⟩
theorem w_judge_sides (T : Tx P w K mg base) (f_are_apart : Fct P w K mg base 42 "are_apart" (Pur K 3 c_are_apart)) (f_are_four_sides : Fct P w K mg base 42 "are_four_sides" (Pur K 2 c_are_four_sides)) (f_leads_beyond : Fct P w K mg base 44 "leads_beyond" (Pur K 4 c_leads_beyond)) {cdv : Value} {A : Around} {outer : List Env} {s : Shared} {H : Hp} {E : XK} {f : Addr} (hr : Room 44 (A.deeper (envOfC "judge_sides" (defScope (topS 75)) s.heap.objs.size f cdv))) :
    PSs (cxOf CX0 P w K mg base N_judge_sides "judge_sides" (defScope (topS 75)) f cdv A outer s H E).nox (defBody (topS 75)) (t_judge_sides K) :=
  pss_cons (ps_if (pt_not (pt_val (pe_fct f_are_four_sides (hr.mono (by decide)) (by rfl) (pa_cons (pv 0) (pa_cons (pv 3) (pa_nil)))))) (pss_one (ps_ret (pe_tup (pa_cons (pe_str) (pa_nil))))) (pss_nil)) (pss_cons (ps_for PassesOwn.never rfl (pi_range1 (by rfl) T.m_range (pa_cons (pe_int) (pa_nil))) (pg_name (i := 4) sc_judge_sides.nd rfl (by first | exact .inl rfl | exact .inr rfl)) (pss_one (ps_for PassesOwn.never rfl (pi_range2 (by rfl) T.m_range (pa_cons (pe_op op_add (pv 4) (pe_int)) (pa_cons (pe_int) (pa_nil)))) (pg_name (i := 5) sc_judge_sides.nd rfl (by first | exact .inl rfl | exact .inr rfl)) (pss_one (ps_if (pt_not (pt_val (pe_fct f_are_apart (hr.mono (by decide)) (by rfl) (pa_cons (pv 0) (pa_cons (pe_ix ix_tup (pv 3) (pv 4) (fun _ _ => rfl)) (pa_cons (pe_ix ix_tup (pv 3) (pv 5) (fun _ _ => rfl)) (pa_nil))))))) (pss_one (ps_ret (pe_tup (pa_cons (pe_str) (pa_cons (pv 4) (pa_cons (pv 5) (pa_nil))))))) (pss_nil)))))) (pss_cons (ps_for PassesOwn.never rfl (pi_enumT (by rfl) T.m_enumerate (pa_cons (pe_tup (pa_cons (pv 1) (pa_cons (pv 2) (pa_nil)))) (pa_nil))) (pg_tup rfl (pgs_cons (pg_name (i := 6) sc_judge_sides.nd rfl (by first | exact .inl rfl | exact .inr rfl)) (pgs_cons (pg_name (i := 7) sc_judge_sides.nd rfl (by first | exact .inl rfl | exact .inr rfl)) (pgs_nil)))) (pss_one (ps_if (pt_not (pt_val (pe_fct f_leads_beyond (hr.mono (by decide)) (by rfl) (pa_cons (pv 0) (pa_cons (pv 7) (pa_cons (pe_ix ix_tup (pv 3) (pe_op op_mulX (pe_int) (pv 6)) (fun _ _ => rfl)) (pa_cons (pe_ix ix_tup (pv 3) (pe_op op_add (pe_op op_mulX (pe_int) (pv 6)) (pe_int)) (fun _ _ => rfl)) (pa_nil)))))))) (pss_one (ps_ret (pe_tup (pa_cons (pe_str) (pa_cons (pv 6) (pa_nil)))))) (pss_nil)))) (pss_one (ps_ret (pe_non)))))
abbrev N_change_moves : List Str := ["moves", "change", "k", "s", "other", "found"]
theorem sc_change_moves : FnScope N_change_moves ["moves", "change"] (defScope (topS 77)) := ⟨rfl, rfl, rfl, by decide +kernel, rfl, by decide +kernel, by decide +kernel⟩
theorem w_change_moves (T : Tx P w K mg base) (f_after : Fct P w K mg base 37 "after" (Pur K 2 c_after)) (f_back : Fct P w K mg base 37 "back" (Pur K 1 c_back)) {cdv : Value} {A : Around} {outer : List Env} {s : Shared} {H : Hp} {E : XK} {f : Addr} (hr : Room 37 (A.deeper (envOfC "change_moves" (defScope (topS 77)) s.heap.objs.size f cdv))) :
    PSs (cxOf CX0 P w K mg base N_change_moves "change_moves" (defScope (topS 77)) f cdv A outer s H E).nox (defBody (topS 77)) (t_change_moves K) :=
  pss_cons (ps_asg (pv 1) (pg_tup rfl (pgs_cons (pg_name (i := 2) sc_change_moves.nd rfl (by first | exact .inl rfl | exact .inr rfl)) (pgs_cons (pg_name (i := 3) sc_change_moves.nd rfl (by first | exact .inl rfl | exact .inr rfl)) (pgs_nil))))) (pss_cons (ps_set (i := 4) sc_change_moves.nd rfl (by first | exact .inl rfl | exact .inr rfl) (pe_ifExp (pt_cmpR op_eq (pv 3) (pe_int) (nomark _)) (pe_ix ix_list (pv 0) (pe_op op_sub (pe_int) (pv 2)) (fun _ _ => rfl)) (pe_fct f_back (hr.mono (by decide)) (by rfl) (pa_cons (pe_ix ix_list (pv 0) (pe_op op_sub (pe_int) (pv 2)) (fun _ _ => rfl)) (pa_nil))))) (pss_cons (ps_set (i := 5) sc_change_moves.nd rfl (by first | exact .inl rfl | exact .inr rfl) (pe_callTy call_list_of (by rfl) T.m_list rfl (pa_cons (pv 0) (pa_nil)))) (pss_cons (ps_asg (pe_fct f_after (hr.mono (by decide)) (by rfl) (pa_cons (pv 4) (pa_cons (pe_ix ix_list (pv 0) (pv 2) (fun _ _ => rfl)) (pa_nil)))) (pg_sub (pv 5) (pv 2) set_list)) (pss_one (ps_ret (pv 5))))))
abbrev N_next_change : List Str := ["p", "moves", "k"]
theorem sc_next_change : FnScope N_next_change ["p", "moves"] (defScope (topS 78)) := ⟨rfl, rfl, rfl, by decide +kernel, rfl, by decide +kernel, by decide +kernel⟩
theorem w_next_change (T : Tx P w K mg base) (f_lines : Fct P w K mg base 45 "lines" (Pur K 3 c_lines)) (f_stretch : Fct P w K mg base 37 "stretch" (Pur K 2 c_stretch)) {cdv : Value} {A : Around} {outer : List Env} {s : Shared} {H : Hp} {E : XK} {f : Addr} (hr : Room 45 (A.deeper (envOfC "next_change" (defScope (topS 78)) s.heap.objs.size f cdv))) :
    PSs (cxOf CX0 P w K mg base N_next_change "next_change" (defScope (topS 78)) f cdv A outer s H E).nox (defBody (topS 78)) (t_next_change K) :=
  pss_cons (ps_set (i := 2) sc_next_change.nd rfl (by first | exact .inl rfl | exact .inr rfl) (pe_ifExp (pt_cmpR op_lt (pe_fct f_stretch (hr.mono (by decide)) (by rfl) (pa_cons (pv 0) (pa_cons (pe_ix ix_list (pv 1) (pe_int) (fun _ _ => rfl)) (pa_nil)))) (pe_fct f_stretch (hr.mono (by decide)) (by rfl) (pa_cons (pv 0) (pa_cons (pe_ix ix_list (pv 1) (pe_int) (fun _ _ => rfl)) (pa_nil)))) (nomark _)) (pe_int) (pe_int))) (pss_one (ps_ret (pe_tup (pa_cons (pv 2) (pa_cons (pe_un un_neg (pe_ix ix_tup (pe_fct f_lines (hr.mono (by decide)) (by rfl) (pa_cons (pv 0) (pa_cons (pe_ix ix_list (pv 1) (pe_int) (fun _ _ => rfl)) (pa_cons (pe_ix ix_list (pv 1) (pe_int) (fun _ _ => rfl)) (pa_nil))))) (pe_int) (fun _ _ => rfl))) (pa_nil))))))
abbrev N_shorten : List Str := ["p", "g", "h", "told", "moves", "changes", "sides", "change"]
theorem sc_shorten : FnScope N_shorten ["p", "g", "h"] (defScope (topS 79)) := ⟨rfl, rfl, rfl, by decide +kernel, rfl, by decide +kernel, by decide +kernel⟩
theorem w_shorten (T : Tx P w K mg base) (f_change_moves : Fct P w K mg base 38 "change_moves" (Pur K 2 c_change_moves)) (f_four_sides : Fct P w K mg base 46 "four_sides" (Pur K 3 c_four_sides)) (f_lines : Fct P w K mg base 45 "lines" (Pur K 3 c_lines)) (f_next_change : Fct P w K mg base 46 "next_change" (Pur K 2 c_next_change)) (f_stretch : Fct P w K mg base 37 "stretch" (Pur K 2 c_stretch)) {cdv : Value} {A : Around} {outer : List Env} {s : Shared} {H : Hp} {E : XK} {f : Addr} (hr : Room 46 (A.deeper (envOfC "shorten" (defScope (topS 79)) s.heap.objs.size f cdv))) :
    PSs (cxOf CX0 P w K mg base N_shorten "shorten" (defScope (topS 79)) f cdv A outer s H E).nox (defBody (topS 79)) (t_shorten K) :=
  pss_cons (ps_set (i := 3) sc_shorten.nd rfl (by first | exact .inl rfl | exact .inr rfl) (pe_fct f_lines (hr.mono (by decide)) (by rfl) (pa_cons (pv 0) (pa_cons (pv 1) (pa_cons (pv 2) (pa_nil)))))) (pss_cons (ps_if (pt_cmpR op_in_seq (pe_ix ix_tup (pv 3) (pe_int) (fun _ _ => rfl)) (pe_tup (pa_cons (pe_str) (pa_cons (pe_str) (pa_nil)))) (by with_unfolding_all rfl)) (pss_never) (pss_nil)) (pss_cons (ps_par3 (i := 4) (j := 5) (l := 6) rfl sc_shorten.nd rfl rfl rfl (by decide) (by decide) (by decide) rfl rfl rfl (pa_cons (pe_lst (pa_cons (pv 1) (pa_cons (pv 2) (pa_nil)))) (pa_cons (pe_lst (pa_nil)) (pa_cons (pe_fct f_four_sides (hr.mono (by decide)) (by rfl) (pa_cons (pv 0) (pa_cons (pv 1) (pa_cons (pv 2) (pa_nil))))) (pa_nil)))) (by rfl)) (pss_cons (ps_while PassesOwn.never (pt_cmpR op_isN (pv 6) (pe_non) (nomark _)) (pss_cons (ps_set (i := 7) sc_shorten.nd rfl (by first | exact .inl rfl | exact .inr rfl) (pe_fct f_next_change (hr.mono (by decide)) (by rfl) (pa_cons (pv 0) (pa_cons (pv 4) (pa_nil))))) (pss_cons (ps_expr (pe_bm PySem.F.plainAttrs_list PySem.F.slot_list_append PySem.F.type_list_append mt_append (pv 5) (pa_cons (pv 7) (pa_nil)))) (pss_cons (ps_set (i := 4) sc_shorten.nd rfl (by first | exact .inl rfl | exact .inr rfl) (pe_fct f_change_moves (hr.mono (by decide)) (by rfl) (pa_cons (pv 4) (pa_cons (pv 7) (pa_nil))))) (pss_cons (ps_if (pt_cmpR op_eq (pe_fct f_stretch (hr.mono (by decide)) (by rfl) (pa_cons (pv 0) (pa_cons (pe_ix ix_list (pv 4) (pe_ix ix_tup (pv 7) (pe_int) (fun _ _ => rfl)) (fun _ _ => rfl)) (pa_nil)))) (pe_int) (nomark _)) (pss_one (ps_ret (pe_tup (pa_cons (pv 5) (pa_cons (pe_tup (pa_cons (pe_str) (pa_cons (pe_ix ix_tup (pv 7) (pe_int) (fun _ _ => rfl)) (pa_nil)))) (pa_nil)))))) (pss_nil)) (pss_one (ps_set (i := 6) sc_shorten.nd rfl (by first | exact .inl rfl | exact .inr rfl) (pe_fct f_four_sides (hr.mono (by decide)) (by rfl) (pa_cons (pv 0) (pa_cons (pe_ix ix_list (pv 4) (pe_int) (fun _ _ => rfl)) (pa_cons (pe_ix ix_list (pv 4) (pe_int) (fun _ _ => rfl)) (pa_nil)))))))))))) (pss_one (ps_ret (pe_tup (pa_cons (pv 5) (pa_cons (pe_tup (pa_cons (pe_str) (pa_cons (pv 6) (pa_nil)))) (pa_nil)))))))))
abbrev N__law_open_cells : List Str := ["_law_script", "_law_mixed", "_law_cell", "_law_cells"]
theorem sc__law_open_cells : FnScope N__law_open_cells ["_law_script"] (defScope (topS 81)) := ⟨rfl, rfl, rfl, by decide +kernel, rfl, by decide +kernel, by decide +kernel⟩
theorem w__law_open_cells (T : Tx P w K mg base) {cdv : Value} {A : Around} {outer : List Env} {s : Shared} {H : Hp} {E : XK} {f : Addr} (hr : Room 1 (A.deeper (envOfC "_law_open_cells" (defScope (topS 81)) s.heap.objs.size f cdv))) :
    PSs (cxOf CX0 P w K mg base N__law_open_cells "_law_open_cells" (defScope (topS 81)) f cdv A outer s H E).nox (defBody (topS 81)) (t__law_open_cells K) :=
  pss_cons (ps_set (i := 1) sc__law_open_cells.nd rfl (by first | exact .inl rfl | exact .inr rfl) (pe_int)) (pss_cons (ps_for PassesOwn.never rfl (pi_list (pv 0)) (pg_name (i := 2) sc__law_open_cells.nd rfl (by first | exact .inl rfl | exact .inr rfl)) (pss_one (ps_set (i := 1) sc__law_open_cells.nd rfl (by first | exact .inl rfl | exact .inr rfl) (pe_op op_modN (pe_callTy call_int1 (by rfl) T.m_int rfl (pa_cons (pe_op op_add (pe_op op_add (pe_op op_mulX (pv 1) (pe_int)) (pe_op op_mulX (pv 2) (pe_int))) (pe_int)) (pa_nil))) (pe_int))))) (pss_cons (ps_setLc (i := 3) rfl sc__law_open_cells.nd rfl rfl (sw_true rfl rfl rfl (by decide +kernel)) (pi_list (pv 0)) (blkOk_by (own := [("_law_cell", 2)]) (by show blkC N__law_open_cells (defScope (topS 81)) _ _ = true; decide +kernel)) (fun _ _ _ _ _ => pg_name (i := 2) sc__law_open_cells.nd rfl (by first | exact .inl rfl | exact .inr rfl)) (fun _ _ _ _ _ => pts_nil) (fun _ _ _ _ _ => pe_callB call_abs (by rfl) T.m_abs rfl (pa_cons (pv 2) (pa_nil)))) (pss_one (ps_ret (pe_disp (pps_cons (pe_str) (pe_revL (pv 3)) (pps_cons (pe_str) (pe_int) (pps_cons (pe_str) (pv 1) (pps_cons (pe_str) (pe_int) (pps_nil))))) rfl rfl (by simp) (by decide))))))
abbrev N__law_pick : List Str := ["_law_source", "_law_most", "_law_cells", "_law_left", "_law_turn", "_law_mixed"]
theorem sc__law_pick : FnScope N__law_pick ["_law_source", "_law_most"] (defScope (topS 82)) := ⟨rfl, rfl, rfl, by decide +kernel, rfl, by decide +kernel, by decide +kernel⟩
theorem w__law_pick (T : Tx P w K mg base) {cdv : Value} {A : Around} {outer : List Env} {s : Shared} {H : Hp} {E : XK} {f : Addr} (hr : Room 35 (A.deeper (envOfC "_law_pick" (defScope (topS 82)) s.heap.objs.size f cdv))) :
    PSs (cxOf CX0 P w K mg base N__law_pick "_law_pick" (defScope (topS 82)) f cdv A outer s H E).nox (defBody (topS 82)) (t__law_pick K) :=
  have dv := T.dv (CX := CX0) (N := N__law_pick) (outer := outer) (H := H) (E := E) hr (by decide) rfl rfl
  pss_cons (ps_if (pt_cmpR op_lt (pv 1) (pe_int) (nomark _)) (pss_one (ps_ret (pe_int))) (pss_nil)) (pss_cons (ps_set (i := 2) sc__law_pick.nd rfl (by first | exact .inl rfl | exact .inr rfl) (pe_dget (hu_of hr) (pv 0) (pe_str) (fun _ _ => rfl))) (pss_cons (ps_while PassesOwn.never (PW.pt (pw_and (pt_cmpR op_lt (pe_dget (hu_of hr) (pv 0) (pe_str) (fun _ _ => rfl)) (pe_int) (nomark _)) (pw_and1 (pt_cmpR op_gt (pe_callB call_len_seq (by rfl) T.m_len rfl (pa_cons (pv 2) (pa_nil))) (pe_int) (nomark _))))) (pss_one (ps_asg (pe_bm0 PySem.F.plainAttrs_list PySem.F.slot_list_pop PySem.F.type_list_pop mt_pop (pv 2)) (pg_sub (pv 0) (pe_str) (set_dict (hu_of hr)))))) (pss_cons (ps_set (i := 3) sc__law_pick.nd rfl (by first | exact .inl rfl | exact .inr rfl) (pe_dget (hu_of hr) (pv 0) (pe_str) (fun _ _ => rfl))) (pss_cons (ps_if (pt_cmpR op_gt (pv 3) (pe_int) (nomark _)) (pss_cons (ps_asg (pe_op (op_fdivX dv) (pv 3) (pv 1)) (pg_sub (pv 0) (pe_str) (set_dict (hu_of hr)))) (pss_one (ps_ret (pe_op op_modN (pe_callTy call_int1 (by rfl) T.m_int rfl (pa_cons (pv 3) (pa_nil))) (pv 1))))) (pss_nil)) (pss_cons (ps_asg (pe_op op_add (pe_dget (hu_of hr) (pv 0) (pe_str) (fun _ _ => rfl)) (pe_int)) (pg_sub (pv 0) (pe_str) (set_dict (hu_of hr)))) (pss_cons (ps_set (i := 4) sc__law_pick.nd rfl (by first | exact .inl rfl | exact .inr rfl) (pe_dget (hu_of hr) (pv 0) (pe_str) (fun _ _ => rfl))) (pss_cons (ps_set (i := 5) sc__law_pick.nd rfl (by first | exact .inl rfl | exact .inr rfl) (pe_op op_modN (pe_callTy call_int1 (by rfl) T.m_int rfl (pa_cons (pe_op op_add (pe_dget (hu_of hr) (pv 0) (pe_str) (fun _ _ => rfl)) (pe_op op_mulX (pv 4) (pe_int))) (pa_nil))) (pe_int))) (pss_cons (ps_set (i := 5) sc__law_pick.nd rfl (by first | exact .inl rfl | exact .inr rfl) (pe_op op_modN (pe_callTy call_int1 (by rfl) T.m_int rfl (pa_cons (pe_op op_add (pe_op op_mulX (pv 5) (pv 5)) (pe_op op_mulX (pv 4) (pe_int))) (pa_nil))) (pe_int))) (pss_one (ps_ret (pe_op op_modN (pe_callTy call_int1 (by rfl) T.m_int rfl (pa_cons (pe_op (op_fdivX dv) (pv 5) (pe_int)) (pa_nil))) (pv 1))))))))))))
abbrev N__law_any_order : List Str := ["_law_source", "_law_things", "_law_spare", "_law_lap"]
theorem sc__law_any_order : FnScope N__law_any_order ["_law_source", "_law_things"] (defScope (topS 83)) := ⟨rfl, rfl, rfl, by decide +kernel, rfl, by decide +kernel, by decide +kernel⟩
theorem w__law_any_order (T : Tx P w K mg base) (f__law_pick : Fct P w K mg base 36 "_law_pick" (PurI SrcF K 2 c__law_pick)) {cdv : Value} {A : Around} {outer : List Env} {s : Shared} {H : Hp} {E : XK} {f : Addr} (hr : Room 36 (A.deeper (envOfC "_law_any_order" (defScope (topS 83)) s.heap.objs.size f cdv))) :
    PSs (cxOf CX0 P w K mg base N__law_any_order "_law_any_order" (defScope (topS 83)) f cdv A outer s H E).nox (defBody (topS 83)) (t__law_any_order K) :=
  pss_cons (ps_set (i := 2) sc__law_any_order.nd rfl (by first | exact .inl rfl | exact .inr rfl) (pe_callTy call_list_of (by rfl) T.m_list rfl (pa_cons (pv 1) (pa_nil)))) (pss_one (ps_ret (pe_lc rfl sc__law_any_order.nd (pi_range1 (by rfl) T.m_range (pa_cons (pe_callB call_len_seq (by rfl) T.m_len rfl (pa_cons (pv 2) (pa_nil))) (pa_nil))) (blkOk_by (own := [("_law_lap", 3)]) (by show blkC N__law_any_order (defScope (topS 83)) _ _ = true; decide +kernel)) (fun _ _ _ _ _ => pg_name (i := 3) sc__law_any_order.nd rfl (by first | exact .inl rfl | exact .inr rfl)) (fun _ _ _ _ _ => pts_nil) (fun _ _ _ _ _ => pe_bm PySem.F.plainAttrs_list PySem.F.slot_list_pop PySem.F.type_list_pop mt_popAt (pv 2) (pa_cons (pe_fct f__law_pick (hr.mono (by decide)) (by rfl) (pa_cons (pv 0) (pa_cons (pe_callB call_len_seq (by rfl) T.m_len rfl (pa_cons (pv 2) (pa_nil))) (pa_nil)))) (pa_nil))))))
abbrev N__law_common : List Str := ["_law_a", "_law_b"]
theorem sc__law_common : FnScope N__law_common ["_law_a", "_law_b"] (defScope (topS 84)) := ⟨rfl, rfl, rfl, by decide +kernel, rfl, by decide +kernel, by decide +kernel⟩
theorem w__law_common (T : Tx P w K mg base) {cdv : Value} {A : Around} {outer : List Env} {s : Shared} {H : Hp} {E : XK} {f : Addr} (hr : Room 1 (A.deeper (envOfC "_law_common" (defScope (topS 84)) s.heap.objs.size f cdv))) :
    PSs (cxOf CX0 P w K mg base N__law_common "_law_common" (defScope (topS 84)) f cdv A outer s H E).nox (defBody (topS 84)) (t__law_common K) :=
  pss_cons (ps_par (i := 0) (j := 1) rfl sc__law_common.nd rfl rfl (by decide) rfl rfl (pa_cons (pe_callB call_abs (by rfl) T.m_abs rfl (pa_cons (pv 0) (pa_nil))) (pa_cons (pe_callB call_abs (by rfl) T.m_abs rfl (pa_cons (pv 1) (pa_nil))) (pa_nil))) (by rfl)) (pss_cons (ps_while PassesOwn.never (pt_cmpR op_ne (pv 1) (pe_int) (nomark _)) (pss_one (ps_par (i := 0) (j := 1) rfl sc__law_common.nd rfl rfl (by decide) rfl rfl (pa_cons (pv 1) (pa_cons (pe_op op_modN (pv 0) (pv 1)) (pa_nil))) (by rfl)))) (pss_one (ps_ret (pv 0))))
abbrev N__law_fraction : List Str := ["_law_n", "_law_d", "_law_sign", "_law_divisor"]
theorem sc__law_fraction : FnScope N__law_fraction ["_law_n", "_law_d"] (defScope (topS 85)) := ⟨rfl, rfl, rfl, by decide +kernel, rfl, by decide +kernel, by decide +kernel⟩
theorem w__law_fraction (T : Tx P w K mg base) (f__law_common : Fct P w K mg base 2 "_law_common" (Pur K 2 c__law_common)) {cdv : Value} {A : Around} {outer : List Env} {s : Shared} {H : Hp} {E : XK} {f : Addr} (hr : Room 35 (A.deeper (envOfC "_law_fraction" (defScope (topS 85)) s.heap.objs.size f cdv))) :
    PSs (cxOf CX0 P w K mg base N__law_fraction "_law_fraction" (defScope (topS 85)) f cdv A outer s H E).nox (defBody (topS 85)) (t__law_fraction K) :=
  have dv := T.dv (CX := CX0) (N := N__law_fraction) (outer := outer) (H := H) (E := E) hr (by decide) rfl rfl
  pss_cons (ps_set (i := 2) sc__law_fraction.nd rfl (by first | exact .inl rfl | exact .inr rfl) (pe_ifExp (pt_cmpR op_gt (pv 1) (pe_int) (nomark _)) (pe_int) (pe_op op_sub (pe_int) (pe_int)))) (pss_cons (ps_set (i := 3) sc__law_fraction.nd rfl (by first | exact .inl rfl | exact .inr rfl) (pe_op op_mulX (pe_fct f__law_common (hr.mono (by decide)) (by rfl) (pa_cons (pv 0) (pa_cons (pv 1) (pa_nil)))) (pv 2))) (pss_one (ps_ret (pe_tup (pa_cons (pe_op (op_fdivX dv) (pv 0) (pv 3)) (pa_cons (pe_op (op_fdivX dv) (pv 1) (pv 3)) (pa_nil)))))))
abbrev N__law_parts : List Str := ["_law_p", "_law_x", "_law_found", "_law_n", "_law_d"]
theorem sc__law_parts : FnScope N__law_parts ["_law_p", "_law_x"] (defScope (topS 86)) := ⟨rfl, rfl, rfl, by decide +kernel, rfl, by decide +kernel, by decide +kernel⟩
theorem w__law_parts (T : Tx P w K mg base) {cdv : Value} {A : Around} {outer : List Env} {s : Shared} {H : Hp} {E : XK} {f : Addr} (hr : Room 35 (A.deeper (envOfC "_law_parts" (defScope (topS 86)) s.heap.objs.size f cdv))) :
    PSs (cxOf CX0 P w K mg base N__law_parts "_law_parts" (defScope (topS 86)) f cdv A outer s H E).nox (defBody (topS 86)) (t__law_parts K) :=
  have dv := T.dv (CX := CX0) (N := N__law_parts) (outer := outer) (H := H) (E := E) hr (by decide) rfl rfl
  pss_cons (ps_par3 (i := 2) (j := 3) (l := 4) rfl sc__law_parts.nd rfl rfl rfl (by decide) (by decide) (by decide) rfl rfl rfl (pa_cons (pe_ifExp (pt_cmpR op_eq (pe_ix ix_tup (pv 1) (pe_int) (fun _ _ => rfl)) (pe_int) (nomark _)) (pe_int) (pe_int)) (pa_cons (pe_ix ix_tup (pv 1) (pe_int) (fun _ _ => rfl)) (pa_cons (pe_ix ix_tup (pv 1) (pe_int) (fun _ _ => rfl)) (pa_nil)))) (by rfl)) (pss_cons (ps_while PassesOwn.never (PW.pt (pw_and (pt_cmpR op_gt (pv 0) (pe_int) (nomark _)) (pw_and (pt_cmpR op_ne (pv 3) (pe_int) (nomark _)) (pw_and1 (pt_cmpR op_eq (pe_op op_modN (pv 3) (pv 0)) (pe_int) (nomark _)))))) (pss_one (ps_par (i := 2) (j := 3) rfl sc__law_parts.nd rfl rfl (by decide) rfl rfl (pa_cons (pe_op op_add (pv 2) (pe_int)) (pa_cons (pe_op (op_fdivX dv) (pv 3) (pv 0)) (pa_nil))) (by rfl)))) (pss_cons (ps_while PassesOwn.never (PW.pt (pw_and (pt_cmpR op_gt (pv 0) (pe_int) (nomark _)) (pw_and (pt_cmpR op_ne (pv 4) (pe_int) (nomark _)) (pw_and1 (pt_cmpR op_eq (pe_op op_modN (pv 4) (pv 0)) (pe_int) (nomark _)))))) (pss_one (ps_par (i := 2) (j := 4) rfl sc__law_parts.nd rfl rfl (by decide) rfl rfl (pa_cons (pe_op op_sub (pv 2) (pe_int)) (pa_cons (pe_op (op_fdivX dv) (pv 4) (pv 0)) (pa_nil))) (by rfl)))) (pss_one (ps_ret (pv 2)))))
abbrev N__law_raised : List Str := ["_law_p", "_law_n", "_law_found", "_law_lap"]
theorem sc__law_raised : FnScope N__law_raised ["_law_p", "_law_n"] (defScope (topS 87)) := ⟨rfl, rfl, rfl, by decide +kernel, rfl, by decide +kernel, by decide +kernel⟩
theorem w__law_raised (T : Tx P w K mg base) {cdv : Value} {A : Around} {outer : List Env} {s : Shared} {H : Hp} {E : XK} {f : Addr} (hr : Room 1 (A.deeper (envOfC "_law_raised" (defScope (topS 87)) s.heap.objs.size f cdv))) :
    PSs (cxOf CX0 P w K mg base N__law_raised "_law_raised" (defScope (topS 87)) f cdv A outer s H E).nox (defBody (topS 87)) (t__law_raised K) :=
  pss_cons (ps_set (i := 2) sc__law_raised.nd rfl (by first | exact .inl rfl | exact .inr rfl) (pe_int)) (pss_cons (ps_for PassesOwn.never rfl (pi_range1 (by rfl) T.m_range (pa_cons (pv 1) (pa_nil))) (pg_name (i := 3) sc__law_raised.nd rfl (by first | exact .inl rfl | exact .inr rfl)) (pss_one (ps_set (i := 2) sc__law_raised.nd rfl (by first | exact .inl rfl | exact .inr rfl) (pe_op op_mulX (pv 2) (pv 0))))) (pss_one (ps_ret (pv 2))))
abbrev N__law_power : List Str := ["_law_p", "_law_n"]
theorem sc__law_power : FnScope N__law_power ["_law_p", "_law_n"] (defScope (topS 88)) := ⟨rfl, rfl, rfl, by decide +kernel, rfl, by decide +kernel, by decide +kernel⟩
theorem w__law_power (T : Tx P w K mg base) (f__law_raised : Fct P w K mg base 2 "_law_raised" (Pur K 2 c__law_raised)) {cdv : Value} {A : Around} {outer : List Env} {s : Shared} {H : Hp} {E : XK} {f : Addr} (hr : Room 2 (A.deeper (envOfC "_law_power" (defScope (topS 88)) s.heap.objs.size f cdv))) :
    PSs (cxOf CX0 P w K mg base N__law_power "_law_power" (defScope (topS 88)) f cdv A outer s H E).nox (defBody (topS 88)) (t__law_power K) :=
  pss_one (ps_ret (pe_ifExp (pt_cmpR op_ge (pv 1) (pe_int) (nomark _)) (pe_tup (pa_cons (pe_fct f__law_raised (hr.mono (by decide)) (by rfl) (pa_cons (pv 0) (pa_cons (pv 1) (pa_nil)))) (pa_cons (pe_int) (pa_nil)))) (pe_tup (pa_cons (pe_int) (pa_cons (pe_fct f__law_raised (hr.mono (by decide)) (by rfl) (pa_cons (pv 0) (pa_cons (pe_op op_sub (pe_int) (pv 1)) (pa_nil)))) (pa_nil))))))
abbrev N__law_move : List Str := ["_law_a", "_law_b", "_law_c", "_law_d", "_law_divisor", "_law_first", "_law_x"]
theorem sc__law_move : FnScope N__law_move ["_law_a", "_law_b", "_law_c", "_law_d"] (defScope (topS 89)) := ⟨rfl, rfl, rfl, by decide +kernel, rfl, by decide +kernel, by decide +kernel⟩
theorem w__law_move (T : Tx P w K mg base) (f__law_common : Fct P w K mg base 2 "_law_common" (Pur K 2 c__law_common)) {cdv : Value} {A : Around} {outer : List Env} {s : Shared} {H : Hp} {E : XK} {f : Addr} (hr : Room 35 (A.deeper (envOfC "_law_move" (defScope (topS 89)) s.heap.objs.size f cdv))) :
    PSs (cxOf CX0 P w K mg base N__law_move "_law_move" (defScope (topS 89)) f cdv A outer s H E).nox (defBody (topS 89)) (t__law_move K) :=
  have dv := T.dv (CX := CX0) (N := N__law_move) (outer := outer) (H := H) (E := E) hr (by decide) rfl rfl
  pss_cons (ps_set (i := 4) sc__law_move.nd rfl (by first | exact .inl rfl | exact .inr rfl) (pe_fct f__law_common (hr.mono (by decide)) (by rfl) (pa_cons (pe_fct f__law_common (hr.mono (by decide)) (by rfl) (pa_cons (pv 0) (pa_cons (pv 1) (pa_nil)))) (pa_cons (pe_fct f__law_common (hr.mono (by decide)) (by rfl) (pa_cons (pv 2) (pa_cons (pv 3) (pa_nil)))) (pa_nil))))) (pss_cons (ps_set (i := 5) sc__law_move.nd rfl (by first | exact .inl rfl | exact .inr rfl) (pe_ix ix_list (pe_lc rfl sc__law_move.nd (pi_tup (pe_tup (pa_cons (pv 0) (pa_cons (pv 1) (pa_cons (pv 2) (pa_cons (pv 3) (pa_nil))))))) (blkOk_by (own := [("_law_x", 6)]) (by show blkC N__law_move (defScope (topS 89)) _ _ = true; decide +kernel)) (fun _ _ _ _ _ => pg_name (i := 6) sc__law_move.nd rfl (by first | exact .inl rfl | exact .inr rfl)) (fun _ _ _ _ _ => pts_one (pt_cmpR op_ne (pv 6) (pe_int) (nomark _))) (fun _ _ _ _ _ => pv 6)) (pe_int) (fun _ _ => rfl))) (pss_cons (ps_set (i := 4) sc__law_move.nd rfl (by first | exact .inl rfl | exact .inr rfl) (pe_ifExp (pt_cmpR op_gt (pv 5) (pe_int) (nomark _)) (pv 4) (pe_op op_sub (pe_int) (pv 4)))) (pss_one (ps_ret (pe_tup (pa_cons (pe_op (op_fdivX dv) (pv 0) (pv 4)) (pa_cons (pe_op (op_fdivX dv) (pv 1) (pv 4)) (pa_cons (pe_op (op_fdivX dv) (pv 2) (pv 4)) (pa_cons (pe_op (op_fdivX dv) (pv 3) (pv 4)) (pa_nil))))))))))
abbrev N__law_after : List Str := ["_law_one", "_law_other", "_law_a", "_law_b", "_law_c", "_law_d", "_law_e", "_law_f", "_law_g", "_law_h"]
theorem sc__law_after : FnScope N__law_after ["_law_one", "_law_other"] (defScope (topS 90)) := ⟨rfl, rfl, rfl, by decide +kernel, rfl, by decide +kernel, by decide +kernel⟩
theorem w__law_after (T : Tx P w K mg base) (f__law_move : Fct P w K mg base 36 "_law_move" (Pur K 4 c__law_move)) {cdv : Value} {A : Around} {outer : List Env} {s : Shared} {H : Hp} {E : XK} {f : Addr} (hr : Room 36 (A.deeper (envOfC "_law_after" (defScope (topS 90)) s.heap.objs.size f cdv))) :
    PSs (cxOf CX0 P w K mg base N__law_after "_law_after" (defScope (topS 90)) f cdv A outer s H E).nox (defBody (topS 90)) (t__law_after K) :=
  pss_cons (ps_asg (pv 0) (pg_tup rfl (pgs_cons (pg_name (i := 2) sc__law_after.nd rfl (by first | exact .inl rfl | exact .inr rfl)) (pgs_cons (pg_name (i := 3) sc__law_after.nd rfl (by first | exact .inl rfl | exact .inr rfl)) (pgs_cons (pg_name (i := 4) sc__law_after.nd rfl (by first | exact .inl rfl | exact .inr rfl)) (pgs_cons (pg_name (i := 5) sc__law_after.nd rfl (by first | exact .inl rfl | exact .inr rfl)) (pgs_nil))))))) (pss_cons (ps_asg (pv 1) (pg_tup rfl (pgs_cons (pg_name (i := 6) sc__law_after.nd rfl (by first | exact .inl rfl | exact .inr rfl)) (pgs_cons (pg_name (i := 7) sc__law_after.nd rfl (by first | exact .inl rfl | exact .inr rfl)) (pgs_cons (pg_name (i := 8) sc__law_after.nd rfl (by first | exact .inl rfl | exact .inr rfl)) (pgs_cons (pg_name (i := 9) sc__law_after.nd rfl (by first | exact .inl rfl | exact .inr rfl)) (pgs_nil))))))) (pss_one (ps_ret (pe_fct f__law_move (hr.mono (by decide)) (by rfl) (pa_cons (pe_op op_add (pe_op op_mulX (pv 2) (pv 6)) (pe_op op_mulX (pv 3) (pv 8))) (pa_cons (pe_op op_add (pe_op op_mulX (pv 2) (pv 7)) (pe_op op_mulX (pv 3) (pv 9))) (pa_cons (pe_op op_add (pe_op op_mulX (pv 4) (pv 6)) (pe_op op_mulX (pv 5) (pv 8))) (pa_cons (pe_op op_add (pe_op op_mulX (pv 4) (pv 7)) (pe_op op_mulX (pv 5) (pv 9))) (pa_nil)))))))))
abbrev N__law_back : List Str := ["_law_m"]
theorem sc__law_back : FnScope N__law_back ["_law_m"] (defScope (topS 91)) := ⟨rfl, rfl, rfl, by decide +kernel, rfl, by decide +kernel, by decide +kernel⟩
theorem w__law_back (T : Tx P w K mg base) (f__law_move : Fct P w K mg base 36 "_law_move" (Pur K 4 c__law_move)) {cdv : Value} {A : Around} {outer : List Env} {s : Shared} {H : Hp} {E : XK} {f : Addr} (hr : Room 36 (A.deeper (envOfC "_law_back" (defScope (topS 91)) s.heap.objs.size f cdv))) :
    PSs (cxOf CX0 P w K mg base N__law_back "_law_back" (defScope (topS 91)) f cdv A outer s H E).nox (defBody (topS 91)) (t__law_back K) :=
  pss_one (ps_ret (pe_fct f__law_move (hr.mono (by decide)) (by rfl) (pa_cons (pe_ix ix_tup (pv 0) (pe_int) (fun _ _ => rfl)) (pa_cons (pe_op op_sub (pe_int) (pe_ix ix_tup (pv 0) (pe_int) (fun _ _ => rfl))) (pa_cons (pe_op op_sub (pe_int) (pe_ix ix_tup (pv 0) (pe_int) (fun _ _ => rfl))) (pa_cons (pe_ix ix_tup (pv 0) (pe_int) (fun _ _ => rfl)) (pa_nil)))))))
abbrev N__law_size : List Str := ["_law_m"]
theorem sc__law_size : FnScope N__law_size ["_law_m"] (defScope (topS 92)) := ⟨rfl, rfl, rfl, by decide +kernel, rfl, by decide +kernel, by decide +kernel⟩
theorem w__law_size (T : Tx P w K mg base) {cdv : Value} {A : Around} {outer : List Env} {s : Shared} {H : Hp} {E : XK} {f : Addr} (hr : Room 1 (A.deeper (envOfC "_law_size" (defScope (topS 92)) s.heap.objs.size f cdv))) :
    PSs (cxOf CX0 P w K mg base N__law_size "_law_size" (defScope (topS 92)) f cdv A outer s H E).nox (defBody (topS 92)) (t__law_size K) :=
  pss_one (ps_ret (pe_op op_sub (pe_op op_mulX (pe_ix ix_tup (pv 0) (pe_int) (fun _ _ => rfl)) (pe_ix ix_tup (pv 0) (pe_int) (fun _ _ => rfl))) (pe_op op_mulX (pe_ix ix_tup (pv 0) (pe_int) (fun _ _ => rfl)) (pe_ix ix_tup (pv 0) (pe_int) (fun _ _ => rfl)))))
abbrev N__law_stretch : List Str := ["_law_p", "_law_m", "_law_k", "_law_total"]
theorem sc__law_stretch : FnScope N__law_stretch ["_law_p", "_law_m"] (defScope (topS 93)) := ⟨rfl, rfl, rfl, by decide +kernel, rfl, by decide +kernel, by decide +kernel⟩
theorem w__law_stretch (T : Tx P w K mg base) (f__law_parts : Fct P w K mg base 36 "_law_parts" (Pur K 2 c__law_parts)) (f__law_size : Fct P w K mg base 2 "_law_size" (Pur K 1 c__law_size)) {cdv : Value} {A : Around} {outer : List Env} {s : Shared} {H : Hp} {E : XK} {f : Addr} (hr : Room 36 (A.deeper (envOfC "_law_stretch" (defScope (topS 93)) s.heap.objs.size f cdv))) :
    PSs (cxOf CX0 P w K mg base N__law_stretch "_law_stretch" (defScope (topS 93)) f cdv A outer s H E).nox (defBody (topS 93)) (t__law_stretch K) :=
  pss_cons (ps_par (i := 2) (j := 3) rfl sc__law_stretch.nd rfl rfl (by decide) rfl rfl (pa_cons (pe_fct f__law_parts (hr.mono (by decide)) (by rfl) (pa_cons (pv 0) (pa_cons (pe_tup (pa_cons (pe_fct f__law_size (hr.mono (by decide)) (by rfl) (pa_cons (pv 1) (pa_nil))) (pa_cons (pe_int) (pa_nil)))) (pa_nil)))) (pa_cons (pe_op op_add (pe_ix ix_tup (pv 1) (pe_int) (fun _ _ => rfl)) (pe_ix ix_tup (pv 1) (pe_int) (fun _ _ => rfl))) (pa_nil))) (by rfl)) (pss_one (ps_ret (pe_ifExp (pt_cmpR op_ne (pv 3) (pe_int) (nomark _)) (pe_callB (call_max2 rfl) (by rfl) T.m_max rfl (pa_cons (pe_int) (pa_cons (pe_op op_sub (pv 2) (pe_op op_mulX (pe_int) (pe_fct f__law_parts (hr.mono (by decide)) (by rfl) (pa_cons (pv 0) (pa_cons (pe_tup (pa_cons (pv 3) (pa_cons (pe_int) (pa_nil)))) (pa_nil)))))) (pa_nil)))) (pe_int))))
abbrev N__law_draw_prime : List Str := ["_law_source"]
theorem sc__law_draw_prime : FnScope N__law_draw_prime ["_law_source"] (defScope (topS 94)) := ⟨rfl, rfl, rfl, by decide +kernel, rfl, by decide +kernel, by decide +kernel⟩
theorem w__law_draw_prime (T : Tx P w K mg base) (f__law_pick : Fct P w K mg base 36 "_law_pick" (PurI SrcF K 2 c__law_pick)) {cdv : Value} {A : Around} {outer : List Env} {s : Shared} {H : Hp} {E : XK} {f : Addr} (hr : Room 36 (A.deeper (envOfC "_law_draw_prime" (defScope (topS 94)) s.heap.objs.size f cdv))) :
    PSs (cxOf CX0 P w K mg base N__law_draw_prime "_law_draw_prime" (defScope (topS 94)) f cdv A outer s H E).nox (defBody (topS 94)) (t__law_draw_prime K) :=
  pss_one (ps_ret (pe_ix ix_list (pe_lst (pa_cons (pe_int) (pa_cons (pe_int) (pa_cons (pe_int) (pa_cons (pe_int) (pa_cons (pe_int) (pa_nil))))))) (pe_fct f__law_pick (hr.mono (by decide)) (by rfl) (pa_cons (pv 0) (pa_cons (pe_int) (pa_nil)))) (fun _ _ => rfl)))
abbrev N__law_draw_move : List Str := ["_law_source", "_law_p", "_law_way", "_law_n", "_law_found", "_law_some", "_law_is_one", "_law_pushed", "_law_lap"]
theorem sc__law_draw_move : FnScope N__law_draw_move ["_law_source", "_law_p"] (defScope (topS 95)) := ⟨rfl, rfl, rfl, by decide +kernel, rfl, by decide +kernel, by decide +kernel⟩
theorem w__law_draw_move (T : Tx P w K mg base) (f__law_after : Fct P w K mg base 37 "_law_after" (Pur K 2 c__law_after)) (f__law_back : Fct P w K mg base 37 "_law_back" (Pur K 1 c__law_back)) (f__law_move : Fct P w K mg base 36 "_law_move" (Pur K 4 c__law_move)) (f__law_pick : Fct P w K mg base 36 "_law_pick" (PurI SrcF K 2 c__law_pick)) (f__law_raised : Fct P w K mg base 2 "_law_raised" (Pur K 2 c__law_raised)) {cdv : Value} {A : Around} {outer : List Env} {s : Shared} {H : Hp} {E : XK} {f : Addr} (hr : Room 37 (A.deeper (envOfC "_law_draw_move" (defScope (topS 95)) s.heap.objs.size f cdv))) :
    PSs (cxOf CX0 P w K mg base N__law_draw_move "_law_draw_move" (defScope (topS 95)) f cdv A outer s H E).nox (defBody (topS 95)) (t__law_draw_move K) :=
  pss_cons (ps_par (i := 2) (j := 3) rfl sc__law_draw_move.nd rfl rfl (by decide) rfl rfl (pa_cons (pe_fct f__law_pick (hr.mono (by decide)) (by rfl) (pa_cons (pv 0) (pa_cons (pe_int) (pa_nil)))) (pa_cons (pe_op op_sub (pe_fct f__law_pick (hr.mono (by decide)) (by rfl) (pa_cons (pv 0) (pa_cons (pe_int) (pa_nil)))) (pe_int)) (pa_nil))) (by rfl)) (pss_cons (ps_if (pt_cmpR op_eq (pv 2) (pe_int) (nomark _)) (pss_one (ps_set (i := 4) sc__law_draw_move.nd rfl (by first | exact .inl rfl | exact .inr rfl) (pe_fct f__law_move (hr.mono (by decide)) (by rfl) (pa_cons (pe_int) (pa_cons (pe_op op_mulX (pv 3) (pe_ix ix_list (pe_lst (pa_cons (pe_int) (pa_cons (pv 1) (pa_nil)))) (pe_fct f__law_pick (hr.mono (by decide)) (by rfl) (pa_cons (pv 0) (pa_cons (pe_int) (pa_nil)))) (fun _ _ => rfl))) (pa_cons (pe_int) (pa_cons (pe_ix ix_list (pe_lst (pa_cons (pe_int) (pa_cons (pv 1) (pa_cons (pe_op op_mulX (pv 1) (pv 1)) (pa_nil))))) (pe_fct f__law_pick (hr.mono (by decide)) (by rfl) (pa_cons (pv 0) (pa_cons (pe_int) (pa_nil)))) (fun _ _ => rfl)) (pa_nil)))))))) (pss_one (ps_if (pt_cmpR op_eq (pv 2) (pe_int) (nomark _)) (pss_one (ps_set (i := 4) sc__law_draw_move.nd rfl (by first | exact .inl rfl | exact .inr rfl) (pe_fct f__law_move (hr.mono (by decide)) (by rfl) (pa_cons (pe_fct f__law_raised (hr.mono (by decide)) (by rfl) (pa_cons (pv 1) (pa_cons (pe_fct f__law_pick (hr.mono (by decide)) (by rfl) (pa_cons (pv 0) (pa_cons (pe_int) (pa_nil)))) (pa_nil)))) (pa_cons (pe_int) (pa_cons (pe_int) (pa_cons (pe_ix ix_list (pe_lst (pa_cons (pe_int) (pa_cons (pe_int) (pa_cons (pe_int) (pa_cons (pe_op op_sub (pe_int) (pe_int)) (pa_nil)))))) (pe_fct f__law_pick (hr.mono (by decide)) (by rfl) (pa_cons (pv 0) (pa_cons (pe_int) (pa_nil)))) (fun _ _ => rfl)) (pa_nil)))))))) (pss_one (ps_if (pt_cmpR op_eq (pv 2) (pe_int) (nomark _)) (pss_one (ps_set (i := 4) sc__law_draw_move.nd rfl (by first | exact .inl rfl | exact .inr rfl) (pe_fct f__law_move (hr.mono (by decide)) (by rfl) (pa_cons (pe_int) (pa_cons (pe_ix ix_list (pe_lst (pa_cons (pe_int) (pa_cons (pv 1) (pa_cons (pe_op op_sub (pe_int) (pe_int)) (pa_cons (pe_op op_sub (pe_int) (pv 1)) (pa_nil)))))) (pe_fct f__law_pick (hr.mono (by decide)) (by rfl) (pa_cons (pv 0) (pa_cons (pe_int) (pa_nil)))) (fun _ _ => rfl)) (pa_cons (pe_int) (pa_cons (pv 3) (pa_nil)))))))) (pss_cons (ps_setLc (i := 5) rfl sc__law_draw_move.nd rfl rfl (sw_true rfl rfl rfl (by decide +kernel)) (pi_range1 (by rfl) T.m_range (pa_cons (pe_int) (pa_nil))) (blkOk_by (own := [("_law_lap", 8)]) (by show blkC N__law_draw_move (defScope (topS 95)) _ _ = true; decide +kernel)) (fun _ _ _ _ _ => pg_name (i := 8) sc__law_draw_move.nd rfl (by first | exact .inl rfl | exact .inr rfl)) (fun _ _ _ _ _ => pts_nil) (fun _ _ _ _ _ => pe_op op_sub (pe_fct f__law_pick (hr.mono (by decide)) (by rfl) (pa_cons (pv 0) (pa_cons (pe_int) (pa_nil)))) (pe_int))) (pss_cons (ps_set (i := 6) sc__law_draw_move.nd rfl (by first | exact .inl rfl | exact .inr rfl) (pe_cmpR op_eq (pe_op op_mulX (pe_ix ix_list (pv 5) (pe_int) (fun _ _ => rfl)) (pe_ix ix_list (pv 5) (pe_int) (fun _ _ => rfl))) (pe_op op_mulX (pe_ix ix_list (pv 5) (pe_int) (fun _ _ => rfl)) (pe_ix ix_list (pv 5) (pe_int) (fun _ _ => rfl))) (nomark _))) (pss_one (ps_set (i := 4) sc__law_draw_move.nd rfl (by first | exact .inl rfl | exact .inr rfl) (pe_ifExp (pt_val (pv 6)) (pe_fct f__law_move (hr.mono (by decide)) (by rfl) (pa_cons (pe_int) (pa_cons (pv 3) (pa_cons (pe_int) (pa_cons (pe_int) (pa_nil)))))) (pe_fct f__law_move (hr.mono (by decide)) (by rfl) (pa_cons (pe_ix ix_list (pv 5) (pe_int) (fun _ _ => rfl)) (pa_cons (pe_ix ix_list (pv 5) (pe_int) (fun _ _ => rfl)) (pa_cons (pe_ix ix_list (pv 5) (pe_int) (fun _ _ => rfl)) (pa_cons (pe_ix ix_list (pv 5) (pe_int) (fun _ _ => rfl)) (pa_nil)))))))))))))))) (pss_cons (ps_if (pt_cmpR op_eq (pe_fct f__law_pick (hr.mono (by decide)) (by rfl) (pa_cons (pv 0) (pa_cons (pe_int) (pa_nil)))) (pe_int) (nomark _)) (pss_cons (ps_set (i := 7) sc__law_draw_move.nd rfl (by first | exact .inl rfl | exact .inr rfl) (pe_fct f__law_move (hr.mono (by decide)) (by rfl) (pa_cons (pe_fct f__law_raised (hr.mono (by decide)) (by rfl) (pa_cons (pv 1) (pa_cons (pe_fct f__law_pick (hr.mono (by decide)) (by rfl) (pa_cons (pv 0) (pa_cons (pe_int) (pa_nil)))) (pa_nil)))) (pa_cons (pe_op op_sub (pe_fct f__law_pick (hr.mono (by decide)) (by rfl) (pa_cons (pv 0) (pa_cons (pe_int) (pa_nil)))) (pe_int)) (pa_cons (pe_int) (pa_cons (pe_int) (pa_nil))))))) (pss_one (ps_set (i := 4) sc__law_draw_move.nd rfl (by first | exact .inl rfl | exact .inr rfl) (pe_fct f__law_after (hr.mono (by decide)) (by rfl) (pa_cons (pv 7) (pa_cons (pe_fct f__law_after (hr.mono (by decide)) (by rfl) (pa_cons (pv 4) (pa_cons (pe_fct f__law_back (hr.mono (by decide)) (by rfl) (pa_cons (pv 7) (pa_nil))) (pa_nil)))) (pa_nil))))))) (pss_nil)) (pss_one (ps_ret (pv 4)))))
abbrev N__law_draw_point : List Str := ["_law_source", "_law_p", "_law_n", "_law_d"]
theorem sc__law_draw_point : FnScope N__law_draw_point ["_law_source", "_law_p"] (defScope (topS 96)) := ⟨rfl, rfl, rfl, by decide +kernel, rfl, by decide +kernel, by decide +kernel⟩
theorem w__law_draw_point (T : Tx P w K mg base) (f__law_fraction : Fct P w K mg base 36 "_law_fraction" (Pur K 2 c__law_fraction)) (f__law_pick : Fct P w K mg base 36 "_law_pick" (PurI SrcF K 2 c__law_pick)) {cdv : Value} {A : Around} {outer : List Env} {s : Shared} {H : Hp} {E : XK} {f : Addr} (hr : Room 36 (A.deeper (envOfC "_law_draw_point" (defScope (topS 96)) s.heap.objs.size f cdv))) :
    PSs (cxOf CX0 P w K mg base N__law_draw_point "_law_draw_point" (defScope (topS 96)) f cdv A outer s H E).nox (defBody (topS 96)) (t__law_draw_point K) :=
  pss_cons (ps_par (i := 2) (j := 3) rfl sc__law_draw_point.nd rfl rfl (by decide) rfl rfl (pa_cons (pe_op op_sub (pe_fct f__law_pick (hr.mono (by decide)) (by rfl) (pa_cons (pv 0) (pa_cons (pe_int) (pa_nil)))) (pe_int)) (pa_cons (pe_ix ix_list (pe_lst (pa_cons (pe_int) (pa_cons (pe_int) (pa_cons (pv 1) (pa_cons (pe_int) (pa_nil)))))) (pe_fct f__law_pick (hr.mono (by decide)) (by rfl) (pa_cons (pv 0) (pa_cons (pe_int) (pa_nil)))) (fun _ _ => rfl)) (pa_nil))) (by rfl)) (pss_cons (ps_if (pt_cmpR op_eq (pv 3) (pe_int) (nomark _)) (pss_one (ps_ret (pe_tup (pa_cons (pe_int) (pa_cons (pe_int) (pa_nil)))))) (pss_nil)) (pss_one (ps_ret (pe_fct f__law_fraction (hr.mono (by decide)) (by rfl) (pa_cons (pe_op op_mulX (pv 2) (pe_ix ix_list (pe_lst (pa_cons (pe_int) (pa_cons (pe_int) (pa_cons (pv 1) (pa_nil))))) (pe_fct f__law_pick (hr.mono (by decide)) (by rfl) (pa_cons (pv 0) (pa_cons (pe_int) (pa_nil)))) (fun _ _ => rfl))) (pa_cons (pv 3) (pa_nil)))))))
abbrev N__law_by_ends : List Str := ["_law_p", "_law_one", "_law_other", "_law_n", "_law_sign", "_law_a", "_law_b", "_law_c", "_law_d", "_law_times"]
theorem sc__law_by_ends : FnScope N__law_by_ends ["_law_p", "_law_one", "_law_other", "_law_n", "_law_sign"] (defScope (topS 97)) := ⟨rfl, rfl, rfl, by decide +kernel, rfl, by decide +kernel, by decide +kernel⟩
theorem w__law_by_ends (T : Tx P w K mg base) (f__law_after : Fct P w K mg base 37 "_law_after" (Pur K 2 c__law_after)) (f__law_move : Fct P w K mg base 36 "_law_move" (Pur K 4 c__law_move)) (f__law_power : Fct P w K mg base 3 "_law_power" (Pur K 2 c__law_power)) {cdv : Value} {A : Around} {outer : List Env} {s : Shared} {H : Hp} {E : XK} {f : Addr} (hr : Room 37 (A.deeper (envOfC "_law_by_ends" (defScope (topS 97)) s.heap.objs.size f cdv))) :
    PSs (cxOf CX0 P w K mg base N__law_by_ends "_law_by_ends" (defScope (topS 97)) f cdv A outer s H E).nox (defBody (topS 97)) (t__law_by_ends K) :=
  pss_cons (ps_asg (pe_tup (pa_cons (pe_ix ix_tup (pv 1) (pe_int) (fun _ _ => rfl)) (pa_cons (pe_ix ix_tup (pv 2) (pe_int) (fun _ _ => rfl)) (pa_cons (pe_ix ix_tup (pv 1) (pe_int) (fun _ _ => rfl)) (pa_cons (pe_ix ix_tup (pv 2) (pe_int) (fun _ _ => rfl)) (pa_cons (pe_ix ix_tup (pe_fct f__law_power (hr.mono (by decide)) (by rfl) (pa_cons (pv 0) (pa_cons (pv 3) (pa_nil)))) (pe_int) (fun _ _ => rfl)) (pa_nil))))))) (pg_tup rfl (pgs_cons (pg_name (i := 5) sc__law_by_ends.nd rfl (by first | exact .inl rfl | exact .inr rfl)) (pgs_cons (pg_name (i := 6) sc__law_by_ends.nd rfl (by first | exact .inl rfl | exact .inr rfl)) (pgs_cons (pg_name (i := 7) sc__law_by_ends.nd rfl (by first | exact .inl rfl | exact .inr rfl)) (pgs_cons (pg_name (i := 8) sc__law_by_ends.nd rfl (by first | exact .inl rfl | exact .inr rfl)) (pgs_cons (pg_name (i := 9) sc__law_by_ends.nd rfl (by first | exact .inl rfl | exact .inr rfl)) (pgs_nil)))))))) (pss_one (ps_ret (pe_fct f__law_after (hr.mono (by decide)) (by rfl) (pa_cons (pe_fct f__law_move (hr.mono (by decide)) (by rfl) (pa_cons (pe_op op_mulX (pv 5) (pv 9)) (pa_cons (pe_op op_mulX (pv 6) (pv 4)) (pa_cons (pe_op op_mulX (pv 7) (pv 9)) (pa_cons (pe_op op_mulX (pv 8) (pv 4)) (pa_nil)))))) (pa_cons (pe_fct f__law_move (hr.mono (by decide)) (by rfl) (pa_cons (pv 8) (pa_cons (pe_op op_sub (pe_int) (pv 6)) (pa_cons (pe_op op_sub (pe_int) (pv 7)) (pa_cons (pv 5) (pa_nil)))))) (pa_nil))))))
abbrev N__law_draw_stretching : List Str := ["_law_source", "_law_p", "_law_found", "_law_ends"]
theorem sc__law_draw_stretching : FnScope N__law_draw_stretching ["_law_source", "_law_p"] (defScope (topS 98)) := ⟨rfl, rfl, rfl, by decide +kernel, rfl, by decide +kernel, by decide +kernel⟩
theorem w__law_draw_stretching (T : Tx P w K mg base) (f__law_by_ends : Fct P w K mg base 38 "_law_by_ends" (Pur K 5 c__law_by_ends)) (f__law_draw_ends : Fct P w K mg base 38 "_law_draw_ends" (PurI SrcF K 2 c__law_draw_ends)) (f__law_draw_length : Fct P w K mg base 37 "_law_draw_length" (PurI SrcF K 2 c__law_draw_length)) (f__law_draw_move : Fct P w K mg base 38 "_law_draw_move" (PurI SrcF K 2 c__law_draw_move)) (f__law_pick : Fct P w K mg base 36 "_law_pick" (PurI SrcF K 2 c__law_pick)) (f__law_stretch : Fct P w K mg base 37 "_law_stretch" (Pur K 2 c__law_stretch)) {cdv : Value} {A : Around} {outer : List Env} {s : Shared} {H : Hp} {E : XK} {f : Addr} (hr : Room 38 (A.deeper (envOfC "_law_draw_stretching" (defScope (topS 98)) s.heap.objs.size f cdv))) :
    PSs (cxOf CX0 P w K mg base N__law_draw_stretching "_law_draw_stretching" (defScope (topS 98)) f cdv A outer s H E).nox (defBody (topS 98)) (t__law_draw_stretching K) :=
  pss_cons (ps_set (i := 2) sc__law_draw_stretching.nd rfl (by first | exact .inl rfl | exact .inr rfl) (pe_fct f__law_draw_move (hr.mono (by decide)) (by rfl) (pa_cons (pv 0) (pa_cons (pv 1) (pa_nil))))) (pss_cons (ps_if (PW.pt (pw_and (pt_cmpR op_eq (pe_fct f__law_pick (hr.mono (by decide)) (by rfl) (pa_cons (pv 0) (pa_cons (pe_int) (pa_nil)))) (pe_int) (nomark _)) (pw_and1 (pt_cmpR op_gt (pe_fct f__law_stretch (hr.mono (by decide)) (by rfl) (pa_cons (pv 1) (pa_cons (pv 2) (pa_nil)))) (pe_int) (nomark _))))) (pss_one (ps_ret (pv 2))) (pss_nil)) (pss_cons (ps_set (i := 3) sc__law_draw_stretching.nd rfl (by first | exact .inl rfl | exact .inr rfl) (pe_fct f__law_draw_ends (hr.mono (by decide)) (by rfl) (pa_cons (pv 0) (pa_cons (pv 1) (pa_nil))))) (pss_one (ps_ret (pe_fct f__law_by_ends (hr.mono (by decide)) (by rfl) (pa_cons (pv 1) (pa_cons (pe_ix ix_list (pv 3) (pe_int) (fun _ _ => rfl)) (pa_cons (pe_ix ix_list (pv 3) (pe_int) (fun _ _ => rfl)) (pa_cons (pe_fct f__law_draw_length (hr.mono (by decide)) (by rfl) (pa_cons (pv 0) (pa_cons (pv 1) (pa_nil)))) (pa_cons (pe_ix ix_list (pe_lst (pa_cons (pe_int) (pa_cons (pe_op op_sub (pe_int) (pe_int)) (pa_nil)))) (pe_fct f__law_pick (hr.mono (by decide)) (by rfl) (pa_cons (pv 0) (pa_cons (pe_int) (pa_nil)))) (fun _ _ => rfl)) (pa_nil)))))))))))
abbrev N__law_between : List Str := ["_law_g", "_law_h", "_law_a", "_law_b", "_law_c", "_law_d", "_law_e", "_law_f", "_law_i", "_law_j"]
theorem sc__law_between : FnScope N__law_between ["_law_g", "_law_h"] (defScope (topS 99)) := ⟨rfl, rfl, rfl, by decide +kernel, rfl, by decide +kernel, by decide +kernel⟩
theorem w__law_between (T : Tx P w K mg base) {cdv : Value} {A : Around} {outer : List Env} {s : Shared} {H : Hp} {E : XK} {f : Addr} (hr : Room 1 (A.deeper (envOfC "_law_between" (defScope (topS 99)) s.heap.objs.size f cdv))) :
    PSs (cxOf CX0 P w K mg base N__law_between "_law_between" (defScope (topS 99)) f cdv A outer s H E).nox (defBody (topS 99)) (t__law_between K) :=
  pss_cons (ps_asg (pv 0) (pg_tup rfl (pgs_cons (pg_name (i := 2) sc__law_between.nd rfl (by first | exact .inl rfl | exact .inr rfl)) (pgs_cons (pg_name (i := 3) sc__law_between.nd rfl (by first | exact .inl rfl | exact .inr rfl)) (pgs_cons (pg_name (i := 4) sc__law_between.nd rfl (by first | exact .inl rfl | exact .inr rfl)) (pgs_cons (pg_name (i := 5) sc__law_between.nd rfl (by first | exact .inl rfl | exact .inr rfl)) (pgs_nil))))))) (pss_cons (ps_asg (pv 1) (pg_tup rfl (pgs_cons (pg_name (i := 6) sc__law_between.nd rfl (by first | exact .inl rfl | exact .inr rfl)) (pgs_cons (pg_name (i := 7) sc__law_between.nd rfl (by first | exact .inl rfl | exact .inr rfl)) (pgs_cons (pg_name (i := 8) sc__law_between.nd rfl (by first | exact .inl rfl | exact .inr rfl)) (pgs_cons (pg_name (i := 9) sc__law_between.nd rfl (by first | exact .inl rfl | exact .inr rfl)) (pgs_nil))))))) (pss_one (ps_ret (pe_tup (pa_cons (pe_op op_sub (pe_op op_mulX (pv 3) (pv 8)) (pe_op op_mulX (pv 7) (pv 4))) (pa_cons (pe_op op_sub (pe_op op_sub (pe_op op_add (pe_op op_mulX (pv 2) (pv 7)) (pe_op op_mulX (pv 3) (pv 9))) (pe_op op_mulX (pv 6) (pv 3))) (pe_op op_mulX (pv 7) (pv 5))) (pa_cons (pe_op op_sub (pe_op op_sub (pe_op op_add (pe_op op_mulX (pv 4) (pv 6)) (pe_op op_mulX (pv 5) (pv 8))) (pe_op op_mulX (pv 8) (pv 2))) (pe_op op_mulX (pv 9) (pv 4))) (pa_cons (pe_op op_sub (pe_op op_mulX (pv 4) (pv 7)) (pe_op op_mulX (pv 8) (pv 3))) (pa_nil)))))))))
abbrev N__law_lines_kind : List Str := ["_law_p", "_law_g", "_law_h", "_law_table"]
theorem sc__law_lines_kind : FnScope N__law_lines_kind ["_law_p", "_law_g", "_law_h"] (defScope (topS 100)) := ⟨rfl, rfl, rfl, by decide +kernel, rfl, by decide +kernel, by decide +kernel⟩
theorem w__law_lines_kind (T : Tx P w K mg base) (f__law_between : Fct P w K mg base 2 "_law_between" (Pur K 2 c__law_between)) {cdv : Value} {A : Around} {outer : List Env} {s : Shared} {H : Hp} {E : XK} {f : Addr} (hr : Room 2 (A.deeper (envOfC "_law_lines_kind" (defScope (topS 100)) s.heap.objs.size f cdv))) :
    PSs (cxOf CX0 P w K mg base N__law_lines_kind "_law_lines_kind" (defScope (topS 100)) f cdv A outer s H E).nox (defBody (topS 100)) (t__law_lines_kind K) :=
  pss_cons (ps_set (i := 3) sc__law_lines_kind.nd rfl (by first | exact .inl rfl | exact .inr rfl) (pe_fct f__law_between (hr.mono (by decide)) (by rfl) (pa_cons (pv 1) (pa_cons (pv 2) (pa_nil))))) (pss_cons (ps_if (pt_cmpR (op_eqD hr.units) (pv 3) (pe_tup (pa_cons (pe_int) (pa_cons (pe_int) (pa_cons (pe_int) (pa_cons (pe_int) (pa_nil)))))) (nomark _)) (pss_one (ps_ret (pe_str))) (pss_nil)) (pss_one (ps_ret (pe_ifExp (pt_cmpR op_eq (pe_op op_mulX (pe_ix ix_tup (pv 3) (pe_int) (fun _ _ => rfl)) (pe_ix ix_tup (pv 3) (pe_int) (fun _ _ => rfl))) (pe_op op_mulX (pe_ix ix_tup (pv 3) (pe_int) (fun _ _ => rfl)) (pe_ix ix_tup (pv 3) (pe_int) (fun _ _ => rfl))) (nomark _)) (pe_str) (pe_str)))))
abbrev N__law_draw_pair : List Str := ["_law_source", "_law_p", "_law_way", "_law_g", "_law_ends", "_law_other", "_law_three", "_law_one", "_law_pushed"]
theorem sc__law_draw_pair : FnScope N__law_draw_pair ["_law_source", "_law_p"] (defScope (topS 101)) := ⟨rfl, rfl, rfl, by decide +kernel, rfl, by decide +kernel, by decide +kernel⟩
theorem w__law_draw_pair (T : Tx P w K mg base) (f__law_after : Fct P w K mg base 37 "_law_after" (Pur K 2 c__law_after)) (f__law_any_order : Fct P w K mg base 37 "_law_any_order" (PurI SrcF K 2 c__law_any_order)) (f__law_back : Fct P w K mg base 37 "_law_back" (Pur K 1 c__law_back)) (f__law_by_ends : Fct P w K mg base 38 "_law_by_ends" (Pur K 5 c__law_by_ends)) (f__law_draw_ends : Fct P w K mg base 38 "_law_draw_ends" (PurI SrcF K 2 c__law_draw_ends)) (f__law_draw_length : Fct P w K mg base 37 "_law_draw_length" (PurI SrcF K 2 c__law_draw_length)) (f__law_draw_stretching : Fct P w K mg base 39 "_law_draw_stretching" (PurI SrcF K 2 c__law_draw_stretching)) (f__law_move : Fct P w K mg base 36 "_law_move" (Pur K 4 c__law_move)) (f__law_pick : Fct P w K mg base 36 "_law_pick" (PurI SrcF K 2 c__law_pick)) {cdv : Value} {A : Around} {outer : List Env} {s : Shared} {H : Hp} {E : XK} {f : Addr} (hr : Room 39 (A.deeper (envOfC "_law_draw_pair" (defScope (topS 101)) s.heap.objs.size f cdv))) :
    PSs (cxOf CX0 P w K mg base N__law_draw_pair "_law_draw_pair" (defScope (topS 101)) f cdv A outer s H E).nox (defBody (topS 101)) (t__law_draw_pair K) :=
  pss_cons (ps_par (i := 2) (j := 3) rfl sc__law_draw_pair.nd rfl rfl (by decide) rfl rfl (pa_cons (pe_fct f__law_pick (hr.mono (by decide)) (by rfl) (pa_cons (pv 0) (pa_cons (pe_int) (pa_nil)))) (pa_cons (pe_fct f__law_draw_stretching (hr.mono (by decide)) (by rfl) (pa_cons (pv 0) (pa_cons (pv 1) (pa_nil)))) (pa_nil))) (by rfl)) (pss_cons (ps_if (pt_cmpR op_eq (pv 2) (pe_int) (nomark _)) (pss_cons (ps_set (i := 4) sc__law_draw_pair.nd rfl (by first | exact .inl rfl | exact .inr rfl) (pe_fct f__law_draw_ends (hr.mono (by decide)) (by rfl) (pa_cons (pv 0) (pa_cons (pv 1) (pa_nil))))) (pss_cons (ps_set (i := 5) sc__law_draw_pair.nd rfl (by first | exact .inl rfl | exact .inr rfl) (pe_fct f__law_any_order (hr.mono (by decide)) (by rfl) (pa_cons (pv 0) (pa_cons (pv 4) (pa_nil))))) (pss_cons (ps_set (i := 3) sc__law_draw_pair.nd rfl (by first | exact .inl rfl | exact .inr rfl) (pe_fct f__law_by_ends (hr.mono (by decide)) (by rfl) (pa_cons (pv 1) (pa_cons (pe_ix ix_list (pv 4) (pe_int) (fun _ _ => rfl)) (pa_cons (pe_ix ix_list (pv 4) (pe_int) (fun _ _ => rfl)) (pa_cons (pe_fct f__law_draw_length (hr.mono (by decide)) (by rfl) (pa_cons (pv 0) (pa_cons (pv 1) (pa_nil)))) (pa_cons (pe_int) (pa_nil)))))))) (pss_one (ps_ret (pe_tup (pa_cons (pv 3) (pa_cons (pe_fct f__law_by_ends (hr.mono (by decide)) (by rfl) (pa_cons (pv 1) (pa_cons (pe_ix ix_list (pv 5) (pe_int) (fun _ _ => rfl)) (pa_cons (pe_ix ix_list (pv 5) (pe_int) (fun _ _ => rfl)) (pa_cons (pe_fct f__law_draw_length (hr.mono (by decide)) (by rfl) (pa_cons (pv 0) (pa_cons (pv 1) (pa_nil)))) (pa_cons (pe_ix ix_list (pe_lst (pa_cons (pe_int) (pa_cons (pe_op op_sub (pe_int) (pe_int)) (pa_nil)))) (pe_fct f__law_pick (hr.mono (by decide)) (by rfl) (pa_cons (pv 0) (pa_cons (pe_int) (pa_nil)))) (fun _ _ => rfl)) (pa_nil))))))) (pa_nil))))))))) (pss_nil)) (pss_cons (ps_if (pt_cmpR op_eq (pv 2) (pe_int) (nomark _)) (pss_cons (ps_set (i := 6) sc__law_draw_pair.nd rfl (by first | exact .inl rfl | exact .inr rfl) (pe_fct f__law_any_order (hr.mono (by decide)) (by rfl) (pa_cons (pv 0) (pa_cons (pe_lst (pa_cons (pe_tup (pa_cons (pe_int) (pa_cons (pe_int) (pa_nil)))) (pa_cons (pe_tup (pa_cons (pe_fct f__law_pick (hr.mono (by decide)) (by rfl) (pa_cons (pv 0) (pa_cons (pe_int) (pa_nil)))) (pa_cons (pe_int) (pa_nil)))) (pa_cons (pe_tup (pa_cons (pe_op op_add (pe_int) (pe_fct f__law_pick (hr.mono (by decide)) (by rfl) (pa_cons (pv 0) (pa_cons (pe_int) (pa_nil))))) (pa_cons (pe_int) (pa_nil)))) (pa_nil))))) (pa_nil))))) (pss_cons (ps_par (i := 7) (j := 5) rfl sc__law_draw_pair.nd rfl rfl (by decide) rfl rfl (pa_cons (pe_slice sl_list (pv 6) (po_none) (po_some (pe_int))) (pa_cons (pe_fct f__law_any_order (hr.mono (by decide)) (by rfl) (pa_cons (pv 0) (pa_cons (pe_slice sl_list (pv 6) (po_some (pe_int)) (po_none)) (pa_nil)))) (pa_nil))) (by rfl)) (pss_cons (ps_set (i := 3) sc__law_draw_pair.nd rfl (by first | exact .inl rfl | exact .inr rfl) (pe_fct f__law_by_ends (hr.mono (by decide)) (by rfl) (pa_cons (pv 1) (pa_cons (pe_ix ix_list (pv 7) (pe_int) (fun _ _ => rfl)) (pa_cons (pe_ix ix_list (pv 7) (pe_int) (fun _ _ => rfl)) (pa_cons (pe_fct f__law_draw_length (hr.mono (by decide)) (by rfl) (pa_cons (pv 0) (pa_cons (pv 1) (pa_nil)))) (pa_cons (pe_int) (pa_nil)))))))) (pss_one (ps_ret (pe_tup (pa_cons (pv 3) (pa_cons (pe_fct f__law_by_ends (hr.mono (by decide)) (by rfl) (pa_cons (pv 1) (pa_cons (pe_ix ix_list (pv 5) (pe_int) (fun _ _ => rfl)) (pa_cons (pe_ix ix_list (pv 5) (pe_int) (fun _ _ => rfl)) (pa_cons (pe_fct f__law_draw_length (hr.mono (by decide)) (by rfl) (pa_cons (pv 0) (pa_cons (pv 1) (pa_nil)))) (pa_cons (pe_int) (pa_nil))))))) (pa_nil))))))))) (pss_nil)) (pss_cons (ps_if (pt_cmpR op_eq (pv 2) (pe_int) (nomark _)) (pss_cons (ps_set (i := 8) sc__law_draw_pair.nd rfl (by first | exact .inl rfl | exact .inr rfl) (pe_fct f__law_move (hr.mono (by decide)) (by rfl) (pa_cons (pe_int) (pa_cons (pe_op op_add (pe_int) (pe_fct f__law_pick (hr.mono (by decide)) (by rfl) (pa_cons (pv 0) (pa_cons (pe_int) (pa_nil))))) (pa_cons (pe_int) (pa_cons (pe_int) (pa_nil))))))) (pss_one (ps_ret (pe_tup (pa_cons (pv 3) (pa_cons (pe_ix ix_list (pe_lst (pa_cons (pe_fct f__law_back (hr.mono (by decide)) (by rfl) (pa_cons (pv 3) (pa_nil))) (pa_cons (pe_fct f__law_after (hr.mono (by decide)) (by rfl) (pa_cons (pv 8) (pa_cons (pe_fct f__law_after (hr.mono (by decide)) (by rfl) (pa_cons (pv 3) (pa_cons (pe_fct f__law_back (hr.mono (by decide)) (by rfl) (pa_cons (pv 8) (pa_nil))) (pa_nil)))) (pa_nil)))) (pa_nil)))) (pe_fct f__law_pick (hr.mono (by decide)) (by rfl) (pa_cons (pv 0) (pa_cons (pe_int) (pa_nil)))) (fun _ _ => rfl)) (pa_nil))))))) (pss_nil)) (pss_one (ps_ret (pe_tup (pa_cons (pv 3) (pa_cons (pe_fct f__law_draw_stretching (hr.mono (by decide)) (by rfl) (pa_cons (pv 0) (pa_cons (pv 1) (pa_nil)))) (pa_nil)))))))))
abbrev N__law_draw_ends : List Str := ["_law_source", "_law_p", "_law_one", "_law_other"]
theorem sc__law_draw_ends : FnScope N__law_draw_ends ["_law_source", "_law_p"] (defScope (topS 102)) := ⟨rfl, rfl, rfl, by decide +kernel, rfl, by decide +kernel, by decide +kernel⟩
theorem w__law_draw_ends (T : Tx P w K mg base) (f__law_draw_point : Fct P w K mg base 37 "_law_draw_point" (PurI SrcF K 2 c__law_draw_point)) (f__law_pick : Fct P w K mg base 36 "_law_pick" (PurI SrcF K 2 c__law_pick)) {cdv : Value} {A : Around} {outer : List Env} {s : Shared} {H : Hp} {E : XK} {f : Addr} (hr : Room 37 (A.deeper (envOfC "_law_draw_ends" (defScope (topS 102)) s.heap.objs.size f cdv))) :
    PSs (cxOf CX0 P w K mg base N__law_draw_ends "_law_draw_ends" (defScope (topS 102)) f cdv A outer s H E).nox (defBody (topS 102)) (t__law_draw_ends K) :=
  pss_cons (ps_par (i := 2) (j := 3) rfl sc__law_draw_ends.nd rfl rfl (by decide) rfl rfl (pa_cons (pe_fct f__law_draw_point (hr.mono (by decide)) (by rfl) (pa_cons (pv 0) (pa_cons (pv 1) (pa_nil)))) (pa_cons (pe_fct f__law_draw_point (hr.mono (by decide)) (by rfl) (pa_cons (pv 0) (pa_cons (pv 1) (pa_nil)))) (pa_nil))) (by rfl)) (pss_one (ps_ret (pe_ifExp (pt_cmpR (op_neD hr.units) (pv 2) (pv 3) (nomark _)) (pe_lst (pa_cons (pv 2) (pa_cons (pv 3) (pa_nil)))) (pe_lst (pa_cons (pe_tup (pa_cons (pe_int) (pa_cons (pe_int) (pa_nil)))) (pa_cons (pe_tup (pa_cons (pe_op op_sub (pe_fct f__law_pick (hr.mono (by decide)) (by rfl) (pa_cons (pv 0) (pa_cons (pe_int) (pa_nil)))) (pe_int)) (pa_cons (pe_int) (pa_nil)))) (pa_nil)))))))
abbrev N__law_draw_length : List Str := ["_law_source", "_law_p"]
theorem sc__law_draw_length : FnScope N__law_draw_length ["_law_source", "_law_p"] (defScope (topS 103)) := ⟨rfl, rfl, rfl, by decide +kernel, rfl, by decide +kernel, by decide +kernel⟩
theorem w__law_draw_length (T : Tx P w K mg base) (f__law_pick : Fct P w K mg base 36 "_law_pick" (PurI SrcF K 2 c__law_pick)) {cdv : Value} {A : Around} {outer : List Env} {s : Shared} {H : Hp} {E : XK} {f : Addr} (hr : Room 36 (A.deeper (envOfC "_law_draw_length" (defScope (topS 103)) s.heap.objs.size f cdv))) :
    PSs (cxOf CX0 P w K mg base N__law_draw_length "_law_draw_length" (defScope (topS 103)) f cdv A outer s H E).nox (defBody (topS 103)) (t__law_draw_length K) :=
  pss_one (ps_ret (pe_op op_add (pe_int) (pe_fct f__law_pick (hr.mono (by decide)) (by rfl) (pa_cons (pv 0) (pa_cons (pe_ifExp (pt_cmpR op_lt (pv 1) (pe_int) (nomark _)) (pe_int) (pe_int)) (pa_nil))))))
abbrev N__law_draw_near : List Str := ["_law_source", "_law_p", "_law_ends", "_law_most", "_law_gaps", "_law_near", "_law_x", "_law_y", "_law_gap", "_law_g", "_law_other", "_law_lap"]
theorem sc__law_draw_near : FnScope N__law_draw_near ["_law_source", "_law_p"] (defScope (topS 104)) := ⟨rfl, rfl, rfl, by decide +kernel, rfl, by decide +kernel, by decide +kernel⟩
theorem w__law_draw_near (T : Tx P w K mg base) (f__law_by_ends : Fct P w K mg base 38 "_law_by_ends" (Pur K 5 c__law_by_ends)) (f__law_draw_ends : Fct P w K mg base 38 "_law_draw_ends" (PurI SrcF K 2 c__law_draw_ends)) (f__law_fraction : Fct P w K mg base 36 "_law_fraction" (Pur K 2 c__law_fraction)) (f__law_pick : Fct P w K mg base 36 "_law_pick" (PurI SrcF K 2 c__law_pick)) (f__law_power : Fct P w K mg base 3 "_law_power" (Pur K 2 c__law_power)) {cdv : Value} {A : Around} {outer : List Env} {s : Shared} {H : Hp} {E : XK} {f : Addr} (hr : Room 38 (A.deeper (envOfC "_law_draw_near" (defScope (topS 104)) s.heap.objs.size f cdv))) :
    PSs (cxOf CX0 P w K mg base N__law_draw_near "_law_draw_near" (defScope (topS 104)) f cdv A outer s H E).nox (defBody (topS 104)) (t__law_draw_near K) :=
  pss_cons (ps_asg (pe_tup (pa_cons (pe_fct f__law_draw_ends (hr.mono (by decide)) (by rfl) (pa_cons (pv 0) (pa_cons (pv 1) (pa_nil)))) (pa_cons (pe_ifExp (pt_cmpR op_eq (pv 1) (pe_int) (nomark _)) (pe_int) (pe_int)) (pa_nil)))) (pg_tup rfl (pgs_cons (pg_name (i := 2) sc__law_draw_near.nd rfl (by first | exact .inl rfl | exact .inr rfl)) (pgs_cons (pg_name (i := 3) sc__law_draw_near.nd rfl (by first | exact .inl rfl | exact .inr rfl)) (pgs_nil))))) (pss_cons (ps_setLc (i := 4) rfl sc__law_draw_near.nd rfl rfl (sw_true rfl rfl rfl (by decide +kernel)) (pi_range1 (by rfl) T.m_range (pa_cons (pe_int) (pa_nil))) (blkOk_by (own := [("_law_lap", 11)]) (by show blkC N__law_draw_near (defScope (topS 104)) _ _ = true; decide +kernel)) (fun _ _ _ _ _ => pg_name (i := 11) sc__law_draw_near.nd rfl (by first | exact .inl rfl | exact .inr rfl)) (fun _ _ _ _ _ => pts_nil) (fun _ _ _ _ _ => pe_ix ix_tup (pe_fct f__law_power (hr.mono (by decide)) (by rfl) (pa_cons (pv 1) (pa_cons (pe_op op_add (pe_int) (pe_fct f__law_pick (hr.mono (by decide)) (by rfl) (pa_cons (pv 0) (pa_cons (pv 3) (pa_nil))))) (pa_nil)))) (pe_int) (fun _ _ => rfl))) (pss_cons (ps_set (i := 5) sc__law_draw_near.nd rfl (by first | exact .inl rfl | exact .inr rfl) (pe_lst (pa_nil))) (pss_cons (ps_for PassesOwn.never rfl (pi_zip (by rfl) T.m_zip (pa_cons (pv 2) (pa_cons (pv 4) (pa_nil)))) (pg_tup rfl (pgs_cons (pg_tup rfl (pgs_cons (pg_name (i := 6) sc__law_draw_near.nd rfl (by first | exact .inl rfl | exact .inr rfl)) (pgs_cons (pg_name (i := 7) sc__law_draw_near.nd rfl (by first | exact .inl rfl | exact .inr rfl)) (pgs_nil)))) (pgs_cons (pg_name (i := 8) sc__law_draw_near.nd rfl (by first | exact .inl rfl | exact .inr rfl)) (pgs_nil)))) (pss_one (ps_expr (pe_bm PySem.F.plainAttrs_list PySem.F.slot_list_append PySem.F.type_list_append mt_append (pv 5) (pa_cons (pe_ifExp (pt_cmpR op_eq (pv 7) (pe_int) (nomark _)) (pe_tup (pa_cons (pe_int) (pa_cons (pv 8) (pa_nil)))) (pe_fct f__law_fraction (hr.mono (by decide)) (by rfl) (pa_cons (pe_op op_add (pv 6) (pe_op op_mulX (pv 8) (pv 7))) (pa_cons (pv 7) (pa_nil))))) (pa_nil)))))) (pss_cons (ps_set (i := 9) sc__law_draw_near.nd rfl (by first | exact .inl rfl | exact .inr rfl) (pe_fct f__law_by_ends (hr.mono (by decide)) (by rfl) (pa_cons (pv 1) (pa_cons (pe_ix ix_list (pv 2) (pe_int) (fun _ _ => rfl)) (pa_cons (pe_ix ix_list (pv 2) (pe_int) (fun _ _ => rfl)) (pa_cons (pe_op op_add (pe_int) (pe_fct f__law_pick (hr.mono (by decide)) (by rfl) (pa_cons (pv 0) (pa_cons (pe_int) (pa_nil))))) (pa_cons (pe_int) (pa_nil)))))))) (pss_cons (ps_set (i := 5) sc__law_draw_near.nd rfl (by first | exact .inl rfl | exact .inr rfl) (pe_ifExp (pt_cmpR (op_neD hr.units) (pe_ix ix_list (pv 5) (pe_int) (fun _ _ => rfl)) (pe_ix ix_list (pv 5) (pe_int) (fun _ _ => rfl)) (nomark _)) (pv 5) (pv 2))) (pss_cons (ps_set (i := 10) sc__law_draw_near.nd rfl (by first | exact .inl rfl | exact .inr rfl) (pe_ifExp (pt_cmpR op_eq (pe_fct f__law_pick (hr.mono (by decide)) (by rfl) (pa_cons (pv 0) (pa_cons (pe_int) (pa_nil)))) (pe_int) (nomark _)) (pv 5) (pe_revL (pv 5)))) (pss_one (ps_ret (pe_tup (pa_cons (pv 9) (pa_cons (pe_fct f__law_by_ends (hr.mono (by decide)) (by rfl) (pa_cons (pv 1) (pa_cons (pe_ix ix_list (pv 10) (pe_int) (fun _ _ => rfl)) (pa_cons (pe_ix ix_list (pv 10) (pe_int) (fun _ _ => rfl)) (pa_cons (pe_op op_add (pe_int) (pe_fct f__law_pick (hr.mono (by decide)) (by rfl) (pa_cons (pv 0) (pa_cons (pe_int) (pa_nil))))) (pa_cons (pe_int) (pa_nil))))))) (pa_nil))))))))))))
abbrev N__law_products_right : List Str := ["_law_p", "_law_g", "_law_h", "_law_told", "_law_l", "_law_m", "_law_one", "_law_other"]
theorem sc__law_products_right : FnScope N__law_products_right ["_law_p", "_law_g", "_law_h", "_law_told"] (defScope (topS 105)) := ⟨rfl, rfl, rfl, by decide +kernel, rfl, by decide +kernel, by decide +kernel⟩
theorem w__law_products_right (T : Tx P w K mg base) (f_after : Fct P w K mg base 37 "after" (Pur K 2 c_after)) (f_back : Fct P w K mg base 37 "back" (Pur K 1 c_back)) (f_stretch : Fct P w K mg base 37 "stretch" (Pur K 2 c_stretch)) {cdv : Value} {A : Around} {outer : List Env} {s : Shared} {H : Hp} {E : XK} {f : Addr} (hr : Room 37 (A.deeper (envOfC "_law_products_right" (defScope (topS 105)) s.heap.objs.size f cdv))) :
    PSs (cxOf CX0 P w K mg base N__law_products_right "_law_products_right" (defScope (topS 105)) f cdv A outer s H E).nox (defBody (topS 105)) (t__law_products_right K) :=
  pss_cons (ps_par (i := 4) (j := 5) rfl sc__law_products_right.nd rfl rfl (by decide) rfl rfl (pa_cons (pe_fct f_stretch (hr.mono (by decide)) (by rfl) (pa_cons (pv 0) (pa_cons (pv 1) (pa_nil)))) (pa_cons (pe_fct f_stretch (hr.mono (by decide)) (by rfl) (pa_cons (pv 0) (pa_cons (pv 2) (pa_nil)))) (pa_nil))) (by rfl)) (pss_cons (ps_par (i := 6) (j := 7) rfl sc__law_products_right.nd rfl rfl (by decide) rfl rfl (pa_cons (pe_fct f_stretch (hr.mono (by decide)) (by rfl) (pa_cons (pv 0) (pa_cons (pe_fct f_after (hr.mono (by decide)) (by rfl) (pa_cons (pv 1) (pa_cons (pv 2) (pa_nil)))) (pa_nil)))) (pa_cons (pe_fct f_stretch (hr.mono (by decide)) (by rfl) (pa_cons (pv 0) (pa_cons (pe_fct f_after (hr.mono (by decide)) (by rfl) (pa_cons (pv 1) (pa_cons (pe_fct f_back (hr.mono (by decide)) (by rfl) (pa_cons (pv 2) (pa_nil))) (pa_nil)))) (pa_nil)))) (pa_nil))) (by rfl)) (pss_cons (ps_if (pt_cmpR op_eq (pe_ix ix_tup (pv 3) (pe_int) (fun _ _ => rfl)) (pe_str) (nomark _)) (pss_one (ps_ret (pe_chain op_eq op_eq (pv 6) (pv 7) (pe_op op_add (pe_op op_add (pv 4) (pv 5)) (pe_op op_mulX (pe_int) (pe_ix ix_tup (pv 3) (pe_int) (fun _ _ => rfl))))))) (pss_nil)) (pss_cons (ps_asg (pe_ifExp (pt_cmpR op_gt (pe_ix ix_tup (pv 3) (pe_int) (fun _ _ => rfl)) (pe_un un_neg (pe_int)) (nomark _)) (pe_tup (pa_cons (pv 6) (pa_cons (pv 7) (pa_nil)))) (pe_tup (pa_cons (pv 7) (pa_cons (pv 6) (pa_nil))))) (pg_tup rfl (pgs_cons (pg_name (i := 6) sc__law_products_right.nd rfl (by first | exact .inl rfl | exact .inr rfl)) (pgs_cons (pg_name (i := 7) sc__law_products_right.nd rfl (by first | exact .inl rfl | exact .inr rfl)) (pgs_nil))))) (pss_cons (ps_if (pt_cmpR op_ne (pv 6) (pe_op op_add (pv 4) (pv 5)) (nomark _)) (pss_one (ps_ret (pe_bl))) (pss_nil)) (pss_one (ps_ret (pe_ifExp (pt_cmpR op_lt (pe_ix ix_tup (pv 3) (pe_int) (fun _ _ => rfl)) (pe_callB (call_min2 rfl) (by rfl) T.m_min rfl (pa_cons (pv 4) (pa_cons (pv 5) (pa_nil)))) (nomark _)) (pe_cmpR op_eq (pv 7) (pe_op op_sub (pe_op op_add (pv 4) (pv 5)) (pe_op op_mulX (pe_int) (pe_ix ix_tup (pv 3) (pe_int) (fun _ _ => rfl)))) (nomark _)) (pe_cmpR op_le (pv 7) (pe_callB call_abs (by rfl) T.m_abs rfl (pa_cons (pe_op op_sub (pv 4) (pv 5)) (pa_nil))) (nomark _)))))))))
abbrev N__law_led_right : List Str := ["_law_p", "_law_g", "_law_h", "_law_told", "_law_t", "_law_one", "_law_other", "_law_many", "_law_sides", "_law_moved", "_law_changes", "_law_verdict", "_law_later", "_law_spot", "_law_u", "_law_v"]
theorem sc__law_led_right : FnScope N__law_led_right ["_law_p", "_law_g", "_law_h", "_law_told", "_law_t"] (defScope (topS 106)) := ⟨rfl, rfl, rfl, by decide +kernel, rfl, by decide +kernel, by decide +kernel⟩
theorem w__law_led_right (T : Tx P w K mg base) (f_after : Fct P w K mg base 37 "after" (Pur K 2 c_after)) (f_back : Fct P w K mg base 37 "back" (Pur K 1 c_back)) (f_four_sides : Fct P w K mg base 46 "four_sides" (Pur K 3 c_four_sides)) (f_judge_sides : Fct P w K mg base 45 "judge_sides" (Pur K 4 c_judge_sides)) (f_led : Fct P w K mg base 40 "led" (Pur K 3 c_led)) (f_lines : Fct P w K mg base 45 "lines" (Pur K 3 c_lines)) (f_shorten : Fct P w K mg base 47 "shorten" (Pur K 3 c_shorten)) {cdv : Value} {A : Around} {outer : List Env} {s : Shared} {H : Hp} {E : XK} {f : Addr} (hr : Room 47 (A.deeper (envOfC "_law_led_right" (defScope (topS 106)) s.heap.objs.size f cdv))) :
    PSs (cxOf CX0 P w K mg base N__law_led_right "_law_led_right" (defScope (topS 106)) f cdv A outer s H E).nox (defBody (topS 106)) (t__law_led_right K) :=
  pss_cons (ps_par (i := 5) (j := 6) rfl sc__law_led_right.nd rfl rfl (by decide) rfl rfl (pa_cons (pe_fct f_after (hr.mono (by decide)) (by rfl) (pa_cons (pv 4) (pa_cons (pe_fct f_after (hr.mono (by decide)) (by rfl) (pa_cons (pv 1) (pa_cons (pe_fct f_back (hr.mono (by decide)) (by rfl) (pa_cons (pv 4) (pa_nil))) (pa_nil)))) (pa_nil)))) (pa_cons (pe_fct f_after (hr.mono (by decide)) (by rfl) (pa_cons (pv 4) (pa_cons (pe_fct f_after (hr.mono (by decide)) (by rfl) (pa_cons (pv 2) (pa_cons (pe_fct f_back (hr.mono (by decide)) (by rfl) (pa_cons (pv 4) (pa_nil))) (pa_nil)))) (pa_nil)))) (pa_nil))) (by rfl)) (pss_cons (ps_set (i := 7) sc__law_led_right.nd rfl (by first | exact .inl rfl | exact .inr rfl) (pe_ifExp (pt_cmpR op_eq (pe_ix ix_tup (pv 3) (pe_int) (fun _ _ => rfl)) (pe_str) (nomark _)) (pe_int) (pe_int))) (pss_cons (ps_if (pt_cmpR (op_neD hr.units) (pe_fct f_lines (hr.mono (by decide)) (by rfl) (pa_cons (pv 0) (pa_cons (pv 5) (pa_cons (pv 6) (pa_nil))))) (pe_op op_catT (pe_slice sl_tupA (pv 3) (po_none) (po_some (pv 7))) (pe_callTy call_tuple_of (by rfl) T.m_tuple rfl (pa_cons (pe_lc rfl sc__law_led_right.nd (pi_tup (pe_slice sl_tupA (pv 3) (po_some (pv 7)) (po_none))) (blkOk_by (own := [("_law_spot", 13)]) (by show blkC N__law_led_right (defScope (topS 106)) _ _ = true; decide +kernel)) (fun _ _ _ _ _ => pg_name (i := 13) sc__law_led_right.nd rfl (by first | exact .inl rfl | exact .inr rfl)) (fun _ _ _ _ _ => pts_nil) (fun _ _ _ _ _ => pe_fct f_led (hr.mono (by decide)) (by rfl) (pa_cons (pv 0) (pa_cons (pv 4) (pa_cons (pv 13) (pa_nil)))))) (pa_nil)))) (nomark _)) (pss_one (ps_ret (pe_bl))) (pss_nil)) (pss_cons (ps_set (i := 8) sc__law_led_right.nd rfl (by first | exact .inl rfl | exact .inr rfl) (pe_fct f_four_sides (hr.mono (by decide)) (by rfl) (pa_cons (pv 0) (pa_cons (pv 1) (pa_cons (pv 2) (pa_nil)))))) (pss_cons (ps_if (pt_cmpR op_notN (pv 8) (pe_non) (nomark _)) (pss_cons (ps_set (i := 9) sc__law_led_right.nd rfl (by first | exact .inl rfl | exact .inr rfl) (pe_callTy call_tuple_of (by rfl) T.m_tuple rfl (pa_cons (pe_lc rfl sc__law_led_right.nd (pi_tup (pv 8)) (blkOk_by (own := [("_law_u", 14), ("_law_v", 15)]) (by show blkC N__law_led_right (defScope (topS 106)) _ _ = true; decide +kernel)) (fun _ _ _ _ _ => pg_tup rfl (pgs_cons (pg_name (i := 14) sc__law_led_right.nd rfl (by first | exact .inl rfl | exact .inr rfl)) (pgs_cons (pg_name (i := 15) sc__law_led_right.nd rfl (by first | exact .inl rfl | exact .inr rfl)) (pgs_nil)))) (fun _ _ _ _ _ => pts_nil) (fun _ _ _ _ _ => pe_tup (pa_cons (pe_fct f_led (hr.mono (by decide)) (by rfl) (pa_cons (pv 0) (pa_cons (pv 4) (pa_cons (pv 14) (pa_nil))))) (pa_cons (pe_fct f_led (hr.mono (by decide)) (by rfl) (pa_cons (pv 0) (pa_cons (pv 4) (pa_cons (pv 15) (pa_nil))))) (pa_nil))))) (pa_nil)))) (pss_one (ps_ret (pe_cmpR op_isN (pe_fct f_judge_sides (hr.mono (by decide)) (by rfl) (pa_cons (pv 0) (pa_cons (pv 5) (pa_cons (pv 6) (pa_cons (pv 9) (pa_nil)))))) (pe_non) (nomark _))))) (pss_nil)) (pss_cons (ps_asg (pe_fct f_shorten (hr.mono (by decide)) (by rfl) (pa_cons (pv 0) (pa_cons (pv 1) (pa_cons (pv 2) (pa_nil))))) (pg_tup rfl (pgs_cons (pg_name (i := 10) sc__law_led_right.nd rfl (by first | exact .inl rfl | exact .inr rfl)) (pgs_cons (pg_name (i := 11) sc__law_led_right.nd rfl (by first | exact .inl rfl | exact .inr rfl)) (pgs_nil))))) (pss_cons (ps_set (i := 12) sc__law_led_right.nd rfl (by first | exact .inl rfl | exact .inr rfl) (pe_fct f_shorten (hr.mono (by decide)) (by rfl) (pa_cons (pv 0) (pa_cons (pv 5) (pa_cons (pv 6) (pa_nil)))))) (pss_cons (ps_if (PW.pt (pw_or (pt_cmpR (op_neD hr.units) (pe_ix ix_tup (pv 12) (pe_int) (fun _ _ => rfl)) (pv 10) (nomark _)) (pw_or (pt_cmpR op_ne (pe_ix ix_tup (pe_ix ix_tup (pv 12) (pe_int) (fun _ _ => rfl)) (pe_int) (fun _ _ => rfl)) (pe_ix ix_tup (pv 11) (pe_int) (fun _ _ => rfl)) (nomark _)) (pw_or1 (PW.pt (pw_and (pt_cmpR op_eq (pe_ix ix_tup (pv 11) (pe_int) (fun _ _ => rfl)) (pe_str) (nomark _)) (pw_and1 (pt_cmpR (op_neD hr.units) (pe_ix ix_tup (pv 12) (pe_int) (fun _ _ => rfl)) (pv 11) (nomark _))))))))) (pss_one (ps_ret (pe_bl))) (pss_nil)) (pss_one (ps_ret (pe_cmpR op_isN (pe_fct f_four_sides (hr.mono (by decide)) (by rfl) (pa_cons (pv 0) (pa_cons (pv 5) (pa_cons (pv 6) (pa_nil))))) (pe_non) (nomark _)))))))))))
abbrev N_law : List Str := ["_law_script", "_law_source", "_law_turn", "_law_p", "_law_g", "_law_h", "_law_told", "_law_t", "_law_turned", "_law_due"]
theorem sc_law : FnScope N_law ["_law_script"] (defScope (topS 107)) := ⟨rfl, rfl, rfl, by decide +kernel, rfl, by decide +kernel, by decide +kernel⟩
theorem w_law (T : Tx P w K mg base) (f__law_draw_near : Fct P w K mg base 39 "_law_draw_near" (PurI SrcF K 2 c__law_draw_near)) (f__law_draw_pair : Fct P w K mg base 40 "_law_draw_pair" (PurI SrcF K 2 c__law_draw_pair)) (f__law_draw_prime : Fct P w K mg base 37 "_law_draw_prime" (PurI SrcF K 1 c__law_draw_prime)) (f__law_led_right : Fct P w K mg base 48 "_law_led_right" (Pur K 5 c__law_led_right)) (f__law_lines_kind : Fct P w K mg base 3 "_law_lines_kind" (Pur K 3 c__law_lines_kind)) (f__law_move : Fct P w K mg base 36 "_law_move" (Pur K 4 c__law_move)) (f__law_open_cells : Fct P w K mg base 2 "_law_open_cells" (spOpen K)) (f__law_pick : Fct P w K mg base 36 "_law_pick" (PurI SrcF K 2 c__law_pick)) (f__law_products_right : Fct P w K mg base 38 "_law_products_right" (Pur K 4 c__law_products_right)) (f_back : Fct P w K mg base 37 "back" (Pur K 1 c_back)) (f_lines : Fct P w K mg base 45 "lines" (Pur K 3 c_lines)) {cdv : Value} {A : Around} {outer : List Env} {s : Shared} {H : Hp} {E : XK} {f : Addr} (hr : Room 48 (A.deeper (envOfC "law" (defScope (topS 107)) s.heap.objs.size f cdv))) :
    PSs (cxOf CX0 P w K mg base N_law "law" (defScope (topS 107)) f cdv A outer s H E).nox (defBody (topS 107)) (t_law K) :=
  pss_cons (ps_set (i := 1) sc_law.nd rfl (by first | exact .inl rfl | exact .inr rfl) (pe_fct f__law_open_cells (hr.mono (by decide)) (by rfl) (pa_cons (pv 0) (pa_nil)))) (pss_cons (ps_for PassesOwn.never rfl (pi_range1 (by rfl) T.m_range (pa_cons (pe_int) (pa_nil))) (pg_name (i := 2) sc_law.nd rfl (by first | exact .inl rfl | exact .inr rfl)) (pss_cons (ps_set (i := 3) sc_law.nd rfl (by first | exact .inl rfl | exact .inr rfl) (pe_fct f__law_draw_prime (hr.mono (by decide)) (by rfl) (pa_cons (pv 1) (pa_nil)))) (pss_cons (ps_asg (pe_ifExp (PW.pt (pw_or (pt_cmpR op_lt (pv 2) (pe_int) (nomark _)) (pw_or1 (pt_cmpR op_gt (pv 3) (pe_int) (nomark _))))) (pe_fct f__law_draw_pair (hr.mono (by decide)) (by rfl) (pa_cons (pv 1) (pa_cons (pv 3) (pa_nil)))) (pe_fct f__law_draw_near (hr.mono (by decide)) (by rfl) (pa_cons (pv 1) (pa_cons (pv 3) (pa_nil))))) (pg_tup rfl (pgs_cons (pg_name (i := 4) sc_law.nd rfl (by first | exact .inl rfl | exact .inr rfl)) (pgs_cons (pg_name (i := 5) sc_law.nd rfl (by first | exact .inl rfl | exact .inr rfl)) (pgs_nil))))) (pss_one (ps_if (pt_cmpR op_eq (pe_fct f__law_lines_kind (hr.mono (by decide)) (by rfl) (pa_cons (pv 3) (pa_cons (pv 4) (pa_cons (pv 5) (pa_nil))))) (pe_str) (nomark _)) (pss_cons (ps_par (i := 6) (j := 7) rfl sc_law.nd rfl rfl (by decide) rfl rfl (pa_cons (pe_fct f_lines (hr.mono (by decide)) (by rfl) (pa_cons (pv 3) (pa_cons (pv 4) (pa_cons (pv 5) (pa_nil))))) (pa_cons (pe_fct f__law_move (hr.mono (by decide)) (by rfl) (pa_cons (pe_ix ix_list (pe_lst (pa_cons (pe_int) (pa_cons (pv 3) (pa_nil)))) (pe_fct f__law_pick (hr.mono (by decide)) (by rfl) (pa_cons (pv 1) (pa_cons (pe_int) (pa_nil)))) (fun _ _ => rfl)) (pa_cons (pe_op op_sub (pe_fct f__law_pick (hr.mono (by decide)) (by rfl) (pa_cons (pv 1) (pa_cons (pe_int) (pa_nil)))) (pe_int)) (pa_cons (pe_int) (pa_cons (pe_int) (pa_nil)))))) (pa_nil))) (by rfl)) (pss_cons (ps_if (PW.pt (pw_or (pt_not (pt_val (pe_fct f__law_products_right (hr.mono (by decide)) (by rfl) (pa_cons (pv 3) (pa_cons (pv 4) (pa_cons (pv 5) (pa_cons (pv 6) (pa_nil)))))))) (pw_or1 (pt_not (pt_val (pe_fct f__law_led_right (hr.mono (by decide)) (by rfl) (pa_cons (pv 3) (pa_cons (pv 4) (pa_cons (pv 5) (pa_cons (pv 6) (pa_cons (pv 7) (pa_nil)))))))))))) (pss_one (ps_ret (pe_bl))) (pss_nil)) (pss_cons (ps_set (i := 8) sc_law.nd rfl (by first | exact .inl rfl | exact .inr rfl) (pe_fct f_lines (hr.mono (by decide)) (by rfl) (pa_cons (pv 3) (pa_cons (pv 4) (pa_cons (pe_fct f_back (hr.mono (by decide)) (by rfl) (pa_cons (pv 5) (pa_nil))) (pa_nil)))))) (pss_cons (ps_set (i := 9) sc_law.nd rfl (by first | exact .inl rfl | exact .inr rfl) (pe_ifExp (pt_cmpR op_eq (pe_ix ix_tup (pv 6) (pe_int) (fun _ _ => rfl)) (pe_str) (nomark _)) (pv 6) (pe_op op_catT (pe_op op_catT (pe_slice sl_tupA (pv 6) (po_none) (po_some (pe_int))) (pe_tup (pa_cons (pe_op op_sub (pe_int) (pe_ix ix_tup (pv 6) (pe_int) (fun _ _ => rfl))) (pa_nil)))) (pe_slice sl_tupA (pv 6) (po_some (pe_int)) (po_none))))) (pss_one (ps_if (pt_cmpR (op_neD hr.units) (pv 8) (pv 9) (nomark _)) (pss_one (ps_ret (pe_bl))) (pss_nil))))))) (pss_nil)))))) (pss_one (ps_ret (pe_bl))))
end
end Bm
-- BmSize
set_option maxRecDepth 100000
set_option maxHeartbeats 2000000
/-! BmSize: how long numbers are; fractions as pairs. -/
namespace Bm
open PySem PySem.Spec PyProof.Rows L2 Bt
theorem sz_mono {m n : Nat} {a : Int} (h : sz m a) (q : m ≤ n) : sz n a := Nat.lt_of_lt_of_le h (Nat.pow_le_pow_right (by decide) q)
theorem sz_mul {m n : Nat} {a b : Int} (h : sz m a) (q : sz n b) : sz (m + n) (a * b) := by
  unfold sz at *
  rw [Int.natAbs_mul, Nat.pow_add]
  rcases Nat.eq_zero_or_pos b.natAbs with e | e
  · rw [e, Nat.mul_zero]
    exact Nat.mul_pos (Nat.pow_pos (by decide)) (Nat.pow_pos (by decide))
  · exact Nat.mul_lt_mul_of_lt_of_le h (Nat.le_of_lt q) (Nat.pow_pos (by decide))
theorem sz_add {m n k : Nat} {a b : Int} (h : sz m a) (q : sz n b) (hm : m < k) (hn : n < k) : sz k (a + b) := by
  have h1 := sz_mono h (Nat.le_sub_one_of_lt hm)
  have h2 := sz_mono q (Nat.le_sub_one_of_lt hn)
  unfold sz at *
  have : 2 ^ k = 2 ^ (k - 1) + 2 ^ (k - 1) := by
    rw [← Nat.two_mul, ← Nat.pow_succ']
    congr 1
    omega
  have := Int.natAbs_add_le a b
  omega
theorem sz_neg {n : Nat} {a : Int} (h : sz n a) : sz n (-a) := by
  unfold sz at *
  rwa [Int.natAbs_neg]
theorem sz_sub {m n k : Nat} {a b : Int} (h : sz m a) (q : sz n b) (hm : m < k) (hn : n < k) : sz k (a - b) := by
  rw [Int.sub_eq_add_neg]
  exact sz_add h (sz_neg q) hm hn
theorem sz_le {n : Nat} {a b : Int} (h : sz n b) (q : a.natAbs ≤ b.natAbs) : sz n a := Nat.lt_of_le_of_lt q h
theorem log_lt {n : Nat} {a : Int} (h : sz n a) : a.natAbs.log2 ≤ n - 1 := by
  unfold sz at h
  rcases Nat.eq_zero_or_pos a.natAbs with e | e
  · rw [e, show Nat.log2 0 = 0 from rfl]
    exact Nat.zero_le _
  · have := (Nat.log2_lt (by omega)).mpr h
    omega
theorem cm_of {m n : Nat} {a b : Int} (h : sz m a) (q : sz n b) (hs : m + n ≤ 130000000) : CMulX a b := by
  have h1 := log_lt h
  have h2 := log_lt q
  unfold CMulX
  omega
theorem cm_small {a b : Int} (h : -(2 ^ 64) < a ∧ a < 2 ^ 64) : CMulX a b := .inr (.inl h)
theorem cm_small' {a b : Int} (h : -(2 ^ 64) < b ∧ b < 2 ^ 64) : CMulX a b := .inr (.inr h)
theorem sz_pow {n : Nat} {a : Int} (h : sz n a) : ∀ k : Nat, sz (n * k + 1) (a ^ k)
  | 0 => by
    unfold sz
    rw [Int.pow_zero]
    simp
  | k + 1 => by
    rw [Int.pow_succ]
    exact sz_mono (sz_mul (sz_pow h k) h) (by rw [Nat.mul_succ]; omega)
theorem sz_one : sz 1 (1 : Int) := by
  unfold sz
  decide
theorem pp_sz {p : Int} (h : PP p) : sz 3 p := by
  rcases h with rfl | rfl | rfl | rfl <;> (unfold sz; decide)
theorem pp_pos {p : Int} (h : PP p) : 2 ≤ p := by
  rcases h with rfl | rfl | rfl | rfl <;> decide
theorem pp_ne {p : Int} (h : PP p) : p ≠ 0 := by have := pp_pos h; omega

/-! fractions -/
theorem den_pos (q : Rat) : (0 : Int) < (q.den : Int) := by have := q.den_nz; omega
theorem den_ne (q : Rat) : (q.den : Rat) ≠ 0 := fun e => q.den_nz (by exact_mod_cast e)
theorem num_div (q : Rat) : (q.num : Rat) / (q.den : Rat) = q := by
  have := Rat.num_divInt_den q
  rwa [Rat.divInt_eq_div, Rat.intCast_natCast] at this
theorem num_eq (q : Rat) : (q.num : Rat) = q * (q.den : Rat) := by
  have h := num_div q
  have d := den_ne q
  generalize (q.num : Rat) = n at *
  generalize (q.den : Rat) = m at *
  rw [← h, Rat.div_mul_cancel d]
/-- a fraction told by a pair: the parts of the pair that stay -/
theorem frac_mul {q : Rat} {n d : Int} (h : q * (d : Rat) = (n : Rat)) : n * (q.den : Int) = q.num * d := by
  have e := num_eq q
  have : ((n * (q.den : Int) : Int) : Rat) = ((q.num * d : Int) : Rat) := by
    rw [Rat.intCast_mul, Rat.intCast_mul, ← h, e, Rat.intCast_natCast]
    grind
  exact_mod_cast this
theorem frac_dvd {q : Rat} {n d : Int} (h : q * (d : Rat) = (n : Rat)) : ∃ k : Int, n = k * q.num ∧ d = k * (q.den : Int) := by
  have e := frac_mul h
  have c : Nat.Coprime q.den q.num.natAbs := q.reduced.symm
  have dv : q.den ∣ q.num.natAbs * d.natAbs := by
    rw [← Int.natAbs_mul, ← e, Int.natAbs_mul, Int.natAbs_natCast]
    exact Nat.dvd_mul_left _ _
  have dv2 : (q.den : Int) ∣ d := Int.ofNat_dvd_left.mpr (c.dvd_of_dvd_mul_left dv)
  obtain ⟨k, hk⟩ := dv2
  refine ⟨k, ?_, by rw [hk, Int.mul_comm]⟩
  have p := den_pos q
  have : (q.den : Int) * n = (q.den : Int) * (k * q.num) := by
    rw [Int.mul_comm _ n, e, hk]
    grind
  exact Int.eq_of_mul_eq_mul_left (by omega) this
theorem frac_sz {q : Rat} {n d : Int} {k m : Nat} (h : q * (d : Rat) = (n : Rat)) (hd : d ≠ 0) (hn : sz k n) (hm : sz m d) : sz k q.num ∧ sz m (q.den : Int) := by
  obtain ⟨j, e1, e2⟩ := frac_dvd h
  have hj : j ≠ 0 := fun z => hd (by rw [e2, z, Int.zero_mul])
  have hj' : 1 ≤ j.natAbs := by omega
  constructor
  · refine sz_le hn ?_
    rw [e1, Int.natAbs_mul]
    exact Nat.le_mul_of_pos_left _ hj'
  · refine sz_le hm ?_
    rw [e2, Int.natAbs_mul]
    exact Nat.le_mul_of_pos_left _ hj'
theorem cast_ne {d : Int} (h : d ≠ 0) : (d : Rat) ≠ 0 := fun e => h (by exact_mod_cast e)
/-- a pair without a common part is the fraction's -/
theorem frac_pair {q : Rat} {a b : Int} (h : q * (b : Rat) = (a : Rat)) (hb : 0 < b) (hg : Int.gcd a b = 1) : q.num = a ∧ (q.den : Int) = b := by
  obtain ⟨k, e1, e2⟩ := frac_dvd h
  have p := den_pos q
  have hk : 0 < k := by
    rcases Int.lt_trichotomy k 0 with z | z | z
    · have : k * (q.den : Int) < 0 := Int.mul_neg_of_neg_of_pos z p
      omega
    · rw [z, Int.zero_mul] at e2
      omega
    · exact z
  have d1 : k.natAbs ∣ Int.gcd a b := by
    have h1 : k ∣ a := ⟨_, e1⟩
    have h2 : k ∣ b := ⟨_, e2⟩
    exact Nat.dvd_gcd (Int.natAbs_dvd_natAbs.mpr h1) (Int.natAbs_dvd_natAbs.mpr h2)
  rw [hg] at d1
  have : k.natAbs = 1 := Nat.eq_one_of_dvd_one d1
  have k1 : k = 1 := by omega
  rw [k1, Int.one_mul] at e1 e2
  exact ⟨e1.symm, e2.symm⟩
/-- what is left of n, d when g, their greatest part, is taken out -/
theorem gcd_out {n d g : Int} (hd : d ≠ 0) (hg : g.natAbs = Int.gcd n d) (hs : 0 < g ↔ 0 < d) : g ≠ 0 ∧ n = g * n.fdiv g ∧ d = g * d.fdiv g ∧ 0 < d.fdiv g ∧ Int.gcd (n.fdiv g) (d.fdiv g) = 1 := by
  have g0 : 0 < Int.gcd n d := Int.gcd_pos_of_ne_zero_right _ hd
  have gn : g ≠ 0 := by omega
  have d1 : g ∣ n := Int.natAbs_dvd_natAbs.mp (by rw [hg]; exact Nat.gcd_dvd_left _ _)
  have d2 : g ∣ d := Int.natAbs_dvd_natAbs.mp (by rw [hg]; exact Nat.gcd_dvd_right _ _)
  have e1 : n.fdiv g = n / g := Int.fdiv_eq_ediv_of_dvd d1
  have e2 : d.fdiv g = d / g := Int.fdiv_eq_ediv_of_dvd d2
  have m1 : g * (n / g) = n := Int.mul_ediv_cancel' d1
  have m2 : g * (d / g) = d := Int.mul_ediv_cancel' d2
  rw [e1, e2]
  refine ⟨gn, m1.symm, m2.symm, ?_, ?_⟩
  · rcases Int.lt_trichotomy (d / g) 0 with z | z | z
    · exfalso
      by_cases hp : 0 < g
      · have : g * (d / g) < 0 := Int.mul_neg_of_pos_of_neg hp z
        have := hs.mp hp
        omega
      · have hg2 : g < 0 := by omega
        have : 0 < g * (d / g) := Int.mul_pos_of_neg_of_neg hg2 z
        exact hp (hs.mpr (by omega))
    · rw [z, Int.mul_zero] at m2
      omega
    · exact z
  · have h1 : g.natAbs * Int.gcd (n / g) (d / g) = Int.gcd n d := by
      rw [← Int.gcd_mul_left, m1, m2]
    rw [hg] at h1
    exact Nat.eq_of_mul_eq_mul_left g0 (by rw [h1, Nat.mul_one])
theorem frac_of {n d : Int} (hd : d ≠ 0) {g : Int} (hg : g.natAbs = Int.gcd n d) (hs : 0 < g ↔ 0 < d) : dF ((n : Rat) / (d : Rat)) = .tuple [.int (n.fdiv g), .int (d.fdiv g)] := by
  obtain ⟨g0, e1, e2, p, c⟩ := gcd_out hd hg hs
  have : ((n : Rat) / (d : Rat)) * ((d.fdiv g : Int) : Rat) = ((n.fdiv g : Int) : Rat) := by
    have a1 : (n : Rat) = (g : Rat) * ((n.fdiv g : Int) : Rat) := by
      rw [← Rat.intCast_mul, ← e1]
    have a2 : (d : Rat) = (g : Rat) * ((d.fdiv g : Int) : Rat) := by
      rw [← Rat.intCast_mul, ← e2]
    have b1 := cast_ne g0
    have b2 : ((d.fdiv g : Int) : Rat) ≠ 0 := cast_ne (by omega)
    rw [a1, a2]
    generalize ((n.fdiv g : Int) : Rat) = x at *
    generalize ((d.fdiv g : Int) : Rat) = y at *
    generalize (g : Rat) = z at *
    clear a1 a2 e1 e2
    grind
  obtain ⟨q1, q2⟩ := frac_pair this p c
  unfold dF
  rw [q1, q2]
/-! sums, products -/
theorem Sz.mono {m n : Nat} {x : Rat} (h : Sz m x) (q : m ≤ n) : Sz n x := ⟨sz_mono h.1 q, sz_mono h.2 q⟩
theorem Sz.mul {m n : Nat} {x y : Rat} (h : Sz m x) (q : Sz n y) : Sz (m + n) (x * y) := by
  have e1 := num_eq x
  have e2 := num_eq y
  refine frac_sz (n := x.num * y.num) (d := (x.den : Int) * (y.den : Int)) ?_ ?_ (sz_mul h.1 q.1) (sz_mul h.2 q.2)
  · rw [Rat.intCast_mul, Rat.intCast_mul, e1, e2, Rat.intCast_natCast, Rat.intCast_natCast]
    grind
  · have := den_pos x
    have := den_pos y
    exact Int.mul_ne_zero (by omega) (by omega)
theorem Sz.neg {m : Nat} {x : Rat} (h : Sz m x) : Sz m (-x) := ⟨by
  rw [Rat.neg_num]
  exact sz_neg h.1, h.2⟩
theorem Sz.add {m n : Nat} {x y : Rat} (h : Sz m x) (q : Sz n y) : Sz (m + n + 1) (x + y) := by
  have e1 := num_eq x
  have e2 := num_eq y
  have a := sz_add (k := m + n + 1) (sz_mul h.1 q.2) (sz_mul q.1 h.2) (by omega) (by omega)
  have b := sz_mono (sz_mul h.2 q.2) (show m + n ≤ m + n + 1 by omega)
  refine frac_sz (n := x.num * (y.den : Int) + y.num * (x.den : Int)) (d := (x.den : Int) * (y.den : Int)) ?_ ?_ a b
  · rw [Rat.intCast_mul, Rat.intCast_add, Rat.intCast_mul, Rat.intCast_mul, e1, e2, Rat.intCast_natCast, Rat.intCast_natCast]
    grind
  · have := den_pos x
    have := den_pos y
    exact Int.mul_ne_zero (by omega) (by omega)
theorem Sz.sub {m n : Nat} {x y : Rat} (h : Sz m x) (q : Sz n y) : Sz (m + n + 1) (x - y) := by
  rw [Rat.sub_eq_add_neg]
  exact h.add q.neg
theorem Sz.div {m n : Nat} {x y : Rat} (h : Sz m x) (q : Sz n y) (hy : y ≠ 0) : Sz (m + n) (x / y) := by
  have e1 := num_eq x
  have e2 := num_eq y
  have ny : y.num ≠ 0 := fun z => hy (Rat.num_eq_zero.mp z)
  refine frac_sz (n := x.num * (y.den : Int)) (d := (x.den : Int) * y.num) ?_ ?_ (sz_mul h.1 q.2) (sz_mul h.2 q.1)
  · rw [Rat.intCast_mul, Rat.intCast_mul, e1, e2, Rat.intCast_natCast, Rat.intCast_natCast]
    grind
  · have := den_pos x
    exact Int.mul_ne_zero (by omega) ny
theorem Sz.int {m : Nat} {a : Int} (h : sz m a) (hm : 1 ≤ m) : Sz m (a : Rat) := ⟨by
  rw [Rat.num_intCast]
  exact h, by
  rw [Rat.den_intCast]
  exact sz_mono sz_one hm⟩
end Bm
-- BmEv
set_option maxRecDepth 100000
set_option maxHeartbeats 2000000
/-! BmEv: the rules by the readings' short names; a walker. -/
namespace Bm
open PySem PySem.Spec PyProof.Rows L2
section
variable {F : Fr} {K : PySem.W.Frag} {S : SS} {N : SS → Prop} {R W : PyData → Prop} {WB : Bool → Prop} {te ta tb tc : TE} {tr : TA} {t u : TS} {i j : Nat}
theorem s_add (h : EV F K ta S fun d => EV F K tb S fun e => ∃ i j, d = .int i ∧ e = .int j ∧ W (.int (i + j))) : EV F K (tOp rAdd ta tb) S W := ev_add h
theorem s_sub (h : EV F K ta S fun d => EV F K tb S fun e => ∃ i j, d = .int i ∧ e = .int j ∧ W (.int (i - j))) : EV F K (tOp rSub ta tb) S W := ev_sub h
theorem s_mul (h : EV F K ta S fun d => EV F K tb S fun e => ∃ i j, d = .int i ∧ e = .int j ∧ CMulX i j ∧ W (.int (i * j))) : EV F K (tOp rMul ta tb) S W := ev_mul h
theorem s_fdv (h : EV F K ta S fun d => EV F K tb S fun e => ∃ i j, d = .int i ∧ e = .int j ∧ j ≠ 0 ∧ W (.int (i.fdiv j))) : EV F K (tOp rFdv ta tb) S W := ev_fdiv h
theorem s_mod (h : EV F K ta S fun d => EV F K tb S fun e => ∃ i j, d = .int i ∧ e = .int j ∧ j ≠ 0 ∧ W (.int (i.fmod j))) : EV F K (tOp rMod ta tb) S W := ev_mod h
theorem s_lt (h : EV F K ta S fun d => EV F K tb S fun e => ∃ i j, d = .int i ∧ e = .int j ∧ W (.bool (decide (i < j)))) : EV F K (tOp rLt ta tb) S W := ev_lt h
theorem s_le (h : EV F K ta S fun d => EV F K tb S fun e => ∃ i j, d = .int i ∧ e = .int j ∧ W (.bool (decide (i ≤ j)))) : EV F K (tOp rLe ta tb) S W := ev_le h
theorem s_gt (h : EV F K ta S fun d => EV F K tb S fun e => ∃ i j, d = .int i ∧ e = .int j ∧ W (.bool (decide (j < i)))) : EV F K (tOp rGt ta tb) S W := ev_gt h
theorem s_ge (h : EV F K ta S fun d => EV F K tb S fun e => ∃ i j, d = .int i ∧ e = .int j ∧ W (.bool (decide (j ≤ i)))) : EV F K (tOp rGe ta tb) S W := ev_ge h
theorem s_neg (h : EV F K ta S fun d => ∃ i, d = .int i ∧ W (.int (-i))) : EV F K (tUn rNeg ta) S W := ev_neg h
theorem s_isN (h : EV F K ta S fun d => EV F K tb S fun e => e = .none ∧ W (.bool (isNo d))) : EV F K (tOp rIsN ta tb) S W := ev_isN h
theorem s_notN (h : EV F K ta S fun d => EV F K tb S fun e => e = .none ∧ W (.bool (!isNo d))) : EV F K (tOp rNotN ta tb) S W := ev_notN h
theorem s_abs (h : EA F K tr S fun ds => ∃ i, ds = [.int i] ∧ W (.int (if i < 0 then -i else i))) : EV F K (tCB rAbs tr) S W := ev_abs h
theorem s_max (h : EA F K tr S fun ds => ∃ i j, ds = [.int i, .int j] ∧ W (.int (if j > i then j else i))) : EV F K (tCB rMax tr) S W := ev_max2 h
theorem s_min (h : EA F K tr S fun ds => ∃ i j, ds = [.int i, .int j] ∧ W (.int (if j < i then j else i))) : EV F K (tCB rMin tr) S W := ev_min2 h
theorem s_int1 (h : EA F K tr S fun ds => ∃ i, ds = [.int i] ∧ W (.int i)) : EV F K (tCB rInt1 tr) S W := ev_int1 h
theorem s_len (h : EA F K tr S fun ds => ∃ xs, (ds = [.list xs] ∨ ds = [.tuple xs]) ∧ W (.int xs.length)) : EV F K (tCB (rLen K) tr) S W := ev_len h
theorem s_tpl (h : EA F K tr S fun ds => ∃ xs, ds = [.list xs] ∧ W (.tuple xs)) : EV F K (tCB (rTpl K) tr) S W := ev_tupleOf h
theorem s_lst (h : EA F K tr S fun ds => ∃ xs, (ds = [.list xs] ∨ ds = [.tuple xs]) ∧ W (.list xs)) : EV F K (tCB (rLst K) tr) S W := ev_listOf h
/-- a tuple, a list that is not too long -/
theorem s_tup (h : EA F K tr S fun ds => ds.length ≤ 1000000 ∧ W (.tuple ds)) : EV F K (tTup tr) S W := ev_tup (h.imp fun _ q => ⟨Nat.le_trans q.1 (by decide), q.2⟩)
theorem s_dis (h : EA F K tr S fun ds => ds.length ≤ 1000000 ∧ W (.list ds)) : EV F K (tLst tr) S W := ev_lst (h.imp fun _ q => ⟨Nat.le_trans q.1 (by decide), q.2⟩)
theorem iteD {c A B : Prop} [Decidable c] (h1 : c → A) (h2 : ¬ c → B) : if decide c = true then A else B := by
  by_cases h : c
  · rw [decide_eq_true h]
    exact h1 h
  · rw [decide_eq_false h, if_neg Bool.false_ne_true]
    exact h2 h
theorem iteN {c A B : Prop} [Decidable c] (h1 : c → B) (h2 : ¬ c → A) : if (!decide c) = true then A else B := by
  by_cases h : c
  · rw [decide_eq_true h]
    exact (if_neg (c := (!true) = true) (by decide)).symm ▸ h1 h
  · rw [decide_eq_false h]
    exact h2 h
theorem iteB {b : Bool} {A B : Prop} (h1 : b = true → A) (h2 : b = false → B) : if b = true then A else B := by
  cases b with
  | true => exact h1 rfl
  | false => exact (if_neg Bool.false_ne_true).symm ▸ h2 rfl
theorem xs_drop (h : EV F K te S fun _ => N S) : XS F K (tDrop te) S N R := fun σ H hs D hn hr => h σ H hs _ fun v d H1 e a n => hn σ S H1 e (hs.mono e) n
theorem eg_lst {gs : TGs} {ds : List PyData} {n : Nat} (hl : ds.length = n) (h : EGs F K gs ds S N) : EG F K (gLst K n gs) (.list ds) S N := fun v σ H a hs Q q => by
  obtain ⟨p, xs, rfl, hp, hx⟩ := lst_inv a
  exact ⟨p, xs, rfl, SqL.of (F.sub _ _ hp), by rw [hx.len]; exact hl, h xs σ H hx hs Q q⟩
theorem xs_asgL {is : List Nat} {n : Nat} (hn : is.length = n) (h : EV F K te S fun d => ∃ ds, d = .list ds ∧ ds.length = n ∧ N (sets S is ds)) : XS F K (tAsg te (gLst K n (gNames is))) S N R :=
  xs_asgG (h.imp fun d ⟨ds, ed, hl, k⟩ => by
    subst ed
    exact eg_lst hl (egs_names (hn.trans hl.symm) k))
end
end Bm
-- BmR1
set_option maxRecDepth 100000
set_option maxHeartbeats 2000000
/-! BmR1: what the defs compute: fractions. -/
namespace Bm
open PySem PySem.Spec PyProof.Rows L2 Bt
local macro_rules | `(tactic| and_intros) => `(tactic| repeat (with_reducible first
  | refine xs_seq ?_ | refine xs_ret ?_ | refine xs_asg ?_ | refine xs_par ?_ | refine xs_par3 ?_ | refine xs_if ?_ | refine xs_asgT rfl ?_
  | (refine ev_var (d := ?_) ?_ ?_; rotate_left; (with_unfolding_all exact rfl))
  | refine ev_int ?_ | refine ev_bl ?_ | refine ev_str ?_ | refine ev_non ?_
  | refine ev_ixT ?_ | refine ev_ixL ?_ | refine ea_nil ?_ | refine ea_cons ?_ | refine s_tup ?_ | refine s_dis ?_ | refine ev_call ?_
  | refine ⟨_, _, _, rfl, rfl, (by with_unfolding_all exact rfl), ?_⟩
  | refine s_add ?_ | refine s_sub ?_ | refine s_mul ?_ | refine s_fdv ?_ | refine s_mod ?_ | refine s_lt ?_ | refine s_le ?_ | refine s_gt ?_ | refine s_ge ?_ | refine s_neg ?_
  | refine ⟨_, _, rfl, rfl, ?_⟩ | refine ⟨_, _, rfl, ?_⟩ | refine ⟨_, rfl, ?_⟩
  | refine ev_if ?_ | refine et_T ?_ | refine et_B ?_ | refine et_not ?_ | refine et_and ?_ | refine et_or ?_
  | refine ev_gcd2 ?_ | refine ev_eqI ?_ | refine ev_neI ?_
  | refine ⟨(by with_unfolding_all exact rfl), ?_⟩ | refine ⟨Nat.le_of_ble_eq_true (by with_unfolding_all exact rfl), ?_⟩
  | refine ⟨_, rfl, (by with_unfolding_all exact rfl), ?_⟩))
section
variable {F : Fr} {K : PySem.W.Frag} {W : PyData → Prop}
/-- a def's reading keeps its promise -/
abbrev Kp (F : Fr) (K : PySem.W.Frag) (t : TS) (n m : Nat) (C : Ct) : Prop := ∀ ds W, ds.length = n → C ds W → XS F K t (ds.map some ++ List.replicate (m - n) none) (fun _ => W .none) W
theorem r_is_number : Kp F K (t_is_number K) 1 1 c_is_number := fun ds W hl c => by
  obtain ⟨i, rfl, w⟩ := c
  unfold t_is_number
  and_intros
  refine ev_and (ev_isi (ev_var rfl ⟨rfl, _, rfl, true, rfl, ?_⟩))
  rw [if_pos rfl]
  refine ev_not (ev_isi (ev_var rfl ⟨rfl, false, rfl, _, rfl, w⟩))
theorem r_plus : Kp F K (t_plus K) 2 2 c_plus := fun ds W hl c => by
  obtain ⟨x, y, rfl, sx, sy, w⟩ := c
  unfold t_plus
  and_intros
  refine ⟨cm_of sx.1 sy.2 (by decide), ?_⟩
  and_intros
  refine ⟨cm_of sy.1 sx.2 (by decide), ?_⟩
  and_intros
  refine ⟨cm_of sx.2 sy.2 (by decide), ?_⟩
  and_intros
  refine ⟨_, _, rfl, ?_, ?_⟩
  · have := den_pos x
    have := den_pos y
    exact Int.mul_ne_zero (by omega) (by omega)
  · refine cast (congrArg (fun z => W (dF z)) ?_) w
    have e1 := num_eq x
    have e2 := num_eq y
    have d1 := den_ne x
    have d2 := den_ne y
    rw [Rat.intCast_add, Rat.intCast_mul, Rat.intCast_mul, Rat.intCast_mul, e1, e2, Rat.intCast_natCast, Rat.intCast_natCast]
    grind
theorem r_minus : Kp F K (t_minus K) 2 2 c_minus := fun ds W hl c => by
  obtain ⟨x, y, rfl, sx, sy, w⟩ := c
  unfold t_minus
  and_intros
  refine ⟨cm_of sx.1 sy.2 (by decide), ?_⟩
  and_intros
  refine ⟨cm_of sy.1 sx.2 (by decide), ?_⟩
  and_intros
  refine ⟨cm_of sx.2 sy.2 (by decide), ?_⟩
  and_intros
  refine ⟨_, _, rfl, ?_, ?_⟩
  · have := den_pos x
    have := den_pos y
    exact Int.mul_ne_zero (by omega) (by omega)
  · refine cast (congrArg (fun z => W (dF z)) ?_) w
    have e1 := num_eq x
    have e2 := num_eq y
    have d1 := den_ne x
    have d2 := den_ne y
    rw [Rat.intCast_sub, Rat.intCast_mul, Rat.intCast_mul, Rat.intCast_mul, e1, e2, Rat.intCast_natCast, Rat.intCast_natCast]
    grind
theorem r_times_of : Kp F K (t_times_of K) 2 2 c_times_of := fun ds W hl c => by
  obtain ⟨x, y, rfl, sx, sy, w⟩ := c
  unfold t_times_of
  and_intros
  refine ⟨cm_of sx.1 sy.1 (by decide), ?_⟩
  and_intros
  refine ⟨cm_of sx.2 sy.2 (by decide), ?_⟩
  and_intros
  refine ⟨_, _, rfl, ?_, ?_⟩
  · have := den_pos x
    have := den_pos y
    exact Int.mul_ne_zero (by omega) (by omega)
  · refine cast (congrArg (fun z => W (dF z)) ?_) w
    have e1 := num_eq x
    have e2 := num_eq y
    have d1 := den_ne x
    have d2 := den_ne y
    rw [Rat.intCast_mul, Rat.intCast_mul, e1, e2, Rat.intCast_natCast, Rat.intCast_natCast]
    grind
theorem r_divided : Kp F K (t_divided K) 2 2 c_divided := fun ds W hl c => by
  obtain ⟨x, y, rfl, sx, sy, hy, w⟩ := c
  unfold t_divided
  and_intros
  refine ⟨cm_of sx.1 sy.2 (by decide), ?_⟩
  and_intros
  refine ⟨cm_of sx.2 sy.1 (by decide), ?_⟩
  and_intros
  refine ⟨_, _, rfl, ?_, ?_⟩
  · have := den_pos x
    exact Int.mul_ne_zero (by omega) fun z => hy (Rat.num_eq_zero.mp z)
  · refine cast (congrArg (fun z => W (dF z)) ?_) w
    have e1 := num_eq x
    have e2 := num_eq y
    have d1 := den_ne x
    have d2 := den_ne y
    rw [Rat.intCast_mul, Rat.intCast_mul, e1, e2, Rat.intCast_natCast, Rat.intCast_natCast]
    grind
theorem r_is_less : Kp F K (t_is_less K) 2 2 c_is_less := fun ds W hl c => by
  obtain ⟨x, y, rfl, sx, sy, w⟩ := c
  unfold t_is_less
  and_intros
  refine ⟨cm_of sx.1 sy.2 (by decide), ?_⟩
  and_intros
  refine ⟨cm_of sy.1 sx.2 (by decide), ?_⟩
  and_intros
  refine cast (congrArg (fun z => W (.bool z)) ?_) w
  exact decide_eq_decide.mpr (Rat.lt_iff x y)
theorem r_fraction : Kp F K (t_fraction K) 2 3 c_fraction := fun ds W hl c => by
  obtain ⟨n, d, rfl, hd, w⟩ := c
  unfold t_fraction
  have g0 : 0 < Int.gcd n d := Int.gcd_pos_of_ne_zero_right _ hd
  and_intros
  refine iteD (fun h => ?_) (fun h => ?_)
  · and_intros
    refine ⟨by unfold Int.gcd at g0; omega, ?_⟩
    and_intros
    refine ⟨by unfold Int.gcd at g0; omega, ?_⟩
    and_intros
    rw [frac_of hd (g := ((Nat.gcd n.natAbs d.natAbs : Nat) : Int)) (by rw [Int.natAbs_natCast]; rfl) (by unfold Int.gcd at g0; omega)] at w
    exact w
  · and_intros
    refine ⟨by unfold Int.gcd at g0; omega, ?_⟩
    and_intros
    refine ⟨by unfold Int.gcd at g0; omega, ?_⟩
    and_intros
    rw [frac_of hd (g := -((Nat.gcd n.natAbs d.natAbs : Nat) : Int)) (by rw [Int.natAbs_neg, Int.natAbs_natCast]; rfl) (by unfold Int.gcd at g0; omega)] at w
    exact w
theorem r_is_row_of_numbers : Kp F K (t_is_row_of_numbers K) 2 3 c_is_row_of_numbers := fun ds W hl c => by
  obtain ⟨a, b, rfl, w⟩ := c
  unfold t_is_row_of_numbers
  and_intros
  refine ev_and (ev_isi (ev_var rfl ⟨rfl, _, rfl, true, rfl, ?_⟩))
  rw [if_pos rfl]
  refine ev_and (ev_eqI (s_len ?_))
  and_intros
  refine ⟨_, .inr rfl, ?_⟩
  and_intros
  refine iteD (fun _ => ?_) (fun z => absurd rfl z)
  refine ev_all (ea_cons (ev_lcT (ev_var rfl ⟨_, fun k ds => ds = (List.replicate k true).map PyData.bool, rfl, Nat.le_of_ble_eq_true rfl, rfl, ?_, ?_⟩)))
  · intro k x hx G hG ds hds
    refine et_yes ?_
    rw [if_pos rfl]
    and_intros
    have : ∃ i, x = PyData.int i := by
      match k, hx with
      | 0, hx => exact ⟨a, (Option.some.inj hx).symm⟩
      | 1, hx => exact ⟨b, (Option.some.inj hx).symm⟩
    obtain ⟨i, rfl⟩ := this
    refine ⟨i, rfl, ?_⟩
    show ds ++ [PyData.bool true] = List.map PyData.bool (List.replicate (k + 1) true)
    rw [hds, List.replicate_succ', List.map_append]
    rfl
  · intro ds hds
    subst hds
    and_intros
    exact w
theorem r_is_fraction : Kp F K (t_is_fraction K) 1 1 c_is_fraction := fun ds W hl c => by
  obtain ⟨q, rfl, w⟩ := c
  unfold t_is_fraction
  and_intros
  refine ev_and ?_
  and_intros
  refine ⟨_, _, rfl, ?_⟩
  refine ⟨true, rfl, ?_⟩
  rw [if_pos rfl]
  refine ev_and ?_
  and_intros
  rw [if_pos (decide_eq_true (den_pos q))]
  and_intros
  refine cast (congrArg (fun z => W (.bool z)) ?_) w
  refine (decide_eq_true ?_).symm
  have := q.reduced
  rw [Int.natAbs_natCast]
  unfold Nat.Coprime at this
  omega
theorem r_split_off : Kp F K (t_split_off K) 2 3 c_split_off := fun ds W hl c => by
  obtain ⟨p, n, hp, rfl, hn, w⟩ := c
  unfold t_split_off
  have p2 := pp_pos hp
  and_intros
  refine xs_while (m0 := n.natAbs) (I := fun m S => ∃ (k : Nat) (u : Int), S = [some (.int p), some (.int u), some (.int (k : Int))] ∧ n = p ^ k * u ∧ u ≠ 0 ∧ u.natAbs = m) ⟨0, n, rfl, by simp, hn, rfl⟩ ?_
  rintro m S ⟨k, u, rfl, e, hu, hm⟩
  and_intros
  refine ⟨by omega, ?_⟩
  and_intros
  refine iteD (fun h => ?_) (fun h => ?_)
  · and_intros
    refine ⟨by omega, ?_⟩
    and_intros
    have dv : p ∣ u := Int.dvd_of_fmod_eq_zero h
    have e1 : u.fdiv p = u / p := Int.fdiv_eq_ediv_of_dvd dv
    have e2 : p * (u / p) = u := Int.mul_ediv_cancel' dv
    have n0 : u / p ≠ 0 := fun z => hu (by rw [← e2, z, Int.mul_zero])
    refine ⟨(u / p).natAbs, ?_, k + 1, u / p, by rw [e1]; rfl, ?_, n0, rfl⟩
    · rw [← hm]
      have a1 : u.natAbs = p.natAbs * (u / p).natAbs := by rw [← Int.natAbs_mul, e2]
      have : 0 < (u / p).natAbs := by omega
      have : 2 ≤ p.natAbs := by omega
      rw [a1]
      have := Nat.mul_le_mul_right (u / p).natAbs this
      omega
    · rw [e, Int.pow_succ, Int.mul_assoc, e2]
  · and_intros
    exact w k u e fun dv => h (Int.fmod_eq_zero_of_dvd dv)
theorem r_parts : Kp F K (t_parts K) 2 2 c_parts := fun ds W hl c => by
  obtain ⟨p, x, hp, rfl, hx, w⟩ := c
  have hq := hp.pi.toIsPr
  unfold t_parts
  have nx : x.num ≠ 0 := fun z => hx (Rat.num_eq_zero.mp z)
  and_intros
  refine iteD (fun h => absurd h nx) (fun _ => ?_)
  refine xs_next ?_
  and_intros
  refine ⟨p, x.num, hp, rfl, nx, fun k u e1 d1 => ?_⟩
  and_intros
  refine ⟨p, x.den, hp, rfl, by have := den_pos x; omega, fun j v e2 d2 => ?_⟩
  and_intros
  refine cast (congrArg (fun z => W (.int z)) ?_) w
  refine vl_of hq ?_
  have v1 := vx_int hq (a := k) d1
  have v2 := vx_int hq (a := j) d2
  rw [← e1] at v1
  rw [← e2] at v2
  have := vx_mul hq v1 (vx_inv hq v2)
  rw [show (k : Int) - j = (k : Int) + -(j : Int) by omega]
  have e := num_div x
  rw [Rat.div_def] at e
  rw [Rat.intCast_natCast] at this
  rwa [e] at this
theorem r_raised : Kp F K (t_raised K) 2 4 c_raised := fun ds W hl c => by
  obtain ⟨n, k, rfl, hn, hk, w⟩ := c
  unfold t_raised
  and_intros
  refine xs_forR1 (P := fun i S => ∃ o, S = [some (.int n), some (.int (k : Int)), some (.int (n ^ i)), o]) (ea_cons (ev_var rfl (ea_nil ⟨(k : Int), rfl, by omega, by omega, ⟨none, by rw [Int.pow_zero]; rfl⟩, ?_, ?_⟩)))
  · rintro i S hi ⟨o, rfl⟩
    and_intros
    refine ⟨cm_of (sz_pow hn i) hn (by omega), ?_⟩
    and_intros
    exact ⟨_, by rw [Int.pow_succ]; rfl⟩
  · rintro S ⟨o, rfl⟩
    and_intros
    exact w
theorem pw_neg_num {p : Int} (hp : PP p) (n : Int) (hn : n < 0) : dF (Pw p n) = .tuple [.int 1, .int (p ^ (-n).toNat)] := by
  have hq := hp.pi.toIsPr
  have p2 := pp_pos hp
  have e := pw_inv hq n
  rw [pw_nonneg (show 0 ≤ -n by omega)] at e
  obtain ⟨q1, q2⟩ := frac_pair (q := Pw p n) (a := 1) (b := p ^ (-n).toNat) (by rw [Rat.mul_comm, e]; rfl) (Int.pow_pos (by omega)) (Int.one_gcd ..)
  unfold dF
  rw [q1, q2]
theorem pw_num {p : Int} (n : Int) (hn : 0 ≤ n) : dF (Pw p n) = .tuple [.int (p ^ n.toNat), .int 1] := by
  rw [pw_nonneg hn]
  unfold dF
  rw [Rat.num_intCast, Rat.den_intCast]
  rfl
theorem r_power_of : Kp F K (t_power_of K) 2 2 c_power_of := fun ds W hl c => by
  obtain ⟨p, n, hp, rfl, hn, w⟩ := c
  unfold t_power_of
  and_intros
  refine iteD (fun h => ?_) (fun h => ?_)
  · and_intros
    refine ⟨p, n.toNat, by rw [Int.toNat_of_nonneg h], pp_sz hp, by omega, ?_⟩
    and_intros
    rw [pw_num n h] at w
    exact w
  · and_intros
    refine ⟨p, (-n).toNat, by rw [Int.toNat_of_nonneg (by omega)], pp_sz hp, by omega, ?_⟩
    and_intros
    rw [pw_neg_num hp n (by omega)] at w
    exact w
theorem inv1 {s x n a m c1 y b c2 t : Int} (e2 : s * x * n - a = m * c1) (e3 : -(s * y) * n - b = m * c2) : -(-s * (x + t * y)) * n - (a - t * b) = m * (c1 - t * c2) := by grind
theorem inv2 {s y n b m c2 : Int} (e3 : -(s * y) * n - b = m * c2) : -s * y * n - b = m * c2 := by grind
theorem inv3 {a b u v t : Int} (e : a * u + b * v = 1) : b * (u * t + v) + (a - t * b) * u = 1 := by grind
theorem inv4 {m b a x y t : Int} (e : b * x + a * y = m) : (a - t * b) * y + b * (x + t * y) = m := by grind
theorem inv5 {n m A B q z : Int} (e : n * A + m * B = 1) (h : z + m * q = n) : z * A + m * (B + q * A) = 1 := by grind
theorem inv6 {a b t r : Int} (h : r + b * t = a) : a - t * b = r := by grind
theorem inv7 {n m q c1 r t : Int} (e : q * n - 1 = m * c1) (h : r + m * t = q) : n * r - 1 = m * (c1 - t * n) := by grind
theorem inv8 {s x y t : Int} : -(-s * (x + t * y)) = s * x - t * -(s * y) := by grind
theorem inv9 {n m z y : Int} (h : z + m * y = n) : 1 * 1 * n - z = m * y := by grind
theorem sz_nn {k : Nat} {a m : Int} (h : sz k m) (h0 : 0 ≤ a) (h1 : a ≤ m) : sz k a := sz_le h (by omega)
/-- what the loop of inverse keeps -/
structure InvI (n m : Int) (S : SS) (b : Int) : Prop where
  ex : ∃ (a x y s : Int) (o : Option PyData), S = [some (.int n), some (.int m), some (.int a), some (.int b), some (.int (s * x)), some (.int (-(s * y))), o] ∧
    0 ≤ a ∧ a ≤ m ∧ 0 ≤ b ∧ b ≤ m ∧ 0 ≤ x ∧ x ≤ m ∧ 0 ≤ y ∧ y ≤ m ∧ (s = 1 ∨ s = -1) ∧ b * x + a * y = m ∧ (∃ c, s * x * n - a = m * c) ∧ (∃ c, -(s * y) * n - b = m * c) ∧ ∃ u v, a * u + b * v = 1
theorem r_inverse : Kp F K (t_inverse K) 2 7 c_inverse := fun ds W hl c => by
  obtain ⟨n, m, rfl, hm, sm, ⟨A, B, hg⟩, w⟩ := c
  unfold t_inverse
  and_intros
  refine ⟨by omega, ?_⟩
  and_intros
  have q1 : n.fmod m = n % m := Int.fmod_eq_emod_of_nonneg n (by omega)
  have q2 := Int.emod_nonneg n (show m ≠ 0 by omega)
  have q3 := Int.emod_lt_of_pos n hm
  have q4 := Int.emod_add_mul_ediv n m
  refine xs_while (m0 := m.toNat) (I := fun k S => ∃ b, k = b.toNat ∧ InvI n m S b) ⟨m, rfl, n % m, 1, 0, 1, none, by rw [q1]; rfl, q2, by omega, by omega, by omega, by decide, by omega, by decide, by omega, .inl rfl, ?_, ?_, ?_, ?_⟩ ?_
  · rw [Int.mul_one, Int.mul_zero, Int.add_zero]
  · exact ⟨n / m, inv9 q4⟩
  · exact ⟨-1, by omega⟩
  · exact ⟨A, B + n / m * A, inv5 hg q4⟩
  rintro k S ⟨b, rfl, a, x, y, s, o, rfl, a0, am, b0, bm, x0, xm, y0, ym, hs, e1, ⟨c1, e2⟩, ⟨c2, e3⟩, u, v, e4⟩
  and_intros
  refine iteN (fun h => ?_) (fun h => ?_)
  · subst h
    and_intros
    refine ⟨by omega, ?_⟩
    and_intros
    have a1 : a = 1 := by
      have : a * u = 1 := by omega
      exact Int.eq_one_of_mul_eq_one_right a0 this
    subst a1
    have f1 : (s * x).fmod m = (s * x) % m := Int.fmod_eq_emod_of_nonneg _ (by omega)
    rw [f1]
    have f2 := Int.emod_nonneg (s * x) (show m ≠ 0 by omega)
    have f3 := Int.emod_lt_of_pos (s * x) hm
    have f4 := Int.emod_add_mul_ediv (s * x) m
    exact w _ f2 f3 ⟨c1 - s * x / m * n, inv7 e2 f4⟩
  · have bp : 0 < b := by omega
    and_intros
    refine ⟨h, ?_⟩
    and_intros
    have f1 : a.fdiv b = a / b := Int.fdiv_eq_ediv_of_nonneg _ b0
    rw [f1]
    have f2 := Int.emod_nonneg a (show b ≠ 0 by omega)
    have f3 := Int.emod_lt_of_pos a bp
    have f4 := Int.emod_add_mul_ediv a b
    have t0 : 0 ≤ a / b := Int.ediv_nonneg a0 b0
    have ta : a / b ≤ a := Int.ediv_le_self _ a0
    refine ⟨cm_of (sz_nn sm t0 (by omega)) (sz_nn sm b0 bm) (by decide), ?_⟩
    and_intros
    refine ⟨cm_of (sz_nn sm t0 (by omega)) (n := 60000001) (by
      refine sz_neg (sz_le sm ?_)
      rcases hs with rfl | rfl <;> omega) (by decide), ?_⟩
    and_intros
    have eb := inv6 f4
    generalize a / b = t at *
    have e5 := inv4 (t := t) e1
    have ty : 0 ≤ t * y := Int.mul_nonneg t0 y0
    have ym' : x + t * y ≤ m := by
      have h1 : 0 ≤ (a - t * b) * y := Int.mul_nonneg (by omega) y0
      have h2 : 1 * (x + t * y) ≤ b * (x + t * y) := Int.mul_le_mul_of_nonneg_right (by omega) (by omega)
      omega
    refine ⟨(a - t * b).toNat, by omega, a - t * b, rfl, b, y, x + t * y, -s, some (.int t), ?_, b0, bm, by omega, by omega, y0, ym, by omega, ym', by omega, e5, ⟨c2, inv2 e3⟩, ⟨c1 - t * c2, inv1 e2 e3⟩, u * t + v, u, inv3 e4⟩
    rw [Int.neg_mul s y, inv8]
    rfl
theorem r_rest : Kp F K (t_rest K) 3 4 c_rest := fun ds W hl c => by
  obtain ⟨p, k, x, hp, rfl, hk, hx, sx, w⟩ := c
  have hq := hp.pi.toIsPr
  have p2 := pp_pos hp
  unfold t_rest
  and_intros
  have pk : (0 : Int) < p ^ k := Int.pow_pos (by omega)
  have sk' : sz 60000001 (p ^ k) := sz_mono (sz_pow (pp_sz hp) k) (by omega)
  refine ⟨p, k, rfl, pp_sz hp, hk, ?_⟩
  and_intros
  obtain ⟨i, j, hi⟩ := dvd_inv hq hx (hp.pi.inv _ hx) k
  refine ⟨x.den, p ^ k, rfl, pk, sk', ⟨i, -j, ?_⟩, fun r r0 r1 rd => ?_⟩
  · rw [Int.mul_neg]
    omega
  and_intros
  refine ⟨cm_of sx.1 (sz_nn sk' r0 (by omega)) (by decide), ?_⟩
  and_intros
  refine ⟨by omega, ?_⟩
  and_intros
  have f1 : (x.num * r).fmod (p ^ k) = (x.num * r) % (p ^ k) := Int.fmod_eq_emod_of_nonneg _ (by omega)
  rw [f1]
  refine w _ (Int.emod_nonneg _ (by omega)) (Int.emod_lt_of_pos _ pk) ?_
  have f4 := Int.emod_add_mul_ediv (x.num * r) (p ^ k)
  obtain ⟨c, hc⟩ := rd
  refine ⟨-(x.num * c) + x.num * r / p ^ k * (x.den : Int), (x.den : Int), hx, ?_⟩
  have e := num_eq x
  rw [pw_nat]
  generalize x.num * r % p ^ k = y at *
  generalize x.num * r / p ^ k = t at *
  have h1 : (x.num : Rat) * r = y + ((p ^ k : Int) : Rat) * t := by
    rw [← Rat.intCast_mul, ← Rat.intCast_mul, ← Rat.intCast_add, f4]
  have h2 : (x.den : Rat) * r = 1 + ((p ^ k : Int) : Rat) * c := by
    have : (x.den : Int) * r = 1 + p ^ k * c := by omega
    have : (((x.den : Int) * r : Int) : Rat) = ((1 + p ^ k * c : Int) : Rat) := by rw [this]
    rw [Rat.intCast_mul, Rat.intCast_add, Rat.intCast_mul, Rat.intCast_natCast] at this
    exact this
  rw [Rat.intCast_add, Rat.intCast_neg, Rat.intCast_mul, Rat.intCast_mul, Rat.intCast_natCast, e]
  rw [e] at h1
  generalize ((p ^ k : Int) : Rat) = P at *
  generalize (x.den : Rat) = D at *
  clear w f1 f4 hc sk' pk
  grind
end
end Bm
-- BmR2
set_option maxRecDepth 100000
set_option maxHeartbeats 2000000
/-! BmR2: what the defs compute: balls. -/
namespace Bm
open PySem PySem.Spec PyProof.Rows L2 Bt
local macro_rules | `(tactic| and_intros) => `(tactic| repeat (with_reducible first
  | refine xs_seq ?_ | refine xs_ret ?_ | refine xs_asg ?_ | refine xs_par ?_ | refine xs_par3 ?_ | refine xs_if ?_ | refine xs_asgT rfl ?_
  | (refine ev_var (d := ?_) ?_ ?_; rotate_left; (with_unfolding_all exact rfl))
  | refine ev_int ?_ | refine ev_bl ?_ | refine ev_str ?_ | refine ev_non ?_
  | refine ev_ixT ?_ | refine ev_ixL ?_ | refine ea_nil ?_ | refine ea_cons ?_ | refine s_tup ?_ | refine s_dis ?_ | refine ev_call ?_
  | refine ⟨_, _, _, rfl, rfl, (by with_unfolding_all exact rfl), ?_⟩
  | refine s_add ?_ | refine s_sub ?_ | refine s_mul ?_ | refine s_fdv ?_ | refine s_mod ?_ | refine s_lt ?_ | refine s_le ?_ | refine s_gt ?_ | refine s_ge ?_ | refine s_neg ?_
  | refine ⟨_, _, rfl, rfl, ?_⟩ | refine ⟨_, _, rfl, ?_⟩ | refine ⟨_, rfl, ?_⟩
  | refine ev_if ?_ | refine et_T ?_ | refine et_B ?_ | refine et_not ?_ | refine et_and ?_ | refine et_or ?_
  | refine ev_gcd2 ?_ | refine ev_eqI ?_ | refine ev_neI ?_
  | refine ⟨(by with_unfolding_all exact rfl), ?_⟩ | refine ⟨Nat.le_of_ble_eq_true (by with_unfolding_all exact rfl), ?_⟩
  | refine ⟨_, rfl, (by with_unfolding_all exact rfl), ?_⟩))
/-! ### == of plain data -/
mutual
def pl : PyData → Bool
  | .int _ => true
  | .str _ => true
  | .list xs => plA xs
  | .tuple xs => plA xs
  | _ => false
def plA : List PyData → Bool
  | [] => true
  | x :: xs => pl x && plA xs
end
mutual
theorem eqv_iff : ∀ {d e : PyData}, pl d = true → pl e = true → (PyData.eqv d e = true ↔ d = e)
  | .int i, .int j, _, _ => by simp [PyData.eqv]
  | .str i, .str j, _, _ => by simp [PyData.eqv]
  | .list xs, .list ys, h, k => by
    rw [PyData.eqv, eqvA_iff (by simpa [pl] using h) (by simpa [pl] using k)]
    simp
  | .tuple xs, .tuple ys, h, k => by
    rw [PyData.eqv, eqvA_iff (by simpa [pl] using h) (by simpa [pl] using k)]
    simp
  | .int i, .str j, _, _ => by simp [PyData.eqv]
  | .int i, .list j, _, _ => by simp [PyData.eqv]
  | .int i, .tuple j, _, _ => by simp [PyData.eqv]
  | .str i, .int j, _, _ => by simp [PyData.eqv]
  | .str i, .list j, _, _ => by simp [PyData.eqv]
  | .str i, .tuple j, _, _ => by simp [PyData.eqv]
  | .list i, .int j, _, _ => by simp [PyData.eqv]
  | .list i, .str j, _, _ => by simp [PyData.eqv]
  | .list i, .tuple j, _, _ => by simp [PyData.eqv]
  | .tuple i, .int j, _, _ => by simp [PyData.eqv]
  | .tuple i, .str j, _, _ => by simp [PyData.eqv]
  | .tuple i, .list j, _, _ => by simp [PyData.eqv]
  | .none, _, h, _ => by cases h
  | .bool _, _, h, _ => by cases h
  | .dict _, _, h, _ => by cases h
  | .int _, .none, _, h => by cases h
  | .int _, .bool _, _, h => by cases h
  | .int _, .dict _, _, h => by cases h
  | .str _, .none, _, h => by cases h
  | .str _, .bool _, _, h => by cases h
  | .str _, .dict _, _, h => by cases h
  | .list _, .none, _, h => by cases h
  | .list _, .bool _, _, h => by cases h
  | .list _, .dict _, _, h => by cases h
  | .tuple _, .none, _, h => by cases h
  | .tuple _, .bool _, _, h => by cases h
  | .tuple _, .dict _, _, h => by cases h
theorem eqvA_iff : ∀ {xs ys : List PyData}, plA xs = true → plA ys = true → (PyData.eqvAll xs ys = true ↔ xs = ys)
  | [], [], _, _ => by simp [PyData.eqvAll]
  | [], _ :: _, _, _ => by simp [PyData.eqvAll]
  | _ :: _, [], _, _ => by simp [PyData.eqvAll]
  | x :: xs, y :: ys, h, k => by
    have h' : pl x = true ∧ plA xs = true := by simpa [plA] using h
    have k' : pl y = true ∧ plA ys = true := by simpa [plA] using k
    rw [PyData.eqvAll, Bool.and_eq_true, eqv_iff h'.1 k'.1, eqvA_iff h'.2 k'.2]
    simp
end
theorem dF_inj {x y : Rat} (h : dF x = dF y) : x = y := by
  injection h with h
  simp at h
  exact Rat.ext h.1 (by omega)
theorem dB_inj {x y : Bl} (h : dB x = dB y) : x = y := by
  injection h with h
  simp at h
  exact Prod.ext h.1 (dF_inj (by unfold dF; simp; omega))
theorem sh_F (x : Rat) : SeqAt.shaped (dF x) = true := rfl
theorem sh_B (x : Bl) : SeqAt.shaped (dB x) = true := rfl

/-! ### denominators -/
theorem pow_le_two {p : Int} (hp : PP p) (k : Nat) : (2 : Nat) ^ k ≤ (p ^ k).natAbs := by
  rw [Int.natAbs_pow]
  have := pp_pos hp
  exact Nat.pow_le_pow_left (by omega) k
theorem low_le {p : Int} (hp : PP p) {k n : Nat} {u d : Int} (h : d = p ^ k * u) (hd : d ≠ 0) (s : sz n d) : k < n := by
  have h1 := pow_le_two hp k
  have hu : u ≠ 0 := fun z => hd (by rw [h, z, Int.mul_zero])
  have h2 : (p ^ k).natAbs ≤ d.natAbs := by
    rw [h, Int.natAbs_mul]
    exact Nat.le_mul_of_pos_right _ (by omega)
  have h3 : (2 : Nat) ^ k < 2 ^ n := Nat.lt_of_le_of_lt (Nat.le_trans h1 h2) s
  exact (Nat.pow_lt_pow_iff_right (by decide)).mp h3
/-- the denominator of a number of Z[1/p] is p's alone -/
theorem zi_den {p : Int} (hp : PP p) {x : Rat} (z : Zi p x) {k : Nat} {u : Int} (h : (x.den : Int) = p ^ k * u) (hu : ¬ p ∣ u) : u = 1 := by
  have hq := hp.pi.toIsPr
  have p2 := pp_pos hp
  obtain ⟨f, a, ha⟩ := z
  rw [pw_nat] at ha
  obtain ⟨j, _, e⟩ := frac_dvd ha
  have e2 : (j * p ^ k) * u = 1 * p ^ f := by rw [e, h]; grind
  obtain ⟨c, hc⟩ := dvd_pow_of hq hu f _ _ e2
  have pf : (0 : Int) < p ^ f := Int.pow_pos (by omega)
  have e3 : p ^ f * (c * u) = p ^ f * 1 := by
    rw [hc] at e2
    rw [← Int.mul_assoc, e2]
    omega
  have e4 := Int.eq_of_mul_eq_mul_left (by omega) e3
  have u0 : 0 < u := by
    have h1 := den_pos x
    have h2 : (0 : Int) < p ^ k := Int.pow_pos (by omega)
    rcases Int.lt_trichotomy u 0 with q | q | q
    · have := Int.mul_neg_of_pos_of_neg h2 q
      omega
    · rw [q, Int.mul_zero] at h
      omega
    · exact q
  rw [Int.mul_comm] at e4
  exact Int.eq_one_of_mul_eq_one_right (by omega) e4
theorem sz_pw {p : Int} (hp : PP p) {n : Int} {k : Nat} (h : 3 * n.natAbs + 1 ≤ k) : Sz k (Pw p n) := by
  have s := sz_mono (sz_pow (pp_sz hp) n.natAbs) h
  rcases Int.lt_or_le n 0 with h0 | h0
  · have e := pw_neg_num hp n h0
    unfold dF at e
    injection e with e
    simp at e
    rw [show (-n).toNat = n.natAbs by omega] at e
    exact ⟨by rw [e.1]; exact sz_mono sz_one (by omega), by rw [e.2]; exact s⟩
  · have e := pw_num (p := p) n h0
    unfold dF at e
    injection e with e
    simp at e
    rw [show n.toNat = n.natAbs by omega] at e
    exact ⟨by rw [e.1]; exact s, by rw [e.2]; exact sz_mono sz_one (by omega)⟩
theorem vl_bd {p : Int} (hp : PP p) {n : Nat} {x : Rat} (hx : x ≠ 0) (s : Sz n x) : (vl p x).natAbs ≤ n := by
  have hq := hp.pi.toIsPr
  have nx : x.num ≠ 0 := fun z => hx (Rat.num_eq_zero.mp z)
  have dp := den_pos x
  obtain ⟨k, u, e1, d1⟩ := int_split hq _ x.num nx (Nat.le_refl _)
  obtain ⟨j, v, e2, d2⟩ := int_split hq _ (x.den : Int) (by omega) (Nat.le_refl _)
  have l1 := low_le hp e1 nx s.1
  have l2 := low_le hp e2 (by omega) s.2
  have v1 := vx_int hq (a := k) d1
  have v2 := vx_int hq (a := j) d2
  rw [← e1] at v1
  rw [← e2] at v2
  have := vx_mul hq v1 (vx_inv hq v2)
  have e := num_div x
  rw [Rat.div_def] at e
  rw [Rat.intCast_natCast, e] at this
  have := vl_of hq this
  omega
section
variable {F : Fr} {K : PySem.W.Frag} {W : PyData → Prop}
theorem r_is_ball : Kp F K (t_is_ball K) 2 4 c_is_ball := fun ds W hl c => by
  obtain ⟨p, x, hp, rfl, ok, nr, w⟩ := c
  have hq := hp.pi.toIsPr
  unfold t_is_ball
  refine xs_seq (xs_if (et_or (et_not (et_B (ev_isi (ev_var rfl ⟨rfl, true, rfl, true, rfl, ?_⟩))))))
  rw [if_neg (by decide)]
  refine et_or (et_T (ev_neI (s_len ?_)))
  and_intros
  refine ⟨_, .inr rfl, ?_⟩
  and_intros
  refine iteN (fun _ => ?_) (fun z => absurd rfl z)
  and_intros
  refine ⟨_, rfl, true, rfl, ?_⟩
  rw [if_neg (by decide)]
  and_intros
  refine ⟨_, rfl, true, rfl, ?_⟩
  rw [if_neg (by decide)]
  refine xs_next ?_
  and_intros
  refine ev_and ?_
  and_intros
  refine ⟨p, x.2.den, hp, rfl, by have := den_pos x.2; omega, fun k u e hu => ?_⟩
  and_intros
  rw [if_pos (decide_eq_true (zi_den hp ok.zi e hu))]
  refine ev_and ?_
  and_intros
  rw [if_pos (decide_eq_true (Rat.num_nonneg.mpr ok.nn))]
  and_intros
  refine ⟨p, x.1, hp, rfl, by have := nr.1; omega, ?_⟩
  and_intros
  have s1 : Sz 60000000 (Pw p x.1) := sz_pw hp (by have := nr.1; omega)
  refine ⟨x.2, Pw p x.1, rfl, nr.2.mono (by decide), s1, ?_⟩
  rw [decide_eq_true ok.lt]
  exact w
theorem ev_zero {S : SS} (hz : ∀ H, DD K H (.ref (He.ga K "ZERO")) (.tuple [.int 0, .int 1])) (w : W (dF 0)) : EV F K (tC (.ref (He.ga K "ZERO"))) S W := ev_glob (fun H => hz _) w
theorem r_ball (hz : ∀ H, DD K H (.ref (He.ga K "ZERO")) (.tuple [.int 0, .int 1])) : Kp F K (t_ball K) 3 5 c_ball := fun ds W hl c => by
  obtain ⟨p, hp, n, x, rfl, hn, sx, w⟩ := c
  have hq := hp.pi.toIsPr
  have p2 := pp_pos hp
  unfold t_ball
  and_intros
  refine ⟨_, rfl, true, rfl, ?_⟩
  rw [if_neg (by decide)]
  and_intros
  refine ⟨_, rfl, true, rfl, ?_⟩
  rw [if_neg (by decide)]
  refine xs_next ?_
  and_intros
  have dp := den_pos x
  refine ⟨p, x.den, hp, rfl, by omega, fun k u e hu => ?_⟩
  have lk := low_le hp e (by omega) sx.2
  have en := num_eq x
  have ed : (x.den : Rat) = Pw p k * u := by
    rw [pw_nat, ← Rat.intCast_mul, ← e, Rat.intCast_natCast]
  have u0 : u ≠ 0 := fun z => hu (by rw [z]; exact Int.dvd_zero _)
  and_intros
  refine iteD (fun h => ?_) (fun h => ?_)
  · and_intros
    refine ev_zero hz ?_
    and_intros
    have g : Ge p (-(k : Int)) x := by
      refine ⟨x.num, u, hu, ?_⟩
      rw [en, ed]
      have i := pw_inv hq k
      generalize Pw p k = A at *
      generalize Pw p (-(k : Int)) = B at *
      clear w
      grind
    have g2 : Ge p n (x - 0) := by
      rw [show x - 0 = x by grind]
      exact ge_mono hq g (by omega)
    have ok : Ok p n 0 := ⟨by decide, pw_pos hq n, zi_int 0⟩
    rw [nb_eq hp.pi ok g2] at w
    exact w
  · refine xs_next ?_
    and_intros
    refine ⟨p, k, hp, rfl, by omega, ?_⟩
    and_intros
    refine ⟨x, Pw p k, rfl, sx.mono (by decide), sz_pw hp (by omega), ?_⟩
    and_intros
    have e1 : x * Pw p k * (u : Rat) = (x.num : Rat) := by
      rw [en, ed]
      grind
    have d1 : ¬ p ∣ ((x * Pw p k).den : Int) := fun dv => by
      obtain ⟨j, _, h2⟩ := frac_dvd e1
      exact hu (by rw [h2]; exact Int.dvd_trans dv (Int.dvd_mul_left _ _))
    refine ⟨p, (n + k).toNat, x * Pw p k, hp, by rw [Int.toNat_of_nonneg (by omega)], by omega, d1, (sx.mul (sz_pw hp (n := k) (Nat.le_refl _))).mono (by omega), fun r r0 r1 gr => ?_⟩
    rw [Int.toNat_of_nonneg (by omega)] at gr
    have pw_k := pw_num (p := p) k (by omega)
    rw [show dF (Pw p k) = _ from pw_k]
    and_intros
    rw [Int.toNat_natCast]
    have pk : (0 : Int) < p ^ k := Int.pow_pos (by omega)
    refine ⟨r, p ^ k, rfl, by omega, ?_⟩
    and_intros
    have pkr := pw_ne hq k
    have ok : Ok p n ((r : Rat) / ((p ^ k : Int) : Rat)) := by
      rw [← pw_nat]
      refine ⟨by rw [Rat.div_def]; exact Rat.mul_nonneg (by exact_mod_cast r0) (Rat.le_of_lt (Rat.inv_pos.mpr (pw_pos hq _))), ?_, ?_⟩
      · rw [Rat.div_lt_iff (pw_pos hq _), ← pw_add hq, pw_nonneg (by omega)]
        exact_mod_cast r1
      · exact ⟨k, r, by rw [Rat.div_mul_cancel pkr]⟩
    have g2 : Ge p n (x - (r : Rat) / ((p ^ k : Int) : Rat)) := by
      have := ge_mul hq gr (vx_ge (vx_pw hq (-(k : Int))))
      rw [show n + (k : Int) + -(k : Int) = n by omega] at this
      refine cast (congrArg (Ge p n) ?_) this
      rw [← pw_nat]
      have i := pw_inv hq k
      generalize Pw p k = A at *
      generalize Pw p (-(k : Int)) = B at *
      clear w this ok gr
      grind
    rw [nb_eq hp.pi ok g2] at w
    exact w
theorem r_about : Kp F K (t_about K) 2 2 c_about := fun ds W hl c => by
  obtain ⟨p, hp, x, rfl, nr, w⟩ := c
  unfold t_about
  and_intros
  exact ⟨p, hp, x.1.1 - 1, x.1.2, rfl, by have := nr.1; omega, nr.2, w⟩
theorem r_within : Kp F K (t_within K) 2 5 c_within := fun ds W hl c => by
  obtain ⟨p, hp, x, rfl, nr, w⟩ := c
  have p2 := pp_pos hp
  have p7 : p ≤ 7 := by rcases hp with rfl | rfl | rfl | rfl <;> decide
  unfold t_within
  and_intros
  refine ev_lcR1 ?_
  and_intros
  refine ⟨p.toNat, fun k ds => ds = (List.range k).map fun k => dB (x.1.1 + 1, x.1.2 + ((k : Nat) : Rat) * Pw p x.1.1), by rw [Int.toNat_of_nonneg (by omega)], by omega, rfl, ?_, ?_⟩
  · intro k hk G hG ds hds
    refine et_yes ?_
    rw [if_pos rfl]
    and_intros
    refine ⟨p, x.1.1, hp, rfl, by have := nr.1; omega, ?_⟩
    and_intros
    have sk : Sz 3 ((k : Nat) : Rat) := by
      have : sz 3 ((k : Nat) : Int) := by
        unfold sz
        rw [Int.natAbs_natCast]
        omega
      have := Sz.int this (by decide)
      rwa [Rat.intCast_natCast] at this
    have sp : Sz 2400001 (Pw p x.1.1) := sz_pw hp (by have := nr.1; omega)
    refine ⟨((k : Nat) : Rat), Pw p x.1.1, ?_, sk.mono (by decide), sp.mono (by decide), ?_⟩
    · rw [Int.zero_add]
      rfl
    and_intros
    refine ⟨x.1.2, _, rfl, nr.2.mono (by decide), (sk.mul sp).mono (by decide), ?_⟩
    and_intros
    show ds ++ [_] = _
    rw [hds, List.range_succ, List.map_append]
    rfl
  · intro ds hds
    rw [hds]
    exact w
theorem r_neighbours : Kp F K (t_neighbours K) 2 2 c_neighbours := fun ds W hl c => by
  obtain ⟨p, hp, x, rfl, nr, w⟩ := c
  have p7 : p ≤ 7 := by rcases hp with rfl | rfl | rfl | rfl <;> decide
  unfold t_neighbours
  and_intros
  refine ⟨p, hp, x, rfl, nr, ?_⟩
  refine ea_star ?_
  and_intros
  refine ⟨p, hp, x, rfl, nr, ?_⟩
  refine ⟨_, .inl rfl, ea_nil ⟨?_, ?_⟩⟩
  · simp
    omega
  · rw [List.append_nil]
    exact w
theorem r_least_about (hz : ∀ H, DD K H (.ref (He.ga K "ZERO")) (.tuple [.int 0, .int 1])) : Kp F K (t_least_about K) 3 5 c_least_about := fun ds W hl c => by
  obtain ⟨p, hp, x, y, rfl, nx, ny, w⟩ := c
  have hq := hp.pi.toIsPr
  unfold t_least_about
  and_intros
  refine ⟨x.1.2, y.1.2, rfl, nx.2.mono (by decide), ny.2.mono (by decide), ?_⟩
  refine ea_cons (s_min ?_)
  and_intros
  have em : (if y.1.1 < x.1.1 then y.1.1 else x.1.1) = min x.1.1 y.1.1 := by
    split <;> omega
  rw [em]
  have lx := nx.1
  have ly := ny.1
  refine ev_eqD ?_
  and_intros
  refine ev_zero hz ⟨rfl, rfl, ?_⟩
  and_intros
  refine iteB (fun h => ?_) (fun h => ?_)
  · have e := dF_inj ((eqv_iff rfl rfl).mp h)
    have e2 : x.1.2 = y.1.2 := by grind
    have tlx : tl p x.1 y.1 = min x.1.1 y.1.1 := by
      unfold tl
      rw [if_pos e2]
    rw [tlx] at w
    and_intros
    exact ⟨p, hp, min x.1.1 y.1.1, x.1.2, rfl, by omega, nx.2, w⟩
  · have ne : x.1.2 ≠ y.1.2 := fun e => by
      have : PyData.eqv (dF (x.1.2 - y.1.2)) (dF 0) = true := (eqv_iff rfl rfl).mpr (by rw [e, Rat.sub_self])
      rw [h] at this
      cases this
    have tlx : tl p x.1 y.1 = min (min x.1.1 y.1.1) (vl p (x.1.2 - y.1.2)) := by
      unfold tl
      rw [if_neg ne]
    refine s_min ?_
    and_intros
    refine ⟨p, x.1.2 - y.1.2, hp, rfl, fun z => ne (by grind), ?_⟩
    and_intros
    have em2 : (if vl p (x.1.2 - y.1.2) < min x.1.1 y.1.1 then vl p (x.1.2 - y.1.2) else min x.1.1 y.1.1) = tl p x.1 y.1 := by
      rw [tlx]
      split <;> omega
    rw [em2]
    refine ⟨p, hp, tl p x.1 y.1, x.1.2, rfl, ?_, nx.2, w⟩
    have bd := vl_bd hp (x := x.1.2 - y.1.2) (fun z => ne (by grind)) (nx.2.sub ny.2)
    omega
end
end Bm
-- BmR3
set_option maxRecDepth 100000
set_option maxHeartbeats 2000000
/-! BmR3: what the defs compute: moves, where balls are led. -/
namespace Bm
open PySem PySem.Spec PyProof.Rows L2 Bt
local macro_rules | `(tactic| and_intros) => `(tactic| repeat (with_reducible first
  | refine xs_seq ?_ | refine xs_ret ?_ | refine xs_asg ?_ | refine xs_par ?_ | refine xs_par3 ?_ | refine xs_if ?_ | refine xs_asgT rfl ?_
  | (refine ev_var (d := ?_) ?_ ?_; rotate_left; (with_unfolding_all exact rfl))
  | refine ev_int ?_ | refine ev_bl ?_ | refine ev_str ?_ | refine ev_non ?_
  | refine ev_ixT ?_ | refine ev_ixL ?_ | refine ea_nil ?_ | refine ea_cons ?_ | refine s_tup ?_ | refine s_dis ?_ | refine ev_call ?_
  | refine ⟨_, _, _, rfl, rfl, (by with_unfolding_all exact rfl), ?_⟩
  | refine s_add ?_ | refine s_sub ?_ | refine s_mul ?_ | refine s_fdv ?_ | refine s_mod ?_ | refine s_lt ?_ | refine s_le ?_ | refine s_gt ?_ | refine s_ge ?_ | refine s_neg ?_
  | refine ⟨_, _, rfl, rfl, ?_⟩ | refine ⟨_, _, rfl, ?_⟩ | refine ⟨_, rfl, ?_⟩
  | refine ev_if ?_ | refine et_T ?_ | refine et_B ?_ | refine et_not ?_ | refine et_and ?_ | refine et_or ?_
  | refine ev_gcd2 ?_ | refine ev_eqI ?_ | refine ev_neI ?_
  | refine ⟨(by with_unfolding_all exact rfl), ?_⟩ | refine ⟨Nat.le_of_ble_eq_true (by with_unfolding_all exact rfl), ?_⟩
  | refine ⟨_, rfl, (by with_unfolding_all exact rfl), ?_⟩))
theorem fdiv_mul {a k : Int} (h : k ∣ a) : a = k * a.fdiv k := by
  rw [Int.fdiv_eq_ediv_of_dvd h]
  exact (Int.mul_ediv_cancel' h).symm
section
variable {F : Fr} {K : PySem.W.Frag} {W : PyData → Prop}
theorem r_in_form : Kp F K (t_in_form K) 1 4 c_in_form := fun ds W hl c => by
  obtain ⟨M, rfl, nz, w⟩ := c
  unfold t_in_form
  and_intros
  refine ev_gcd4 ?_
  and_intros
  refine ⟨_, _, _, _, rfl, ?_⟩
  generalize hg : ((M.a.natAbs.gcd M.b.natAbs).gcd M.c.natAbs).gcd M.d.natAbs = g
  have da : g ∣ M.a.natAbs := by rw [← hg]; exact Nat.dvd_trans (Nat.gcd_dvd_left _ _) (Nat.dvd_trans (Nat.gcd_dvd_left _ _) (Nat.gcd_dvd_left _ _))
  have db : g ∣ M.b.natAbs := by rw [← hg]; exact Nat.dvd_trans (Nat.gcd_dvd_left _ _) (Nat.dvd_trans (Nat.gcd_dvd_left _ _) (Nat.gcd_dvd_right _ _))
  have dc : g ∣ M.c.natAbs := by rw [← hg]; exact Nat.dvd_trans (Nat.gcd_dvd_left _ _) (Nat.gcd_dvd_right _ _)
  have dd : g ∣ M.d.natAbs := by rw [← hg]; exact Nat.gcd_dvd_right _ _
  have g0 : g ≠ 0 := fun z => by
    subst z
    have h1 := Nat.eq_zero_of_zero_dvd da
    have h2 := Nat.eq_zero_of_zero_dvd db
    have h3 := Nat.eq_zero_of_zero_dvd dc
    have h4 := Nat.eq_zero_of_zero_dvd dd
    omega
  -- behind the first number that is not nought: D is g or -g
  have fin : ∀ (D f : Int) (S : SS), (D = g ∨ D = -g) → S = [some (dM M), some (.int D), some (.int f), none] →
      EV F K (tCB (rTpl K) (tCons (tLc (iTup K (tVar 0)) (gName 3) tYes (tOp rFdv (tVar 3) (tVar 1)) [3]) tNil)) S W := fun D f S hD hS => by
    subst hS
    have D0 : D ≠ 0 := by omega
    have dv : ∀ {z : Int}, g ∣ z.natAbs → D ∣ z := fun {z} h => by
      have : (g : Int) ∣ z := Int.ofNat_dvd_left.mpr h
      rcases hD with rfl | rfl
      · exact this
      · exact Int.neg_dvd.mpr this
    refine s_tpl (ea_cons (ev_lcT (ev_var rfl ⟨_, fun k ds => ds = (([M.a, M.b, M.c, M.d].take k).map fun z => PyData.int (z.fdiv D)), rfl, Nat.le_of_ble_eq_true rfl, rfl, ?_, ?_⟩)))
    · intro k x hx G hG ds hds
      refine et_yes ?_
      rw [if_pos rfl]
      have : ∃ z, x = PyData.int z ∧ [M.a, M.b, M.c, M.d][k]? = some z := by
        match k, hx with
        | 0, hx => exact ⟨M.a, (Option.some.inj hx).symm, rfl⟩
        | 1, hx => exact ⟨M.b, (Option.some.inj hx).symm, rfl⟩
        | 2, hx => exact ⟨M.c, (Option.some.inj hx).symm, rfl⟩
        | 3, hx => exact ⟨M.d, (Option.some.inj hx).symm, rfl⟩
      obtain ⟨z, rfl, hz⟩ := this
      and_intros
      refine ⟨D0, ?_⟩
      show ds ++ [_] = _
      rw [hds, List.take_add_one, hz, List.map_append]
      rfl
    · intro ds hds
      subst hds
      and_intros
      exact w ⟨M.a.fdiv D, M.b.fdiv D, M.c.fdiv D, M.d.fdiv D⟩ D D0 (fdiv_mul (dv da)) (fdiv_mul (dv db)) (fdiv_mul (dv dc)) (fdiv_mul (dv dd))
  and_intros
  refine ev_lcT (ev_var rfl ⟨_, fun k ds => ∃ l : List Int, ds = l.map PyData.int ∧ ((∃ i z, i < k ∧ [M.a, M.b, M.c, M.d][i]? = some z ∧ z ≠ 0) → l ≠ []), rfl, Nat.le_of_ble_eq_true rfl, ⟨[], rfl, fun ⟨i, z, h, _⟩ => absurd h (Nat.not_lt_zero _)⟩, ?_, ?_⟩)
  · rintro k x hx G hG ds ⟨l, rfl, hl⟩
    have : ∃ z, x = PyData.int z ∧ [M.a, M.b, M.c, M.d][k]? = some z := by
      match k, hx with
      | 0, hx => exact ⟨M.a, (Option.some.inj hx).symm, rfl⟩
      | 1, hx => exact ⟨M.b, (Option.some.inj hx).symm, rfl⟩
      | 2, hx => exact ⟨M.c, (Option.some.inj hx).symm, rfl⟩
      | 3, hx => exact ⟨M.d, (Option.some.inj hx).symm, rfl⟩
    obtain ⟨z, rfl, hz⟩ := this
    and_intros
    refine iteN (fun h => ?_) (fun h => ?_)
    · refine ⟨l, rfl, fun ⟨i, y, hi, hy, y0⟩ => ?_⟩
      rcases Nat.lt_succ_iff_lt_or_eq.mp hi with q | q
      · exact hl ⟨i, y, q, hy, y0⟩
      · subst q
        exact absurd ((Option.some.inj (hy.symm.trans hz)).trans h) y0
    · and_intros
      exact ⟨l ++ [z], by rw [List.map_append]; rfl, fun _ q => by simp at q⟩
  · rintro ds ⟨l, rfl, hl⟩
    have ne : l ≠ [] := by
      refine hl ?_
      rcases nz with h | h | h | h
      · exact ⟨0, _, (by show 0 < 4; decide), rfl, h⟩
      · exact ⟨1, _, (by show 1 < 4; decide), rfl, h⟩
      · exact ⟨2, _, (by show 2 < 4; decide), rfl, h⟩
      · exact ⟨3, _, (by show 3 < 4; decide), rfl, h⟩
    match l, ne with
    | f :: l, _ =>
      refine ev_int ⟨_, 0, .int f, rfl, rfl, by rw [show ((0 : Int) = ((0 : Nat) : Int)) from rfl]; exact atI_nat rfl, ?_⟩
      and_intros
      refine iteD (fun h => ?_) (fun h => ?_)
      · and_intros
        exact fin g f _ (.inl rfl) rfl
      · and_intros
        exact fin (-g) f _ (.inr rfl) rfl
theorem r_size : Kp F K (t_size K) 1 5 c_size := fun ds W hl c => by
  obtain ⟨M, rfl, s, w⟩ := c
  unfold t_size
  and_intros
  refine ⟨cm_of s.1 s.2.2.2 (by decide), ?_⟩
  and_intros
  refine ⟨cm_of s.2.1 s.2.2.1 (by decide), ?_⟩
  and_intros
  exact w
theorem r_sum_of : Kp F K (t_sum_of K) 1 1 c_sum_of := fun ds W hl c => by
  obtain ⟨M, rfl, w⟩ := c
  unfold t_sum_of
  and_intros
  exact w
theorem mul_ne {M N : Mi} (h1 : Mt.det M.m ≠ 0) (h2 : Mt.det N.m ≠ 0) : M.a * N.a + M.b * N.c ≠ 0 ∨ M.a * N.b + M.b * N.d ≠ 0 ∨ M.c * N.a + M.d * N.c ≠ 0 ∨ M.c * N.b + M.d * N.d ≠ 0 := by
  refine Decidable.byContradiction fun q => ?_
  simp only [not_or, Decidable.not_not] at q
  obtain ⟨q1, q2, q3, q4⟩ := q
  have h3 : Mt.det (Mt.mul M.m N.m) ≠ 0 := by
    rw [Mt.det_mul]
    exact fun e => (Rat.mul_eq_zero.mp e).elim h1 h2
  refine h3 ?_
  have e1 : (M.a : Rat) * N.a + M.b * N.c = 0 := by exact_mod_cast q1
  have e2 : (M.a : Rat) * N.b + M.b * N.d = 0 := by exact_mod_cast q2
  have e3 : (M.c : Rat) * N.a + M.d * N.c = 0 := by exact_mod_cast q3
  have e4 : (M.c : Rat) * N.b + M.d * N.d = 0 := by exact_mod_cast q4
  show ((M.a : Rat) * N.a + M.b * N.c) * ((M.c : Rat) * N.b + M.d * N.d) - ((M.a : Rat) * N.b + M.b * N.d) * ((M.c : Rat) * N.a + M.d * N.c) = 0
  rw [e1, e2]
  grind
theorem r_after : Kp F K (t_after K) 2 10 c_after := fun ds W hl c => by
  obtain ⟨M, N, rfl, s, z, h1, h2, w⟩ := c
  unfold t_after
  and_intros
  refine ⟨cm_of s.1 z.1 (by decide), ?_⟩
  and_intros
  refine ⟨cm_of s.2.1 z.2.2.1 (by decide), ?_⟩
  and_intros
  refine ⟨cm_of s.1 z.2.1 (by decide), ?_⟩
  and_intros
  refine ⟨cm_of s.2.1 z.2.2.2 (by decide), ?_⟩
  and_intros
  refine ⟨cm_of s.2.2.1 z.1 (by decide), ?_⟩
  and_intros
  refine ⟨cm_of s.2.2.2 z.2.2.1 (by decide), ?_⟩
  and_intros
  refine ⟨cm_of s.2.2.1 z.2.1 (by decide), ?_⟩
  and_intros
  refine ⟨cm_of s.2.2.2 z.2.2.2 (by decide), ?_⟩
  and_intros
  exact ⟨⟨_, _, _, _⟩, rfl, mul_ne h1 h2, w⟩
theorem r_back : Kp F K (t_back K) 1 5 c_back := fun ds W hl c => by
  obtain ⟨M, rfl, h1, w⟩ := c
  unfold t_back
  and_intros
  refine ⟨⟨M.d, -M.b, -M.c, M.a⟩, rfl, ?_, w⟩
  refine Decidable.byContradiction fun q => ?_
  simp only [not_or, Decidable.not_not] at q
  obtain ⟨q1, q2, q3, q4⟩ := q
  refine h1 ?_
  show (M.a : Rat) * M.d - M.b * M.c = 0
  have e1 : (M.a : Rat) = 0 := by exact_mod_cast q4
  have e2 : (M.b : Rat) = 0 := by exact_mod_cast (by omega : M.b = 0)
  rw [e1, e2]
  grind
theorem r_has_more : Kp F K (t_has_more K) 3 3 c_has_more := fun ds W hl c => by
  obtain ⟨p, x, y, hp, rfl, w⟩ := c
  unfold t_has_more
  and_intros
  refine iteD (fun h => ?_) (fun h => ?_)
  · and_intros
    rw [decide_eq_false (fun q => q.1 (Rat.num_eq_zero.mp h))] at w
    exact w
  · have hy : y ≠ 0 := fun z => h (Rat.num_eq_zero.mpr z)
    refine xs_next ?_
    refine xs_ret (ev_or ?_)
    and_intros
    refine iteD (fun hx => ?_) (fun hx => ?_)
    · rw [decide_eq_true ⟨hy, .inl (Rat.num_eq_zero.mp hx)⟩] at w
      exact w
    · have hx' : x ≠ 0 := fun z => hx (Rat.num_eq_zero.mpr z)
      and_intros
      refine ⟨p, x, hp, rfl, hx', ?_⟩
      and_intros
      refine ⟨p, y, hp, rfl, hy, ?_⟩
      and_intros
      refine cast (congrArg (fun z => W (.bool z)) ?_) w
      exact decide_eq_decide.mpr ⟨fun q => q.2.resolve_left hx', fun q => ⟨hy, .inr q⟩⟩
end
end Bm
-- BmR4
set_option maxRecDepth 100000
set_option maxHeartbeats 2000000
/-! BmR4: what the defs compute: where balls are led, roads. -/
namespace Bm
open PySem PySem.Spec PyProof.Rows L2 Bt
local macro_rules | `(tactic| and_intros) => `(tactic| repeat (with_reducible first
  | refine xs_seq ?_ | refine xs_ret ?_ | refine xs_asg ?_ | refine xs_par ?_ | refine xs_par3 ?_ | refine xs_if ?_ | refine xs_asgT rfl ?_
  | (refine ev_var (d := ?_) ?_ ?_; rotate_left; (with_unfolding_all exact rfl))
  | refine ev_int ?_ | refine ev_bl ?_ | refine ev_str ?_ | refine ev_non ?_
  | refine ev_ixT ?_ | refine ev_ixL ?_ | refine ea_nil ?_ | refine ea_cons ?_ | refine s_tup ?_ | refine s_dis ?_ | refine ev_call ?_
  | refine ⟨_, _, _, rfl, rfl, (by with_unfolding_all exact rfl), ?_⟩
  | refine s_add ?_ | refine s_sub ?_ | refine s_mul ?_ | refine s_fdv ?_ | refine s_mod ?_ | refine s_lt ?_ | refine s_le ?_ | refine s_gt ?_ | refine s_ge ?_ | refine s_neg ?_
  | refine ⟨_, _, rfl, rfl, ?_⟩ | refine ⟨_, _, rfl, ?_⟩ | refine ⟨_, rfl, ?_⟩
  | refine ev_if ?_ | refine et_T ?_ | refine et_B ?_ | refine et_not ?_ | refine et_and ?_ | refine et_or ?_
  | refine ev_gcd2 ?_ | refine ev_eqI ?_ | refine ev_neI ?_
  | refine ⟨(by with_unfolding_all exact rfl), ?_⟩ | refine ⟨Nat.le_of_ble_eq_true (by with_unfolding_all exact rfl), ?_⟩
  | refine ⟨_, rfl, (by with_unfolding_all exact rfl), ?_⟩))
theorem det_int (M : Mi) : Mt.det M.m = ((M.a * M.d - M.b * M.c : Int) : Rat) := by
  rw [Rat.intCast_sub, Rat.intCast_mul, Rat.intCast_mul]
  rfl
theorem tr_int (M : Mi) : Mt.tr M.m = ((M.a + M.d : Int) : Rat) := by
  rw [Rat.intCast_add]
  rfl
theorem Mi.sz.mono {m n : Nat} {M : Mi} (s : M.sz m) (q : m ≤ n) : M.sz n := ⟨sz_mono s.1 q, sz_mono s.2.1 q, sz_mono s.2.2.1 q, sz_mono s.2.2.2 q⟩
/-! ### how far from the root -/
section
variable {p : Int} (h : PP p)
include h
theorem rd_lv {R : Int} {x : B p} (q : Rd h R x) : x.1.1.natAbs ≤ R.toNat := by
  have d : (tr h).d (root h) x = 0 + x.1.1 - 2 * tl p (root h).1 x.1 := rfl
  have l := tl_le h.pi.toIsPr (root h).1 x.1
  have e : (root h).1.1 = 0 := rfl
  unfold Rd at q
  omega
theorem rd_sz {R : Nat} {x : B p} (q : Rd h (R : Int) x) : Sz (6 * R + 1) x.1.2 := by
  have hq := h.pi.toIsPr
  have d : (tr h).d (root h) x = 0 + x.1.1 - 2 * tl p (root h).1 x.1 := rfl
  have l := tl_le hq (root h).1 x.1
  have e : (root h).1.1 = 0 := rfl
  have lv := rd_lv h q
  unfold Rd at q
  have lo : -(R : Int) ≤ tl p (root h).1 x.1 := by omega
  have g := ((tl_ge hq (root h).1 x.1 _).mp lo).2.2
  have r0 : (root h).1.2 = 0 := by
    unfold root
    rw [nb_eq h.pi (q := 0) ⟨by decide, pw_pos hq 0, zi_int 0⟩ (by rw [Rat.sub_self]; exact ge_zero hq _)]
  rw [r0] at g
  have g1 : Ge p (-(R : Int)) x.1.2 := by
    have := ge_neg g
    rwa [show -(0 - x.1.2) = x.1.2 by grind] at this
  have g2 := ge_mul hq g1 (vx_ge (vx_pw hq (R : Int)))
  rw [show -(R : Int) + (R : Int) = 0 by omega] at g2
  obtain ⟨z, hz⟩ := ge0_int hq (zi_mul hq x.2.zi (zi_pw hq _)) g2
  have p2 := pp_pos h
  rw [pw_nat] at hz
  have pk : (0 : Int) < p ^ R := Int.pow_pos (by omega)
  have zs : sz (6 * R + 1) z := by
    have z0 : (0 : Rat) ≤ (z : Rat) := by
      rw [← hz, ← pw_nat]
      exact Rat.mul_nonneg x.2.nn (Rat.le_of_lt (pw_pos hq _))
    have z1 : (z : Rat) < Pw p (x.1.1 + R) := by
      rw [← hz, ← pw_nat, pw_add hq]
      exact Rat.mul_lt_mul_of_pos_right x.2.lt (pw_pos hq _)
    rw [pw_nonneg (by omega)] at z1
    have z1' : z < p ^ (x.1.1 + R).toNat := by exact_mod_cast z1
    have z0' : 0 ≤ z := by exact_mod_cast z0
    exact sz_nn (m := p ^ (x.1.1 + R).toNat) (sz_mono (sz_pow (pp_sz h) _) (by omega)) z0' (by omega)
  exact (fun s => ⟨s.1, s.2⟩) (frac_sz hz (by omega) zs (sz_mono (sz_pow (pp_sz h) R) (by omega)))
theorem Rd.nr {x : B p} (q : Rd h 400000 x) : Nr x.1 := ⟨by have := rd_lv h q; omega, (rd_sz h (R := 400000) q).mono (by decide)⟩
theorem Rd.mono {R R' : Int} {x : B p} (q : Rd h R x) (e : R ≤ R') : Rd h R' x := Int.le_trans q e
theorem Rd.far {R R' : Int} {x y : B p} (q : Rd h R x) (e : (tr h).d x y ≤ R') : Rd h (R + R') y := by
  have := (tr h).tri (root h) x y
  unfold Rd at *
  omega
theorem det_vl {M : Mi} {n : Nat} (s : M.sz n) (hd : Mt.det M.m ≠ 0) : 0 ≤ vl p (Mt.det M.m) ∧ vl p (Mt.det M.m) ≤ (2 * n + 1 : Nat) := by
  have e := det_int M
  have a := sz_sub (k := 2 * n + 1) (sz_mul s.1 s.2.2.2) (sz_mul s.2.1 s.2.2.1) (by omega) (by omega)
  have b := vl_bd h hd (n := 2 * n + 1) (by rw [e]; exact Sz.int a (by omega))
  have c : 0 ≤ vl p (Mt.det M.m) := by
    rw [e]
    exact vl_intNonneg h.pi.toIsPr _
  omega
theorem st_le {M : Mi} {n : Nat} (s : M.sz n) (hd : Mt.det M.m ≠ 0) : st p M ≤ (2 * n + 1 : Nat) := by
  have := det_vl h s hd
  show strv p M.m ≤ _
  unfold strv
  split
  · omega
  · rename_i q
    rw [tr_int]
    have := vl_intNonneg h.pi.toIsPr (M.a + M.d)
    omega
/-- how far the root is led -/
theorem root_far {M : Mi} {n : Nat} (s : M.sz n) (hd : Mt.det M.m ≠ 0) : (tr h).d (root h) (ac h M (root h)) ≤ (2 * n + 1 : Nat) := by
  have hq := h.pi.toIsPr
  obtain ⟨j, m, e⟩ := disp_mv h.pi hd (root h)
  rw [e]
  have := det_vl h s hd
  have r0 : (root h).1.2 = 0 := by
    unfold root
    rw [nb_eq h.pi (q := 0) ⟨by decide, pw_pos hq 0, zi_int 0⟩ (by rw [Rat.sub_self]; exact ge_zero hq _)]
  have r1 : (root h).1.1 = 0 := rfl
  have t : told p (root h).1 M.m = M.m := by
    rw [told_eq hq, r0, r1]
    have z : Pw p (-0) = 1 := pw_zero
    have z' : Pw p 0 = 1 := pw_zero
    rw [z, z']
    apply Mt.ext' <;> simp only [] <;> grind
  rw [t] at m
  have j0 : 0 ≤ j := by
    rcases Int.lt_or_le j 0 with q | q
    · exact absurd (ag_mono hq (k := j + 1) (j := j + 1) (ag_mono hq (k := 0) (j := j + 1) ⟨ge_int hq _, ge_int hq _, ge_int hq _, ge_int hq _⟩ (by omega)) (Int.le_refl _)) m.2
    · exact q
  omega
theorem Rd.led {M : Mi} {n : Nat} {R : Int} {x : B p} (s : M.sz n) (hd : Mt.det M.m ≠ 0) (q : Rd h R x) : Rd h (R + (2 * n + 1 : Nat)) (ac h M x) := by
  have a := root_far h s hd
  have b := (act_iso h.pi hd).iso (root h) x
  have c := (tr h).tri (root h) (ac h M (root h)) (ac h M x)
  have e : (tr h).d (ac h M (root h)) (ac h M x) = (tr h).d (root h) x := b
  unfold Rd at *
  omega
end
section
variable {F : Fr} {K : PySem.W.Frag} {W : PyData → Prop}
theorem r_ball_of : Kp F K (t_ball_of K) 3 5 c_ball_of := fun ds W hl c => by
  obtain ⟨p, h, M, x, _, ax, ay, bx, bY, rfl, e, hd, s1, s2, s3, s4, lv, w⟩ := c
  have hq := h.pi.toIsPr
  have dN : ax * bY - bx * ay ≠ 0 := by
    have h1 : Mt.det (Mt.mul M (Tb p x.1)) ≠ 0 := by
      rw [Mt.det_mul, det_tb]
      exact fun z => (Rat.mul_eq_zero.mp z).elim hd (pw_ne hq _)
    rw [e] at h1
    exact h1
  -- behind the swap
  have fin : ∀ (ox oy ux uy : Rat) (S : SS) (P : Mt), S = [some (.int p), some (.tuple [dF ox, dF oy]), some (.tuple [dF ux, dF uy]), none, none] → Gl p P → Mt.mul (Mt.mul M (Tb p x.1)) P = ⟨ox, ux, oy, uy⟩ → uy ≠ 0 → Ge p 0 (oy / uy) → ox * uy - ux * oy ≠ 0 →
      Sz 2500000 ox → Sz 2500000 oy → Sz 2500000 ux → Sz 2500000 uy →
      XS F K (tSeq (tAsg (tCall (Pur K 2 c_divided) [] E0 (tCons (tOp (rIxT K) (tVar 1) (tC (.int 1))) (tCons (tOp (rIxT K) (tVar 2) (tC (.int 1))) (tNil)))) (gName 3)) (tSeq (tAsg (tCall (Pur K 2 c_divided) [] E0 (tCons (tCall (Pur K 2 c_minus) [] E0 (tCons (tOp (rIxT K) (tVar 1) (tC (.int 0))) (tCons (tCall (Pur K 2 c_times_of) [] E0 (tCons (tVar 3) (tCons (tOp (rIxT K) (tVar 2) (tC (.int 0))) (tNil)))) (tNil)))) (tCons (tOp (rIxT K) (tVar 2) (tC (.int 1))) (tNil)))) (gName 4)) (tRet (tCall (Pur K 3 c_ball) [] E0 (tCons (tVar 0) (tCons (tCall (Pur K 2 c_parts) [] E0 (tCons (tVar 0) (tCons (tVar 4) (tNil)))) (tCons (tCall (Pur K 2 c_divided) [] E0 (tCons (tOp (rIxT K) (tVar 2) (tC (.int 0))) (tCons (tOp (rIxT K) (tVar 2) (tC (.int 1))) (tNil)))) (tNil)))))))) S (fun _ => W .none) W := by
    intro ox oy ux uy S P hS gP eP uy0 gt dt z1 z2 z3 z4
    subst hS
    and_intros
    refine ⟨oy, uy, rfl, z2.mono (by decide), z4.mono (by decide), uy0, ?_⟩
    and_intros
    have t1 := z2.div z4 uy0
    refine ⟨oy / uy, ux, rfl, t1.mono (by decide), z3.mono (by decide), ?_⟩
    and_intros
    have t2 := t1.mul z3
    refine ⟨ox, oy / uy * ux, rfl, z1.mono (by decide), t2.mono (by decide), ?_⟩
    and_intros
    have t3 := z1.sub t2
    refine ⟨ox - oy / uy * ux, uy, rfl, t3.mono (by decide), z4.mono (by decide), uy0, ?_⟩
    have t4 := t3.div z4 uy0
    have ln : (ox - oy / uy * ux) / uy ≠ 0 := fun z => dt (by
      have e1 : oy / uy * uy = oy := Rat.div_mul_cancel uy0
      have e2 : (ox - oy / uy * ux) / uy * uy = ox - oy / uy * ux := Rat.div_mul_cancel uy0
      rw [z] at e2
      generalize oy / uy = t at *
      clear w
      grind)
    and_intros
    refine ⟨p, _, h, rfl, ln, ?_⟩
    and_intros
    refine ⟨ux, uy, rfl, z3.mono (by decide), z4.mono (by decide), uy0, ?_⟩
    and_intros
    have L := leads_col h.pi (x := x.1) rfl gP eP uy0 gt ln
    have ea := act_eq h.pi hd L
    rw [ea] at lv w
    exact ⟨p, h, _, _, rfl, lv, (z3.div z4 uy0).mono (by decide), w⟩
  unfold t_ball_of
  and_intros
  refine ⟨p, bY, ay, h, rfl, ?_⟩
  and_intros
  have one0 : Ge p 0 (1 : Rat) := ge_int hq 1
  have quo : ∀ {u v : Rat}, v ≠ 0 → (u = 0 ∨ vl p v ≤ vl p u) → Ge p 0 (u / v) := fun {u v} hv q => by
    rcases q with rfl | q
    · rw [show (0 : Rat) / v = 0 by rw [Rat.div_def]; grind]
      exact ge_zero hq _
    · rw [Rat.div_def]
      by_cases hu : u = 0
      · rw [hu, Rat.zero_mul]
        exact ge_zero hq _
      · have := ge_div hq (vx_ge (vl_vx hq hu)) (vl_vx hq hv)
        exact ge_mono hq this (by omega)
  refine iteD (fun q => ?_) (fun q => ?_)
  · refine xs_par (ea_cons (ev_var rfl (ea_cons (ev_var rfl (ea_nil ⟨_, _, rfl, ?_⟩)))))
    refine fin bx bY ax ay _ ⟨0, 1, 1, 0⟩ rfl ⟨⟨ge_zero hq _, one0, one0, ge_zero hq _⟩, ?_⟩ ?_ q.1 (quo q.1 ?_) ?_ s3 s4 s1 s2
    · have := vx_neg (vx_pw hq 0)
      rw [pw_zero] at this
      refine cast (congrArg (Vx p 0) ?_) this
      simp only [Mt.det]
      grind
    · rw [e]
      apply Mt.ext' <;> simp only [Mt.mul] <;> grind
    · rcases q.2 with z | z
      · exact .inl z
      · exact .inr (by omega)
    · exact fun z => dN (by grind)
  · have b0 : bY ≠ 0 := fun z => by
      by_cases ha : ay = 0
      · exact dN (by rw [z, ha]; grind)
      · exact q ⟨ha, .inl z⟩
    refine xs_next ?_
    refine fin ax ay bx bY _ Mt.one rfl (gl_one hq) (by rw [Mt.mul_one, e]) b0 (quo b0 ?_) dN s1 s2 s3 s4
    by_cases ha : ay = 0
    · exact .inl ha
    · refine .inr ?_
      exact Int.not_lt.mp fun z => q ⟨ha, .inr z⟩
theorem r_led : Kp F K (t_led K) 3 12 c_led := fun ds W hl c => by
  obtain ⟨p, h, M, x, rfl, ok, rd, w⟩ := c
  have nr := rd.nr h
  have lv := rd_lv h rd
  have sx := rd_sz h (R := 400000) rd
  have la : (act h.pi M.m x).1.1.natAbs ≤ _ := rd_lv h (rd.led h ok.len ok.det)
  unfold t_led
  refine xs_seq (xs_asgL rfl (ev_lcT (ev_var rfl ⟨_, fun k ds => ds = ([M.a, M.b, M.c, M.d].take k).map fun z : Int => dF (z : Rat), rfl, Nat.le_of_ble_eq_true rfl, rfl, ?_, ?_⟩)))
  · intro k z hz G hG ds hds
    refine et_yes ?_
    rw [if_pos rfl]
    have : ∃ a, z = PyData.int a ∧ [M.a, M.b, M.c, M.d][k]? = some a := by
      match k, hz with
      | 0, hx => exact ⟨M.a, (Option.some.inj hx).symm, rfl⟩
      | 1, hx => exact ⟨M.b, (Option.some.inj hx).symm, rfl⟩
      | 2, hx => exact ⟨M.c, (Option.some.inj hx).symm, rfl⟩
      | 3, hx => exact ⟨M.d, (Option.some.inj hx).symm, rfl⟩
    obtain ⟨a, rfl, ha⟩ := this
    and_intros
    show ds ++ [_] = _
    rw [hds, List.take_add_one, ha, List.map_append]
    rfl
  · intro ds hds
    subst hds
    refine ⟨_, rfl, rfl, ?_⟩
    and_intros
    refine ⟨p, x.1.1, h, rfl, by omega, ?_⟩
    and_intros
    have sa := Sz.int ok.len.1 (by decide)
    have sb := Sz.int ok.len.2.1 (by decide)
    have sc := Sz.int ok.len.2.2.1 (by decide)
    have sd := Sz.int ok.len.2.2.2 (by decide)
    have sw : Sz 1200001 (Pw p x.1.1) := sz_pw h (by omega)
    refine ⟨(M.a : Rat), Pw p x.1.1, rfl, sa.mono (by decide), sw.mono (by decide), ?_⟩
    and_intros
    refine ⟨(M.c : Rat), Pw p x.1.1, rfl, sc.mono (by decide), sw.mono (by decide), ?_⟩
    and_intros
    refine ⟨(M.a : Rat), x.1.2, rfl, sa.mono (by decide), sx.mono (by decide), ?_⟩
    and_intros
    refine ⟨(M.a : Rat) * x.1.2, (M.b : Rat), rfl, (sa.mul sx).mono (by decide), sb.mono (by decide), ?_⟩
    and_intros
    refine ⟨(M.c : Rat), x.1.2, rfl, sc.mono (by decide), sx.mono (by decide), ?_⟩
    and_intros
    refine ⟨(M.c : Rat) * x.1.2, (M.d : Rat), rfl, (sc.mul sx).mono (by decide), sd.mono (by decide), ?_⟩
    and_intros
    refine ⟨p, h, M.m, x, x, _, _, _, _, rfl, ?_, ok.det, (sa.mul sw).mono (by decide), (sc.mul sw).mono (by decide), ((sa.mul sx).add sb).mono (by decide), ((sc.mul sx).add sd).mono (by decide), by omega, w⟩
    apply Mt.ext' <;> simp only [Mt.mul, Tb, Mi.m] <;> grind
end
end Bm
-- BmR5
set_option maxRecDepth 100000
set_option maxHeartbeats 2000000
/-! BmR5: what the defs compute: roads, sides, stretches. -/
namespace Bm
open PySem PySem.Spec PyProof.Rows L2 Bt
local macro_rules | `(tactic| and_intros) => `(tactic| repeat (with_reducible first
  | refine xs_seq ?_ | refine xs_ret ?_ | refine xs_asg ?_ | refine xs_par ?_ | refine xs_par3 ?_ | refine xs_if ?_ | refine xs_asgT rfl ?_
  | (refine ev_var (d := ?_) ?_ ?_; rotate_left; (with_unfolding_all exact rfl))
  | refine ev_int ?_ | refine ev_bl ?_ | refine ev_str ?_ | refine ev_non ?_
  | refine ev_ixT ?_ | refine ev_ixL ?_ | refine ea_nil ?_ | refine ea_cons ?_ | refine s_tup ?_ | refine s_dis ?_ | refine ev_call ?_
  | refine ⟨_, _, _, rfl, rfl, (by with_unfolding_all exact rfl), ?_⟩
  | refine s_add ?_ | refine s_sub ?_ | refine s_mul ?_ | refine s_fdv ?_ | refine s_mod ?_ | refine s_lt ?_ | refine s_le ?_ | refine s_gt ?_ | refine s_ge ?_ | refine s_neg ?_
  | refine ⟨_, _, rfl, rfl, ?_⟩ | refine ⟨_, _, rfl, ?_⟩ | refine ⟨_, rfl, ?_⟩
  | refine ev_if ?_ | refine et_T ?_ | refine et_B ?_ | refine et_not ?_ | refine et_and ?_ | refine et_or ?_
  | refine ev_gcd2 ?_ | refine ev_eqI ?_ | refine ev_neI ?_
  | refine ⟨(by with_unfolding_all exact rfl), ?_⟩ | refine ⟨Nat.le_of_ble_eq_true (by with_unfolding_all exact rfl), ?_⟩
  | refine ⟨_, rfl, (by with_unfolding_all exact rfl), ?_⟩))
theorem tl_bd {p : Int} (h : PP p) {x y : Bl} (nx : Nr x) (ny : Nr y) : (tl p x y).natAbs ≤ 11000000 := by
  have lx := nx.1
  have ly := ny.1
  unfold tl
  split
  · omega
  · rename_i q
    have := vl_bd h (x := x.2 - y.2) (fun z => q (by grind)) (nx.2.sub ny.2)
    omega
section
variable {F : Fr} {K : PySem.W.Frag} {W : PyData → Prop}
theorem r_steps : Kp F K (t_steps K) 3 3 c_steps := fun ds W hl c => by
  obtain ⟨p, h, x, y, rfl, nx, ny, w⟩ := c
  unfold t_steps
  and_intros
  refine ⟨p, h, x, y, rfl, nx, ny, ?_⟩
  and_intros
  refine ⟨cm_small (by decide), ?_⟩
  and_intros
  exact w
theorem r_on_road : Kp F K (t_on_road K) 4 6 c_on_road := fun ds W hl c => by
  obtain ⟨p, h, x, y, k, rfl, nx, ny, k0, k1, w⟩ := c
  have d : (tr h).d x y = x.1.1 + y.1.1 - 2 * tl p x.1 y.1 := rfl
  have l := tl_le h.pi.toIsPr x.1 y.1
  have lx := nx.1
  have ly := ny.1
  have lt := tl_bd h nx ny
  unfold t_on_road
  and_intros
  refine ⟨p, h, x, y, rfl, nx, ny, ?_⟩
  and_intros
  have w' : W (dB (if k ≤ x.1.1 - tl p x.1 y.1 then nb h.pi (x.1.1 - k) x.1.2 else nb h.pi (tl p x.1 y.1 + k - (x.1.1 - tl p x.1 y.1)) y.1.2).1) := w
  rw [show (nb h.pi (tl p x.1 y.1) x.1.2).1.1 = tl p x.1 y.1 from rfl]
  refine iteD (fun q => ?_) (fun q => ?_)
  · rw [if_pos q] at w'
    and_intros
    exact ⟨p, h, x.1.1 - k, x.1.2, rfl, by omega, nx.2, w'⟩
  · rw [if_neg q] at w'
    and_intros
    refine ⟨p, h, _, y.1.2, rfl, ?_, ny.2, w'⟩
    omega
theorem r_road : Kp F K (t_road K) 3 7 c_road := fun ds W hl c => by
  obtain ⟨p, h, x, y, rfl, nx, ny, dl, w⟩ := c
  have d : (tr h).d x y = x.1.1 + y.1.1 - 2 * tl p x.1 y.1 := rfl
  have l := tl_le h.pi.toIsPr x.1 y.1
  have lx := nx.1
  have ly := ny.1
  unfold t_road
  and_intros
  refine ⟨p, h, x, y, rfl, nx, ny, ?_⟩
  generalize ht : tl p x.1 y.1 = t at *
  have tn : (nb h.pi t x.1.2).1.1 = t := rfl
  and_intros
  refine ev_lcR3 ?_
  and_intros
  refine ⟨x.1.1, t, (x.1.1 - t).toNat, fun k ds => ds = (List.range k).map fun k => dB (nb h.pi (x.1.1 - (k : Nat)) x.1.2).1, rfl, by omega, rfl, by omega, rfl, ?_, ?_⟩
  · intro k hk G hG ds hds
    refine et_yes ?_
    rw [if_pos rfl]
    and_intros
    refine ⟨p, h, x.1.1 - (k : Nat), x.1.2, rfl, by omega, nx.2, ?_⟩
    show ds ++ [_] = _
    rw [hds, List.range_succ, List.map_append]
    rfl
  intro us hus
  and_intros
  refine ev_lcR2 ?_
  and_intros
  refine ⟨t + 1, y.1.1 + 1, (y.1.1 - t).toNat, fun k ds => ds = (List.range k).map fun k => dB (nb h.pi (t + 1 + (k : Nat)) y.1.2).1, rfl, by omega, by omega, by omega, rfl, ?_, ?_⟩
  · intro k hk G hG ds hds
    refine et_yes ?_
    rw [if_pos rfl]
    and_intros
    refine ⟨p, h, t + 1 + (k : Nat), y.1.2, rfl, by omega, ny.2, ?_⟩
    show ds ++ [_] = _
    rw [hds, List.range_succ, List.map_append]
    rfl
  intro vs hvs
  and_intros
  refine ea_star ?_
  and_intros
  refine ⟨us, .inl rfl, ?_⟩
  and_intros
  refine ea_star ?_
  and_intros
  refine ⟨vs, .inl rfl, ea_nil ?_⟩
  rw [List.append_nil]
  have len : (us ++ dB (nb h.pi t x.1.2).1 :: vs).length = ((tr h).d x y).toNat + 1 := by
    rw [hus, hvs]
    simp
    omega
  refine ⟨by rw [len]; omega, ?_⟩
  refine cast (congrArg (fun z => W (.tuple z)) ?_) w
  refine List.ext_getElem (by rw [len]; simp) fun i h1 h2 => ?_
  rw [List.getElem_map, List.getElem_range]
  show dB ((if (i : Int) ≤ x.1.1 - tl p x.1 y.1 then nb h.pi (x.1.1 - (i : Int)) x.1.2 else nb h.pi (tl p x.1 y.1 + (i : Int) - (x.1.1 - tl p x.1 y.1)) y.1.2)).1 = _
  rw [ht]
  have lu : us.length = (x.1.1 - t).toNat := by rw [hus]; simp
  by_cases c1 : i < us.length
  · rw [if_pos (by omega), List.getElem_append_left c1]
    subst hus
    rw [List.getElem_map, List.getElem_range]
  · rw [List.getElem_append_right (by omega)]
    by_cases c2 : i = us.length
    · rw [if_pos (by omega)]
      have : x.1.1 - (i : Int) = t := by omega
      rw [this]
      simp [c2]
    · rw [if_neg (by omega)]
      obtain ⟨j, hj⟩ : ∃ j, i - us.length = j + 1 := ⟨i - us.length - 1, by omega⟩
      have e : t + (i : Int) - (x.1.1 - t) = t + 1 + (j : Nat) := by omega
      subst hvs
      rw [e]
      simp only [hj, List.getElem_cons_succ, List.getElem_map, List.getElem_range]
theorem nbr_mem {p : Int} (h : PP p) {x y : B p} (e : (tr h).d x y = 1) : y.1 = (nb h.pi (x.1.1 - 1) x.1.2).1 ∨ ∃ k : Nat, k < p.toNat ∧ y.1 = (x.1.1 + 1, x.1.2 + ((k : Nat) : Rat) * Pw p x.1.1) := by
  have hq := h.pi.toIsPr
  have p2 := pp_pos h
  have d : (tr h).d x y = x.1.1 + y.1.1 - 2 * tl p x.1 y.1 := rfl
  have l := tl_le hq x.1 y.1
  have g := ((tl_ge hq x.1 y.1 (tl p x.1 y.1)).mp (Int.le_refl _)).2.2
  by_cases c : y.1.1 < x.1.1
  · left
    have e1 : y.1.1 = x.1.1 - 1 := by omega
    have e2 : tl p x.1 y.1 = x.1.1 - 1 := by omega
    rw [e2] at g
    rw [nb_eq h.pi (q := y.1.2) (by rw [← e1]; exact y.2) g]
    exact Prod.ext e1 rfl
  · right
    have e1 : y.1.1 = x.1.1 + 1 := by omega
    have e2 : tl p x.1 y.1 = x.1.1 := by omega
    rw [e2] at g
    -- y.2 = x.2 + k p^n
    have g1 := ge_mul hq (ge_neg g) (vx_ge (vx_pw hq (-x.1.1)))
    rw [show x.1.1 + -x.1.1 = 0 by omega] at g1
    obtain ⟨z, hz⟩ := ge0_int hq (zi_mul hq (zi_neg (zi_sub hq x.2.zi y.2.zi)) (zi_pw hq _)) g1
    have i := pw_inv hq x.1.1
    have ppos := pw_pos hq x.1.1
    have e3 : y.1.2 = x.1.2 + (z : Rat) * Pw p x.1.1 := by
      rw [← hz]
      generalize Pw p x.1.1 = A at *
      generalize Pw p (-x.1.1) = C at *
      grind
    have a1 := x.2.nn
    have a2 := x.2.lt
    have a3 := y.2.nn
    have a4 := y.2.lt
    rw [e1, pw_add hq, pw_one] at a4
    have z0 : 0 ≤ z := by
      refine Int.not_lt.mp fun q => ?_
      have q1 : z ≤ -1 := by omega
      have q' : (z : Rat) ≤ ((-1 : Int) : Rat) := by exact_mod_cast q1
      rw [show ((-1 : Int) : Rat) = -1 from rfl] at q'
      have := Rat.mul_le_mul_of_nonneg_right q' (Rat.le_of_lt ppos)
      generalize Pw p x.1.1 = A at *
      generalize (z : Rat) * A = ZA at *
      grind
    have z1 : z < p := by
      refine Int.not_le.mp fun q => ?_
      have q' : (p : Rat) ≤ (z : Rat) := by exact_mod_cast q
      have := Rat.mul_le_mul_of_nonneg_right q' (Rat.le_of_lt ppos)
      generalize Pw p x.1.1 = A at *
      generalize (z : Rat) * A = ZA at *
      grind
    refine ⟨z.toNat, by omega, Prod.ext e1 ?_⟩
    rw [e3]
    have : ((z.toNat : Nat) : Rat) = (z : Rat) := by
      have : ((z.toNat : Nat) : Int) = z := Int.toNat_of_nonneg z0
      rw [← Rat.intCast_natCast, this]
    rw [this]
theorem shB_all : ∀ l : List Bl, PyData.canLayAll0 (l.map dB) = true
  | [] => rfl
  | x :: l => by
    show (PyData.canLay0 (dB x) && PyData.canLayAll0 (l.map dB)) = true
    rw [shB_all l]
    rfl
theorem dpB_all : ∀ l : List Bl, PyData.depthAll (l.map dB) ≤ 2
  | [] => Nat.zero_le _
  | x :: l => by
    show max (PyData.depth (dB x)) (PyData.depthAll (l.map dB)) ≤ 2
    have h1 := dpB_all l
    have h2 : PyData.depth (dB x) = 2 := rfl
    omega
theorem shL (l : List Bl) : SeqAt.shaped (.list (l.map dB)) = true := by
  refine Bool.and_eq_true_iff.mpr ⟨shB_all l, decide_eq_true ?_⟩
  show PyData.depthAll (l.map dB) + 1 ≤ 64
  have := dpB_all l
  omega
theorem r_is_side : Kp F K (t_is_side K) 2 3 c_is_side := fun ds W hl c => by
  obtain ⟨p, h, x, y, rfl, nx, ny, e, w⟩ := c
  unfold t_is_side
  refine xs_seq (xs_if (et_or (et_not (et_B (ev_isi (ev_var rfl ⟨rfl, true, rfl, true, rfl, ?_⟩))))))
  rw [if_neg (by decide)]
  refine et_or (et_T (ev_neI (s_len ?_)))
  and_intros
  refine ⟨_, .inr rfl, ?_⟩
  and_intros
  refine iteN (fun _ => ?_) (fun z => absurd rfl z)
  refine et_not (et_B (ev_all (ea_cons (ev_lcT (ev_var rfl ⟨_, fun k ds => ds = (List.replicate k true).map PyData.bool, rfl, Nat.le_of_ble_eq_true rfl, rfl, ?_, ?_⟩)))))
  · intro k z hz G hG ds hds
    refine et_yes ?_
    rw [if_pos rfl]
    have : ∃ b : B p, z = dB b.1 ∧ Nr b.1 := by
      match k, hz with
      | 0, hx => exact ⟨x, (Option.some.inj hx).symm, nx⟩
      | 1, hx => exact ⟨y, (Option.some.inj hx).symm, ny⟩
    obtain ⟨b, rfl, nb⟩ := this
    and_intros
    refine ⟨p, b.1, h, rfl, b.2, nb, ?_⟩
    show ds ++ [PyData.bool true] = List.map PyData.bool (List.replicate (k + 1) true)
    rw [hds, List.replicate_succ', List.map_append]
    rfl
  · intro ds hds
    subst hds
    refine ea_nil ⟨[true, true], rfl, true, rfl, ?_⟩
    rw [if_neg (by decide)]
    refine xs_next (xs_ret (ev_inD ?_))
    and_intros
    refine ⟨p, h, x, rfl, nx, ?_⟩
    have el : (dB (nb h.pi (x.1.1 - 1) x.1.2).1 :: (List.range p.toNat).map fun k : Nat => dB (x.1.1 + 1, x.1.2 + ((k : Nat) : Rat) * Pw p x.1.1)) = (((nb h.pi (x.1.1 - 1) x.1.2).1 :: (List.range p.toNat).map fun k : Nat => ((x.1.1 + 1, x.1.2 + ((k : Nat) : Rat) * Pw p x.1.1) : Bl)).map dB) := by
      rw [List.map_cons, List.map_map]
      rfl
    rw [el]
    refine ⟨_, rfl, rfl, shL _, ?_⟩
    · refine cast (congrArg (fun z => W (.bool z)) ?_) w
      refine Eq.symm (List.any_eq_true.mpr ⟨dB y.1, ?_, (eqv_iff rfl rfl).mpr rfl⟩)
      refine List.mem_map.mpr ⟨y.1, ?_, rfl⟩
      rcases nbr_mem h e with q | ⟨k, hk, q⟩
      · rw [q]
        exact List.mem_cons_self ..
      · rw [q]
        exact List.mem_cons_of_mem _ (List.mem_map.mpr ⟨k, List.mem_range.mpr hk, rfl⟩)
theorem r_on_side : Kp F K (t_on_side K) 3 3 c_on_side := fun ds W hl c => by
  obtain ⟨p, h, u, v, x, rfl, nu, nv, nx, w⟩ := c
  unfold t_on_side
  and_intros
  refine ⟨p, h, v, x, rfl, nv, nx, ?_⟩
  and_intros
  refine ⟨p, h, u, x, rfl, nu, nx, ?_⟩
  and_intros
  exact w _ decide_eq_true_iff
theorem r_are_apart : Kp F K (t_are_apart K) 3 3 c_are_apart := fun ds W hl c => by
  obtain ⟨p, h, u, v, x, y, rfl, nu, nv, nx, ny, w⟩ := c
  unfold t_are_apart
  refine xs_ret (ev_and (ev_not ?_))
  and_intros
  refine ⟨p, h, u, v, y, rfl, nu, nv, ny, fun b hb => ?_⟩
  and_intros
  cases b with
  | true => exact w false ⟨fun z => (by cases z), fun z => absurd (hb.mp rfl) z.1⟩
  | false =>
    rw [if_pos (by decide)]
    refine ev_not ?_
    and_intros
    refine ⟨p, h, x, y, v, rfl, nx, ny, nv, fun c hc => ?_⟩
    and_intros
    have n1 : ¬ onS (tr h) (u, v) y := fun z => by cases hb.mpr z
    cases c with
    | true => exact w false ⟨fun z => (by cases z), fun z => absurd (hc.mp rfl) z.2⟩
    | false => exact w true ⟨fun _ => ⟨n1, fun z => by cases hc.mpr z⟩, fun _ => rfl⟩
theorem r_lies_in : Kp F K (t_lies_in K) 3 3 c_lies_in := fun ds W hl c => by
  obtain ⟨p, h, u, v, x, y, rfl, nu, nv, nx, ny, w⟩ := c
  unfold t_lies_in
  and_intros
  refine ev_rev2 ?_
  and_intros
  exact ⟨p, h, u, v, y, x, rfl, nu, nv, ny, nx, w⟩
theorem r_stretch : Kp F K (t_stretch K) 2 2 c_stretch := fun ds W hl c => by
  obtain ⟨p, M, h, rfl, hd, s, w⟩ := c
  have hq := h.pi.toIsPr
  unfold t_stretch
  and_intros
  refine ⟨M, rfl, ?_⟩
  have te := tr_int M
  and_intros
  refine iteD (fun q => ?_) (fun q => ?_)
  · and_intros
    have : st p M = 0 := by
      show strv p M.m = 0
      unfold strv
      rw [if_pos (by rw [te, q]; rfl)]
    rw [this] at w
    exact w
  · refine xs_next (xs_ret (s_max ?_))
    have t0 : Mt.tr M.m ≠ 0 := by rw [te]; exact cast_ne q
    have de := det_int M
    have d0 : M.a * M.d - M.b * M.c ≠ 0 := fun z => hd (by rw [de, z]; rfl)
    and_intros
    refine ⟨M, rfl, s, ?_⟩
    and_intros
    refine ⟨p, _, h, rfl, d0, fun k u e1 hu => ?_⟩
    and_intros
    refine ⟨M, rfl, ?_⟩
    and_intros
    refine ⟨p, _, h, rfl, q, fun j v e2 hv => ?_⟩
    and_intros
    refine ⟨cm_small (by decide), ?_⟩
    and_intros
    have v1 := vl_of hq (vx_int hq (a := k) hu)
    have v2 := vl_of hq (vx_int hq (a := j) hv)
    rw [← e1, ← de] at v1
    rw [← e2, ← te] at v2
    refine cast (congrArg (fun z => W (.int z)) ?_) w
    show strv p M.m = _
    unfold strv
    rw [if_neg t0, v1, v2]
    split <;> omega
end
end Bm
-- BmR6
set_option maxRecDepth 100000
set_option maxHeartbeats 2000000
/-! BmR6: what the defs compute: lines. -/
namespace Bm
open PySem PySem.Spec PyProof.Rows L2 Bt
local macro_rules | `(tactic| and_intros) => `(tactic| repeat (with_reducible first
  | refine xs_seq ?_ | refine xs_ret ?_ | refine xs_asg ?_ | refine xs_par ?_ | refine xs_par3 ?_ | refine xs_if ?_ | refine xs_asgT rfl ?_
  | (refine ev_var (d := ?_) ?_ ?_; rotate_left; (with_unfolding_all exact rfl))
  | refine ev_int ?_ | refine ev_bl ?_ | refine ev_str ?_ | refine ev_non ?_
  | refine ev_ixT ?_ | refine ev_ixL ?_ | refine ea_nil ?_ | refine ea_cons ?_ | refine s_tup ?_ | refine s_dis ?_ | refine ev_call ?_
  | refine ⟨_, _, _, rfl, rfl, (by with_unfolding_all exact rfl), ?_⟩
  | refine s_add ?_ | refine s_sub ?_ | refine s_mul ?_ | refine s_fdv ?_ | refine s_mod ?_ | refine s_lt ?_ | refine s_le ?_ | refine s_gt ?_ | refine s_ge ?_ | refine s_neg ?_
  | refine ⟨_, _, rfl, rfl, ?_⟩ | refine ⟨_, _, rfl, ?_⟩ | refine ⟨_, rfl, ?_⟩
  | refine ev_if ?_ | refine et_T ?_ | refine et_B ?_ | refine et_not ?_ | refine et_and ?_ | refine et_or ?_
  | refine ev_gcd2 ?_ | refine ev_eqI ?_ | refine ev_neI ?_
  | refine ⟨(by with_unfolding_all exact rfl), ?_⟩ | refine ⟨Nat.le_of_ble_eq_true (by with_unfolding_all exact rfl), ?_⟩
  | refine ⟨_, rfl, (by with_unfolding_all exact rfl), ?_⟩))
/-! ### the line's balls one behind another -/
section
variable {p : Int} (h : PP p) {M : Mi}
theorem isoM (hd : Mt.det M.m ≠ 0) : Iso (tr h) (ac h M) (act h.pi (Mt.adj M.m)) := act_iso h.pi hd
theorem hypM (hd : Mt.det M.m ≠ 0) (hs : 0 < st p M) : Hyp (tr h) (ac h M) (st p M) := (str_ok h.pi hd).hyp hs
theorem itn_ax (hd : Mt.det M.m ≠ 0) (hs : 0 < st p M) {x : B p} (hx : Ax (tr h) (ac h M) (st p M) x) : ∀ n, Ax (tr h) (ac h M) (st p M) (itn h M x n)
  | 0 => hx
  | n + 1 => (nxt_ax (isoM h hd) (hypM h hd hs) (itn_ax hd hs hx n)).1
theorem itn_pos (hd : Mt.det M.m ≠ 0) (hs : 0 < st p M) {x : B p} (hx : Ax (tr h) (ac h M) (st p M) x) {pos : B p → Int} (C : Crd (tr h) (ac h M) (st p M) pos) : ∀ n : Nat, pos (itn h M x n) = pos x + n
  | 0 => by show pos x = _; omega
  | n + 1 => by
    have := C.nx (isoM h hd) (hypM h hd hs) (itn_ax h hd hs hx n)
    show pos (nxt (tr h) (ac h M) (itn h M x n)) = _
    rw [this, itn_pos hd hs hx C n]
    omega
theorem itn_d (hd : Mt.det M.m ≠ 0) (hs : 0 < st p M) {x : B p} (hx : Ax (tr h) (ac h M) (st p M) x) (n : Nat) : (tr h).d x (itn h M x n) = n := by
  obtain ⟨pos, _, C⟩ := coord' (isoM h hd) (hypM h hd hs) hx
  have e := itn_pos h hd hs hx C n
  have := C.le x _ hx (itn_ax h hd hs hx n) (by omega)
  omega
theorem on_itn (hd : Mt.det M.m ≠ 0) (hs : 0 < st p M) {y : B p} (hy : Ax (tr h) (ac h M) (st p M) y) (k : Nat) (hk : (k : Int) ≤ st p M) : (tr h).on y (ac h M y) k = itn h M y k := by
  have G := isoM h hd
  have H := hypM h hd hs
  obtain ⟨pos, _, C⟩ := coord' G H hy
  have e : (tr h).d y (ac h M y) = st p M := hy
  have o1 := (tr h).on1 y (ac h M y) k (by omega) (by omega)
  have o2 := (tr h).on2 y (ac h M y) k (by omega) (by omega)
  have oa : Ax (tr h) (ac h M) (st p M) ((tr h).on y (ac h M y) k) := Ax.convex G H hy (Ax.fwd G hy) (by omega)
  have c1 := C.ab hy oa
  have c2 := C.ab oa (Ax.fwd G hy)
  have f := C.fw y hy
  refine C.eq oa (itn_ax h hd hs hy k) ?_
  rw [itn_pos h hd hs hy C k]
  omega
theorem itn_add {x : B p} (m : Nat) : ∀ n, itn h M x (m + n) = itn h M (itn h M x m) n
  | 0 => rfl
  | n + 1 => by
    show nxt (tr h) (ac h M) (itn h M x (m + n)) = nxt (tr h) (ac h M) (itn h M (itn h M x m) n)
    rw [itn_add m n]
end
theorem root_eq {p : Int} (h : PP p) : (root h).1 = (0, 0) := by
  have hq := h.pi.toIsPr
  unfold root
  rw [nb_eq h.pi (q := 0) ⟨by decide, pw_pos hq 0, zi_int 0⟩ (by rw [Rat.sub_self]; exact ge_zero hq _)]
section
variable {F : Fr} {K : PySem.W.Frag} {W : PyData → Prop}
theorem r_resting : Kp F K (t_resting K) 3 4 c_resting := fun ds W hl c => by
  obtain ⟨p, h, M, x, rfl, ok, hs, rd, w⟩ := c
  have rl := rd.led h ok.len ok.det
  unfold t_resting
  and_intros
  refine ⟨p, h, M, x, rfl, ok, rd.mono h (by decide), ?_⟩
  and_intros
  have nx := (rd.mono h (R' := 400000) (by decide)).nr h
  have ny := (rl.mono h (R' := 400000) (by decide)).nr h
  refine ⟨p, h, x, _, rfl, nx, ny, ?_⟩
  and_intros
  refine ⟨p, M, h, rfl, ok.det, ok.len.mono (by decide), ?_⟩
  and_intros
  refine ⟨by decide, ?_⟩
  and_intros
  have ge := Ax.ge (hypM h ok.det hs) x
  have e : ((tr h).d x (ac h M x) - st p M).fdiv 2 = ((tr h).d x (ac h M x) - st p M) / 2 := Int.fdiv_eq_ediv_of_nonneg _ (by decide)
  rw [e]
  exact ⟨p, h, x, _, _, rfl, nx, ny, by omega, by omega, w⟩
theorem r_gate : Kp F K (t_gate K) 3 3 c_gate := fun ds W hl c => by
  obtain ⟨p, h, M, x, rfl, ok, hs, rd, w⟩ := c
  unfold t_gate
  and_intros
  exact ⟨p, h, M, x, rfl, ok, hs, rd, w⟩
theorem r_on_line : Kp F K (t_on_line K) 3 4 c_on_line := fun ds W hl c => by
  obtain ⟨p, h, M, x, rfl, ok, hs, rd, w⟩ := c
  have rl := rd.led h ok.len ok.det
  unfold t_on_line
  and_intros
  refine ⟨p, M, h, rfl, ok.det, ok.len.mono (by decide), ?_⟩
  refine xs_ret (ev_and ?_)
  and_intros
  rw [if_pos (decide_eq_true hs)]
  and_intros
  refine ⟨p, h, M, x, rfl, ok, rd.mono h (by decide), ?_⟩
  and_intros
  refine ⟨p, h, x, _, rfl, (rd.mono h (R' := 400000) (by decide)).nr h, (rl.mono h (R' := 400000) (by decide)).nr h, ?_⟩
  and_intros
  exact w _ decide_eq_true_iff
theorem r_need_stretching : Kp F K (t_need_stretching K) 3 5 c_need_stretching := fun ds W hl c => by
  obtain ⟨p, M, N, h, rfl, ok, on, hs, ht, w⟩ := c
  unfold t_need_stretching
  refine xs_forE (P := fun _ S => ∃ a b, S = [some (.int p), some (dM M), some (dM N), a, b]) ?_
  and_intros
  refine ⟨⟨none, none, rfl⟩, ?_, fun S ⟨_, _, _⟩ => w⟩
  rintro k x S hx ⟨a, b, rfl⟩
  have : ∃ L : Mi, x = dM L ∧ L.ok ∧ 0 < st p L := by
    match k, hx with
    | 0, hx => exact ⟨M, (Option.some.inj hx).symm, ok, hs⟩
    | 1, hx => exact ⟨N, (Option.some.inj hx).symm, on, ht⟩
  obtain ⟨L, rfl, oL, sL⟩ := this
  and_intros
  refine ⟨p, L, h, rfl, oL.det, oL.len.mono (by decide), ?_⟩
  and_intros
  refine iteD (fun q => ?_) (fun q => ?_)
  · omega
  · exact xs_next ⟨_, _, rfl⟩
theorem r_between : Kp F K (t_between K) 2 10 c_between := fun ds W hl c => by
  obtain ⟨M, N, rfl, s, z, w⟩ := c
  unfold t_between
  and_intros
  refine ⟨cm_of s.2.1 z.2.2.1 (by decide), ?_⟩
  and_intros
  refine ⟨cm_of z.2.1 s.2.2.1 (by decide), ?_⟩
  and_intros
  refine ⟨cm_of s.1 z.2.1 (by decide), ?_⟩
  and_intros
  refine ⟨cm_of s.2.1 z.2.2.2 (by decide), ?_⟩
  and_intros
  refine ⟨cm_of z.1 s.2.1 (by decide), ?_⟩
  and_intros
  refine ⟨cm_of z.2.1 s.2.2.2 (by decide), ?_⟩
  and_intros
  refine ⟨cm_of s.2.2.1 z.1 (by decide), ?_⟩
  and_intros
  refine ⟨cm_of s.2.2.2 z.2.2.1 (by decide), ?_⟩
  and_intros
  refine ⟨cm_of z.2.2.1 s.1 (by decide), ?_⟩
  and_intros
  refine ⟨cm_of z.2.2.2 s.2.2.1 (by decide), ?_⟩
  and_intros
  refine ⟨cm_of s.2.2.1 z.2.1 (by decide), ?_⟩
  and_intros
  refine ⟨cm_of z.2.2.1 s.2.1 (by decide), ?_⟩
  and_intros
  exact w
theorem cut_from (xs : List PyData) (j : Nat) : cutD xs (some (j : Int)) none = xs.drop j := by
  unfold cutD
  rw [HT.sIx_nat, HT.sIx_none]
  rcases Nat.le_total j xs.length with h | h
  · rw [Nat.min_eq_left h]
    exact List.take_of_length_le (by rw [List.length_drop]; omega)
  · rw [Nat.min_eq_right h, List.drop_of_length_le h, List.drop_of_length_le (Nat.le_refl _), List.take_nil]
theorem cut_to (xs : List PyData) (j : Nat) : cutD xs none (some (j : Int)) = xs.take j := by
  unfold cutD
  rw [HT.sIx_nat, HT.sIx_none, List.drop_zero, Nat.sub_zero]
  rcases Nat.le_total j xs.length with h | h
  · rw [Nat.min_eq_left h]
  · rw [Nat.min_eq_right h, List.take_of_length_le h, List.take_of_length_le (Nat.le_refl _)]
/-- the balls behind x, as data -/
noncomputable def row {p : Int} (h : PP p) (M : Mi) (x : B p) (n : Nat) : List PyData := (List.range n).map fun i => dB (itn h M x i).1
theorem row_len {p : Int} (h : PP p) (M : Mi) (x : B p) (n : Nat) : (row h M x n).length = n := by unfold row; simp
theorem row_get {p : Int} (h : PP p) (M : Mi) (x : B p) {n i : Nat} (q : i < n) : (row h M x n)[i]? = some (dB (itn h M x i).1) := by
  unfold row
  rw [List.getElem?_map, List.getElem?_range q]
  rfl
theorem r_line_from : Kp F K (t_line_from K) 4 5 c_line_from := fun ds W hl c => by
  obtain ⟨p, h, M, x, k, rfl, ok, hs, rd, ax, hk, w⟩ := c
  have G := isoM h ok.det
  have H := hypM h ok.det hs
  have sl := st_le h ok.len ok.det
  unfold t_line_from
  and_intros
  refine ⟨p, h, M, x, rfl, ok, hs, rd.mono h (by decide), fun b hb => ?_⟩
  and_intros
  have bt := hb.mpr ax
  subst bt
  rw [if_neg (by decide)]
  refine xs_next ?_
  and_intros
  refine xs_while (m0 := k) (I := fun m S => ∃ c : Nat, m = k + 1 - c ∧ 0 < c ∧ (c : Int) ≤ k + 1 + st p M ∧ S = [some (.int p), some (dM M), some (dB x.1), some (.int (k : Int)), some (.list (row h M x c))]) ⟨1, by omega, by decide, by omega, rfl⟩ ?_
  rintro m S ⟨c, rfl, c0, cl, rfl⟩
  refine et_T (s_le (s_len ?_))
  and_intros
  refine ⟨_, .inl rfl, ?_⟩
  rw [row_len]
  and_intros
  refine iteD (fun q => ?_) (fun q => ?_)
  · obtain ⟨e, rfl⟩ : ∃ e, c = e + 1 := ⟨c - 1, by omega⟩
    have last : L2.atI (row h M x (e + 1)) (-1) = some (dB (itn h M x e).1) := by
      have : row h M x (e + 1) = row h M x e ++ [dB (itn h M x e).1] := by
        unfold row
        rw [List.range_succ, List.map_append]
        rfl
      rw [this]
      exact atI_last _ _
    have ay := itn_ax h ok.det hs ax e
    have dy := itn_d h ok.det hs ax e
    have ry := rd.far h (y := itn h M x e) (R' := 48100) (by omega)
    have rl := ry.led h ok.len ok.det
    refine xs_asg (ev_cat (ev_var rfl (s_lst (ea_cons (ev_slT (ev_call (ea_cons (ev_var rfl (ea_cons ?_)))))))))
    and_intros
    refine ⟨_, _, _, rfl, rfl, last, ?_⟩
    refine ea_cons (ev_call (ea_cons (ev_var rfl (ea_cons (ev_var rfl (ea_cons ?_))))))
    and_intros
    refine ⟨_, _, _, rfl, rfl, last, ?_⟩
    and_intros
    refine ⟨p, h, M, _, rfl, ok, ry.mono h (by decide), ?_⟩
    and_intros
    have dd : (tr h).d (itn h M x e) (ac h M (itn h M x e)) = st p M := ay
    refine ⟨p, h, _, _, rfl, (ry.mono h (R' := 400000) (by decide)).nr h, (rl.mono h (R' := 400000) (by decide)).nr h, by omega, ?_⟩
    refine eo_some (ev_int ⟨1, rfl, eo_none ⟨_, rfl, ?_⟩⟩)
    refine ea_nil ⟨_, .inr rfl, ?_⟩
    have e1 : (List.range (((tr h).d (itn h M x e) (ac h M (itn h M x e))).toNat + 1)).map (fun k : Nat => dB ((tr h).on (itn h M x e) (ac h M (itn h M x e)) (k : Int)).1) = row h M (itn h M x e) ((st p M).toNat + 1) := by
      rw [dd]
      unfold row
      refine List.map_congr_left fun i hi => ?_
      have := List.mem_range.mp hi
      rw [on_itn h ok.det hs ay i (by omega)]
    rw [e1]
    have e2 : cutD (row h M (itn h M x e) ((st p M).toNat + 1)) (some 1) none = (row h M (itn h M x e) ((st p M).toNat + 1)).drop 1 := cut_from _ 1
    rw [e2]
    have e3 : row h M x (e + 1) ++ (row h M (itn h M x e) ((st p M).toNat + 1)).drop 1 = row h M x (e + 1 + (st p M).toNat) := by
      refine List.ext_getElem? fun i => ?_
      by_cases c1 : i < e + 1
      · rw [List.getElem?_append_left (by rw [row_len]; exact c1), row_get h M x c1, row_get h M x (by omega)]
      · rw [List.getElem?_append_right (by rw [row_len]; omega), row_len, List.getElem?_drop]
        by_cases c2 : i < e + 1 + (st p M).toNat
        · rw [row_get h M x c2, row_get h M _ (by omega), ← itn_add]
          congr 4
          omega
        · rw [List.getElem?_eq_none (by rw [row_len]; omega), List.getElem?_eq_none (by rw [row_len]; omega)]
    refine ⟨_, _, rfl, rfl, ?_, ?_⟩
    · rw [List.length_drop, row_len, row_len]
      exact Nat.le_trans (by omega : _ ≤ 1000000) (by decide)
    · rw [e3]
      exact ⟨_, by omega, e + 1 + (st p M).toNat, rfl, by omega, by omega, rfl⟩
  · refine xs_ret (s_tpl (ea_cons (ev_slL (ev_var rfl (eo_none (eo_some ?_))))))
    and_intros
    have e4 : cutD (row h M x c) none (some ((k : Int) + 1)) = row h M x (k + 1) := by
      have := cut_to (row h M x c) (k + 1)
      rw [show ((k + 1 : Nat) : Int) = (k : Int) + 1 by omega] at this
      rw [this]
      refine List.ext_getElem? fun i => ?_
      rw [List.getElem?_take]
      split
      · rename_i hi
        rw [row_get h M x hi, row_get h M x (by omega)]
      · rw [List.getElem?_eq_none (by rw [row_len]; omega)]
    rw [e4]
    exact w
end
end Bm
-- BmR7
set_option maxRecDepth 100000
set_option maxHeartbeats 2000000
/-! BmR7: what the defs compute: lines told. -/
namespace Bm
open PySem PySem.Spec PyProof.Rows L2 Bt
local macro_rules | `(tactic| and_intros) => `(tactic| repeat (with_reducible first
  | refine xs_seq ?_ | refine xs_ret ?_ | refine xs_asg ?_ | refine xs_par ?_ | refine xs_par3 ?_ | refine xs_if ?_ | refine xs_asgT rfl ?_
  | (refine ev_var (d := ?_) ?_ ?_; rotate_left; (with_unfolding_all exact rfl))
  | refine ev_int ?_ | refine ev_bl ?_ | refine ev_str ?_ | refine ev_non ?_
  | refine ev_ixT ?_ | refine ev_ixL ?_ | refine ea_nil ?_ | refine ea_cons ?_ | refine s_tup ?_ | refine s_dis ?_ | refine ev_call ?_
  | refine ⟨_, _, _, rfl, rfl, (by with_unfolding_all exact rfl), ?_⟩
  | refine s_add ?_ | refine s_sub ?_ | refine s_mul ?_ | refine s_fdv ?_ | refine s_mod ?_ | refine s_lt ?_ | refine s_le ?_ | refine s_gt ?_ | refine s_ge ?_ | refine s_neg ?_
  | refine ⟨_, _, rfl, rfl, ?_⟩ | refine ⟨_, _, rfl, ?_⟩ | refine ⟨_, rfl, ?_⟩
  | refine ev_if ?_ | refine et_T ?_ | refine et_B ?_ | refine et_not ?_ | refine et_and ?_ | refine et_or ?_
  | refine ev_gcd2 ?_ | refine ev_eqI ?_ | refine ev_neI ?_
  | refine ⟨(by with_unfolding_all exact rfl), ?_⟩ | refine ⟨Nat.le_of_ble_eq_true (by with_unfolding_all exact rfl), ?_⟩
  | refine ⟨_, rfl, (by with_unfolding_all exact rfl), ?_⟩))
/-! ### moves up to a factor -/
theorem strv_sm {p : Int} (h : PP p) {M : Mt} (hd : Mt.det M ≠ 0) {k : Rat} (hk : k ≠ 0) : strv p (Mt.sm k M) = strv p M := by
  have hq := h.pi.toIsPr
  unfold strv
  rw [Mt.tr_sm, Mt.det_sm]
  by_cases t : Mt.tr M = 0
  · rw [if_pos t, if_pos (by rw [t, Rat.mul_zero])]
  · rw [if_neg t, if_neg (fun e => (Rat.mul_eq_zero.mp e).elim hk t), vl_mul hq hk t, vl_mul hq (fun e => (Rat.mul_eq_zero.mp e).elim hk hk) hd, vl_mul hq hk hk]
    congr 1
    omega
theorem strv_adj (p : Int) (M : Mt) : strv p (Mt.adj M) = strv p M := by
  have : Mt.tr (Mt.adj M) = Mt.tr M := by
    show M.d + M.a = M.a + M.d
    grind
  unfold strv
  rw [this, Mt.det_adj]
/-- L is M up to a factor -/
structure Sim (L : Mi) (N : Mt) : Prop where
  ex : ∃ k : Rat, k ≠ 0 ∧ Mt.sm k L.m = N
theorem Sim.det {L : Mi} {N : Mt} (s : Sim L N) (hn : Mt.det N ≠ 0) : Mt.det L.m ≠ 0 := by
  obtain ⟨k, hk, e⟩ := s.ex
  rw [← e, Mt.det_sm] at hn
  exact fun z => hn (by rw [z, Rat.mul_zero])
theorem Sim.act {p : Int} (h : PP p) {L : Mi} {N : Mt} (s : Sim L N) (hn : Mt.det N ≠ 0) : ac h L = act h.pi N := by
  have d := s.det hn
  obtain ⟨k, hk, e⟩ := s.ex
  funext x
  rw [← e, act_sm h.pi d hk]
theorem Sim.st {p : Int} (h : PP p) {L : Mi} {N : Mt} (s : Sim L N) (hn : Mt.det N ≠ 0) : Bm.st p L = strv p N := by
  have d := s.det hn
  obtain ⟨k, hk, e⟩ := s.ex
  rw [← e, strv_sm h d hk]
theorem mul_sz {n : Nat} {a k l : Int} (hk : k ≠ 0) (e : a = k * l) (s : sz n a) : sz n l := by
  refine sz_le s ?_
  rw [e, Int.natAbs_mul]
  exact Nat.le_mul_of_pos_left _ (by omega)
theorem back_sim {M L : Mi} {k : Int} (hk : k ≠ 0) (e1 : M.d = k * L.a) (e2 : -M.b = k * L.b) (e3 : -M.c = k * L.c) (e4 : M.a = k * L.d) : Sim L (Mt.adj M.m) := by
  refine ⟨(k : Rat), cast_ne hk, ?_⟩
  apply Mt.ext'
  · show (k : Rat) * L.a = M.d
    rw [e1, Rat.intCast_mul]
  · show (k : Rat) * L.b = -(M.b : Rat)
    rw [← Rat.intCast_neg, e2, Rat.intCast_mul]
  · show (k : Rat) * L.c = -(M.c : Rat)
    rw [← Rat.intCast_neg, e3, Rat.intCast_mul]
  · show (k : Rat) * L.d = M.a
    rw [e4, Rat.intCast_mul]
theorem back_len {M L : Mi} {k : Int} {n : Nat} (s : M.sz n) (hk : k ≠ 0) (e1 : M.d = k * L.a) (e2 : -M.b = k * L.b) (e3 : -M.c = k * L.c) (e4 : M.a = k * L.d) : L.sz n :=
  ⟨mul_sz hk e1 s.2.2.2, mul_sz hk e2 (sz_neg s.2.1), mul_sz hk e3 (sz_neg s.2.2.1), mul_sz hk e4 s.1⟩
theorem adj_ne {M : Mt} (h : Mt.det M ≠ 0) : Mt.det (Mt.adj M) ≠ 0 := by rwa [Mt.det_adj]
theorem comm_adj (M N : Mt) : Mt.det (comm (Mt.adj M) N) = Mt.det (comm M N) := by
  simp only [comm, Mt.det, Mt.sub, Mt.mul, Mt.adj]
  grind
theorem comm_sm (k : Rat) (M N : Mt) : Mt.det (comm (Mt.sm k M) N) = k * k * Mt.det (comm M N) := by
  simp only [comm, Mt.det, Mt.sub, Mt.mul, Mt.sm]
  grind
theorem comm_swap (M N : Mt) : Mt.det (comm N M) = Mt.det (comm M N) := by
  simp only [comm, Mt.det, Mt.sub, Mt.mul]
  grind
theorem btw_comm (M N : Mi) : (M.btw N).m = comm M.m N.m := by
  apply Mt.ext'
  · show ((M.b * N.c - N.b * M.c : Int) : Rat) = (M.a : Rat) * N.a + M.b * N.c - (N.a * M.a + N.b * M.c)
    rw [Rat.intCast_sub, Rat.intCast_mul, Rat.intCast_mul]
    grind
  · show ((M.a * N.b + M.b * N.d - N.a * M.b - N.b * M.d : Int) : Rat) = (M.a : Rat) * N.b + M.b * N.d - (N.a * M.b + N.b * M.d)
    simp only [Rat.intCast_sub, Rat.intCast_add, Rat.intCast_mul]
    grind
  · show ((M.c * N.a + M.d * N.c - N.c * M.a - N.d * M.c : Int) : Rat) = (M.c : Rat) * N.a + M.d * N.c - (N.c * M.a + N.d * M.c)
    simp only [Rat.intCast_sub, Rat.intCast_add, Rat.intCast_mul]
    grind
  · show ((M.c * N.b - N.c * M.b : Int) : Rat) = (M.c : Rat) * N.b + M.d * N.d - (N.c * M.b + N.d * M.d)
    simp only [Rat.intCast_sub, Rat.intCast_mul]
    grind
theorem btw_sz {M N : Mi} {n : Nat} (s : M.sz n) (t : N.sz n) : (M.btw N).sz (2 * n + 3) := by
  have m : ∀ {a b : Int}, sz n a → sz n b → sz (2 * n) (a * b) := fun x y => sz_mono (sz_mul x y) (by omega)
  refine ⟨sz_sub (m s.2.1 t.2.2.1) (m t.2.1 s.2.2.1) (by omega) (by omega), ?_, ?_, sz_sub (m s.2.2.1 t.2.1) (m t.2.2.1 s.2.1) (by omega) (by omega)⟩
  · exact sz_sub (sz_sub (sz_add (k := 2 * n + 1) (m s.1 t.2.1) (m s.2.1 t.2.2.2) (by omega) (by omega)) (m t.1 s.2.1) (k := 2 * n + 2) (by omega) (by omega)) (m t.2.1 s.2.2.2) (by omega) (by omega)
  · exact sz_sub (sz_sub (sz_add (k := 2 * n + 1) (m s.2.2.1 t.1) (m s.2.2.2 t.2.2.1) (by omega) (by omega)) (m t.2.2.1 s.1) (k := 2 * n + 2) (by omega) (by omega)) (m t.2.2.2 s.2.2.1) (by omega) (by omega)
section
variable {p : Int} (h : PP p)
theorem gate_rd {M : Mi} (ok : M.ok) (hs : 0 < st p M) {R : Int} {x : B p} (rd : Rd h R x) : Rd h (2 * R + 12001) (gateT (tr h) (ac h M) (st p M) x) := by
  have g := (gate_ax (isoM h ok.det) (hypM h ok.det hs) x).2
  have a := root_far h ok.len ok.det
  have b := (act_iso h.pi ok.det).iso (root h) x
  have b' : (tr h).d (ac h M (root h)) (ac h M x) = (tr h).d (root h) x := b
  have c1 := (tr h).tri x (root h) (ac h M x)
  have c2 := (tr h).tri (root h) (ac h M (root h)) (ac h M x)
  have c3 := (tr h).symm x (root h)
  have c4 := (tr h).tri (root h) x (gateT (tr h) (ac h M) (st p M) x)
  unfold Rd at *
  omega
/-- what two balls of both lines are off -/
theorem near_bd {M N : Mi} (om : M.ok) (on : N.ok) (sm : 0 < st p M) (sn : 0 < st p N) (hC : Mt.det (comm M.m N.m) ≠ 0) {x y : B p} (a1 : Ax (tr h) (ac h M) (st p M) x) (a2 : Ax (tr h) (ac h N) (st p N) x)
    (b1 : Ax (tr h) (ac h M) (st p M) y) (b2 : Ax (tr h) (ac h N) (st p N) y) : (tr h).d x y ≤ 96014 := by
  have n := shared_near h.pi om.det on.det sm sn hC a1 a2 b1 b2
  have v := det_vl h (btw_sz om.len on.len) (by rw [btw_comm]; exact hC)
  rw [btw_comm] at v
  have t1 := vl_intNonneg h.pi.toIsPr (M.a + M.d)
  have t2 := vl_intNonneg h.pi.toIsPr (N.a + N.d)
  rw [← tr_int] at t1 t2
  have n' : (tr h).d x y ≤ _ := n
  omega
end
section
variable {F : Fr} {K : PySem.W.Frag} {W : PyData → Prop}
theorem r_next_ball : Kp F K (t_next_ball K) 3 3 c_next_ball := fun ds W hl c => by
  obtain ⟨p, h, M, x, rfl, ok, hs, rd, ax, w⟩ := c
  unfold t_next_ball
  and_intros
  refine ⟨p, h, M, x, 1, rfl, ok, hs, rd, ax, by omega, ?_⟩
  and_intros
  exact w
theorem r_last_shared : Kp F K (t_last_shared K) 4 5 c_last_shared := fun ds W hl c => by
  obtain ⟨p, h, M, N, x, rfl, om, on, sm, sn, hC, rd, a1, a2, w⟩ := c
  have G := isoM h om.det
  have H := hypM h om.det sm
  unfold t_last_shared
  and_intros
  refine ⟨p, h, M, x, rfl, om, sm, rd.mono h (by decide), a1, ?_⟩
  and_intros
  have key : ∀ j, Ax (tr h) (ac h N) (st p N) (itn h M x j) → j ≤ 96014 ∧ Rd h 190000 (itn h M x j) := fun j aj => by
    have d := itn_d h om.det sm a1 j
    have n := near_bd h om on sm sn hC a1 a2 (itn_ax h om.det sm a1 j) aj
    exact ⟨by omega, (rd.far h (y := itn h M x j) (R' := 96014) (by omega)).mono h (by decide)⟩
  refine xs_while (m0 := 96014) (I := fun m S => ∃ j, m = 96014 - j ∧ Ax (tr h) (ac h N) (st p N) (itn h M x j) ∧ S = [some (.int p), some (dM M), some (dM N), some (dB (itn h M x j).1), some (dB (itn h M x (j + 1)).1)]) ⟨0, rfl, a2, rfl⟩ ?_
  rintro m S ⟨j, rfl, aj, rfl⟩
  obtain ⟨jb, rj⟩ := key j aj
  have rn : Rd h 190001 (itn h M x (j + 1)) := by
    have d := nxt_ax G H (itn_ax h om.det sm a1 j)
    exact rj.far h (y := itn h M x (j + 1)) (R' := 1) (Int.le_of_eq d.2.1)
  and_intros
  refine ⟨p, h, N, itn h M x (j + 1), rfl, on, sn, rn.mono h (by decide), fun b hb => ?_⟩
  and_intros
  refine iteB (fun q => ?_) (fun q => ?_)
  · have an := hb.mp q
    obtain ⟨jn, rn'⟩ := key (j + 1) an
    and_intros
    refine ⟨p, h, M, itn h M x (j + 1), rfl, om, sm, rn'.mono h (by decide), itn_ax h om.det sm a1 _, ?_⟩
    exact ⟨96014 - (j + 1), by omega, j + 1, rfl, an, rfl⟩
  · and_intros
    obtain ⟨pos, _, C⟩ := coord' G H a1
    refine w _ ⟨itn_ax h om.det sm a1 j, aj, (C.fwd G H a1 (itn_ax h om.det sm a1 j)).mpr ?_, fun z => ?_⟩ rj
    · rw [itn_pos h om.det sm a1 C j]
      omega
    · have := hb.mpr z
      rw [q] at this
      cases this
theorem eqB {p : Int} {x y : B p} : PyData.eqv (dB x.1) (dB y.1) = true ↔ x = y :=
  (eqv_iff rfl rfl).trans ⟨fun e => Subtype.ext (dB_inj e), fun e => by rw [e]⟩
theorem r_way_at : Kp F K (t_way_at K) 4 4 c_way_at := fun ds W hl c => by
  obtain ⟨p, h, M, N, x, rfl, om, on, sm, sn, rd, a1, a2, w⟩ := c
  unfold t_way_at
  refine xs_ret (ev_if (et_T (ev_eqD ?_)))
  and_intros
  refine ⟨p, h, M, x, rfl, om, sm, rd, a1, ?_⟩
  and_intros
  refine ⟨p, h, N, x, rfl, on, sn, rd, a2, ?_⟩
  refine ⟨rfl, rfl, _, rfl, ?_⟩
  refine iteB (fun q => ?_) (fun q => ?_)
  · and_intros
    exact w 1 (.inl ⟨rfl, eqB.mp q⟩)
  · and_intros
    refine w (-1) (.inr ⟨rfl, fun e => ?_⟩)
    rw [eqB.mpr e] at q
    cases q
theorem ev_first {S : SS} {p : Int} (h : PP p) (hf : ∀ H, DD K H (.ref (He.ga K "FIRST_BALL")) (.tuple [.int 0, .tuple [.int 0, .int 1]])) (w : W (dB (root h).1)) : EV F K (tC (.ref (He.ga K "FIRST_BALL"))) S W := by
  rw [root_eq] at w
  exact ev_glob (fun H => hf _) w
theorem r_lines (hf : ∀ H, DD K H (.ref (He.ga K "FIRST_BALL")) (.tuple [.int 0, .tuple [.int 0, .int 1]])) : Kp F K (t_lines K) 3 9 c_lines := fun ds W hl c => by
  obtain ⟨p, h, M, N, rfl, two, w⟩ := c
  obtain ⟨om, on, sm, sn, hC⟩ := two
  have GM := isoM h om.det
  have HM := hypM h om.det sm
  have GN := isoM h on.det
  have HN := hypM h on.det sn
  unfold t_lines
  refine xs_seq (xs_drop ?_)
  and_intros
  refine ⟨p, M, N, h, rfl, om, on, sm, sn, ?_⟩
  and_intros
  refine ⟨M, N, rfl, om.len.mono (by decide), on.len.mono (by decide), ?_⟩
  have bs := btw_sz om.len on.len
  have bd : Mt.det (M.btw N).m ≠ 0 := by rw [btw_comm]; exact hC
  refine xs_seq (xs_if (et_T (ev_eqD ?_)))
  and_intros
  refine iteB (fun q => ?_) (fun _ => ?_)
  · refine absurd ?_ bd
    have e := (eqv_iff rfl rfl).mp q
    injection e with e
    simp at e
    rw [det_int, e.1, e.2.1, Int.zero_mul, Int.zero_mul]
    rfl
  refine xs_next ?_
  refine xs_seq (xs_if (et_T (ev_eqI ?_)))
  and_intros
  refine ⟨cm_of bs.1 bs.2.2.2 (by decide), ?_⟩
  and_intros
  refine ⟨cm_of bs.2.1 bs.2.2.1 (by decide), ?_⟩
  and_intros
  refine iteD (fun q => ?_) (fun _ => ?_)
  · refine absurd ?_ bd
    rw [det_int, q, Int.sub_self]
    rfl
  refine xs_next ?_
  and_intros
  refine ev_first h hf ?_
  have rr : Rd h 0 (root h) := Int.le_of_eq ((tr h).self _)
  have r1 := gate_rd h om sm rr
  have a1 := (gate_ax GM HM (root h)).1
  and_intros
  refine ⟨p, h, M, root h, rfl, om, sm, rr.mono h (by decide), ?_⟩
  generalize gateT (tr h) (ac h M) (st p M) (root h) = x1 at *
  have r2 := gate_rd h on sn r1
  have a2 := (gate_ax GN HN x1).1
  and_intros
  refine ⟨p, h, N, x1, rfl, on, sn, r1.mono h (by decide), ?_⟩
  have r3 := gate_rd h om sm r2
  have ap := fun ne => apart_of GM HM GN HN a1 ne
  have sh := fun e => shared_of GM HM GN HN (x := x1) e
  generalize gateT (tr h) (ac h N) (st p N) x1 = x2 at *
  and_intros
  refine ⟨p, h, M, x2, rfl, om, sm, r2.mono h (by decide), ?_⟩
  generalize gateT (tr h) (ac h M) (st p M) x2 = x3 at *
  refine xs_seq (xs_if (et_T (ev_neD ?_)))
  and_intros
  refine iteB (fun q => ?_) (fun q => ?_)
  · have ne : x3 ≠ x2 := fun e => by
      rw [eqB.mpr e] at q
      cases q
    and_intros
    refine ⟨p, h, x3, x2, rfl, (r3.mono h (R' := 400000) (by decide)).nr h, (r2.mono h (R' := 400000) (by decide)).nr h, ?_⟩
    and_intros
    exact w _ (.ap (ap ne) (r3.mono h (by decide)) (r2.mono h (by decide)))
  · have e : x3 = x2 := eqB.mp (by
      cases z : PyData.eqv (dB x3.1) (dB x2.1) with
      | true => rfl
      | false => rw [z] at q; cases q)
    subst e
    obtain ⟨b1, b2⟩ := sh rfl
    refine xs_next ?_
    and_intros
    refine ⟨M, rfl, om.det, fun L k hk e1 e2 e3 e4 => ?_⟩
    have sL := back_sim hk e1 e2 e3 e4
    have ad := adj_ne om.det
    have aL := sL.act h ad
    have tL : st p L = st p M := by rw [sL.st h ad, strv_adj]
    have dL := sL.det ad
    have oL : L.ok := ⟨dL, back_len om.len hk e1 e2 e3 e4⟩
    have cL : Mt.det (comm L.m N.m) ≠ 0 := by
      obtain ⟨j, hj, ej⟩ := sL.ex
      intro z
      have := comm_sm j L.m N.m
      rw [ej, comm_adj, z, Rat.mul_zero] at this
      exact hC this
    and_intros
    refine ⟨p, h, L, N, x3, rfl, oL, on, by rw [tL]; exact sm, sn, cL, r2.mono h (by decide), ?_, b2, fun Fi lF rF => ?_⟩
    · rw [aL, tL]
      exact (Ax.inv GM).mpr b1
    rw [aL, tL] at lF
    and_intros
    refine ⟨p, h, M, N, x3, rfl, om, on, sm, sn, hC, r2.mono h (by decide), b1, b2, fun La lL rL => ?_⟩
    have al := along_of GM HM GN HN b1 b2 lF lL
    and_intros
    refine ev_eqD ?_
    and_intros
    have fin : ∀ wy : Int, WyM h N Fi La wy → W (dAl h Fi La wy) := fun wy wi => w _ (.al al wi rF rL)
    refine iteB (fun q => ?_) (fun q => ?_)
    · and_intros
      refine ⟨p, h, Fi, La, rfl, (rF.mono h (R' := 400000) (by decide)).nr h, (rL.mono h (R' := 400000) (by decide)).nr h, ?_⟩
      and_intros
      exact fin 0 (.inl ⟨eqB.mp q, rfl⟩)
    · have ne : Fi ≠ La := fun e => by
        rw [eqB.mpr e] at q
        cases q
      have wo := way_of GM HM GN HN al ne
      and_intros
      refine ⟨p, h, M, N, Fi, rfl, om, on, sm, sn, rF.mono h (by decide), al.gF, al.hF, fun wy hw => ?_⟩
      and_intros
      refine ⟨p, h, Fi, La, rfl, (rF.mono h (R' := 400000) (by decide)).nr h, (rL.mono h (R' := 400000) (by decide)).nr h, ?_⟩
      and_intros
      refine fin wy ?_
      rcases hw with ⟨rfl, e⟩ | ⟨rfl, e⟩
      · exact wo.1 e
      · exact wo.2 e
end
end Bm
-- BmR8
set_option maxRecDepth 100000
set_option maxHeartbeats 2000000
/-! BmR8: what the defs compute: sides. -/
namespace Bm
open PySem PySem.Spec PyProof.Rows L2 Bt
local macro_rules | `(tactic| and_intros) => `(tactic| repeat (with_reducible first
  | refine xs_seq ?_ | refine xs_ret ?_ | refine xs_asg ?_ | refine xs_par ?_ | refine xs_par3 ?_ | refine xs_if ?_ | refine xs_asgT rfl ?_
  | (refine ev_var (d := ?_) ?_ ?_; rotate_left; (with_unfolding_all exact rfl))
  | refine ev_int ?_ | refine ev_bl ?_ | refine ev_str ?_ | refine ev_non ?_
  | refine ev_ixT ?_ | refine ev_ixL ?_ | refine ea_nil ?_ | refine ea_cons ?_ | refine s_tup ?_ | refine s_dis ?_ | refine ev_call ?_
  | refine ⟨_, _, _, rfl, rfl, (by with_unfolding_all exact rfl), ?_⟩
  | refine s_add ?_ | refine s_sub ?_ | refine s_mul ?_ | refine s_fdv ?_ | refine s_mod ?_ | refine s_lt ?_ | refine s_le ?_ | refine s_gt ?_ | refine s_ge ?_ | refine s_neg ?_
  | refine ⟨_, _, rfl, rfl, ?_⟩ | refine ⟨_, _, rfl, ?_⟩ | refine ⟨_, rfl, ?_⟩
  | refine ev_if ?_ | refine et_T ?_ | refine et_B ?_ | refine et_not ?_ | refine et_and ?_ | refine et_or ?_
  | refine ev_gcd2 ?_ | refine ev_eqI ?_ | refine ev_neI ?_
  | refine ⟨(by with_unfolding_all exact rfl), ?_⟩ | refine ⟨Nat.le_of_ble_eq_true (by with_unfolding_all exact rfl), ?_⟩
  | refine ⟨_, rfl, (by with_unfolding_all exact rfl), ?_⟩))
theorem atI_back {xs : List PyData} {v : PyData} {n : Nat} (hl : xs.length = n + 2) (h : xs[n]? = some v) : L2.atI xs (-2) = some v := by
  unfold L2.atI L2.ixN
  rw [if_neg (by decide), if_pos (by omega)]
  show xs[((-2 : Int) + (xs.length : Int)).toNat]? = some v
  rw [show ((-2 : Int) + (xs.length : Int)).toNat = n by omega]
  exact h
theorem atI_end {xs : List PyData} {v : PyData} {n : Nat} (hl : xs.length = n + 1) (h : xs[n]? = some v) : L2.atI xs (-1) = some v := by
  unfold L2.atI L2.ixN
  rw [if_neg (by decide), if_pos (by omega)]
  show xs[((-1 : Int) + (xs.length : Int)).toNat]? = some v
  rw [show ((-1 : Int) + (xs.length : Int)).toNat = n by omega]
  exact h
theorem itn_st {p : Int} (h : PP p) {M : Mi} (hd : Mt.det M.m ≠ 0) (hs : 0 < st p M) {x : B p} (hx : Ax (tr h) (ac h M) (st p M) x) : itn h M x (st p M).toNat = ac h M x := by
  have G := isoM h hd
  have H := hypM h hd hs
  obtain ⟨pos, _, C⟩ := coord' G H hx
  refine C.eq (itn_ax h hd hs hx _) (Ax.fwd G hx) ?_
  rw [itn_pos h hd hs hx C, C.fw x hx]
  omega
theorem apart_ne : decide (("along" : Str) = "apart") = false := by decide +kernel
theorem decide_self {α : Type} [DecidableEq α] (a : α) : decide (a = a) = true := decide_eq_true rfl
section
variable {F : Fr} {K : PySem.W.Frag} {W : PyData → Prop}
theorem r_two_sides : Kp F K (t_two_sides K) 3 4 c_two_sides := fun ds W hl c => by
  obtain ⟨p, h, M, x, rfl, ok, hs, rd, ax, w⟩ := c
  have G := isoM h ok.det
  have H := hypM h ok.det hs
  have sl := st_le h ok.len ok.det
  obtain ⟨n, hn⟩ : ∃ n : Nat, st p M = (n : Int) + 1 := ⟨(st p M - 1).toNat, by omega⟩
  unfold t_two_sides
  and_intros
  refine ⟨p, M, h, rfl, ok.det, ok.len.mono (by decide), ?_⟩
  and_intros
  refine ⟨p, h, M, x, n + 1, by rw [hn]; rfl, ok, hs, rd.mono h (by decide), ax, by omega, ?_⟩
  have er : ((List.range (n + 1 + 1)).map fun i => dB (itn h M x i).1) = row h M x (n + 2) := rfl
  rw [er]
  have ad := adj_ne ok.det
  have g1 : L2.atI (row h M x (n + 2)) (-2) = some (dB (itn h M x n).1) := atI_back (row_len ..) (row_get h M x (by omega))
  have g2 : L2.atI (row h M x (n + 2)) (-1) = some (dB (itn h M x (n + 1)).1) := atI_end (row_len ..) (row_get h M x (by omega))
  and_intros
  refine ⟨M, rfl, ok.det, fun L k hk e1 e2 e3 e4 => ?_⟩
  have sL := back_sim hk e1 e2 e3 e4
  have aL := sL.act h ad
  have tL : st p L = st p M := by rw [sL.st h ad, strv_adj]
  have oL : L.ok := ⟨sL.det ad, back_len ok.len hk e1 e2 e3 e4⟩
  and_intros
  refine ⟨p, h, L, x, rfl, oL, by rw [tL]; exact hs, rd.mono h (by decide), by rw [aL, tL]; exact (Ax.inv G).mpr ax, ?_⟩
  rw [aL]
  and_intros
  refine ⟨_, _, _, rfl, rfl, g1, ?_⟩
  and_intros
  refine ⟨_, _, _, rfl, rfl, g2, ?_⟩
  and_intros
  have du := itn_d h ok.det hs ax n
  have dv := itn_d h ok.det hs ax (n + 1)
  have au := itn_ax h ok.det hs ax n
  obtain ⟨pos, _, C⟩ := coord' G H ax
  have fu := (C.fwd G H ax au).mpr (by rw [itn_pos h ok.det hs ax C n]; omega)
  have nv := nxt_ax G.back (Hyp.inv G H) ((Ax.inv G).mpr ax)
  have ev : itn h M x (n + 1) = ac h M x := by
    have := itn_st h ok.det hs ax
    rwa [show (st p M).toNat = n + 1 by omega] at this
  have S := sds_of G H ax au (by omega) fu
  rw [ev] at dv ⊢
  exact w _ _ _ S ((rd.far h (R' := 1) (Int.le_of_eq nv.2.1)).mono h (by decide)) ((rd.far h (R' := 24001) (by omega)).mono h (by decide)) ((rd.far h (R' := 24001) (by omega)).mono h (by decide))
theorem r_four_sides : Kp F K (t_four_sides K) 3 4 c_four_sides := fun ds W hl c => by
  obtain ⟨p, h, M, N, rfl, two, w⟩ := c
  obtain ⟨om, on, sm, sn, hC⟩ := two
  unfold t_four_sides
  and_intros
  refine ⟨p, h, M, N, rfl, ⟨om, on, sm, sn, hC⟩, fun d td => ?_⟩
  cases td with
  | @ap b o A rb ro =>
    unfold dAp
    refine xs_seq (xs_if (et_T (ev_eqS ?_)))
    and_intros
    rw [decide_self, if_pos rfl]
    refine xs_ret (s_tpl (ea_cons (ev_cat ?_)))
    and_intros
    refine ⟨p, h, M, b, rfl, om, sm, rb, A.hb, fun v0 u1 v1 S r1 r2 r3 => ?_⟩
    and_intros
    refine ⟨p, h, N, o, rfl, on, sn, ro, A.ho, fun v0' u1' v1' S' r1' r2' r3' => ?_⟩
    refine ⟨_, _, rfl, rfl, (by show 4 ≤ _; decide), ?_⟩
    and_intros
    exact w _ (.ap (s := ⟨b, v0, u1, v1, o, v0', u1', v1'⟩) A S S' ⟨⟨rb.mono h (by decide), r1⟩, ⟨r2, r3⟩, ⟨ro.mono h (by decide), r1'⟩, ⟨r2', r3'⟩⟩)
  | @al Fi La wy A wi rF rL =>
    unfold dAl
    refine xs_seq (xs_if (et_T (ev_eqS ?_)))
    and_intros
    rw [apart_ne, if_neg (by decide)]
    refine xs_next (xs_seq (xs_if (et_or (et_T (ev_neS ?_)))))
    and_intros
    rw [decide_self]
    rw [if_neg (by decide)]
    refine et_T (s_ge ?_)
    and_intros
    refine s_min ?_
    and_intros
    refine ⟨p, M, h, rfl, om.det, om.len.mono (by decide), ?_⟩
    and_intros
    refine ⟨p, N, h, rfl, on.det, on.len.mono (by decide), ?_⟩
    and_intros
    have em : (if st p N < st p M then st p N else st p M) = min (st p M) (st p N) := by split <;> omega
    rw [em]
    refine iteD (fun q => ?_) (fun q => ?_)
    · and_intros
      exact w _ (.no A wi q)
    · refine xs_next (xs_ret (s_tpl (ea_cons (ev_cat ?_))))
      and_intros
      refine ⟨p, h, M, Fi, rfl, om, sm, rF, A.gF, fun v0 u1 v1 S r1 r2 r3 => ?_⟩
      have fin : ∀ y : B p, y = (if wy = -1 then La else Fi) → Rd h 190000 y → Ax (tr h) (ac h N) (st p N) y → c_two_sides [.int p, dM N, dB y.1] fun e => ∃ xs ys, PyData.list [dS Fi v0, dS u1 v1] = .list xs ∧ e = .list ys ∧ xs.length + ys.length ≤ sizeLine ∧
          EA F K tNil [some (.int p), some (dM M), some (dM N), some (dAl h Fi La wy)] fun ds => ∃ zs, PyData.list (xs ++ ys) :: ds = [.list zs] ∧ W (.tuple zs) := fun y hy ry ay => by
        refine ⟨p, h, N, y, rfl, on, sn, ry, ay, fun v0' u1' v1' S' r1' r2' r3' => ?_⟩
        refine ⟨_, _, rfl, rfl, (by show 4 ≤ _; decide), ?_⟩
        and_intros
        exact w _ (.al (s := ⟨Fi, v0, u1, v1, y, v0', u1', v1'⟩) A wi (by omega) rfl hy S S' ⟨⟨rF.mono h (by decide), r1⟩, ⟨r2, r3⟩, ⟨ry.mono h (by decide), r1'⟩, ⟨r2', r3'⟩⟩)
      and_intros
      refine iteD (fun q => ?_) (fun q => ?_)
      · and_intros
        exact fin La (by rw [if_pos q]) rL A.hL
      · and_intros
        exact fin Fi (by rw [if_neg q]) rF A.hF
theorem r_are_four_sides : Kp F K (t_are_four_sides K) 2 3 c_are_four_sides := fun ds W hl c => by
  obtain ⟨p, h, s, rfl, nr, ad, w⟩ := c
  unfold t_are_four_sides
  refine xs_ret (ev_and (ev_isi (ev_var rfl ⟨rfl, _, rfl, true, rfl, ?_⟩)))
  rw [if_pos rfl]
  refine ev_and (ev_eqI (s_len ?_))
  and_intros
  refine ⟨_, .inr rfl, ?_⟩
  and_intros
  refine iteD (fun _ => ?_) (fun z => absurd rfl z)
  refine ev_all (ea_cons (ev_lcT (ev_var rfl ⟨_, fun k ds => ds = (List.replicate k true).map PyData.bool, rfl, Nat.le_of_ble_eq_true rfl, rfl, ?_, ?_⟩)))
  · intro k x hx G hG ds hds
    refine et_yes ?_
    rw [if_pos rfl]
    have : ∃ u v : B p, x = dS u v ∧ Nr u.1 ∧ Nr v.1 ∧ (tr h).d u v = 1 := by
      match k, hx with
      | 0, hx => exact ⟨_, _, (Option.some.inj hx).symm, nr.a.1, nr.a.2, ad.a⟩
      | 1, hx => exact ⟨_, _, (Option.some.inj hx).symm, nr.b.1, nr.b.2, ad.b⟩
      | 2, hx => exact ⟨_, _, (Option.some.inj hx).symm, nr.c.1, nr.c.2, ad.c⟩
      | 3, hx => exact ⟨_, _, (Option.some.inj hx).symm, nr.d.1, nr.d.2, ad.d⟩
    obtain ⟨u, v, rfl, nu, nv, e⟩ := this
    and_intros
    refine ⟨p, h, u, v, rfl, nu, nv, e, ?_⟩
    show ds ++ [PyData.bool true] = List.map PyData.bool (List.replicate (k + 1) true)
    rw [hds, List.replicate_succ', List.map_append]
    rfl
  · intro ds hds
    subst hds
    exact ea_nil ⟨[true, true, true, true], rfl, w⟩
theorem r_leads_beyond : Kp F K (t_leads_beyond K) 4 6 c_leads_beyond := fun ds W hl c => by
  obtain ⟨p, h, M, u, v, x, y, rfl, ok, ru, rv, rx, ry, w⟩ := c
  unfold t_leads_beyond
  and_intros
  refine ⟨p, h, M, v, rfl, ok, rv.mono h (by decide), ?_⟩
  and_intros
  refine ⟨p, h, M, u, rfl, ok, ru.mono h (by decide), ?_⟩
  and_intros
  have lu := ((ru.led h ok.len ok.det).mono h (R' := 400000) (by decide)).nr h
  have lv := ((rv.led h ok.len ok.det).mono h (R' := 400000) (by decide)).nr h
  exact ⟨p, h, _, _, x, y, rfl, lv, lu, (rx.mono h (R' := 400000) (by decide)).nr h, (ry.mono h (R' := 400000) (by decide)).nr h, w⟩
theorem F4.rd.nr' {p : Int} (h : PP p) {s : F4 p} (r : s.rd h 300000) : s.nr := by
  have m : ∀ {x : B p}, Rd h 300000 x → Nr x.1 := fun q => (q.mono h (R' := 400000) (by decide)).nr h
  exact ⟨⟨m r.a.1, m r.a.2⟩, ⟨m r.b.1, m r.b.2⟩, ⟨m r.c.1, m r.c.2⟩, ⟨m r.d.1, m r.d.2⟩⟩
theorem r_judge_sides : Kp F K (t_judge_sides K) 4 8 c_judge_sides := fun ds W hl c => by
  obtain ⟨p, h, M, N, s, rfl, om, on, rd, ad, gd, w⟩ := c
  have nr := F4.rd.nr' h rd
  unfold t_judge_sides
  refine xs_seq (xs_if (et_not (et_B ?_)))
  and_intros
  refine ⟨p, h, s, rfl, nr, ad, ?_⟩
  and_intros
  rw [if_neg (by decide)]
  refine xs_next (xs_seq (xs_forR1 (P := fun i S => ∃ a b, S = [some (.int p), some (dM M), some (dM N), some s.D, a, b, none, none]) ?_))
  and_intros
  refine ⟨by decide, by decide, ⟨none, none, rfl⟩, ?_, ?_⟩
  · rintro i S hi ⟨a, b, rfl⟩
    refine xs_forR2 (P := fun j S => ∃ b, S = [some (.int p), some (dM M), some (dM N), some s.D, some (.int (i : Int)), b, none, none]) ?_
    and_intros
    refine ⟨⟨by omega, by have : i < 4 := hi; omega, by decide, by decide⟩, ⟨b, rfl⟩, ?_, fun S ⟨b, hS⟩ => ⟨_, b, hS⟩⟩
    rintro j S hj ⟨b, rfl⟩
    have hi' : i < 4 := hi
    have hj' : j < (4 - ((i : Int) + 1)).toNat := hj
    have : ∃ u v x y : B p, L2.atI [dS s.u0 s.v0, dS s.u1 s.v1, dS s.u2 s.v2, dS s.u3 s.v3] (i : Int) = some (dS u v) ∧ L2.atI [dS s.u0 s.v0, dS s.u1 s.v1, dS s.u2 s.v2, dS s.u3 s.v3] ((i : Int) + 1 + (j : Int)) = some (dS x y) ∧
        Nr u.1 ∧ Nr v.1 ∧ Nr x.1 ∧ Nr y.1 ∧ apS (tr h) (u, v) (x, y) := by
      obtain ⟨q1, q2⟩ : i < 4 ∧ j + i + 1 < 4 := ⟨hi', by omega⟩
      have cs : (i = 0 ∧ j = 0) ∨ (i = 0 ∧ j = 1) ∨ (i = 0 ∧ j = 2) ∨ (i = 1 ∧ j = 0) ∨ (i = 1 ∧ j = 1) ∨ (i = 2 ∧ j = 0) := by omega
      rcases cs with ⟨rfl, rfl⟩ | ⟨rfl, rfl⟩ | ⟨rfl, rfl⟩ | ⟨rfl, rfl⟩ | ⟨rfl, rfl⟩ | ⟨rfl, rfl⟩
      · exact ⟨_, _, _, _, rfl, rfl, nr.a.1, nr.a.2, nr.b.1, nr.b.2, gd.a01⟩
      · exact ⟨_, _, _, _, rfl, rfl, nr.a.1, nr.a.2, nr.c.1, nr.c.2, gd.a02⟩
      · exact ⟨_, _, _, _, rfl, rfl, nr.a.1, nr.a.2, nr.d.1, nr.d.2, gd.a03⟩
      · exact ⟨_, _, _, _, rfl, rfl, nr.b.1, nr.b.2, nr.c.1, nr.c.2, gd.a12⟩
      · exact ⟨_, _, _, _, rfl, rfl, nr.b.1, nr.b.2, nr.d.1, nr.d.2, gd.a13⟩
      · exact ⟨_, _, _, _, rfl, rfl, nr.c.1, nr.c.2, nr.d.1, nr.d.2, gd.a23⟩
    obtain ⟨u, v, x, y, g1, g2, nu, nv, nx, ny, ap⟩ := this
    refine xs_if (et_not (et_B (ev_call (ea_cons (ev_var rfl (ea_cons (ev_ixT (ev_var rfl (ev_var rfl ⟨_, _, _, rfl, rfl, g1, ea_cons (ev_ixT (ev_var rfl (ev_var rfl ⟨_, _, _, rfl, rfl, g2, ea_nil ?_⟩)))⟩)))))))))
    refine ⟨rfl, p, h, u, v, x, y, rfl, nu, nv, nx, ny, fun b hb => ?_⟩
    have bt := hb.mpr ap
    subst bt
    refine ⟨true, rfl, ?_⟩
    rw [if_neg (by decide)]
    exact xs_next ⟨_, rfl⟩
  · rintro S ⟨a, b, rfl⟩
    refine xs_seq (xs_forE (P := fun i S => ∃ c d, S = [some (.int p), some (dM M), some (dM N), some s.D, a, b, c, d]) ?_)
    and_intros
    refine ⟨⟨none, none, rfl⟩, ?_, ?_⟩
    · rintro k z S hz ⟨c, d, rfl⟩
      have : ∃ (L : Mi) (u v x y : B p), z = dM L ∧ L.ok ∧ L2.atI [dS s.u0 s.v0, dS s.u1 s.v1, dS s.u2 s.v2, dS s.u3 s.v3] (2 * (k : Int)) = some (dS u v) ∧ L2.atI [dS s.u0 s.v0, dS s.u1 s.v1, dS s.u2 s.v2, dS s.u3 s.v3] (2 * (k : Int) + 1) = some (dS x y) ∧
          Rd h 300000 u ∧ Rd h 300000 v ∧ Rd h 300000 x ∧ Rd h 300000 y ∧ apS (tr h) (ac h L v, ac h L u) (y, x) := by
        match k, hz with
        | 0, hz => exact ⟨M, _, _, _, _, (Option.some.inj hz).symm, om, rfl, rfl, rd.a.1, rd.a.2, rd.b.1, rd.b.2, gd.l0⟩
        | 1, hz => exact ⟨N, _, _, _, _, (Option.some.inj hz).symm, on, rfl, rfl, rd.c.1, rd.c.2, rd.d.1, rd.d.2, gd.l1⟩
      obtain ⟨L, u, v, x, y, rfl, oL, g1, g2, ru, rv, rx, ry, ap⟩ := this
      refine xs_if (et_not (et_B (ev_call (ea_cons (ev_var rfl (ea_cons (ev_var rfl (ea_cons (ev_ixT ?_)))))))))
      and_intros
      refine ⟨cm_small (by decide), ?_⟩
      refine ⟨_, _, _, rfl, rfl, g1, ea_cons (ev_ixT ?_)⟩
      and_intros
      refine ⟨cm_small (by decide), ?_⟩
      and_intros
      refine ⟨_, _, _, rfl, rfl, g2, ea_nil ?_⟩
      refine ⟨rfl, p, h, L, u, v, x, y, rfl, oL, ru, rv, rx, ry, fun b hb => ?_⟩
      have bt := hb.mpr ap
      subst bt
      refine ⟨true, rfl, ?_⟩
      rw [if_neg (by decide)]
      exact xs_next ⟨_, _, rfl⟩
    · rintro S ⟨c, d, rfl⟩
      and_intros
      exact w
theorem r_next_change : Kp F K (t_next_change K) 2 3 c_next_change := fun ds W hl c => by
  obtain ⟨p, h, M, N, rfl, two, ⟨F0, L0, al0⟩, w⟩ := c
  unfold t_next_change
  and_intros
  refine ⟨p, N, h, rfl, two.on.det, two.on.len.mono (by decide), ?_⟩
  and_intros
  refine ⟨p, M, h, rfl, two.om.det, two.om.len.mono (by decide), ?_⟩
  and_intros
  have fin : ∀ k : Int, (k = 0 ∧ st p N < st p M ∨ k = 1 ∧ ¬ st p N < st p M) → XS F K (tRet (tTup (tCons (tVar 2) (tCons (tUn rNeg (tOp (rIxT K) (tCall (Pur K 3 c_lines) [] E0 (tCons (tVar 0) (tCons (tOp (rIxL K) (tVar 1) (tC (.int 0))) (tCons (tOp (rIxL K) (tVar 1) (tC (.int 1))) (tNil))))) (tC (.int 2)))) (tNil)))))
      [some (.int p), some (.list [dM M, dM N]), some (.int k)] (fun _ => W .none) W := fun k hk => by
    and_intros
    refine ⟨p, h, M, N, rfl, two, fun d td => ?_⟩
    cases td with
    | @ap b o A rb ro => exact (A.none al0.gF al0.hF).elim
    | @al Fi La wy A wi rF rL =>
      unfold dAl
      and_intros
      exact w Fi La wy k A wi hk
  refine iteD (fun q => ?_) (fun q => ?_)
  · exact ev_int (fin 0 (.inl ⟨rfl, q⟩))
  · exact ev_int (fin 1 (.inr ⟨rfl, q⟩))
end
end Bm
-- BmR9
set_option maxRecDepth 100000
set_option maxHeartbeats 2000000
/-! BmR9: what the law's own defs compute. -/
namespace Bm
open PySem PySem.Spec PyProof.Rows L2 Bt
local macro_rules | `(tactic| and_intros) => `(tactic| repeat (with_reducible first
  | refine xs_seq ?_ | refine xs_ret ?_ | refine xs_asg ?_ | refine xs_par ?_ | refine xs_par3 ?_ | refine xs_if ?_ | refine xs_asgT rfl ?_
  | (refine ev_var (d := ?_) ?_ ?_; rotate_left; (with_unfolding_all exact rfl))
  | refine ev_int ?_ | refine ev_bl ?_ | refine ev_str ?_ | refine ev_non ?_
  | refine ev_ixT ?_ | refine ev_ixL ?_ | refine ea_nil ?_ | refine ea_cons ?_ | refine s_tup ?_ | refine s_dis ?_ | refine ev_call ?_
  | refine ⟨_, _, _, rfl, rfl, (by with_unfolding_all exact rfl), ?_⟩
  | refine s_add ?_ | refine s_sub ?_ | refine s_mul ?_ | refine s_fdv ?_ | refine s_mod ?_ | refine s_lt ?_ | refine s_le ?_ | refine s_gt ?_ | refine s_ge ?_ | refine s_neg ?_
  | refine ⟨_, _, rfl, rfl, ?_⟩ | refine ⟨_, _, rfl, ?_⟩ | refine ⟨_, rfl, ?_⟩
  | refine ev_if ?_ | refine et_T ?_ | refine et_B ?_ | refine et_not ?_ | refine et_and ?_ | refine et_or ?_
  | refine ev_gcd2 ?_ | refine ev_eqI ?_ | refine ev_neI ?_
  | refine ⟨(by with_unfolding_all exact rfl), ?_⟩ | refine ⟨Nat.le_of_ble_eq_true (by with_unfolding_all exact rfl), ?_⟩
  | refine ⟨_, rfl, (by with_unfolding_all exact rfl), ?_⟩))
theorem after_sim {M N L : Mi} {k : Int} (hk : k ≠ 0) (e1 : M.a * N.a + M.b * N.c = k * L.a) (e2 : M.a * N.b + M.b * N.d = k * L.b) (e3 : M.c * N.a + M.d * N.c = k * L.c) (e4 : M.c * N.b + M.d * N.d = k * L.d) : Sim L (Mt.mul M.m N.m) := by
  refine ⟨(k : Rat), cast_ne hk, ?_⟩
  have c : ∀ {a b c d l : Int}, a * b + c * d = k * l → (k : Rat) * l = (a : Rat) * b + c * d := fun {a b c d l} e => by
    rw [← Rat.intCast_mul, ← e, Rat.intCast_add, Rat.intCast_mul, Rat.intCast_mul]
  exact Mt.ext' (c e1) (c e2) (c e3) (c e4)
theorem after_len {M N L : Mi} {k : Int} {m n : Nat} (s : M.sz m) (z : N.sz n) (hk : k ≠ 0) (e1 : M.a * N.a + M.b * N.c = k * L.a) (e2 : M.a * N.b + M.b * N.d = k * L.b) (e3 : M.c * N.a + M.d * N.c = k * L.c) (e4 : M.c * N.b + M.d * N.d = k * L.d) : L.sz (m + n + 1) := by
  have c : ∀ {a b c d : Int}, sz m a → sz n b → sz m c → sz n d → sz (m + n + 1) (a * b + c * d) := fun h1 h2 h3 h4 => sz_add (sz_mul h1 h2) (sz_mul h3 h4) (by omega) (by omega)
  exact ⟨mul_sz hk e1 (c s.1 z.1 s.2.1 z.2.2.1), mul_sz hk e2 (c s.1 z.2.1 s.2.1 z.2.2.2), mul_sz hk e3 (c s.2.2.1 z.1 s.2.2.2 z.2.2.1), mul_sz hk e4 (c s.2.2.1 z.2.1 s.2.2.2 z.2.2.2)⟩
theorem mul_det {M N : Mt} (h1 : Mt.det M ≠ 0) (h2 : Mt.det N ≠ 0) : Mt.det (Mt.mul M N) ≠ 0 := by
  rw [Mt.det_mul]
  exact fun e => (Rat.mul_eq_zero.mp e).elim h1 h2
theorem one_sim {M L : Mi} {k : Int} (hk : k ≠ 0) (e1 : M.a = k * L.a) (e2 : M.b = k * L.b) (e3 : M.c = k * L.c) (e4 : M.d = k * L.d) : Sim L M.m := by
  refine ⟨(k : Rat), cast_ne hk, ?_⟩
  have c : ∀ {a l : Int}, a = k * l → (k : Rat) * l = (a : Rat) := fun {a l} e => by rw [e, Rat.intCast_mul]
  exact Mt.ext' (c e1) (c e2) (c e3) (c e4)
theorem one_len {M L : Mi} {k : Int} {n : Nat} (s : M.sz n) (hk : k ≠ 0) (e1 : M.a = k * L.a) (e2 : M.b = k * L.b) (e3 : M.c = k * L.c) (e4 : M.d = k * L.d) : L.sz n :=
  ⟨mul_sz hk e1 s.1, mul_sz hk e2 s.2.1, mul_sz hk e3 s.2.2.1, mul_sz hk e4 s.2.2.2⟩
theorem Sim.mul {L1 L2 L : Mi} {M N : Mt} (a : Sim L1 M) (b : Sim L2 N) (c : Sim L (Mt.mul L1.m L2.m)) : Sim L (Mt.mul M N) := by
  obtain ⟨j, hj, e1⟩ := a.ex
  obtain ⟨k, hk, e2⟩ := b.ex
  obtain ⟨l, hl, e3⟩ := c.ex
  have n1 : j * k ≠ 0 := fun z => (Rat.mul_eq_zero.mp z).elim hj hk
  refine ⟨j * k * l, fun z => (Rat.mul_eq_zero.mp z).elim n1 hl, ?_⟩
  rw [← e1, ← e2, Mt.sm_mul, Mt.mul_sm, ← e3, Mt.sm_sm, Mt.sm_sm]
section
variable {F : Fr} {K : PySem.W.Frag} {W : PyData → Prop}
theorem r__law_common : Kp F K (t__law_common K) 2 2 c__law_common := fun ds W hl c => by
  obtain ⟨a, b, rfl, w⟩ := c
  unfold t__law_common
  refine xs_seq (xs_par (ea_cons (s_abs ?_)))
  and_intros
  refine s_abs ?_
  and_intros
  have ea : (if a < 0 then -a else a) = ((a.natAbs : Nat) : Int) := by split <;> omega
  have eb : (if b < 0 then -b else b) = ((b.natAbs : Nat) : Int) := by split <;> omega
  rw [ea, eb]
  refine xs_while (m0 := b.natAbs) (I := fun m S => ∃ x : Nat, S = [some (.int (x : Int)), some (.int (m : Int))] ∧ Nat.gcd x m = Int.gcd a b) ⟨a.natAbs, rfl, rfl⟩ ?_
  rintro m S ⟨x, rfl, e⟩
  refine et_T (ev_neI ?_)
  and_intros
  refine iteN (fun q => ?_) (fun q => ?_)
  · and_intros
    have m0 : m = 0 := by omega
    subst m0
    rw [Nat.gcd_zero_right] at e
    rw [e]
    exact w
  · and_intros
    refine ⟨q, ?_⟩
    and_intros
    have m0 : 0 < m := by omega
    refine ⟨x % m, Nat.mod_lt _ m0, m, ?_, ?_⟩
    · rw [Int.fmod_eq_emod_of_nonneg _ (by omega)]
      rfl
    · rw [← e, Nat.gcd_comm x m, Nat.gcd_rec m x, Nat.gcd_comm]
theorem r__law_fraction : Kp F K (t__law_fraction K) 2 4 c__law_fraction := fun ds W hl c => by
  obtain ⟨n, d, rfl, hd, w⟩ := c
  unfold t__law_fraction
  have g0 : 0 < Int.gcd n d := Int.gcd_pos_of_ne_zero_right _ hd
  and_intros
  have fin : ∀ s : Int, (s = 1 ∧ 0 < d ∨ s = -1 ∧ ¬ 0 < d) → XS F K (tSeq (tAsg (tOp rMul (tCall (Pur K 2 c__law_common) [] E0 (tCons (tVar 0) (tCons (tVar 1) (tNil)))) (tVar 2)) (gName 3)) (tRet (tTup (tCons (tOp rFdv (tVar 0) (tVar 3)) (tCons (tOp rFdv (tVar 1) (tVar 3)) (tNil))))))
      [some (.int n), some (.int d), some (.int s), none] (fun _ => W .none) W := fun s hs => by
    and_intros
    refine ⟨n, d, rfl, ?_⟩
    and_intros
    refine ⟨cm_small' (by rcases hs with ⟨rfl, _⟩ | ⟨rfl, _⟩ <;> decide), ?_⟩
    have gs : ((Int.gcd n d : Nat) : Int) * s ≠ 0 := by rcases hs with ⟨rfl, _⟩ | ⟨rfl, _⟩ <;> omega
    and_intros
    refine ⟨gs, ?_⟩
    and_intros
    refine ⟨gs, ?_⟩
    and_intros
    obtain ⟨h1, h2, h3, h4, h5⟩ := gcd_out (n := n) hd (g := ((Int.gcd n d : Nat) : Int) * s) (by rcases hs with ⟨rfl, _⟩ | ⟨rfl, _⟩ <;> omega) (by rcases hs with ⟨rfl, _⟩ | ⟨rfl, _⟩ <;> omega)
    exact w _ _ _ h1 h2 h3 h4 h5
  refine iteD (fun q => ?_) (fun q => ?_)
  · refine ev_int ?_
    exact fin 1 (.inl ⟨rfl, q⟩)
  · refine s_sub (ev_int (ev_int ⟨_, _, rfl, rfl, ?_⟩))
    exact fin (-1) (.inr ⟨rfl, q⟩)
theorem r__law_parts : Kp F K (t__law_parts K) 2 5 c__law_parts := fun ds W hl c => by
  obtain ⟨p, n, h, rfl, hn, w⟩ := c
  have hq := h.pi.toIsPr
  have p2 := pp_pos h
  unfold t__law_parts
  and_intros
  refine iteD (fun q => absurd q hn) (fun _ => ?_)
  and_intros
  refine ⟨_, _, _, rfl, ?_⟩
  and_intros
  refine xs_while (m0 := n.natAbs) (I := fun m S => ∃ (k : Nat) (u : Int), S = [some (.int p), some (.tuple [.int n, .int 1]), some (.int (k : Int)), some (.int u), some (.int 1)] ∧ n = p ^ k * u ∧ u ≠ 0 ∧ u.natAbs = m) ⟨0, n, rfl, by simp, hn, rfl⟩ ?_
  rintro m S ⟨k, u, rfl, e, hu, hm⟩
  and_intros
  refine iteD (fun _ => ?_) (fun q => absurd (by omega) q)
  and_intros
  refine iteN (fun q => absurd q hu) (fun _ => ?_)
  and_intros
  refine ⟨by omega, ?_⟩
  and_intros
  refine iteD (fun q => ?_) (fun q => ?_)
  · and_intros
    refine ⟨by omega, ?_⟩
    and_intros
    have dv : p ∣ u := Int.dvd_of_fmod_eq_zero q
    have e1 : u.fdiv p = u / p := Int.fdiv_eq_ediv_of_dvd dv
    have e2 : p * (u / p) = u := Int.mul_ediv_cancel' dv
    have n0 : u / p ≠ 0 := fun z => hu (by rw [← e2, z, Int.mul_zero])
    refine ⟨(u / p).natAbs, ?_, k + 1, u / p, by rw [e1]; rfl, ?_, n0, rfl⟩
    · rw [← hm]
      have a1 : u.natAbs = p.natAbs * (u / p).natAbs := by rw [← Int.natAbs_mul, e2]
      have : 0 < (u / p).natAbs := by omega
      have : 2 ≤ p.natAbs := by omega
      rw [a1]
      have := Nat.mul_le_mul_right (u / p).natAbs this
      omega
    · rw [e, Int.pow_succ, Int.mul_assoc, e2]
  · refine xs_seq (xs_while (m0 := 0) (I := fun m S => S = [some (.int p), some (.tuple [.int n, .int 1]), some (.int (k : Int)), some (.int u), some (.int 1)]) rfl ?_)
    rintro m S rfl
    and_intros
    refine iteD (fun _ => ?_) (fun q => absurd (by omega) q)
    and_intros
    refine iteN (fun q => absurd q (by decide)) (fun _ => ?_)
    and_intros
    refine ⟨by omega, ?_⟩
    and_intros
    have m1 : (1 : Int).fmod p = 1 := by
      rw [Int.fmod_eq_emod_of_nonneg _ (by omega)]
      exact Int.emod_eq_of_lt (by decide) (by omega)
    rw [m1]
    refine iteD (fun q => absurd q (by decide)) (fun _ => ?_)
    and_intros
    have v := vl_of hq (vx_int hq (a := k) (u := u) fun dv => q (Int.fmod_eq_zero_of_dvd dv))
    rw [← e] at v
    rw [v] at w
    exact w
theorem r__law_raised : Kp F K (t__law_raised K) 2 4 c__law_raised := fun ds W hl c => by
  obtain ⟨n, k, rfl, hn, hk, w⟩ := c
  unfold t__law_raised
  and_intros
  refine xs_forR1 (P := fun i S => ∃ o, S = [some (.int n), some (.int (k : Int)), some (.int (n ^ i)), o]) (ea_cons (ev_var rfl (ea_nil ⟨(k : Int), rfl, by omega, by omega, ⟨none, by rw [Int.pow_zero]; rfl⟩, ?_, ?_⟩)))
  · rintro i S hi ⟨o, rfl⟩
    and_intros
    refine ⟨cm_of (sz_pow hn i) hn (by omega), ?_⟩
    and_intros
    exact ⟨_, by rw [Int.pow_succ]; rfl⟩
  · rintro S ⟨o, rfl⟩
    and_intros
    exact w
theorem r__law_power : Kp F K (t__law_power K) 2 2 c__law_power := fun ds W hl c => by
  obtain ⟨n, k, rfl, hn, hk, w⟩ := c
  unfold t__law_power
  and_intros
  refine iteD (fun q => ?_) (fun q => absurd (by omega) q)
  and_intros
  refine ⟨n, k, rfl, hn, hk, ?_⟩
  and_intros
  exact w
theorem r__law_move : Kp F K (t__law_move K) 4 7 c__law_move := fun ds W hl c => by
  obtain ⟨M, rfl, nz, w⟩ := c
  unfold t__law_move
  and_intros
  refine ⟨M.a, M.b, rfl, ?_⟩
  and_intros
  refine ⟨M.c, M.d, rfl, ?_⟩
  and_intros
  refine ⟨_, _, rfl, ?_⟩
  generalize hg : Int.gcd ((Int.gcd M.a M.b : Nat) : Int) ((Int.gcd M.c M.d : Nat) : Int) = g
  have dx : g ∣ Int.gcd M.a M.b := by rw [← hg]; exact Nat.gcd_dvd_left _ _
  have dy : g ∣ Int.gcd M.c M.d := by rw [← hg]; exact Nat.gcd_dvd_right _ _
  have da : g ∣ M.a.natAbs := Nat.dvd_trans dx (Nat.gcd_dvd_left _ _)
  have db : g ∣ M.b.natAbs := Nat.dvd_trans dx (Nat.gcd_dvd_right _ _)
  have dc : g ∣ M.c.natAbs := Nat.dvd_trans dy (Nat.gcd_dvd_left _ _)
  have dd : g ∣ M.d.natAbs := Nat.dvd_trans dy (Nat.gcd_dvd_right _ _)
  have g0 : g ≠ 0 := fun z => by
    subst z
    have h1 := Nat.eq_zero_of_zero_dvd da
    have h2 := Nat.eq_zero_of_zero_dvd db
    have h3 := Nat.eq_zero_of_zero_dvd dc
    have h4 := Nat.eq_zero_of_zero_dvd dd
    omega
  have fin : ∀ (D f : Int), (D = g ∨ D = -g) → XS F K (tRet (tTup (tCons (tOp rFdv (tVar 0) (tVar 4)) (tCons (tOp rFdv (tVar 1) (tVar 4)) (tCons (tOp rFdv (tVar 2) (tVar 4)) (tCons (tOp rFdv (tVar 3) (tVar 4)) (tNil)))))))
      [some (.int M.a), some (.int M.b), some (.int M.c), some (.int M.d), some (.int D), some (.int f), none] (fun _ => W .none) W := fun D f hD => by
    have D0 : D ≠ 0 := by omega
    have dv : ∀ {z : Int}, g ∣ z.natAbs → D ∣ z := fun {z} h => by
      have : (g : Int) ∣ z := Int.ofNat_dvd_left.mpr h
      rcases hD with rfl | rfl
      · exact this
      · exact Int.neg_dvd.mpr this
    and_intros
    refine ⟨D0, ?_⟩
    and_intros
    refine ⟨D0, ?_⟩
    and_intros
    refine ⟨D0, ?_⟩
    and_intros
    refine ⟨D0, ?_⟩
    and_intros
    exact w ⟨M.a.fdiv D, M.b.fdiv D, M.c.fdiv D, M.d.fdiv D⟩ D D0 (fdiv_mul (dv da)) (fdiv_mul (dv db)) (fdiv_mul (dv dc)) (fdiv_mul (dv dd))
  and_intros
  refine ev_lcT (s_tup ?_)
  and_intros
  refine ⟨_, fun k ds => ∃ l : List Int, ds = l.map PyData.int ∧ ((∃ i z, i < k ∧ [M.a, M.b, M.c, M.d][i]? = some z ∧ z ≠ 0) → l ≠ []), rfl, Nat.le_of_ble_eq_true rfl, ⟨[], rfl, fun ⟨i, z, h, _⟩ => absurd h (Nat.not_lt_zero _)⟩, ?_, ?_⟩
  · rintro k x hx G hG ds ⟨l, rfl, hl⟩
    have : ∃ z, x = PyData.int z ∧ [M.a, M.b, M.c, M.d][k]? = some z := by
      match k, hx with
      | 0, hx => exact ⟨M.a, (Option.some.inj hx).symm, rfl⟩
      | 1, hx => exact ⟨M.b, (Option.some.inj hx).symm, rfl⟩
      | 2, hx => exact ⟨M.c, (Option.some.inj hx).symm, rfl⟩
      | 3, hx => exact ⟨M.d, (Option.some.inj hx).symm, rfl⟩
    obtain ⟨z, rfl, hz⟩ := this
    and_intros
    refine iteN (fun h => ?_) (fun h => ?_)
    · refine ⟨l, rfl, fun ⟨i, y, hi, hy, y0⟩ => ?_⟩
      rcases Nat.lt_succ_iff_lt_or_eq.mp hi with q | q
      · exact hl ⟨i, y, q, hy, y0⟩
      · subst q
        exact absurd ((Option.some.inj (hy.symm.trans hz)).trans h) y0
    · and_intros
      exact ⟨l ++ [z], by rw [List.map_append]; rfl, fun _ q => by simp at q⟩
  · rintro ds ⟨l, rfl, hl⟩
    have ne : l ≠ [] := by
      refine hl ?_
      rcases nz with h | h | h | h
      · exact ⟨0, _, (by show 0 < 4; decide), rfl, h⟩
      · exact ⟨1, _, (by show 1 < 4; decide), rfl, h⟩
      · exact ⟨2, _, (by show 2 < 4; decide), rfl, h⟩
      · exact ⟨3, _, (by show 3 < 4; decide), rfl, h⟩
    match l, ne with
    | f :: l, _ =>
      refine ev_int ⟨_, 0, .int f, rfl, rfl, by rw [show ((0 : Int) = ((0 : Nat) : Int)) from rfl]; exact atI_nat rfl, ?_⟩
      refine xs_seq (xs_asg (ev_if (et_T (s_gt ?_))))
      and_intros
      refine iteD (fun h => ?_) (fun h => ?_)
      · exact ev_var rfl (fin g f (.inl rfl))
      · refine s_sub (ev_int (ev_var rfl ⟨_, _, rfl, rfl, ?_⟩))
        rw [Int.zero_sub]
        exact fin (-g) f (.inr rfl)
theorem r__law_after : Kp F K (t__law_after K) 2 10 c__law_after := fun ds W hl c => by
  obtain ⟨M, N, rfl, s, z, h1, h2, w⟩ := c
  unfold t__law_after
  and_intros
  refine ⟨cm_of s.1 z.1 (by decide), ?_⟩
  and_intros
  refine ⟨cm_of s.2.1 z.2.2.1 (by decide), ?_⟩
  and_intros
  refine ⟨cm_of s.1 z.2.1 (by decide), ?_⟩
  and_intros
  refine ⟨cm_of s.2.1 z.2.2.2 (by decide), ?_⟩
  and_intros
  refine ⟨cm_of s.2.2.1 z.1 (by decide), ?_⟩
  and_intros
  refine ⟨cm_of s.2.2.2 z.2.2.1 (by decide), ?_⟩
  and_intros
  refine ⟨cm_of s.2.2.1 z.2.1 (by decide), ?_⟩
  and_intros
  refine ⟨cm_of s.2.2.2 z.2.2.2 (by decide), ?_⟩
  and_intros
  exact ⟨⟨_, _, _, _⟩, rfl, mul_ne h1 h2, w⟩
theorem r__law_back : Kp F K (t__law_back K) 1 1 c__law_back := fun ds W hl c => by
  obtain ⟨M, rfl, h1, w⟩ := c
  unfold t__law_back
  and_intros
  rw [Int.zero_sub, Int.zero_sub]
  refine ⟨⟨M.d, -M.b, -M.c, M.a⟩, rfl, ?_, w⟩
  refine Decidable.byContradiction fun q => ?_
  simp only [not_or, Decidable.not_not] at q
  obtain ⟨q1, q2, q3, q4⟩ := q
  refine h1 ?_
  show (M.a : Rat) * M.d - M.b * M.c = 0
  have e1 : (M.a : Rat) = 0 := by exact_mod_cast q4
  have e2 : (M.b : Rat) = 0 := by exact_mod_cast (by omega : M.b = 0)
  rw [e1, e2]
  grind
theorem r__law_size : Kp F K (t__law_size K) 1 1 c__law_size := fun ds W hl c => by
  obtain ⟨M, rfl, s, w⟩ := c
  unfold t__law_size
  and_intros
  refine ⟨cm_of s.1 s.2.2.2 (by decide), ?_⟩
  and_intros
  refine ⟨cm_of s.2.1 s.2.2.1 (by decide), ?_⟩
  and_intros
  exact w
theorem r__law_stretch : Kp F K (t__law_stretch K) 2 4 c__law_stretch := fun ds W hl c => by
  obtain ⟨p, M, h, rfl, hd, s, w⟩ := c
  have te := tr_int M
  have de := det_int M
  have d0 : M.a * M.d - M.b * M.c ≠ 0 := fun z => hd (by rw [de, z]; rfl)
  unfold t__law_stretch
  and_intros
  refine ⟨M, rfl, s, ?_⟩
  and_intros
  refine ⟨p, _, h, rfl, d0, ?_⟩
  refine ea_cons (s_add ?_)
  and_intros
  refine iteN (fun q => ?_) (fun q => ?_)
  · and_intros
    have : st p M = 0 := by
      show strv p M.m = 0
      unfold strv
      rw [if_pos (by rw [te, q]; rfl)]
    rw [this] at w
    exact w
  · refine s_max ?_
    have t0 : Mt.tr M.m ≠ 0 := by rw [te]; exact cast_ne q
    and_intros
    refine ⟨p, _, h, rfl, q, ?_⟩
    and_intros
    refine ⟨cm_small (by decide), ?_⟩
    and_intros
    refine cast (congrArg (fun z => W (.int z)) ?_) w
    show strv p M.m = _
    unfold strv
    rw [if_neg t0, ← te, ← de]
    split <;> omega
theorem r__law_between : Kp F K (t__law_between K) 2 10 c__law_between := fun ds W hl c => by
  obtain ⟨M, N, rfl, s, z, w⟩ := c
  unfold t__law_between
  and_intros
  refine ⟨cm_of s.2.1 z.2.2.1 (by decide), ?_⟩
  and_intros
  refine ⟨cm_of z.2.1 s.2.2.1 (by decide), ?_⟩
  and_intros
  refine ⟨cm_of s.1 z.2.1 (by decide), ?_⟩
  and_intros
  refine ⟨cm_of s.2.1 z.2.2.2 (by decide), ?_⟩
  and_intros
  refine ⟨cm_of z.1 s.2.1 (by decide), ?_⟩
  and_intros
  refine ⟨cm_of z.2.1 s.2.2.2 (by decide), ?_⟩
  and_intros
  refine ⟨cm_of s.2.2.1 z.1 (by decide), ?_⟩
  and_intros
  refine ⟨cm_of s.2.2.2 z.2.2.1 (by decide), ?_⟩
  and_intros
  refine ⟨cm_of z.2.2.1 s.1 (by decide), ?_⟩
  and_intros
  refine ⟨cm_of z.2.2.2 s.2.2.1 (by decide), ?_⟩
  and_intros
  refine ⟨cm_of s.2.2.1 z.2.1 (by decide), ?_⟩
  and_intros
  refine ⟨cm_of z.2.2.1 s.2.1 (by decide), ?_⟩
  and_intros
  exact w
theorem r__law_lines_kind : Kp F K (t__law_lines_kind K) 3 4 c__law_lines_kind := fun ds W hl c => by
  obtain ⟨p, M, N, rfl, s, z, w1, w2, w3⟩ := c
  have bs := btw_sz s z
  unfold t__law_lines_kind
  and_intros
  refine ⟨M, N, rfl, s.mono (by decide), z.mono (by decide), ?_⟩
  refine xs_seq (xs_if (et_T (ev_eqD ?_)))
  and_intros
  refine iteB (fun q => ?_) (fun _ => ?_)
  · and_intros
    exact w2
  refine xs_next (xs_ret (ev_if (et_T (ev_eqI ?_))))
  and_intros
  refine ⟨cm_of bs.1 bs.2.2.2 (by decide), ?_⟩
  and_intros
  refine ⟨cm_of bs.2.1 bs.2.2.1 (by decide), ?_⟩
  and_intros
  refine iteD (fun q => ?_) (fun q => ?_)
  · and_intros
    exact w3
  · and_intros
    refine w1 fun e => q ?_
    rw [← btw_comm, det_int] at e
    have : (M.btw N).a * (M.btw N).d - (M.btw N).b * (M.btw N).c = 0 := by exact_mod_cast e
    omega
theorem r__law_by_ends : Kp F K (t__law_by_ends K) 5 10 c__law_by_ends := fun ds W hl c => by
  obtain ⟨p, a, b, n, m, s, h, rfl, m20, sa, sb, hc, n0, n3, hs, w⟩ := c
  have hq := h.pi.toIsPr
  have p2 := pp_pos h
  unfold t__law_by_ends
  and_intros
  refine ⟨p, n, rfl, pp_sz h, by omega, ?_⟩
  and_intros
  have p7 : p ≤ 7 := by rcases h with rfl | rfl | rfl | rfl <;> decide
  have st_ : sz 10 (p ^ n) := sz_mono (sz_pow (pp_sz h) n) (by omega)
  have s2 : sz 1 s := by rcases hs with rfl | rfl <;> (unfold sz; decide)
  generalize ht : p ^ n = t at *
  refine ⟨cm_of sa.1 st_ (by omega), ?_⟩
  and_intros
  refine ⟨cm_of sb.1 s2 (by omega), ?_⟩
  and_intros
  refine ⟨cm_of sa.2 st_ (by omega), ?_⟩
  and_intros
  refine ⟨cm_of sb.2 s2 (by omega), ?_⟩
  and_intros
  have tp : 0 < t := by rw [← ht]; exact Int.pow_pos (by omega)
  have s0 : s ≠ 0 := by rcases hs with rfl | rfl <;> decide
  have d1 : Mt.det (Mi.mk (a.x * t) (b.x * s) (a.y * t) (b.y * s)).m ≠ 0 := by
    rw [det_int]
    refine cast_ne ?_
    show a.x * t * (b.y * s) - b.x * s * (a.y * t) ≠ 0
    rw [show a.x * t * (b.y * s) - b.x * s * (a.y * t) = (t * s) * crs a b by unfold crs; grind]
    exact Int.mul_ne_zero (Int.mul_ne_zero (by omega) s0) hc
  have d2 : Mt.det (Mi.mk b.y (-b.x) (-a.y) a.x).m ≠ 0 := by
    rw [det_int]
    refine cast_ne ?_
    show b.y * a.x - -b.x * -a.y ≠ 0
    rw [show b.y * a.x - -b.x * -a.y = crs a b by unfold crs; grind]
    exact hc
  have nz : ∀ {M : Mi}, Mt.det M.m ≠ 0 → (M.a ≠ 0 ∨ M.b ≠ 0 ∨ M.c ≠ 0 ∨ M.d ≠ 0) := fun {M} hd => Decidable.byContradiction fun q => by
    simp only [not_or, Decidable.not_not] at q
    refine hd ?_
    rw [det_int, q.1, q.2.1, Int.zero_mul, Int.zero_mul]
    rfl
  refine ⟨⟨a.x * t, b.x * s, a.y * t, b.y * s⟩, rfl, nz d1, fun L1 k1 hk1 e1 e2 e3 e4 => ?_⟩
  have z1 := one_sim hk1 e1 e2 e3 e4
  have l1 : L1.sz (m + 10) := one_len (M := ⟨a.x * t, b.x * s, a.y * t, b.y * s⟩) ⟨sz_mul sa.1 st_, sz_mono (sz_mul sb.1 s2) (by omega), sz_mul sa.2 st_, sz_mono (sz_mul sb.2 s2) (by omega)⟩ hk1 e1 e2 e3 e4
  and_intros
  rw [Int.zero_sub, Int.zero_sub]
  refine ⟨⟨b.y, -b.x, -a.y, a.x⟩, rfl, nz d2, fun L2 k2 hk2 f1 f2 f3 f4 => ?_⟩
  have z2 := one_sim hk2 f1 f2 f3 f4
  have l2 : L2.sz m := one_len (M := ⟨b.y, -b.x, -a.y, a.x⟩) ⟨sb.2, sz_neg sb.1, sz_neg sa.2, sa.1⟩ hk2 f1 f2 f3 f4
  and_intros
  refine ⟨L1, L2, rfl, l1.mono (by omega), l2.mono (by omega), z1.det d1, z2.det d2, fun L k hk g1 g2 g3 g4 => ?_⟩
  have zz := z1.mul z2 (after_sim hk g1 g2 g3 g4)
  have dd := mul_det d1 d2
  have ll := after_len l1 l2 hk g1 g2 g3 g4
  refine w L (zz.det dd) (ll.mono (by omega)) ?_
  rw [zz.st h dd]
  have tr_e : Mt.tr (Mt.mul (Mi.mk (a.x * t) (b.x * s) (a.y * t) (b.y * s)).m (Mi.mk b.y (-b.x) (-a.y) a.x).m) = ((t + s : Int) : Rat) * (crs a b : Int) := by
    show ((a.x * t : Int) : Rat) * (b.y : Int) + ((b.x * s : Int) : Rat) * ((-a.y : Int) : Rat) + (((a.y * t : Int) : Rat) * ((-b.x : Int) : Rat) + ((b.y * s : Int) : Rat) * (a.x : Int)) = _
    simp only [crs, Rat.intCast_mul, Rat.intCast_add, Rat.intCast_neg, Rat.intCast_sub]
    grind
  have det_e : Mt.det (Mt.mul (Mi.mk (a.x * t) (b.x * s) (a.y * t) (b.y * s)).m (Mi.mk b.y (-b.x) (-a.y) a.x).m) = ((t : Int) : Rat) * ((s : Int) : Rat) * ((crs a b : Int) : Rat) * ((crs a b : Int) : Rat) := by
    rw [Mt.det_mul, det_int, det_int]
    show ((a.x * t * (b.y * s) - b.x * s * (a.y * t) : Int) : Rat) * ((b.y * a.x - -b.x * -a.y : Int) : Rat) = _
    simp only [crs, Rat.intCast_mul, Rat.intCast_add, Rat.intCast_neg, Rat.intCast_sub]
    grind
  have cr : ((crs a b : Int) : Rat) ≠ 0 := cast_ne hc
  have nd : ¬ p ∣ t + s := fun dv => by
    have : p ∣ t := by
      rw [← ht]
      obtain ⟨m, rfl⟩ : ∃ m, n = m + 1 := ⟨n - 1, by omega⟩
      rw [Int.pow_succ]
      exact Int.dvd_mul_left _ _
    have h1 : p ∣ s := by
      have := Int.dvd_sub dv this
      rwa [show t + s - t = s by omega] at this
    have h2 : p ∣ 1 := by
      rcases hs with rfl | rfl
      · exact h1
      · exact Int.dvd_neg.mp h1
    exact ndvd_one hq h2
  have ts0 : t + s ≠ 0 := fun z => nd (by rw [z]; exact Int.dvd_zero _)
  have v1 : vl p ((t + s : Int) : Rat) = 0 := by
    have := vl_of hq (vx_int hq (a := 0) nd)
    rwa [Int.pow_zero, Int.one_mul] at this
  have v2 : vl p ((t : Int) : Rat) = n := by
    rw [← ht, ← pw_nat, vl_pw hq]
  have v3 : vl p ((s : Int) : Rat) = 0 := by
    have ns : ¬ p ∣ s := fun dv => by
      rcases hs with rfl | rfl
      · exact ndvd_one hq dv
      · exact ndvd_one hq (Int.dvd_neg.mp dv)
    have := vl_of hq (vx_int hq (a := 0) ns)
    rwa [Int.pow_zero, Int.one_mul] at this
  have t0 : ((t : Int) : Rat) ≠ 0 := cast_ne (by omega)
  have s0' : ((s : Int) : Rat) ≠ 0 := cast_ne s0
  have m2 : ∀ {x y : Rat}, x ≠ 0 → y ≠ 0 → x * y ≠ 0 := fun hx hy z => (Rat.mul_eq_zero.mp z).elim hx hy
  unfold strv
  rw [tr_e, det_e, if_neg (m2 (cast_ne ts0) cr), vl_mul hq (cast_ne ts0) cr, vl_mul hq (m2 (m2 t0 s0') cr) cr, vl_mul hq (m2 t0 s0') cr, vl_mul hq t0 s0', v1, v2, v3]
  omega
end
end Bm
-- BmR10
set_option maxRecDepth 100000
set_option maxHeartbeats 2000000
/-! BmR10: products' stretches. -/
namespace Bm
open PySem PySem.Spec PyProof.Rows L2 Bt
local macro_rules | `(tactic| and_intros) => `(tactic| repeat (with_reducible first
  | refine xs_seq ?_ | refine xs_ret ?_ | refine xs_asg ?_ | refine xs_par ?_ | refine xs_par3 ?_ | refine xs_if ?_ | refine xs_asgT rfl ?_
  | (refine ev_var (d := ?_) ?_ ?_; rotate_left; (with_unfolding_all exact rfl))
  | refine ev_int ?_ | refine ev_bl ?_ | refine ev_str ?_ | refine ev_non ?_
  | refine ev_ixT ?_ | refine ev_ixL ?_ | refine ea_nil ?_ | refine ea_cons ?_ | refine s_tup ?_ | refine s_dis ?_ | refine ev_call ?_
  | refine ⟨_, _, _, rfl, rfl, (by with_unfolding_all exact rfl), ?_⟩
  | refine s_add ?_ | refine s_sub ?_ | refine s_mul ?_ | refine s_fdv ?_ | refine s_mod ?_ | refine s_lt ?_ | refine s_le ?_ | refine s_gt ?_ | refine s_ge ?_ | refine s_neg ?_
  | refine ⟨_, _, rfl, rfl, ?_⟩ | refine ⟨_, _, rfl, ?_⟩ | refine ⟨_, rfl, ?_⟩
  | refine ev_if ?_ | refine et_T ?_ | refine et_B ?_ | refine et_not ?_ | refine et_and ?_ | refine et_or ?_
  | refine ev_gcd2 ?_ | refine ev_eqI ?_ | refine ev_neI ?_
  | refine ⟨(by with_unfolding_all exact rfl), ?_⟩ | refine ⟨Nat.le_of_ble_eq_true (by with_unfolding_all exact rfl), ?_⟩
  | refine ⟨_, rfl, (by with_unfolding_all exact rfl), ?_⟩))
section
variable {F : Fr} {K : PySem.W.Frag} {S : SS} {W : PyData → Prop} {ta tb tc : TE}
theorem req_int {H : Hp} {i j : Int} {Q : VK} (q : Q (.bl (decide (i = j))) H) : rEq (.int i) (.int j) H Q := by
  refine ⟨rfl, ?_⟩
  rw [show decide (V.int i = V.int j) = decide (i = j) from decide_eq_decide.mpr ⟨fun e => V.int.inj e, fun e => by rw [e]⟩]
  exact q
theorem s_eqeq (h : EV F K ta S fun d => EV F K tb S fun e => ∃ i, d = .int i ∧ e = .int i ∧ EV F K tc S fun f => ∃ k, f = .int k ∧ W (.bool (decide (i = k)))) : EV F K (tChain rEq rEq ta tb tc) S W :=
  ev_chain (W2 := fun d e => ∃ i, d = .int i ∧ e = .int i ∧ EV F K tc S fun f => ∃ k, f = .int k ∧ W (.bool (decide (i = k)))) (W1 := fun d e f => ∃ i k, e = .int i ∧ f = .int k ∧ W (.bool (decide (i = k)))) h
    (fun d e x y H g0 ⟨i, e1, e2, w⟩ a1 a2 Q q => by
      subst e1 e2
      rw [int_inv a1, int_inv a2]
      refine req_int (q _ (decide (i = i)) H g0 (.bl _) ?_)
      rw [decide_self, if_pos rfl]
      exact w.imp fun f ⟨k, ef, wf⟩ => ⟨i, k, rfl, ef, wf⟩)
    (fun d e f y z H g0 ⟨i, k, e1, e2, w⟩ a1 a2 Q q => by
      subst e1 e2
      rw [int_inv a1, int_inv a2]
      exact req_int (q _ _ H g0 (.bl _) w))
end
section
variable {p : Int} (h : PP p) {M N : Mi}
theorem strOk_mul (hm : Mt.det M.m ≠ 0) (hn : Mt.det N.m ≠ 0) : Iso (tr h) (act h.pi (Mt.mul M.m N.m)) (act h.pi (Mt.adj (Mt.mul M.m N.m))) ∧ (∀ x, act h.pi (Mt.mul M.m N.m) x = ac h M (ac h N x)) ∧ StrOk (tr h) (act h.pi (Mt.mul M.m N.m)) (strv p (Mt.mul M.m N.m)) :=
  ⟨act_iso h.pi (mul_det hm hn), fun x => act_mul h.pi hm hn x, str_ok h.pi (mul_det hm hn)⟩
theorem strOk_mul' (hm : Mt.det M.m ≠ 0) (hn : Mt.det N.m ≠ 0) : Iso (tr h) (act h.pi (Mt.mul M.m (Mt.adj N.m))) (act h.pi (Mt.adj (Mt.mul M.m (Mt.adj N.m)))) ∧ (∀ x, act h.pi (Mt.mul M.m (Mt.adj N.m)) x = ac h M (act h.pi (Mt.adj N.m) x)) ∧ StrOk (tr h) (act h.pi (Mt.mul M.m (Mt.adj N.m))) (strv p (Mt.mul M.m (Mt.adj N.m))) :=
  ⟨act_iso h.pi (mul_det hm (adj_ne hn)), fun x => act_mul h.pi hm (adj_ne hn) x, str_ok h.pi (mul_det hm (adj_ne hn))⟩
/-- the products, lines apart -/
theorem prods_ap (t : Two h M N) {b o : B p} (A : ApM h M N b o) : strv p (Mt.mul M.m N.m) = st p M + st p N + 2 * (tr h).d b o ∧ strv p (Mt.mul M.m (Mt.adj N.m)) = st p M + st p N + 2 * (tr h).d b o := by
  have G := isoM h t.om.det
  have H := hypM h t.om.det t.sm
  have G' := isoM h t.on.det
  have H' := hypM h t.on.det t.sn
  obtain ⟨u1, u2, u3⟩ := strOk_mul h t.om.det t.on.det
  obtain ⟨v1, v2, v3⟩ := strOk_mul' h t.om.det t.on.det
  exact ⟨prod_apart G H G' H' A u1 u2 u3, prod_apart G H G'.back (Hyp.inv G' H') (A.inv G') v1 v2 v3⟩
/-- the products, lines along: one goes with the way, the other against -/
theorem prods_al (t : Two h M N) {Fi La : B p} {w : Int} (A : AlM h M N Fi La) (wi : WyM h N Fi La w) : ∃ n1 n2 : Int, (0 ≤ w ∧ n1 = strv p (Mt.mul M.m N.m) ∧ n2 = strv p (Mt.mul M.m (Mt.adj N.m)) ∨ w = -1 ∧ n1 = strv p (Mt.mul M.m (Mt.adj N.m)) ∧ n2 = strv p (Mt.mul M.m N.m)) ∧
    n1 = st p M + st p N ∧ ((tr h).d Fi La < st p M → (tr h).d Fi La < st p N → n2 = st p M + st p N - 2 * (tr h).d Fi La) ∧ (¬ ((tr h).d Fi La < st p M ∧ (tr h).d Fi La < st p N) → n2 ≤ st p M - st p N ∨ n2 ≤ st p N - st p M) := by
  have G := isoM h t.om.det
  have H := hypM h t.om.det t.sm
  have G' := isoM h t.on.det
  have H' := hypM h t.on.det t.sn
  obtain ⟨u1, u2, u3⟩ := strOk_mul h t.om.det t.on.det
  obtain ⟨v1, v2, v3⟩ := strOk_mul' h t.om.det t.on.det
  rcases wi.one with rfl | rfl | rfl
  · exact ⟨_, _, .inl ⟨by decide, rfl, rfl⟩, prod_along G H G' H' A wi (by decide) u1 u2 u3, fun a b => prod_short G H G' H' A wi (by decide) a b v1 v2 v3, fun q => prod_long G H G' H' A wi (by decide) q v2 v3⟩
  · exact ⟨_, _, .inl ⟨by decide, rfl, rfl⟩, prod_along G H G' H' A wi (by decide) u1 u2 u3, fun a b => prod_short G H G' H' A wi (by decide) a b v1 v2 v3, fun q => prod_long G H G' H' A wi (by decide) q v2 v3⟩
  · have A' := A.inv G'
    have wi' := wi.inv G'
    have H2 := Hyp.inv G' H'
    exact ⟨_, _, .inr ⟨rfl, rfl, rfl⟩, prod_along G H G'.back H2 A' wi' (by decide) v1 v2 v3, fun a b => prod_short G H G'.back H2 A' wi' (by decide) a b u1 u2 u3, fun q => prod_long G H G'.back H2 A' wi' (by decide) q u2 u3⟩
end
section
variable {F : Fr} {K : PySem.W.Frag} {W : PyData → Prop}
theorem r__law_products_right : Kp F K (t__law_products_right K) 4 8 c__law_products_right := fun ds W hl c => by
  obtain ⟨p, h, M, N, d, rfl, two, sM, sN, td, w⟩ := c
  obtain ⟨om, on, sm, sn, hC⟩ := id two
  unfold t__law_products_right
  and_intros
  refine ⟨p, M, h, rfl, om.det, sM.mono (by decide), ?_⟩
  and_intros
  refine ⟨p, N, h, rfl, on.det, sN.mono (by decide), ?_⟩
  and_intros
  refine ⟨M, N, rfl, sM.mono (by decide), sN.mono (by decide), om.det, on.det, fun L k hk e1 e2 e3 e4 => ?_⟩
  have zL := after_sim hk e1 e2 e3 e4
  have dL := mul_det om.det on.det
  and_intros
  refine ⟨p, L, h, rfl, zL.det dL, (after_len sM sN hk e1 e2 e3 e4).mono (by decide), ?_⟩
  rw [zL.st h dL]
  and_intros
  refine ⟨N, rfl, on.det, fun N' k hk e1 e2 e3 e4 => ?_⟩
  have zN := back_sim hk e1 e2 e3 e4
  have dN := adj_ne on.det
  have lN := back_len sN hk e1 e2 e3 e4
  and_intros
  refine ⟨M, N', rfl, sM.mono (by decide), lN.mono (by decide), om.det, zN.det dN, fun L' k hk e1 e2 e3 e4 => ?_⟩
  have one : Sim M M.m := ⟨1, by decide, Mt.sm_one _⟩
  have zL' := one.mul zN (after_sim hk e1 e2 e3 e4)
  have dL' := mul_det om.det dN
  and_intros
  refine ⟨p, L', h, rfl, zL'.det dL', (after_len sM lN hk e1 e2 e3 e4).mono (by decide), ?_⟩
  rw [zL'.st h dL']
  cases td with
  | @ap b o A rb ro =>
    obtain ⟨q1, q2⟩ := prods_ap h two A
    rw [q1, q2]
    unfold dAp
    refine ea_nil ⟨_, _, rfl, ?_⟩
    refine xs_seq (xs_if (et_T (ev_eqS ?_)))
    and_intros
    rw [decide_self, if_pos rfl]
    refine xs_ret (s_eqeq ?_)
    and_intros
    refine ⟨cm_small (by decide), ?_⟩
    and_intros
    rw [decide_self]
    exact w
  | @al Fi La wy A wi rF rL =>
    obtain ⟨n1, n2, hw, q1, q2, q3⟩ := prods_al h two A wi
    unfold dAl
    refine ea_nil ⟨_, _, rfl, ?_⟩
    refine xs_seq (xs_if (et_T (ev_eqS ?_)))
    and_intros
    rw [apart_ne, if_neg (by decide)]
    refine xs_next (xs_seq (xs_asgT rfl (ev_if (et_T (s_gt ?_)))))
    and_intros
    have fin : XS F K (tSeq (tIfS (tTest (tOp rNe (tVar 6) (tOp rAdd (tVar 4) (tVar 5)))) (tRet (tC (.bl false))) (tNext)) (tRet (tIf (tTest (tOp rLt (tOp (rIxT K) (tVar 3) (tC (.int 1))) (tCB rMin (tCons (tVar 4) (tCons (tVar 5) (tNil)))))) (tOp rEq (tVar 7) (tOp rSub (tOp rAdd (tVar 4) (tVar 5)) (tOp rMul (tC (.int 2)) (tOp (rIxT K) (tVar 3) (tC (.int 1)))))) (tOp rLe (tVar 7) (tCB rAbs (tCons (tOp rSub (tVar 4) (tVar 5)) (tNil)))))))
        [some (.int p), some (dM M), some (dM N), some (.tuple [.str "along", .int ((tr h).d Fi La), .int wy, dB Fi.1, dB La.1]), some (.int (st p M)), some (.int (st p N)), some (.int n1), some (.int n2)] (fun _ => W .none) W := by
      refine xs_seq (xs_if (et_T (ev_neI ?_)))
      and_intros
      refine iteN (fun _ => ?_) (fun q => absurd q1 q)
      refine xs_next (xs_ret (ev_if (et_T (s_lt ?_))))
      and_intros
      refine s_min ?_
      and_intros
      have em : (if st p N < st p M then st p N else st p M) = min (st p M) (st p N) := by split <;> omega
      rw [em]
      refine iteD (fun q => ?_) (fun q => ?_)
      · refine ev_eqI ?_
        and_intros
        refine ⟨cm_small (by decide), ?_⟩
        and_intros
        rw [decide_eq_true (q2 (by omega) (by omega))]
        exact w
      · refine s_le ?_
        and_intros
        refine s_abs ?_
        and_intros
        have := q3 (by omega)
        rw [decide_eq_true (by split <;> omega)]
        exact w
    refine iteD (fun q => ?_) (fun q => ?_)
    · rcases hw with ⟨a1, rfl, rfl⟩ | ⟨a1, a2, a3⟩
      · refine s_tup ?_
        refine ea_cons (ev_var rfl (ea_cons (ev_var rfl (ea_nil ⟨Nat.le_of_ble_eq_true rfl, _, rfl, rfl, ?_⟩))))
        exact fin
      · omega
    · rcases hw with ⟨a1, a2, a3⟩ | ⟨a1, rfl, rfl⟩
      · omega
      · refine s_tup ?_
        refine ea_cons (ev_var rfl (ea_cons (ev_var rfl (ea_nil ⟨Nat.le_of_ble_eq_true rfl, _, rfl, rfl, ?_⟩))))
        exact fin
end
end Bm
-- BmR11
set_option maxRecDepth 100000
set_option maxHeartbeats 2000000
/-! BmR11: the source: what is drawn. -/
namespace Bm
open PySem PySem.Spec PyProof.Rows L2 Bt
local macro_rules | `(tactic| and_intros) => `(tactic| repeat (with_reducible first
  | refine xs_seq ?_ | refine xs_ret ?_ | refine xs_asg ?_ | refine xs_par ?_ | refine xs_par3 ?_ | refine xs_if ?_ | refine xs_asgT rfl ?_
  | (refine ev_var (d := ?_) ?_ ?_; rotate_left; (with_unfolding_all exact rfl))
  | refine ev_int ?_ | refine ev_bl ?_ | refine ev_str ?_ | refine ev_non ?_
  | refine ev_ixT ?_ | refine ev_ixL ?_ | refine ea_nil ?_ | refine ea_cons ?_ | refine s_tup ?_ | refine s_dis ?_ | refine ev_call ?_
  | refine ⟨_, _, _, rfl, rfl, (by with_unfolding_all exact rfl), ?_⟩
  | refine s_add ?_ | refine s_sub ?_ | refine s_mul ?_ | refine s_fdv ?_ | refine s_mod ?_ | refine s_lt ?_ | refine s_le ?_ | refine s_gt ?_ | refine s_ge ?_ | refine s_neg ?_
  | refine ⟨_, _, rfl, rfl, ?_⟩ | refine ⟨_, _, rfl, ?_⟩ | refine ⟨_, rfl, ?_⟩
  | refine ev_if ?_ | refine et_T ?_ | refine et_B ?_ | refine et_not ?_ | refine et_and ?_ | refine et_or ?_
  | refine ev_gcd2 ?_ | refine ev_eqI ?_ | refine ev_neI ?_
  | refine ⟨(by with_unfolding_all exact rfl), ?_⟩ | refine ⟨Nat.le_of_ble_eq_true (by with_unfolding_all exact rfl), ?_⟩
  | refine ⟨_, rfl, (by with_unfolding_all exact rfl), ?_⟩))
/-! ### the dict -/
theorem k1 : ¬ ((.inr "cells" : Key) = .inr "left") := by decide +kernel
theorem k2 : ¬ ((.inr "cells" : Key) = .inr "turn") := by decide +kernel
theorem k3 : ¬ ((.inr "cells" : Key) = .inr "mixed") := by decide +kernel
theorem k4 : ¬ ((.inr "left" : Key) = .inr "turn") := by decide +kernel
theorem k5 : ¬ ((.inr "left" : Key) = .inr "mixed") := by decide +kernel
theorem k6 : ¬ ((.inr "mixed" : Key) = .inr "turn") := by decide +kernel
section
variable {c : Addr} {l m t n : Int}
theorem v_cells : valV (srcKv c l m t) (.inr "cells") = some (.ref c) := valV_pos rfl
theorem v_left : valV (srcKv c l m t) (.inr "left") = some (.int l) := (valV_neg k1).trans (valV_pos rfl)
theorem v_mixed : valV (srcKv c l m t) (.inr "mixed") = some (.int m) := (valV_neg k3).trans ((valV_neg k5).trans (valV_pos rfl))
theorem v_turn : valV (srcKv c l m t) (.inr "turn") = some (.int t) := (valV_neg k2).trans ((valV_neg k4).trans ((valV_neg k6).trans (valV_pos rfl)))
theorem p_any {k : Key} {v : V} (h : valV (srcKv c l m t) k = some v) : ((srcKv c l m t).any fun kv => decide (kv.1 = k)) = true := by
  rw [valV_any, h]
  rfl
theorem p_left : putK (srcKv c l m t) (.inr "left") (.int n) = srcKv c n m t := by
  unfold putK
  rw [if_pos (p_any v_left)]
  simp only [srcKv, List.map_cons, List.map_nil, if_neg k1, if_neg (Ne.symm k5), if_neg (Ne.symm k4)]
  simp
theorem p_turn : putK (srcKv c l m t) (.inr "turn") (.int n) = srcKv c l m n := by
  unfold putK
  rw [if_pos (p_any v_turn)]
  simp only [srcKv, List.map_cons, List.map_nil, if_neg k2, if_neg k4, if_neg k6]
  simp
end
/-- what is read of the source: ints -/
inductive IsK : Str → Prop
  | left : IsK "left"
  | mixed : IsK "mixed"
  | turn : IsK "turn"
inductive IsP : Str → Prop
  | left : IsP "left"
  | turn : IsP "turn"
section
variable {F : Fr} {K : PySem.W.Frag} {S : SS} {N : SS → Prop} {R W : PyData → Prop} {i : Addr × Addr} {te : TE} {j : Nat}
theorem obj_inv {H : Hp} {v : V} {a : Addr} (h : DD K H v (dO a)) : v = .ref a := by
  cases h with
  | obj => rfl
theorem ev_srcI (sf : SrcF i F) {k : Str} (hk : IsK k) (hs : S[j]? = some (some (dO i.1))) (w : ∀ l : Int, W (.int l)) : EV F K (tDGet (tVar j) (tC (.str k))) S W := fun σ H sl Q q => by
  obtain ⟨v, e, a⟩ := sl.get hs
  obtain ⟨l, m, t, is, h1, h2⟩ := (sf.at_ H sl.ok).ex
  have := obj_inv a
  subst this
  refine ⟨_, e, i.1, ?_⟩
  cases hk with
  | left => exact ⟨_, rfl, .inl ⟨_, .inr "left", .inl h1, rfl, v_left.symm⟩, q _ _ H sl.rf (.int l) (w l)⟩
  | mixed => exact ⟨_, rfl, .inl ⟨_, .inr "mixed", .inl h1, rfl, v_mixed.symm⟩, q _ _ H sl.rf (.int m) (w m)⟩
  | turn => exact ⟨_, rfl, .inl ⟨_, .inr "turn", .inl h1, rfl, v_turn.symm⟩, q _ _ H sl.rf (.int t) (w t)⟩
theorem ev_cells (sf : SrcF i F) (hs : S[j]? = some (some (dO i.1))) (w : W (dO i.2)) : EV F K (tDGet (tVar j) (tC (.str "cells"))) S W := fun σ H sl Q q => by
  obtain ⟨v, e, a⟩ := sl.get hs
  obtain ⟨l, m, t, is, h1, h2⟩ := (sf.at_ H sl.ok).ex
  have := obj_inv a
  subst this
  exact ⟨_, e, i.1, _, rfl, .inl ⟨_, .inr "cells", .inl h1, rfl, v_cells.symm⟩, q _ _ H sl.rf (.obj _) w⟩
/-- the heap behind a change of the source -/
theorem src_go (sf : SrcF i F) {H H' : Hp} (ok : F.ok H) (e : ∀ b, b ≠ i.1 → b ≠ i.2 → H' b = H b) (s : Src i.1 i.2 H') : Go F H H' := by
  refine ⟨sf.ch H H' ok e s, fun b o h => ?_⟩
  unfold Fr.mk' at h ⊢
  by_cases m : F.ms b = true
  · rw [if_pos m] at h
    cases h
  · rw [if_neg m] at h ⊢
    rw [e b (fun z => m (by rw [z]; exact sf.ma)) (fun z => m (by rw [z]; exact sf.mc))]
    exact h
theorem len4 {c : Addr} {l m t : Int} : (srcKv c l m t).length < sizeLine := by
  show 4 < sizeLine
  decide
theorem xs_put (sf : SrcF i F) {k : Str} (hk : IsP k) (hs : S[j]? = some (some (dO i.1))) (h : EV F K te S fun d => ∃ n, d = .int n ∧ N S) : XS F K (tAsg te (gSub (tVar j) (tC (.str k)) rSetD)) S N R := fun σ H sl D hn hr =>
  h σ H sl _ fun v d H1 e1 a1 ⟨n, ed, nn⟩ => by
    subst ed
    cases int_inv a1
    have sl1 := sl.mono e1
    obtain ⟨v', e, a⟩ := sl1.get hs
    obtain ⟨l, m, t, is, h1, h2⟩ := (sf.at_ H1 sl1.ok).ex
    have := obj_inv a
    subst this
    have fin : ∀ l' t' : Int, D.nx σ (upd H1 i.1 (.dK (srcKv i.2 l' m t'))) := fun l' t' => by
      have g := src_go sf sl1.ok (H' := upd H1 i.1 (.dK (srcKv i.2 l' m t'))) (fun b n1 _ => upd_ne n1) ⟨l', m, t', is, upd_same, (upd_ne (Ne.symm sf.ne)).trans h2⟩
      exact hn σ S _ (e1.trans g) (sl1.mono g) nn
    refine ⟨_, e, ?_⟩
    cases hk with
    | left =>
      refine ⟨i.1, _, rfl, .inl ⟨_, .inr "left", h1, rfl, len4, rfl⟩, ?_⟩
      rw [p_left]
      exact fin n t
    | turn =>
      refine ⟨i.1, _, rfl, .inl ⟨_, .inr "turn", h1, rfl, len4, rfl⟩, ?_⟩
      rw [p_turn]
      exact fin l n
/-- while source['left'] < 2 and len(cells) > 0: source['left'] = cells.pop() -/
theorem xs_drain (sf : SrcF i F) {n : Int} {o1 o2 o3 : Option PyData} (nn : N [some (dO i.1), some (.int n), some (dO i.2), o1, o2, o3]) :
    XS F K (tWhile (tAnd (tTest (tOp rLt (tDGet (tVar 0) (tC (.str "left"))) (tC (.int 2)))) (tTest (tOp rGt (tCB (rLen K) (tCons (tVar 2) (tNil))) (tC (.int 0))))) (tAsg (tBM0 K "list" rPop (tVar 2)) (gSub (tVar 0) (tC (.str "left")) rSetD))) [some (dO i.1), some (.int n), some (dO i.2), o1, o2, o3] N R := fun σ H sl D hn hr => by
  obtain ⟨l0, m0, t0, is0, g1, g2⟩ := (sf.at_ H sl.ok).ex
  refine ⟨fun k σ' H' => Go F H H' ∧ SF F K H' σ' [some (dO i.1), some (.int n), some (dO i.2), o1, o2, o3] ∧ ∃ (l m t : Int) (is : List Int), H' i.1 = some (.dK (srcKv i.2 l m t)) ∧ H' i.2 = some (.lst (is.map V.int)) ∧ is.length = k, ⟨_, sl.rf, sl, l0, m0, t0, is0, g1, g2, rfl⟩, ?_⟩
  rintro k σ1 H1 ⟨e1, s1, l, m, t, is, h1, h2, hk⟩
  obtain ⟨v0, x0, a0⟩ := s1.get (i := 0) rfl
  obtain ⟨v2, x2, a2⟩ := s1.get (i := 2) rfl
  have y0 := obj_inv a0
  have y2 := obj_inv a2
  subst y0 y2
  have done := hn σ1 _ H1 e1 s1 nn
  refine ⟨_, x0, i.1, _, rfl, .inl ⟨_, .inr "left", .inl h1, rfl, v_left.symm⟩, l, 2, rfl, rfl, _, rfl, ?_⟩
  refine iteD (fun q => ?_) (fun q => ?_)
  · refine ⟨_, x2, i.2, _, rfl, .inl (SqL.of h2), _, 0, rfl, rfl, _, rfl, ?_⟩
    refine iteD (fun q2 => ?_) (fun q2 => ?_)
    · have lp : 0 < is.length := by
        rw [List.length_map] at q2
        omega
      obtain ⟨ys, y, rfl⟩ : ∃ ys y, is = ys ++ [y] := ⟨is.dropLast, is.getLast (fun z => by rw [z] at lp; exact absurd lp (by decide)), (List.dropLast_concat_getLast _).symm⟩
      refine ⟨fun σ' H' => ∃ k', k' < k ∧ Go F H H' ∧ SF F K H' σ' [some (dO i.1), some (.int n), some (dO i.2), o1, o2, o3] ∧ ∃ (l m t : Int) (is : List Int), H' i.1 = some (.dK (srcKv i.2 l m t)) ∧ H' i.2 = some (.lst (is.map V.int)) ∧ is.length = k', fun _ _ z => z, ?_⟩
      refine ⟨_, x2, .inl ⟨rfl, _, SqL.of h2⟩, i.2, _, .int y, rfl, rfl, h2, ?_, ?_⟩
      · rw [List.length_map, List.length_append, List.map_append]
        simp
      · have ed : ((ys ++ [y]).map V.int).dropLast = ys.map V.int := by
          rw [List.map_append]
          exact List.dropLast_concat
        rw [ed]
        refine ⟨_, x0, i.1, _, rfl, .inl ⟨_, .inr "left", (upd_ne sf.ne).trans h1, rfl, len4, rfl⟩, ?_⟩
        rw [p_left]
        have c1 : upd (upd H1 i.2 (.lst (ys.map V.int))) i.1 (.dK (srcKv i.2 y m t)) i.1 = some (.dK (srcKv i.2 y m t)) := upd_same
        have c2 : upd (upd H1 i.2 (.lst (ys.map V.int))) i.1 (.dK (srcKv i.2 y m t)) i.2 = some (.lst (ys.map V.int)) := (upd_ne (Ne.symm sf.ne)).trans upd_same
        have g := src_go sf s1.ok (H' := upd (upd H1 i.2 (.lst (ys.map V.int))) i.1 (.dK (srcKv i.2 y m t))) (fun b n1 n2 => (upd_ne n1).trans (upd_ne n2)) ⟨y, m, t, ys, c1, c2⟩
        exact ⟨ys.length, by rw [← hk, List.length_append]; exact Nat.lt_succ_self _, e1.trans g, s1.mono g, y, m, t, ys, c1, c2, rfl⟩
    · exact done
  · exact done
end
/-- a def that draws keeps its promise -/
abbrev KpI (K : PySem.W.Frag) (t : TS) (n m : Nat) (C : CtS) : Prop := ∀ i F ds W, SrcF i F → ds.length = n → C i ds W → XS F K t (ds.map some ++ List.replicate (m - n) none) (fun _ => W .none) W
section
variable {K : PySem.W.Frag}
theorem mod_in {a m : Int} (h : 0 < m) : 0 ≤ a.fmod m ∧ a.fmod m < m := by
  rw [Int.fmod_eq_emod_of_nonneg _ (by omega)]
  exact ⟨Int.emod_nonneg _ (by omega), Int.emod_lt_of_pos _ h⟩
theorem r__law_pick : KpI K (t__law_pick K) 2 6 c__law_pick := fun i F ds W sf hl c => by
  obtain ⟨m, rfl, hm, w⟩ := c
  unfold t__law_pick
  and_intros
  refine iteD (fun q => ?_) (fun q => ?_)
  · and_intros
    exact w 0 (Int.le_refl _) hm
  refine xs_next ?_
  refine xs_seq (xs_asg (ev_cells sf rfl ?_))
  refine xs_seq (xs_drain sf ?_)
  refine xs_seq (xs_asg (ev_srcI sf .left rfl fun l => ?_))
  and_intros
  refine iteD (fun q2 => ?_) (fun q2 => ?_)
  · refine xs_seq (xs_put sf .left rfl ?_)
    and_intros
    refine ⟨by omega, ?_⟩
    and_intros
    refine s_int1 ?_
    and_intros
    refine ⟨by omega, ?_⟩
    have := mod_in (a := l) hm
    exact w _ this.1 this.2
  refine xs_next ?_
  refine xs_seq (xs_put sf .turn rfl ?_)
  refine s_add (ev_srcI sf .turn rfl fun t => ?_)
  and_intros
  refine ev_srcI sf .turn rfl fun t => ?_
  and_intros
  refine s_int1 ?_
  refine ea_cons ?_
  refine s_add (ev_srcI sf .mixed rfl fun x => ?_)
  and_intros
  refine ⟨cm_small' (by decide), ?_⟩
  and_intros
  refine ⟨by decide, ?_⟩
  have b1 := mod_in (a := x + t * 104729) (m := 998244353) (by decide)
  generalize (x + t * 104729).fmod 998244353 = y at *
  and_intros
  refine s_int1 ?_
  and_intros
  refine ⟨cm_small (by omega), ?_⟩
  and_intros
  refine ⟨cm_small' (by decide), ?_⟩
  and_intros
  refine ⟨by decide, ?_⟩
  generalize (y * y + t * 17).fmod 2147483647 = z at *
  and_intros
  refine s_int1 ?_
  and_intros
  refine ⟨by decide, ?_⟩
  and_intros
  refine ⟨by omega, ?_⟩
  have := mod_in (a := z.fdiv 16) hm
  exact w _ this.1 this.2
end
end Bm
-- BmR12
set_option maxRecDepth 100000
set_option maxHeartbeats 2000000
/-! BmR12: any order. -/
namespace Bm
open PySem PySem.Spec PyProof.Rows L2 Bt
local macro_rules | `(tactic| and_intros) => `(tactic| repeat (with_reducible first
  | refine xs_seq ?_ | refine xs_ret ?_ | refine xs_asg ?_ | refine xs_par ?_ | refine xs_par3 ?_ | refine xs_if ?_ | refine xs_asgT rfl ?_
  | (refine ev_var (d := ?_) ?_ ?_; rotate_left; (with_unfolding_all exact rfl))
  | refine ev_int ?_ | refine ev_bl ?_ | refine ev_str ?_ | refine ev_non ?_
  | refine ev_ixT ?_ | refine ev_ixL ?_ | refine ea_nil ?_ | refine ea_cons ?_ | refine s_tup ?_ | refine s_dis ?_ | refine ev_call ?_
  | refine ⟨_, _, _, rfl, rfl, (by with_unfolding_all exact rfl), ?_⟩
  | refine s_add ?_ | refine s_sub ?_ | refine s_mul ?_ | refine s_fdv ?_ | refine s_mod ?_ | refine s_lt ?_ | refine s_le ?_ | refine s_gt ?_ | refine s_ge ?_ | refine s_neg ?_
  | refine ⟨_, _, rfl, rfl, ?_⟩ | refine ⟨_, _, rfl, ?_⟩ | refine ⟨_, rfl, ?_⟩
  | refine ev_if ?_ | refine et_T ?_ | refine et_B ?_ | refine et_not ?_ | refine et_and ?_ | refine et_or ?_
  | refine ev_gcd2 ?_ | refine ev_eqI ?_ | refine ev_neI ?_
  | refine ⟨(by with_unfolding_all exact rfl), ?_⟩ | refine ⟨Nat.le_of_ble_eq_true (by with_unfolding_all exact rfl), ?_⟩
  | refine ⟨_, rfl, (by with_unfolding_all exact rfl), ?_⟩))
section
variable {F : Fr} {K : PySem.W.Frag} {S : SS} {W : PyData → Prop} {j : Nat}
theorem DDs.erase {H : Hp} : ∀ {ds : List PyData} {vs : List V} (n : Nat), DDs K H vs ds → DDs K H (vs.eraseIdx n) (ds.eraseIdx n)
  | _, _, _, .nil => .nil
  | _, _, 0, .cons _ r => r
  | _, _, n + 1, .cons a r => .cons a (DDs.erase n r)
/-- len of a list that stands aside -/
theorem ev_lenH {D : Addr} {rest : List V} (ok : ∀ H, F.ok H → H D = some (.lst rest)) (hs : S[j]? = some (some (dO D))) (w : W (.int (rest.length : Nat))) : EV F K (tCB (rLen K) (tCons (tVar j) (tNil))) S W := fun σ H sl Q q => by
  obtain ⟨v, e, a⟩ := sl.get hs
  have := obj_inv a
  subst this
  exact ⟨_, e, D, rest, rfl, .inl (SqL.of (ok H sl.ok)), q _ _ H sl.rf (.int _) w⟩
theorem perm_era {d : PyData} : ∀ {rs : List PyData} {k : Nat}, rs[k]? = some d → (d :: rs.eraseIdx k).Perm rs
  | [], k, h => by simp at h
  | a :: rs, 0, h => by
    have e : a = d := by simpa using h
    subst e
    exact List.Perm.refl _
  | a :: rs, k + 1, h => by
    have ih := perm_era (rs := rs) (k := k) (by simpa using h)
    exact (List.Perm.swap a d _).trans (ih.cons a)
theorem perm_out {ds rs : List PyData} {k : Nat} {d : PyData} (h : rs[k]? = some d) : (ds ++ [d] ++ rs.eraseIdx k).Perm (ds ++ rs) := by
  rw [List.append_assoc]
  exact List.Perm.append_left ds (perm_era h)
end
section
variable {K : PySem.W.Frag}
theorem r__law_any_order : KpI K (t__law_any_order K) 2 4 c__law_any_order := fun i F ds W sf hl c => by
  obtain ⟨xs, rfl, hn, w⟩ := c
  unfold t__law_any_order
  intro σ H sl D hnx hrt
  obtain ⟨v0, x0, a0⟩ := sl.get (i := 0) rfl
  obtain ⟨v1, x1, a1⟩ := sl.get (i := 1) rfl
  have y0 := obj_inv a0
  obtain ⟨q, vs, y1, hq, hd⟩ := lst_inv a1
  subst y0 y1
  have lv : vs.length ≤ 3 := by
    rw [hd.len]
    omega
  -- the spare list
  refine ⟨_, x1, q, vs, rfl, .inl (SqL.of (F.sub _ _ hq)), fun D0 hD0 => ?_⟩
  have m0 := Fr.out sl.ok hD0
  have n0 : D0 ≠ i.1 := fun e => by rw [e, sf.ma] at m0; cases m0
  have n2 : D0 ≠ i.2 := fun e => by rw [e, sf.mc] at m0; cases m0
  obtain ⟨l4, hl4⟩ : ∃ l4, σ = l4 := ⟨σ, rfl⟩
  have lenσ : σ.length = 4 := by
    have : ∀ {S : SS} {σ : L2.St} {H : Hp}, Sl K H σ S → σ.length = S.length := fun h => by
      induction h with
      | nil => rfl
      | skip _ ih => exact congrArg (· + 1) ih
      | cons _ _ ih => exact congrArg (· + 1) ih
    exact this sl.sl
  have e2 : (σ.set 2 (some (.ref D0)))[2]? = some (some (.ref D0)) := by
    rw [List.getElem?_set_self (by omega)]
  refine ⟨_, e2, D0, vs, rfl, .inl (SqL.of upd_same), (vs.length : Nat), rfl, by rw [hd.len]; omega, by rw [hd.len]; omega, fun D1 hD1 => ?_⟩
  have d10 : D1 ≠ D0 := fun e => by rw [e, upd_same] at hD1; cases hD1
  have hD1' : H D1 = none := by rwa [upd_ne d10] at hD1
  have m1 := Fr.out sl.ok hD1'
  -- what holds behind k turns
  refine lc_range (lo := 0) (n := vs.length) (fun k H' => ∃ acc rest ds rs, F.ok H' ∧ H' D0 = some (.lst rest) ∧ H' D1 = some (.lst acc) ∧ Ex (F.mk' H) (((F.hide D0 rest).hide D1 acc).mk' H') ∧ DDs K (F.mk' H) acc ds ∧ DDs K (F.mk' H) rest rs ∧ (ds ++ rs).Perm xs ∧ acc.length = k ∧ rest.length + k = vs.length) ?_ ?_ ?_
  · refine ⟨[], vs, [], xs, Fr.put (Fr.put sl.ok m0) m1, (upd_ne (Ne.symm d10)).trans upd_same, upd_same, fun b o h => ?_, .nil, hd, List.Perm.refl _, rfl, rfl⟩
    have hb' := F.sub _ _ h
    have b0 : b ≠ D0 := fun e => by rw [e, hD0] at hb'; cases hb'
    have b1 : b ≠ D1 := fun e => by rw [e, hD1'] at hb'; cases hb'
    have mb : F.ms b = false := by
      cases e : F.ms b with
      | false => rfl
      | true =>
        unfold Fr.mk' at h
        rw [e] at h
        cases h
    have : ((F.hide D0 vs).hide D1 []).ms b = false := by
      show ((F.ms b || decide (b = D0)) || decide (b = D1)) = false
      rw [mb, decide_eq_false b0, decide_eq_false b1]
      rfl
    rw [Fr.at this, upd_ne b1, upd_ne b0]
    exact hb'
  · rintro k H' hk ⟨acc, rest, ds, rs, ok, h0, h1, ex, da, dr, pm, la, lr⟩
    refine ⟨wipe1, ?_⟩
    show tBM K "list" rPopAt (tVar 2) (tCons (tCall (PurI SrcF K 2 c__law_pick) [] E0 (tCons (tVar 0) (tCons (tCB (rLen K) (tCons (tVar 2) (tNil))) (tNil)))) (tNil)) _ _ _
    have lr' : 0 < rest.length := by omega
    -- the turn's slots
    have w2 : ((wipe (σ.set 2 (some (.ref D0))) [3]).set 3 (some (.int ((0 : Int) + (k : Int)))))[2]? = some (some (.ref D0)) := by
      show (((σ.set 2 (some (.ref D0))).set 3 none).set 3 _)[2]? = _
      rw [List.getElem?_set_ne (by decide), List.getElem?_set_ne (by decide)]
      exact e2
    have G_ok : ((F.hide D0 rest).hide D1 acc).ok H' := ⟨⟨ok, h0⟩, h1⟩
    have sG : SrcF i ((F.hide D0 rest).hide D1 acc) := sf.hid (.hide D1 acc (by show (F.ms D1 || decide (D1 = D0)) = false; rw [m1, decide_eq_false d10]; rfl) (.hide D0 rest m0 .refl))
    have slG : SF ((F.hide D0 rest).hide D1 acc) K H' ((wipe (σ.set 2 (some (.ref D0))) [3]).set 3 (some (.int ((0 : Int) + (k : Int))))) [some (dO i.1), none, some (dO D0), some (.int ((0 : Int) + (k : Int)))] := by
      refine ⟨G_ok, ?_⟩
      match σ, lenσ, x0 with
      | [s0, s1, s2, s3], _, x0 =>
        cases (Option.some.inj x0)
        exact .cons (.obj _) (.skip (.cons (.obj _) (.cons (.int _) .nil)))
    have args : EA ((F.hide D0 rest).hide D1 acc) K (tCons (tCall (PurI SrcF K 2 c__law_pick) [] E0 (tCons (tVar 0) (tCons (tCB (rLen K) (tCons (tVar 2) (tNil))) (tNil)))) (tNil)) [some (dO i.1), none, some (dO D0), some (.int ((0 : Int) + (k : Int)))] fun es => ∃ n : Int, es = [.int n] ∧ 0 ≤ n ∧ n < (rest.length : Nat) := by
      refine ea_cons (ev_callI i sG (ea_cons (ev_var rfl (ea_cons (ev_lenH (fun H h => h.1.2) rfl (ea_nil ⟨rfl, _, rfl, by omega, fun n h1 h2 => ?_⟩))))))
      exact ea_nil ⟨n, rfl, h1, h2⟩
    refine ⟨_, w2, .inl ⟨rfl, _, SqL.of h0⟩, args _ H' slG _ fun us es H2 g2 au ⟨n, ee, n1, n2⟩ => ?_⟩
    subst ee
    obtain ⟨u, rfl, bu⟩ := one_inv au
    cases int_inv bu
    have hn' : n.toNat < rest.length := by omega
    have k0 : H2 D0 = some (.lst rest) := g2.1.1.2
    have k1 : H2 D1 = some (.lst acc) := g2.1.2
    obtain ⟨d, hd1, hd2⟩ : ∃ d, rs[n.toNat]? = some d ∧ DD K (F.mk' H) rest[n.toNat] d := by
      have lrs := dr.len
      obtain ⟨v, e1, e2⟩ := dr.get (List.getElem?_eq_getElem (show n.toNat < rs.length by omega))
      rw [List.getElem?_eq_getElem hn'] at e1
      cases (Option.some.inj e1)
      exact ⟨_, List.getElem?_eq_getElem (by omega), e2⟩
    refine ⟨D0, rest, n, n.toNat, rest[n.toNat], rfl, rfl, k0, by omega, by omega, ?_, List.getElem?_eq_getElem hn', ?_⟩
    · unfold seqIndex?
      simp
      omega
    · refine ⟨acc, (upd_ne d10).trans k1, by rw [la]; exact Nat.lt_of_lt_of_le (show k < 4 by omega) (by decide), acc ++ [rest[n.toNat]], rest.eraseIdx n.toNat, ds ++ [d], rs.eraseIdx n.toNat, ?_, ?_, upd_same, ?_, da.append (.cons hd2 .nil), dr.erase _, (perm_out hd1).trans pm, by rw [List.length_append, la]; rfl, ?_⟩
      · exact Fr.put (Fr.put g2.1.1.1 m0) m1
      · rw [upd_ne (Ne.symm d10)]
        exact upd_same
      · refine (ex.trans g2.2).trans fun b o h => ?_
        have hb : ((F.hide D0 rest).hide D1 acc).ms b = false := by
          cases e : ((F.hide D0 rest).hide D1 acc).ms b with
          | false => rfl
          | true =>
            unfold Fr.mk' at h
            rw [e] at h
            cases h
        rw [Fr.at hb] at h
        have hb2 : ((F.hide D0 (rest.eraseIdx n.toNat)).hide D1 (acc ++ [rest[n.toNat]])).ms b = false := hb
        have b1 : b ≠ D1 := fun e => by rw [e, k1] at h; subst e; rw [show ((F.hide D0 rest).hide b acc).ms b = true from by show ((F.ms b || decide (b = D0)) || decide (b = b)) = true; simp] at hb; cases hb
        have b0 : b ≠ D0 := fun e => by subst e; rw [show ((F.hide b rest).hide D1 acc).ms b = true from by show ((F.ms b || decide (b = b)) || decide (b = D1)) = true; simp] at hb; cases hb
        rw [Fr.at hb2, upd_ne b1, upd_ne b0]
        exact h
      · rw [List.length_eraseIdx_of_lt hn']
        omega
  · rintro H' ⟨acc, rest, ds, rs, ok, h0, h1, ex, da, dr, pm, la, lr⟩
    have r0 : rest = [] := List.length_eq_zero_iff.mp (by omega)
    subst r0
    cases dr
    rw [List.append_nil] at pm
    have ex2 : Ex (F.mk' H) (F.mk' H') := ex.trans ((Fr.hide_sub (F := F.hide D0 [])).trans (Fr.hide_sub (F := F)))
    refine hrt _ (.list ds) H' ⟨ok, ex2⟩ (.lst ?_ (da.mono ex2)) (w ds pm)
    rw [Fr.at m1]
    exact h1
end
end Bm
-- BmR13
set_option maxRecDepth 100000
set_option maxHeartbeats 2000000
/-! BmR13: what is drawn. -/
namespace Bm
open PySem PySem.Spec PyProof.Rows L2 Bt
local macro_rules | `(tactic| and_intros) => `(tactic| repeat (with_reducible first
  | refine xs_seq ?_ | refine xs_ret ?_ | refine xs_asg ?_ | refine xs_par ?_ | refine xs_par3 ?_ | refine xs_if ?_ | refine xs_asgT rfl ?_
  | (refine ev_var (d := ?_) ?_ ?_; rotate_left; (with_unfolding_all exact rfl))
  | refine ev_int ?_ | refine ev_bl ?_ | refine ev_str ?_ | refine ev_non ?_
  | refine ev_ixT ?_ | refine ev_ixL ?_ | refine ea_nil ?_ | refine ea_cons ?_ | refine s_tup ?_ | refine s_dis ?_ | refine ev_call ?_
  | refine ⟨_, _, _, rfl, rfl, (by with_unfolding_all exact rfl), ?_⟩
  | refine s_add ?_ | refine s_sub ?_ | refine s_mul ?_ | refine s_fdv ?_ | refine s_mod ?_ | refine s_lt ?_ | refine s_le ?_ | refine s_gt ?_ | refine s_ge ?_ | refine s_neg ?_
  | refine ⟨_, _, rfl, rfl, ?_⟩ | refine ⟨_, _, rfl, ?_⟩ | refine ⟨_, rfl, ?_⟩
  | refine ev_if ?_ | refine et_T ?_ | refine et_B ?_ | refine et_not ?_ | refine et_and ?_ | refine et_or ?_
  | refine ev_gcd2 ?_ | refine ev_eqI ?_ | refine ev_neI ?_
  | refine ⟨(by with_unfolding_all exact rfl), ?_⟩ | refine ⟨Nat.le_of_ble_eq_true (by with_unfolding_all exact rfl), ?_⟩
  | refine ⟨_, rfl, (by with_unfolding_all exact rfl), ?_⟩))
theorem strv_conj {p : Int} (h : PP p) {P M : Mt} (hP : Mt.det P ≠ 0) (hM : Mt.det M ≠ 0) : strv p (Mt.mul P (Mt.mul M (Mt.adj P))) = strv p M := by
  have hq := h.pi.toIsPr
  have t1 : Mt.tr (Mt.mul P (Mt.mul M (Mt.adj P))) = Mt.det P * Mt.tr M := by
    simp only [Mt.tr, Mt.mul, Mt.adj, Mt.det]
    grind
  have d1 : Mt.det (Mt.mul P (Mt.mul M (Mt.adj P))) = Mt.det P * Mt.det P * Mt.det M := by
    rw [Mt.det_mul, Mt.det_mul, Mt.det_adj]
    grind
  unfold strv
  rw [t1, d1]
  by_cases t : Mt.tr M = 0
  · rw [if_pos t, if_pos (by rw [t, Rat.mul_zero])]
  · rw [if_neg t, if_neg (fun e => (Rat.mul_eq_zero.mp e).elim hP t), vl_mul hq hP t, vl_mul hq (fun e => (Rat.mul_eq_zero.mp e).elim hP hP) hM, vl_mul hq hP hP]
    congr 1
    omega
theorem conj_ne {P M : Mt} (hP : Mt.det P ≠ 0) (hM : Mt.det M ≠ 0) : Mt.det (Mt.mul P (Mt.mul M (Mt.adj P))) ≠ 0 := mul_det hP (mul_det hM (adj_ne hP))
theorem sim_refl (M : Mi) : Sim M M.m := ⟨1, by decide, Mt.sm_one _⟩
section
variable {F : Fr} {K : PySem.W.Frag} {S : SS} {W : PyData → Prop} {i : Addr × Addr} {tl : TE}
/-- after(P, after(M, back(P))) -/
theorem ev_conj {p : Int} {jP jM : Nat} {P M : Mi} {m n : Nat} (h1 : S[jP]? = some (some (dM P))) (h2 : S[jM]? = some (some (dM M))) (hP : Mt.det P.m ≠ 0) (hM : Mt.det M.m ≠ 0) (sP : P.sz m) (sM : M.sz n) (hmn : m + n ≤ 50000000)
    (w : ∀ L : Mi, Sim L (Mt.mul P.m (Mt.mul M.m (Mt.adj P.m))) → L.sz (m + (n + m + 1) + 1) → W (dM L)) :
    EV F K (tCall (Pur K 2 c_after) [] E0 (tCons (tVar jP) (tCons (tCall (Pur K 2 c_after) [] E0 (tCons (tVar jM) (tCons (tCall (Pur K 1 c_back) [] E0 (tCons (tVar jP) (tNil))) (tNil)))) (tNil)))) S W := by
  refine ev_call (ea_cons (ev_var h1 (ea_cons (ev_call (ea_cons (ev_var h2 (ea_cons (ev_call (ea_cons (ev_var h1 (ea_nil ⟨rfl, P, rfl, hP, fun B k hk e1 e2 e3 e4 => ?_⟩)))))))))))
  have zB := back_sim hk e1 e2 e3 e4
  have lB := back_len sP hk e1 e2 e3 e4
  have aP := adj_ne hP
  refine ea_nil ⟨rfl, M, B, rfl, sM.mono (by omega), lB.mono (by omega), hM, zB.det aP, fun C k hk e1 e2 e3 e4 => ?_⟩
  have zC := (sim_refl M).mul zB (after_sim hk e1 e2 e3 e4)
  have lC := after_len sM lB hk e1 e2 e3 e4
  have dC := mul_det hM aP
  refine ea_nil ⟨rfl, P, C, rfl, sP.mono (by omega), lC.mono (by omega), hP, zC.det dC, fun L k hk e1 e2 e3 e4 => ?_⟩
  exact w L ((sim_refl P).mul zC (after_sim hk e1 e2 e3 e4)) (after_len sP lC hk e1 e2 e3 e4)
theorem ev_conj' {p : Int} {jP jM : Nat} {P M : Mi} {m n : Nat} (h1 : S[jP]? = some (some (dM P))) (h2 : S[jM]? = some (some (dM M))) (hP : Mt.det P.m ≠ 0) (hM : Mt.det M.m ≠ 0) (sP : P.sz m) (sM : M.sz n) (hmn : m + n ≤ 50000000)
    (w : ∀ L : Mi, Sim L (Mt.mul P.m (Mt.mul M.m (Mt.adj P.m))) → L.sz (m + (n + m + 1) + 1) → W (dM L)) :
    EV F K (tCall (Pur K 2 c__law_after) [] E0 (tCons (tVar jP) (tCons (tCall (Pur K 2 c__law_after) [] E0 (tCons (tVar jM) (tCons (tCall (Pur K 1 c__law_back) [] E0 (tCons (tVar jP) (tNil))) (tNil)))) (tNil)))) S W := ev_conj (p := p) h1 h2 hP hM sP sM hmn w
theorem ev_pick (sf : SrcF i F) {n : Int} (hn : 0 < n) {j : Nat} (hs : S[j]? = some (some (dO i.1))) (w : ∀ k, 0 ≤ k → k < n → W (.int k)) : EV F K (tCall (PurI SrcF K 2 c__law_pick) [] E0 (tCons (tVar j) (tCons (tC (.int n)) (tNil)))) S W :=
  ev_callI i sf (ea_cons (ev_var hs (ea_cons (ev_int (ea_nil ⟨rfl, n, rfl, hn, w⟩)))))
theorem at_of {zs : List PyData} {k : Int} (k0 : 0 ≤ k) (k1 : k < (zs.length : Nat)) : ∃ z, z ∈ zs ∧ L2.atI zs k = some z := by
  have hk : k.toNat < zs.length := by omega
  refine ⟨zs[k.toNat], List.getElem_mem hk, ?_⟩
  have := atI_nat (xs := zs) (j := k.toNat) (v := zs[k.toNat]) (List.getElem?_eq_getElem hk)
  rwa [Int.toNat_of_nonneg k0] at this
/-- one of a written list -/
theorem ev_oneOf (sf : SrcF i F) {n : Int} (zs : List PyData) (hn : ((zs.length : Nat) : Int) = n) (h0' : zs ≠ []) {j : Nat} (hs : S[j]? = some (some (dO i.1))) (hl : EV F K tl S fun d => d = .list zs) (w : ∀ z, z ∈ zs → W z) :
    EV F K (tOp (rIxL K) tl (tCall (PurI SrcF K 2 c__law_pick) [] E0 (tCons (tVar j) (tCons (tC (.int n)) (tNil))))) S W :=
  have h0 : 0 < n := by
    have := List.length_pos_iff.mpr h0'
    omega
  ev_ixL (hl.imp fun d ed => ev_pick sf h0 hs fun k k0 k1 => by
    subst ed
    obtain ⟨z, hz, e⟩ := at_of (zs := zs) k0 (by omega)
    exact ⟨zs, k, z, rfl, rfl, e, w z hz⟩)
end
section
variable {K : PySem.W.Frag}
theorem r__law_draw_prime : KpI K (t__law_draw_prime K) 1 1 c__law_draw_prime := fun i F ds W sf hl c => by
  obtain ⟨rfl, w⟩ := c
  unfold t__law_draw_prime
  refine xs_ret (ev_oneOf sf [.int 2, .int 3, .int 2, .int 5, .int 7] rfl (List.cons_ne_nil _ _) rfl (by and_intros; rfl) fun z hz => ?_)
  simp only [List.mem_cons, List.not_mem_nil, or_false] at hz
  rcases hz with rfl | rfl | rfl | rfl | rfl
  · exact w 2 (.inl rfl)
  · exact w 3 (.inr (.inl rfl))
  · exact w 2 (.inl rfl)
  · exact w 5 (.inr (.inr (.inl rfl)))
  · exact w 7 (.inr (.inr (.inr rfl)))
theorem r__law_draw_length : KpI K (t__law_draw_length K) 2 2 c__law_draw_length := fun i F ds W sf hl c => by
  obtain ⟨p, h, rfl, w⟩ := c
  unfold t__law_draw_length
  have fin : ∀ m : Int, 0 < m → m ≤ 3 → ∀ k : Int, 0 ≤ k → k < m → W (.int (1 + k)) := fun m m0 m3 k k0 k1 => by
    have := w (1 + k).toNat (by omega) (by omega)
    rwa [Int.toNat_of_nonneg (by omega)] at this
  refine xs_ret (s_add (ev_int (ev_callI i sf ?_)))
  and_intros
  refine iteD (fun q => ?_) (fun q => ?_)
  · and_intros
    refine ⟨3, rfl, by decide, fun k k0 k1 => ?_⟩
    and_intros
    exact fin 3 (by decide) (by decide) k k0 k1
  · and_intros
    refine ⟨2, rfl, by decide, fun k k0 k1 => ?_⟩
    and_intros
    exact fin 2 (by decide) (by decide) k k0 k1
theorem sz_abs {n : Nat} {a b : Int} (hb : 0 ≤ b) (h : sz n b) (q : -b ≤ a ∧ a ≤ b) : sz n a := sz_le h (by omega)
theorem sz4 : sz 3 4 := by unfold sz; decide
theorem r__law_draw_point : KpI K (t__law_draw_point K) 2 4 c__law_draw_point := fun i F ds W sf hl c => by
  obtain ⟨p, h, rfl, w⟩ := c
  have p2 := pp_pos h
  have p7 : p ≤ 7 := by rcases h with rfl | rfl | rfl | rfl <;> decide
  unfold t__law_draw_point
  refine xs_seq (xs_par (ea_cons (s_sub (ev_pick sf (by decide) rfl fun n n0 n1 => ?_))))
  refine ev_int ⟨_, _, rfl, rfl, ea_cons ?_⟩
  refine ev_oneOf sf [.int 1, .int 1, .int p, .int 0] rfl (List.cons_ne_nil _ _) rfl (by and_intros; rfl) fun d hd => ?_
  simp only [List.mem_cons, List.not_mem_nil, or_false] at hd
  obtain ⟨d, rfl, dd⟩ : ∃ e : Int, d = .int e ∧ (e = 0 ∨ 0 < e ∧ e ≤ 7) := by
    rcases hd with rfl | rfl | rfl | rfl
    · exact ⟨1, rfl, .inr (by decide)⟩
    · exact ⟨1, rfl, .inr (by decide)⟩
    · exact ⟨p, rfl, .inr ⟨by omega, p7⟩⟩
    · exact ⟨0, rfl, .inl rfl⟩
  and_intros
  refine iteD (fun q => ?_) (fun q => ?_)
  · and_intros
    exact w ⟨1, 0⟩ ⟨rfl, .inr ⟨rfl, rfl⟩⟩ ⟨sz_mono sz_one (by decide), by unfold sz; decide⟩
  · refine xs_next (xs_ret (ev_call (ea_cons (s_mul (ev_var rfl ?_)))))
    refine ev_oneOf sf [.int 1, .int 1, .int p] rfl (List.cons_ne_nil _ _) rfl (by and_intros; rfl) fun e he => ?_
    simp only [List.mem_cons, List.not_mem_nil, or_false] at he
    obtain ⟨e, rfl, ee⟩ : ∃ f : Int, e = .int f ∧ (0 < f ∧ f ≤ 7) := by
      rcases he with rfl | rfl | rfl
      · exact ⟨1, rfl, by decide⟩
      · exact ⟨1, rfl, by decide⟩
      · exact ⟨p, rfl, by omega, p7⟩
    and_intros
    refine ⟨cm_small (by omega), ?_⟩
    and_intros
    refine ⟨(n - 3) * e, d, rfl, q, fun a b k k0 e1 e2 bp g => ?_⟩
    have se : sz 5 ((n - 3) * e) := by
      refine sz_abs (b := 21) (by decide) (by unfold sz; decide) ?_
      have h1 : (n - 3) * e ≤ 3 * 7 := by
        have a1 : (n - 3) * e ≤ 3 * e := Int.mul_le_mul_of_nonneg_right (by omega) (by omega)
        omega
      have h2 : (-3) * 7 ≤ (n - 3) * e := by
        have a1 : (-3) * e ≤ (n - 3) * e := Int.mul_le_mul_of_nonneg_right (by omega) (by omega)
        omega
      omega
    have sd : sz 5 d := sz_abs (b := 7) (by decide) (by unfold sz; decide) (by omega)
    exact w ⟨a, b⟩ ⟨g, .inl bp⟩ ⟨mul_sz k0 e1 se, mul_sz k0 e2 sd⟩
theorem pt_inj {a b : Pt} (e : dP a = dP b) : a = b := by
  injection e with e
  simp at e
  cases a
  cases b
  simp at e
  simp [e]
/-- two points in form, on one ray: the same -/
theorem crs_eq {a b : Pt} (ha : a.ok) (hb : b.ok) (e : crs a b = 0) : a = b := by
  have e1 : a.x * b.y = b.x * a.y := by
    unfold crs at e
    omega
  have d : ∀ {a b : Pt}, a.ok → b.ok → a.x * b.y = b.x * a.y → a.y ∣ b.y := fun {a b} ha hb e1 => by
    have : a.y ∣ a.x * b.y := by rw [e1]; exact Int.dvd_mul_left _ _
    have c : Nat.Coprime a.y.natAbs a.x.natAbs := by
      have := ha.cop
      unfold Int.gcd at this
      rw [Nat.coprime_iff_gcd_eq_one, Nat.gcd_comm]
      exact this
    have h2 : a.y.natAbs ∣ a.x.natAbs * b.y.natAbs := by
      rw [← Int.natAbs_mul]
      exact Int.natAbs_dvd_natAbs.mpr this
    exact Int.natAbs_dvd_natAbs.mp (c.dvd_of_dvd_mul_left h2)
  have d1 := d ha hb e1
  have d2 := d hb ha e1.symm
  have ya : 0 ≤ a.y := by rcases ha.nn with q | q <;> omega
  have yb : 0 ≤ b.y := by rcases hb.nn with q | q <;> omega
  have ye : a.y = b.y := by
    have h1 := Int.natAbs_dvd_natAbs.mpr d1
    have h2 := Int.natAbs_dvd_natAbs.mpr d2
    have := Nat.dvd_antisymm h1 h2
    omega
  have xe : a.x = b.x := by
    rcases ha.nn with q | q
    · rw [← ye] at e1
      exact Int.eq_of_mul_eq_mul_right (by omega) e1
    · rcases hb.nn with r | r
      · omega
      · omega
  cases a
  cases b
  simp at xe ye
  simp [xe, ye]
theorem eqP {a b : Pt} : PyData.eqv (dP a) (dP b) = true ↔ a = b := (eqv_iff rfl rfl).trans ⟨pt_inj, fun e => by rw [e]⟩
theorem ok_inf : (Pt.mk 1 0).ok := ⟨rfl, .inr ⟨rfl, rfl⟩⟩
theorem ok_one (n : Int) : (Pt.mk n 1).ok := ⟨Int.gcd_one .., .inl (by show (0 : Int) < 1; decide)⟩
theorem r__law_draw_ends : KpI K (t__law_draw_ends K) 2 4 c__law_draw_ends := fun i F ds W sf hl c => by
  obtain ⟨p, h, rfl, w⟩ := c
  unfold t__law_draw_ends
  refine xs_seq (xs_par (ea_cons (ev_callI i sf (ea_cons (ev_var rfl (ea_cons (ev_var rfl (ea_nil ⟨rfl, p, h, rfl, fun a oa za => ?_⟩))))))))
  refine ea_cons (ev_callI i sf (ea_cons (ev_var rfl (ea_cons (ev_var rfl (ea_nil ⟨rfl, p, h, rfl, fun b ob zb => ?_⟩))))))
  refine ea_nil ⟨_, _, rfl, ?_⟩
  refine xs_ret (ev_if (et_T (ev_neD ?_)))
  and_intros
  refine iteB (fun q => ?_) (fun q => ?_)
  · and_intros
    refine w a b oa ob za zb fun e => ?_
    rw [eqP.mpr (crs_eq oa ob e)] at q
    cases q
  · refine s_dis ?_
    refine ea_cons ?_
    and_intros
    refine ev_pick sf (by decide) rfl fun k k0 k1 => ?_
    and_intros
    refine w ⟨1, 0⟩ ⟨k - 2, 1⟩ ok_inf (ok_one _) ⟨sz_mono sz_one (by decide), by unfold sz; decide⟩ ⟨sz_abs (b := 4) (by decide) (sz_mono sz4 (by decide)) (by show -4 ≤ k - 2 ∧ k - 2 ≤ 4; omega), sz_mono sz_one (by decide)⟩ ?_
    show (1 : Int) * 1 - (k - 2) * 0 ≠ 0
    omega
end
end Bm
-- BmR14
set_option maxRecDepth 100000
set_option maxHeartbeats 2000000
/-! BmR14: moves drawn. -/
namespace Bm
open PySem PySem.Spec PyProof.Rows L2 Bt
local macro_rules | `(tactic| and_intros) => `(tactic| repeat (with_reducible first
  | refine xs_seq ?_ | refine xs_ret ?_ | refine xs_asg ?_ | refine xs_par ?_ | refine xs_par3 ?_ | refine xs_if ?_ | refine xs_asgT rfl ?_
  | (refine ev_var (d := ?_) ?_ ?_; rotate_left; (with_unfolding_all exact rfl))
  | refine ev_int ?_ | refine ev_bl ?_ | refine ev_str ?_ | refine ev_non ?_
  | refine ev_ixT ?_ | refine ev_ixL ?_ | refine ea_nil ?_ | refine ea_cons ?_ | refine s_tup ?_ | refine s_dis ?_ | refine ev_call ?_
  | refine ⟨_, _, _, rfl, rfl, (by with_unfolding_all exact rfl), ?_⟩
  | refine s_add ?_ | refine s_sub ?_ | refine s_mul ?_ | refine s_fdv ?_ | refine s_mod ?_ | refine s_lt ?_ | refine s_le ?_ | refine s_gt ?_ | refine s_ge ?_ | refine s_neg ?_
  | refine ⟨_, _, rfl, rfl, ?_⟩ | refine ⟨_, _, rfl, ?_⟩ | refine ⟨_, rfl, ?_⟩
  | refine ev_if ?_ | refine et_T ?_ | refine et_B ?_ | refine et_not ?_ | refine et_and ?_ | refine et_or ?_
  | refine ev_gcd2 ?_ | refine ev_eqI ?_ | refine ev_neI ?_
  | refine ⟨(by with_unfolding_all exact rfl), ?_⟩ | refine ⟨Nat.le_of_ble_eq_true (by with_unfolding_all exact rfl), ?_⟩
  | refine ⟨_, rfl, (by with_unfolding_all exact rfl), ?_⟩))
section
variable {F : Fr} {K : PySem.W.Frag} {S : SS} {W : PyData → Prop} {i : Addr × Addr}
theorem nz_det {M : Mi} (hd : Mt.det M.m ≠ 0) : M.a ≠ 0 ∨ M.b ≠ 0 ∨ M.c ≠ 0 ∨ M.d ≠ 0 := Decidable.byContradiction fun q => by
  simp only [not_or, Decidable.not_not] at q
  refine hd ?_
  rw [det_int, q.1, q.2.1, Int.zero_mul, Int.zero_mul]
  rfl
/-- _law_move of what has a determinant -/
theorem mv_of {a b c d : Int} {n : Nat} (hd : a * d - b * c ≠ 0) (s : (Mi.mk a b c d).sz n) (w : ∀ L : Mi, Drw n L → W (dM L)) : c__law_move [.int a, .int b, .int c, .int d] W := by
  have d1 : Mt.det (Mi.mk a b c d).m ≠ 0 := by
    rw [det_int]
    exact cast_ne hd
  exact ⟨⟨a, b, c, d⟩, rfl, nz_det d1, fun L k hk e1 e2 e3 e4 => w L ⟨(one_sim hk e1 e2 e3 e4).det d1, one_len s hk e1 e2 e3 e4⟩⟩
/-- the same, up to a factor -/
theorem mv_sim {a b c d : Int} {n : Nat} (hd : a * d - b * c ≠ 0) (s : (Mi.mk a b c d).sz n) (w : ∀ L : Mi, Sim L (Mi.mk a b c d).m → Drw n L → W (dM L)) : c__law_move [.int a, .int b, .int c, .int d] W := by
  have d1 : Mt.det (Mi.mk a b c d).m ≠ 0 := by
    rw [det_int]
    exact cast_ne hd
  exact ⟨⟨a, b, c, d⟩, rfl, nz_det d1, fun L k hk e1 e2 e3 e4 => w L (one_sim hk e1 e2 e3 e4) ⟨(one_sim hk e1 e2 e3 e4).det d1, one_len s hk e1 e2 e3 e4⟩⟩
theorem sz_lit {a : Int} (h : -7 ≤ a ∧ a ≤ 7) : sz 3 a := by unfold sz; omega
end
section
variable {K : PySem.W.Frag}
theorem r__law_draw_move : KpI K (t__law_draw_move K) 2 9 c__law_draw_move := fun i F ds W sf hl c => by
  obtain ⟨p, h, rfl, w⟩ := c
  have p2 := pp_pos h
  have p7 : p ≤ 7 := by rcases h with rfl | rfl | rfl | rfl <;> decide
  have sp := pp_sz h
  unfold t__law_draw_move
  refine xs_seq (xs_par (ea_cons (ev_pick sf (by decide) rfl fun wy y0 y1 => ?_)))
  refine ea_cons (s_sub (ev_pick sf (by decide) rfl fun n n0 n1 => ?_))
  refine ev_int ⟨_, _, rfl, rfl, ea_nil ⟨_, _, rfl, ?_⟩⟩
  have sn : sz 3 (n - 4) := sz_lit (by omega)
  generalize n - 4 = n at *
  -- behind the first move
  have fin : ∀ (L : Mi) (o5 o6 : Option PyData), Drw 7 L → XS F K (tSeq (tIfS (tTest (tOp rEq (tCall (PurI SrcF K 2 c__law_pick) [] E0 (tCons (tVar 0) (tCons (tC (.int 3)) (tNil)))) (tC (.int 0)))) (tSeq (tAsg (tCall (Pur K 4 c__law_move) [] E0 (tCons (tCall (Pur K 2 c__law_raised) [] E0 (tCons (tVar 1) (tCons (tCall (PurI SrcF K 2 c__law_pick) [] E0 (tCons (tVar 0) (tCons (tC (.int 2)) (tNil)))) (tNil)))) (tCons (tOp rSub (tCall (PurI SrcF K 2 c__law_pick) [] E0 (tCons (tVar 0) (tCons (tC (.int 5)) (tNil)))) (tC (.int 2))) (tCons (tC (.int 0)) (tCons (tC (.int 1)) (tNil)))))) (gName 7)) (tAsg (tCall (Pur K 2 c__law_after) [] E0 (tCons (tVar 7) (tCons (tCall (Pur K 2 c__law_after) [] E0 (tCons (tVar 4) (tCons (tCall (Pur K 1 c__law_back) [] E0 (tCons (tVar 7) (tNil))) (tNil)))) (tNil)))) (gName 4))) (tNext)) (tRet (tVar 4)))
      [some (dO i.1), some (.int p), some (.int wy), some (.int n), some (dM L), o5, o6, none, none] (fun _ => W .none) W := fun L o5 o6 dr => by
    refine xs_seq (xs_if (et_T (ev_eqI (ev_pick sf (by decide) rfl fun k k0 k1 => ?_))))
    and_intros
    refine iteD (fun _ => ?_) (fun _ => ?_)
    · refine xs_seq (xs_asg (ev_call (ea_cons (ev_call (ea_cons (ev_var rfl (ea_cons (ev_pick sf (by decide) rfl fun j j0 j1 => ?_))))))))
      refine ea_nil ⟨rfl, p, j.toNat, by rw [Int.toNat_of_nonneg j0], sp, by omega, ?_⟩
      refine ea_cons (s_sub (ev_pick sf (by decide) rfl fun m m0 m1 => ?_))
      and_intros
      have pp : 0 < p ^ j.toNat := Int.pow_pos (by omega)
      have spj : sz 4 (p ^ j.toNat) := sz_mono (sz_pow sp j.toNat) (by omega)
      refine mv_of (n := 4) (by rw [Int.mul_one, Int.mul_zero, Int.sub_zero]; omega) ⟨spj, sz_mono (sz_lit (a := m - 2) (by omega)) (by decide), sz_mono (sz_lit (a := 0) (by decide)) (by decide), sz_mono sz_one (by decide)⟩ fun P dP => ?_
      refine xs_asg (ev_conj' (p := p) (P := P) (M := L) rfl rfl dP.det dr.det dP.len dr.len (by decide) fun L2 zL lL => ?_)
      refine xs_ret (ev_var rfl ?_)
      exact w L2 ⟨zL.det (conj_ne dP.det dr.det), lL.mono (by decide)⟩
    · exact xs_next (xs_ret (ev_var rfl (w L ⟨dr.det, dr.len.mono (by decide)⟩)))
  refine xs_seq (xs_if (et_T (ev_eqI ?_)))
  and_intros
  have s0 : sz 7 0 := by unfold sz; decide
  have s1 : sz 7 1 := sz_mono sz_one (by decide)
  refine iteD (fun _ => ?_) (fun _ => ?_)
  · refine xs_asg (ev_call (ea_cons (ev_int (ea_cons (s_mul (ev_var rfl ?_))))))
    refine ev_oneOf sf [.int 1, .int p] rfl (List.cons_ne_nil _ _) rfl (by and_intros; rfl) fun e he => ?_
    simp only [List.mem_cons, List.not_mem_nil, or_false] at he
    obtain ⟨e, rfl, se⟩ : ∃ f : Int, e = .int f ∧ sz 3 f := by
      rcases he with rfl | rfl
      · exact ⟨1, rfl, sz_mono sz_one (by decide)⟩
      · exact ⟨p, rfl, sp⟩
    refine ⟨_, _, rfl, rfl, cm_of sn se (by decide), ea_cons (ev_int (ea_cons ?_))⟩
    refine ev_oneOf sf [.int 1, .int p, .int (p * p)] rfl (List.cons_ne_nil _ _) rfl ?_ fun d hd => ?_
    · and_intros
      refine ⟨cm_of sp sp (by decide), ?_⟩
      and_intros
      rfl
    · simp only [List.mem_cons, List.not_mem_nil, or_false] at hd
      obtain ⟨d, rfl, sd, d0⟩ : ∃ f : Int, d = .int f ∧ sz 7 f ∧ f ≠ 0 := by
        rcases hd with rfl | rfl | rfl
        · exact ⟨1, rfl, s1, by decide⟩
        · exact ⟨p, rfl, sz_mono sp (by decide), by omega⟩
        · exact ⟨p * p, rfl, sz_mono (sz_mul sp sp) (by decide), Int.mul_ne_zero (by omega) (by omega)⟩
      refine ea_nil ⟨rfl, mv_of (n := 7) (by rw [Int.one_mul, Int.mul_zero, Int.sub_zero]; exact d0) ⟨s1, sz_mono (sz_mul sn se) (by decide), s0, sd⟩ fun L dr => fin L _ _ dr⟩
  refine xs_if (et_T (ev_eqI ?_))
  and_intros
  refine iteD (fun _ => ?_) (fun _ => ?_)
  · refine xs_asg (ev_call (ea_cons (ev_call (ea_cons (ev_var rfl (ea_cons (ev_pick sf (by decide) rfl fun j j0 j1 => ?_)))))))
    refine ea_nil ⟨rfl, p, j.toNat, by rw [Int.toNat_of_nonneg j0], sp, by omega, ?_⟩
    refine ea_cons (ev_int (ea_cons (ev_int (ea_cons ?_))))
    refine ev_oneOf sf [.int 1, .int 2, .int 3, .int (-1)] rfl (List.cons_ne_nil _ _) rfl (by and_intros; rfl) fun d hd => ?_
    simp only [List.mem_cons, List.not_mem_nil, or_false] at hd
    obtain ⟨d, rfl, sd, d0⟩ : ∃ f : Int, d = .int f ∧ sz 3 f ∧ f ≠ 0 := by
      rcases hd with rfl | rfl | rfl | rfl
      · exact ⟨1, rfl, sz_lit (by decide), by decide⟩
      · exact ⟨2, rfl, sz_lit (by decide), by decide⟩
      · exact ⟨3, rfl, sz_lit (by decide), by decide⟩
      · exact ⟨-1, rfl, sz_lit (by decide), by decide⟩
    have pp : 0 < p ^ j.toNat := Int.pow_pos (by omega)
    have spj : sz 7 (p ^ j.toNat) := sz_mono (sz_pow sp j.toNat) (by omega)
    refine ea_nil ⟨rfl, mv_of (n := 7) (by rw [Int.mul_zero, Int.sub_zero]; exact Int.mul_ne_zero (by omega) d0) ⟨spj, s0, s0, sz_mono sd (by decide)⟩ fun L dr => fin L _ _ dr⟩
  refine xs_if (et_T (ev_eqI ?_))
  and_intros
  refine iteD (fun _ => ?_) (fun _ => ?_)
  · refine xs_asg (ev_call (ea_cons (ev_int (ea_cons ?_))))
    refine ev_oneOf sf [.int 1, .int p, .int (0 - 1), .int (0 - p)] rfl (List.cons_ne_nil _ _) rfl (by and_intros; rfl) fun d hd => ?_
    simp only [List.mem_cons, List.not_mem_nil, or_false] at hd
    obtain ⟨d, rfl, sd, d0⟩ : ∃ f : Int, d = .int f ∧ sz 3 f ∧ f ≠ 0 := by
      rcases hd with rfl | rfl | rfl | rfl
      · exact ⟨1, rfl, sz_lit (by decide), by decide⟩
      · exact ⟨p, rfl, sp, by omega⟩
      · exact ⟨0 - 1, rfl, sz_lit (by decide), by decide⟩
      · exact ⟨0 - p, rfl, sz_lit (by omega), by omega⟩
    refine ea_cons (ev_int (ea_cons (ev_var rfl (ea_nil ⟨rfl, mv_of (n := 7) (by rw [Int.zero_mul, Int.mul_one]; omega) ⟨s0, sz_mono sd (by decide), s1, sz_mono sn (by decide)⟩ fun L dr => fin L _ _ dr⟩))))
  refine xs_seq (xs_asg (ev_lcR1 (ea_cons (ev_int (ea_nil ⟨4, fun k ds => ∃ zs : List Int, ds = zs.map PyData.int ∧ zs.length = k ∧ ∀ z ∈ zs, sz 3 z, rfl, by decide, ⟨[], rfl, rfl, fun z hz => by cases hz⟩, ?_, ?_⟩)))))
  · rintro k hk G hG ds ⟨zs, rfl, lz, hz⟩
    refine et_yes ?_
    rw [if_pos rfl]
    refine s_sub (ev_pick (sf.hid hG) (by decide) rfl fun m m0 m1 => ?_)
    and_intros
    refine ⟨zs ++ [m - 4], by rw [List.map_append]; rfl, by rw [List.length_append, lz]; rfl, fun z q => ?_⟩
    rcases List.mem_append.mp q with q | q
    · exact hz z q
    · rw [List.mem_singleton.mp q]
      exact sz_lit (by omega)
  · rintro ds ⟨zs, rfl, lz, hz⟩
    match zs, lz, hz with
    | [a, b, c, d], _, hz =>
      have sa := sz_mono (hz a (by simp)) (show 3 ≤ 7 by decide)
      have sb := sz_mono (hz b (by simp)) (show 3 ≤ 7 by decide)
      have sc := sz_mono (hz c (by simp)) (show 3 ≤ 7 by decide)
      have sd := sz_mono (hz d (by simp)) (show 3 ≤ 7 by decide)
      show XS F K _ (List.set _ 5 (some (.list [.int a, .int b, .int c, .int d]))) _ W
      refine xs_seq (xs_asg (ev_eqI ?_))
      and_intros
      refine ⟨cm_of sa sd (by decide), ?_⟩
      and_intros
      refine ⟨cm_of sb sc (by decide), ?_⟩
      and_intros
      refine iteD (fun q => ?_) (fun q => ?_)
      · and_intros
        exact mv_of (n := 7) (by rw [Int.mul_zero]; decide) ⟨s1, sz_mono sn (by decide), s0, s1⟩ fun L dr => fin L _ _ dr
      · and_intros
        exact mv_of (n := 7) (by omega) ⟨sa, sb, sc, sd⟩ fun L dr => fin L _ _ dr
theorem r__law_draw_stretching : KpI K (t__law_draw_stretching K) 2 4 c__law_draw_stretching := fun i F ds W sf hl c => by
  obtain ⟨p, h, rfl, w⟩ := c
  unfold t__law_draw_stretching
  refine xs_seq (xs_asg (ev_callI i sf (ea_cons (ev_var rfl (ea_cons (ev_var rfl (ea_nil ⟨rfl, p, h, rfl, fun L dr => ?_⟩)))))))
  have rest : XS F K (tSeq (tAsg (tCall (PurI SrcF K 2 c__law_draw_ends) [] E0 (tCons (tVar 0) (tCons (tVar 1) (tNil)))) (gName 3)) (tRet (tCall (Pur K 5 c__law_by_ends) [] E0 (tCons (tVar 1) (tCons (tOp (rIxL K) (tVar 3) (tC (.int 0))) (tCons (tOp (rIxL K) (tVar 3) (tC (.int 1))) (tCons (tCall (PurI SrcF K 2 c__law_draw_length) [] E0 (tCons (tVar 0) (tCons (tVar 1) (tNil)))) (tCons (tOp (rIxL K) (tLst (tCons (tC (.int 1)) (tCons (tOp rSub (tC (.int 0)) (tC (.int 1))) (tNil)))) (tCall (PurI SrcF K 2 c__law_pick) [] E0 (tCons (tVar 0) (tCons (tC (.int 2)) (tNil))))) (tNil)))))))))
      [some (dO i.1), some (.int p), some (dM L), none] (fun _ => W .none) W := by
    refine xs_seq (xs_asg (ev_callI i sf (ea_cons (ev_var rfl (ea_cons (ev_var rfl (ea_nil ⟨rfl, p, h, rfl, fun a b oa ob za zb cr => ?_⟩)))))))
    and_intros
    refine ev_callI i sf (ea_cons (ev_var rfl (ea_cons (ev_var rfl (ea_nil ⟨rfl, p, h, rfl, fun n n0 n3 => ?_⟩)))))
    refine ea_cons (ev_oneOf sf [.int 1, .int (0 - 1)] rfl (List.cons_ne_nil _ _) rfl (by and_intros; rfl) fun s hs => ?_)
    simp only [List.mem_cons, List.not_mem_nil, or_false] at hs
    obtain ⟨s, rfl, ss⟩ : ∃ f : Int, s = .int f ∧ (f = 1 ∨ f = -1) := by
      rcases hs with rfl | rfl
      · exact ⟨1, rfl, .inl rfl⟩
      · exact ⟨-1, rfl, .inr rfl⟩
    and_intros
    exact ⟨p, a, b, n, 5, s, h, rfl, by decide, za, zb, cr, n0, n3, ss, fun L2 d2 l2 s2 => w L2 ⟨d2, l2.mono (by decide)⟩ (by rw [s2]; omega)⟩
  refine xs_seq (xs_if (et_and (et_T (ev_eqI (ev_pick sf (by decide) rfl fun k k0 k1 => ?_)))))
  and_intros
  refine iteD (fun _ => ?_) (fun _ => ?_)
  · and_intros
    refine ⟨p, L, h, rfl, dr.det, dr.len.mono (by decide), ?_⟩
    and_intros
    refine iteD (fun q => ?_) (fun _ => ?_)
    · and_intros
      exact w L dr q
    · exact xs_next rest
  · rw [if_neg (by decide)]
    exact xs_next rest
end
end Bm
-- BmR15
set_option maxRecDepth 100000
set_option maxHeartbeats 2000000
/-! BmR15: pairs drawn. -/
namespace Bm
open PySem PySem.Spec PyProof.Rows L2 Bt
local macro_rules | `(tactic| and_intros) => `(tactic| repeat (with_reducible first
  | refine xs_seq ?_ | refine xs_ret ?_ | refine xs_asg ?_ | refine xs_par ?_ | refine xs_par3 ?_ | refine xs_if ?_ | refine xs_asgT rfl ?_
  | (refine ev_var (d := ?_) ?_ ?_; rotate_left; (with_unfolding_all exact rfl))
  | refine ev_int ?_ | refine ev_bl ?_ | refine ev_str ?_ | refine ev_non ?_
  | refine ev_ixT ?_ | refine ev_ixL ?_ | refine ea_nil ?_ | refine ea_cons ?_ | refine s_tup ?_ | refine s_dis ?_ | refine ev_call ?_
  | refine ⟨_, _, _, rfl, rfl, (by with_unfolding_all exact rfl), ?_⟩
  | refine s_add ?_ | refine s_sub ?_ | refine s_mul ?_ | refine s_fdv ?_ | refine s_mod ?_ | refine s_lt ?_ | refine s_le ?_ | refine s_gt ?_ | refine s_ge ?_ | refine s_neg ?_
  | refine ⟨_, _, rfl, rfl, ?_⟩ | refine ⟨_, _, rfl, ?_⟩ | refine ⟨_, rfl, ?_⟩
  | refine ev_if ?_ | refine et_T ?_ | refine et_B ?_ | refine et_not ?_ | refine et_and ?_ | refine et_or ?_
  | refine ev_gcd2 ?_ | refine ev_eqI ?_ | refine ev_neI ?_
  | refine ⟨(by with_unfolding_all exact rfl), ?_⟩ | refine ⟨Nat.le_of_ble_eq_true (by with_unfolding_all exact rfl), ?_⟩
  | refine ⟨_, rfl, (by with_unfolding_all exact rfl), ?_⟩))
/-- two points that end a move -/
def RP (n : Nat) (x y : PyData) : Prop := ∃ a b : Pt, x = dP a ∧ y = dP b ∧ crs a b ≠ 0 ∧ a.sz n ∧ b.sz n
theorem RP.symm {n : Nat} {x y : PyData} (h : RP n x y) : RP n y x := by
  obtain ⟨a, b, e1, e2, c, s1, s2⟩ := h
  refine ⟨b, a, e2, e1, fun z => c ?_, s2, s1⟩
  unfold crs at *
  omega
section
variable {F : Fr} {K : PySem.W.Frag} {S : SS} {W : PyData → Prop} {i : Addr × Addr} {ta tb ts : TE}
/-- by_ends of two that are read, a length that is drawn -/
theorem ev_ends (sf : SrcF i F) {p : Int} (h : PP p) {m : Nat} (hm : m ≤ 15) {x y : PyData} (r : RP m x y) (h0 : S[0]? = some (some (dO i.1))) (h1 : S[1]? = some (some (.int p))) (ha : EV F K ta S fun d => d = x) (hb : EV F K tb S fun d => d = y)
    (hs : EV F K ts S fun d => ∃ s : Int, d = .int s ∧ (s = 1 ∨ s = -1)) (w : ∀ L : Mi, Drw 42 L → 0 < st p L → W (dM L)) :
    EV F K (tCall (Pur K 5 c__law_by_ends) [] E0 (tCons (tVar 1) (tCons ta (tCons tb (tCons (tCall (PurI SrcF K 2 c__law_draw_length) [] E0 (tCons (tVar 0) (tCons (tVar 1) (tNil)))) (tCons ts (tNil))))))) S W := by
  obtain ⟨a, b, ex, ey, cr, za, zb⟩ := r
  refine ev_call (ea_cons (ev_var h1 (ea_cons (ha.imp fun d ed => ea_cons (hb.imp fun e ee => ea_cons (ev_callI i sf (ea_cons (ev_var h0 (ea_cons (ev_var h1 (ea_nil ⟨rfl, p, h, rfl, fun n n0 n3 => ea_cons (hs.imp fun f ⟨s, ef, ss⟩ => ea_nil ⟨rfl, ?_⟩)⟩)))))))))))
  subst ed ee ef ex ey
  exact ⟨p, a, b, n, m, s, h, rfl, by omega, za, zb, cr, n0, n3, ss, fun L2 d2 l2 s2 => w L2 ⟨d2, l2.mono (by omega)⟩ (by rw [s2]; omega)⟩
theorem ev_sign (sf : SrcF i F) (h0 : S[0]? = some (some (dO i.1))) : EV F K (tOp (rIxL K) (tLst (tCons (tC (.int 1)) (tCons (tOp rSub (tC (.int 0)) (tC (.int 1))) (tNil)))) (tCall (PurI SrcF K 2 c__law_pick) [] E0 (tCons (tVar 0) (tCons (tC (.int 2)) (tNil))))) S fun d => ∃ s : Int, d = .int s ∧ (s = 1 ∨ s = -1) := by
  refine ev_oneOf sf [.int 1, .int (0 - 1)] rfl (List.cons_ne_nil _ _) h0 (by and_intros; rfl) fun s hs => ?_
  simp only [List.mem_cons, List.not_mem_nil, or_false] at hs
  rcases hs with rfl | rfl
  · exact ⟨1, rfl, .inl rfl⟩
  · exact ⟨-1, rfl, .inr rfl⟩
/-- an item of a list that is read -/
theorem ev_at {j : Nat} {zs : List PyData} {k : Nat} {z : PyData} (h : S[j]? = some (some (.list zs))) (hz : zs[k]? = some z) : EV F K (tOp (rIxL K) (tVar j) (tC (.int (k : Int)))) S fun d => d = z :=
  ev_ixL (ev_var h (ev_int ⟨_, _, _, rfl, rfl, atI_nat hz, rfl⟩))
end
theorem Drw.up {m n : Nat} {L : Mi} (d : Drw m L) (h : m ≤ n) : Drw n L := ⟨d.det, d.len.mono h⟩
section
variable {K : PySem.W.Frag}
theorem r__law_draw_pair : KpI K (t__law_draw_pair K) 2 9 c__law_draw_pair := fun i F ds W sf hl c => by
  obtain ⟨p, h, rfl, w⟩ := c
  unfold t__law_draw_pair
  refine xs_seq (xs_par (ea_cons (ev_pick sf (by decide) rfl fun wy y0 y1 => ?_)))
  refine ea_cons (ev_callI i sf (ea_cons (ev_var rfl (ea_cons (ev_var rfl (ea_nil ⟨rfl, p, h, rfl, fun G dG sG => ea_nil ⟨_, _, rfl, ?_⟩⟩))))))
  refine xs_seq (xs_if (et_T (ev_eqI ?_)))
  and_intros
  refine iteD (fun _ => ?_) (fun _ => ?_)
  · refine xs_seq (xs_asg (ev_callI i sf (ea_cons (ev_var rfl (ea_cons (ev_var rfl (ea_nil ⟨rfl, p, h, rfl, fun a b oa ob za zb cr => ?_⟩)))))))
    have r0 : RP 5 (dP a) (dP b) := ⟨a, b, rfl, rfl, cr, za, zb⟩
    refine xs_seq (xs_asg (ev_callI i sf (ea_cons (ev_var rfl (ea_cons (ev_var rfl (ea_nil ⟨rfl, [dP a, dP b], rfl, .inl rfl, fun ys pm => ?_⟩)))))))
    have ly := pm.length_eq
    have pw : List.Pairwise (RP 5) ys := (List.Perm.pairwise_iff (fun q => q.symm) pm).mpr (List.Pairwise.cons (fun z hz => by rw [List.mem_singleton.mp hz]; exact r0) (List.pairwise_singleton _ _))
    match ys, ly, pw with
    | [x, y], _, pw =>
      have r1 : RP 5 x y := (List.pairwise_cons.mp pw).1 y (by simp)
      refine xs_seq (xs_asg (ev_ends sf h (by decide) r0 rfl rfl (ev_at (k := 0) rfl rfl) (ev_at (k := 1) rfl rfl) (ev_int ⟨1, rfl, .inl rfl⟩) fun L dL sL => ?_))
      refine xs_ret (s_tup (ea_cons (ev_var rfl (ea_cons (ev_ends sf h (by decide) r1 rfl rfl (ev_at (k := 0) rfl rfl) (ev_at (k := 1) rfl rfl) (ev_sign sf rfl) fun L2 dL2 sL2 => ?_)))))
      and_intros
      exact w L L2 dL dL2 sL sL2
  refine xs_next (xs_seq (xs_if (et_T (ev_eqI ?_))))
  and_intros
  refine iteD (fun _ => ?_) (fun _ => ?_)
  · refine xs_seq (xs_asg (ev_callI i sf (ea_cons (ev_var rfl (ea_cons (s_dis (ea_cons (s_tup (ea_cons (ev_int (ea_cons (ev_int (ea_nil ⟨by decide, ea_cons (s_tup (ea_cons (ev_pick sf (by decide) rfl fun k k0 k1 => ?_)))⟩)))))))))))))
    refine ea_cons (ev_int (ea_nil ⟨Nat.le_of_ble_eq_true rfl, ea_cons (s_tup (ea_cons (s_add (ev_int (ev_pick sf (by decide) rfl fun m m0 m1 => ⟨_, _, rfl, rfl, ?_⟩)))))⟩))
    refine ea_cons (ev_int (ea_nil ⟨Nat.le_of_ble_eq_true rfl, ea_nil ⟨Nat.le_of_ble_eq_true rfl, ea_nil ⟨rfl, [dP ⟨1, 0⟩, dP ⟨k, 1⟩, dP ⟨3 + m, 1⟩], rfl, .inr rfl, fun ys pm => ?_⟩⟩⟩))
    have s1 : (Pt.mk 1 0).sz 5 := ⟨sz_mono sz_one (by decide), by unfold sz; decide⟩
    have s2 : (Pt.mk k 1).sz 5 := ⟨sz_mono (sz_lit (a := k) (by omega)) (by decide), sz_mono sz_one (by decide)⟩
    have s3 : (Pt.mk (3 + m) 1).sz 5 := ⟨sz_mono (sz_lit (a := 3 + m) (by omega)) (by decide), sz_mono sz_one (by decide)⟩
    have ly := pm.length_eq
    have pw : List.Pairwise (RP 5) ys := by
      refine (List.Perm.pairwise_iff (fun q => q.symm) pm).mpr (List.Pairwise.cons (fun z hz => ?_) (List.Pairwise.cons (fun z hz => ?_) (List.pairwise_singleton _ _)))
      · simp only [List.mem_cons, List.not_mem_nil, or_false] at hz
        rcases hz with rfl | rfl
        · exact ⟨⟨1, 0⟩, ⟨k, 1⟩, rfl, rfl, by show (1 : Int) * 1 - k * 0 ≠ 0; omega, s1, s2⟩
        · exact ⟨⟨1, 0⟩, ⟨3 + m, 1⟩, rfl, rfl, by show (1 : Int) * 1 - (3 + m) * 0 ≠ 0; omega, s1, s3⟩
      · rw [List.mem_singleton.mp hz]
        exact ⟨⟨k, 1⟩, ⟨3 + m, 1⟩, rfl, rfl, by show k * 1 - (3 + m) * 1 ≠ 0; omega, s2, s3⟩
    match ys, ly, pw with
    | [x, y, z], _, pw =>
      have r1 : RP 5 x y := (List.pairwise_cons.mp pw).1 y (by simp)
      have r2 : RP 5 y z := (List.pairwise_cons.mp (List.pairwise_cons.mp pw).2).1 z (by simp)
      refine xs_seq (xs_par (ea_cons (ev_slL (ev_var rfl (eo_none (eo_some (ev_int ⟨2, rfl, [x, y, z], rfl, ?_⟩)))))))
      refine ea_cons (ev_callI i sf (ea_cons (ev_var rfl (ea_cons (ev_slL (ev_var rfl (eo_some (ev_int ⟨1, rfl, eo_none ⟨[x, y, z], rfl, ?_⟩⟩))))))))
      refine ea_nil ⟨rfl, [y, z], rfl, .inl rfl, fun us pu => ea_nil ⟨_, _, rfl, ?_⟩⟩
      have lu := pu.length_eq
      have pw2 : List.Pairwise (RP 5) us := (List.Perm.pairwise_iff (fun q => q.symm) pu).mpr (List.Pairwise.cons (fun z hz => by rw [List.mem_singleton.mp hz]; exact r2) (List.pairwise_singleton _ _))
      match us, lu, pw2 with
      | [u, v], _, pw2 =>
        have r3 : RP 5 u v := (List.pairwise_cons.mp pw2).1 v (by simp)
        refine xs_seq (xs_asg (ev_ends sf h (by decide) r1 rfl rfl (ev_at (k := 0) rfl rfl) (ev_at (k := 1) rfl rfl) (ev_int ⟨1, rfl, .inl rfl⟩) fun L dL sL => ?_))
        refine xs_ret (s_tup (ea_cons (ev_var rfl (ea_cons (ev_ends sf h (by decide) r3 rfl rfl (ev_at (k := 0) rfl rfl) (ev_at (k := 1) rfl rfl) (ev_int ⟨1, rfl, .inl rfl⟩) fun L2 dL2 sL2 => ?_)))))
        and_intros
        exact w L L2 dL dL2 sL sL2
  refine xs_next (xs_seq (xs_if (et_T (ev_eqI ?_))))
  and_intros
  refine iteD (fun _ => ?_) (fun _ => ?_)
  · refine xs_seq (xs_asg (ev_call (ea_cons (ev_int (ea_cons (s_add (ev_int (ev_pick sf (by decide) rfl fun k k0 k1 => ⟨_, _, rfl, rfl, ?_⟩))))))))
    and_intros
    refine mv_of (n := 2) (by rw [Int.mul_one, Int.mul_zero]; decide) ⟨sz_mono sz_one (by decide), (by show (1 + k).natAbs < 2 ^ 2; omega), (by show (0 : Int).natAbs < 2 ^ 2; decide), sz_mono sz_one (by decide)⟩ fun P dP => ?_
    refine xs_ret (s_tup (ea_cons (ev_var rfl (ea_cons (ev_ixL (s_dis (ea_cons (ev_call (ea_cons (ev_var rfl (ea_nil ⟨rfl, G, rfl, dG.det, fun B k hk e1 e2 e3 e4 => ?_⟩)))))))))))
    have zB := back_sim hk e1 e2 e3 e4
    have aG := adj_ne dG.det
    have dB' : Drw 42 B := ⟨zB.det aG, (back_len dG.len hk e1 e2 e3 e4).mono (by decide)⟩
    have sB : 0 < st p B := by rw [zB.st h aG, strv_adj]; exact sG
    refine ea_cons (ev_conj' (p := p) (P := P) (M := G) rfl rfl dP.det dG.det dP.len dG.len (by decide) fun L zL lL => ?_)
    have cG := conj_ne dP.det dG.det
    have dL : Drw 42 L := ⟨zL.det cG, lL.mono (by decide)⟩
    have sL : 0 < st p L := by rw [zL.st h cG, strv_conj h dP.det dG.det]; exact sG
    refine ea_nil ⟨Nat.le_of_ble_eq_true rfl, ev_pick sf (by decide) rfl fun k k0 k1 => ?_⟩
    have cs : k = 0 ∨ k = 1 := by omega
    rcases cs with rfl | rfl
    · refine ⟨_, _, _, rfl, rfl, rfl, ea_nil ⟨Nat.le_of_ble_eq_true rfl, ?_⟩⟩
      exact w G B (dG.up (by decide)) dB' sG sB
    · refine ⟨_, _, _, rfl, rfl, rfl, ea_nil ⟨Nat.le_of_ble_eq_true rfl, ?_⟩⟩
      exact w G L (dG.up (by decide)) dL sG sL
  refine xs_next (xs_ret (s_tup (ea_cons (ev_var rfl (ea_cons (ev_callI i sf (ea_cons (ev_var rfl (ea_cons (ev_var rfl (ea_nil ⟨rfl, p, h, rfl, fun L dL sL => ?_⟩)))))))))))
  and_intros
  exact w G L (dG.up (by decide)) (dL.up (by decide)) sG sL
end
end Bm
-- BmR16
set_option maxRecDepth 100000
set_option maxHeartbeats 2000000
/-! BmR16: pairs near one another. -/
namespace Bm
open PySem PySem.Spec PyProof.Rows L2 Bt
local macro_rules | `(tactic| and_intros) => `(tactic| repeat (with_reducible first
  | refine xs_seq ?_ | refine xs_ret ?_ | refine xs_asg ?_ | refine xs_par ?_ | refine xs_par3 ?_ | refine xs_if ?_ | refine xs_asgT rfl ?_
  | (refine ev_var (d := ?_) ?_ ?_; rotate_left; (with_unfolding_all exact rfl))
  | refine ev_int ?_ | refine ev_bl ?_ | refine ev_str ?_ | refine ev_non ?_
  | refine ev_ixT ?_ | refine ev_ixL ?_ | refine ea_nil ?_ | refine ea_cons ?_ | refine s_tup ?_ | refine s_dis ?_ | refine ev_call ?_
  | refine ⟨_, _, _, rfl, rfl, (by with_unfolding_all exact rfl), ?_⟩
  | refine s_add ?_ | refine s_sub ?_ | refine s_mul ?_ | refine s_fdv ?_ | refine s_mod ?_ | refine s_lt ?_ | refine s_le ?_ | refine s_gt ?_ | refine s_ge ?_ | refine s_neg ?_
  | refine ⟨_, _, rfl, rfl, ?_⟩ | refine ⟨_, _, rfl, ?_⟩ | refine ⟨_, rfl, ?_⟩
  | refine ev_if ?_ | refine et_T ?_ | refine et_B ?_ | refine et_not ?_ | refine et_and ?_ | refine et_or ?_
  | refine ev_gcd2 ?_ | refine ev_eqI ?_ | refine ev_neI ?_
  | refine ⟨(by with_unfolding_all exact rfl), ?_⟩ | refine ⟨Nat.le_of_ble_eq_true (by with_unfolding_all exact rfl), ?_⟩
  | refine ⟨_, rfl, (by with_unfolding_all exact rfl), ?_⟩))
theorem set_self {σ : L2.St} {i : Nat} {x : Option V} (h : σ[i]? = some x) : σ.set i x = σ := by
  refine List.ext_getElem? fun j => ?_
  by_cases e : i = j
  · subst e
    obtain ⟨hi, _⟩ := List.getElem?_eq_some_iff.mp h
    rw [List.getElem?_set_self hi, h]
  · rw [List.getElem?_set_ne e]
section
variable {F : Fr} {K : PySem.W.Frag} {i : Addr × Addr} {N : SS → Prop} {R : PyData → Prop}
abbrev nS (i : Addr × Addr) (p : Int) (a b : Pt) (most g1 g2 : Int) (o5 o6 o7 o8 : Option PyData) : SS :=
  [some (dO i.1), some (.int p), some (.list [dP a, dP b]), some (.int most), some (.list [.int g1, .int g2]), o5, o6, o7, o8, none, none, none]
theorem near_loop (sf : SrcF i F) {p most g1 g2 : Int} {a b : Pt} {te : TE} {rest : TS}
    (hte : ∀ (G : Fr) (D : Addr) (q : Pt) (g : Int) (o6 o7 o8 : Option PyData), (q = a ∧ g = g1 ∨ q = b ∧ g = g2) → EV G K te (nS i p a b most g1 g2 (some (dO D)) (some (.int q.x)) (some (.int q.y)) (some (.int g))) fun d => ∃ c : Pt, d = dP c ∧ c.ok ∧ c.sz 15)
    (hrest : ∀ (c1 c2 : Pt) (o6 o7 o8 : Option PyData), c1.ok → c2.ok → c1.sz 15 → c2.sz 15 → XS F K rest (nS i p a b most g1 g2 (some (.list [dP c1, dP c2])) o6 o7 o8) N R) :
    XS F K (tSeq (tAsg (tLst (tNil)) (gName 5)) (tSeq (tFor (iZip K (tCons (tVar 2) (tCons (tVar 4) (tNil)))) (gTup K 2 (gCons (gTup K 2 (gCons (gName 6) (gCons (gName 7) (gNil)))) (gCons (gName 8) (gNil)))) (tDrop (tBM K "list" rAppend (tVar 5) (tCons te (tNil))))) rest))
      (nS i p a b most g1 g2 none none none none) N R := fun σ H sl D hn hr => by
  obtain ⟨v2, x2, a2⟩ := sl.get (i := 2) rfl
  obtain ⟨v4, x4, a4⟩ := sl.get (i := 4) rfl
  obtain ⟨q2, vs, y2, h2, d2⟩ := lst_inv a2
  obtain ⟨q4, us, y4, h4, d4⟩ := lst_inv a4
  subst y2 y4
  have lenσ : σ.length = 12 := by
    have : ∀ {S : SS} {σ : L2.St} {H : Hp}, Sl K H σ S → σ.length = S.length := fun h => by
      induction h with
      | nil => rfl
      | skip _ ih => exact congrArg (· + 1) ih
      | cons _ _ ih => exact congrArg (· + 1) ih
    exact this sl.sl
  refine ⟨Nat.zero_le _, fun D0 hD0 => ?_⟩
  have m0 := Fr.out sl.ok hD0
  have ex0 : Ex (F.mk' H) ((F.hide D0 []).mk' (upd H D0 (.lst []))) := fun z o h => by
    have hz := F.sub _ _ h
    have nz : z ≠ D0 := fun e => by rw [e, hD0] at hz; cases hz
    have mz : F.ms z = false := by
      cases e : F.ms z with
      | false => rfl
      | true =>
        unfold Fr.mk' at h
        rw [e] at h
        cases h
    have : (F.hide D0 []).ms z = false := by
      show (F.ms z || decide (z = D0)) = false
      rw [mz, decide_eq_false nz]
      rfl
    rw [Fr.at this, upd_ne nz]
    exact hz
  have g2' : (σ.set 5 (some (.ref D0)))[2]? = some (some (.ref q2)) := by rw [List.getElem?_set_ne (by decide)]; exact x2
  have g4' : (σ.set 5 (some (.ref D0)))[4]? = some (some (.ref q4)) := by rw [List.getElem?_set_ne (by decide)]; exact x4
  have n2 : q2 ≠ D0 := fun e => by have := F.sub _ _ h2; rw [e, hD0] at this; cases this
  have n4 : q4 ≠ D0 := fun e => by have := F.sub _ _ h4; rw [e, hD0] at this; cases this
  refine ⟨_, g2', _, g4', q2, q4, vs, us, rfl, SqL.of ((upd_ne n2).trans (F.sub _ _ h2)), SqL.of ((upd_ne n4).trans (F.sub _ _ h4)), ?_⟩
  refine ⟨fun k m σ' H' => m = 2 - k ∧ k ≤ 2 ∧ ∃ (acc : List V) (cs : List Pt) (o6 o7 o8 : Option PyData), SF (F.hide D0 acc) K H' σ' (nS i p a b most g1 g2 (some (dO D0)) o6 o7 o8) ∧ Ex (F.mk' H) ((F.hide D0 acc).mk' H') ∧ DDs K ((F.hide D0 acc).mk' H') acc (cs.map dP) ∧ cs.length = k ∧ ∀ c ∈ cs, c.ok ∧ c.sz 15,
    ⟨2, rfl, by decide, [], [], none, none, none, ⟨⟨Fr.put sl.ok m0, upd_same⟩, ?_⟩, ex0, .nil, rfl, fun c hc => by cases hc⟩, ?_⟩
  · exact Sl.set (.obj D0) 5 (sl.sl.mono ex0)
  rintro k m σ1 H1 ⟨rfl, hk, acc, cs, o6, o7, o8, s1, ex, da, lc, hcs⟩
  have sq2 : SqL K H1 q2 vs := SqL.of (Fr.sub _ _ _ (ex _ _ h2))
  have sq4 : SqL K H1 q4 us := SqL.of (Fr.sub _ _ _ (ex _ _ h4))
  have hD : H1 D0 = some (.lst acc) := s1.ok.2
  by_cases hlt : k < 2
  · -- a turn
    obtain ⟨q, g, e1, e2, qg⟩ : ∃ (q : Pt) (g : Int), [dP a, dP b][k]? = some (dP q) ∧ [PyData.int g1, .int g2][k]? = some (.int g) ∧ (q = a ∧ g = g1 ∨ q = b ∧ g = g2) := by
      have : k = 0 ∨ k = 1 := by omega
      rcases this with rfl | rfl
      · exact ⟨a, g1, rfl, rfl, .inl ⟨rfl, rfl⟩⟩
      · exact ⟨b, g2, rfl, rfl, .inr ⟨rfl, rfl⟩⟩
    obtain ⟨x, ex1, dx⟩ := d2.get e1
    obtain ⟨y, ey1, dy⟩ := d4.get e2
    have yi := int_inv dy
    subst yi
    obtain ⟨px, us2, xe, hpx, dpx⟩ := tup_inv dx
    obtain ⟨u, v, ue, au, av⟩ := two_inv dpx
    cases int_inv au
    cases int_inv av
    subst xe ue
    refine .inr ⟨⟨vs, us, _, _, sq2, sq4, ex1, ey1⟩, fun σ' H' => ∃ (acc : List V) (cs : List Pt) (o6 o7 o8 : Option PyData), SF (F.hide D0 acc) K H' σ' (nS i p a b most g1 g2 (some (dO D0)) o6 o7 o8) ∧ Ex (F.mk' H) ((F.hide D0 acc).mk' H') ∧ DDs K ((F.hide D0 acc).mk' H') acc (cs.map dP) ∧ cs.length = k + 1 ∧ ∀ c ∈ cs, c.ok ∧ c.sz 15, fun σ' H' z => ⟨2 - (k + 1), by omega, rfl, hlt, z⟩, ?_⟩
    rintro tv H2 ⟨T, x', y', rfl, hT, rfl, hx', hy'⟩
    have xx : x' = .ref px := Option.some.inj ((hx' vs sq2).symm.trans ex1)
    have yy : y' = .int g := Option.some.inj ((hy' us sq4).symm.trans ey1)
    subst xx yy
    have gT := s1.rf.stp (o := .tup [.ref px, .int g]) hT
    have s2 := s1.mono gT
    have spx : SqT K (upd H1 T (.tup [.ref px, .int g])) px [.int q.x, .int q.y] := Evl.ex_t (Fr.sub _) (Evl.ex_t (ex.trans gT.2) hpx)
    refine ⟨T, _, rfl, SqT.of upd_same, rfl, _, _, rfl, px, _, rfl, spx, rfl, _, _, rfl, _, _, rfl, rfl, _, _, rfl, rfl, ?_⟩
    have s3 := ((s2.set (.int q.x) 6).set (.int q.y) 7).set (.int g) 8
    have v5 : (((σ1.set 6 (some (.int q.x))).set 7 (some (.int q.y))).set 8 (some (.int g)))[5]? = some (some (.ref D0)) := by
      obtain ⟨v, xv, av⟩ := s1.get (i := 5) rfl
      have := obj_inv av
      subst this
      rw [List.getElem?_set_ne (by decide), List.getElem?_set_ne (by decide), List.getElem?_set_ne (by decide)]
      exact xv
    have nT : D0 ≠ T := fun e => by rw [← e, hD] at hT; cases hT
    refine ⟨_, v5, .inl ⟨rfl, _, SqL.of ((upd_ne nT).trans hD)⟩, ?_⟩
    refine hte (F.hide D0 acc) D0 q g o6 o7 o8 qg _ _ s3 _ fun w d H3 g3 aw ⟨c, ed, oc, zc⟩ => ?_
    subst ed
    refine ⟨D0, acc, w, rfl, rfl, g3.1.2, ?_, ?_⟩
    · have := da.len
      rw [List.length_map, lc] at this
      rw [this]
      exact Nat.lt_of_lt_of_le hlt (by decide)
    · have mk4 : (F.hide D0 (acc ++ [w])).mk' (upd H3 D0 (.lst (acc ++ [w]))) = (F.hide D0 acc).mk' H3 := by
        funext z
        show (if (F.ms z || decide (z = D0)) = true then none else upd H3 D0 (.lst (acc ++ [w])) z) = (if (F.ms z || decide (z = D0)) = true then none else H3 z)
        by_cases e : z = D0
        · rw [decide_eq_true e, Bool.or_true, if_pos rfl, if_pos rfl]
        · rw [upd_ne e]
      refine ⟨acc ++ [w], cs ++ [c], some (.int q.x), some (.int q.y), some (.int g), ⟨⟨Fr.put g3.1.1 m0, upd_same⟩, ?_⟩, ?_, ?_, by rw [List.length_append, lc]; rfl, fun z hz => ?_⟩
      · rw [mk4]
        exact (s3.mono g3).sl
      · rw [mk4]
        exact (ex.trans gT.2).trans g3.2
      · rw [mk4, List.map_append]
        exact (da.mono (gT.2.trans g3.2)).append (.cons aw .nil)
      · rcases List.mem_append.mp hz with r | r
        · exact hcs z r
        · rw [List.mem_singleton.mp r]
          exact ⟨oc, zc⟩
  · have ek : k = 2 := by omega
    subst ek
    have lv : vs.length = 2 := d2.len
    refine .inl ⟨⟨vs, us, sq2, sq4, .inl (by omega)⟩, ?_⟩
    match cs, lc, hcs, da with
    | [c1, c2], _, hcs, da =>
      obtain ⟨v, xv, av⟩ := s1.get (i := 5) rfl
      have := obj_inv av
      subst this
      have hs := Fr.hide_sub (F := F) (D := D0) (acc := acc) (H := H1)
      have s4 : Sl K (F.mk' H1) (σ1.set 5 (some (.ref D0))) ((nS i p a b most g1 g2 (some (dO D0)) o6 o7 o8).set 5 (some (.list [dP c1, dP c2]))) := by
        refine Sl.set (.lst ?_ (da.mono hs)) 5 (s1.sl.mono hs)
        rw [Fr.at m0]
        exact hD
      rw [set_self xv] at s4
      have g5 : Go F H H1 := ⟨s1.ok.1, ex.trans hs⟩
      exact hrest c1 c2 o6 o7 o8 (hcs c1 (by simp)).1 (hcs c2 (by simp)).1 (hcs c1 (by simp)).2 (hcs c2 (by simp)).2 σ1 H1 ⟨s1.ok.1, s4⟩ D (fun σ' S' H' e s n => hn σ' S' H' (g5.trans e) s n) fun v d H' e a r => hr v d H' (g5.trans e) a r
theorem ev_len2 {S : SS} {W : PyData → Prop} (sf : SrcF i F) {n : Int} (hn : 0 < n) (h0 : S[0]? = some (some (dO i.1))) (w : ∀ k : Int, 0 ≤ k → k < n → W (.int (1 + k))) :
    EV F K (tOp rAdd (tC (.int 1)) (tCall (PurI SrcF K 2 c__law_pick) [] E0 (tCons (tVar 0) (tCons (tC (.int n)) (tNil))))) S W := s_add (ev_int (ev_pick sf hn h0 fun k k0 k1 => ⟨_, _, rfl, rfl, w k k0 k1⟩))
/-- by_ends of two that are read, a length of one or two -/
theorem ev_ends2 {S : SS} {W : PyData → Prop} {ta tb : TE} (sf : SrcF i F) {p : Int} (h : PP p) {m : Nat} (hm : m ≤ 15) {x y : PyData} (r : RP m x y) (h0 : S[0]? = some (some (dO i.1))) (h1 : S[1]? = some (some (.int p))) (ha : EV F K ta S fun d => d = x) (hb : EV F K tb S fun d => d = y)
    (w : ∀ L : Mi, Drw 42 L → 0 < st p L → W (dM L)) :
    EV F K (tCall (Pur K 5 c__law_by_ends) [] E0 (tCons (tVar 1) (tCons ta (tCons tb (tCons (tOp rAdd (tC (.int 1)) (tCall (PurI SrcF K 2 c__law_pick) [] E0 (tCons (tVar 0) (tCons (tC (.int 2)) (tNil))))) (tCons (tC (.int 1)) (tNil))))))) S W := by
  obtain ⟨a, b, ex, ey, cr, za, zb⟩ := r
  refine ev_call (ea_cons (ev_var h1 (ea_cons (ha.imp fun d ed => ea_cons (hb.imp fun e ee => ea_cons (ev_len2 sf (by decide) h0 fun n n0 n3 => ea_cons (ev_int (ea_nil ⟨rfl, ?_⟩))))))))
  subst ed ee ex ey
  exact ⟨p, a, b, (1 + n).toNat, m, 1, h, by rw [Int.toNat_of_nonneg (by omega)], by omega, za, zb, cr, by omega, by omega, .inl rfl, fun L2 d2 l2 s2 => w L2 ⟨d2, l2.mono (by omega)⟩ (by rw [s2]; omega)⟩
end
section
variable {K : PySem.W.Frag}
theorem gap_bd {p : Int} (h : PP p) {k : Nat} (hk : k < (if p = 2 then 6 else 3)) : 0 < p ^ (1 + k) ∧ p ^ (1 + k) ≤ 343 := by
  refine ⟨Int.pow_pos (by have := pp_pos h; omega), ?_⟩
  rcases h with rfl | rfl | rfl | rfl
  · rw [if_pos rfl] at hk
    have : k = 0 ∨ k = 1 ∨ k = 2 ∨ k = 3 ∨ k = 4 ∨ k = 5 := by omega
    rcases this with rfl | rfl | rfl | rfl | rfl | rfl <;> decide
  all_goals
    rw [if_neg (by decide)] at hk
    have : k = 0 ∨ k = 1 ∨ k = 2 := by omega
    rcases this with rfl | rfl | rfl <;> decide
theorem r__law_draw_near : KpI K (t__law_draw_near K) 2 12 c__law_draw_near := fun i F ds W sf hl c => by
  obtain ⟨p, h, rfl, w⟩ := c
  have p2 := pp_pos h
  unfold t__law_draw_near
  refine xs_seq (xs_asgT rfl (s_tup (ea_cons (ev_callI i sf (ea_cons (ev_var rfl (ea_cons (ev_var rfl (ea_nil ⟨rfl, p, h, rfl, fun a b oa ob za zb cr => ?_⟩)))))))))
  refine ea_cons (EV.imp (W := fun d => ∃ most : Int, d = .int most ∧ most = (if p = 2 then 6 else 3)) ?_ ?_)
  · refine ev_if (et_T (ev_eqI ?_))
    and_intros
    refine iteD (fun q => ?_) (fun q => ?_)
    · and_intros
      rw [if_pos q]
    · and_intros
      rw [if_neg q]
  rintro d ⟨most, rfl, hm⟩
  refine ea_nil ⟨Nat.le_of_ble_eq_true rfl, _, rfl, rfl, ?_⟩
  have mo : 0 < most ∧ most ≤ 6 := by rw [hm]; split <;> decide
  refine xs_seq (xs_asg (ev_lcR1 (ea_cons (ev_int (ea_nil ⟨2, fun k ds => ∃ zs : List Int, ds = zs.map PyData.int ∧ zs.length = k ∧ ∀ z ∈ zs, 0 < z ∧ z ≤ 343, rfl, by decide, ⟨[], rfl, rfl, fun z hz => by cases hz⟩, ?_, ?_⟩)))))
  · rintro k hk G hG ds ⟨zs, rfl, lz, hz⟩
    refine et_yes ?_
    rw [if_pos rfl]
    have sG := sf.hid hG
    refine ev_ixT (ev_call (ea_cons (ev_var rfl (ea_cons (s_add (ev_int (ev_callI i sG (ea_cons (ev_var rfl (ea_cons (ev_var rfl (ea_nil ⟨rfl, most, rfl, mo.1, fun j j0 j1 => ⟨_, _, rfl, rfl, ea_nil ⟨rfl, p, 1 + j.toNat, ?_, pp_sz h, by omega, ?_⟩⟩⟩))))))))))))
    · rw [show ((1 + j.toNat : Nat) : Int) = 1 + j by omega]
    · refine ev_int ⟨_, _, _, rfl, rfl, rfl, ?_⟩
      have gb := gap_bd h (k := j.toNat) (by rw [hm] at j1; split at j1 <;> (split <;> omega))
      refine ⟨zs ++ [p ^ (1 + j.toNat)], by rw [List.map_append]; rfl, by rw [List.length_append, lz]; rfl, fun z q => ?_⟩
      rcases List.mem_append.mp q with q | q
      · exact hz z q
      · rw [List.mem_singleton.mp q]
        exact gb
  · rintro ds ⟨zs, rfl, lz, hz⟩
    match zs, lz, hz with
    | [g1, g2], _, hz =>
      have b1 := hz g1 (by simp)
      have b2 := hz g2 (by simp)
      show XS F K _ (nS i p a b most g1 g2 none none none none) _ W
      refine near_loop sf (fun G D q g o6 o7 o8 qg => ?_) fun c1 c2 o6 o7 o8 oc1 oc2 zc1 zc2 => ?_
      · have gb : 0 < g ∧ g ≤ 343 := by rcases qg with ⟨_, rfl⟩ | ⟨_, rfl⟩ <;> assumption
        have oq : q.ok ∧ q.sz 5 := by rcases qg with ⟨rfl, _⟩ | ⟨rfl, _⟩ <;> constructor <;> assumption
        have sg : sz 9 g := sz_abs (b := 343) (by decide) (by unfold sz; decide) (by omega)
        refine ev_if (et_T (ev_eqI ?_))
        and_intros
        refine iteD (fun _ => ?_) (fun q0 => ?_)
        · and_intros
          exact ⟨⟨1, g⟩, rfl, ⟨Int.one_gcd .., .inl gb.1⟩, sz_mono sz_one (by decide), sz_mono sg (by decide)⟩
        · and_intros
          refine ⟨cm_of sg oq.2.2 (by decide), ?_⟩
          and_intros
          have s1 : sz 15 (q.x + g * q.y) := sz_add oq.2.1 (sz_mul sg oq.2.2) (by decide) (by decide)
          exact ⟨_, _, rfl, q0, fun x y k k0 e1 e2 bp gc => ⟨⟨x, y⟩, rfl, ⟨gc, .inl bp⟩, mul_sz k0 e1 s1, mul_sz k0 e2 (sz_mono oq.2.2 (by decide))⟩⟩
      · have r0 : RP 15 (dP a) (dP b) := ⟨a, b, rfl, rfl, cr, ⟨sz_mono za.1 (by decide), sz_mono za.2 (by decide)⟩, ⟨sz_mono zb.1 (by decide), sz_mono zb.2 (by decide)⟩⟩
        refine xs_seq (xs_asg (ev_ends2 sf h (by decide) r0 rfl rfl (ev_at (k := 0) rfl rfl) (ev_at (k := 1) rfl rfl) fun L dL sL => ?_))
        refine xs_seq (xs_asg (EV.imp (W := fun d => ∃ x y : PyData, d = .list [x, y] ∧ RP 15 x y) ?_ ?_))
        · refine ev_if (et_T (ev_neD (EV.imp (ev_at (k := 0) rfl rfl) ?_)))
          rintro d rfl
          refine EV.imp (ev_at (k := 1) rfl rfl) ?_
          rintro d rfl
          refine ⟨rfl, rfl, _, rfl, ?_⟩
          refine iteB (fun q => ?_) (fun _ => ?_)
          · refine ev_var rfl ⟨_, _, rfl, c1, c2, rfl, rfl, fun z => ?_, zc1, zc2⟩
            rw [eqP.mpr (crs_eq oc1 oc2 z)] at q
            cases q
          · exact ev_var rfl ⟨_, _, rfl, r0⟩
        rintro d ⟨x, y, rfl, r⟩
        refine xs_seq (xs_asg (EV.imp (W := fun d => ∃ x y : PyData, d = .list [x, y] ∧ RP 15 x y) ?_ ?_))
        · refine ev_if (et_T (ev_eqI (ev_pick sf (by decide) rfl fun k k0 k1 => ?_)))
          and_intros
          refine iteD (fun _ => ?_) (fun _ => ?_)
          · exact ev_var rfl ⟨_, _, rfl, r⟩
          · exact ev_revL (ev_var rfl ⟨_, rfl, _, _, rfl, r.symm⟩)
        rintro d ⟨x', y', rfl, r'⟩
        refine xs_ret (s_tup (ea_cons (ev_var rfl (ea_cons (ev_ends2 sf h (by decide) r' rfl rfl (ev_at (k := 0) rfl rfl) (ev_at (k := 1) rfl rfl) fun L2 dL2 sL2 => ea_nil ⟨Nat.le_of_ble_eq_true rfl, ?_⟩)))))
        exact w L L2 dL dL2 sL sL2
end
end Bm
-- BmR17
set_option maxRecDepth 100000
set_option maxHeartbeats 2000000
/-! BmR17: moves changed. -/
namespace Bm
open PySem PySem.Spec PyProof.Rows L2 Bt
local macro_rules | `(tactic| and_intros) => `(tactic| repeat (with_reducible first
  | refine xs_seq ?_ | refine xs_ret ?_ | refine xs_asg ?_ | refine xs_par ?_ | refine xs_par3 ?_ | refine xs_if ?_ | refine xs_asgT rfl ?_
  | (refine ev_var (d := ?_) ?_ ?_; rotate_left; (with_unfolding_all exact rfl))
  | refine ev_int ?_ | refine ev_bl ?_ | refine ev_str ?_ | refine ev_non ?_
  | refine ev_ixT ?_ | refine ev_ixL ?_ | refine ea_nil ?_ | refine ea_cons ?_ | refine s_tup ?_ | refine s_dis ?_ | refine ev_call ?_
  | refine ⟨_, _, _, rfl, rfl, (by with_unfolding_all exact rfl), ?_⟩
  | refine s_add ?_ | refine s_sub ?_ | refine s_mul ?_ | refine s_fdv ?_ | refine s_mod ?_ | refine s_lt ?_ | refine s_le ?_ | refine s_gt ?_ | refine s_ge ?_ | refine s_neg ?_
  | refine ⟨_, _, rfl, rfl, ?_⟩ | refine ⟨_, _, rfl, ?_⟩ | refine ⟨_, rfl, ?_⟩
  | refine ev_if ?_ | refine et_T ?_ | refine et_B ?_ | refine et_not ?_ | refine et_and ?_ | refine et_or ?_
  | refine ev_gcd2 ?_ | refine ev_eqI ?_ | refine ev_neI ?_
  | refine ⟨(by with_unfolding_all exact rfl), ?_⟩ | refine ⟨Nat.le_of_ble_eq_true (by with_unfolding_all exact rfl), ?_⟩
  | refine ⟨_, rfl, (by with_unfolding_all exact rfl), ?_⟩))
/-! ### products the other way round -/
theorem strv_comm (p : Int) (M N : Mt) : strv p (Mt.mul M N) = strv p (Mt.mul N M) := by
  have e : Mt.det (Mt.mul M N) = Mt.det (Mt.mul N M) := by
    rw [Mt.det_mul, Mt.det_mul]
    exact Rat.mul_comm _ _
  unfold strv
  rw [Mt.tr_mul_comm M N, e]
theorem strv_cross (p : Int) (M N : Mt) : strv p (Mt.mul (Mt.adj M) N) = strv p (Mt.mul M (Mt.adj N)) := by
  rw [← strv_adj p (Mt.mul (Mt.adj M) N), Mt.adj_mul', Mt.adj_adj, strv_comm]
theorem comm_left {A M N : Mt} (h : Mt.mul N A = Mt.mul A N) : Mt.det (comm (Mt.mul A M) N) = Mt.det A * Mt.det (comm M N) := by
  have e : comm (Mt.mul A M) N = Mt.mul A (comm M N) := by
    unfold comm
    rw [Mt.mul_assoc, ← Mt.mul_assoc N A M, h, Mt.mul_assoc]
    apply Mt.ext' <;> simp only [Mt.mul, Mt.sub] <;> grind
  rw [e, Mt.det_mul]
theorem pm_comm (N : Mt) (s : Int) : Mt.mul N (if s = 1 then N else Mt.adj N) = Mt.mul (if s = 1 then N else Mt.adj N) N := by
  split
  · rfl
  · rw [Mt.mul_adj, Mt.adj_mul]
theorem pm_det {N : Mt} (hN : Mt.det N ≠ 0) (s : Int) : Mt.det (if s = 1 then N else Mt.adj N) ≠ 0 := by
  split
  · exact hN
  · exact adj_ne hN
theorem Chg.sim {M N L : Mi} {s : Int} (c : Chg M N L s) : Sim L (Mt.mul (if s = 1 then N.m else Mt.adj N.m) M.m) := ⟨c⟩
theorem Chg.dt {M N L : Mi} {s : Int} (c : Chg M N L s) (hM : Mt.det M.m ≠ 0) (hN : Mt.det N.m ≠ 0) : Mt.det L.m ≠ 0 := c.sim.det (mul_det (pm_det hN s) hM)
theorem Chg.cm {M N L : Mi} {s : Int} (c : Chg M N L s) (hN : Mt.det N.m ≠ 0) (hC : Mt.det (comm M.m N.m) ≠ 0) : Mt.det (comm L.m N.m) ≠ 0 := by
  obtain ⟨k, hk, e⟩ := c
  intro z
  have h1 := comm_sm k L.m N.m
  rw [e, z, Rat.mul_zero, comm_left (pm_comm N.m s)] at h1
  exact (Rat.mul_eq_zero.mp h1).elim (pm_det hN s) hC
section
variable {p : Int} (h : PP p) {M N L : Mi}
/-- where the lines are long together, the change makes the stretch fall -/
theorem chg_falls (t : Two h M N) {Fi La : B p} {w : Int} (A : AlM h M N Fi La) (wi : WyM h N Fi La w) (hl : min (st p M) (st p N) ≤ (tr h).d Fi La) :
    (w = 1 ∨ w = -1) ∧ (Chg M N L (-w) → st p N < st p M → st p L ≤ st p M - st p N) ∧ (Chg N M L (-w) → ¬ st p N < st p M → st p L ≤ st p N - st p M) := by
  obtain ⟨n1, n2, hw, q1, q2, q3⟩ := prods_al h t A wi
  have sm := t.sm
  have sn := t.sn
  have q4 := q3 (by omega)
  have w0 : w ≠ 0 := fun z => by
    subst z
    rcases wi with ⟨e, _⟩ | ⟨_, e, _⟩ | ⟨_, e, _⟩
    · rw [e, (tr h).self] at hl
      omega
    · cases e
    · cases e
  have hL0 : ∀ {X : Mt}, Sim L X → Mt.det X ≠ 0 → st p L = strv p X := fun s d => s.st h d
  rcases wi.one with rfl | rfl | rfl
  · exact absurd rfl w0
  · obtain ⟨_, e2⟩ : n1 = strv p (Mt.mul M.m N.m) ∧ n2 = strv p (Mt.mul M.m (Mt.adj N.m)) := by
      rcases hw with ⟨_, a, b⟩ | ⟨a, _, _⟩
      · exact ⟨a, b⟩
      · cases a
    refine ⟨.inl rfl, fun c q => ?_, fun c q => ?_⟩
    · have e := hL0 c.sim (mul_det (pm_det t.on.det _) t.om.det)
      rw [if_neg (by decide)] at e
      rw [strv_comm] at e
      omega
    · have e := hL0 c.sim (mul_det (pm_det t.om.det _) t.on.det)
      rw [if_neg (by decide), strv_cross] at e
      omega
  · obtain ⟨_, e2⟩ : n1 = strv p (Mt.mul M.m (Mt.adj N.m)) ∧ n2 = strv p (Mt.mul M.m N.m) := by
      rcases hw with ⟨a, _, _⟩ | ⟨_, a, b⟩
      · omega
      · exact ⟨a, b⟩
    refine ⟨.inr rfl, fun c q => ?_, fun c q => ?_⟩
    · have e := hL0 c.sim (mul_det (pm_det t.on.det _) t.om.det)
      rw [if_pos (by decide), strv_comm] at e
      omega
    · have e := hL0 c.sim (mul_det (pm_det t.om.det _) t.on.det)
      rw [if_pos (by decide)] at e
      omega
end
/-! ### conjugates shorten alike -/
structure Cn {p : Int} (h : PP p) (t M N M1 N1 : Mi) : Prop where
  dt : Mt.det t.m ≠ 0
  dM : Mt.det M.m ≠ 0
  dN : Mt.det N.m ≠ 0
  dM1 : Mt.det M1.m ≠ 0
  dN1 : Mt.det N1.m ≠ 0
  sM : 0 < st p M
  sN : 0 < st p N
  cM : Cj (ac h t) (ac h M) (ac h M1)
  cN : Cj (ac h t) (ac h N) (ac h N1)
section
variable {p : Int} {h : PP p} {t M N M1 N1 : Mi}
theorem cj_st (dt : Mt.det t.m ≠ 0) (dM : Mt.det M.m ≠ 0) (dM1 : Mt.det M1.m ≠ 0) (c : Cj (ac h t) (ac h M) (ac h M1)) : st p M1 = st p M :=
  StrOk.uniq (isoM h dM1) (str_ok h.pi dM1) (c.str (isoM h dt) (str_ok h.pi dM)) (root h)
theorem Cn.eM (c : Cn h t M N M1 N1) : st p M1 = st p M := cj_st c.dt c.dM c.dM1 c.cM
theorem Cn.eN (c : Cn h t M N M1 N1) : st p N1 = st p N := cj_st c.dt c.dN c.dN1 c.cN
theorem Cn.ap (c : Cn h t M N M1 N1) {b o : B p} (A : ApM h M N b o) : ApM h M1 N1 (ac h t b) (ac h t o) := by
  have := c.cM.apart (isoM h c.dt) c.cN A
  unfold ApM
  rw [c.eM, c.eN]
  exact this
theorem Cn.al (c : Cn h t M N M1 N1) {Fi La : B p} (A : AlM h M N Fi La) : AlM h M1 N1 (ac h t Fi) (ac h t La) := by
  have := c.cM.along (isoM h c.dt) c.cN A
  unfold AlM
  rw [c.eM, c.eN]
  exact this
theorem Cn.wy (c : Cn h t M N M1 N1) {Fi La : B p} {w : Int} (W : WyM h N Fi La w) : WyM h N1 (ac h t Fi) (ac h t La) w := by
  have := c.cN.way (isoM h c.dt) W
  unfold WyM
  rw [c.eN]
  exact this
theorem Cn.same (c : Cn h t M N M1 N1) {Fi La F1 L1 : B p} (A : AlM h M N Fi La) (A1 : AlM h M1 N1 F1 L1) : F1 = ac h t Fi ∧ L1 = ac h t La := by
  have := Along.uniq (isoM h c.dM1) (hypM h c.dM1 (by rw [c.eM]; exact c.sM)) A1 (c.al A)
  exact this
theorem Cn.d (c : Cn h t M N M1 N1) {Fi La F1 L1 : B p} (A : AlM h M N Fi La) (A1 : AlM h M1 N1 F1 L1) : (tr h).d F1 L1 = (tr h).d Fi La := by
  obtain ⟨rfl, rfl⟩ := c.same A A1
  exact (isoM h c.dt).iso _ _
theorem Cn.way (c : Cn h t M N M1 N1) {Fi La F1 L1 : B p} {w w1 : Int} (A : AlM h M N Fi La) (A1 : AlM h M1 N1 F1 L1) (W : WyM h N Fi La w) (W1 : WyM h N1 F1 L1 w1) : w1 = w := by
  obtain ⟨rfl, rfl⟩ := c.same A A1
  exact WayIs.uniq (isoM h c.dN1) (hypM h c.dN1 (by rw [c.eN]; exact c.sN)) A1.hF A1.hL W1 (c.wy W)
theorem Cn.no_ap (c : Cn h t M N M1 N1) {b o F1 L1 : B p} (A : ApM h M N b o) (A1 : AlM h M1 N1 F1 L1) : False := (c.ap A).none A1.gF A1.hF
theorem Cn.no_ap' (c : Cn h t M N M1 N1) {b o Fi La : B p} (A : AlM h M N Fi La) (A1 : ApM h M1 N1 b o) : False := A1.none (c.al A).gF (c.al A).hF
theorem Cn.free_no (c : Cn h t M N M1 N1) {s : F4 p} {F1 L1 : B p} (f : Frs h M N s.D) (A1 : AlM h M1 N1 F1 L1) (q : min (st p M1) (st p N1) ≤ (tr h).d F1 L1) : False := by
  generalize hd : s.D = dd at f
  cases f with
  | no => cases hd
  | ap A => exact c.no_ap A A1
  | al A _ l _ _ _ _ _ =>
    have := c.d A A1
    rw [c.eM, c.eN] at q
    omega
theorem Cn.no_free (c : Cn h t M N M1 N1) {s : F4 p} {Fi La : B p} (A : AlM h M N Fi La) (q : min (st p M) (st p N) ≤ (tr h).d Fi La) (f : Frs h M1 N1 s.D) : False := by
  generalize hd : s.D = dd at f
  cases f with
  | no => cases hd
  | ap A1 => exact c.no_ap' A A1
  | al A1 _ l _ _ _ _ _ =>
    have := c.d A A1
    rw [c.eM, c.eN] at l
    omega
theorem Cj.inv {g g' g1 g1' t : B p → B p} (c : Cj t g g1) (G : Iso (tr h) g g') (G1 : Iso (tr h) g1 g1') : Cj t g' g1' := fun x => by
  have e := c (g' x)
  rw [G.r] at e
  rw [← e, G1.l]
theorem chg_cj {A A1 C C1 L L1 : Mi} {s : Int} (dA : Mt.det A.m ≠ 0) (dA1 : Mt.det A1.m ≠ 0) (dC : Mt.det C.m ≠ 0) (dC1 : Mt.det C1.m ≠ 0) (cA : Cj (ac h t) (ac h A) (ac h A1)) (cC : Cj (ac h t) (ac h C) (ac h C1))
    (c : Chg A C L s) (c1 : Chg A1 C1 L1 s) : Cj (ac h t) (ac h L) (ac h L1) := fun x => by
  rw [c.sim.act h (mul_det (pm_det dC s) dA), c1.sim.act h (mul_det (pm_det dC1 s) dA1), act_mul h.pi (pm_det dC1 s) dA1, act_mul h.pi (pm_det dC s) dA]
  have e1 : act h.pi A1.m (ac h t x) = ac h t (act h.pi A.m x) := cA x
  rw [e1]
  by_cases q : s = 1
  · rw [if_pos q, if_pos q]
    exact cC _
  · rw [if_neg q, if_neg q]
    exact Cj.inv cC (isoM h dC) (isoM h dC1) _
end
/-- what shorten's run says of its first turn -/
theorem Shr.view {p : Int} {h : PP p} {M N : Mi} {cs : List (Int × Int)} {v : Vd} (r : Shr h M N cs v) : (∃ s : F4 p, Frs h M N s.D ∧ cs = [] ∧ v = .free) ∨
    ∃ (Fi La : B p) (w : Int) (L : Mi), AlM h M N Fi La ∧ WyM h N Fi La w ∧ min (st p M) (st p N) ≤ (tr h).d Fi La ∧
      ((st p N < st p M ∧ Chg M N L (-w) ∧ (st p L = 0 ∧ cs = [(0, -w)] ∧ v = .rests 0 ∨ 0 < st p L ∧ ∃ c2, cs = (0, -w) :: c2 ∧ Shr h L N c2 v)) ∨
       (¬ st p N < st p M ∧ Chg N M L (-w) ∧ (st p L = 0 ∧ cs = [(1, -w)] ∧ v = .rests 1 ∨ 0 < st p L ∧ ∃ c2, cs = (1, -w) :: c2 ∧ Shr h M L c2 v))) := by
  cases r with
  | free f => exact .inl ⟨_, f, rfl, rfl⟩
  | rest0 a b c d e f => exact .inr ⟨_, _, _, _, a, b, c, .inl ⟨d, e, .inl ⟨f, rfl, rfl⟩⟩⟩
  | rest1 a b c d e f => exact .inr ⟨_, _, _, _, a, b, c, .inr ⟨d, e, .inl ⟨f, rfl, rfl⟩⟩⟩
  | step0 a b c d e f g => exact .inr ⟨_, _, _, _, a, b, c, .inl ⟨d, e, .inr ⟨f, _, rfl, g⟩⟩⟩
  | step1 a b c d e f g => exact .inr ⟨_, _, _, _, a, b, c, .inr ⟨d, e, .inr ⟨f, _, rfl, g⟩⟩⟩
theorem shr_alike {p : Int} {h : PP p} {t : Mi} : ∀ (cs : List (Int × Int)) {cs1 : List (Int × Int)} {M N M1 N1 : Mi} {v v1 : Vd}, Cn h t M N M1 N1 → Shr h M N cs v → Shr h M1 N1 cs1 v1 → cs1 = cs ∧ v1 = v := by
  intro cs
  induction cs with
  | nil =>
    intro cs1 M N M1 N1 v v1 c r r1
    rcases r.view with ⟨s, f, e1, e2⟩ | ⟨Fi, La, w, L, A, wi, q, ⟨_, _, ⟨_, e, _⟩ | ⟨_, _, e, _⟩⟩ | ⟨_, _, ⟨_, e, _⟩ | ⟨_, _, e, _⟩⟩⟩
    · rcases r1.view with ⟨s1, f1, e3, e4⟩ | ⟨F1, L1, w1, L', A1, wi1, q1, _⟩
      · exact ⟨e3, by rw [e4, e2]⟩
      · exact (c.free_no f A1 q1).elim
    all_goals cases e
  | cons c0 cs ih =>
    intro cs1 M N M1 N1 v v1 c r r1
    have eM := c.eM
    have eN := c.eN
    rcases r.view with ⟨s, f, e1, e2⟩ | ⟨Fi, La, w, L, A, wi, q, k⟩
    · cases e1
    rcases r1.view with ⟨s1, f1, e3, e4⟩ | ⟨F1, L1, w1, L', A1, wi1, q1, k1⟩
    · exact (c.no_free A q f1).elim
    have ew := c.way A A1 wi wi1
    subst ew
    rcases k with ⟨l, g, k⟩ | ⟨l, g, k⟩
    · rcases k1 with ⟨l1, g1, k1⟩ | ⟨l1, g1, k1⟩
      · have cj := chg_cj c.dM c.dM1 c.dN c.dN1 c.cM c.cN g g1
        have es := cj_st c.dt (g.dt c.dM c.dN) (g1.dt c.dM1 c.dN1) cj
        rcases k with ⟨z, e1, e2⟩ | ⟨z, c2, e1, r2⟩
        · rcases k1 with ⟨z1, e3, e4⟩ | ⟨z1, _⟩
          · exact ⟨by rw [e3, e1], by rw [e4, e2]⟩
          · omega
        · rcases k1 with ⟨z1, _⟩ | ⟨z1, c3, e3, r3⟩
          · omega
          · cases e1
            have := ih (⟨c.dt, g.dt c.dM c.dN, c.dN, g1.dt c.dM1 c.dN1, c.dN1, z, c.sN, cj, c.cN⟩ : Cn h t L N L' N1) r2 r3
            exact ⟨by rw [e3, this.1], this.2⟩
      · omega
    · rcases k1 with ⟨l1, g1, k1⟩ | ⟨l1, g1, k1⟩
      · omega
      · have cj := chg_cj c.dN c.dN1 c.dM c.dM1 c.cN c.cM g g1
        have es := cj_st c.dt (g.dt c.dN c.dM) (g1.dt c.dN1 c.dM1) cj
        rcases k with ⟨z, e1, e2⟩ | ⟨z, c2, e1, r2⟩
        · rcases k1 with ⟨z1, e3, e4⟩ | ⟨z1, _⟩
          · exact ⟨by rw [e3, e1], by rw [e4, e2]⟩
          · omega
        · rcases k1 with ⟨z1, _⟩ | ⟨z1, c3, e3, r3⟩
          · omega
          · cases e1
            have := ih (⟨c.dt, c.dM, g.dt c.dN c.dM, c.dM1, g1.dt c.dN1 c.dM1, c.sM, z, c.cM, cj⟩ : Cn h t M L M1 L') r2 r3
            exact ⟨by rw [e3, this.1], this.2⟩
end Bm
-- BmR18
set_option maxRecDepth 100000
set_option maxHeartbeats 2000000
/-! BmR18: shorten. -/
namespace Bm
open PySem PySem.Spec PyProof.Rows L2 Bt
local macro_rules | `(tactic| and_intros) => `(tactic| repeat (with_reducible first
  | refine xs_seq ?_ | refine xs_ret ?_ | refine xs_asg ?_ | refine xs_par ?_ | refine xs_par3 ?_ | refine xs_if ?_ | refine xs_asgT rfl ?_
  | (refine ev_var (d := ?_) ?_ ?_; rotate_left; (with_unfolding_all exact rfl))
  | refine ev_int ?_ | refine ev_bl ?_ | refine ev_str ?_ | refine ev_non ?_
  | refine ev_ixT ?_ | refine ev_ixL ?_ | refine ea_nil ?_ | refine ea_cons ?_ | refine s_tup ?_ | refine s_dis ?_ | refine ev_call ?_
  | refine ⟨_, _, _, rfl, rfl, (by with_unfolding_all exact rfl), ?_⟩
  | refine s_add ?_ | refine s_sub ?_ | refine s_mul ?_ | refine s_fdv ?_ | refine s_mod ?_ | refine s_lt ?_ | refine s_le ?_ | refine s_gt ?_ | refine s_ge ?_ | refine s_neg ?_
  | refine ⟨_, _, rfl, rfl, ?_⟩ | refine ⟨_, _, rfl, ?_⟩ | refine ⟨_, rfl, ?_⟩
  | refine ev_if ?_ | refine et_T ?_ | refine et_B ?_ | refine et_not ?_ | refine et_and ?_ | refine et_or ?_
  | refine ev_gcd2 ?_ | refine ev_eqI ?_ | refine ev_neI ?_
  | refine ⟨(by with_unfolding_all exact rfl), ?_⟩ | refine ⟨Nat.le_of_ble_eq_true (by with_unfolding_all exact rfl), ?_⟩
  | refine ⟨_, rfl, (by with_unfolding_all exact rfl), ?_⟩))
section
variable {F : Fr} {K : PySem.W.Frag} {W : PyData → Prop}
theorem DDs.set {H : Hp} {v : V} {d : PyData} (av : DD K H v d) : ∀ {ds : List PyData} {us : List V} (n : Nat), DDs K H us ds → DDs K H (us.set n v) (ds.set n d)
  | _, _, _, .nil => .nil
  | _, _, 0, .cons _ r => .cons av r
  | _, _, n + 1, .cons a r => .cons a (DDs.set av n r)
/-- a new list stands aside -/
theorem hide_new {H : Hp} {D : Addr} {xs : List V} (ok : F.ok H) (hD : H D = none) : Ex (F.mk' H) ((F.hide D xs).mk' (upd H D (.lst xs))) := fun z o h => by
  have m0 := Fr.out ok hD
  have hz := F.sub _ _ h
  have nz : z ≠ D := fun e => by rw [e, hD] at hz; cases hz
  have mz : F.ms z = false := by
    cases e : F.ms z with
    | false => rfl
    | true =>
      unfold Fr.mk' at h
      rw [e] at h
      cases h
  have : (F.hide D xs).ms z = false := by
    show (F.ms z || decide (z = D)) = false
    rw [mz, decide_eq_false nz]
    rfl
  rw [Fr.at this, upd_ne nz]
  exact hz
/-- a list that stands aside changes -/
theorem hide_put {H : Hp} {D : Addr} {xs ys : List V} : (F.hide D ys).mk' (upd H D (.lst ys)) = (F.hide D xs).mk' H := by
  funext z
  show (if (F.ms z || decide (z = D)) = true then none else upd H D (.lst ys) z) = (if (F.ms z || decide (z = D)) = true then none else H z)
  by_cases e : z = D
  · rw [decide_eq_true e, Bool.or_true, if_pos rfl, if_pos rfl]
  · rw [upd_ne e]
theorem r_change_moves : Kp F K (t_change_moves K) 2 6 c_change_moves := fun ds W hl c => by
  obtain ⟨M, N, k, s, rfl, sM, sN, dM', dN', hs, w⟩ := c
  unfold t_change_moves
  refine xs_seq (xs_asgT rfl (ev_var rfl ⟨_, rfl, rfl, ?_⟩))
  -- A is changed by C
  obtain ⟨A, C, zA, zC, dA, dC, atA, atC, k01, wA⟩ : ∃ A C : Mi, A.sz 60000000 ∧ C.sz 60000000 ∧ Mt.det A.m ≠ 0 ∧ Mt.det C.m ≠ 0 ∧ L2.atI [dM M, dM N] k = some (dM A) ∧ L2.atI [dM M, dM N] (1 - k) = some (dM C) ∧
      (k = 0 ∨ k = 1) ∧ ∀ L : Mi, Chg A C L s → (∀ n m, A.sz n → C.sz m → L.sz (n + m + 1)) → W (.list ([dM M, dM N].set k.toNat (dM L))) := by
    rcases w with ⟨rfl, w⟩ | ⟨rfl, w⟩
    · exact ⟨M, N, sM, sN, dM', dN', rfl, rfl, .inl rfl, w⟩
    · exact ⟨N, M, sN, sM, dN', dM', rfl, rfl, .inr rfl, fun L c z => w L c fun n m a b => (z m n b a).mono (by omega)⟩
  clear w
  refine xs_seq (xs_asg (EV.imp (W := fun d => ∃ E : Mi, d = dM E ∧ E.sz 60000000 ∧ Sim E (if s = 1 then C.m else Mt.adj C.m) ∧ ∀ n, C.sz n → E.sz n) ?_ ?_))
  · refine ev_if (et_T (ev_eqI ?_))
    and_intros
    refine iteD (fun q => ?_) (fun q => ?_)
    · refine ev_ixL ?_
      and_intros
      refine ⟨_, _, _, rfl, rfl, atC, C, rfl, zC, ?_, fun _ z => z⟩
      rw [if_pos q]
      exact sim_refl C
    · refine ev_call (ea_cons (ev_ixL ?_))
      and_intros
      refine ⟨_, _, _, rfl, rfl, atC, ea_nil ⟨rfl, C, rfl, dC, fun E k hk e1 e2 e3 e4 => ⟨E, rfl, back_len zC hk e1 e2 e3 e4, ?_, fun n z => back_len z hk e1 e2 e3 e4⟩⟩⟩
      rw [if_neg q]
      exact back_sim hk e1 e2 e3 e4
  rintro d ⟨E, rfl, zE, sE, lE⟩
  have dE := sE.det (pm_det dC s)
  -- the new list
  intro σ H sl D hn hr
  obtain ⟨v0, x0, a0⟩ := sl.get (i := 0) rfl
  obtain ⟨q, vs, y0, hq, dvs⟩ := lst_inv a0
  subst y0
  refine ⟨_, x0, q, vs, rfl, .inl (SqL.of (F.sub _ _ hq)), fun D0 hD0 => ?_⟩
  have m0 := Fr.out sl.ok hD0
  have ex0 := hide_new (xs := vs) sl.ok hD0
  have lenσ : σ.length = 6 := by
    have : ∀ {S : SS} {σ : L2.St} {H : Hp}, Sl K H σ S → σ.length = S.length := fun h => by
      induction h with
      | nil => rfl
      | skip _ ih => exact congrArg (· + 1) ih
      | cons _ _ ih => exact congrArg (· + 1) ih
    exact this sl.sl
  have s1 : SF (F.hide D0 vs) K (upd H D0 (.lst vs)) (σ.set 5 (some (.ref D0))) [some (.list [dM M, dM N]), some (.tuple [.int k, .int s]), some (.int k), some (.int s), some (dM E), some (dO D0)] :=
    ⟨⟨Fr.put sl.ok m0, upd_same⟩, Sl.set (.obj D0) 5 (sl.sl.mono ex0)⟩
  have val : EV (F.hide D0 vs) K (tCall (Pur K 2 c_after) [] E0 (tCons (tVar 4) (tCons (tOp (rIxL K) (tVar 0) (tVar 2)) (tNil)))) [some (.list [dM M, dM N]), some (.tuple [.int k, .int s]), some (.int k), some (.int s), some (dM E), some (dO D0)]
      fun d => ∃ L : Mi, d = dM L ∧ Chg A C L s ∧ ∀ n m, A.sz n → C.sz m → L.sz (n + m + 1) := by
    refine ev_call (ea_cons (ev_var rfl (ea_cons (ev_ixL (ev_var rfl (ev_var rfl ⟨_, _, _, rfl, rfl, atA, ea_nil ⟨rfl, E, A, rfl, zE, zA, dE, dA, fun L k hk e1 e2 e3 e4 => ?_⟩⟩))))))
    refine ⟨L, rfl, (sE.mul (sim_refl A) (after_sim hk e1 e2 e3 e4)).ex, fun n m a b => (after_len (lE m b) a hk e1 e2 e3 e4).mono (by omega)⟩
  refine val _ _ s1 _ fun v d H2 g2 av ⟨L, ed, cL, lL⟩ => ?_
  subst ed
  have c5 : (σ.set 5 (some (.ref D0)))[5]? = some (some (.ref D0)) := List.getElem?_set_self (by omega)
  have c2 : (σ.set 5 (some (.ref D0)))[2]? = some (some (.int k)) := by
    obtain ⟨v, xv, a⟩ := sl.get (i := 2) rfl
    cases int_inv a
    rw [List.getElem?_set_ne (by decide)]
    exact xv
  have lvs : vs.length = 2 := dvs.len
  have hk2 : ixN vs.length k = some k.toNat := by
    rw [lvs]
    rcases k01 with rfl | rfl <;> rfl
  refine ⟨_, c5, _, c2, D0, vs, k, k.toNat, rfl, rfl, g2.1.2, hk2, ?_⟩
  refine ⟨_, c5, ?_⟩
  have hp : (F.hide D0 (vs.set k.toNat v)).mk' (upd H2 D0 (.lst (vs.set k.toNat v))) = (F.hide D0 vs).mk' H2 := hide_put
  have hs := Fr.hide_sub (F := F) (D := D0) (acc := vs.set k.toNat v) (H := upd H2 D0 (.lst (vs.set k.toNat v)))
  rw [hp] at hs
  refine hr _ (.list ([dM M, dM N].set k.toNat (dM L))) _ ⟨Fr.put g2.1.1 m0, (ex0.trans g2.2).trans hs⟩ (.lst ?_ ((DDs.set av k.toNat (dvs.mono (ex0.trans g2.2))).mono hs)) (wA L cL lL)
  rw [Fr.at m0]
  exact upd_same
theorem cons_run {te : TE} {t : TA} {σ : L2.St} {H : Hp} {Q : List V → Hp → Prop} (h : te σ H fun x H1 => t σ H1 fun xs H2 => Q (x :: xs) H2) : tCons te t σ H Q := h
theorem seq_run {t u : TS} {D : Ends} {σ : L2.St} {H : Hp} (h : t { D with nx := u D } σ H) : tSeq t u D σ H := h
theorem par3_run {i j l : Nat} {ta : TA} {D : Ends} {σ : L2.St} {H : Hp} (h : ta σ H fun vs H1 => ∃ u v w, vs = [u, v, w] ∧ D.nx (((σ.set i (some u)).set j (some v)).set l (some w)) H1) : tPar3 i j l ta D σ H := h
theorem st_nn (p : Int) (M : Mi) : 0 ≤ st p M := by
  show 0 ≤ strv p M.m
  unfold strv
  split
  · exact Int.le_refl _
  · exact Int.le_max_left _ _
theorem not_in1 : (["same", "end"] : List Str).any (fun y => decide (y = ("apart" : Str))) = false := by decide +kernel
theorem not_in2 : (["same", "end"] : List Str).any (fun y => decide (y = ("along" : Str))) = false := by decide +kernel
/-- the pair at a turn, words a, b long -/
structure Wd (p : Int) (M N : Mi) (a b : Nat) : Prop where
  sM : M.sz (51 * a - 1)
  sN : N.sz (51 * b - 1)
  a1 : 1 ≤ a
  b1 : 1 ≤ b
  le : st p M * b + st p N * a ≤ 210
theorem Wd.bd {p : Int} {M N : Mi} {a b : Nat} (w : Wd p M N a b) (hM : 0 < st p M) (hN : 0 < st p N) : a ≤ 210 ∧ b ≤ 210 := by
  have h1 := w.le
  have h2 : 1 * (b : Int) ≤ st p M * b := Int.mul_le_mul_of_nonneg_right (by omega) (by omega)
  have h3 : 1 * (a : Int) ≤ st p N * a := Int.mul_le_mul_of_nonneg_right (by omega) (by omega)
  omega
theorem Wd.step0 {p : Int} {M N L : Mi} {a b : Nat} (w : Wd p M N a b) (l : ∀ n m, M.sz n → N.sz m → L.sz (n + m + 1)) (e : st p L ≤ st p M - st p N) : Wd p L N (a + b) b := by
  have a1 := w.a1
  have b1 := w.b1
  refine ⟨(l _ _ w.sM w.sN).mono (by omega), w.sN, by omega, b1, ?_⟩
  have h1 := w.le
  have h2 : st p L * b ≤ (st p M - st p N) * b := Int.mul_le_mul_of_nonneg_right e (by omega)
  have h3 : st p N * ((a + b : Nat) : Int) = st p N * a + st p N * b := by
    rw [Int.natCast_add, Int.mul_add]
  rw [Int.sub_mul] at h2
  omega
theorem Wd.step1 {p : Int} {M N L : Mi} {a b : Nat} (w : Wd p M N a b) (l : ∀ n m, N.sz n → M.sz m → L.sz (n + m + 1)) (e : st p L ≤ st p N - st p M) : Wd p M L a (a + b) := by
  have a1 := w.a1
  have b1 := w.b1
  refine ⟨w.sM, (l _ _ w.sN w.sM).mono (by omega), a1, by omega, ?_⟩
  have h1 := w.le
  have h2 : st p L * a ≤ (st p N - st p M) * a := Int.mul_le_mul_of_nonneg_right e (by omega)
  have h3 : st p M * ((a + b : Nat) : Int) = st p M * a + st p M * b := by
    rw [Int.natCast_add, Int.mul_add]
  rw [Int.sub_mul] at h2
  omega
abbrev tBody3 (K : PySem.W.Frag) : TS := tSeq (tIfS (tTest (tOp rEq (tCall (Pur K 2 c_stretch) [] E0 (tCons (tVar 0) (tCons (tOp (rIxL K) (tVar 4) (tOp (rIxT K) (tVar 7) (tC (.int 0)))) (tNil)))) (tC (.int 0)))) (tRet (tTup (tCons (tVar 5) (tCons (tTup (tCons (tC (.str "rests")) (tCons (tOp (rIxT K) (tVar 7) (tC (.int 0))) (tNil)))) (tNil))))) (tNext)) (tAsg (tCall (Pur K 3 c_four_sides) [] E0 (tCons (tVar 0) (tCons (tOp (rIxL K) (tVar 4) (tC (.int 0))) (tCons (tOp (rIxL K) (tVar 4) (tC (.int 1))) (tNil))))) (gName 6))
theorem body3 {p : Int} (h : PP p) {M' N' L : Mi} {k s : Int} {D0 : Addr} {o1 o2 o3 o6 : Option PyData} (hk : L2.atI [dM M', dM N'] k = some (dM L)) (dL : Mt.det L.m ≠ 0) (zL : L.sz 60000000) (two : 0 < st p L → Two h M' N') {N : SS → Prop} {R : PyData → Prop}
    (hN : ∀ d, 0 < st p L → Frs h M' N' d → N [some (.int p), o1, o2, o3, some (.list [dM M', dM N']), some (dO D0), some d, some (dC (k, s))]) (hR : st p L = 0 → R (.tuple [dO D0, .tuple [.str "rests", .int k]])) :
    XS F K (tBody3 K) [some (.int p), o1, o2, o3, some (.list [dM M', dM N']), some (dO D0), o6, some (dC (k, s))] N R := by
  refine xs_seq (xs_if (et_T (ev_eqI (ev_call (ea_cons (ev_var rfl (ea_cons (ev_ixL (ev_var rfl (ev_ixT (ev_var rfl (ev_int ⟨_, _, _, rfl, rfl, rfl, ?_⟩))))))))))))
  refine ⟨_, _, _, rfl, rfl, hk, ea_nil ⟨rfl, p, L, h, rfl, dL, zL, ?_⟩⟩
  and_intros
  refine iteD (fun q => ?_) (fun q => ?_)
  · and_intros
    exact hR q
  · have sp : 0 < st p L := by
      have := st_nn p L
      omega
    refine xs_next (xs_asg ?_)
    and_intros
    exact ⟨p, h, M', N', rfl, two sp, fun d fd => hN d sp fd⟩
theorem r_shorten : Kp F K (t_shorten K) 3 8 c_shorten := fun ds W hl c => by
  obtain ⟨p, h, M0, N0, rfl, two0, ⟨z1, z2, z3⟩, w⟩ := c
  unfold t_shorten
  refine xs_seq (xs_asg (ev_call (ea_cons (ev_var rfl (ea_cons (ev_var rfl (ea_cons (ev_var rfl (ea_nil ⟨rfl, p, h, M0, N0, rfl, two0, fun told td => ?_⟩)))))))))
  refine xs_seq (xs_if (et_T (ev_inS ?_)))
  obtain ⟨x, r, et, ex⟩ : ∃ (x : Str) (r : List PyData), told = .tuple (.str x :: r) ∧ (["same", "end"] : List Str).any (fun y => decide (y = x)) = false := by
    cases td with
    | ap A => exact ⟨_, _, rfl, not_in1⟩
    | al A => exact ⟨_, _, rfl, not_in2⟩
  subst et
  refine ev_ixT (ev_var rfl (ev_int ⟨_, 0, .str x, rfl, rfl, ?_, ?_⟩))
  · rw [show ((0 : Int) = ((0 : Nat) : Int)) from rfl]
    exact atI_nat rfl
  refine s_tup (ea_cons (ev_str (ea_cons (ev_str (ea_nil ⟨Nat.le_of_ble_eq_true rfl, x, ["same", "end"], rfl, rfl, _, rfl, ?_⟩)))))
  rw [ex, if_neg Bool.false_ne_true]
  refine xs_next ?_
  -- moves, changes, sides
  intro σ H sl D hn hr
  have ev1 : EV F K (tLst (tCons (tVar 1) (tCons (tVar 2) (tNil)))) [some (.int p), some (dM M0), some (dM N0), some (.tuple (.str x :: r)), none, none, none, none] fun d => d = .list [dM M0, dM N0] :=
    s_dis (ea_cons (ev_var rfl (ea_cons (ev_var rfl (ea_nil ⟨Nat.le_of_ble_eq_true rfl, rfl⟩)))))
  refine seq_run (par3_run (cons_run ?_))
  refine ev1 σ H sl _ fun v1 d1 H1 e1 a1 ed1 => ?_
  subst ed1
  refine cons_run ?_
  refine ⟨Nat.zero_le _, fun D0 hD0 => ?_⟩
  have sl1 := sl.mono e1
  have m0 := Fr.out sl1.ok hD0
  have ex0 := hide_new (xs := []) sl1.ok hD0
  have s2 : SF (F.hide D0 []) K (upd H1 D0 (.lst [])) σ [some (.int p), some (dM M0), some (dM N0), some (.tuple (.str x :: r)), none, none, none, none] := ⟨⟨Fr.put sl1.ok m0, upd_same⟩, sl1.sl.mono ex0⟩
  have ev3 : EV (F.hide D0 []) K (tCall (Pur K 3 c_four_sides) [] E0 (tCons (tVar 0) (tCons (tVar 1) (tCons (tVar 2) (tNil))))) [some (.int p), some (dM M0), some (dM N0), some (.tuple (.str x :: r)), none, none, none, none] (Frs h M0 N0) :=
    ev_call (ea_cons (ev_var rfl (ea_cons (ev_var rfl (ea_cons (ev_var rfl (ea_nil ⟨rfl, p, h, M0, N0, rfl, two0, fun d fd => fd⟩)))))))
  refine cons_run ?_
  refine ev3 σ _ s2 _ fun v3 d3 H3 e3 a3 f3 => ⟨v1, .ref D0, v3, rfl, ?_⟩
  have s3 : SF (F.hide D0 []) K H3 (((σ.set 4 (some v1)).set 5 (some (.ref D0))).set 6 (some v3)) [some (.int p), some (dM M0), some (dM N0), some (.tuple (.str x :: r)), some (.list [dM M0, dM N0]), some (dO D0), some d3, none] :=
    (((s2.mono e3).set (i := 4) ((a1.mono ex0).mono e3.2)).set (i := 5) (.obj D0)).set (i := 6) a3
  have exH3 : Ex (F.mk' H) ((F.hide D0 []).mk' H3) := (e1.2.trans ex0).trans e3.2
  -- the loop
  refine ⟨fun m σ' H' => ∃ (M N : Mi) (acc : List V) (cs0 : List (Int × Int)) (a b : Nat) (d : PyData) (o7 : Option PyData),
    SF (F.hide D0 acc) K H' σ' [some (.int p), some (dM M0), some (dM N0), some (.tuple (.str x :: r)), some (.list [dM M, dM N]), some (dO D0), some d, o7] ∧ Ex (F.mk' H) ((F.hide D0 acc).mk' H') ∧ DDs K ((F.hide D0 acc).mk' H') acc (cs0.map dC) ∧
    Two h M N ∧ Frs h M N d ∧ Wd p M N a b ∧ (cs0.length : Int) + (st p M + st p N) ≤ 210 ∧ (∀ cs v, Shr h M N cs v → Shr h M0 N0 (cs0 ++ cs) v) ∧ m = (st p M + st p N).toNat,
    ⟨_, M0, N0, [], [], 1, 1, d3, none, s3, exH3, .nil, two0, f3, ⟨z1, z2, Nat.le_refl _, Nat.le_refl _, by omega⟩, by simpa using z3, fun cs v q => q, rfl⟩, ?_⟩
  rintro m σ1 H4 ⟨M, N, acc, cs0, a, b, d, o7, s4, ex4, da, two, fd, wd, lc, link, rfl⟩
  have sm := two.sm
  have sn := two.sn
  have bd := wd.bd sm sn
  have lacc : acc.length = cs0.length := by rw [da.len, List.length_map]
  have tst : ET (F.hide D0 acc) K (tTest (tOp rIsN (tVar 6) (tC .non))) [some (.int p), some (dM M0), some (dM N0), some (.tuple (.str x :: r)), some (.list [dM M, dM N]), some (dO D0), some d, o7] fun b => b = isNo d :=
    et_T (s_isN (ev_var rfl (ev_non ⟨rfl, _, rfl, rfl⟩)))
  refine tst σ1 H4 s4 _ fun bb H5 e5 eb => ?_
  have s5 := s4.mono e5
  have ex5 := ex4.trans e5.2
  have da5 := da.mono e5.2
  cases bb with
  | false =>
    rw [if_neg Bool.false_ne_true]
    -- free
    obtain ⟨s, es⟩ : ∃ s : F4 p, d = s.D := by
      cases fd with
      | no => cases eb
      | ap => exact ⟨_, rfl⟩
      | al => exact ⟨_, rfl⟩
    subst es
    have hs := Fr.hide_sub (F := F) (D := D0) (acc := acc) (H := H5)
    obtain ⟨v5, xv, av⟩ := s5.get (i := 5) rfl
    have := obj_inv av
    subst this
    have s6 : Sl K (F.mk' H5) (σ1.set 5 (some (.ref D0))) ([some (.int p), some (dM M0), some (dM N0), some (.tuple (.str x :: r)), some (.list [dM M, dM N]), some (.list (cs0.map dC)), some s.D, o7]) := by
      refine Sl.set (d := .list (cs0.map dC)) (.lst ?_ (da5.mono hs)) 5 (s5.sl.mono hs)
      rw [Fr.at m0]
      exact s5.ok.2
    rw [set_self xv] at s6
    have g : Go F H H5 := ⟨s5.ok.1, ex5.trans hs⟩
    have out : XS F K (tRet (tTup (tCons (tVar 5) (tCons (tTup (tCons (tC (.str "free")) (tCons (tVar 6) (tNil)))) (tNil))))) [some (.int p), some (dM M0), some (dM N0), some (.tuple (.str x :: r)), some (.list [dM M, dM N]), some (.list (cs0.map dC)), some s.D, o7] (fun _ => False) W := by
      refine xs_ret (s_tup (ea_cons (ev_var rfl (ea_cons (s_tup (ea_cons (ev_str (ea_cons (ev_var rfl (ea_nil ⟨Nat.le_of_ble_eq_true rfl, ea_nil ⟨Nat.le_of_ble_eq_true rfl, ?_⟩⟩))))))))))
      have sh := link [] .free (.free fd)
      rw [List.append_nil] at sh
      exact w cs0 .free _ sh (.free _)
    exact out σ1 H5 ⟨s5.ok.1, s6⟩ D (fun σ' S' H' e s q => q.elim) fun v d H' e a q => hr v d H' (g.trans e) a q
  | true =>
    rw [if_pos rfl]
    have dn : d = .none := by
      cases d <;> first | rfl | cases eb
    subst dn
    obtain ⟨Fi, La, wy, A, wi, lg⟩ : ∃ (Fi La : B p) (wy : Int), AlM h M N Fi La ∧ WyM h N Fi La wy ∧ min (st p M) (st p N) ≤ (tr h).d Fi La := by
      generalize hd : PyData.none = dd at fd
      cases fd with
      | no A wi l => exact ⟨_, _, _, A, wi, l⟩
      | ap => cases hd
      | al => cases hd
    obtain ⟨wpm, c0, c1⟩ := chg_falls (L := M) h two A wi lg
    have spm : -wy = 1 ∨ -wy = -1 := by omega
    refine ⟨fun σ' H' => ∃ m', m' < (st p M + st p N).toNat ∧ ∃ (M N : Mi) (acc : List V) (cs0 : List (Int × Int)) (a b : Nat) (d : PyData) (o7 : Option PyData),
      SF (F.hide D0 acc) K H' σ' [some (.int p), some (dM M0), some (dM N0), some (.tuple (.str x :: r)), some (.list [dM M, dM N]), some (dO D0), some d, o7] ∧ Ex (F.mk' H) ((F.hide D0 acc).mk' H') ∧ DDs K ((F.hide D0 acc).mk' H') acc (cs0.map dC) ∧
      Two h M N ∧ Frs h M N d ∧ Wd p M N a b ∧ (cs0.length : Int) + (st p M + st p N) ≤ 210 ∧ (∀ cs v, Shr h M N cs v → Shr h M0 N0 (cs0 ++ cs) v) ∧ m' = (st p M + st p N).toNat, fun _ _ q => q, ?_⟩
    have evc : EV (F.hide D0 acc) K (tCall (Pur K 2 c_next_change) [] E0 (tCons (tVar 0) (tCons (tVar 4) (tNil)))) [some (.int p), some (dM M0), some (dM N0), some (.tuple (.str x :: r)), some (.list [dM M, dM N]), some (dO D0), some .none, o7]
        fun d => ∃ k : Int, d = dC (k, -wy) ∧ (k = 0 ∧ st p N < st p M ∨ k = 1 ∧ ¬ st p N < st p M) := by
      refine ev_call (ea_cons (ev_var rfl (ea_cons (ev_var rfl (ea_nil ⟨rfl, p, h, M, N, rfl, two, ⟨_, _, A⟩, fun F1 L1 w1 k A1 wi1 hk => ⟨k, ?_, hk⟩⟩)))))
      obtain ⟨rfl, rfl⟩ := Along.uniq (isoM h two.om.det) (hypM h two.om.det sm) A A1
      have := WayIs.uniq (isoM h two.on.det) (hypM h two.on.det sn) A.hF A.hL wi wi1
      subst this
      rfl
    refine evc σ1 H5 s5 _ fun vc dc H6 e6 a6 ⟨k, edc, hk⟩ => ?_
    subst edc
    have s6 := (s5.mono e6).set (i := 7) a6
    obtain ⟨v5, xv, av⟩ := s6.get (i := 5) rfl
    obtain ⟨v7, xv7, av7⟩ := s6.get (i := 7) rfl
    have := obj_inv av
    subst this
    refine ⟨_, xv, .inl ⟨rfl, _, SqL.of s6.ok.2⟩, v7, xv7, D0, acc, v7, rfl, rfl, s6.ok.2, ?_, ?_⟩
    · rw [lacc]
      exact Nat.lt_of_le_of_lt (by omega : cs0.length ≤ 210) (by decide)
    -- the change is written down
    have mk7 : (F.hide D0 (acc ++ [v7])).mk' (upd H6 D0 (.lst (acc ++ [v7]))) = (F.hide D0 acc).mk' H6 := hide_put
    have s7 : SF (F.hide D0 (acc ++ [v7])) K (upd H6 D0 (.lst (acc ++ [v7]))) (σ1.set 7 (some vc)) [some (.int p), some (dM M0), some (dM N0), some (.tuple (.str x :: r)), some (.list [dM M, dM N]), some (dO D0), some .none, some (dC (k, -wy))] :=
      ⟨⟨Fr.put s6.ok.1 m0, upd_same⟩, by rw [mk7]; exact s6.sl⟩
    have ex7 : Ex (F.mk' H) ((F.hide D0 (acc ++ [v7])).mk' (upd H6 D0 (.lst (acc ++ [v7])))) := by
      rw [mk7]
      exact ex5.trans e6.2
    have da7 : DDs K ((F.hide D0 (acc ++ [v7])).mk' (upd H6 D0 (.lst (acc ++ [v7])))) (acc ++ [v7]) ((cs0 ++ [(k, -wy)]).map dC) := by
      rw [mk7, List.map_append]
      exact (da5.mono e6.2).append (.cons av7 .nil)
    -- what follows: the moves changed
    have fol : XS (F.hide D0 (acc ++ [v7])) K (tSeq (tAsg (tCall (Pur K 2 c_change_moves) [] E0 (tCons (tVar 4) (tCons (tVar 7) (tNil)))) (gName 4)) (tBody3 K)) [some (.int p), some (dM M0), some (dM N0), some (.tuple (.str x :: r)), some (.list [dM M, dM N]), some (dO D0), some .none, some (dC (k, -wy))]
        (fun S' => ∃ (M' N' : Mi) (a' b' : Nat) (d : PyData), S' = [some (.int p), some (dM M0), some (dM N0), some (.tuple (.str x :: r)), some (.list [dM M', dM N']), some (dO D0), some d, some (dC (k, -wy))] ∧ Two h M' N' ∧ Frs h M' N' d ∧ Wd p M' N' a' b' ∧
          st p M' + st p N' < st p M + st p N ∧ ∀ cs v, Shr h M' N' cs v → Shr h M N ((k, -wy) :: cs) v)
        (fun d => d = .tuple [dO D0, .tuple [.str "rests", .int k]] ∧ Shr h M N [(k, -wy)] (.rests k)) := by
      have zM : M.sz 60000000 := wd.sM.mono (by omega)
      have zN : N.sz 60000000 := wd.sN.mono (by omega)
      refine xs_seq (xs_asg (ev_call (ea_cons (ev_var rfl (ea_cons (ev_var rfl (ea_nil ⟨rfl, M, N, k, -wy, rfl, zM, zN, two.om.det, two.on.det, spm, ?_⟩)))))))
      rcases hk with ⟨rfl, hk⟩ | ⟨rfl, hk⟩
      · refine .inl ⟨rfl, fun L cL lL => ?_⟩
        have fl := (chg_falls (L := L) h two A wi lg).2.1 cL hk
        have wd' := wd.step0 lL fl
        have zL := lL _ _ wd.sM wd.sN
        have tw : 0 < st p L → Two h L N := fun q => by
          have := wd'.bd q sn
          exact ⟨⟨cL.dt two.om.det two.on.det, wd'.sM.mono (by omega)⟩, two.on, q, sn, cL.cm two.on.det two.cm⟩
        refine body3 h rfl (cL.dt two.om.det two.on.det) (zL.mono (by omega)) tw (fun d q fd' => ?_) fun q => ⟨rfl, .rest0 A wi lg hk cL q⟩
        exact ⟨L, N, a + b, b, d, rfl, tw q, fd', wd', by omega, fun cs v sh => .step0 A wi lg hk cL q sh⟩
      · refine .inr ⟨rfl, fun L cL lL => ?_⟩
        have fl := (chg_falls (L := L) h two A wi lg).2.2 cL hk
        have lL' : ∀ n m, N.sz n → M.sz m → L.sz (n + m + 1) := fun n m x y => (lL m n y x).mono (by omega)
        have wd' := wd.step1 lL' fl
        have zL := lL' _ _ wd.sN wd.sM
        have tw : 0 < st p L → Two h M L := fun q => by
          have := wd'.bd sm q
          exact ⟨two.om, ⟨cL.dt two.on.det two.om.det, wd'.sN.mono (by omega)⟩, sm, q, by
            have := cL.cm two.om.det (by rw [comm_swap]; exact two.cm)
            rwa [comm_swap] at this⟩
        refine body3 h rfl (cL.dt two.on.det two.om.det) (zL.mono (by omega)) tw (fun d q fd' => ?_) fun q => ⟨rfl, .rest1 A wi lg hk cL q⟩
        exact ⟨M, L, a, a + b, d, rfl, tw q, fd', wd', by omega, fun cs v sh => .step1 A wi lg hk cL q sh⟩
    refine fol _ _ s7 _ (fun σ' S' H' e s8 ⟨M', N', a', b', d', eS, two', fd', wd', dec, lk⟩ => ?_) fun v dv H' e av ⟨edv, sh⟩ => ?_
    · subst eS
      refine ⟨_, ?_, M', N', acc ++ [v7], cs0 ++ [(k, -wy)], a', b', d', _, s8, ex7.trans e.2, da7.mono e.2, two', fd', wd', ?_, fun cs v q => ?_, rfl⟩
      · have := two'.sm
        have := two'.sn
        omega
      · rw [List.length_append]
        simp only [List.length_cons, List.length_nil]
        omega
      · rw [List.append_assoc]
        exact link _ _ (lk cs v q)
    · subst edv
      have hs := Fr.hide_sub (F := F) (D := D0) (acc := acc ++ [v7]) (H := H')
      obtain ⟨pt, zs, rfl, hpt, hz⟩ := tup_inv av
      obtain ⟨u1, u2, rfl, b1, b2⟩ := two_inv hz
      have := obj_inv b1
      subst this
      have g : Go F H H' := ⟨e.1.1, (ex7.trans e.2).trans hs⟩
      refine hr _ (.tuple [.list ((cs0 ++ [(k, -wy)]).map dC), .tuple [.str "rests", .int k]]) H' g (.tup (Evl.ex_t hs hpt) (.cons (.lst ?_ ((da7.mono e.2).mono hs)) (.cons (b2.mono hs) .nil))) ?_
      · rw [Fr.at m0]
        exact e.1.2
      · exact w _ (.rests k) _ (link _ _ sh) (.rests k)
end
end Bm
-- BmR19
set_option maxRecDepth 100000
set_option maxHeartbeats 2000000
/-! BmR19: the second question: all is led along. -/
namespace Bm
open PySem PySem.Spec PyProof.Rows L2 Bt
local macro_rules | `(tactic| and_intros) => `(tactic| repeat (with_reducible first
  | refine xs_seq ?_ | refine xs_ret ?_ | refine xs_asg ?_ | refine xs_par ?_ | refine xs_par3 ?_ | refine xs_if ?_ | refine xs_asgT rfl ?_
  | (refine ev_var (d := ?_) ?_ ?_; rotate_left; (with_unfolding_all exact rfl))
  | refine ev_int ?_ | refine ev_bl ?_ | refine ev_str ?_ | refine ev_non ?_
  | refine ev_ixT ?_ | refine ev_ixL ?_ | refine ea_nil ?_ | refine ea_cons ?_ | refine s_tup ?_ | refine s_dis ?_ | refine ev_call ?_
  | refine ⟨_, _, _, rfl, rfl, (by with_unfolding_all exact rfl), ?_⟩
  | refine s_add ?_ | refine s_sub ?_ | refine s_mul ?_ | refine s_fdv ?_ | refine s_mod ?_ | refine s_lt ?_ | refine s_le ?_ | refine s_gt ?_ | refine s_ge ?_ | refine s_neg ?_
  | refine ⟨_, _, rfl, rfl, ?_⟩ | refine ⟨_, _, rfl, ?_⟩ | refine ⟨_, rfl, ?_⟩
  | refine ev_if ?_ | refine et_T ?_ | refine et_B ?_ | refine et_not ?_ | refine et_and ?_ | refine et_or ?_
  | refine ev_gcd2 ?_ | refine ev_eqI ?_ | refine ev_neI ?_
  | refine ⟨(by with_unfolding_all exact rfl), ?_⟩ | refine ⟨Nat.le_of_ble_eq_true (by with_unfolding_all exact rfl), ?_⟩
  | refine ⟨_, rfl, (by with_unfolding_all exact rfl), ?_⟩))
theorem conj_mul (t M N : Mt) : Mt.mul (Mt.mul t (Mt.mul M (Mt.adj t))) (Mt.mul t (Mt.mul N (Mt.adj t))) = Mt.sm (Mt.det t) (Mt.mul t (Mt.mul (Mt.mul M N) (Mt.adj t))) := by
  rw [Mt.mul_assoc, Mt.mul_assoc, ← Mt.mul_assoc (Mt.adj t) t, Mt.adj_mul, Mt.sm_mul, Mt.one_mul, Mt.mul_sm, Mt.mul_sm, Mt.mul_assoc]
theorem comm_conj (t M N : Mt) : comm (Mt.mul t (Mt.mul M (Mt.adj t))) (Mt.mul t (Mt.mul N (Mt.adj t))) = Mt.sm (Mt.det t) (Mt.mul t (Mt.mul (comm M N) (Mt.adj t))) := by
  have lin : ∀ A B : Mt, Mt.sub (Mt.sm (Mt.det t) (Mt.mul t (Mt.mul A (Mt.adj t)))) (Mt.sm (Mt.det t) (Mt.mul t (Mt.mul B (Mt.adj t)))) = Mt.sm (Mt.det t) (Mt.mul t (Mt.mul (Mt.sub A B) (Mt.adj t))) := fun A B => by
    generalize Mt.det t = k
    generalize Mt.adj t = u
    apply Mt.ext' <;> simp only [Mt.mul, Mt.sub, Mt.sm] <;> grind
  unfold comm
  rw [conj_mul, conj_mul, lin]
/-- both turned by t -/
structure Tw {p : Int} (h : PP p) (t M N M1 N1 : Mi) : Prop where
  dt : Mt.det t.m ≠ 0
  zM : Sim M1 (Mt.mul t.m (Mt.mul M.m (Mt.adj t.m)))
  zN : Sim N1 (Mt.mul t.m (Mt.mul N.m (Mt.adj t.m)))
section
variable {p : Int} {h : PP p} {t M N M1 N1 : Mi}
theorem cj_of (dt : Mt.det t.m ≠ 0) (dM : Mt.det M.m ≠ 0) (z : Sim M1 (Mt.mul t.m (Mt.mul M.m (Mt.adj t.m)))) : Cj (ac h t) (ac h M) (ac h M1) := fun x => by
  rw [z.act h (conj_ne dt dM), act_mul h.pi dt (mul_det dM (adj_ne dt)), act_mul h.pi dM (adj_ne dt)]
  have e : act h.pi (Mt.adj t.m) (ac h t x) = x := (isoM h dt).l x
  rw [e]
theorem Tw.cn (w : Tw h t M N M1 N1) (two : Two h M N) : Cn h t M N M1 N1 :=
  ⟨w.dt, two.om.det, two.on.det, w.zM.det (conj_ne w.dt two.om.det), w.zN.det (conj_ne w.dt two.on.det), two.sm, two.sn, cj_of w.dt two.om.det w.zM, cj_of w.dt two.on.det w.zN⟩
theorem Tw.two (w : Tw h t M N M1 N1) (two : Two h M N) (lM : M1.sz 12000) (lN : N1.sz 12000) : Two h M1 N1 := by
  have c := w.cn two
  refine ⟨⟨c.dM1, lM⟩, ⟨c.dN1, lN⟩, by rw [c.eM]; exact two.sm, by rw [c.eN]; exact two.sn, fun z => ?_⟩
  obtain ⟨j, hj, e1⟩ := w.zM.ex
  obtain ⟨k, hk, e2⟩ := w.zN.ex
  have h1 := comm_conj t.m M.m N.m
  have h2 : Mt.det (comm (Mt.mul t.m (Mt.mul M.m (Mt.adj t.m))) (Mt.mul t.m (Mt.mul N.m (Mt.adj t.m)))) = 0 := by
    rw [← e1, ← e2, comm_sm, comm_swap, comm_sm, comm_swap, z]
    grind
  rw [h1, Mt.det_sm, Mt.det_mul, Mt.det_mul, Mt.det_adj] at h2
  have m2 : ∀ {x y : Rat}, x ≠ 0 → y ≠ 0 → x * y ≠ 0 := fun hx hy z => (Rat.mul_eq_zero.mp z).elim hx hy
  exact m2 (m2 w.dt w.dt) (m2 w.dt (m2 two.cm w.dt)) h2
/-! ### the sides are good -/
theorem Sds.adj1 (hd : Mt.det M.m ≠ 0) (hs : 0 < st p M) {x v0 u1 v1 : B p} (S : SdM h M x v0 u1 v1) : (tr h).d u1 v1 = 1 := by
  obtain ⟨pos, _, P⟩ := coord' (isoM h hd) (hypM h hd hs) S.ax
  obtain ⟨e1, e2, e3⟩ := Sds.pos (isoM h hd) (hypM h hd hs) S P
  have := P.ab S.a1 S.a2
  omega
theorem dS_inj {a b c d : B p} (e : dS a b = dS c d) : a = c ∧ b = d := by
  unfold dS at e
  injection e with e
  have e1 := List.cons.inj e
  have e2 := List.cons.inj e1.2
  exact ⟨Subtype.ext (dB_inj e1.1), Subtype.ext (dB_inj e2.1)⟩
theorem F4.inj {s s' : F4 p} (e : s.D = s'.D) : s = s' := by
  unfold F4.D at e
  injection e with e
  have e1 := List.cons.inj e
  have e2 := List.cons.inj e1.2
  have e3 := List.cons.inj e2.2
  have e4 := List.cons.inj e3.2
  obtain ⟨a1, a2⟩ := dS_inj e1.1
  obtain ⟨a3, a4⟩ := dS_inj e2.1
  obtain ⟨a5, a6⟩ := dS_inj e3.1
  obtain ⟨a7, a8⟩ := dS_inj e4.1
  cases s
  cases s'
  simp only at a1 a2 a3 a4 a5 a6 a7 a8
  subst a1 a2 a3 a4 a5 a6 a7 a8
  rfl
theorem good_of (two : Two h M N) {s : F4 p} (f : Frs h M N s.D) : s.adj h ∧ s.good h M N ∧ s.rd h 220000 := by
  have G := isoM h two.om.det
  have H := hypM h two.om.det two.sm
  have G' := isoM h two.on.det
  have H' := hypM h two.on.det two.sn
  have fin : ∀ s : F4 p, SdM h M s.u0 s.v0 s.u1 s.v1 → SdM h N s.u2 s.v2 s.u3 s.v3 → s.rd h 220000 → (Out (tr h) (ac h N) (st p N) s.u0 s.v0 ∧ Out (tr h) (ac h N) (st p N) s.u1 s.v1) → (Out (tr h) (ac h M) (st p M) s.u2 s.v2 ∧ Out (tr h) (ac h M) (st p M) s.u3 s.v3) →
      s.adj h ∧ s.good h M N ∧ s.rd h 220000 := fun s S S' rd o o' =>
    ⟨⟨S.d0, Sds.adj1 two.om.det two.sm S, S'.d0, Sds.adj1 two.on.det two.sn S'⟩,
      ⟨Sds.ap G H S, Out.ap o.1 o'.1 S'.a0 S.a0, Out.ap o.1 o'.2 S'.a2 S.a0, Out.ap o.2 o'.1 S'.a0 S.a2, Out.ap o.2 o'.2 S'.a2 S.a2, Sds.ap G' H' S', Sds.leads G H S, Sds.leads G' H' S'⟩, rd⟩
  generalize hd : s.D = dd at f
  cases f with
  | no => cases hd
  | @ap s' A S S' rd =>
    have e := F4.inj hd
    subst e
    exact fin s S S' rd (out_apart G H G' H' A S) (out_apart G' H' G H A.symm S')
  | @al Fi La w s' A wi l e1 e2 S S' rd =>
    have e := F4.inj hd
    subst e
    have o2 := out_alongH G H G' H' A wi e2 (by omega) S'
    subst e1
    exact fin s S S' rd (out_along G H G' H' A (by omega) S) o2
theorem ap_iso {T : Tree (B p)} {g g' : B p → B p} (G : Iso T g g') {a b c d : B p} (q : apS T (a, b) (c, d)) : apS T (g a, g b) (g c, g d) := by
  unfold apS onS at *
  simp only [G.iso]
  exact q
/-- four sides, each led by t -/
noncomputable def F4.im (s : F4 p) (h : PP p) (t : Mi) : F4 p := ⟨ac h t s.u0, ac h t s.v0, ac h t s.u1, ac h t s.v1, ac h t s.u2, ac h t s.v2, ac h t s.u3, ac h t s.v3⟩
theorem im_good (c : Cn h t M N M1 N1) {s : F4 p} (ad : s.adj h) (gd : s.good h M N) : (s.im h t).adj h ∧ (s.im h t).good h M1 N1 := by
  have I := isoM h c.dt
  refine ⟨⟨(I.iso _ _).trans ad.a, (I.iso _ _).trans ad.b, (I.iso _ _).trans ad.c, (I.iso _ _).trans ad.d⟩, ap_iso I gd.a01, ap_iso I gd.a02, ap_iso I gd.a03, ap_iso I gd.a12, ap_iso I gd.a13, ap_iso I gd.a23, ?_, ?_⟩
  · show apS (tr h) (ac h M1 (ac h t s.v0), ac h M1 (ac h t s.u0)) (ac h t s.v1, ac h t s.u1)
    rw [c.cM, c.cM]
    exact ap_iso I gd.l0
  · show apS (tr h) (ac h N1 (ac h t s.v2), ac h N1 (ac h t s.u2)) (ac h t s.v3, ac h t s.u3)
    rw [c.cN, c.cN]
    exact ap_iso I gd.l1
end
theorem shC : ∀ l : List (Int × Int), PyData.canLayAll0 (l.map dC) = true ∧ PyData.depthAll (l.map dC) ≤ 1 ∧ plA (l.map dC) = true
  | [] => ⟨rfl, Nat.zero_le _, rfl⟩
  | c :: l => by
    obtain ⟨h1, h2, h3⟩ := shC l
    refine ⟨?_, ?_, ?_⟩
    · show (PyData.canLay0 (dC c) && PyData.canLayAll0 (l.map dC)) = true
      rw [h1]
      rfl
    · show max (PyData.depth (dC c)) (PyData.depthAll (l.map dC)) ≤ 1
      have : PyData.depth (dC c) = 1 := rfl
      omega
    · show (pl (dC c) && plA (l.map dC)) = true
      rw [h3]
      rfl
theorem shCL (l : List (Int × Int)) : SeqAt.shaped (.list (l.map dC)) = true := by
  refine Bool.and_eq_true_iff.mpr ⟨(shC l).1, decide_eq_true ?_⟩
  show PyData.depthAll (l.map dC) + 1 ≤ 64
  have := (shC l).2.1
  omega
theorem eqC (l : List (Int × Int)) : PyData.eqv (.list (l.map dC)) (.list (l.map dC)) = true := by
  have q : pl (.list (l.map dC)) = true := (shC l).2.2
  exact (eqv_iff q q).mpr rfl
theorem shS {x : Str} {ds : List PyData} (h1 : PyData.canLay0 (.str x) = true) (h2 : PyData.canLayAll0 ds = true) (h3 : PyData.depthAll ds ≤ 60) : SeqAt.shaped (.tuple (.str x :: ds)) = true := by
  refine Bool.and_eq_true_iff.mpr ⟨Bool.and_eq_true_iff.mpr ⟨h1, h2⟩, decide_eq_true ?_⟩
  show max (PyData.depth (.str x)) (PyData.depthAll ds) + 1 ≤ 64
  have : PyData.depth (.str x) = 0 := rfl
  omega
theorem ok_rests : PyData.canLay0 (.str "rests") = true := by decide +kernel
theorem ok_apart : PyData.canLay0 (.str "apart") = true := by decide +kernel
theorem ok_along : PyData.canLay0 (.str "along") = true := by decide +kernel
theorem free_ne : decide (("free" : Str) = "rests") = false := by decide +kernel
section
variable {F : Fr} {K : PySem.W.Frag} {W : PyData → Prop}
theorem r__law_led_right : Kp F K (t__law_led_right K) 5 16 c__law_led_right := fun ds W hl c => by
  obtain ⟨p, h, M, N, d, t, rfl, two, zM, zN, td, tn, w⟩ := c
  have p2 := pp_pos h
  have st3 : t.sz 3 := tn.2
  have dt : Mt.det t.m ≠ 0 := tn.1
  have okt : t.ok := ⟨dt, st3.mono (by decide)⟩
  unfold t__law_led_right
  refine xs_seq (xs_par (ea_cons (ev_conj (p := p) (P := t) (M := M) rfl rfl dt two.om.det st3 zM (by decide) fun M1 sM1 lM1 => ?_)))
  refine ea_cons (ev_conj (p := p) (P := t) (M := N) rfl rfl dt two.on.det st3 zN (by decide) fun N1 sN1 lN1 => ea_nil ⟨_, _, rfl, ?_⟩)
  have tw : Tw h t M N M1 N1 := ⟨dt, sM1, sN1⟩
  have cn := tw.cn two
  have two1 := tw.two two (lM1.mono (by decide)) (lN1.mono (by decide))
  -- behind the lines
  have fin : ∀ (many : Int), XS F K (tSeq (tAsg (tCall (Pur K 3 c_four_sides) [] E0 (tCons (tVar 0) (tCons (tVar 1) (tCons (tVar 2) (tNil))))) (gName 8)) (tSeq (tIfS (tTest (tOp rNotN (tVar 8) (tC .non))) (tSeq (tAsg (tCB (rTpl K) (tCons (tLc (iTup K (tVar 8)) (gTup K 2 (gCons (gName 14) (gCons (gName 15) (gNil)))) (tYes) (tTup (tCons (tCall (Pur K 3 c_led) [] E0 (tCons (tVar 0) (tCons (tVar 4) (tCons (tVar 14) (tNil))))) (tCons (tCall (Pur K 3 c_led) [] E0 (tCons (tVar 0) (tCons (tVar 4) (tCons (tVar 15) (tNil))))) (tNil)))) [14, 15]) (tNil))) (gName 9)) (tRet (tOp rIsN (tCall (Pur K 4 c_judge_sides) [] E0 (tCons (tVar 0) (tCons (tVar 5) (tCons (tVar 6) (tCons (tVar 9) (tNil)))))) (tC .non)))) (tNext)) (tSeq (tAsg (tCall (Pur K 3 c_shorten) [] E0 (tCons (tVar 0) (tCons (tVar 1) (tCons (tVar 2) (tNil))))) (gTup K 2 (gNames [10, 11]))) (tSeq (tAsg (tCall (Pur K 3 c_shorten) [] E0 (tCons (tVar 0) (tCons (tVar 5) (tCons (tVar 6) (tNil))))) (gName 12)) (tSeq (tIfS (tOr (tTest (tOp (rNeD K) (tOp (rIxT K) (tVar 12) (tC (.int 0))) (tVar 10))) (tOr (tTest (tOp rNe (tOp (rIxT K) (tOp (rIxT K) (tVar 12) (tC (.int 1))) (tC (.int 0))) (tOp (rIxT K) (tVar 11) (tC (.int 0))))) (tAnd (tTest (tOp rEq (tOp (rIxT K) (tVar 11) (tC (.int 0))) (tC (.str "rests")))) (tTest (tOp (rNeD K) (tOp (rIxT K) (tVar 12) (tC (.int 1))) (tVar 11)))))) (tRet (tC (.bl false))) (tNext)) (tRet (tOp rIsN (tCall (Pur K 3 c_four_sides) [] E0 (tCons (tVar 0) (tCons (tVar 5) (tCons (tVar 6) (tNil))))) (tC .non))))))))
      [some (.int p), some (dM M), some (dM N), some d, some (dM t), some (dM M1), some (dM N1), some (.int many), none, none, none, none, none, none, none, none] (fun _ => W .none) W := fun many => by
    refine xs_seq (xs_asg (ev_call (ea_cons (ev_var rfl (ea_cons (ev_var rfl (ea_cons (ev_var rfl (ea_nil ⟨rfl, p, h, M, N, rfl, two, fun sd fs => ?_⟩)))))))))
    refine xs_seq (xs_if (et_T (s_notN (ev_var rfl (ev_non ⟨rfl, _, rfl, ?_⟩)))))
    have sides : ∀ s : F4 p, sd = s.D → W (.bool true) → XS F K (tSeq (tAsg (tCB (rTpl K) (tCons (tLc (iTup K (tVar 8)) (gTup K 2 (gCons (gName 14) (gCons (gName 15) (gNil)))) (tYes) (tTup (tCons (tCall (Pur K 3 c_led) [] E0 (tCons (tVar 0) (tCons (tVar 4) (tCons (tVar 14) (tNil))))) (tCons (tCall (Pur K 3 c_led) [] E0 (tCons (tVar 0) (tCons (tVar 4) (tCons (tVar 15) (tNil))))) (tNil)))) [14, 15]) (tNil))) (gName 9)) (tRet (tOp rIsN (tCall (Pur K 4 c_judge_sides) [] E0 (tCons (tVar 0) (tCons (tVar 5) (tCons (tVar 6) (tCons (tVar 9) (tNil)))))) (tC .non))))
        [some (.int p), some (dM M), some (dM N), some d, some (dM t), some (dM M1), some (dM N1), some (.int many), some sd, none, none, none, none, none, none, none] (fun _ => False) W := fun s es w => by
      subst es
      obtain ⟨ad, gd, rd⟩ := good_of two fs
      obtain ⟨ad1, gd1⟩ := im_good cn ad gd
      have m : ∀ {x : B p}, Rd h 220000 x → Rd h 300000 (ac h t x) := fun q => (q.led h st3 dt).mono h (by decide)
      have rd1 : (s.im h t).rd h 300000 := ⟨⟨m rd.a.1, m rd.a.2⟩, ⟨m rd.b.1, m rd.b.2⟩, ⟨m rd.c.1, m rd.c.2⟩, ⟨m rd.d.1, m rd.d.2⟩⟩
      refine xs_seq (xs_asg (s_tpl (ea_cons (ev_lcT2 (ev_var rfl ⟨[(dB s.u0.1, dB s.v0.1), (dB s.u1.1, dB s.v1.1), (dB s.u2.1, dB s.v2.1), (dB s.u3.1, dB s.v3.1)],
        fun k ds => ds = [dS (ac h t s.u0) (ac h t s.v0), dS (ac h t s.u1) (ac h t s.v1), dS (ac h t s.u2) (ac h t s.v2), dS (ac h t s.u3) (ac h t s.v3)].take k, rfl, Nat.le_of_ble_eq_true rfl, rfl, ?_, ?_⟩)))))
      · intro k x hx G hG ds hds
        refine et_yes ?_
        rw [if_pos rfl]
        obtain ⟨u, v, ex, ru, rv, et⟩ : ∃ u v : B p, x = (dB u.1, dB v.1) ∧ Rd h 220000 u ∧ Rd h 220000 v ∧ [dS (ac h t s.u0) (ac h t s.v0), dS (ac h t s.u1) (ac h t s.v1), dS (ac h t s.u2) (ac h t s.v2), dS (ac h t s.u3) (ac h t s.v3)][k]? = some (dS (ac h t u) (ac h t v)) := by
          match k, hx with
          | 0, hx => exact ⟨_, _, (Option.some.inj hx).symm, rd.a.1, rd.a.2, rfl⟩
          | 1, hx => exact ⟨_, _, (Option.some.inj hx).symm, rd.b.1, rd.b.2, rfl⟩
          | 2, hx => exact ⟨_, _, (Option.some.inj hx).symm, rd.c.1, rd.c.2, rfl⟩
          | 3, hx => exact ⟨_, _, (Option.some.inj hx).symm, rd.d.1, rd.d.2, rfl⟩
        subst ex
        refine s_tup (ea_cons (ev_call (ea_cons (ev_var rfl (ea_cons (ev_var rfl (ea_cons (ev_var rfl (ea_nil ⟨rfl, p, h, t, u, rfl, okt, ru.mono h (by decide), ?_⟩)))))))))
        refine ea_cons (ev_call (ea_cons (ev_var rfl (ea_cons (ev_var rfl (ea_cons (ev_var rfl (ea_nil ⟨rfl, p, h, t, v, rfl, okt, rv.mono h (by decide), ?_⟩))))))))
        refine ea_nil ⟨Nat.le_of_ble_eq_true rfl, ?_⟩
        show ds ++ [_] = _
        rw [hds, List.take_add_one, et]
        rfl
      · intro ds hds
        subst hds
        refine ea_nil ⟨_, rfl, ?_⟩
        refine xs_ret (s_isN (ev_call (ea_cons (ev_var rfl (ea_cons (ev_var rfl (ea_cons (ev_var rfl (ea_cons (ev_var rfl (ea_nil ⟨rfl, p, h, M1, N1, s.im h t, rfl, two1.om, two1.on, rd1, ad1, gd1, ?_⟩)))))))))))
        exact ev_non ⟨rfl, w⟩
    cases fs with
    | @ap s A S S' rd => exact (sides s rfl w).imp fun _ q => q.elim
    | @al Fi La wy s A wi l e1 e2 S S' rd => exact (sides s rfl w).imp fun _ q => q.elim
    | @no Fi La wy A wi l =>
      have eM := cn.eM
      have eN := cn.eN
      have b1 := st_le h zM two.om.det
      have b2 := st_le h zN two.on.det
      refine xs_next (xs_seq (xs_asgT rfl (ev_call (ea_cons (ev_var rfl (ea_cons (ev_var rfl (ea_cons (ev_var rfl (ea_nil ⟨rfl, p, h, M, N, rfl, two, ⟨zM.mono (by decide), zN.mono (by decide), by omega⟩, fun cs v vd sh dv => ⟨_, rfl, rfl, ?_⟩⟩))))))))))
      refine xs_seq (xs_asg (ev_call (ea_cons (ev_var rfl (ea_cons (ev_var rfl (ea_cons (ev_var rfl (ea_nil ⟨rfl, p, h, M1, N1, rfl, two1, ⟨lM1.mono (by decide), lN1.mono (by decide), by omega⟩, fun cs1 v1 vd1 sh1 dv1 => ?_⟩)))))))))
      obtain ⟨rfl, rfl⟩ := shr_alike cs cn sh sh1
      have last : ∀ (S : SS), S[0]? = some (some (.int p)) → S[5]? = some (some (dM M1)) → S[6]? = some (some (dM N1)) → XS F K (tRet (tOp rIsN (tCall (Pur K 3 c_four_sides) [] E0 (tCons (tVar 0) (tCons (tVar 5) (tCons (tVar 6) (tNil))))) (tC .non))) S (fun _ => W .none) W := fun S h0 h5 h6 => by
        refine xs_ret (s_isN (ev_call (ea_cons (ev_var h0 (ea_cons (ev_var h5 (ea_cons (ev_var h6 (ea_nil ⟨rfl, p, h, M1, N1, rfl, two1, fun d1 fs1 => ?_⟩)))))))))
        refine ev_non ⟨rfl, ?_⟩
        cases fs1 with
        | no => exact w
        | ap A1 S1 S2 r1 => exact (cn.no_free A l (.ap A1 S1 S2 r1)).elim
        | al A1 w1 l1 x1 x2 S1 S2 r1 => exact (cn.no_free A l (.al A1 w1 l1 x1 x2 S1 S2 r1)).elim
      refine xs_seq (xs_if (et_or (et_T (ev_neD (ev_ixT (ev_var rfl (ev_int ⟨_, _, _, rfl, rfl, rfl, ev_var rfl ⟨shCL _, shCL _, _, rfl, ?_⟩⟩)))))))
      rw [eqC, if_neg (by decide)]
      cases dv with
      | rests k =>
        cases dv1
        refine et_or (et_T (ev_neS (ev_ixT (ev_ixT (ev_var rfl (ev_int ⟨_, _, _, rfl, rfl, rfl, ev_int ⟨_, _, _, rfl, rfl, rfl, ev_ixT (ev_var rfl (ev_int ⟨_, _, _, rfl, rfl, rfl, _, _, rfl, rfl, _, rfl, ?_⟩))⟩⟩))))))
        rw [decide_self, if_neg (by decide)]
        refine et_and (et_T (ev_eqS (ev_ixT (ev_var rfl (ev_int ⟨_, _, _, rfl, rfl, rfl, ev_str ⟨_, _, rfl, rfl, _, rfl, ?_⟩⟩)))))
        rw [decide_self, if_pos rfl]
        refine et_T (ev_neD (ev_ixT (ev_var rfl (ev_int ⟨_, _, _, rfl, rfl, rfl, ev_var rfl ⟨shS ok_rests rfl (Nat.le_of_ble_eq_true rfl), shS ok_rests rfl (Nat.le_of_ble_eq_true rfl), _, rfl, ?_⟩⟩))))
        rw [show PyData.eqv (.tuple [.str "rests", .int k]) (.tuple [.str "rests", .int k]) = true from (eqv_iff rfl rfl).mpr rfl, if_neg (by decide)]
        exact xs_next (last _ rfl rfl rfl)
      | free d2 =>
        cases dv1
        refine et_or (et_T (ev_neS (ev_ixT (ev_ixT (ev_var rfl (ev_int ⟨_, _, _, rfl, rfl, rfl, ev_int ⟨_, _, _, rfl, rfl, rfl, ev_ixT (ev_var rfl (ev_int ⟨_, _, _, rfl, rfl, rfl, _, _, rfl, rfl, _, rfl, ?_⟩))⟩⟩))))))
        rw [decide_self, if_neg (by decide)]
        refine et_and (et_T (ev_eqS (ev_ixT (ev_var rfl (ev_int ⟨_, _, _, rfl, rfl, rfl, ev_str ⟨_, _, rfl, rfl, _, rfl, ?_⟩⟩)))))
        rw [free_ne, if_neg (by decide), if_neg (by decide)]
        exact xs_next (last _ rfl rfl rfl)
  -- the lines of the two are the lines, led
  have cmpE : ∀ (hd : List PyData) (n : Nat) (x y : B p) (S : SS), hd.length = n → n ≤ 3 → hd ≠ [] → d = .tuple (hd ++ [dB x.1, dB y.1]) → Rd h 190000 x → Rd h 190000 y → (∀ d1, Tld h M1 N1 d1 → d1 = .tuple (hd ++ [dB (ac h t x).1, dB (ac h t y).1])) →
      SeqAt.shaped (.tuple (hd ++ [dB (ac h t x).1, dB (ac h t y).1])) = true → pl (.tuple (hd ++ [dB (ac h t x).1, dB (ac h t y).1])) = true → S = [some (.int p), some (dM M), some (dM N), some d, some (dM t), some (dM M1), some (dM N1), some (.int (n : Nat)), none, none, none, none, none, none, none, none] →
      EV F K (tOp (rNeD K) (tCall (Pur K 3 c_lines) [] E0 (tCons (tVar 0) (tCons (tVar 5) (tCons (tVar 6) (tNil))))) (tOp (rCatT K) (tSl (rSlA K) (tVar 3) (tNoPart) (tPart (tVar 7))) (tCB (rTpl K) (tCons (tLc (iTup K (tSl (rSlA K) (tVar 3) (tPart (tVar 7)) (tNoPart))) (gName 13) (tYes) (tCall (Pur K 3 c_led) [] E0 (tCons (tVar 0) (tCons (tVar 4) (tCons (tVar 13) (tNil))))) [13]) (tNil))))) S fun b => b = .bool false := by
    intro hd n x y S hn n3 hne ed rx ry ht sh pp eS
    subst eS
    refine ev_neD (ev_call (ea_cons (ev_var rfl (ea_cons (ev_var rfl (ea_cons (ev_var rfl (ea_nil ⟨rfl, p, h, M1, N1, rfl, two1, fun d1 td1 => ?_⟩))))))))
    have e1 := ht d1 td1
    subst e1 ed
    refine ev_catT (ev_slT (ev_var rfl (eo_none (eo_some (ev_var rfl ⟨(n : Nat), rfl, _, rfl, ?_⟩)))))
    have c1 : cutD (hd ++ [dB x.1, dB y.1]) none (some (n : Int)) = hd := by
      rw [cut_to, ← hn, List.take_left']
      rfl
    have c2 : cutD (hd ++ [dB x.1, dB y.1]) (some (n : Int)) none = [dB x.1, dB y.1] := by
      rw [cut_from, ← hn, List.drop_left']
      rfl
    rw [c1]
    refine s_tpl (ea_cons (ev_lcT (ev_slT (ev_var rfl (eo_some (ev_var rfl ⟨(n : Nat), rfl, eo_none ⟨_, rfl, ?_⟩⟩))))))
    rw [c2]
    refine ⟨_, fun k ds => ds = [dB (ac h t x).1, dB (ac h t y).1].take k, rfl, Nat.le_of_ble_eq_true rfl, rfl, ?_, ?_⟩
    · intro k z hz G hG ds hds
      refine et_yes ?_
      rw [if_pos rfl]
      obtain ⟨u, rfl, ru, eu⟩ : ∃ u : B p, z = dB u.1 ∧ Rd h 190000 u ∧ [dB (ac h t x).1, dB (ac h t y).1][k]? = some (dB (ac h t u).1) := by
        match k, hz with
        | 0, hz => exact ⟨x, (Option.some.inj hz).symm, rx, rfl⟩
        | 1, hz => exact ⟨y, (Option.some.inj hz).symm, ry, rfl⟩
      refine ev_call (ea_cons (ev_var rfl (ea_cons (ev_var rfl (ea_cons (ev_var rfl (ea_nil ⟨rfl, p, h, t, u, rfl, okt, ru.mono h (by decide), ?_⟩)))))))
      show ds ++ [_] = _
      rw [hds, List.take_add_one, eu]
      rfl
    · intro ds hds
      subst hds
      refine ea_nil ⟨_, rfl, _, _, rfl, rfl, hne, by simp, ?_, sh, sh, ?_⟩
      · show hd.length + 2 ≤ _
        exact Nat.le_trans (by omega : _ ≤ 5) (by decide)
      · show PyData.bool (!PyData.eqv _ (.tuple (hd ++ [dB (ac h t x).1, dB (ac h t y).1]))) = .bool false
        rw [(eqv_iff pp pp).mpr rfl]
        rfl
  cases td with
  | @ap b o A rb ro =>
    have al1 : ∀ d1, Tld h M1 N1 d1 → d1 = dAp h (ac h t b) (ac h t o) := fun d1 t1 => by
      cases t1 with
      | ap A1 =>
        obtain ⟨rfl, rfl⟩ := Apart.uniq A1 (cn.ap A)
        rfl
      | al A1 => exact (cn.no_ap A A1).elim
    have dd : (tr h).d (ac h t b) (ac h t o) = (tr h).d b o := (isoM h dt).iso _ _
    refine xs_seq (xs_asg (ev_if (et_T (ev_eqS (ev_ixT (ev_var rfl (ev_int ⟨_, _, _, rfl, rfl, rfl, ev_str ⟨_, _, rfl, rfl, _, rfl, ?_⟩⟩)))))))
    rw [decide_self, if_pos rfl]
    refine ev_int (xs_seq (xs_if (et_T (EV.imp (cmpE [.str "apart", .int ((tr h).d b o)] 2 b o _ rfl (by decide) (List.cons_ne_nil _ _) rfl rb ro (fun d1 t1 => ?_) (shS ok_apart rfl (Nat.le_of_ble_eq_true rfl)) rfl rfl) ?_))))
    · rw [al1 d1 t1]
      unfold dAp
      rw [dd]
      rfl
    · rintro q rfl
      refine ⟨_, rfl, ?_⟩
      rw [if_neg (by decide)]
      exact xs_next (fin 2)
  | @al Fi La wy A wi rF rL =>
    have al1 : ∀ d1, Tld h M1 N1 d1 → d1 = dAl h (ac h t Fi) (ac h t La) wy := fun d1 t1 => by
      cases t1 with
      | ap A1 => exact (cn.no_ap' A A1).elim
      | al A1 w1 =>
        have ew := cn.way A A1 wi w1
        obtain ⟨rfl, rfl⟩ := cn.same A A1
        rw [ew]
    have dd : (tr h).d (ac h t Fi) (ac h t La) = (tr h).d Fi La := (isoM h dt).iso _ _
    refine xs_seq (xs_asg (ev_if (et_T (ev_eqS (ev_ixT (ev_var rfl (ev_int ⟨_, _, _, rfl, rfl, rfl, ev_str ⟨_, _, rfl, rfl, _, rfl, ?_⟩⟩)))))))
    rw [apart_ne, if_neg (by decide)]
    refine ev_int (xs_seq (xs_if (et_T (EV.imp (cmpE [.str "along", .int ((tr h).d Fi La), .int wy] 3 Fi La _ rfl (by decide) (List.cons_ne_nil _ _) rfl rF rL (fun d1 t1 => ?_) (shS ok_along rfl (Nat.le_of_ble_eq_true rfl)) rfl rfl) ?_))))
    · rw [al1 d1 t1]
      unfold dAl
      rw [dd]
      rfl
    · rintro q rfl
      refine ⟨_, rfl, ?_⟩
      rw [if_neg (by decide)]
      exact xs_next (fin 3)
end
end Bm
-- BmR20
set_option maxRecDepth 100000
set_option maxHeartbeats 2000000
/-! BmR20: the law. -/
namespace Bm
open PySem PySem.Spec PyProof.Rows L2 Bt
local macro_rules | `(tactic| and_intros) => `(tactic| repeat (with_reducible first
  | refine xs_seq ?_ | refine xs_ret ?_ | refine xs_asg ?_ | refine xs_par ?_ | refine xs_par3 ?_ | refine xs_if ?_ | refine xs_asgT rfl ?_
  | (refine ev_var (d := ?_) ?_ ?_; rotate_left; (with_unfolding_all exact rfl))
  | refine ev_int ?_ | refine ev_bl ?_ | refine ev_str ?_ | refine ev_non ?_
  | refine ev_ixT ?_ | refine ev_ixL ?_ | refine ea_nil ?_ | refine ea_cons ?_ | refine s_tup ?_ | refine s_dis ?_ | refine ev_call ?_
  | refine ⟨_, _, _, rfl, rfl, (by with_unfolding_all exact rfl), ?_⟩
  | refine s_add ?_ | refine s_sub ?_ | refine s_mul ?_ | refine s_fdv ?_ | refine s_mod ?_ | refine s_lt ?_ | refine s_le ?_ | refine s_gt ?_ | refine s_ge ?_ | refine s_neg ?_
  | refine ⟨_, _, rfl, rfl, ?_⟩ | refine ⟨_, _, rfl, ?_⟩ | refine ⟨_, rfl, ?_⟩
  | refine ev_if ?_ | refine et_T ?_ | refine et_B ?_ | refine et_not ?_ | refine et_and ?_ | refine et_or ?_
  | refine ev_gcd2 ?_ | refine ev_eqI ?_ | refine ev_neI ?_
  | refine ⟨(by with_unfolding_all exact rfl), ?_⟩ | refine ⟨Nat.le_of_ble_eq_true (by with_unfolding_all exact rfl), ?_⟩
  | refine ⟨_, rfl, (by with_unfolding_all exact rfl), ?_⟩))
abbrev dQ (ds : List PyData) : PyData := .dict [(.list ds, .none)]
section
variable {F : Fr} {K : PySem.W.Frag} {S : SS} {N : SS → Prop} {R W : PyData → Prop} {te tl : TE} {tt : TT} {t : TS} {j : Nat}
theorem rd_inv {H : Hp} {v : V} {ds : List PyData} (h : DD K H v (dQ ds)) : ∃ a xs, v = .ref a ∧ SqL K H a xs ∧ DDs K H xs ds := by
  cases h with
  | rd e r => exact ⟨_, _, rfl, e, r⟩
theorem xs_forQ {P : Nat → SS → Prop} (h : EV F K te S fun d => ∃ xs, d = dQ xs ∧ P 0 S ∧
    (∀ k x S, xs[k]? = some x → P k S → XS F K t (S.set j (some x)) (P (k + 1)) R) ∧ ∀ S, P xs.length S → N S) : XS F K (tFor (iList K te) (gName j) t) S N R := fun σ H hs D hn hr =>
  h σ H hs _ fun v d H1 e1 a ⟨xs, ed, p0, turn, fin⟩ => by
    subst ed
    obtain ⟨p, ys, rfl, hp, hy⟩ := rd_inv a
    refine ⟨p, rfl, ⟨ys, Evl.ex_l F.sub hp⟩, for_list (xs := ys) (fun k σ' H' => ∃ S', Go F H H' ∧ Go F H1 H' ∧ SF F K H' σ' S' ∧ P k S') ⟨S, e1, e1.rf, hs.mono e1, p0⟩ (fun k σ' H' _ ⟨_, _, f2, _⟩ => Evl.ex_l F.sub (Evl.ex_l f2.2 hp)) ?_ ?_⟩
    · rintro k x σ1 H2 hx ⟨S1, f1, f2, s1, q1⟩
      have hlt : k < xs.length := by rw [← hy.len]; exact (List.getElem?_eq_some_iff.mp hx).1
      obtain ⟨z, hz, az⟩ := (hy.mono f2.2).get (List.getElem?_eq_getElem hlt)
      have ez : x = z := Option.some.inj (hx.symm.trans hz)
      subst ez
      exact turn k _ S1 (List.getElem?_eq_getElem hlt) q1 _ _ (s1.set az j) _ (fun σ' S' H' e' s' p' => ⟨S', f1.trans e', f2.trans e', s', p'⟩) fun v d H' e' a' r' => hr v d H' (f1.trans e') a' r'
    · rintro σ1 H2 ⟨S1, f1, f2, s1, q1⟩
      rw [hy.len] at q1
      exact hn σ1 S1 H2 f1 s1 (fin S1 q1)
theorem ev_lcQ (h : EV F K tl S fun d => ∃ xs P, d = dQ xs ∧ xs.length ≤ 1000000 ∧ P 0 [] ∧ LcP F K tt te (fun x => (wipeS S [j]).set j (some x)) xs P ∧ ∀ ds, P xs.length ds → W (.list ds)) : EV F K (tLc (iList K tl) (gName j) tt te [j]) S W := fun σ H hs Q q =>
  h σ H hs _ fun v d H1 e1 a1 ⟨xs, P, ed, hl, p0, step, fin⟩ => by
    subst ed
    obtain ⟨a, ys, rfl, hx, hy⟩ := rd_inv a1
    refine ⟨a, rfl, ⟨ys, Evl.ex_l F.sub hx⟩, fun D hD => lc_list (xs := ys) (LcI F K H1 D P) (.start e1.1 hD p0) (fun k H' _ ⟨_, _, _, _, ex, _⟩ => Evl.ex_l (Fr.sub _) (Evl.ex_l ex hx)) (fun k v H' hv inv => ?_) fun H' inv => ?_⟩
    · have hk : k < xs.length := by rw [← hy.len]; exact (List.getElem?_eq_some_iff.mp hv).1
      obtain ⟨z, hz, az⟩ := hy.get (List.getElem?_eq_getElem hk)
      have ez : v = z := Option.some.inj (hv.symm.trans hz)
      subst ez
      exact lc_turn e1.1 hD (Nat.lt_of_lt_of_le hk (Nat.le_trans hl (by decide))) inv ((hs.mono e1).sl.wipe [j]) az gt1 (step k _ (List.getElem?_eq_getElem hk))
    · rw [hy.len] at inv
      obtain ⟨ds, g, dd, p⟩ := inv.end e1.1 hD
      exact q _ _ H' (e1.trans g) dd (fin ds p)
end
theorem put_new {kvs : List (Key × V)} {k : Key} {v : V} (h : (kvs.any fun kv => decide (kv.1 = k)) = false) : putK kvs k v = kvs ++ [(k, v)] := by
  unfold putK
  rw [h]
  rfl
theorem merge_src {c : Addr} {l m t : Int} : mergeK [] (srcKv c l m t) = srcKv c l m t := by
  show putK (putK (putK (putK ([] : List (Key × V)) (.inr "cells") (.ref c)) (.inr "left") (.int l)) (.inr "mixed") (.int m)) (.inr "turn") (.int t) = _
  have q1 : (([((.inr "cells" : Key), V.ref c)] : List (Key × V)).any fun kv => decide (kv.1 = (.inr "left" : Key))) = false := by
    show (decide ((.inr "cells" : Key) = .inr "left") || false) = false
    rw [decide_eq_false k1]
    rfl
  have q2 : (([((.inr "cells" : Key), V.ref c), ((.inr "left" : Key), V.int l)] : List (Key × V)).any fun kv => decide (kv.1 = (.inr "mixed" : Key))) = false := by
    show (decide ((.inr "cells" : Key) = .inr "mixed") || (decide ((.inr "left" : Key) = .inr "mixed") || false)) = false
    rw [decide_eq_false k3, decide_eq_false k5]
    rfl
  have q3 : (([((.inr "cells" : Key), V.ref c), ((.inr "left" : Key), V.int l), ((.inr "mixed" : Key), V.int m)] : List (Key × V)).any fun kv => decide (kv.1 = (.inr "turn" : Key))) = false := by
    show (decide ((.inr "cells" : Key) = .inr "turn") || (decide ((.inr "left" : Key) = .inr "turn") || (decide ((.inr "mixed" : Key) = .inr "turn") || false))) = false
    rw [decide_eq_false k2, decide_eq_false k4, decide_eq_false k6]
    rfl
  have e0 : putK ([] : List (Key × V)) (.inr "cells") (.ref c) = [((.inr "cells" : Key), V.ref c)] := put_new (kvs := []) rfl
  have e1 := put_new (v := V.int l) q1
  have e2 := put_new (v := V.int m) q2
  have e3 := put_new (v := V.int t) q3
  rw [e0, e1]
  refine Eq.trans (congrArg (fun z => putK z (.inr "turn") (V.int t)) (show putK ([((.inr "cells" : Key), V.ref c)] ++ [((.inr "left" : Key), V.int l)]) (.inr "mixed") (V.int m) = _ from e2)) ?_
  exact e3
section
variable {K : PySem.W.Frag}
theorem asg_run {te : TE} {g : TG} {D : Ends} {σ : L2.St} {H : Hp} (h : te σ H fun x H1 => g x σ H1 D.nx) : tAsg te g D σ H := h
theorem rds {H : Hp} : ∀ is : List Int, DDs K H (is.map V.int) (is.map PyData.int)
  | [] => .nil
  | i :: is => .cons (.int i) (rds is)
theorem ints_of {H : Hp} : ∀ {is : List Int} {vs : List V}, DDs K H vs (is.map PyData.int) → vs = is.map V.int
  | [], _, .nil => rfl
  | i :: is, _, .cons a r => by rw [int_inv a, ints_of r]; rfl
theorem r_open (vs : List V) (H : Hp) (Q : VK) (E : XK) (c : spOpen K vs H Q E) : vs.length = 1 ∧ ∀ D : Ends, D.rt = Q → t__law_open_cells K D (vs.map some ++ List.replicate (4 - 1) none) H := by
  obtain ⟨q, is, rfl, hq, ln, w⟩ := c
  refine ⟨rfl, fun D hD => ?_⟩
  unfold t__law_open_cells
  have sl : SF Fr.no K H ([V.ref q].map some ++ List.replicate (4 - 1) none) [some (dQ (is.map PyData.int)), none, none, none] := by
    have mk : Fr.no.mk' H = H := rfl
    refine ⟨trivial, .cons ?_ (.skip (.skip (.skip .nil)))⟩
    rw [mk]
    exact .rd hq (rds is)
  have A : XS Fr.no K (tSeq (tAsg (tC (.int 11)) (gName 1)) (tFor (iList K (tVar 0)) (gName 2) (tAsg (tOp rMod (tCB rInt1 (tCons (tOp rAdd (tOp rAdd (tOp rMul (tVar 1) (tC (.int 69069))) (tOp rMul (tVar 2) (tC (.int 31)))) (tC (.int 5))) (tNil))) (tC (.int 2147483629))) (gName 1)))) [some (dQ (is.map PyData.int)), none, none, none]
      (fun S => ∃ (m : Int) (o : Option PyData), S = [some (dQ (is.map PyData.int)), some (.int m), o, none]) (fun _ => False) := by
    refine xs_seq (xs_asg (ev_int ?_))
    refine xs_forQ (P := fun k S => ∃ (m : Int) (o : Option PyData), S = [some (dQ (is.map PyData.int)), some (.int m), o, none] ∧ 0 ≤ m ∧ m < 2147483629) (ev_var rfl ⟨_, rfl, ⟨11, none, rfl, by decide, by decide⟩, ?_, fun S ⟨m, o, e, _, _⟩ => ⟨m, o, e⟩⟩)
    rintro k x S hx ⟨m, o, rfl, m0, m1⟩
    obtain ⟨i, rfl⟩ : ∃ i : Int, x = .int i := by
      rw [List.getElem?_map] at hx
      cases h : is[k]? with
      | none => rw [h] at hx; cases hx
      | some i => rw [h] at hx; exact ⟨i, (Option.some.inj hx).symm⟩
    refine xs_asg (s_mod (s_int1 ?_))
    and_intros
    refine ⟨cm_small (by omega), ?_⟩
    and_intros
    refine ⟨cm_small' (by decide), ?_⟩
    and_intros
    refine ⟨by decide, ?_⟩
    have b := mod_in (a := m * 69069 + i * 31 + 5) (m := 2147483629) (by decide)
    exact ⟨_, _, rfl, b.1, b.2⟩
  have B : ∀ (m : Int) (o : Option PyData), EV Fr.no K (tLc (iList K (tVar 0)) (gName 2) (tYes) (tCB rAbs (tCons (tVar 2) (tNil))) [2]) [some (dQ (is.map PyData.int)), some (.int m), o, none] fun d => ∃ js : List Int, d = .list (js.map PyData.int) := fun m o => by
    refine ev_lcQ (ev_var rfl ⟨_, fun k ds => ∃ js : List Int, ds = js.map PyData.int, rfl, by rw [List.length_map]; exact ln, ⟨[], rfl⟩, ?_, fun ds ⟨js, e⟩ => ⟨js, by rw [e]⟩⟩)
    rintro k x hx G hG ds ⟨js, rfl⟩
    obtain ⟨i, rfl⟩ : ∃ i : Int, x = .int i := by
      rw [List.getElem?_map] at hx
      cases h : is[k]? with
      | none => rw [h] at hx; cases hx
      | some i => rw [h] at hx; exact ⟨i, (Option.some.inj hx).symm⟩
    refine et_yes ?_
    rw [if_pos rfl]
    refine s_abs ?_
    and_intros
    exact ⟨js ++ [if i < 0 then -i else i], by rw [List.map_append]; rfl⟩
  refine seq_run (t := tAsg (tC (.int 11)) (gName 1)) ?_
  refine A _ H sl { D with nx := (tSeq (tAsg (tLc (iList K (tVar 0)) (gName 2) (tYes) (tCB rAbs (tCons (tVar 2) (tNil))) [2]) (gName 3)) (tRet (tDisp [(tC (.str "cells"), tRevL K (tVar 3)), (tC (.str "left"), tC (.int 1)), (tC (.str "mixed"), tVar 1), (tC (.str "turn"), tC (.int 0))]))) D } (fun σ1 S1 H1 e1 s1 ⟨m, o, eS⟩ => ?_) fun v d H' e a r => r.elim
  subst eS
  show tSeq (tAsg (tLc (iList K (tVar 0)) (gName 2) (tYes) (tCB rAbs (tCons (tVar 2) (tNil))) [2]) (gName 3)) _ D σ1 H1
  refine seq_run ?_
  refine asg_run ?_
  refine B m o σ1 H1 s1 _ fun v d H2 e2 a2 ⟨js, ed⟩ => ?_
  subst ed
  have s2 := (s1.mono e2).set a2 3
  obtain ⟨v3, x3, a3⟩ := s2.get (i := 3) rfl
  obtain ⟨v1, x1, a1⟩ := s2.get (i := 1) rfl
  cases int_inv a1
  obtain ⟨p3, ys, rfl, hp3, hy⟩ := lst_inv a3
  have ey := ints_of hy
  subst ey
  show tDisp _ _ H2 D.rt
  rw [hD]
  intro a ha
  have n3 : p3 ≠ a := fun e => by have := Fr.no.sub _ _ hp3; rw [e, ha] at this; cases this
  refine ⟨_, x3, p3, _, rfl, SqL.of ((upd_ne n3).trans (Fr.no.sub _ _ hp3)), fun c hc => ?_⟩
  have nca : a ≠ c := fun e => by rw [← e, upd_same] at hc; cases hc
  refine ⟨_, x1, ?_⟩
  refine ⟨(upd_ne nca).trans upd_same, srcKv c 1 m 0, rfl, by show 4 ≤ 15; decide, ?_⟩
  rw [merge_src]
  refine w a c _ nca ⟨1, m, 0, js.reverse, upd_same, ?_⟩
  rw [upd_ne (Ne.symm nca), upd_same, List.map_reverse]
end
end Bm
-- BmR21
set_option maxRecDepth 100000
set_option maxHeartbeats 2000000
/-! BmR21: the law holds. -/
namespace Bm
open PySem PySem.Spec PyProof.Rows L2 Bt
local macro_rules | `(tactic| and_intros) => `(tactic| repeat (with_reducible first
  | refine xs_seq ?_ | refine xs_ret ?_ | refine xs_asg ?_ | refine xs_par ?_ | refine xs_par3 ?_ | refine xs_if ?_ | refine xs_asgT rfl ?_
  | (refine ev_var (d := ?_) ?_ ?_; rotate_left; (with_unfolding_all exact rfl))
  | refine ev_int ?_ | refine ev_bl ?_ | refine ev_str ?_ | refine ev_non ?_
  | refine ev_ixT ?_ | refine ev_ixL ?_ | refine ea_nil ?_ | refine ea_cons ?_ | refine s_tup ?_ | refine s_dis ?_ | refine ev_call ?_
  | refine ⟨_, _, _, rfl, rfl, (by with_unfolding_all exact rfl), ?_⟩
  | refine s_add ?_ | refine s_sub ?_ | refine s_mul ?_ | refine s_fdv ?_ | refine s_mod ?_ | refine s_lt ?_ | refine s_le ?_ | refine s_gt ?_ | refine s_ge ?_ | refine s_neg ?_
  | refine ⟨_, _, rfl, rfl, ?_⟩ | refine ⟨_, _, rfl, ?_⟩ | refine ⟨_, rfl, ?_⟩
  | refine ev_if ?_ | refine et_T ?_ | refine et_B ?_ | refine et_not ?_ | refine et_and ?_ | refine et_or ?_
  | refine ev_gcd2 ?_ | refine ev_eqI ?_ | refine ev_neI ?_
  | refine ⟨(by with_unfolding_all exact rfl), ?_⟩ | refine ⟨Nat.le_of_ble_eq_true (by with_unfolding_all exact rfl), ?_⟩
  | refine ⟨_, rfl, (by with_unfolding_all exact rfl), ?_⟩))
/-- the frame where the source stands aside -/
def Fs (a c : Addr) : Fr where
  ms := fun b => decide (b = a) || decide (b = c)
  ok := Src a c
  loc := fun H H' e o => by
    obtain ⟨l, m, t, is, h1, h2⟩ := o.ex
    exact ⟨l, m, t, is, (e a (by simp)).trans h1, (e c (by simp)).trans h2⟩
  tr := fun H b o m => by
    obtain ⟨l, m', t, is, h1, h2⟩ := o.ex
    rcases Bool.or_eq_true_iff.mp m with q | q
    · rw [of_decide_eq_true q, h1]
      exact fun z => nomatch z
    · rw [of_decide_eq_true q, h2]
      exact fun z => nomatch z
theorem fs_src {a c : Addr} (h : a ≠ c) : SrcF (a, c) (Fs a c) where
  ma := by show (decide (a = a) || decide (a = c)) = true; simp
  mc := by show (decide (c = a) || decide (c = c)) = true; simp
  ne := h
  at_ := fun H o => o
  ch := fun H H' o e s => s
theorem none_same : decide (("same" : Str) = "none") = false := by decide +kernel
theorem none_end : decide (("end" : Str) = "none") = false := by decide +kernel
section
variable {p : Int} {h : PP p} {M N N1 : Mi}
theorem two_back (two : Two h M N) (z : Sim N1 (Mt.adj N.m)) (l : N1.sz 12000) : Two h M N1 := by
  have ad := adj_ne two.on.det
  refine ⟨two.om, ⟨z.det ad, l⟩, two.sm, by rw [z.st h ad, strv_adj]; exact two.sn, fun q => ?_⟩
  obtain ⟨j, hj, ej⟩ := z.ex
  have := comm_sm j N1.m M.m
  rw [ej, comm_adj, comm_swap M.m N1.m, q, Rat.mul_zero, comm_swap] at this
  exact two.cm this
/-- the lines told again, the second move turned back -/
theorem told_back (two : Two h M N) (z : Sim N1 (Mt.adj N.m)) : (∀ {b o : B p}, ApM h M N b o → ∀ d, Tld h M N1 d → d = dAp h b o) ∧ ∀ {Fi La : B p} {w : Int}, AlM h M N Fi La → WyM h N Fi La w → ∀ d, Tld h M N1 d → d = dAl h Fi La (0 - w) := by
  have ad := adj_ne two.on.det
  have e1 : ac h N1 = act h.pi (Mt.adj N.m) := z.act h ad
  have e2 : st p N1 = st p N := by rw [z.st h ad, strv_adj]
  have G := isoM h two.om.det
  have H := hypM h two.om.det two.sm
  have G' := isoM h two.on.det
  have H' := hypM h two.on.det two.sn
  have apx : ∀ {b o : B p}, ApM h M N1 b o → Apart (tr h) (ac h M) (st p M) (act h.pi (Mt.adj N.m)) (st p N) b o := fun A => by
    unfold ApM at A
    rwa [e1, e2] at A
  have alx : ∀ {b o : B p}, AlM h M N1 b o → Along (tr h) (ac h M) (st p M) (act h.pi (Mt.adj N.m)) (st p N) b o := fun A => by
    unfold AlM at A
    rwa [e1, e2] at A
  have wyx : ∀ {b o : B p} {w : Int}, WyM h N1 b o w → WayIs (tr h) (act h.pi (Mt.adj N.m)) (st p N) b o w := fun A => by
    unfold WyM at A
    rwa [e1, e2] at A
  refine ⟨fun A d t => ?_, fun A wi d t => ?_⟩
  · cases t with
    | ap A1 =>
      obtain ⟨rfl, rfl⟩ := Apart.uniq (apx A1) (A.inv G')
      rfl
    | al A1 => exact ((A.inv G').none (alx A1).gF (alx A1).hF).elim
  · cases t with
    | ap A1 => exact ((apx A1).none (A.inv G').gF (A.inv G').hF).elim
    | al A1 w1 =>
      obtain ⟨rfl, rfl⟩ := Along.uniq G H (alx A1) (A.inv G')
      have w1' := wyx w1
      have := WayIs.uniq G'.back (Hyp.inv G' H') (A.inv G').hF (A.inv G').hL w1' (wi.inv G')
      subst this
      rw [Int.zero_sub]
end
section
variable {K : PySem.W.Frag}
theorem r_law (vs : List V) (H : Hp) (Q : VK) (E : XK) (c : spLaw K vs H Q E) : vs.length = 1 ∧ ∀ D : Ends, D.rt = Q → t_law K D (vs.map some ++ List.replicate (10 - 1) none) H := by
  obtain ⟨q, is, rfl, hq, ln, w⟩ := c
  refine ⟨rfl, fun D hD => ?_⟩
  unfold t_law
  refine seq_run ?_
  refine asg_run ?_
  refine ⟨_, rfl, q, is, rfl, hq, by omega, fun a c H' hac src => ?_⟩
  have sf := fs_src hac
  have sl : SF (Fs a c) K H' (([V.ref q].map some ++ List.replicate (10 - 1) none).set 1 (some (.ref a))) [none, some (dO a), none, none, none, none, none, none, none, none] :=
    ⟨src, .skip (.cons (.obj a) (.skip (.skip (.skip (.skip (.skip (.skip (.skip (.skip .nil)))))))))⟩
  have body : ∀ {W : PyData → Prop}, W (.bool true) → XS (Fs a c) K (tSeq (tFor (iRng1 (tCons (tC (.int 2)) (tNil))) (gName 2) (tSeq (tAsg (tCall (PurI SrcF K 1 c__law_draw_prime) [] E0 (tCons (tVar 1) (tNil))) (gName 3)) (tSeq (tAsg (tIf (tOr (tTest (tOp rLt (tVar 2) (tC (.int 1)))) (tTest (tOp rGt (tVar 3) (tC (.int 3))))) (tCall (PurI SrcF K 2 c__law_draw_pair) [] E0 (tCons (tVar 1) (tCons (tVar 3) (tNil)))) (tCall (PurI SrcF K 2 c__law_draw_near) [] E0 (tCons (tVar 1) (tCons (tVar 3) (tNil))))) (gTup K 2 (gNames [4, 5]))) (tIfS (tTest (tOp rEq (tCall (Pur K 3 c__law_lines_kind) [] E0 (tCons (tVar 3) (tCons (tVar 4) (tCons (tVar 5) (tNil))))) (tC (.str "none")))) (tSeq (tPar 6 7 (tCons (tCall (Pur K 3 c_lines) [] E0 (tCons (tVar 3) (tCons (tVar 4) (tCons (tVar 5) (tNil))))) (tCons (tCall (Pur K 4 c__law_move) [] E0 (tCons (tOp (rIxL K) (tLst (tCons (tC (.int 1)) (tCons (tVar 3) (tNil)))) (tCall (PurI SrcF K 2 c__law_pick) [] E0 (tCons (tVar 1) (tCons (tC (.int 2)) (tNil))))) (tCons (tOp rSub (tCall (PurI SrcF K 2 c__law_pick) [] E0 (tCons (tVar 1) (tCons (tC (.int 3)) (tNil)))) (tC (.int 1))) (tCons (tC (.int 0)) (tCons (tC (.int 1)) (tNil)))))) (tNil)))) (tSeq (tIfS (tOr (tNot (tB (tCall (Pur K 4 c__law_products_right) [] E0 (tCons (tVar 3) (tCons (tVar 4) (tCons (tVar 5) (tCons (tVar 6) (tNil)))))))) (tNot (tB (tCall (Pur K 5 c__law_led_right) [] E0 (tCons (tVar 3) (tCons (tVar 4) (tCons (tVar 5) (tCons (tVar 6) (tCons (tVar 7) (tNil)))))))))) (tRet (tC (.bl false))) (tNext)) (tSeq (tAsg (tCall (Pur K 3 c_lines) [] E0 (tCons (tVar 3) (tCons (tVar 4) (tCons (tCall (Pur K 1 c_back) [] E0 (tCons (tVar 5) (tNil))) (tNil))))) (gName 8)) (tSeq (tAsg (tIf (tTest (tOp rEq (tOp (rIxT K) (tVar 6) (tC (.int 0))) (tC (.str "apart")))) (tVar 6) (tOp (rCatT K) (tOp (rCatT K) (tSl (rSlA K) (tVar 6) (tNoPart) (tPart (tC (.int 2)))) (tTup (tCons (tOp rSub (tC (.int 0)) (tOp (rIxT K) (tVar 6) (tC (.int 2)))) (tNil)))) (tSl (rSlA K) (tVar 6) (tPart (tC (.int 3))) (tNoPart)))) (gName 9)) (tIfS (tTest (tOp (rNeD K) (tVar 8) (tVar 9))) (tRet (tC (.bl false))) (tNext)))))) (tNext))))) (tRet (tC (.bl true))))
      [none, some (dO a), none, none, none, none, none, none, none, none] (fun _ => False) W := fun {W} w => by
    refine xs_seq (xs_forR1 (P := fun k S => ∃ o2 o3 o4 o5 o6 o7 o8 o9, S = [none, some (dO a), o2, o3, o4, o5, o6, o7, o8, o9]) (ea_cons (ev_int (ea_nil ⟨2, rfl, by decide, by decide, ⟨_, _, _, _, _, _, _, _, rfl⟩, ?_, fun S hS => xs_ret (ev_bl w)⟩))))
    rintro k S hk ⟨o2, o3, o4, o5, o6, o7, o8, o9, rfl⟩
    refine xs_seq (xs_asg (ev_callI (a, c) sf (ea_cons (ev_var rfl (ea_nil ⟨rfl, rfl, fun p h => ?_⟩)))))
    refine xs_seq (xs_asgT rfl (EV.imp (W := fun d => ∃ M N : Mi, d = .tuple [dM M, dM N] ∧ Drw 42 M ∧ Drw 42 N ∧ 0 < st p M ∧ 0 < st p N) ?_ ?_))
    · have pr : ∀ b : Bool, if b = true then EV (Fs a c) K (tCall (PurI SrcF K 2 c__law_draw_pair) [] E0 (tCons (tVar 1) (tCons (tVar 3) (tNil)))) [none, some (dO a), some (.int (k : Int)), some (.int p), o4, o5, o6, o7, o8, o9] (fun d => ∃ M N : Mi, d = .tuple [dM M, dM N] ∧ Drw 42 M ∧ Drw 42 N ∧ 0 < st p M ∧ 0 < st p N)
          else EV (Fs a c) K (tCall (PurI SrcF K 2 c__law_draw_near) [] E0 (tCons (tVar 1) (tCons (tVar 3) (tNil)))) [none, some (dO a), some (.int (k : Int)), some (.int p), o4, o5, o6, o7, o8, o9] (fun d => ∃ M N : Mi, d = .tuple [dM M, dM N] ∧ Drw 42 M ∧ Drw 42 N ∧ 0 < st p M ∧ 0 < st p N) := fun b => by
        cases b with
        | true => exact ev_callI (a, c) sf (ea_cons (ev_var rfl (ea_cons (ev_var rfl (ea_nil ⟨rfl, p, h, rfl, fun M N d1 d2 s1 s2 => ⟨M, N, rfl, d1, d2, s1, s2⟩⟩)))))
        | false => exact ev_callI (a, c) sf (ea_cons (ev_var rfl (ea_cons (ev_var rfl (ea_nil ⟨rfl, p, h, rfl, fun M N d1 d2 s1 s2 => ⟨M, N, rfl, d1, d2, s1, s2⟩⟩)))))
      refine ev_if (et_or (et_T (s_lt (ev_var rfl (ev_int ⟨_, _, rfl, rfl, _, rfl, ?_⟩)))))
      refine iteB (fun _ => pr true) (fun _ => ?_)
      exact et_T (s_gt (ev_var rfl (ev_int ⟨_, _, rfl, rfl, _, rfl, pr _⟩)))
    rintro d ⟨M, N, rfl, dM', dN', sM, sN⟩
    refine ⟨_, rfl, rfl, ?_⟩
    refine xs_if (et_T (ev_eqS (ev_call (ea_cons (ev_var rfl (ea_cons (ev_var rfl (ea_cons (ev_var rfl (ea_nil ⟨rfl, p, M, N, rfl, dM'.len.mono (by decide), dN'.len.mono (by decide), fun cm => ?_, ?_, ?_⟩))))))))))
    rotate_left
    · refine ev_str ⟨_, _, rfl, rfl, _, rfl, ?_⟩
      rw [none_same, if_neg (by decide)]
      exact xs_next ⟨_, _, _, _, _, _, _, _, rfl⟩
    · refine ev_str ⟨_, _, rfl, rfl, _, rfl, ?_⟩
      rw [none_end, if_neg (by decide)]
      exact xs_next ⟨_, _, _, _, _, _, _, _, rfl⟩
    refine ev_str ⟨_, _, rfl, rfl, _, rfl, ?_⟩
    rw [decide_self, if_pos rfl]
    have two : Two h M N := ⟨⟨dM'.det, dM'.len.mono (by decide)⟩, ⟨dN'.det, dN'.len.mono (by decide)⟩, sM, sN, cm⟩
    have p2 := pp_pos h
    refine xs_seq (xs_par (ea_cons (ev_call (ea_cons (ev_var rfl (ea_cons (ev_var rfl (ea_cons (ev_var rfl (ea_nil ⟨rfl, p, h, M, N, rfl, two, fun told td => ?_⟩))))))))))
    refine ea_cons (ev_call (ea_cons (ev_oneOf sf [.int 1, .int p] rfl (List.cons_ne_nil _ _) rfl (by and_intros; rfl) fun z hz => ?_)))
    simp only [List.mem_cons, List.not_mem_nil, or_false] at hz
    obtain ⟨z, rfl, z0, sz⟩ : ∃ f : Int, z = .int f ∧ f ≠ 0 ∧ sz 3 f := by
      rcases hz with rfl | rfl
      · exact ⟨1, rfl, by decide, sz_lit (by decide)⟩
      · exact ⟨p, rfl, by omega, pp_sz h⟩
    refine ea_cons (s_sub (ev_pick sf (by decide) rfl fun j j0 j1 => ev_int ⟨_, _, rfl, rfl, ea_cons (ev_int (ea_cons (ev_int (ea_nil ⟨rfl, ?_⟩))))⟩))
    refine mv_of (n := 3) (by rw [Int.mul_one, Int.mul_zero, Int.sub_zero]; exact z0) ⟨sz, sz_lit (by show -7 ≤ j - 1 ∧ j - 1 ≤ 7; omega), sz_lit (a := 0) (by decide), sz_lit (a := 1) (by decide)⟩ fun t dt => ea_nil ⟨_, _, rfl, ?_⟩
    refine xs_seq (xs_if (et_or (et_not (et_B (ev_call (ea_cons (ev_var rfl (ea_cons (ev_var rfl (ea_cons (ev_var rfl (ea_cons (ev_var rfl (ea_nil ⟨rfl, p, h, M, N, told, rfl, two, dM'.len.mono (by decide), dN'.len.mono (by decide), td, true, rfl, ?_⟩))))))))))))))
    rw [if_neg (by decide)]
    refine et_not (et_B (ev_call (ea_cons (ev_var rfl (ea_cons (ev_var rfl (ea_cons (ev_var rfl (ea_cons (ev_var rfl (ea_cons (ev_var rfl (ea_nil ⟨rfl, p, h, M, N, told, t, rfl, two, dM'.len, dN'.len, td, ⟨dt.det, dt.len⟩, true, rfl, ?_⟩)))))))))))))
    rw [if_neg (by decide)]
    refine xs_next (xs_seq (xs_asg (ev_call (ea_cons (ev_var rfl (ea_cons (ev_var rfl (ea_cons (ev_call (ea_cons (ev_var rfl (ea_nil ⟨rfl, N, rfl, dN'.det, fun N1 k hk e1 e2 e3 e4 => ?_⟩))))))))))))
    have zN := back_sim hk e1 e2 e3 e4
    have lN := back_len dN'.len hk e1 e2 e3 e4
    have two1 := two_back two zN (lN.mono (by decide))
    obtain ⟨tb1, tb2⟩ := told_back two zN
    refine ea_nil ⟨rfl, p, h, M, N1, rfl, two1, fun d1 t1 => ?_⟩
    cases td with
    | @ap b o A rb ro =>
      have e := tb1 A d1 t1
      subst e
      refine xs_seq (xs_asg (ev_if (et_T (ev_eqS (ev_ixT (ev_var rfl (ev_int ⟨_, _, _, rfl, rfl, rfl, ev_str ⟨_, _, rfl, rfl, _, rfl, ?_⟩⟩)))))))
      rw [decide_self, if_pos rfl]
      refine ev_var rfl (xs_if (et_T (ev_neD (ev_var rfl (ev_var rfl ⟨shS ok_apart rfl (Nat.le_of_ble_eq_true rfl), shS ok_apart rfl (Nat.le_of_ble_eq_true rfl), _, rfl, ?_⟩)))))
      rw [show PyData.eqv (dAp h b o) (dAp h b o) = true from (eqv_iff rfl rfl).mpr rfl, if_neg (by decide)]
      exact xs_next ⟨_, _, _, _, _, _, _, _, rfl⟩
    | @al Fi La wy A wi rF rL =>
      have e := tb2 A wi d1 t1
      subst e
      refine xs_seq (xs_asg (ev_if (et_T (ev_eqS (ev_ixT (ev_var rfl (ev_int ⟨_, _, _, rfl, rfl, rfl, ev_str ⟨_, _, rfl, rfl, _, rfl, ?_⟩⟩)))))))
      rw [apart_ne, if_neg (by decide)]
      refine ev_catT (ev_catT (ev_slT (ev_var rfl (eo_none (eo_some (ev_int ⟨2, rfl, _, rfl, ?_⟩))))))
      refine s_tup (ea_cons (s_sub (ev_int (ev_ixT (ev_var rfl (ev_int ⟨_, _, _, rfl, rfl, rfl, _, _, rfl, rfl, ea_nil ⟨Nat.le_of_ble_eq_true rfl, _, _, rfl, rfl, ?_, List.cons_ne_nil _ _, ?_, ?_⟩⟩))))))
      · rw [show cutD [PyData.str "along", .int ((tr h).d Fi La), .int wy, dB Fi.1, dB La.1] none (some 2) = [.str "along", .int ((tr h).d Fi La)] from cut_to _ 2]
        exact List.cons_ne_nil _ _
      · rw [show cutD [PyData.str "along", .int ((tr h).d Fi La), .int wy, dB Fi.1, dB La.1] none (some 2) = [.str "along", .int ((tr h).d Fi La)] from cut_to _ 2]
        show 2 + 1 ≤ _
        decide
      · rw [show cutD [PyData.str "along", .int ((tr h).d Fi La), .int wy, dB Fi.1, dB La.1] none (some 2) = [.str "along", .int ((tr h).d Fi La)] from cut_to _ 2]
        refine ev_slT (ev_var rfl (eo_some (ev_int ⟨3, rfl, eo_none ⟨_, rfl, ?_⟩⟩)))
        rw [show cutD [PyData.str "along", .int ((tr h).d Fi La), .int wy, dB Fi.1, dB La.1] (some 3) none = [dB Fi.1, dB La.1] from cut_from _ 3]
        refine ⟨_, _, rfl, rfl, by simp, by simp, (by show 3 + 2 ≤ _; decide), ?_⟩
        refine xs_if (et_T (ev_neD (ev_var rfl (ev_var rfl ⟨shS ok_along rfl (Nat.le_of_ble_eq_true rfl), shS ok_along rfl (Nat.le_of_ble_eq_true rfl), _, rfl, ?_⟩))))
        rw [show PyData.eqv (dAl h Fi La (0 - wy)) (.tuple ([PyData.str "along", .int ((tr h).d Fi La)] ++ [.int (0 - wy)] ++ [dB Fi.1, dB La.1])) = true from (eqv_iff rfl rfl).mpr rfl, if_neg (by decide)]
        exact xs_next ⟨_, _, _, _, _, _, _, _, rfl⟩
  exact body (W := fun d => d = .bool true) rfl _ H' sl D (fun σ' S' H2 e s q => q.elim) fun v d H2 e a r => by
    subst r
    cases bl_inv a
    rw [hD]
    exact w H2
end
end Bm
-- BmTie
set_option maxRecDepth 100000
set_option maxHeartbeats 2000000
/-! BmTie: printed by mkwalk.py: each def keeps its promise. -/
namespace Bm
open PySem PySem.Spec PyProof.Rows L2
section
variable {P : Program} {w : World} {K : PySem.W.Frag} {mg : Str → Option Value} {base : Heap} {x qual : Str} {params : Arguments} {body : List Stmt} {scope : Scope} {f : Addr} {fd : FuncData} {N ps : List Str} {k n m : Nat} {sp : Sp} {t : TS}
theorem fct_raw (D : FunD K x qual params body scope [] [] f fd) (hm : mg x = some (.ref f)) (S : FnScope N ps scope) (hn : ps.length = n) (hN : N.length = m)
    (hb : ∀ (kV doc pm : Value) (an : Option Addr) (cdv ct : Value) (us : List Value), us.length = ps.length → bindArgs (PySem.W.fnOf x qual params body scope .none kV doc pm an cdv ct) ⟨us, []⟩ = pure (ps.zip us))
    (body_ok : ∀ (cdv : Value) (A : Around) (outer : List Env) (s : Shared) (H : Hp) (E : XK), Room k (A.deeper (envOfC qual scope s.heap.objs.size f cdv)) → PSs (cxOf CX0 P w K mg base N qual scope f cdv A outer s H E).nox body t)
    (raw : ∀ vs H Q E, sp vs H Q E → vs.length = n ∧ ∀ D : Ends, D.rt = Q → t D (vs.map some ++ List.replicate (m - n) none) H) :
    Fct P w K mg base (k + 1) x sp := by
  refine ⟨f, fd, ps, D.ok S (fun vs H Q E c => by rw [(raw vs H Q E c).1, hn]) (fun cdv A outer s H vs Q E hr c => ⟨t, (body_ok cdv A outer s H E hr).nox, ?_⟩), hm, D.kp, D.bindsN hb⟩
  obtain ⟨hl, r⟩ := raw vs H Q E c
  have e : L2.start N vs = vs.map some ++ List.replicate (m - n) none := by
    unfold L2.start
    rw [hl, hN]
  rw [e]
  exact r _ rfl
end
section
variable {P : Program} {w : World} {K : PySem.W.Frag} {mg : Str → Option Value} {base : Heap}
theorem f_is_number (T : Tx P w K mg base) : Fct P w K mg base 2 "is_number" (Pur K 1 c_is_number) := by
  obtain ⟨hm, fd, D⟩ := T.df "is_number" 9 (List.mem_of_getElem? (i := 0) rfl)
  exact fct_of D hm sc_is_number rfl (fun _ _ _ _ _ _ us hl => match us, hl with | [_], _ => rfl) (fun cdv A outer s H E hr => w_is_number T  hr) (fun F ds W hl c => r_is_number ds W hl c)
theorem f_is_less (T : Tx P w K mg base) : Fct P w K mg base 2 "is_less" (Pur K 2 c_is_less) := by
  obtain ⟨hm, fd, D⟩ := T.df "is_less" 17 (List.mem_of_getElem? (i := 8) rfl)
  exact fct_of D hm sc_is_less rfl (fun _ _ _ _ _ _ us hl => match us, hl with | [_, _], _ => rfl) (fun cdv A outer s H E hr => w_is_less T  hr) (fun F ds W hl c => r_is_less ds W hl c)
theorem f_raised (T : Tx P w K mg base) : Fct P w K mg base 2 "raised" (Pur K 2 c_raised) := by
  obtain ⟨hm, fd, D⟩ := T.df "raised" 21 (List.mem_of_getElem? (i := 11) rfl)
  exact fct_of D hm sc_raised rfl (fun _ _ _ _ _ _ us hl => match us, hl with | [_, _], _ => rfl) (fun cdv A outer s H E hr => w_raised T  hr) (fun F ds W hl c => r_raised ds W hl c)
theorem f_size (T : Tx P w K mg base) : Fct P w K mg base 2 "size" (Pur K 1 c_size) := by
  obtain ⟨hm, fd, D⟩ := T.df "size" 38 (List.mem_of_getElem? (i := 22) rfl)
  exact fct_of D hm sc_size rfl (fun _ _ _ _ _ _ us hl => match us, hl with | [_], _ => rfl) (fun cdv A outer s H E hr => w_size T  hr) (fun F ds W hl c => r_size ds W hl c)
theorem f_sum_of (T : Tx P w K mg base) : Fct P w K mg base 2 "sum_of" (Pur K 1 c_sum_of) := by
  obtain ⟨hm, fd, D⟩ := T.df "sum_of" 39 (List.mem_of_getElem? (i := 23) rfl)
  exact fct_of D hm sc_sum_of rfl (fun _ _ _ _ _ _ us hl => match us, hl with | [_], _ => rfl) (fun cdv A outer s H E hr => w_sum_of T  hr) (fun F ds W hl c => r_sum_of ds W hl c)
theorem f_between (T : Tx P w K mg base) : Fct P w K mg base 2 "between" (Pur K 2 c_between) := by
  obtain ⟨hm, fd, D⟩ := T.df "between" 64 (List.mem_of_getElem? (i := 42) rfl)
  exact fct_of D hm sc_between rfl (fun _ _ _ _ _ _ us hl => match us, hl with | [_, _], _ => rfl) (fun cdv A outer s H E hr => w_between T  hr) (fun F ds W hl c => r_between ds W hl c)
theorem f__law_open_cells (T : Tx P w K mg base) : Fct P w K mg base 2 "_law_open_cells" (spOpen K) := by
  obtain ⟨hm, fd, D⟩ := T.df "_law_open_cells" 81 (List.mem_of_getElem? (i := 55) rfl)
  exact fct_raw D hm sc__law_open_cells rfl rfl (fun _ _ _ _ _ _ us hl => match us, hl with | [_], _ => rfl) (fun cdv A outer s H E hr => w__law_open_cells T  hr) (fun vs H Q E c => r_open vs H Q E c)
theorem f__law_common (T : Tx P w K mg base) : Fct P w K mg base 2 "_law_common" (Pur K 2 c__law_common) := by
  obtain ⟨hm, fd, D⟩ := T.df "_law_common" 84 (List.mem_of_getElem? (i := 58) rfl)
  exact fct_of D hm sc__law_common rfl (fun _ _ _ _ _ _ us hl => match us, hl with | [_, _], _ => rfl) (fun cdv A outer s H E hr => w__law_common T  hr) (fun F ds W hl c => r__law_common ds W hl c)
theorem f__law_raised (T : Tx P w K mg base) : Fct P w K mg base 2 "_law_raised" (Pur K 2 c__law_raised) := by
  obtain ⟨hm, fd, D⟩ := T.df "_law_raised" 87 (List.mem_of_getElem? (i := 61) rfl)
  exact fct_of D hm sc__law_raised rfl (fun _ _ _ _ _ _ us hl => match us, hl with | [_, _], _ => rfl) (fun cdv A outer s H E hr => w__law_raised T  hr) (fun F ds W hl c => r__law_raised ds W hl c)
theorem f__law_size (T : Tx P w K mg base) : Fct P w K mg base 2 "_law_size" (Pur K 1 c__law_size) := by
  obtain ⟨hm, fd, D⟩ := T.df "_law_size" 92 (List.mem_of_getElem? (i := 66) rfl)
  exact fct_of D hm sc__law_size rfl (fun _ _ _ _ _ _ us hl => match us, hl with | [_], _ => rfl) (fun cdv A outer s H E hr => w__law_size T  hr) (fun F ds W hl c => r__law_size ds W hl c)
theorem f__law_between (T : Tx P w K mg base) : Fct P w K mg base 2 "_law_between" (Pur K 2 c__law_between) := by
  obtain ⟨hm, fd, D⟩ := T.df "_law_between" 99 (List.mem_of_getElem? (i := 73) rfl)
  exact fct_of D hm sc__law_between rfl (fun _ _ _ _ _ _ us hl => match us, hl with | [_, _], _ => rfl) (fun cdv A outer s H E hr => w__law_between T  hr) (fun F ds W hl c => r__law_between ds W hl c)
theorem f_is_row_of_numbers (T : Tx P w K mg base) : Fct P w K mg base 3 "is_row_of_numbers" (Pur K 2 c_is_row_of_numbers) := by
  obtain ⟨hm, fd, D⟩ := T.df "is_row_of_numbers" 10 (List.mem_of_getElem? (i := 1) rfl)
  exact fct_of D hm sc_is_row_of_numbers rfl (fun _ _ _ _ _ _ us hl => match us, hl with | [_, _], _ => rfl) (fun cdv A outer s H E hr => w_is_row_of_numbers T (f_is_number T) hr) (fun F ds W hl c => r_is_row_of_numbers ds W hl c)
theorem f_power_of (T : Tx P w K mg base) : Fct P w K mg base 3 "power_of" (Pur K 2 c_power_of) := by
  obtain ⟨hm, fd, D⟩ := T.df "power_of" 22 (List.mem_of_getElem? (i := 12) rfl)
  exact fct_of D hm sc_power_of rfl (fun _ _ _ _ _ _ us hl => match us, hl with | [_, _], _ => rfl) (fun cdv A outer s H E hr => w_power_of T (f_raised T) hr) (fun F ds W hl c => r_power_of ds W hl c)
theorem f__law_power (T : Tx P w K mg base) : Fct P w K mg base 3 "_law_power" (Pur K 2 c__law_power) := by
  obtain ⟨hm, fd, D⟩ := T.df "_law_power" 88 (List.mem_of_getElem? (i := 62) rfl)
  exact fct_of D hm sc__law_power rfl (fun _ _ _ _ _ _ us hl => match us, hl with | [_, _], _ => rfl) (fun cdv A outer s H E hr => w__law_power T (f__law_raised T) hr) (fun F ds W hl c => r__law_power ds W hl c)
theorem f__law_lines_kind (T : Tx P w K mg base) : Fct P w K mg base 3 "_law_lines_kind" (Pur K 3 c__law_lines_kind) := by
  obtain ⟨hm, fd, D⟩ := T.df "_law_lines_kind" 100 (List.mem_of_getElem? (i := 74) rfl)
  exact fct_of D hm sc__law_lines_kind rfl (fun _ _ _ _ _ _ us hl => match us, hl with | [_, _, _], _ => rfl) (fun cdv A outer s H E hr => w__law_lines_kind T (f__law_between T) hr) (fun F ds W hl c => r__law_lines_kind ds W hl c)
theorem f_is_fraction (T : Tx P w K mg base) : Fct P w K mg base 4 "is_fraction" (Pur K 1 c_is_fraction) := by
  obtain ⟨hm, fd, D⟩ := T.df "is_fraction" 12 (List.mem_of_getElem? (i := 3) rfl)
  exact fct_of D hm sc_is_fraction rfl (fun _ _ _ _ _ _ us hl => match us, hl with | [_], _ => rfl) (fun cdv A outer s H E hr => w_is_fraction T (f_is_row_of_numbers T) hr) (fun F ds W hl c => r_is_fraction ds W hl c)
theorem f_fraction (T : Tx P w K mg base) : Fct P w K mg base 36 "fraction" (Pur K 2 c_fraction) := by
  obtain ⟨hm, fd, D⟩ := T.df "fraction" 11 (List.mem_of_getElem? (i := 2) rfl)
  exact fct_of D hm sc_fraction rfl (fun _ _ _ _ _ _ us hl => match us, hl with | [_, _], _ => rfl) (fun cdv A outer s H E hr => w_fraction T  hr) (fun F ds W hl c => r_fraction ds W hl c)
theorem f_split_off (T : Tx P w K mg base) : Fct P w K mg base 36 "split_off" (Pur K 2 c_split_off) := by
  obtain ⟨hm, fd, D⟩ := T.df "split_off" 19 (List.mem_of_getElem? (i := 9) rfl)
  exact fct_of D hm sc_split_off rfl (fun _ _ _ _ _ _ us hl => match us, hl with | [_, _], _ => rfl) (fun cdv A outer s H E hr => w_split_off T  hr) (fun F ds W hl c => r_split_off ds W hl c)
theorem f_inverse (T : Tx P w K mg base) : Fct P w K mg base 36 "inverse" (Pur K 2 c_inverse) := by
  obtain ⟨hm, fd, D⟩ := T.df "inverse" 23 (List.mem_of_getElem? (i := 13) rfl)
  exact fct_of D hm sc_inverse rfl (fun _ _ _ _ _ _ us hl => match us, hl with | [_, _], _ => rfl) (fun cdv A outer s H E hr => w_inverse T  hr) (fun F ds W hl c => r_inverse ds W hl c)
theorem f_in_form (T : Tx P w K mg base) : Fct P w K mg base 36 "in_form" (Pur K 1 c_in_form) := by
  obtain ⟨hm, fd, D⟩ := T.df "in_form" 37 (List.mem_of_getElem? (i := 21) rfl)
  exact fct_of D hm sc_in_form rfl (fun _ _ _ _ _ _ us hl => match us, hl with | [_], _ => rfl) (fun cdv A outer s H E hr => w_in_form T  hr) (fun F ds W hl c => r_in_form ds W hl c)
theorem f__law_pick (T : Tx P w K mg base) : Fct P w K mg base 36 "_law_pick" (PurI SrcF K 2 c__law_pick) := by
  obtain ⟨hm, fd, D⟩ := T.df "_law_pick" 82 (List.mem_of_getElem? (i := 56) rfl)
  exact fctI_of D hm sc__law_pick rfl (fun _ _ _ _ _ _ us hl => match us, hl with | [_, _], _ => rfl) (fun cdv A outer s H E hr => w__law_pick T  hr) (fun i F ds W sf hl c => r__law_pick i F ds W sf hl c)
theorem f__law_fraction (T : Tx P w K mg base) : Fct P w K mg base 36 "_law_fraction" (Pur K 2 c__law_fraction) := by
  obtain ⟨hm, fd, D⟩ := T.df "_law_fraction" 85 (List.mem_of_getElem? (i := 59) rfl)
  exact fct_of D hm sc__law_fraction rfl (fun _ _ _ _ _ _ us hl => match us, hl with | [_, _], _ => rfl) (fun cdv A outer s H E hr => w__law_fraction T (f__law_common T) hr) (fun F ds W hl c => r__law_fraction ds W hl c)
theorem f__law_parts (T : Tx P w K mg base) : Fct P w K mg base 36 "_law_parts" (Pur K 2 c__law_parts) := by
  obtain ⟨hm, fd, D⟩ := T.df "_law_parts" 86 (List.mem_of_getElem? (i := 60) rfl)
  exact fct_of D hm sc__law_parts rfl (fun _ _ _ _ _ _ us hl => match us, hl with | [_, _], _ => rfl) (fun cdv A outer s H E hr => w__law_parts T  hr) (fun F ds W hl c => r__law_parts ds W hl c)
theorem f__law_move (T : Tx P w K mg base) : Fct P w K mg base 36 "_law_move" (Pur K 4 c__law_move) := by
  obtain ⟨hm, fd, D⟩ := T.df "_law_move" 89 (List.mem_of_getElem? (i := 63) rfl)
  exact fct_of D hm sc__law_move rfl (fun _ _ _ _ _ _ us hl => match us, hl with | [_, _, _, _], _ => rfl) (fun cdv A outer s H E hr => w__law_move T (f__law_common T) hr) (fun F ds W hl c => r__law_move ds W hl c)
theorem f_plus (T : Tx P w K mg base) : Fct P w K mg base 37 "plus" (Pur K 2 c_plus) := by
  obtain ⟨hm, fd, D⟩ := T.df "plus" 13 (List.mem_of_getElem? (i := 4) rfl)
  exact fct_of D hm sc_plus rfl (fun _ _ _ _ _ _ us hl => match us, hl with | [_, _], _ => rfl) (fun cdv A outer s H E hr => w_plus T (f_fraction T) hr) (fun F ds W hl c => r_plus ds W hl c)
theorem f_minus (T : Tx P w K mg base) : Fct P w K mg base 37 "minus" (Pur K 2 c_minus) := by
  obtain ⟨hm, fd, D⟩ := T.df "minus" 14 (List.mem_of_getElem? (i := 5) rfl)
  exact fct_of D hm sc_minus rfl (fun _ _ _ _ _ _ us hl => match us, hl with | [_, _], _ => rfl) (fun cdv A outer s H E hr => w_minus T (f_fraction T) hr) (fun F ds W hl c => r_minus ds W hl c)
theorem f_times_of (T : Tx P w K mg base) : Fct P w K mg base 37 "times_of" (Pur K 2 c_times_of) := by
  obtain ⟨hm, fd, D⟩ := T.df "times_of" 15 (List.mem_of_getElem? (i := 6) rfl)
  exact fct_of D hm sc_times_of rfl (fun _ _ _ _ _ _ us hl => match us, hl with | [_, _], _ => rfl) (fun cdv A outer s H E hr => w_times_of T (f_fraction T) hr) (fun F ds W hl c => r_times_of ds W hl c)
theorem f_divided (T : Tx P w K mg base) : Fct P w K mg base 37 "divided" (Pur K 2 c_divided) := by
  obtain ⟨hm, fd, D⟩ := T.df "divided" 16 (List.mem_of_getElem? (i := 7) rfl)
  exact fct_of D hm sc_divided rfl (fun _ _ _ _ _ _ us hl => match us, hl with | [_, _], _ => rfl) (fun cdv A outer s H E hr => w_divided T (f_fraction T) hr) (fun F ds W hl c => r_divided ds W hl c)
theorem f_parts (T : Tx P w K mg base) : Fct P w K mg base 37 "parts" (Pur K 2 c_parts) := by
  obtain ⟨hm, fd, D⟩ := T.df "parts" 20 (List.mem_of_getElem? (i := 10) rfl)
  exact fct_of D hm sc_parts rfl (fun _ _ _ _ _ _ us hl => match us, hl with | [_, _], _ => rfl) (fun cdv A outer s H E hr => w_parts T (f_split_off T) hr) (fun F ds W hl c => r_parts ds W hl c)
theorem f_rest (T : Tx P w K mg base) : Fct P w K mg base 37 "rest" (Pur K 3 c_rest) := by
  obtain ⟨hm, fd, D⟩ := T.df "rest" 24 (List.mem_of_getElem? (i := 14) rfl)
  exact fct_of D hm sc_rest rfl (fun _ _ _ _ _ _ us hl => match us, hl with | [_, _, _], _ => rfl) (fun cdv A outer s H E hr => w_rest T (f_inverse T) (f_raised T) hr) (fun F ds W hl c => r_rest ds W hl c)
theorem f_is_ball (T : Tx P w K mg base) : Fct P w K mg base 37 "is_ball" (Pur K 2 c_is_ball) := by
  obtain ⟨hm, fd, D⟩ := T.df "is_ball" 27 (List.mem_of_getElem? (i := 15) rfl)
  exact fct_of D hm sc_is_ball rfl (fun _ _ _ _ _ _ us hl => match us, hl with | [_, _], _ => rfl) (fun cdv A outer s H E hr => w_is_ball T (f_is_fraction T) (f_is_less T) (f_is_number T) (f_power_of T) (f_split_off T) hr) (fun F ds W hl c => r_is_ball ds W hl c)
theorem f_after (T : Tx P w K mg base) : Fct P w K mg base 37 "after" (Pur K 2 c_after) := by
  obtain ⟨hm, fd, D⟩ := T.df "after" 40 (List.mem_of_getElem? (i := 24) rfl)
  exact fct_of D hm sc_after rfl (fun _ _ _ _ _ _ us hl => match us, hl with | [_, _], _ => rfl) (fun cdv A outer s H E hr => w_after T (f_in_form T) hr) (fun F ds W hl c => r_after ds W hl c)
theorem f_back (T : Tx P w K mg base) : Fct P w K mg base 37 "back" (Pur K 1 c_back) := by
  obtain ⟨hm, fd, D⟩ := T.df "back" 41 (List.mem_of_getElem? (i := 25) rfl)
  exact fct_of D hm sc_back rfl (fun _ _ _ _ _ _ us hl => match us, hl with | [_], _ => rfl) (fun cdv A outer s H E hr => w_back T (f_in_form T) hr) (fun F ds W hl c => r_back ds W hl c)
theorem f_stretch (T : Tx P w K mg base) : Fct P w K mg base 37 "stretch" (Pur K 2 c_stretch) := by
  obtain ⟨hm, fd, D⟩ := T.df "stretch" 55 (List.mem_of_getElem? (i := 36) rfl)
  exact fct_of D hm sc_stretch rfl (fun _ _ _ _ _ _ us hl => match us, hl with | [_, _], _ => rfl) (fun cdv A outer s H E hr => w_stretch T (f_size T) (f_split_off T) (f_sum_of T) hr) (fun F ds W hl c => r_stretch ds W hl c)
theorem f__law_any_order (T : Tx P w K mg base) : Fct P w K mg base 37 "_law_any_order" (PurI SrcF K 2 c__law_any_order) := by
  obtain ⟨hm, fd, D⟩ := T.df "_law_any_order" 83 (List.mem_of_getElem? (i := 57) rfl)
  exact fctI_of D hm sc__law_any_order rfl (fun _ _ _ _ _ _ us hl => match us, hl with | [_, _], _ => rfl) (fun cdv A outer s H E hr => w__law_any_order T (f__law_pick T) hr) (fun i F ds W sf hl c => r__law_any_order i F ds W sf hl c)
theorem f__law_after (T : Tx P w K mg base) : Fct P w K mg base 37 "_law_after" (Pur K 2 c__law_after) := by
  obtain ⟨hm, fd, D⟩ := T.df "_law_after" 90 (List.mem_of_getElem? (i := 64) rfl)
  exact fct_of D hm sc__law_after rfl (fun _ _ _ _ _ _ us hl => match us, hl with | [_, _], _ => rfl) (fun cdv A outer s H E hr => w__law_after T (f__law_move T) hr) (fun F ds W hl c => r__law_after ds W hl c)
theorem f__law_back (T : Tx P w K mg base) : Fct P w K mg base 37 "_law_back" (Pur K 1 c__law_back) := by
  obtain ⟨hm, fd, D⟩ := T.df "_law_back" 91 (List.mem_of_getElem? (i := 65) rfl)
  exact fct_of D hm sc__law_back rfl (fun _ _ _ _ _ _ us hl => match us, hl with | [_], _ => rfl) (fun cdv A outer s H E hr => w__law_back T (f__law_move T) hr) (fun F ds W hl c => r__law_back ds W hl c)
theorem f__law_stretch (T : Tx P w K mg base) : Fct P w K mg base 37 "_law_stretch" (Pur K 2 c__law_stretch) := by
  obtain ⟨hm, fd, D⟩ := T.df "_law_stretch" 93 (List.mem_of_getElem? (i := 67) rfl)
  exact fct_of D hm sc__law_stretch rfl (fun _ _ _ _ _ _ us hl => match us, hl with | [_, _], _ => rfl) (fun cdv A outer s H E hr => w__law_stretch T (f__law_parts T) (f__law_size T) hr) (fun F ds W hl c => r__law_stretch ds W hl c)
theorem f__law_draw_prime (T : Tx P w K mg base) : Fct P w K mg base 37 "_law_draw_prime" (PurI SrcF K 1 c__law_draw_prime) := by
  obtain ⟨hm, fd, D⟩ := T.df "_law_draw_prime" 94 (List.mem_of_getElem? (i := 68) rfl)
  exact fctI_of D hm sc__law_draw_prime rfl (fun _ _ _ _ _ _ us hl => match us, hl with | [_], _ => rfl) (fun cdv A outer s H E hr => w__law_draw_prime T (f__law_pick T) hr) (fun i F ds W sf hl c => r__law_draw_prime i F ds W sf hl c)
theorem f__law_draw_point (T : Tx P w K mg base) : Fct P w K mg base 37 "_law_draw_point" (PurI SrcF K 2 c__law_draw_point) := by
  obtain ⟨hm, fd, D⟩ := T.df "_law_draw_point" 96 (List.mem_of_getElem? (i := 70) rfl)
  exact fctI_of D hm sc__law_draw_point rfl (fun _ _ _ _ _ _ us hl => match us, hl with | [_, _], _ => rfl) (fun cdv A outer s H E hr => w__law_draw_point T (f__law_fraction T) (f__law_pick T) hr) (fun i F ds W sf hl c => r__law_draw_point i F ds W sf hl c)
theorem f__law_draw_length (T : Tx P w K mg base) : Fct P w K mg base 37 "_law_draw_length" (PurI SrcF K 2 c__law_draw_length) := by
  obtain ⟨hm, fd, D⟩ := T.df "_law_draw_length" 103 (List.mem_of_getElem? (i := 77) rfl)
  exact fctI_of D hm sc__law_draw_length rfl (fun _ _ _ _ _ _ us hl => match us, hl with | [_, _], _ => rfl) (fun cdv A outer s H E hr => w__law_draw_length T (f__law_pick T) hr) (fun i F ds W sf hl c => r__law_draw_length i F ds W sf hl c)
theorem f_ball (T : Tx P w K mg base) : Fct P w K mg base 38 "ball" (Pur K 3 c_ball) := by
  obtain ⟨hm, fd, D⟩ := T.df "ball" 28 (List.mem_of_getElem? (i := 16) rfl)
  exact fct_of D hm sc_ball rfl (fun _ _ _ _ _ _ us hl => match us, hl with | [_, _, _], _ => rfl) (fun cdv A outer s H E hr => w_ball T (f_fraction T) (f_is_fraction T) (f_is_number T) (f_power_of T) (f_rest T) (f_split_off T) (f_times_of T) hr) (fun F ds W hl c => r_ball T.dZero ds W hl c)
theorem f_within (T : Tx P w K mg base) : Fct P w K mg base 38 "within" (Pur K 2 c_within) := by
  obtain ⟨hm, fd, D⟩ := T.df "within" 30 (List.mem_of_getElem? (i := 18) rfl)
  exact fct_of D hm sc_within rfl (fun _ _ _ _ _ _ us hl => match us, hl with | [_, _], _ => rfl) (fun cdv A outer s H E hr => w_within T (f_plus T) (f_power_of T) (f_times_of T) hr) (fun F ds W hl c => r_within ds W hl c)
theorem f_has_more (T : Tx P w K mg base) : Fct P w K mg base 38 "has_more" (Pur K 3 c_has_more) := by
  obtain ⟨hm, fd, D⟩ := T.df "has_more" 43 (List.mem_of_getElem? (i := 26) rfl)
  exact fct_of D hm sc_has_more rfl (fun _ _ _ _ _ _ us hl => match us, hl with | [_, _, _], _ => rfl) (fun cdv A outer s H E hr => w_has_more T (f_parts T) hr) (fun F ds W hl c => r_has_more ds W hl c)
theorem f_need_stretching (T : Tx P w K mg base) : Fct P w K mg base 38 "need_stretching" (Pur K 3 c_need_stretching) := by
  obtain ⟨hm, fd, D⟩ := T.df "need_stretching" 63 (List.mem_of_getElem? (i := 41) rfl)
  exact fct_of D hm sc_need_stretching rfl (fun _ _ _ _ _ _ us hl => match us, hl with | [_, _, _], _ => rfl) (fun cdv A outer s H E hr => w_need_stretching T (f_stretch T) hr) (fun F ds W hl c => r_need_stretching ds W hl c)
theorem f_change_moves (T : Tx P w K mg base) : Fct P w K mg base 38 "change_moves" (Pur K 2 c_change_moves) := by
  obtain ⟨hm, fd, D⟩ := T.df "change_moves" 77 (List.mem_of_getElem? (i := 52) rfl)
  exact fct_of D hm sc_change_moves rfl (fun _ _ _ _ _ _ us hl => match us, hl with | [_, _], _ => rfl) (fun cdv A outer s H E hr => w_change_moves T (f_after T) (f_back T) hr) (fun F ds W hl c => r_change_moves ds W hl c)
theorem f__law_draw_move (T : Tx P w K mg base) : Fct P w K mg base 38 "_law_draw_move" (PurI SrcF K 2 c__law_draw_move) := by
  obtain ⟨hm, fd, D⟩ := T.df "_law_draw_move" 95 (List.mem_of_getElem? (i := 69) rfl)
  exact fctI_of D hm sc__law_draw_move rfl (fun _ _ _ _ _ _ us hl => match us, hl with | [_, _], _ => rfl) (fun cdv A outer s H E hr => w__law_draw_move T (f__law_after T) (f__law_back T) (f__law_move T) (f__law_pick T) (f__law_raised T) hr) (fun i F ds W sf hl c => r__law_draw_move i F ds W sf hl c)
theorem f__law_by_ends (T : Tx P w K mg base) : Fct P w K mg base 38 "_law_by_ends" (Pur K 5 c__law_by_ends) := by
  obtain ⟨hm, fd, D⟩ := T.df "_law_by_ends" 97 (List.mem_of_getElem? (i := 71) rfl)
  exact fct_of D hm sc__law_by_ends rfl (fun _ _ _ _ _ _ us hl => match us, hl with | [_, _, _, _, _], _ => rfl) (fun cdv A outer s H E hr => w__law_by_ends T (f__law_after T) (f__law_move T) (f__law_power T) hr) (fun F ds W hl c => r__law_by_ends ds W hl c)
theorem f__law_draw_ends (T : Tx P w K mg base) : Fct P w K mg base 38 "_law_draw_ends" (PurI SrcF K 2 c__law_draw_ends) := by
  obtain ⟨hm, fd, D⟩ := T.df "_law_draw_ends" 102 (List.mem_of_getElem? (i := 76) rfl)
  exact fctI_of D hm sc__law_draw_ends rfl (fun _ _ _ _ _ _ us hl => match us, hl with | [_, _], _ => rfl) (fun cdv A outer s H E hr => w__law_draw_ends T (f__law_draw_point T) (f__law_pick T) hr) (fun i F ds W sf hl c => r__law_draw_ends i F ds W sf hl c)
theorem f__law_products_right (T : Tx P w K mg base) : Fct P w K mg base 38 "_law_products_right" (Pur K 4 c__law_products_right) := by
  obtain ⟨hm, fd, D⟩ := T.df "_law_products_right" 105 (List.mem_of_getElem? (i := 79) rfl)
  exact fct_of D hm sc__law_products_right rfl (fun _ _ _ _ _ _ us hl => match us, hl with | [_, _, _, _], _ => rfl) (fun cdv A outer s H E hr => w__law_products_right T (f_after T) (f_back T) (f_stretch T) hr) (fun F ds W hl c => r__law_products_right ds W hl c)
theorem f_about (T : Tx P w K mg base) : Fct P w K mg base 39 "about" (Pur K 2 c_about) := by
  obtain ⟨hm, fd, D⟩ := T.df "about" 29 (List.mem_of_getElem? (i := 17) rfl)
  exact fct_of D hm sc_about rfl (fun _ _ _ _ _ _ us hl => match us, hl with | [_, _], _ => rfl) (fun cdv A outer s H E hr => w_about T (f_ball T) hr) (fun F ds W hl c => r_about ds W hl c)
theorem f_least_about (T : Tx P w K mg base) : Fct P w K mg base 39 "least_about" (Pur K 3 c_least_about) := by
  obtain ⟨hm, fd, D⟩ := T.df "least_about" 32 (List.mem_of_getElem? (i := 20) rfl)
  exact fct_of D hm sc_least_about rfl (fun _ _ _ _ _ _ us hl => match us, hl with | [_, _, _], _ => rfl) (fun cdv A outer s H E hr => w_least_about T (f_ball T) (f_minus T) (f_parts T) hr) (fun F ds W hl c => r_least_about T.dZero ds W hl c)
theorem f_ball_of (T : Tx P w K mg base) : Fct P w K mg base 39 "ball_of" (Pur K 3 c_ball_of) := by
  obtain ⟨hm, fd, D⟩ := T.df "ball_of" 44 (List.mem_of_getElem? (i := 27) rfl)
  exact fct_of D hm sc_ball_of rfl (fun _ _ _ _ _ _ us hl => match us, hl with | [_, _, _], _ => rfl) (fun cdv A outer s H E hr => w_ball_of T (f_ball T) (f_divided T) (f_has_more T) (f_minus T) (f_parts T) (f_times_of T) hr) (fun F ds W hl c => r_ball_of ds W hl c)
theorem f__law_draw_stretching (T : Tx P w K mg base) : Fct P w K mg base 39 "_law_draw_stretching" (PurI SrcF K 2 c__law_draw_stretching) := by
  obtain ⟨hm, fd, D⟩ := T.df "_law_draw_stretching" 98 (List.mem_of_getElem? (i := 72) rfl)
  exact fctI_of D hm sc__law_draw_stretching rfl (fun _ _ _ _ _ _ us hl => match us, hl with | [_, _], _ => rfl) (fun cdv A outer s H E hr => w__law_draw_stretching T (f__law_by_ends T) (f__law_draw_ends T) (f__law_draw_length T) (f__law_draw_move T) (f__law_pick T) (f__law_stretch T) hr) (fun i F ds W sf hl c => r__law_draw_stretching i F ds W sf hl c)
theorem f__law_draw_near (T : Tx P w K mg base) : Fct P w K mg base 39 "_law_draw_near" (PurI SrcF K 2 c__law_draw_near) := by
  obtain ⟨hm, fd, D⟩ := T.df "_law_draw_near" 104 (List.mem_of_getElem? (i := 78) rfl)
  exact fctI_of D hm sc__law_draw_near rfl (fun _ _ _ _ _ _ us hl => match us, hl with | [_, _], _ => rfl) (fun cdv A outer s H E hr => w__law_draw_near T (f__law_by_ends T) (f__law_draw_ends T) (f__law_fraction T) (f__law_pick T) (f__law_power T) hr) (fun i F ds W sf hl c => r__law_draw_near i F ds W sf hl c)
theorem f_neighbours (T : Tx P w K mg base) : Fct P w K mg base 40 "neighbours" (Pur K 2 c_neighbours) := by
  obtain ⟨hm, fd, D⟩ := T.df "neighbours" 31 (List.mem_of_getElem? (i := 19) rfl)
  exact fct_of D hm sc_neighbours rfl (fun _ _ _ _ _ _ us hl => match us, hl with | [_, _], _ => rfl) (fun cdv A outer s H E hr => w_neighbours T (f_about T) (f_within T) hr) (fun F ds W hl c => r_neighbours ds W hl c)
theorem f_led (T : Tx P w K mg base) : Fct P w K mg base 40 "led" (Pur K 3 c_led) := by
  obtain ⟨hm, fd, D⟩ := T.df "led" 45 (List.mem_of_getElem? (i := 28) rfl)
  exact fct_of D hm sc_led rfl (fun _ _ _ _ _ _ us hl => match us, hl with | [_, _, _], _ => rfl) (fun cdv A outer s H E hr => w_led T (f_ball_of T) (f_plus T) (f_power_of T) (f_times_of T) hr) (fun F ds W hl c => r_led ds W hl c)
theorem f_road (T : Tx P w K mg base) : Fct P w K mg base 40 "road" (Pur K 3 c_road) := by
  obtain ⟨hm, fd, D⟩ := T.df "road" 47 (List.mem_of_getElem? (i := 29) rfl)
  exact fct_of D hm sc_road rfl (fun _ _ _ _ _ _ us hl => match us, hl with | [_, _, _], _ => rfl) (fun cdv A outer s H E hr => w_road T (f_ball T) (f_least_about T) hr) (fun F ds W hl c => r_road ds W hl c)
theorem f_steps (T : Tx P w K mg base) : Fct P w K mg base 40 "steps" (Pur K 3 c_steps) := by
  obtain ⟨hm, fd, D⟩ := T.df "steps" 48 (List.mem_of_getElem? (i := 30) rfl)
  exact fct_of D hm sc_steps rfl (fun _ _ _ _ _ _ us hl => match us, hl with | [_, _, _], _ => rfl) (fun cdv A outer s H E hr => w_steps T (f_least_about T) hr) (fun F ds W hl c => r_steps ds W hl c)
theorem f_on_road (T : Tx P w K mg base) : Fct P w K mg base 40 "on_road" (Pur K 4 c_on_road) := by
  obtain ⟨hm, fd, D⟩ := T.df "on_road" 49 (List.mem_of_getElem? (i := 31) rfl)
  exact fct_of D hm sc_on_road rfl (fun _ _ _ _ _ _ us hl => match us, hl with | [_, _, _, _], _ => rfl) (fun cdv A outer s H E hr => w_on_road T (f_ball T) (f_least_about T) hr) (fun F ds W hl c => r_on_road ds W hl c)
theorem f__law_draw_pair (T : Tx P w K mg base) : Fct P w K mg base 40 "_law_draw_pair" (PurI SrcF K 2 c__law_draw_pair) := by
  obtain ⟨hm, fd, D⟩ := T.df "_law_draw_pair" 101 (List.mem_of_getElem? (i := 75) rfl)
  exact fctI_of D hm sc__law_draw_pair rfl (fun _ _ _ _ _ _ us hl => match us, hl with | [_, _], _ => rfl) (fun cdv A outer s H E hr => w__law_draw_pair T (f__law_after T) (f__law_any_order T) (f__law_back T) (f__law_by_ends T) (f__law_draw_ends T) (f__law_draw_length T) (f__law_draw_stretching T) (f__law_move T) (f__law_pick T) hr) (fun i F ds W sf hl c => r__law_draw_pair i F ds W sf hl c)
theorem f_is_side (T : Tx P w K mg base) : Fct P w K mg base 41 "is_side" (Pur K 2 c_is_side) := by
  obtain ⟨hm, fd, D⟩ := T.df "is_side" 50 (List.mem_of_getElem? (i := 32) rfl)
  exact fct_of D hm sc_is_side rfl (fun _ _ _ _ _ _ us hl => match us, hl with | [_, _], _ => rfl) (fun cdv A outer s H E hr => w_is_side T (f_is_ball T) (f_neighbours T) hr) (fun F ds W hl c => r_is_side ds W hl c)
theorem f_on_side (T : Tx P w K mg base) : Fct P w K mg base 41 "on_side" (Pur K 3 c_on_side) := by
  obtain ⟨hm, fd, D⟩ := T.df "on_side" 51 (List.mem_of_getElem? (i := 33) rfl)
  exact fct_of D hm sc_on_side rfl (fun _ _ _ _ _ _ us hl => match us, hl with | [_, _, _], _ => rfl) (fun cdv A outer s H E hr => w_on_side T (f_steps T) hr) (fun F ds W hl c => r_on_side ds W hl c)
theorem f_resting (T : Tx P w K mg base) : Fct P w K mg base 41 "resting" (Pur K 3 c_resting) := by
  obtain ⟨hm, fd, D⟩ := T.df "resting" 56 (List.mem_of_getElem? (i := 37) rfl)
  exact fct_of D hm sc_resting rfl (fun _ _ _ _ _ _ us hl => match us, hl with | [_, _, _], _ => rfl) (fun cdv A outer s H E hr => w_resting T (f_led T) (f_on_road T) (f_steps T) (f_stretch T) hr) (fun F ds W hl c => r_resting ds W hl c)
theorem f_on_line (T : Tx P w K mg base) : Fct P w K mg base 41 "on_line" (Pur K 3 c_on_line) := by
  obtain ⟨hm, fd, D⟩ := T.df "on_line" 58 (List.mem_of_getElem? (i := 38) rfl)
  exact fct_of D hm sc_on_line rfl (fun _ _ _ _ _ _ us hl => match us, hl with | [_, _, _], _ => rfl) (fun cdv A outer s H E hr => w_on_line T (f_led T) (f_steps T) (f_stretch T) hr) (fun F ds W hl c => r_on_line ds W hl c)
theorem f_are_apart (T : Tx P w K mg base) : Fct P w K mg base 42 "are_apart" (Pur K 3 c_are_apart) := by
  obtain ⟨hm, fd, D⟩ := T.df "are_apart" 52 (List.mem_of_getElem? (i := 34) rfl)
  exact fct_of D hm sc_are_apart rfl (fun _ _ _ _ _ _ us hl => match us, hl with | [_, _, _], _ => rfl) (fun cdv A outer s H E hr => w_are_apart T (f_on_side T) hr) (fun F ds W hl c => r_are_apart ds W hl c)
theorem f_line_from (T : Tx P w K mg base) : Fct P w K mg base 42 "line_from" (Pur K 4 c_line_from) := by
  obtain ⟨hm, fd, D⟩ := T.df "line_from" 59 (List.mem_of_getElem? (i := 39) rfl)
  exact fct_of D hm sc_line_from rfl (fun _ _ _ _ _ _ us hl => match us, hl with | [_, _, _, _], _ => rfl) (fun cdv A outer s H E hr => w_line_from T (f_led T) (f_on_line T) (f_road T) hr) (fun F ds W hl c => r_line_from ds W hl c)
theorem f_gate (T : Tx P w K mg base) : Fct P w K mg base 42 "gate" (Pur K 3 c_gate) := by
  obtain ⟨hm, fd, D⟩ := T.df "gate" 60 (List.mem_of_getElem? (i := 40) rfl)
  exact fct_of D hm sc_gate rfl (fun _ _ _ _ _ _ us hl => match us, hl with | [_, _, _], _ => rfl) (fun cdv A outer s H E hr => w_gate T (f_resting T) hr) (fun F ds W hl c => r_gate ds W hl c)
theorem f_are_four_sides (T : Tx P w K mg base) : Fct P w K mg base 42 "are_four_sides" (Pur K 2 c_are_four_sides) := by
  obtain ⟨hm, fd, D⟩ := T.df "are_four_sides" 73 (List.mem_of_getElem? (i := 49) rfl)
  exact fct_of D hm sc_are_four_sides rfl (fun _ _ _ _ _ _ us hl => match us, hl with | [_, _], _ => rfl) (fun cdv A outer s H E hr => w_are_four_sides T (f_is_side T) hr) (fun F ds W hl c => r_are_four_sides ds W hl c)
theorem f_lies_in (T : Tx P w K mg base) : Fct P w K mg base 43 "lies_in" (Pur K 3 c_lies_in) := by
  obtain ⟨hm, fd, D⟩ := T.df "lies_in" 53 (List.mem_of_getElem? (i := 35) rfl)
  exact fct_of D hm sc_lies_in rfl (fun _ _ _ _ _ _ us hl => match us, hl with | [_, _, _], _ => rfl) (fun cdv A outer s H E hr => w_lies_in T (f_are_apart T) hr) (fun F ds W hl c => r_lies_in ds W hl c)
theorem f_next_ball (T : Tx P w K mg base) : Fct P w K mg base 43 "next_ball" (Pur K 3 c_next_ball) := by
  obtain ⟨hm, fd, D⟩ := T.df "next_ball" 66 (List.mem_of_getElem? (i := 43) rfl)
  exact fct_of D hm sc_next_ball rfl (fun _ _ _ _ _ _ us hl => match us, hl with | [_, _, _], _ => rfl) (fun cdv A outer s H E hr => w_next_ball T (f_line_from T) hr) (fun F ds W hl c => r_next_ball ds W hl c)
theorem f_last_shared (T : Tx P w K mg base) : Fct P w K mg base 44 "last_shared" (Pur K 4 c_last_shared) := by
  obtain ⟨hm, fd, D⟩ := T.df "last_shared" 67 (List.mem_of_getElem? (i := 44) rfl)
  exact fct_of D hm sc_last_shared rfl (fun _ _ _ _ _ _ us hl => match us, hl with | [_, _, _, _], _ => rfl) (fun cdv A outer s H E hr => w_last_shared T (f_next_ball T) (f_on_line T) hr) (fun F ds W hl c => r_last_shared ds W hl c)
theorem f_way_at (T : Tx P w K mg base) : Fct P w K mg base 44 "way_at" (Pur K 4 c_way_at) := by
  obtain ⟨hm, fd, D⟩ := T.df "way_at" 68 (List.mem_of_getElem? (i := 45) rfl)
  exact fct_of D hm sc_way_at rfl (fun _ _ _ _ _ _ us hl => match us, hl with | [_, _, _, _], _ => rfl) (fun cdv A outer s H E hr => w_way_at T (f_next_ball T) hr) (fun F ds W hl c => r_way_at ds W hl c)
theorem f_two_sides (T : Tx P w K mg base) : Fct P w K mg base 44 "two_sides" (Pur K 3 c_two_sides) := by
  obtain ⟨hm, fd, D⟩ := T.df "two_sides" 71 (List.mem_of_getElem? (i := 47) rfl)
  exact fct_of D hm sc_two_sides rfl (fun _ _ _ _ _ _ us hl => match us, hl with | [_, _, _], _ => rfl) (fun cdv A outer s H E hr => w_two_sides T (f_back T) (f_line_from T) (f_next_ball T) (f_stretch T) hr) (fun F ds W hl c => r_two_sides ds W hl c)
theorem f_leads_beyond (T : Tx P w K mg base) : Fct P w K mg base 44 "leads_beyond" (Pur K 4 c_leads_beyond) := by
  obtain ⟨hm, fd, D⟩ := T.df "leads_beyond" 74 (List.mem_of_getElem? (i := 50) rfl)
  exact fct_of D hm sc_leads_beyond rfl (fun _ _ _ _ _ _ us hl => match us, hl with | [_, _, _, _], _ => rfl) (fun cdv A outer s H E hr => w_leads_beyond T (f_led T) (f_lies_in T) hr) (fun F ds W hl c => r_leads_beyond ds W hl c)
theorem f_lines (T : Tx P w K mg base) : Fct P w K mg base 45 "lines" (Pur K 3 c_lines) := by
  obtain ⟨hm, fd, D⟩ := T.df "lines" 69 (List.mem_of_getElem? (i := 46) rfl)
  exact fct_of D hm sc_lines rfl (fun _ _ _ _ _ _ us hl => match us, hl with | [_, _, _], _ => rfl) (fun cdv A outer s H E hr => w_lines T (f_back T) (f_between T) (f_gate T) (f_last_shared T) (f_need_stretching T) (f_steps T) (f_way_at T) hr) (fun F ds W hl c => r_lines T.dFirst ds W hl c)
theorem f_judge_sides (T : Tx P w K mg base) : Fct P w K mg base 45 "judge_sides" (Pur K 4 c_judge_sides) := by
  obtain ⟨hm, fd, D⟩ := T.df "judge_sides" 75 (List.mem_of_getElem? (i := 51) rfl)
  exact fct_of D hm sc_judge_sides rfl (fun _ _ _ _ _ _ us hl => match us, hl with | [_, _, _, _], _ => rfl) (fun cdv A outer s H E hr => w_judge_sides T (f_are_apart T) (f_are_four_sides T) (f_leads_beyond T) hr) (fun F ds W hl c => r_judge_sides ds W hl c)
theorem f_four_sides (T : Tx P w K mg base) : Fct P w K mg base 46 "four_sides" (Pur K 3 c_four_sides) := by
  obtain ⟨hm, fd, D⟩ := T.df "four_sides" 72 (List.mem_of_getElem? (i := 48) rfl)
  exact fct_of D hm sc_four_sides rfl (fun _ _ _ _ _ _ us hl => match us, hl with | [_, _, _], _ => rfl) (fun cdv A outer s H E hr => w_four_sides T (f_lines T) (f_stretch T) (f_two_sides T) hr) (fun F ds W hl c => r_four_sides ds W hl c)
theorem f_next_change (T : Tx P w K mg base) : Fct P w K mg base 46 "next_change" (Pur K 2 c_next_change) := by
  obtain ⟨hm, fd, D⟩ := T.df "next_change" 78 (List.mem_of_getElem? (i := 53) rfl)
  exact fct_of D hm sc_next_change rfl (fun _ _ _ _ _ _ us hl => match us, hl with | [_, _], _ => rfl) (fun cdv A outer s H E hr => w_next_change T (f_lines T) (f_stretch T) hr) (fun F ds W hl c => r_next_change ds W hl c)
theorem f_shorten (T : Tx P w K mg base) : Fct P w K mg base 47 "shorten" (Pur K 3 c_shorten) := by
  obtain ⟨hm, fd, D⟩ := T.df "shorten" 79 (List.mem_of_getElem? (i := 54) rfl)
  exact fct_of D hm sc_shorten rfl (fun _ _ _ _ _ _ us hl => match us, hl with | [_, _, _], _ => rfl) (fun cdv A outer s H E hr => w_shorten T (f_change_moves T) (f_four_sides T) (f_lines T) (f_next_change T) (f_stretch T) hr) (fun F ds W hl c => r_shorten ds W hl c)
theorem f__law_led_right (T : Tx P w K mg base) : Fct P w K mg base 48 "_law_led_right" (Pur K 5 c__law_led_right) := by
  obtain ⟨hm, fd, D⟩ := T.df "_law_led_right" 106 (List.mem_of_getElem? (i := 80) rfl)
  exact fct_of D hm sc__law_led_right rfl (fun _ _ _ _ _ _ us hl => match us, hl with | [_, _, _, _, _], _ => rfl) (fun cdv A outer s H E hr => w__law_led_right T (f_after T) (f_back T) (f_four_sides T) (f_judge_sides T) (f_led T) (f_lines T) (f_shorten T) hr) (fun F ds W hl c => r__law_led_right ds W hl c)
theorem f_law (T : Tx P w K mg base) : Fct P w K mg base 49 "law" (spLaw K) := by
  obtain ⟨hm, fd, D⟩ := T.df "law" 107 (List.mem_of_getElem? (i := 81) rfl)
  exact fct_raw D hm sc_law rfl rfl (fun _ _ _ _ _ _ us hl => match us, hl with | [_], _ => rfl) (fun cdv A outer s H E hr => w_law T (f__law_draw_near T) (f__law_draw_pair T) (f__law_draw_prime T) (f__law_led_right T) (f__law_lines_kind T) (f__law_move T) (f__law_open_cells T) (f__law_pick T) (f__law_products_right T) (f_back T) (f_lines T) hr) (fun vs H Q E c => r_law vs H Q E c)
end
end Bm
-- BmEnd
set_option maxRecDepth 100000
set_option maxHeartbeats 2000000
/-! BmEnd: what the head finds; the law's call. -/
namespace Bm
open PySem PySem.Spec PyProof.Rows L2
section
variable {P : Program} {w : World} {K : PySem.W.Frag} {mg : Str → Option Value} {base h : Heap}
theorem glo_mem {d : He.DefD} (hd : d ∈ BmHead.fn) : He.Fa.glo d.name ∈ BmHead.fa := by
  have e : BmHead.fa.take BmHead.fn.length = BmHead.fn.map fun d => He.Fa.glo d.name := rfl
  exact List.mem_of_mem_take (by rw [e]; exact List.mem_map.mpr ⟨d, hd, rfl⟩)
theorem says_fact {fa : List He.Fa} {fn : List He.DefD} (c : He.SaysD fa fn K) {f : He.Fa} (h : f ∈ fa) : f.ok K = true := by
  obtain ⟨i, hi, e⟩ := List.mem_iff_getElem.mp h
  exact c.fact i (f := f) (by rw [List.getElem?_eq_getElem hi, e])
theorem says_def {fa : List He.Fa} {fn : List He.DefD} (c : He.SaysD fa fn K) {d : He.DefD} (h : d ∈ fn) : ∃ fd, FunD K d.name d.qual d.params d.body d.scope (d.dvs K) (d.kws K) (He.fAd K d.at_) fd := by
  obtain ⟨i, hi, e⟩ := List.mem_iff_getElem.mp h
  exact c.def_ i (d := d) (by rw [List.getElem?_eq_getElem hi, e])
theorem first_ok (q : (match K.lookup (He.ga K "FIRST_BALL") with
    | some ⟨_, _, .seq its _, _⟩ => (match its.toList with
      | [_, .ref a] => He.tupB K "FIRST_BALL" [.int 0, .adr fun _ => a] && (match K.lookup a with
        | some ⟨.type c, _, .seq jts _, _⟩ => decide (c = "tuple") && (decide (jts.size ≤ sizeLine) && He.relAll [.int 0, .int 1] jts.toList)
        | _ => false)
      | _ => false)
    | _ => false) = true) (H : Hp) : DD K H (.ref (He.ga K "FIRST_BALL")) (.tuple [.int 0, .tuple [.int 0, .int 1]]) := by
  split at q
  · split at q
    · rename_i a _
      obtain ⟨q1, q2⟩ := He.ba q
      split at q2
      · rename_i c od jts n sl lk
        obtain ⟨h1, h2⟩ := He.ba q2
        obtain ⟨h3, h4⟩ := He.ba h2
        have s1 : SqT K H (He.ga K "FIRST_BALL") [.int 0, .ref a] := He.tupB_ok q1 H
        have s2 : SqT K H a [.int 0, .int 1] := .inr ⟨_, jts, n, lk, congrArg Value.type (of_decide_eq_true h1), rfl, of_decide_eq_true h3, He.relAll_ok h4⟩
        exact .tup s1 (.cons (.int 0) (.cons (.tup s2 (.cons (.int 0) (.cons (.int 1) .nil))) .nil))
      · cases q2
    · cases q
  · cases q
theorem tx_of (X : K.In h) (G : h.Ns mainGlobals mg) (c : He.SaysD BmHead.fa BmHead.fn K) (x : BmHead.extra K = true) (sr : base.NoSeer) (ht : P.given.tree = none) : Tx P w K mg base := by
  obtain ⟨x, x5⟩ := He.ba x
  obtain ⟨x, x4⟩ := He.ba x
  obtain ⟨x, x3⟩ := He.ba x
  obtain ⟨x1, x2⟩ := He.ba x
  have n := BmHead.fn.length
  have fr : ∀ (i : Nat) (y : Str), BmHead.fa[i]? = some (.free y) → mg y = none := fun i y e => He.free_ok X G (c.fact i e)
  exact {
    seer := sr
    tree := ht
    m_abs := fr 82 _ rfl
    m_all := fr 83 _ rfl
    m_bool := fr 84 _ rfl
    m_dict := fr 85 _ rfl
    m_enumerate := fr 86 _ rfl
    m_int := fr 87 _ rfl
    m_isinstance := fr 88 _ rfl
    m_len := fr 89 _ rfl
    m_list := fr 90 _ rfl
    m_max := fr 91 _ rfl
    m_min := fr 92 _ rfl
    m_range := fr 93 _ rfl
    m_tuple := fr 94 _ rfl
    m_zip := fr 95 _ rfl
    mGcd := PySem.W.mg_of X G (He.eqO_ok x1)
    mZero := PySem.W.mg_of X G (He.eqO_ok x2)
    mFirst := PySem.W.mg_of X G (He.eqO_ok x3)
    dZero := fun H => .tup (He.tupB_ok x4 H) (.cons (.int 0) (.cons (.int 1) .nil))
    dFirst := first_ok x5
    df := fun y i hd => ⟨He.glo_ok X G (says_fact c (glo_mem hd)), says_def c hd⟩ }
/-- what is asked of the module's heap holds where only a list is hidden -/
theorem hid_ns {T : Hp} {a b : Addr} {lo : Obj} {m : Str → Option Value} (only : ∀ z, T z ≠ none → z = a) (la : h.get? a = some lo) (nd : ∀ es ep, lo.data ≠ .dict es ep) (q : h.Ns b m) : (hidT h T).Ns b m := by
  obtain ⟨o, es, ep, e, d, r⟩ := q
  refine ⟨o, es, ep, hidT_get e (Decidable.byContradiction fun z => ?_), d, r⟩
  have hb := only b z
  rw [hb, la] at e
  exact nd es ep (by rw [Option.some.inj e]; exact d)
theorem hid_seer {T : Hp} {a : Addr} {lo : Obj} (only : ∀ z, T z ≠ none → z = a) (la : h.get? a = some lo) (nd : ∀ es ep, lo.data ≠ .dict es ep) (nm : lo.cls ≠ .type "module") (s : h.NoSeer) : (hidT h T).NoSeer where
  statics := s.statics.imp fun m q => ⟨hid_ns only la nd q.1, q.2⟩
  mods := s.mods.imp fun m q => ⟨hid_ns only la nd q.1, q.2⟩
  imp := s.imp.imp fun m q => ⟨hid_ns only la nd q.1, q.2⟩
  main := by
    obtain ⟨m, bm, ob, q1, q2, q3, q4, q5⟩ := s.main
    refine ⟨m, bm, ob, hid_ns only la nd q1, q2, hidT_get q3 (Decidable.byContradiction fun z => ?_), q4, q5⟩
    have hb := only bm z
    rw [hb, la] at q3
    exact nm (by rw [Option.some.inj q3]; exact q4)
/-- the law's call, over a base that has what a quotient asks -/
theorem law_callS {mb : Str → Option Value} {k : Nat} {fa a : Addr} {fd : FuncData} {y : Str} {sp : Sp} {s₁ : Shared} {vs : List Value} {ns : List Int}
    (KX : K.In s₁.heap) (hns : s₁.heap.Ns mainGlobals mg) (hb : s₁.heap.Ns builtinsNs mb) (hbb : ∀ x : Str, x ≠ "__name__" → mb x = bootBuiltins x) (hlim : s₁.heap.NoLimit) (hse : s₁.heap.NoSeer) (hg : s₁.gens = #[])
    (ha : s₁.heap.get? a = some { cls := .type "list", data := .seq vs.toArray }) (hi : IntsAre vs ns) (hl : ns.length ≤ sizeLine) (hr : Room k callerA)
    (F : ∀ base : Heap, K.In base → base.Ns mainGlobals mg → base.NoSeer → FnOk P w K mg base CX0 k fa fd [y] sp) (hbind : ∀ (s : Shared) (u : Value), BindsTo s fd ⟨[u], []⟩ [(y, u)])
    (hsp : ∀ H : Hp, SqL K H a (ns.map V.int) → sp [.ref a] H (fun v _ => v = .bl true) fun _ _ _ => False) :
    codeAny (model P w) callerA (.call (.ref fa) ⟨[.ref a], []⟩) (fun r s' => r = .ok (.ret (.bool true)) ∧ OldK s₁.heap s'.heap ∧ s'.os = s₁.os ∧ AllBare s'.gens) s₁ := by
  have vv : Vals (ns.map V.int) vs := vals_ints hi
  have lv : vs.length = ns.length := by
    have := vv.length
    rw [List.length_map] at this
    omega
  have nd : ∀ es ep, (Data.seq vs.toArray) ≠ .dict es ep := fun es ep z => nomatch z
  have nm : (Value.type "list") ≠ .type "module" := by decide
  -- T: what is tracked: nothing, or the script as it lies
  have go : ∀ T : Hp, (∀ z, T z ≠ none → z = a ∧ T z = some (.frz { cls := .type "list", data := .seq vs.toArray } (.lst (ns.map V.int)))) → SqL K T a (ns.map V.int) → (T a ≠ none → K.lookup a = none) → HOk P w T s₁.heap →
      codeAny (model P w) callerA (.call (.ref fa) ⟨[.ref a], []⟩) (fun r s' => r = .ok (.ret (.bool true)) ∧ OldK s₁.heap s'.heap ∧ s'.os = s₁.os ∧ AllBare s'.gens) s₁ := fun T tr sq kn ok => by
    have only : ∀ z, T z ≠ none → z = a := fun z q => (tr z q).1
    have kin : K.In (hidT s₁.heap T) := fun z o e => hidT_get (KX z o e) (Decidable.byContradiction fun q => by
      have e1 := only z q
      subst e1
      rw [kn q] at e
      cases e)
    have seer := hid_seer only ha nd nm hse
    have glob := hid_ns only ha nd hns
    have blt := hid_ns only ha nd hb
    have lim : (hidT s₁.heap T).NoLimit := hlim.imp fun m q => ⟨hid_ns only ha nd q.1, q.2⟩
    have env : Env0 P w K mg (hidT s₁.heap T) callerA [] s₁ T :=
      { frames := rfl, mod := { kin := kin, glob := glob, blt := ⟨mb, blt, hbb⟩, nolimit := lim }, bs := fun z o e => of_hidT e, bsz := by rw [hidT_size]; exact Nat.le_refl _, funs := trivial, frf := fun z q => (List.not_mem_nil q).elim, hok := ok, bare := .of_eq hg }
    have call := (F _ kin glob seer).run callerA [] s₁ T ⟨[.ref a], []⟩ [.ref a] [.ref a] _ _ hr env (hbind s₁ (.ref a)) (.cons rfl .nil) (hsp T sq)
    refine codeAny_mono call fun r s' q => ?_
    match r, q with
    | .error e, q => exact q.elim
    | .ok (.ret u), q =>
      obtain ⟨v, T', e1, e2, un, ok', rv, e3⟩ := q
      have e3' : v = .bl true := e3
      subst e3'
      have e4 : u = Value.bool true := rv
      subst e4
      refine ⟨rfl, OldK.of_keep fun z o e => ?_, e1, e2⟩
      by_cases q : T z = none
      · exact un.keep z o e q (fun m => (List.not_mem_nil m).elim) (by simp)
      · obtain ⟨rfl, q2⟩ := tr z q
        obtain ⟨h1, _⟩ := ok' _ _ (un.frzs _ _ _ q2)
        rw [h1, ← ha, e]
  cases q : K.lookup a with
  | some o =>
    have e := (KX a o q).symm.trans ha
    have eo := Option.some.inj e
    subst eo
    refine go (fun _ => none) (fun z n => absurd rfl n) (.inr ⟨_, vs.toArray, _, q, rfl, rfl, rfl, ?_, ?_⟩) (fun n => absurd rfl n) (fun z u n => nomatch n)
    · rw [List.size_toArray, lv]
      exact hl
    · simpa using vv
  | none =>
    have at_ : ∀ z u, (fun b => if b = a then some (HO.frz { cls := .type "list", data := .seq vs.toArray } (.lst (ns.map V.int))) else none) z = some u → z = a ∧ u = .frz { cls := .type "list", data := .seq vs.toArray } (.lst (ns.map V.int)) := fun z u e => by
      by_cases c : z = a
      · exact ⟨c, (Option.some.inj ((if_pos c).symm.trans e)).symm⟩
      · exact nomatch (if_neg c).symm.trans e
    refine go (fun b => if b = a then some (.frz { cls := .type "list", data := .seq vs.toArray } (.lst (ns.map V.int))) else none) (fun z n => ?_) (.inl (.inr ⟨{ cls := .type "list", data := .seq vs.toArray }, if_pos rfl⟩)) (fun _ => q) (fun z u e => ?_)
    · by_cases c : z = a
      · exact ⟨c, if_pos c⟩
      · exact absurd (if_neg c) n
    · obtain ⟨rfl, rfl⟩ := at_ z u e
      exact ⟨ha, by rw [List.length_map]; exact hl, vs, _, vv, ha⟩
end
end Bm
-- BmFin2
set_option maxRecDepth 100000
set_option maxHeartbeats 0
namespace Bm
open PySem PySem.Spec PyProof.Rows L2
theorem walk_end {l : PySem.W.OpenLaw} {n k : Nat} {q : Program} {loose : List Str} {XP : (Str → Option Value) → Heap → Prop} {YP : World → Heap → Prop} {d : DefRec} {x : Str}
    (hn : l.most = some n) (hn2 : n ≤ sizeLine) (hdf : d.params.defaults = []) (hr : Room k callerA) (hi : importsNone q = true)
    (F : ∀ (w : World) (mg : Str → Option Value) (fa : Addr) (h : Heap), YP w h → h.Ns mainGlobals mg → mg d.name = some (.ref fa) →
      ∃ (K : PySem.W.Frag) (fd : FuncData) (sp : Sp), K.In h ∧ (∀ (s : Shared) (u : Value), BindsTo s fd ⟨[u], []⟩ [(x, u)]) ∧
        (∀ (H : Hp) (a : Addr) (ns : List Int), ns.length ≤ n → SqL K H a (ns.map V.int) → sp [.ref a] H (fun v _ => v = .bl true) fun _ _ _ => False) ∧
        ∀ base : Heap, K.In base → base.Ns mainGlobals mg → base.NoSeer → FnOk l.prog w K mg base CX0 k fa fd [x] sp) :
    PySem.W.WalkO q loose XP YP l.row.toRowW d [] (fun f vs => PySem.call f vs) := by
  refine Att.attach_call hn hdf fun w s₀ s₁ mg mb fa o pm cd doc a vs ns G Y ho hd hcd hmg hobj hints hlen hg => ?_
  obtain ⟨K, fd, sp, KX, hb, hsp, hF⟩ := F w mg fa _ Y G.T.g hmg
  exact law_callS KX G.T.g G.T.b G.T.builtins G.T.nolimit (G.T.seer hi) hg hobj hints (Nat.le_trans hlen hn2) hr hF hb fun H hS => hsp H a ns hlen hS
end Bm
namespace Bm
open PySem PySem.Spec PyProof.Rows L2
theorem facts {P : Program} {w : World} {K : PySem.W.Frag} {h : Heap} {mg : Str → Option Value} {f : Addr} (X : K.In h) (G : h.Ns mainGlobals mg) (ht : P.given.tree = none) (hfa : mg ("law" : Str) = some (.ref f)) (c : He.SaysD BmHead.fa BmHead.fn K) (x : BmHead.extra K = true) :
    ∃ fd : FuncData, (∀ (s : Shared) (v : Value), BindsTo s fd ⟨[v], []⟩ [("_law_script", v)]) ∧ ∀ base : Heap, K.In base → base.Ns mainGlobals mg → base.NoSeer → FnOk P w K mg base CX0 49 f fd ["_law_script"] (spLaw K) := by
  have hd : BmHead.dd "law" 107 ∈ BmHead.fn := List.mem_of_getElem? (i := 81) rfl
  obtain ⟨fd, D⟩ := says_def c hd
  have hm : mg ("law" : Str) = some (.ref (He.ga K "law")) := He.glo_ok X G (says_fact c (glo_mem hd))
  have e := hfa.symm.trans hm
  cases e
  have b := FunD.bindsA (ps := ["_law_script"]) D fun _ _ _ _ _ _ us hl => match us, hl with | [_], _ => rfl
  refine ⟨fd, fun s v => b s [v] rfl, fun base _ _ sr => ?_⟩
  have T : Tx P w K mg base := tx_of X G c x sr ht
  refine D.ok (sc_law) (fun vs H Q E c => by rw [(r_law vs H Q E c).1]; rfl) (fun cdv A outer s H vs Q E hr c => ⟨t_law K, (w_law T (f__law_draw_near T) (f__law_draw_pair T) (f__law_draw_prime T) (f__law_led_right T) (f__law_lines_kind T) (f__law_move T) (f__law_open_cells T) (f__law_pick T) (f__law_products_right T) (f_back T) (f_lines T) hr).nox, ?_⟩)
  obtain ⟨hl, r⟩ := r_law vs H Q E c
  unfold L2.start
  rw [hl]
  exact r _ rfl
end Bm
open PySem PySem.W PySem.Calls PyProof.Rows
theorem PySem.Challenge.cw_ballmoves_k72_whole_lines_led_holds : PySem.Challenge.rw_ballmoves_k72_whole_lines_led.Holds := by
  refine BmHead.closing ?_
  refine Bm.walk_end (l := PySem.Challenge.rw_ballmoves_k72_whole_lines_led) (n := 63) (k := 49) (x := "_law_script") rfl (by decide) (by kernel_rfl) ⟨rfl, by decide, by decide⟩ (by decide +kernel) ?F
  intro w mg fa h Y G hmg0
  obtain ⟨K, KX, c, x⟩ := Y
  have hmg : mg ("law" : PySem.Str) = some (.ref fa) := by
    have e : (HandSHeadRun.topDef (OpenLaw.row PySem.Challenge.rw_ballmoves_k72_whole_lines_led).prog 107).name = ("law" : PySem.Str) := by kernel_rfl
    rw [← e]
    exact hmg0
  obtain ⟨fd, hb, hF⟩ := Bm.facts (P := (PySem.Challenge.rw_ballmoves_k72_whole_lines_led).prog) (w := w) KX G rfl hmg c x
  exact ⟨K, fd, Bm.spLaw K, KX, hb, fun H a ns hl hS => ⟨a, ns, rfl, hS, hl, fun _ => rfl⟩, hF⟩
