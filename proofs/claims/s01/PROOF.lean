import PyProof.Rows.All
import Wide.All
import OpenK.AllK
import Wide.FinOn
import KE.KStateDown
import Lean
import Open.SpecLaws
import KE.OsHead
import KE.OsGo
import HandS.ForSpec
import HandS.Comp
import HandS.Defaults
import HandS.Head0
import HandS.Head1
import HandS.Head2
import HandS.Head3
import HandS.Head4
import HandS.HeadHook1
import HandS.HeadHook2
import PySem.Challenge.RW_pinwall_s01_answers
import HandS.Walk
import HandS.Iter
import Zz32Panels
import PyZz32
set_option Elab.async false
set_option linter.all false
set_option maxRecDepth 100000
set_option maxHeartbeats 0
namespace PW
open PySem PySem.Spec PyProof.Rows L2
abbrev RS : PySem.W.OpenSpec := PySem.Challenge.rw_pinwall_s01_answers
def top (i : Nat) : Stmt := PySem.Challenge.pw_pinwall_s01_answers.main.body.getD i (.Pass ⟨0, 0, 0, 0⟩)
def mkD (p : Nat × Str) : He.DefD := ⟨(p.2, none), p.2, p.2, defArgs (top p.1), defBody (top p.1), defScope (top p.1), [], []⟩
def mkM (i j : Nat) (C m q : Str) : He.DefD := ⟨(C, some m), m, q, defArgs (inClass (top i) j), defBody (inClass (top i) j), defScope (inClass (top i) j), [], []⟩
def fnN0 : List (Nat × Str) := [(2, "number_at"), (3, "number_end"), (4, "text_at"), (5, "text_end"), (6, "texts_at"), (7, "texts_end"), (8, "part_end"), (9, "starts_of"), (10, "number_octets"), (11, "text_octets"), (12, "texts_octets"), (13, "option_number"), (14, "option_text"), (15, "option_texts"), (27, "lines_of"), (28, "without_comment"), (29, "is_letter"), (30, "is_digit"), (31, "pieces_of"), (32, "is_word"), (33, "is_number"), (34, "is_token"), (35, "all_tokens"), (36, "all_words"), (37, "letters_of")]
def fnN1 : List (Nat × Str) := [(38, "key_of"), (39, "fits"), (40, "kind_of"), (41, "form_problem"), (42, "value_of"), (43, "spaced"), (46, "has"), (47, "put_in"), (48, "left_out"), (49, "count_of"), (50, "apart"), (51, "within"), (52, "place_of"), (54, "empty_wall"), (55, "with_magnets"), (56, "without_sheet"), (57, "with_spots"), (58, "cover_of"), (59, "with_sheet"), (60, "loose"), (61, "many_loose"), (62, "fallen"), (63, "hand"), (64, "names_up"), (65, "magnets_of")]
def fnN2 : List (Nat × Str) := [(84, "empty_script"), (85, "named_twice"), (86, "many_acts"), (87, "sheet_problem"), (88, "magnet_problem"), (89, "drawer_problem"), (90, "put_problem"), (91, "off_problem"), (92, "move_problem"), (93, "take_problem"), (94, "item_problem"), (95, "magnets_moved"), (96, "wall_after"), (97, "script_after"), (99, "row_problem"), (100, "read_text"), (101, "canonical"), (102, "says_act"), (103, "act_problem"), (104, "script_with"), (107, "calm_table"), (108, "puts"), (109, "offs"), (110, "shifts"), (111, "steps")]
def fnN3 : List (Nat × Str) := [(112, "landed"), (113, "ways_table"), (114, "nearer"), (115, "spread"), (116, "free_table"), (117, "moves_table"), (118, "known"), (119, "fewest"), (120, "first"), (121, "spare"), (122, "takes"), (123, "clear_table"), (124, "clear_moves"), (125, "can_go"), (126, "goers"), (127, "order_of"), (129, "fault_octets"), (130, "refusal"), (131, "check_answer"), (132, "canonical_answer"), (133, "step_line"), (134, "sheet_answer"), (135, "names_of"), (136, "wall_answer"), (137, "text_answer")]
def fnN4 : List (Nat × Str) := [(140, "panel_answer"), (141, "play_answer"), (142, "undo_answer"), (143, "look_answer"), (144, "trial_answer"), (145, "place_answer"), (147, "reply"), (148, "requests_of"), (149, "answers")]
def fnM : List He.DefD := [mkM 53 0 "Wall" "__init__" "Wall.__init__", mkM 83 0 "Script" "__init__" "Script.__init__", mkM 139 0 "Session" "__init__" "Session.__init__", mkM 139 1 "Session" "scripts_at" "Session.scripts_at", mkM 139 2 "Session" "stand" "Session.stand"]
def fn : List He.DefD := (fnN0 ++ fnN1 ++ fnN2 ++ fnN3 ++ fnN4).map mkD ++ fnM
def gloN : List Str := ["Wall", "Script", "Session"]
def freeN : List Str := ["len", "range", "ord", "list"]
def intN : List (Str × Int) := [("SHEET", 0), ("MAGNET", 1), ("DRAWER", 2), ("PUT", 3), ("OFF", 4), ("MOVE", 5), ("INVALID_TOKEN", 1), ("LINE_TOO_LONG", 2), ("SYNTAX_ERROR", 3), ("NAME_USED", 4), ("SPOT_TWICE", 5), ("TOO_LATE", 6), ("MANY_SHEETS", 7), ("MANY_SPOTS", 8), ("UNKNOWN_SPOT", 9), ("SAID_ALREADY", 10), ("MANY_MAGNETS", 11), ("WOULD_FALL", 12), ("MAGNET_THERE", 13), ("DRAWER_EMPTY", 14), ("MANY_MOVES", 15), ("NO_MAGNET", 16), ("UNKNOWN_SHEET", 17), ("IS_AWAY", 18), ("IS_HELD", 19), ("FAR", 1000000)]
def fa : List He.Fa := (fnN0 ++ fnN1 ++ fnN2 ++ fnN3 ++ fnN4).map (fun p => He.Fa.glo p.2) ++ gloN.map He.Fa.glo ++ freeN.map He.Fa.free ++ intN.map (fun p => He.Fa.int p.1 p.2) ++ gloN.map He.Fa.cls ++ gloN.map He.Fa.mkr ++ [.meth "Session" "scripts_at", .meth "Session" "stand"] ++ [.noat "Wall" "names", .noat "Wall" "covers", .noat "Wall" "spots", .noat "Wall" "held", .noat "Wall" "drawer", .noat "Wall" "up", .noat "Script" "wall", .noat "Script" "drawn", .noat "Script" "acts", .noat "Script" "lines", .noat "Session" "places"] ++ [.glo "KEYS", .glo "SHAPES", .glo "POWERS"]
/-- a tuple at a -/
def tupA (K : PySem.W.Frag) (a : Addr) (vs : List V) : Bool := match K.lookup a with
  | some ⟨.type c, _, .seq its _, _⟩ => decide (c = "tuple") && (decide (its.size ≤ sizeLine) && He.relAll vs its.toList)
  | _ => false
/-- the i-th item of the tuple at a, if an object -/
def itemA (K : PySem.W.Frag) (a : Addr) (i : Nat) : Addr := match K.lookup a with
  | some ⟨_, _, .seq its _, _⟩ => (match its.toList[i]? with
    | some (.ref b) => b
    | _ => 0)
  | _ => 0
def shapes : List (List Int) := [[2], [2], [2], [2, 2], [2, 2], [2, 2], [2], [2], [2], [1, 2], [1, 2], [1], [1], [1, 3]]
def keysW : List Str := ["sheet", "magnet", "drawer", "put", "off", "move", "take"]
def powers : List Int := [1, 2, 4, 8, 16, 32, 64]
def tabsOk (K : PySem.W.Frag) : Bool :=
  tupA K (He.ga K "KEYS") (keysW.map V.str) && (tupA K (He.ga K "POWERS") (powers.map V.int) &&
    (tupA K (He.ga K "SHAPES") ((List.range 14).map fun i => V.ref (itemA K (He.ga K "SHAPES") i)) &&
      (List.range 14).all fun i => tupA K (itemA K (He.ga K "SHAPES") i) ((shapes.getD i []).map V.int)))
abbrev AlW : Type := He.AlD × Bool
def obsW (K : PySem.W.Frag) : AlW := (He.obsD fa fn K, tabsOk K)
def valW : AlW := (He.valD fn, true)
def nextF (g : Addr → Option Obj) (as : List Addr) : List Addr := as.flatMap fun a => match g a with
  | some o => He.refsO o
  | none => []
def isFnO (g : Addr → Option Obj) (a : Addr) : Bool := match g a with
  | some ⟨_, _, .func _, _⟩ => true
  | _ => false
def isClO (g : Addr → Option Obj) (a : Addr) : Bool := match g a with
  | some ⟨_, _, .cls _, _⟩ => true
  | _ => false
/-- what the module's names reach, as far as the facts look -/
def asF (g : Addr → Option Obj) : List Addr :=
  let l1 := nextF g [mainGlobals]
  let l2 := nextF g l1
  let l3 := nextF g (l2.filter fun a => !(isFnO g a || isClO g a))
  let l4 := nextF g (l3.filter fun a => isFnO g a)
  mainGlobals :: (l1 ++ (l2 ++ (l3 ++ l4)))
def obsWG (g : Addr → Option Obj) : AlW := obsW (He.frG g (asF g))
def hk : PySem.W.Hook where
  α := AlW
  obs := fun s => obsWG s.heap.get?
  val := fun _ => valW
  says := fun _ h => ∃ K : PySem.W.Frag, K.In h ∧ obsW K = valW
  of := fun _ _ e => ⟨_, He.frG_in, e⟩
  keeps := fun _ _ _ ⟨K, hK, c⟩ k => ⟨K, PySem.W.Frag.In.keeps hK k, c⟩
def ob (s : PySem.W.SharedT) : AlW := obsWG (HandSHeadRun.getT s)
theorem ob_eq (s : PySem.W.SharedT) : ob s = hk.obs s.abs := by
  have e : HandSHeadRun.getT s = s.abs.heap.get? := funext (HandSHeadRun.getT_eq s)
  show obsWG (HandSHeadRun.getT s) = obsWG s.abs.heap.get?
  rw [e]
def loose0 : List Str := ["__name__", "SHAPES", "number_at", "number_end", "text_at", "text_end", "texts_at", "texts_end", "part_end", "starts_of", "number_octets", "text_octets", "texts_octets", "option_number", "option_text", "option_texts", "SHEET", "MAGNET", "DRAWER", "PUT", "OFF", "MOVE", "KEYS", "INVALID_TOKEN", "LINE_TOO_LONG"]
def loose1 : List Str := ["SYNTAX_ERROR", "lines_of", "without_comment", "is_letter", "is_digit", "pieces_of", "is_word", "is_number", "is_token", "all_tokens", "all_words", "letters_of", "key_of", "fits", "kind_of", "form_problem", "value_of", "spaced", "POWERS", "has", "put_in", "left_out", "count_of", "apart", "within"]
def loose2 : List Str := ["place_of", "Wall", "empty_wall", "with_magnets", "without_sheet", "with_spots", "cover_of", "with_sheet", "loose", "many_loose", "fallen", "hand", "names_up", "magnets_of", "NAME_USED", "SPOT_TWICE", "TOO_LATE", "MANY_SHEETS", "MANY_SPOTS", "UNKNOWN_SPOT", "SAID_ALREADY", "MANY_MAGNETS", "WOULD_FALL", "MAGNET_THERE", "DRAWER_EMPTY"]
def loose3 : List Str := ["MANY_MOVES", "NO_MAGNET", "UNKNOWN_SHEET", "IS_AWAY", "IS_HELD", "Script", "empty_script", "named_twice", "many_acts", "sheet_problem", "magnet_problem", "drawer_problem", "put_problem", "off_problem", "move_problem", "take_problem", "item_problem", "magnets_moved", "wall_after", "script_after", "row_problem", "read_text", "canonical", "says_act", "act_problem"]
def loose4 : List Str := ["script_with", "FAR", "calm_table", "puts", "offs", "shifts", "steps", "landed", "ways_table", "nearer", "spread", "free_table", "moves_table", "known", "fewest", "first", "spare", "takes", "clear_table", "clear_moves", "can_go", "goers", "order_of", "fault_octets", "refusal"]
def loose5 : List Str := ["check_answer", "canonical_answer", "step_line", "sheet_answer", "names_of", "wall_answer", "text_answer", "Session", "panel_answer", "play_answer", "undo_answer", "look_answer", "trial_answer", "place_answer", "reply", "requests_of"]
abbrev looseN : List Str := loose0 ++ loose1 ++ loose2 ++ loose3 ++ loose4 ++ loose5
abbrev qv : Program := PySem.W.view RS.prog [149]
theorem run (w : World) : HandSHeadRun.RunEqS RS qv hk ob 6000 looseN w := by
  intro os
  kernel_rfl
end PW
set_option Elab.async false
set_option linter.all false
set_option maxRecDepth 100000
set_option maxHeartbeats 2000000
namespace PW
open PySem PySem.Spec PyProof.Rows L2

/-! ### plain data -/
inductive D where
  | non | bl (b : Bool) | int (i : Int) | str (x : Str)
  | lst (ds : List D) | tup (ds : List D) | sql (ds : List D) | ins (t : Bool) (ds : List D)
/-- the class of an instance (false Wall, true Script), its attributes in the order in which __init__ sets them -/
def cA (K : PySem.W.Frag) : Bool → Addr
  | false => He.ga K "Wall"
  | true => He.ga K "Script"
def cF : Bool → List Str
  | false => ["names", "covers", "spots", "held", "drawer", "up"]
  | true => ["wall", "drawn", "acts", "lines"]
mutual
/-- v stands for d in the heap G -/
def Rep (K : PySem.W.Frag) (G : Hp) : D → V → Prop
  | .non, v => v = .non
  | .bl b, v => v = .bl b
  | .int i, v => v = .int i
  | .str x, v => v = .str x
  | .lst ds, v => ∃ a vs, v = .ref a ∧ G a = some (.lst vs) ∧ Reps K G ds vs
  | .tup ds, v => ∃ a vs, v = .ref a ∧ SqT K G a vs ∧ Reps K G ds vs
  | .sql ds, v => ∃ a vs, v = .ref a ∧ SqL K G a vs ∧ Reps K G ds vs
  | .ins t ds, v => ∃ a dx vs, v = .ref a ∧ G a = some (.ins (cA K t) dx ((cF t).zip vs)) ∧ Reps K G ds vs
def Reps (K : PySem.W.Frag) (G : Hp) : List D → List V → Prop
  | [], vs => vs = []
  | d :: ds, vs => ∃ v ws, vs = v :: ws ∧ Rep K G d v ∧ Reps K G ds ws
end
section
variable {K : PySem.W.Frag} {G G' H H' : Hp}
theorem Same.seqT {a : Addr} {xs : List V} (e : Same G G') (h : SqT K G a xs) : SqT K G' a xs := by
  rcases h with (h | ⟨o, h⟩) | h
  · exact .inl (.inl (e _ _ h))
  · exact .inl (.inr ⟨o, e _ _ h⟩)
  · exact .inr h
mutual
theorem Rep.mono (e : Same G G') : ∀ (d : D) (v : V), Rep K G d v → Rep K G' d v
  | .non, _, h => h
  | .bl _, _, h => h
  | .int _, _, h => h
  | .str _, _, h => h
  | .lst ds, _, ⟨a, vs, h1, h2, h3⟩ => ⟨a, vs, h1, e _ _ h2, Reps.mono e ds vs h3⟩
  | .tup ds, _, ⟨a, vs, h1, h2, h3⟩ => ⟨a, vs, h1, Same.seqT e h2, Reps.mono e ds vs h3⟩
  | .sql ds, _, ⟨a, vs, h1, h2, h3⟩ => ⟨a, vs, h1, e.seq h2, Reps.mono e ds vs h3⟩
  | .ins t ds, _, ⟨a, dx, vs, h1, h2, h3⟩ => ⟨a, dx, vs, h1, e _ _ h2, Reps.mono e ds vs h3⟩
theorem Reps.mono (e : Same G G') : ∀ (ds : List D) (vs : List V), Reps K G ds vs → Reps K G' ds vs
  | [], _, h => h
  | d :: ds, _, ⟨v, ws, h1, h2, h3⟩ => ⟨v, ws, h1, Rep.mono e d v h2, Reps.mono e ds ws h3⟩
end
theorem Reps.len : ∀ {ds : List D} {vs : List V}, Reps K G ds vs → ds.length = vs.length
  | [], _, h => by
    have e : _ = [] := h
    rw [e] <;> rfl
  | d :: ds, _, ⟨v, ws, h1, h2, h3⟩ => by
    rw [h1, List.length_cons, List.length_cons, Reps.len h3]
theorem Reps.nil : Reps K G [] [] := rfl
theorem Reps.cons {d : D} {v : V} {ds : List D} {vs : List V} (h : Rep K G d v) (hs : Reps K G ds vs) : Reps K G (d :: ds) (v :: vs) := ⟨v, vs, rfl, h, hs⟩
theorem Reps.app : ∀ {ds es : List D} {vs ws : List V}, Reps K G ds vs → Reps K G es ws → Reps K G (ds ++ es) (vs ++ ws)
  | [], _, _, _, h, h' => by
    have e : _ = [] := h
    rw [e]
    exact h'
  | d :: ds, _, _, _, ⟨v, us, h1, h2, h3⟩, h' => by
    rw [h1]
    exact ⟨v, _, rfl, h2, Reps.app h3 h'⟩
theorem Reps.get : ∀ {ds : List D} {vs : List V} {i : Nat} {d : D}, Reps K G ds vs → ds[i]? = some d → ∃ v, vs[i]? = some v ∧ Rep K G d v
  | [], _, _, _, _, e => by simp at e
  | d :: ds, _, 0, _, ⟨v, us, h1, h2, h3⟩, e => by
    rw [h1]
    simp at e
    subst e
    exact ⟨v, rfl, h2⟩
  | d :: ds, _, i + 1, _, ⟨v, us, h1, h2, h3⟩, e => by
    rw [h1]
    obtain ⟨w, q1, q2⟩ := Reps.get (i := i) h3 (by simpa using e)
    exact ⟨w, by simpa using q1, q2⟩
theorem Reps.get' {ds : List D} {vs : List V} {i : Nat} {v : V} (h : Reps K G ds vs) (e : vs[i]? = some v) : ∃ d, ds[i]? = some d ∧ Rep K G d v := by
  have hi : i < ds.length := by
    rw [h.len]
    exact (List.getElem?_eq_some_iff.mp e).1
  obtain ⟨w, q1, q2⟩ := h.get (List.getElem?_eq_getElem hi)
  rw [e] at q1
  cases q1
  exact ⟨_, List.getElem?_eq_getElem hi, q2⟩
theorem Reps.drop : ∀ {ds : List D} {vs : List V} (n : Nat), Reps K G ds vs → Reps K G (ds.drop n) (vs.drop n)
  | _, _, 0, h => h
  | [], _, n + 1, h => by
    have e : _ = [] := h
    rw [e] <;> rfl
  | d :: ds, _, n + 1, ⟨v, us, h1, h2, h3⟩ => by
    rw [h1]
    exact Reps.drop n h3
theorem Reps.take : ∀ {ds : List D} {vs : List V} (n : Nat), Reps K G ds vs → Reps K G (ds.take n) (vs.take n)
  | _, _, 0, _ => rfl
  | [], _, n + 1, h => by
    have e : _ = [] := h
    rw [e] <;> rfl
  | d :: ds, _, n + 1, ⟨v, us, h1, h2, h3⟩ => by
    rw [h1]
    exact ⟨v, _, rfl, h2, Reps.take n h3⟩
theorem Reps.set {d : D} {v : V} (h : Rep K G d v) : ∀ {ds : List D} {vs : List V} (n : Nat), Reps K G ds vs → Reps K G (ds.set n d) (vs.set n v)
  | [], _, _, e => by
    have e' : _ = [] := e
    rw [e'] <;> rfl
  | _ :: ds, _, 0, ⟨v, us, h1, h2, h3⟩ => by
    rw [h1]
    exact ⟨_, us, rfl, h, h3⟩
  | _ :: ds, _, n + 1, ⟨v, us, h1, h2, h3⟩ => by
    rw [h1]
    exact ⟨v, _, rfl, h2, Reps.set h n h3⟩
theorem reps_ints : ∀ {ns : List Int} {vs : List V}, Reps K G (ns.map D.int) vs ↔ vs = ns.map V.int
  | [], vs => Iff.rfl
  | n :: ns, vs => by
    constructor
    · rintro ⟨v, us, rfl, h2, h3⟩
      have e : v = .int n := h2
      rw [e, reps_ints.mp h3] <;> rfl
    · rintro rfl
      exact ⟨_, _, rfl, rfl, reps_ints.mpr rfl⟩
/-- the pieces of a slice -/
def cutD (ds : List D) (lo hi : Option Int) : List D := (ds.drop (HT.sIx ds.length 0 lo)).take (HT.sIx ds.length ds.length hi - HT.sIx ds.length 0 lo)
theorem Reps.cut {ds : List D} {vs : List V} (h : Reps K G ds vs) (lo hi : Option Int) : Reps K G (cutD ds lo hi) (cutV vs lo hi) := by
  unfold cutD cutV
  rw [h.len]
  exact (h.drop _).take _

/-! ### heaps: G what is fixed for good, H all -/
structure Fr (G H G' H' : Hp) : Prop where
  g : Same G G'
  gh : Same G' H'
  h : Same H H'
  new : ∀ a o, G' a = some o → H a ≠ none → G a ≠ none
theorem Fr.refl (s : Same G H) : Fr G H G H := ⟨Same.refl _, s, Same.refl _, fun a o e _ q => by rw [q] at e; cases e⟩
theorem Fr.trans {G1 H1 G2 H2 : Hp} (a : Fr G H G1 H1) (b : Fr G1 H1 G2 H2) : Fr G H G2 H2 :=
  ⟨a.g.trans b.g, b.gh, a.h.trans b.h, fun x o e n => by
    have n1 : H1 x ≠ none := by
      cases q : H x with
      | none => exact absurd q n
      | some u =>
        rw [a.h _ _ q]
        exact fun z => nomatch z
    have n2 := b.new x o e n1
    cases q : G1 x with
    | none => exact absurd q n2
    | some u => exact a.new x u q n⟩
/-- a new object, fixed -/
theorem Fr.laid {p : Addr} {o : HO} (s : Same G H) (hp : H p = none) : Fr G H (upd G p o) (upd H p o) := by
  have gp : G p = none := s.free hp
  refine ⟨fun b u e => ?_, fun b u e => ?_, fun b u e => ?_, fun b u e n q => ?_⟩
  · rw [upd_ne (ne_of_none e gp)]; exact e
  · by_cases hb : b = p
    · subst hb; rw [upd_same] at e ⊢; exact e
    · rw [upd_ne hb] at e ⊢; exact s _ _ e
  · rw [upd_ne (ne_of_none e hp)]; exact e
  · by_cases hb : b = p
    · subst hb; exact n hp
    · rw [upd_ne hb, q] at e; cases e
/-- a new object, not fixed -/
theorem Fr.loose {p : Addr} {o : HO} (s : Same G H) (hp : H p = none) : Fr G H G (upd H p o) :=
  ⟨Same.refl _, fun b u e => by rw [upd_ne (ne_of_none (s _ _ e) hp)]; exact s _ _ e, fun b u e => by rw [upd_ne (ne_of_none e hp)]; exact e, fun a o e _ q => by rw [q] at e; cases e⟩
theorem Fr.keepG {G1 : Hp} (s : Same G H) (a : Fr G1 H G' H') : Fr G H G H' :=
  ⟨Same.refl _, s.trans a.h, a.h, fun a o e _ q => by rw [q] at e; cases e⟩
end

/-! ### names: what the slots hold -/
inductive Slot where
  | un | val (d : D) | own (ds : List D) | ses (p l : Addr) (ss : List D)
abbrev Env' := List Slot
@[simp] def Slot.opn : Slot → Slot
  | .own ds => .val (.lst ds)
  | s => s
@[simp] def opn (env : Env') : Env' := env.map Slot.opn
def sesF (l : Addr) : List (Str × V) := [("places", .ref l)]
def SlotR (K : PySem.W.Frag) (H0 G H : Hp) : Slot → Option V → Prop
  | .un, _ => True
  | .val d, o => ∃ v, o = some v ∧ Rep K G d v
  | .own ds, o => ∃ a vs, o = some (.ref a) ∧ H0 a = none ∧ G a = none ∧ H a = some (.lst vs) ∧ Reps K G ds vs
  | .ses p l ss, o => ∃ dx ws, o = some (.ref p) ∧ G p = some (.ins (He.ga K "Session") dx (sesF l)) ∧ H0 l = none ∧ G l = none ∧ H l = some (.lst ws) ∧ Reps K G ss ws
/-- slot i holds a list at a of its own -/
def OwnA (env : Env') (σ : L2.St) (i : Nat) (a : Addr) : Prop :=
  (∃ ds, env[i]? = some (.own ds) ∧ σ[i]? = some (some (.ref a))) ∨ ∃ p ss, env[i]? = some (.ses p a ss)
structure Rel (K : PySem.W.Frag) (G0 H0 G H : Hp) (env : Env') (σ : L2.St) : Prop where
  fr : Fr G0 H0 G H
  len : env.length = σ.length
  at_ : ∀ (i : Nat) (s : Slot), env[i]? = some s → ∃ o, σ[i]? = some o ∧ SlotR K H0 G H s o
  dst : ∀ (i j : Nat) (a : Addr), OwnA env σ i a → OwnA env σ j a → i = j
section
variable {K : PySem.W.Frag} {G0 H0 G H G' H' : Hp} {env : Env'} {σ : L2.St}
theorem Rel.own_at (R : Rel K G0 H0 G H env σ) {i : Nat} {a : Addr} (o : OwnA env σ i a) : H0 a = none ∧ G a = none ∧ ∃ vs, H a = some (.lst vs) := by
  rcases o with ⟨ds, e1, e2⟩ | ⟨p, ss, e1⟩
  · obtain ⟨o, q1, b, vs, q2, q3, q4, q5, _⟩ := R.at_ i _ e1
    rw [e2] at q1
    cases q1
    cases q2
    exact ⟨q3, q4, vs, q5⟩
  · obtain ⟨o, q1, dx', ws, q2, q3, q4, q5, q6, _⟩ := R.at_ i _ e1
    exact ⟨q4, q5, ws, q6⟩
theorem some_ne_none {α : Type} {o : Option α} {x : α} (h : o = some x) : o ≠ none := fun z => by rw [z] at h; cases h
theorem free_step (f : Fr G H G' H') {a : Addr} {o : HO} (hg : G a = none) (hh : H a = some o) : G' a = none := by
  cases q : G' a with
  | none => rfl
  | some u => exact absurd hg (f.new a u q (some_ne_none hh))
theorem Rel.step (R : Rel K G0 H0 G H env σ) (f : Fr G H G' H') : Rel K G0 H0 G' H' env σ := by
  refine ⟨R.fr.trans f, R.len, fun i s e => ?_, R.dst⟩
  obtain ⟨o, q, r⟩ := R.at_ i s e
  refine ⟨o, q, ?_⟩
  cases s with
  | un => trivial
  | val d =>
    obtain ⟨v, rfl, h⟩ := r
    exact ⟨v, rfl, Rep.mono f.g _ _ h⟩
  | own ds =>
    obtain ⟨a, vs, rfl, h0, h1, h2, h3⟩ := r
    exact ⟨a, vs, rfl, h0, free_step f h1 h2, f.h _ _ h2, Reps.mono f.g _ _ h3⟩
  | ses p l ss =>
    obtain ⟨dx, ws, rfl, h0, h1, h2, h3, h4⟩ := r
    exact ⟨dx, ws, rfl, f.g _ _ h0, h1, free_step f h2 h3, f.h _ _ h3, Reps.mono f.g _ _ h4⟩
theorem get_set {α : Type} {l : List α} {i j : Nat} {x y : α} (h : (l.set i x)[j]? = some y) : (i = j ∧ y = x) ∨ (i ≠ j ∧ l[j]? = some y) := by
  by_cases e : i = j
  · subst e
    by_cases hi : i < l.length
    · rw [List.getElem?_set_self hi] at h
      exact .inl ⟨rfl, (Option.some.inj h).symm⟩
    · rw [List.getElem?_eq_none (by simpa using hi)] at h
      cases h
  · rw [List.getElem?_set_ne e] at h
    exact .inr ⟨e, h⟩
/-- slot i gets a slot that owns nothing -/
theorem Rel.setN (R : Rel K G0 H0 G H env σ) {i : Nat} {s : Slot} {o : Option V} (h : SlotR K H0 G H s o) (hs : ∀ ds, s ≠ .own ds) (hs2 : ∀ p l ss, s ≠ .ses p l ss) : Rel K G0 H0 G H (env.set i s) (σ.set i o) := by
  have own : ∀ (j : Nat) (a : Addr), OwnA (env.set i s) (σ.set i o) j a → OwnA env σ j a := fun j a x => by
    rcases x with ⟨ds, e1, e2⟩ | ⟨p, ss, e1⟩
    · rcases get_set e1 with ⟨rfl, z⟩ | ⟨ne, z⟩
      · exact absurd z.symm (hs ds)
      · rw [List.getElem?_set_ne ne] at e2
        exact .inl ⟨ds, z, e2⟩
    · rcases get_set e1 with ⟨rfl, z⟩ | ⟨ne, z⟩
      · exact absurd z.symm (hs2 p a ss)
      · exact .inr ⟨p, ss, z⟩
  refine ⟨R.fr, by simp [R.len], fun j s' e => ?_, fun j k a x y => R.dst j k a (own j a x) (own k a y)⟩
  rcases get_set e with ⟨rfl, rfl⟩ | ⟨ne, z⟩
  · have hi : i < σ.length := by
      have := (List.getElem?_eq_some_iff.mp e).1
      rw [List.length_set, R.len] at this
      exact this
    exact ⟨o, List.getElem?_set_self hi, h⟩
  · obtain ⟨u, q, r⟩ := R.at_ j s' z
    exact ⟨u, by rw [List.getElem?_set_ne ne]; exact q, r⟩
theorem Rel.setV (R : Rel K G0 H0 G H env σ) {i : Nat} {d : D} {v : V} (h : Rep K G d v) : Rel K G0 H0 G H (env.set i (.val d)) (σ.set i (some v)) :=
  R.setN ⟨v, rfl, h⟩ (fun _ z => nomatch z) fun _ _ _ z => nomatch z
/-- slot i gets a list of its own -/
theorem Rel.setO (R : Rel K G0 H0 G H env σ) {i : Nat} {a : Addr} {ds : List D} {vs : List V} (h0 : H0 a = none) (h1 : G a = none) (h2 : H a = some (.lst vs)) (h3 : Reps K G ds vs) (hn : ∀ j, ¬ OwnA env σ j a) :
    Rel K G0 H0 G H (env.set i (.own ds)) (σ.set i (some (.ref a))) := by
  have own : ∀ (j : Nat) (b : Addr), OwnA (env.set i (.own ds)) (σ.set i (some (.ref a))) j b → (j = i ∧ b = a) ∨ OwnA env σ j b := fun j b x => by
    rcases x with ⟨es, e1, e2⟩ | ⟨p, ss, e1⟩
    · rcases get_set e1 with ⟨rfl, z⟩ | ⟨ne, z⟩
      · rcases get_set e2 with ⟨_, z2⟩ | ⟨ne, _⟩
        · cases z2
          exact .inl ⟨rfl, rfl⟩
        · exact absurd rfl ne
      · rw [List.getElem?_set_ne ne] at e2
        exact .inr (.inl ⟨es, z, e2⟩)
    · rcases get_set e1 with ⟨rfl, z⟩ | ⟨ne, z⟩
      · cases z
      · exact .inr (.inr ⟨p, ss, z⟩)
  refine ⟨R.fr, by simp [R.len], fun j s' e => ?_, fun j k b x y => ?_⟩
  · rcases get_set e with ⟨rfl, rfl⟩ | ⟨ne, z⟩
    · have hi : i < σ.length := by
        have := (List.getElem?_eq_some_iff.mp e).1
        rw [List.length_set, R.len] at this
        exact this
      exact ⟨_, List.getElem?_set_self hi, a, vs, rfl, h0, h1, h2, h3⟩
    · obtain ⟨u, q, r⟩ := R.at_ j s' z
      exact ⟨u, by rw [List.getElem?_set_ne ne]; exact q, r⟩
  · rcases own j b x with ⟨rfl, rfl⟩ | x'
    · rcases own k b y with ⟨rfl, _⟩ | y'
      · rfl
      · exact absurd y' (hn k)
    · rcases own k b y with ⟨rfl, rfl⟩ | y'
      · exact absurd x' (hn j)
      · exact R.dst j k b x' y'
/-- a new list becomes slot i's own -/
theorem Rel.setF (R : Rel K G0 H0 G H env σ) (f : Fr G H G' H') {i : Nat} {a : Addr} {ds : List D} {vs : List V} (ha : H a = none) (h1 : G' a = none) (h2 : H' a = some (.lst vs)) (h3 : Reps K G' ds vs) :
    Rel K G0 H0 G' H' (env.set i (.own ds)) (σ.set i (some (.ref a))) :=
  (R.step f).setO (R.fr.h.free ha) h1 h2 h3 fun j o => by
    obtain ⟨_, _, vs, e⟩ := R.own_at o
    rw [ha] at e
    cases e
/-- the own list of slot i is written -/
theorem Rel.write (R : Rel K G0 H0 G H env σ) {i : Nat} {a : Addr} {ds es : List D} {ws : List V} (e1 : env[i]? = some (.own ds)) (e2 : σ[i]? = some (some (.ref a))) (h : Reps K G es ws) :
    Rel K G0 H0 G (upd H a (.lst ws)) (env.set i (.own es)) σ := by
  have oi : OwnA env σ i a := .inl ⟨ds, e1, e2⟩
  obtain ⟨h0, h1, vs, h2⟩ := R.own_at oi
  have own : ∀ (j : Nat) (b : Addr), OwnA (env.set i (.own es)) σ j b → OwnA env σ j b := fun j b x => by
    rcases x with ⟨fs, x1, x2⟩ | ⟨p, ss, x1⟩
    · rcases get_set x1 with ⟨rfl, z⟩ | ⟨ne, z⟩
      · rw [e2] at x2
        cases x2
        exact oi
      · exact .inl ⟨fs, z, x2⟩
    · rcases get_set x1 with ⟨rfl, z⟩ | ⟨ne, z⟩
      · cases z
      · exact .inr ⟨p, ss, z⟩
  refine ⟨⟨R.fr.g, fun b u e => ?_, fun b u e => ?_, R.fr.new⟩, by simp [R.len], fun j s' e => ?_, fun j k b x y => R.dst j k b (own j b x) (own k b y)⟩
  · rw [upd_ne (ne_of_none e h1)]; exact R.fr.gh _ _ e
  · rw [upd_ne (ne_of_none e h0)]; exact R.fr.h _ _ e
  · rcases get_set e with ⟨rfl, rfl⟩ | ⟨ne, z⟩
    · exact ⟨_, e2, a, ws, rfl, h0, h1, upd_same, h⟩
    · obtain ⟨o, q, r⟩ := R.at_ j s' z
      refine ⟨o, q, ?_⟩
      cases s' with
      | un => trivial
      | val d => exact r
      | own fs =>
        obtain ⟨b, us, rfl, g0, g1, g2, g3⟩ := r
        refine ⟨b, us, rfl, g0, g1, ?_, g3⟩
        rw [upd_ne fun q' => ?_]
        · exact g2
        · subst q'
          exact ne (R.dst i j b oi (.inl ⟨fs, z, q⟩))
      | ses p l ss =>
        obtain ⟨dx, us, rfl, g0, g1, g2, g3, g4⟩ := r
        refine ⟨dx, us, rfl, g0, g1, g2, ?_, g4⟩
        rw [upd_ne fun q' => ?_]
        · exact g3
        · subst q'
          exact ne (R.dst i j l oi (.inr ⟨p, ss, z⟩))
/-- all own lists are fixed -/
theorem Rel.opn2 (R : Rel K G0 H0 G H env σ) : ∃ G1, Same G G1 ∧ Rel K G0 H0 G1 H (PW.opn env) σ ∧ ∀ (b : Addr) (u : HO), G1 b = some u → G b = none → ∃ (j : Nat) (es : List D), env[j]? = some (Slot.own es) ∧ σ[j]? = some (some (.ref b)) := by
  classical
  let isO : Addr → Prop := fun b => ∃ (i : Nat) (ds : List D), env[i]? = some (.own ds) ∧ σ[i]? = some (some (.ref b))
  let G1 : Hp := fun b => if isO b then H b else G b
  have oG : ∀ b, isO b → G b = none := fun b ⟨i, ds, e1, e2⟩ => (R.own_at (.inl ⟨ds, e1, e2⟩)).2.1
  have oH0 : ∀ b, isO b → H0 b = none := fun b ⟨i, ds, e1, e2⟩ => (R.own_at (.inl ⟨ds, e1, e2⟩)).1
  have g1 : ∀ b, isO b → G1 b = H b := fun b h => if_pos h
  have g2 : ∀ b, ¬ isO b → G1 b = G b := fun b h => if_neg h
  have s1 : Same G G1 := fun b u e => by
    by_cases h : isO b
    · rw [oG b h] at e; cases e
    · rw [g2 b h]; exact e
  have s2 : Same G1 H := fun b u e => by
    by_cases h : isO b
    · rw [g1 b h] at e; exact e
    · rw [g2 b h] at e; exact R.fr.gh _ _ e
  refine ⟨G1, ?_⟩
  have own : ∀ (j : Nat) (b : Addr), OwnA (PW.opn env) σ j b → OwnA env σ j b := fun j b x => by
    have gm : ∀ s, (PW.opn env)[j]? = some s → ∃ s0, env[j]? = some s0 ∧ s = s0.opn := fun s e => by
      unfold PW.opn at e
      rw [List.getElem?_map] at e
      cases q : env[j]? with
      | none => rw [q] at e; cases e
      | some s0 => rw [q] at e; exact ⟨s0, rfl, (Option.some.inj e).symm⟩
    rcases x with ⟨fs, x1, x2⟩ | ⟨p, ss, x1⟩
    · obtain ⟨s0, _, z⟩ := gm _ x1
      cases s0 <;> cases z
    · obtain ⟨s0, z0, z⟩ := gm _ x1
      cases s0 with
      | ses p0 l0 ss0 =>
        cases z
        exact .inr ⟨p, ss, z0⟩
      | _ => cases z
  have fr1 : Fr G0 H0 G1 H := ⟨R.fr.g.trans s1, s2, R.fr.h, fun b u e n => by
    by_cases h : isO b
    · exact absurd (oH0 b h) n
    · rw [g2 b h] at e
      exact R.fr.new b u e n⟩
  refine ⟨s1, ⟨fr1, by simp [PW.opn, R.len], fun j s e => ?_, fun j k b x y => R.dst j k b (own j b x) (own k b y)⟩, fun b u e n => ?_⟩
  rotate_left
  · by_cases h : isO b
    · exact h
    · rw [g2 b h, n] at e
      cases e
  · unfold PW.opn at e
    rw [List.getElem?_map] at e
    cases q : env[j]? with
    | none => rw [q] at e; cases e
    | some s0 =>
      rw [q] at e
      have es : s = s0.opn := (Option.some.inj e).symm
      subst es
      obtain ⟨o, q1, r⟩ := R.at_ j s0 q
      refine ⟨o, q1, ?_⟩
      cases s0 with
      | un => trivial
      | val d =>
        obtain ⟨v, rfl, h⟩ := r
        exact ⟨v, rfl, Rep.mono s1 _ _ h⟩
      | own ds =>
        obtain ⟨a, vs, rfl, h0, h1, h2, h3⟩ := r
        have ho : isO a := ⟨j, ds, q, q1⟩
        exact ⟨.ref a, rfl, a, vs, rfl, by rw [g1 a ho]; exact h2, Reps.mono s1 _ _ h3⟩
      | ses p l ss =>
        obtain ⟨dx, ws, rfl, h0, h1, h2, h3, h4⟩ := r
        refine ⟨dx, ws, rfl, s1 _ _ h0, h1, ?_, h3, Reps.mono s1 _ _ h4⟩
        rw [g2 l fun ⟨i, ds, e1, e2⟩ => ?_]
        · exact h2
        · have ij := R.dst i j l (.inl ⟨ds, e1, e2⟩) (.inr ⟨p, ss, q⟩)
          subst ij
          rw [q] at e1
          cases e1
theorem Rel.opn (R : Rel K G0 H0 G H env σ) : ∃ G1, Same G G1 ∧ Rel K G0 H0 G1 H (PW.opn env) σ :=
  let ⟨G1, a, b, _⟩ := R.opn2
  ⟨G1, a, b⟩
end
end PW
set_option Elab.async false
set_option linter.all false
set_option maxRecDepth 100000
set_option maxHeartbeats 2000000
namespace PW
open PySem PySem.Spec PyProof.Rows L2

/-! ### readings over plain data -/
abbrev DE := Env' → (D → Prop) → Prop
abbrev DT := Env' → (Bool → Prop) → Prop
abbrev DA := Env' → (List D → Prop) → Prop
section
variable (K : PySem.W.Frag)
def LE (t : DE) : TE := fun σ H Q => ∃ G0 H0 G env Q', Rel K G0 H0 G H env σ ∧ t env Q' ∧ ∀ d v G' H', Q' d → Fr G H G' H' → Rep K G' d v → Q v H'
def LA (t : DA) : TA := fun σ H Q => ∃ G0 H0 G env Q', Rel K G0 H0 G H env σ ∧ t env Q' ∧ ∀ ds vs G' H', Q' ds → Fr G H G' H' → Reps K G' ds vs → Q vs H'
/-- a new list -/
def LF (t : DA) : TE := fun σ H Q => ∃ G0 H0 G env Q', Rel K G0 H0 G H env σ ∧ t env Q' ∧ ∀ ds a vs G' H', Q' ds → Fr G H G' H' → H a = none → G' a = none → H' a = some (.lst vs) → Reps K G' ds vs → Q (.ref a) H'
def LT (t : DT) : TT := fun σ H Q => ∃ G0 H0 G env Q', Rel K G0 H0 G H env σ ∧ t (opn env) Q' ∧ ∀ b H', Q' b → Same H H' → Q b H'
/-- a part of a slice -/
def LO (t : Env' → (Option Int → Prop) → Prop) : TO := fun σ H Q => ∃ G0 H0 G env Q', Rel K G0 H0 G H env σ ∧ t env Q' ∧ ∀ o G' H', Q' o → Fr G H G' H' → Q o H'
end
section
variable {X : Cx} {e : Expr} {es : List Expr}
theorem imE {t t' : TE} (h : PE X e t) (i : ∀ σ H Q, t' σ H Q → t σ H Q) : PE X e t' := ⟨fun pins s σ H Q I q => h.run pins s σ H Q I (i σ H Q q)⟩
theorem imT {t t' : TT} (h : PT X e t) (i : ∀ σ H Q, t' σ H Q → t σ H Q) : PT X e t' := ⟨fun pins s σ H Q I q => h.run pins s σ H Q I (i σ H Q q)⟩
theorem imW {t t' : TT} (h : PW X e t) (i : ∀ σ H Q, t' σ H Q → t σ H Q) : PW X e t' := ⟨fun wh pins s σ H Q I q => h.run wh pins s σ H Q I (i σ H Q q)⟩
theorem imA {t t' : TA} (h : PA X es t) (i : ∀ σ H Q, t' σ H Q → t σ H Q) : PA X es t' := ⟨fun pos pins s σ H Q I q => h.run pos pins s σ H Q I (i σ H Q q)⟩
theorem imO {o : Option Expr} {t t' : TO} (h : PO X o t) (i : ∀ σ H Q, t' σ H Q → t σ H Q) : PO X o t' := ⟨fun pins s σ H Q I q => h.run pins s σ H Q I (i σ H Q q)⟩
end
section
variable {K : PySem.W.Frag} {G0 H0 G H G' H' : Hp} {env : Env'} {σ : L2.St}
theorem Fr.loosen (s : Same G H) (h : Same H H') : Fr G H G H' := ⟨Same.refl _, s.trans h, h, fun a o e _ q => by rw [q] at e; cases e⟩
theorem Rel.stay (R : Rel K G0 H0 G H env σ) (h : Same H H') : Rel K G0 H0 G H' env σ := R.step (Fr.loosen R.fr.gh h)
end

/-! ### names and constants -/
@[simp] def dVar (i : Nat) : DE := fun env Q => ∃ d, env[i]? = some (.val d) ∧ Q d
@[simp] def dC (d : D) : DE := fun _ Q => Q d
section
variable {X : Cx} {K : PySem.W.Frag}
theorem var_imp {i : Nat} {σ : L2.St} {H : Hp} {Q : VK} (h : LE K (dVar i) σ H Q) : tVar i σ H Q := by
  obtain ⟨G0, H0, G, env, Q', R, ⟨d, e, q⟩, k⟩ := h
  obtain ⟨o, e2, v, rfl, r⟩ := R.at_ i _ e
  exact ⟨v, e2, k d v G H q (Fr.refl R.fr.gh) r⟩
theorem c_imp {d : D} {v : V} (r : ∀ G, Rep K G d v) {σ : L2.St} {H : Hp} {Q : VK} (h : LE K (dC d) σ H Q) : tC v σ H Q := by
  obtain ⟨G0, H0, G, env, Q', R, q, k⟩ := h
  exact k d v G H q (Fr.refl R.fr.gh) (r G)
theorem de_var (i : Nat) {x : Str} {pos : Pos} (hN : X.N[i]? = some x := by rfl) (hv : Vis X.env.scope x := by first | exact Or.inl rfl | exact Or.inr (Or.inl rfl) | exact Or.inr (Or.inr rfl)) (hd : (x == ("__debug__" : Str)) = false := by decide)
    (hcd : (x == ("__classdict__" : Str)) = false := by decide) : PE X (.Name x pos) (LE X.K (dVar i)) := imE (pe_var hN hv hd hcd) fun _ _ _ => var_imp
theorem de_int {i j pos} : PE X (.Constant (.int i) j pos) (LE X.K (dC (.int i))) := imE pe_int fun _ _ _ => c_imp (d := .int i) (v := .int i) fun _ => rfl
theorem de_bl {i j pos} : PE X (.Constant (.bool i) j pos) (LE X.K (dC (.bl i))) := imE pe_bl fun _ _ _ => c_imp (d := .bl i) (v := .bl i) fun _ => rfl
theorem de_glob {x : Str} {v : V} {u : Value} {pos : Pos} {d : D} (hm : X.mg x = some u) (r : RelV v u) (rp : ∀ G, Rep X.K G d v) (hg : Gl X x := by rfl) (hd : (x == ("__debug__" : Str)) = false := by decide) : PE X (.Name x pos) (LE X.K (dC d)) :=
  imE (pe_glob hg hm r hd) fun _ _ _ => c_imp (v := v) rp
end

/-! ### operators -/
@[simp] def dBin (w : D → D → (D → Prop) → Prop) (ta tb : DE) : DE := fun env Q => ta env fun x => tb env fun y => w x y Q
@[simp] def dBinF (w : D → D → (List D → Prop) → Prop) (ta tb : DE) : DA := fun env Q => ta env fun x => tb env fun y => w x y Q
@[simp] def dUn (w : D → (D → Prop) → Prop) (ta : DE) : DE := fun env Q => ta env fun x => w x Q
def Lnk (K : PySem.W.Frag) (w : D → D → (D → Prop) → Prop) (r : R2) : Prop := ∀ (x y : D) (vx vy : V) (G H : Hp) (Q' : D → Prop) (Q : VK), w x y Q' → Rep K G x vx → Rep K G y vy → Same G H →
  (∀ d v G' H', Q' d → Fr G H G' H' → Rep K G' d v → Q v H') → r vx vy H Q
def LnkF (K : PySem.W.Frag) (w : D → D → (List D → Prop) → Prop) (r : R2) : Prop := ∀ (x y : D) (vx vy : V) (G H : Hp) (Q' : List D → Prop) (Q : VK), w x y Q' → Rep K G x vx → Rep K G y vy → Same G H →
  (∀ ds a vs G' H', Q' ds → Fr G H G' H' → H a = none → G' a = none → H' a = some (.lst vs) → Reps K G' ds vs → Q (.ref a) H') → r vx vy H Q
section
variable {K : PySem.W.Frag} {ta tb : DE} {σ : L2.St} {H : Hp} {Q : VK} {r : R2}
theorem bin_imp {w : D → D → (D → Prop) → Prop} (lk : Lnk K w r) (h : LE K (dBin w ta tb) σ H Q) : tOp r (LE K ta) (LE K tb) σ H Q := by
  obtain ⟨G0, H0, G, env, Q', R, q, k⟩ := h
  exact ⟨G0, H0, G, env, _, R, q, fun d v G1 H1 q1 f1 r1 => ⟨G0, H0, G1, env, _, R.step f1, q1, fun d2 v2 G2 H2 q2 f2 r2 =>
    lk d d2 v v2 G2 H2 Q' Q q2 (Rep.mono f2.g _ _ r1) r2 f2.gh fun d3 v3 G3 H3 q3 f3 r3 => k d3 v3 G3 H3 q3 ((f1.trans f2).trans f3) r3⟩⟩
theorem binF_imp {w : D → D → (List D → Prop) → Prop} (lk : LnkF K w r) (h : LF K (dBinF w ta tb) σ H Q) : tOp r (LE K ta) (LE K tb) σ H Q := by
  obtain ⟨G0, H0, G, env, Q', R, q, k⟩ := h
  exact ⟨G0, H0, G, env, _, R, q, fun d v G1 H1 q1 f1 r1 => ⟨G0, H0, G1, env, _, R.step f1, q1, fun d2 v2 G2 H2 q2 f2 r2 =>
    lk d d2 v v2 G2 H2 Q' Q q2 (Rep.mono f2.g _ _ r1) r2 f2.gh fun ds a vs G3 H3 q3 f3 n1 => k ds a vs G3 H3 q3 ((f1.trans f2).trans f3) ((f1.h.trans f2.h).free n1)⟩⟩
/-- a new list, fixed -/
theorem f_imp {t : DA} (h : LE K (fun env Q => t env fun ds => Q (.lst ds)) σ H Q) : LF K t σ H Q := by
  obtain ⟨G0, H0, G, env, Q', R, q, k⟩ := h
  refine ⟨G0, H0, G, env, _, R, q, fun ds a vs G' H' q1 f n1 n2 e r => ?_⟩
  have s1 : Same G' (upd G' a (.lst vs)) := fun b u z => by rw [upd_ne (ne_of_none z n2)]; exact z
  refine k _ _ (upd G' a (.lst vs)) H' q1 ⟨f.g.trans s1, fun b u z => ?_, f.h, fun b u z n => ?_⟩ ⟨a, vs, rfl, upd_same, Reps.mono s1 _ _ r⟩
  · by_cases hb : b = a
    · subst hb; rw [upd_same] at z; rw [e]; exact z
    · rw [upd_ne hb] at z; exact f.gh _ _ z
  · by_cases hb : b = a
    · subst hb; exact absurd n1 n
    · rw [upd_ne hb] at z; exact f.new b u z n
end
/-- a new list as a value -/
@[simp] def dL (t : DA) : DE := fun env Q => t env fun ds => Q (.lst ds)
section
variable {X : Cx} {K : PySem.W.Frag} {a b e : Expr} {ta tb : DE} {pos : Pos}
theorem de_f {t : DA} (h : PE X e (LF X.K t)) : PE X e (LE X.K (dL t)) := imE h fun _ _ _ => f_imp
/-- two ints under C, and what comes of them -/
@[simp] def wI (C : Int → Int → Prop) (g : Int → Int → D) : D → D → (D → Prop) → Prop := fun x y Q => ∃ i j, x = .int i ∧ y = .int j ∧ C i j ∧ Q (g i j)
theorem lnk_I {C : Int → Int → Prop} {g : Int → Int → D} {g' : Int → Int → V} (hg : ∀ i j G, Rep K G (g i j) (g' i j)) : Lnk K (wI C g) (rI C g') := by
  rintro x y vx vy G H Q' Q ⟨i, j, rfl, rfl, c, q⟩ rx ry s k
  exact ⟨i, j, rx, ry, c, k _ _ G H q (Fr.refl s) (hg i j G)⟩
theorem lnk_I0 {g : Int → Int → D} {g' : Int → Int → V} (hg : ∀ i j G, Rep K G (g i j) (g' i j)) : Lnk K (wI (fun _ _ => True) g) (rI0 g') := by
  rintro x y vx vy G H Q' Q ⟨i, j, rfl, rfl, c, q⟩ rx ry s k
  exact ⟨i, j, rx, ry, k _ _ G H q (Fr.refl s) (hg i j G)⟩
abbrev CT : Int → Int → Prop := fun _ _ => True
@[simp] def dAdd : DE → DE → DE := dBin (wI CT fun i j => .int (i + j))
@[simp] def dSub : DE → DE → DE := dBin (wI CT fun i j => .int (i - j))
@[simp] def dMul : DE → DE → DE := dBin (wI CMul fun i j => .int (i * j))
@[simp] def dDiv : DE → DE → DE := dBin (wI CDiv fun i j => .int (i / j))
@[simp] def dMod : DE → DE → DE := dBin (wI (fun _ j => 0 < j) fun i j => .int (i % j))
@[simp] def dAnd2 : DE → DE → DE := dBin (wI CT fun i j => .int (Builtin.bitAnd i j))
@[simp] def dNeg (ta : DE) : DE := dUn (fun x Q => ∃ i, x = .int i ∧ Q (.int (-i))) ta
theorem de_add (ha : PE X a (LE X.K ta)) (hb : PE X b (LE X.K tb)) : PE X (.BinOp a .Add b pos) (LE X.K (dAdd ta tb)) := imE (pe_op op_add ha hb) fun _ _ _ => bin_imp (lnk_I0 fun _ _ _ => rfl)
theorem de_sub (ha : PE X a (LE X.K ta)) (hb : PE X b (LE X.K tb)) : PE X (.BinOp a .Sub b pos) (LE X.K (dSub ta tb)) := imE (pe_op op_sub ha hb) fun _ _ _ => bin_imp (lnk_I0 fun _ _ _ => rfl)
theorem de_mul (ha : PE X a (LE X.K ta)) (hb : PE X b (LE X.K tb)) : PE X (.BinOp a .Mult b pos) (LE X.K (dMul ta tb)) := imE (pe_op op_mul ha hb) fun _ _ _ => bin_imp (lnk_I fun _ _ _ => rfl)
theorem de_div (ha : PE X a (LE X.K ta)) (hb : PE X b (LE X.K tb)) : PE X (.BinOp a .FloorDiv b pos) (LE X.K (dDiv ta tb)) := imE (pe_op op_fdiv ha hb) fun _ _ _ => bin_imp (lnk_I fun _ _ _ => rfl)
theorem de_mod (ha : PE X a (LE X.K ta)) (hb : PE X b (LE X.K tb)) : PE X (.BinOp a .Mod b pos) (LE X.K (dMod ta tb)) := imE (pe_op op_mod ha hb) fun _ _ _ => bin_imp (lnk_I fun _ _ _ => rfl)
theorem de_and2 (ha : PE X a (LE X.K ta)) (hb : PE X b (LE X.K tb)) : PE X (.BinOp a .BitAnd b pos) (LE X.K (dAnd2 ta tb)) := imE (pe_op op_and ha hb) fun _ _ _ => bin_imp (lnk_I0 fun _ _ _ => rfl)
theorem de_neg (ha : PE X a (LE X.K ta)) : PE X (.UnaryOp .USub a pos) (LE X.K (dNeg ta)) := by
  refine imE (pe_un un_neg ha) ?_
  rintro σ H Q ⟨G0, H0, G, env, Q', R, q, k⟩
  refine ⟨G0, H0, G, env, _, R, q, ?_⟩
  rintro d v G1 H1 ⟨i, rfl, q1⟩ f1 r1
  exact ⟨i, r1, k _ _ G1 H1 q1 f1 rfl⟩
/-! comparisons -/
@[simp] def dLtI : DE → DE → DE := dBin (wI CT fun i j => .bl (decide (i < j)))
@[simp] def dLeI : DE → DE → DE := dBin (wI CT fun i j => .bl (decide (i ≤ j)))
@[simp] def dGtI : DE → DE → DE := dBin (wI CT fun i j => .bl (decide (j < i)))
@[simp] def dGeI : DE → DE → DE := dBin (wI CT fun i j => .bl (decide (j ≤ i)))
@[simp] def dEqI : DE → DE → DE := dBin (wI CT fun i j => .bl (decide (i = j)))
@[simp] def dNeI : DE → DE → DE := dBin (wI CT fun i j => .bl (!decide (i = j)))
/-- two lists of ints -/
@[simp] def wL (g : List Int → List Int → Bool) : D → D → (D → Prop) → Prop := fun x y Q => ∃ xs ys : List Int, x = .lst (xs.map D.int) ∧ y = .lst (ys.map D.int) ∧ Q (.bl (g xs ys))
@[simp] def dEqL : DE → DE → DE := dBin (wL fun xs ys => decide (xs = ys))
theorem dpAll_ints {H : Hp} : ∀ ns : List Int, DpAll K H (ns.map V.int) (ns.map PyData.int)
  | [] => .nil
  | n :: ns => .cons (.int n) (dpAll_ints ns)
theorem eqvAll_ints : ∀ xs ys : List Int, PyData.eqvAll (xs.map PyData.int) (ys.map PyData.int) = decide (xs = ys)
  | [], [] => rfl
  | [], _ :: _ => rfl
  | _ :: _, [] => rfl
  | x :: xs, y :: ys => by
    rw [List.map_cons, List.map_cons, PyData.eqvAll, eqvAll_ints xs ys, PyData.eqv]
    by_cases h1 : x = y
    · subst h1
      simp
    · have h2 : ¬ (x :: xs = y :: ys) := fun z => h1 (List.cons.inj z).1
      simp [h1]
theorem lnk_eqI : Lnk K (wI CT fun i j => .bl (decide (i = j))) rEq := by
  rintro x y vx vy G H Q' Q ⟨i, j, rfl, rfl, c, q⟩ rx ry s k
  have ex : vx = .int i := rx
  have ey : vy = .int j := ry
  subst ex ey
  refine ⟨rfl, ?_⟩
  have e : decide (V.int i = V.int j) = decide (i = j) := by rw [dec_int] <;> rfl
  rw [e]
  exact k _ _ G H q (Fr.refl s) rfl
theorem lnk_neI : Lnk K (wI CT fun i j => .bl (!decide (i = j))) rNe := by
  rintro x y vx vy G H Q' Q ⟨i, j, rfl, rfl, c, q⟩ rx ry s k
  have ex : vx = .int i := rx
  have ey : vy = .int j := ry
  subst ex ey
  refine ⟨rfl, ?_⟩
  have e : decide (V.int i = V.int j) = decide (i = j) := by rw [dec_int] <;> rfl
  rw [e]
  exact k _ _ G H q (Fr.refl s) rfl
theorem shaped_ints (ns : List Int) : SeqAt.shaped (.list (ns.map PyData.int)) = true := by
  have h1 : ∀ ns : List Int, PyData.canLayAll0 (ns.map PyData.int) = true := fun ns => by
    induction ns with
    | nil => rfl
    | cons n ns ih => rw [List.map_cons, PyData.canLayAll0, ih, PyData.canLay0] <;> rfl
  have h2 : ∀ ns : List Int, PyData.depthAll (ns.map PyData.int) = 0 := fun ns => by
    induction ns with
    | nil => rfl
    | cons n ns ih => rw [List.map_cons, PyData.depthAll, ih, PyData.depth] <;> rfl
  unfold SeqAt.shaped
  rw [PyData.canLay0, h1, PyData.depth, h2] <;> rfl
theorem lnk_eqL : Lnk K (wL fun xs ys => decide (xs = ys)) (rEqD K) := by
  rintro x y vx vy G H Q' Q ⟨xs, ys, rfl, rfl, q⟩ ⟨a, vs, rfl, ha, rx⟩ ⟨b, ws, rfl, hb, ry⟩ s k
  rw [reps_ints] at rx ry
  subst rx ry
  refine ⟨_, _, .lst (SqL.of (s _ _ ha)) (dpAll_ints xs), .lst (SqL.of (s _ _ hb)) (dpAll_ints ys), shaped_ints xs, shaped_ints ys, ?_⟩
  have e : PyData.eqv (.list (xs.map PyData.int)) (.list (ys.map PyData.int)) = decide (xs = ys) := by rw [PyData.eqv, eqvAll_ints]
  rw [e]
  exact k _ _ G H q (Fr.refl s) rfl
theorem de_lt (ha : PE X a (LE X.K ta)) (hb : PE X b (LE X.K tb)) : PE X (.Compare a [.Lt] [b] pos) (LE X.K (dLtI ta tb)) := imE (pe_cmpR op_lt ha hb (nomark _)) fun _ _ _ => bin_imp (lnk_I0 (g := fun i j => .bl (decide (i < j))) fun _ _ _ => rfl)
theorem de_le (ha : PE X a (LE X.K ta)) (hb : PE X b (LE X.K tb)) : PE X (.Compare a [.LtE] [b] pos) (LE X.K (dLeI ta tb)) := imE (pe_cmpR op_le ha hb (nomark _)) fun _ _ _ => bin_imp (lnk_I0 (g := fun i j => .bl (decide (i ≤ j))) fun _ _ _ => rfl)
theorem de_gt (ha : PE X a (LE X.K ta)) (hb : PE X b (LE X.K tb)) : PE X (.Compare a [.Gt] [b] pos) (LE X.K (dGtI ta tb)) := imE (pe_cmpR op_gt ha hb (nomark _)) fun _ _ _ => bin_imp (lnk_I0 (g := fun i j => .bl (decide (j < i))) fun _ _ _ => rfl)
theorem de_ge (ha : PE X a (LE X.K ta)) (hb : PE X b (LE X.K tb)) : PE X (.Compare a [.GtE] [b] pos) (LE X.K (dGeI ta tb)) := imE (pe_cmpR op_ge ha hb (nomark _)) fun _ _ _ => bin_imp (lnk_I0 (g := fun i j => .bl (decide (j ≤ i))) fun _ _ _ => rfl)
theorem de_eq (ha : PE X a (LE X.K ta)) (hb : PE X b (LE X.K tb)) : PE X (.Compare a [.Eq] [b] pos) (LE X.K (dEqI ta tb)) := imE (pe_cmpR op_eq ha hb (nomark _)) fun _ _ _ => bin_imp lnk_eqI
theorem de_ne (ha : PE X a (LE X.K ta)) (hb : PE X b (LE X.K tb)) : PE X (.Compare a [.NotEq] [b] pos) (LE X.K (dNeI ta tb)) := imE (pe_cmpR op_ne ha hb (nomark _)) fun _ _ _ => bin_imp lnk_neI
theorem de_eqL {n : Nat} (hr : Room n X.A) (ha : PE X a (LE X.K ta)) (hb : PE X b (LE X.K tb)) : PE X (.Compare a [.Eq] [b] pos) (LE X.K (dEqL ta tb)) := imE (pe_cmpR (op_eqD hr.units) ha hb (nomark _)) fun _ _ _ => bin_imp lnk_eqL
/-! tests -/
/-- a truth value -/
def wB (x : D) (Q : Bool → Prop) : Prop := ∃ c, x = .bl c ∧ Q c
@[simp] theorem wB_bl {b : Bool} {Q : Bool → Prop} : wB (.bl b) Q ↔ Q b := ⟨fun ⟨c, h, q⟩ => by cases h; exact q, fun q => ⟨b, rfl, q⟩⟩
@[simp] def dB (t : DE) : DT := fun env Q => t env fun x => wB x Q
theorem t_imp {t : DE} {σ : L2.St} {H : Hp} {Q : Bool → Hp → Prop} (h : LT K (dB t) σ H Q) : LE K t σ H fun x H' => ∃ k, x = .bl k ∧ Q k H' := by
  obtain ⟨G0, H0, G, env, Q', R, q, k⟩ := h
  obtain ⟨G1, s1, R1⟩ := R.opn
  refine ⟨G0, H0, G1, opn env, _, R1, q, ?_⟩
  rintro d v G' H' ⟨c, rfl, q1⟩ f r
  exact ⟨c, r, k c H' q1 f.h⟩
theorem tt_lt (ha : PE X a (LE X.K ta)) (hb : PE X b (LE X.K tb)) : PT X (.Compare a [.Lt] [b] pos) (LT X.K (dB (dLtI ta tb))) := imT (pt_cmpR op_lt ha hb (nomark _)) fun _ _ _ h => bin_imp (lnk_I0 (g := fun i j => .bl (decide (i < j))) fun _ _ _ => rfl) (t_imp h)
theorem tt_le (ha : PE X a (LE X.K ta)) (hb : PE X b (LE X.K tb)) : PT X (.Compare a [.LtE] [b] pos) (LT X.K (dB (dLeI ta tb))) := imT (pt_cmpR op_le ha hb (nomark _)) fun _ _ _ h => bin_imp (lnk_I0 (g := fun i j => .bl (decide (i ≤ j))) fun _ _ _ => rfl) (t_imp h)
theorem tt_gt (ha : PE X a (LE X.K ta)) (hb : PE X b (LE X.K tb)) : PT X (.Compare a [.Gt] [b] pos) (LT X.K (dB (dGtI ta tb))) := imT (pt_cmpR op_gt ha hb (nomark _)) fun _ _ _ h => bin_imp (lnk_I0 (g := fun i j => .bl (decide (j < i))) fun _ _ _ => rfl) (t_imp h)
theorem tt_ge (ha : PE X a (LE X.K ta)) (hb : PE X b (LE X.K tb)) : PT X (.Compare a [.GtE] [b] pos) (LT X.K (dB (dGeI ta tb))) := imT (pt_cmpR op_ge ha hb (nomark _)) fun _ _ _ h => bin_imp (lnk_I0 (g := fun i j => .bl (decide (j ≤ i))) fun _ _ _ => rfl) (t_imp h)
theorem tt_eq (ha : PE X a (LE X.K ta)) (hb : PE X b (LE X.K tb)) : PT X (.Compare a [.Eq] [b] pos) (LT X.K (dB (dEqI ta tb))) := imT (pt_cmpR op_eq ha hb (nomark _)) fun _ _ _ h => bin_imp lnk_eqI (t_imp h)
theorem tt_ne (ha : PE X a (LE X.K ta)) (hb : PE X b (LE X.K tb)) : PT X (.Compare a [.NotEq] [b] pos) (LT X.K (dB (dNeI ta tb))) := imT (pt_cmpR op_ne ha hb (nomark _)) fun _ _ _ h => bin_imp lnk_neI (t_imp h)
theorem tt_eqL {n : Nat} (hr : Room n X.A) (ha : PE X a (LE X.K ta)) (hb : PE X b (LE X.K tb)) : PT X (.Compare a [.Eq] [b] pos) (LT X.K (dB (dEqL ta tb))) := imT (pt_cmpR (op_eqD hr.units) ha hb (nomark _)) fun _ _ _ h => bin_imp lnk_eqL (t_imp h)
theorem tt_val {t : DE} (h : PE X e (LE X.K t)) (he : ∀ whole, isTrue e X.env whole = (do let v ← whole; standAt e.pos; holding [v] (truthy v)) := by intro _; rfl) : PT X e (LT X.K (dB t)) := imT (pt_val h he) fun _ _ _ h => t_imp h
variable {rest : List Expr} {t u : DT}
@[simp] def dAndT (t u : DT) : DT := fun env Q => t env fun c => if c = true then u env Q else Q false
@[simp] def dOrT (t u : DT) : DT := fun env Q => t env fun c => if c = true then Q true else u env Q
@[simp] def dNotT (t : DT) : DT := fun env Q => t env fun c => Q (!c)
theorem tw_and1 (ha : PT X a (LT X.K t)) : PW X (.BoolOp .And [a] pos) (LT X.K t) := pw_and1 ha
theorem tw_or1 (ha : PT X a (LT X.K t)) : PW X (.BoolOp .Or [a] pos) (LT X.K t) := pw_or1 ha
theorem tw_and (ha : PT X a (LT X.K t)) (hb : PW X (.BoolOp .And (b :: rest) pos) (LT X.K u)) : PW X (.BoolOp .And (a :: b :: rest) pos) (LT X.K (dAndT t u)) := by
  refine imW (pw_and ha hb) ?_
  rintro σ H Q ⟨G0, H0, G, env, Q', R, q, k⟩
  refine ⟨G0, H0, G, env, _, R, q, fun c H1 q1 s1 => ?_⟩
  cases c with
  | true => exact iteT ⟨G0, H0, G, env, Q', R.stay s1, q1, fun c2 H2 q2 s2 => k c2 H2 q2 (s1.trans s2)⟩
  | false => exact iteF (k false H1 q1 s1)
theorem tw_or (ha : PT X a (LT X.K t)) (hb : PW X (.BoolOp .Or (b :: rest) pos) (LT X.K u)) : PW X (.BoolOp .Or (a :: b :: rest) pos) (LT X.K (dOrT t u)) := by
  refine imW (pw_or ha hb) ?_
  rintro σ H Q ⟨G0, H0, G, env, Q', R, q, k⟩
  refine ⟨G0, H0, G, env, _, R, q, fun c H1 q1 s1 => ?_⟩
  cases c with
  | false => exact iteF ⟨G0, H0, G, env, Q', R.stay s1, q1, fun c2 H2 q2 s2 => k c2 H2 q2 (s1.trans s2)⟩
  | true => exact iteT (k true H1 q1 s1)
theorem tt_not (ha : PT X a (LT X.K t)) : PT X (.UnaryOp .Not a pos) (LT X.K (dNotT t)) := by
  refine imT (pt_not ha) ?_
  rintro σ H Q ⟨G0, H0, G, env, Q', R, q, k⟩
  exact ⟨G0, H0, G, env, _, R, q, fun c H1 q1 s1 => k _ H1 q1 s1⟩
theorem tt_w (h : PW X e (LT X.K t)) : PT X e (LT X.K t) := h.pt
/-! and, or of bools as values; a if t else b -/
@[simp] def dAndV (ta tb : DE) : DE := fun env Q => ta env fun x => wB x fun c => if c = true then tb env Q else Q (.bl false)
@[simp] def dOrV (ta tb : DE) : DE := fun env Q => ta env fun x => wB x fun c => if c = true then Q (.bl true) else tb env Q
theorem de_one {op} {t : DE} (h : PE X a (LE X.K t)) : PE X (.BoolOp op [a] pos) (LE X.K t) := pe_one h
theorem de_andV (ha : PE X a (LE X.K ta)) (hb : PE X (.BoolOp .And (b :: rest) pos) (LE X.K tb)) : PE X (.BoolOp .And (a :: b :: rest) pos) (LE X.K (dAndV ta tb)) := by
  refine imE (pe_and ha hb) ?_
  rintro σ H Q ⟨G0, H0, G, env, Q', R, q, k⟩
  refine ⟨G0, H0, G, env, _, R, q, ?_⟩
  rintro d v G1 H1 ⟨c, rfl, q1⟩ f1 r1
  refine ⟨c, r1, ?_⟩
  cases c with
  | true => exact iteT ⟨G0, H0, G1, env, Q', R.step f1, q1, fun d2 v2 G2 H2 q2 f2 r2 => k d2 v2 G2 H2 q2 (f1.trans f2) r2⟩
  | false => exact iteF (k _ _ G1 H1 q1 f1 rfl)
theorem de_orV (ha : PE X a (LE X.K ta)) (hb : PE X (.BoolOp .Or (b :: rest) pos) (LE X.K tb)) : PE X (.BoolOp .Or (a :: b :: rest) pos) (LE X.K (dOrV ta tb)) := by
  refine imE (pe_or ha hb) ?_
  rintro σ H Q ⟨G0, H0, G, env, Q', R, q, k⟩
  refine ⟨G0, H0, G, env, _, R, q, ?_⟩
  rintro d v G1 H1 ⟨c, rfl, q1⟩ f1 r1
  refine ⟨c, r1, ?_⟩
  cases c with
  | false => exact iteF ⟨G0, H0, G1, env, Q', R.step f1, q1, fun d2 v2 G2 H2 q2 f2 r2 => k d2 v2 G2 H2 q2 (f1.trans f2) r2⟩
  | true => exact iteT (k _ _ G1 H1 q1 f1 rfl)
@[simp] def dIf (t : DT) (ta tb : DE) : DE := fun env Q => t (opn env) fun c => if c = true then ta env Q else tb env Q
theorem de_if {c : Expr} (hc : PT X c (LT X.K t)) (ha : PE X a (LE X.K ta)) (hb : PE X b (LE X.K tb)) : PE X (.IfExp c a b pos) (LE X.K (dIf t ta tb)) := by
  refine imE (pe_ifExp hc ha hb) ?_
  rintro σ H Q ⟨G0, H0, G, env, Q', R, q, k⟩
  refine ⟨G0, H0, G, env, _, R, q, fun c H1 q1 s1 => ?_⟩
  have f1 := Fr.loosen R.fr.gh s1
  cases c with
  | true => exact iteT ⟨G0, H0, G, env, Q', R.stay s1, q1, fun d2 v2 G2 H2 q2 f2 r2 => k d2 v2 G2 H2 q2 (f1.trans f2) r2⟩
  | false => exact iteF ⟨G0, H0, G, env, Q', R.stay s1, q1, fun d2 v2 G2 H2 q2 f2 r2 => k d2 v2 G2 H2 q2 (f1.trans f2) r2⟩
end

/-! ### lists and tuples -/
def D.items : D → Option (List D)
  | .lst ds => some ds
  | .tup ds => some ds
  | .sql ds => some ds
  | _ => none
def D.litems : D → Option (List D)
  | .lst ds => some ds
  | .sql ds => some ds
  | _ => none
@[simp] theorem items_lst {ds : List D} : (D.lst ds).items = some ds := rfl
@[simp] theorem items_tup {ds : List D} : (D.tup ds).items = some ds := rfl
@[simp] theorem items_sql {ds : List D} : (D.sql ds).items = some ds := rfl
@[simp] theorem litems_lst {ds : List D} : (D.lst ds).litems = some ds := rfl
@[simp] theorem litems_sql {ds : List D} : (D.sql ds).litems = some ds := rfl
section
variable {X : Cx} {K : PySem.W.Frag} {G H : Hp} {a b e : Expr} {es : List Expr} {ta tb : DE} {ts : DA} {pos : Pos}
theorem rep_items {x : D} {v : V} {ds : List D} (e : x.items = some ds) (r : Rep K G x v) : ∃ p vs, v = .ref p ∧ (SqL K G p vs ∨ SqT K G p vs) ∧ Reps K G ds vs := by
  cases x with
  | lst es =>
    cases e
    obtain ⟨p, vs, h1, h2, h3⟩ := r
    exact ⟨p, vs, h1, .inl (SqL.of h2), h3⟩
  | tup es =>
    cases e
    obtain ⟨p, vs, h1, h2, h3⟩ := r
    exact ⟨p, vs, h1, .inr h2, h3⟩
  | sql es =>
    cases e
    obtain ⟨p, vs, h1, h2, h3⟩ := r
    exact ⟨p, vs, h1, .inl h2, h3⟩
  | _ => cases e
theorem rep_litems {x : D} {v : V} {ds : List D} (e : x.litems = some ds) (r : Rep K G x v) : ∃ p vs, v = .ref p ∧ SqL K G p vs ∧ Reps K G ds vs := by
  cases x with
  | lst es =>
    cases e
    obtain ⟨p, vs, h1, h2, h3⟩ := r
    exact ⟨p, vs, h1, SqL.of h2, h3⟩
  | sql es =>
    cases e
    obtain ⟨p, vs, h1, h2, h3⟩ := r
    exact ⟨p, vs, h1, h2, h3⟩
  | _ => cases e
@[simp] def wIx : D → D → (D → Prop) → Prop := fun x y Q => ∃ ds i d, x.items = some ds ∧ y = .int i ∧ 0 ≤ i ∧ ds[i.toNat]? = some d ∧ Q d
@[simp] def dIx : DE → DE → DE := dBin wIx
theorem lnk_ix : Lnk K wIx (rIx K) := by
  rintro x y vx vy G H Q' Q ⟨ds, i, d, e, rfl, h0, hd, q⟩ rx ry s k
  obtain ⟨p, vs, rfl, hs, hr⟩ := rep_items e rx
  obtain ⟨v, hv, r⟩ := hr.get hd
  have ei : i = ((i.toNat : Nat) : Int) := by omega
  have ha : atI vs i = some v := by
    rw [ei]
    exact atI_nat hv
  have z := k d v G H q (Fr.refl s) r
  have ey : vy = .int i := ry
  rcases hs with hs | hs
  · exact .inl ⟨p, vs, i, v, rfl, ey, s.seq hs, ha, z⟩
  · exact .inr (.inl ⟨p, vs, i, v, rfl, ey, Same.seqT s hs, ha, z⟩)
theorem de_ix (ha : PE X a (LE X.K ta)) (hb : PE X b (LE X.K tb)) (hs : PlainIx b := by exact fun _ _ => rfl) : PE X (.Subscript a b pos) (LE X.K (dIx ta tb)) := imE (pe_ix ix_seq ha hb hs) fun _ _ _ => bin_imp lnk_ix
/-! arguments -/
@[simp] def dNil : DA := fun _ Q => Q []
@[simp] def dCons (ta : DE) (ts : DA) : DA := fun env Q => ta env fun x => ts env fun xs => Q (x :: xs)
theorem da_nil : PA X [] (LA X.K dNil) := imA pa_nil fun σ H Q ⟨G0, H0, G, env, Q', R, q, k⟩ => k [] [] G H q (Fr.refl R.fr.gh) Reps.nil
theorem da_cons (ha : PE X e (LE X.K ta)) (hr : PA X es (LA X.K ts)) (hs : starEach (e :: es) X.env = (false, eval e X.env) :: starEach es X.env := by rfl) : PA X (e :: es) (LA X.K (dCons ta ts)) := by
  refine imA (pa_cons ha hr hs) ?_
  rintro σ H Q ⟨G0, H0, G, env, Q', R, q, k⟩
  refine ⟨G0, H0, G, env, _, R, q, fun d v G1 H1 q1 f1 r1 => ⟨G0, H0, G1, env, _, R.step f1, q1, fun ds vs G2 H2 q2 f2 r2 => ?_⟩⟩
  exact k _ _ G2 H2 q2 (f1.trans f2) (Reps.cons (Rep.mono f2.g _ _ r1) r2)
/-! displays -/
@[simp] def dDisp (ts : DA) : DA := fun env Q => ts env fun ds => ds.length ≤ 16777216 ∧ Q ds
@[simp] def dTup (ts : DA) : DE := fun env Q => ts env fun ds => ds.length ≤ 16777216 ∧ Q (.tup ds)
theorem de_lst (h : PA X es (LA X.K ts)) : PE X (.List es pos) (LF X.K (dDisp ts)) := by
  refine imE (pe_lst h) ?_
  rintro σ H Q ⟨G0, H0, G, env, Q', R, q, k⟩
  refine ⟨G0, H0, G, env, _, R, q, fun ds vs G1 H1 q1 f1 r1 => ⟨?_, fun p hp => ?_⟩⟩
  · rw [sizeLine_eq, ← r1.len]
    exact q1.1
  · exact k ds p vs G1 _ q1.2 (f1.trans (Fr.loose f1.gh hp)) (f1.h.free hp) (f1.gh.free hp) upd_same r1
theorem de_tup {x1} (h : PA X es (LA X.K ts)) : PE X (.Tuple es x1 pos) (LE X.K (dTup ts)) := by
  refine imE (pe_tup h) ?_
  rintro σ H Q ⟨G0, H0, G, env, Q', R, q, k⟩
  refine ⟨G0, H0, G, env, _, R, q, fun ds vs G1 H1 q1 f1 r1 => ⟨?_, fun p hp => ?_⟩⟩
  · rw [sizeLine_eq, ← r1.len]
    exact q1.1
  · have f2 : Fr G1 H1 (upd G1 p (.tup vs)) (upd H1 p (.tup vs)) := Fr.laid f1.gh hp
    exact k _ _ _ _ q1.2 (f1.trans f2) ⟨p, vs, rfl, SqT.of upd_same, Reps.mono f2.g _ _ r1⟩
/-! list + list, list(x), slices -/
@[simp] def wCat : D → D → (List D → Prop) → Prop := fun x y Q => ∃ ds es, x = .lst ds ∧ y = .lst es ∧ ds.length + es.length ≤ 16777216 ∧ Q (ds ++ es)
@[simp] def dCat : DE → DE → DA := dBinF wCat
theorem lnk_cat : LnkF K wCat rCat := by
  rintro x y vx vy G H Q' Q ⟨ds, es, rfl, rfl, z, q⟩ ⟨p, vs, rfl, h1, r1⟩ ⟨p2, ws, rfl, h2, r2⟩ s k
  refine ⟨p, p2, vs, ws, rfl, rfl, s _ _ h1, s _ _ h2, ?_, fun l hl => ?_⟩
  · rw [sizeLine_eq, ← r1.len, ← r2.len]
    exact z
  · exact k _ l _ G _ q (Fr.loose s hl) hl (s.free hl) upd_same (r1.app r2)
theorem de_cat (ha : PE X a (LE X.K ta)) (hb : PE X b (LE X.K tb)) : PE X (.BinOp a .Add b pos) (LF X.K (dCat ta tb)) := imE (pe_op op_cat ha hb) fun _ _ _ => binF_imp lnk_cat
@[simp] def dPart (ta : DE) : Env' → (Option Int → Prop) → Prop := fun env Q => ta env fun x => ∃ i, x = .int i ∧ Q (some i)
@[simp] def dNoPart : Env' → (Option Int → Prop) → Prop := fun _ Q => Q none
theorem do_none : PO X none (LO X.K dNoPart) := imO po_none fun σ H Q ⟨G0, H0, G, env, Q', R, q, k⟩ => k none G H q (Fr.refl R.fr.gh)
theorem do_some (ha : PE X a (LE X.K ta)) : PO X (some a) (LO X.K (dPart ta)) := by
  refine imO (po_some ha) ?_
  rintro σ H Q ⟨G0, H0, G, env, Q', R, q, k⟩
  refine ⟨G0, H0, G, env, _, R, q, ?_⟩
  rintro d v G1 H1 ⟨i, rfl, q1⟩ f1 r1
  exact ⟨i, r1, k _ G1 H1 q1 f1⟩
@[simp] def dSl (ta : DE) (lo hi : Env' → (Option Int → Prop) → Prop) : DA := fun env Q => ta env fun x => lo env fun l => hi env fun h => ∃ ds, x.litems = some ds ∧ Q (cutD ds l h)
theorem de_sl {lo hi : Option Expr} {tl th} {p2 : Pos} (ha : PE X a (LE X.K ta)) (hl : PO X lo (LO X.K tl)) (hh : PO X hi (LO X.K th)) : PE X (.Subscript a (.Slice lo hi none p2) pos) (LF X.K (dSl ta tl th)) := by
  refine imE (pe_slice sl_list ha hl hh) ?_
  rintro σ H Q ⟨G0, H0, G, env, Q', R, q, k⟩
  refine ⟨G0, H0, G, env, _, R, q, fun d v G1 H1 q1 f1 r1 => ⟨G0, H0, G1, env, _, R.step f1, q1, fun l G2 H2 q2 f2 => ⟨G0, H0, G2, env, _, (R.step f1).step f2, q2, ?_⟩⟩⟩
  rintro h G3 H3 ⟨ds, e3, q3⟩ f3
  have f23 := f2.trans f3
  obtain ⟨p, vs, rfl, hs, hr⟩ := rep_litems e3 (Rep.mono f23.g _ _ r1)
  refine ⟨p, vs, rfl, f3.gh.seq hs, fun l' hl' => ?_⟩
  have f := f1.trans f23
  exact k _ l' _ G3 _ q3 (f.trans (Fr.loose f3.gh hl')) (f.h.free hl') (f3.gh.free hl') upd_same (hr.cut _ _)
/-! len, ord, list -/
@[simp] def dLen (ta : DE) : DE := dUn (fun x Q => ∃ ds, x.items = some ds ∧ Q (.int ds.length)) ta
@[simp] def dOrd (ta : DE) : DE := dUn (fun x Q => ∃ z, x = .str z ∧ z.length = 1 ∧ Q (.int (z.cps.getD 0 0 : Nat))) ta
@[simp] def dList (ta : DE) : DA := fun env Q => ta env fun x => ∃ ds, x.items = some ds ∧ Q ds
variable {p : Pos}
theorem de_len (hm : X.mg "len" = none) (ha : PE X a (LE X.K ta)) (hg : Gl X "len" := by rfl) (he : starEach [a] X.env = (false, eval a X.env) :: starEach [] X.env := by rfl) (hpl : (backTo pos (starEach [] X.env)).any (·.1) = false := by rfl) : PE X (.Call (.Name "len" p) [a] [] pos) (LE X.K (dLen ta)) := by
  refine imE (pe_callB call_len_seq hg hm PySem.boot_len (pa_cons ha pa_nil he) (by decide) (by decide) he hpl) ?_
  rintro σ H Q ⟨G0, H0, G, env, Q', R, q, k⟩
  refine ⟨G0, H0, G, env, _, R, q, ?_⟩
  rintro d v G1 H1 ⟨ds, e, q1⟩ f1 r1
  obtain ⟨p, vs, rfl, hs, hr⟩ := rep_items e r1
  refine ⟨p, vs, rfl, hs.imp f1.gh.seq (Same.seqT f1.gh), ?_⟩
  rw [← hr.len]
  exact k _ _ G1 H1 q1 f1 rfl
theorem de_ord (hm : X.mg "ord" = none) (ha : PE X a (LE X.K ta)) (hg : Gl X "ord" := by rfl) (he : starEach [a] X.env = (false, eval a X.env) :: starEach [] X.env := by rfl) (hpl : (backTo pos (starEach [] X.env)).any (·.1) = false := by rfl) : PE X (.Call (.Name "ord" p) [a] [] pos) (LE X.K (dOrd ta)) := by
  refine imE (pe_callB call_ord hg hm (by decide +kernel) (pa_cons ha pa_nil he) (by decide) (by decide) he hpl) ?_
  rintro σ H Q ⟨G0, H0, G, env, Q', R, q, k⟩
  refine ⟨G0, H0, G, env, _, R, q, ?_⟩
  rintro d v G1 H1 ⟨z, rfl, hz, q1⟩ f1 r1
  have ev : v = .str z := r1
  subst ev
  exact ⟨z, rfl, hz, k _ _ G1 H1 q1 f1 rfl⟩
theorem de_list (hm : X.mg "list" = none) (ha : PE X a (LE X.K ta)) (hg : Gl X "list" := by rfl) (he : starEach [a] X.env = (false, eval a X.env) :: starEach [] X.env := by rfl) (hpl : (backTo pos (starEach [] X.env)).any (·.1) = false := by rfl) : PE X (.Call (.Name "list" p) [a] [] pos) (LF X.K (dList ta)) := by
  refine imE (pe_callTy call_list_of hg hm (by decide +kernel) (pa_cons ha pa_nil he) (by decide) (by decide) he hpl) ?_
  rintro σ H Q ⟨G0, H0, G, env, Q', R, q, k⟩
  refine ⟨G0, H0, G, env, _, R, q, ?_⟩
  rintro d v G1 H1 ⟨ds, e, q1⟩ f1 r1
  obtain ⟨p, vs, rfl, hs, hr⟩ := rep_items e r1
  refine ⟨p, vs, rfl, hs.imp f1.gh.seq (Same.seqT f1.gh), fun l hl => ?_⟩
  exact k _ l _ G1 _ q1 (f1.trans (Fr.loose f1.gh hl)) (f1.h.free hl) (f1.gh.free hl) upd_same hr
/-! x in a tuple of ints -/
@[simp] def wIn : D → D → (D → Prop) → Prop := fun x y Q => ∃ (i : Int) (ns : List Int), x = .int i ∧ y = .tup (ns.map D.int) ∧ Q (.bl (ns.any (· == i)))
theorem lnk_in : Lnk K wIn (rIn K false) := by
  rintro x y vx vy G H Q' Q ⟨i, ns, rfl, rfl, q⟩ rx ⟨p, vs, rfl, h1, r1⟩ s k
  rw [reps_ints] at r1
  subst r1
  have ex : vx = .int i := rx
  subst ex
  have e1 : (ns.map V.int).all flatV = true := by
    rw [List.all_map]
    exact List.all_eq_true.mpr fun _ _ => rfl
  have e2 : inV (.int i) (ns.map V.int) = ns.any (· == i) := by
    unfold inV
    rw [List.any_map] <;> rfl
  refine ⟨p, _, rfl, .inr (Same.seqT s h1), rfl, e1, ?_⟩
  show Q (.bl (if false = true then _ else inV (.int i) (ns.map V.int))) H
  rw [if_neg Bool.false_ne_true, e2]
  exact k _ _ G H q (Fr.refl s) rfl
theorem tt_in (ha : PE X a (LE X.K ta)) (hb : PE X b (LE X.K tb)) (hm : behindInMarks .In b = false := by rfl) : PT X (.Compare a [.In] [b] pos) (LT X.K (dB (dBin wIn ta tb))) := imT (pt_cmpR op_in_seq ha hb hm) fun _ _ _ h => bin_imp lnk_in (t_imp h)
end

/-! ### attributes -/
theorem lookup_zip : ∀ {ns : List Str} {vs : List V} {j : Nat} {f : Str} {v : V}, ns.Nodup → ns[j]? = some f → vs[j]? = some v → (ns.zip vs).lookup f = some v
  | [], _, _, _, _, _, h, _ => by simp at h
  | _ :: _, [], _, _, _, _, _, h => by simp at h
  | n :: ns, w :: vs, 0, f, v, nd, h1, h2 => by
    simp at h1 h2
    subst h1 h2
    show List.lookup n ((n, w) :: ns.zip vs) = _
    simp [List.lookup]
  | n :: ns, w :: vs, j + 1, f, v, nd, h1, h2 => by
    have h1' : ns[j]? = some f := by simpa using h1
    have ne : (f == n) = false := beq_eq_false_iff_ne.mpr fun z => (List.nodup_cons.mp nd).1 (by rw [← z]; exact List.mem_of_getElem? h1')
    show List.lookup f ((n, w) :: ns.zip vs) = _
    simp only [List.lookup, ne]
    exact lookup_zip (List.nodup_cons.mp nd).2 h1' (by simpa using h2)
@[simp] def dFld (t : Bool) (j : Nat) (ta : DE) : DE := dUn (fun x Q => ∃ ds d, x = .ins t ds ∧ ds[j]? = some d ∧ Q d) ta
/-- what of the classes is known -/
structure ClsT (K : PySem.W.Frag) : Prop where
  cl : ∀ t, Cls K (cA K t)
  no : ∀ t f, f ∈ cF t → NoAttr K (cA K t) f
theorem cF_nd (t : Bool) : (cF t).Nodup := by cases t <;> decide +kernel
section
variable {X : Cx} {e : Expr} {ta : DE} {pos : Pos} {f : Str}
theorem de_fld (T : ClsT X.K) (t : Bool) (j : Nat) (ha : PE X e (LE X.K ta)) (hf : (cF t)[j]? = some f := by rfl) (hb : attributeBase e f X.env (eval e X.env) = eval e X.env := by rfl) : PE X (.Attribute e f pos) (LE X.K (dFld t j ta)) := by
  refine imE (pe_fld ha hb) ?_
  rintro σ H Q ⟨G0, H0, G, env, Q', R, q, k⟩
  refine ⟨G0, H0, G, env, _, R, q, ?_⟩
  rintro d v G1 H1 ⟨ds, d2, rfl, e2, q1⟩ f1 ⟨p, dx, vs, rfl, h1, r1⟩
  obtain ⟨w, hw, rw'⟩ := r1.get e2
  exact ⟨p, cA X.K t, dx, _, w, rfl, f1.gh _ _ h1, T.cl t, T.no t f (List.mem_of_getElem? hf), lookup_zip (cF_nd t) hf hw, k d2 w G1 H1 q1 f1 rw'⟩
end
end PW
set_option Elab.async false
set_option linter.all false
set_option maxRecDepth 100000
set_option maxHeartbeats 2000000
namespace PW
open PySem PySem.Spec PyProof.Rows L2

/-! ### what is walked -/
def ItD (K : PySem.W.Frag) (J : It) (G : Hp) (ds : List D) : Prop := Walk J ds.length (fun H => Same G H) (fun i H x H' => H' = H ∧ ∃ d, ds[i]? = some d ∧ Rep K G d x)
def LI (K : PySem.W.Frag) (t : DA) : TI := fun σ H R => ∃ G0 H0 G env Q', Rel K G0 H0 G H env σ ∧ t env Q' ∧ ∀ ds J G' H', Q' ds → Fr G H G' H' → ItD K J G' ds → R J H'
theorem imI {X : Cx} {tg e : Expr} {t t' : TI} (h : PI X tg e t) (i : ∀ σ H R, t' σ H R → t σ H R) : PI X tg e t' := ⟨fun pins s σ H R I q => h.run pins s σ H R I (i σ H R q)⟩
@[simp] def dItL (ta : DE) : DA := fun env Q => ta env fun x => ∃ ds, x.litems = some ds ∧ Q ds
@[simp] def dItT (ta : DE) : DA := fun env Q => ta env fun x => ∃ ds, x = .tup ds ∧ Q ds
@[simp] def dItR (ta : DE) : DA := fun env Q => ta env fun x => ∃ j, x = .int j ∧ j < 4611686018427387904 ∧ -4611686018427387904 ≤ j ∧ Q ((List.range j.toNat).map fun (k : Nat) => .int (k : Int))
@[simp] def dItS (ta : DE) : DA := fun env Q => ta env fun x => ∃ z, x = .str z ∧ Q (z.cps.toList.map fun c => .str ⟨#[c]⟩)
section
variable {X : Cx} {K : PySem.W.Frag} {tg a : Expr} {ta : DE} {p pos : Pos}
theorem di_list (ha : PE X a (LE X.K ta)) : PI X tg a (LI X.K (dItL ta)) := by
  refine imI (pi_list ha) ?_
  rintro σ H R ⟨G0, H0, G, env, Q', Rl, q, k⟩
  refine ⟨G0, H0, G, env, _, Rl, q, ?_⟩
  rintro d v G1 H1 ⟨ds, e, q1⟩ f1 r1
  obtain ⟨p, vs, rfl, hs, hr⟩ := rep_litems e r1
  refine ⟨p, rfl, ⟨vs, f1.gh.seq hs⟩, k ds _ G1 H1 q1 f1 ?_⟩
  unfold ItD
  rw [hr.len]
  refine walk_list.mono (fun H s => s.seq hs) fun i H x H' _ _ y => ⟨y.1, hr.get' y.2⟩
theorem di_tup (ha : PE X a (LE X.K ta)) : PI X tg a (LI X.K (dItT ta)) := by
  refine imI (pi_tup ha) ?_
  rintro σ H R ⟨G0, H0, G, env, Q', Rl, q, k⟩
  refine ⟨G0, H0, G, env, _, Rl, q, ?_⟩
  rintro d v G1 H1 ⟨ds, rfl, q1⟩ f1 ⟨p, vs, rfl, hs, hr⟩
  refine ⟨p, rfl, ⟨vs, Same.seqT f1.gh hs⟩, k ds _ G1 H1 q1 f1 ?_⟩
  unfold ItD
  rw [hr.len]
  refine walk_tup.mono (fun H s => Same.seqT s hs) fun i H x H' _ _ y => ⟨y.1, hr.get' y.2⟩
theorem di_range (hm : X.mg "range" = none) (ha : PE X a (LE X.K ta)) (hg : Gl X "range" := by rfl) (hs : starEach [a] X.env = [(false, eval a X.env)] := by rfl) : PI X tg (.Call (.Name "range" p) [a] [] pos) (LI X.K (dItR ta)) := by
  refine imI (pi_range1 hg hm (pa_cons ha pa_nil hs) hs) ?_
  rintro σ H R ⟨G0, H0, G, env, Q', Rl, q, k⟩
  refine ⟨G0, H0, G, env, _, Rl, q, ?_⟩
  rintro d v G1 H1 ⟨j, rfl, h1, h2, q1⟩ f1 r1
  have ev : v = .int j := r1
  subst ev
  refine ⟨j, rfl, by omega, by omega, k _ _ G1 H1 q1 f1 ?_⟩
  unfold ItD
  rw [List.length_map, List.length_range]
  refine walk_range.mono (fun _ _ => trivial) fun i H x H' hi _ y => ⟨y.1, .int (i : Int), ?_, ?_⟩
  · rw [List.getElem?_map, List.getElem?_range hi] <;> rfl
  · rw [y.2]
    show V.int (0 + (i : Int)) = V.int (i : Int)
    rw [Int.zero_add]
theorem di_str (ha : PE X a (LE X.K ta)) : PI X tg a (LI X.K (dItS ta)) := by
  refine imI (pi_str ha) ?_
  rintro σ H R ⟨G0, H0, G, env, Q', Rl, q, k⟩
  refine ⟨G0, H0, G, env, _, Rl, q, ?_⟩
  rintro d v G1 H1 ⟨z, rfl, q1⟩ f1 r1
  have ev : v = .str z := r1
  subst ev
  refine ⟨z, rfl, k _ _ G1 H1 q1 f1 ?_⟩
  unfold ItD
  rw [List.length_map, Array.length_toList]
  refine walk_str.mono (fun _ _ => trivial) fun i H x H' hi _ y => ⟨y.1, ?_⟩
  obtain ⟨c, e1, rfl⟩ := y.2
  exact ⟨.str ⟨#[c]⟩, by rw [List.getElem?_map, Array.getElem?_toList, e1] <;> rfl, rfl⟩
end

/-! ### list comprehensions -/
def lcD (i : Nat) (t : DT) (e : DE) : List D → List D → Env' → (List D → Prop) → Prop
  | [], acc, _, Q => Q acc
  | d :: ds, acc, env, Q => t (opn (env.set i (.val d))) fun b => if b = true then e (env.set i (.val d)) fun y => lcD i t e ds (acc ++ [y]) env Q else lcD i t e ds acc env Q
@[simp] def dLc (i : Nat) (ti : DA) (t : DT) (e : DE) : DA := fun env Q => ti env fun ds => ds.length ≤ 16777216 ∧ lcD i t e ds [] env Q
@[simp] def dYes : DT := fun _ Q => Q true
theorem tts_nil {X : Cx} : PTs X [] (LT X.K dYes) := ⟨fun pins s σ H Q I ⟨G0, H0, G, env, Q', R, q, k⟩ => pts_nil.run pins s σ H Q I (k true H q (Same.refl H))⟩
theorem tts_one {X : Cx} {c : Expr} {t : DT} (h : PT X c (LT X.K t)) : PTs X [c] (LT X.K t) := pts_one h
section
variable {X : Cx} {K : PySem.W.Frag}
theorem lc_imp {i : Nat} {ti : DA} {t : DT} {e : DE} {σ : L2.St} {H : Hp} {Q : VK} (h : LF K (dLc i ti t e) σ H Q) : tLc (LI K ti) (gName i) (LT K t) (LE K e) [i] σ H Q := by
  obtain ⟨G0, H0, G, env, Q', R, q, k⟩ := h
  refine ⟨G0, H0, G, env, _, R, q, ?_⟩
  rintro ds J G1 H1 ⟨hz, q1⟩ f1 it L hL
  have hHL : H L = none := f1.h.free hL
  have hGL : G L = none := R.fr.gh.free hHL
  have hGL1 : G1 L = none := f1.gh.free hL
  refine lc_it it (fun n Hc => ∃ acc vs Gc, Fr G H Gc Hc ∧ Same G1 Gc ∧ Gc L = none ∧ Hc L = some (.lst vs) ∧ Reps K Gc acc vs ∧ acc.length ≤ n ∧ lcD i t e (ds.drop n) acc env Q') ?_ ?_ ?_ ?_
  · exact ⟨[], [], G1, f1.trans (Fr.loose f1.gh hL), Same.refl _, hGL1, upd_same, Reps.nil, Nat.le_refl _, q1⟩
  · rintro n Hc hn ⟨acc, vs, Gc, fc, sc, _⟩
    exact sc.trans fc.gh
  · rintro n x Hc H' hn ⟨acc, vs, Gc, fc, sc, gL, hcL, rA, hl, hq⟩ ⟨rfl, d, ed, rd⟩
    have ed2 : ds.drop n = d :: ds.drop (n + 1) := by
      obtain ⟨h1, h2⟩ := List.getElem?_eq_some_iff.mp ed
      rw [List.drop_eq_getElem_cons h1, h2]
    rw [ed2] at hq
    have Rc : Rel K G0 H0 Gc H' env σ := R.step fc
    have R2 : Rel K G0 H0 Gc H' (env.set i (.val d)) ((wipe σ [i]).set i (some x)) := by
      have z := (Rc.setN (i := i) (s := .un) (o := none) trivial (fun _ z => nomatch z) fun _ _ _ z => nomatch z).setV (i := i) (Rep.mono sc _ _ rd)
      rw [List.set_set] at z
      exact z
    have ew : wipe ((wipe σ [i]).set i (some x)) [i] = wipe σ [i] := by
      show (((σ.set i none).set i (some x)).set i none) = σ.set i none
      rw [List.set_set, List.set_set]
    refine ⟨ew, G0, H0, Gc, _, _, R2, hq, fun b H3 hb s3 => ?_⟩
    cases b with
    | false => exact iteF ⟨acc, vs, Gc, fc.trans (Fr.loosen fc.gh s3), sc, gL, s3 _ _ hcL, rA, by omega, hb⟩
    | true =>
      refine iteT ⟨G0, H0, Gc, _, _, R2.stay s3, hb, fun y v G4 H4 hy f4 ry => ⟨vs, f4.h _ _ (s3 _ _ hcL), ?_, ?_⟩⟩
      · rw [← rA.len, sizeLine_eq]
        omega
      · have f34 : Fr Gc H' G4 H4 := (Fr.loosen fc.gh s3).trans f4
        have g4L : G4 L = none := free_step f34 gL hcL
        refine ⟨acc ++ [y], vs ++ [v], G4, ?_, sc.trans f34.g, g4L, upd_same, (Reps.mono f34.g _ _ rA).app (Reps.cons ry Reps.nil), by simp; omega, hy⟩
        have f := fc.trans f34
        exact ⟨f.g, fun b u z => by rw [upd_ne (ne_of_none z g4L)]; exact f.gh _ _ z, fun b u z => by rw [upd_ne (ne_of_none z hHL)]; exact f.h _ _ z, f.new⟩
  · rintro Hc ⟨acc, vs, Gc, fc, sc, gL, hcL, rA, hl, hq⟩
    rw [List.drop_of_length_le (Nat.le_refl _)] at hq
    exact k acc L vs Gc Hc hq fc hHL gL hcL rA
variable {elt iter : Expr} {ifs : List Expr} {scope : Scope} {x : Str} {i : Nat} {px pos : Pos} {ti : DA} {t : DT} {e : DE}
theorem de_lc (hN : X.N.Nodup) (hi : PI X (.Name x px) iter (LI X.K ti)) (ok : blkC X.N X.env.scope scope [(x, i)] = true)
    (hg : ∀ (s : Shared) (H : Hp) (C : Addr) (cl : List (Str × Addr)) (fp : List Addr), PG (X.blk s H scope (compEnvC scope cl C X.env) fp) (.Name x px) (gName i))
    (ht : ∀ (s : Shared) (H : Hp) (C : Addr) (cl : List (Str × Addr)) (fp : List Addr), PTs (X.blk s H scope (compEnvC scope cl C X.env) fp) ifs (LT X.K t))
    (he : ∀ (s : Shared) (H : Hp) (C : Addr) (cl : List (Str × Addr)) (fp : List Addr), PE (X.blk s H scope (compEnvC scope cl C X.env) fp) elt (LE X.K e))
    (hc : X.calm = true := by rfl) (hs : ∀ x, foldedSetIterable iter X.env x = pure x := by intro _; rfl) : PE X (.ListComp elt [⟨.Name x px, iter, ifs, 0⟩] scope pos) (LF X.K (dLc i ti t e)) :=
  imE (pe_lc (own := [(x, i)]) hc hN hi (blkOk_by ok) hg ht he hs) fun _ _ _ => lc_imp
end

/-! ### calls -/
abbrev DSp := List D → (D → Prop) → Prop
def spD (K : PySem.W.Frag) (f : DSp) : Sp := fun vs H Q _ => ∃ G ds Q', Same G H ∧ Reps K G ds vs ∧ f ds Q' ∧ ∀ d v G' H', Q' d → Fr G H G' H' → Rep K G' d v → Q v H'
/-- a def of the module by its name, with its promise -/
def Good (P : Program) (w : World) (K : PySem.W.Frag) (mg : Str → Option Value) (base : Heap) (k : Nat) (x : Str) (ps : List Str) (sp : Sp) : Prop :=
  ∃ fd, FnOk P w K mg base CX0 k (He.ga K x) fd ps sp ∧ Binds K fd ps [] ∧ PySem.W.keepIn K (.ref (He.ga K x)) = true ∧ mg x = some (.ref (He.ga K x))
@[simp] def dCall (f : DSp) (ts : DA) : DE := fun env Q => ts env fun ds => f ds Q
section
variable {X : Cx} {K : PySem.W.Frag} {k : Nat} {x : Str} {ps : List Str} {f : DSp} {e : Expr} {es : List Expr} {ts : DA} {p pos : Pos}
theorem call_imp {σ : L2.St} {H : Hp} {Q : VK} {ta : TA} (ht : ∀ σ H Q, LA K ts σ H Q → ta σ H Q) (h : LE K (dCall f ts) σ H Q) : tCall (spD K f) [] E0 ta σ H Q := by
  obtain ⟨G0, H0, G, env, Q', R, q, k⟩ := h
  refine ht σ H _ ⟨G0, H0, G, env, _, R, q, fun ds vs G1 H1 q1 f1 r1 => ?_⟩
  refine ⟨G1, ds, Q', f1.gh, ?_, q1, fun d v G2 H2 q2 f2 r2 => k d v G2 H2 q2 (f1.trans f2) r2⟩
  rw [List.append_nil]
  exact r1
theorem de_call (g : Good X.prog X.w X.K X.mg X.base k x ps (spD X.K f)) (hr : Room k X.A) (ha : PA X (e :: es) (LA X.K ts)) (hg : Gl X x := by rfl) (hdb : (x == ("__debug__" : Str)) = false := by decide)
    (he : starEach (e :: es) X.env = (false, eval e X.env) :: starEach es X.env := by rfl) (hpl : (backTo pos (starEach es X.env)).any (·.1) = false := by rfl) : PE X (.Call (.Name x p) (e :: es) [] pos) (LE X.K (dCall f ts)) := by
  obtain ⟨fd, F, hb, hk, hm⟩ := g
  exact imE (pe_call F hr hg hm hk hb .nil pass0 ha hdb he hpl) fun _ _ _ => call_imp fun _ _ _ h => h
theorem de_call0 (g : Good X.prog X.w X.K X.mg X.base k x ps (spD X.K f)) (hr : Room k X.A) (hg : Gl X x := by rfl) (hdb : (x == ("__debug__" : Str)) = false := by decide) : PE X (.Call (.Name x p) [] [] pos) (LE X.K (dCall f dNil)) := by
  obtain ⟨fd, F, hb, hk, hm⟩ := g
  refine imE (pe_call0 F hr hg hm hk hb .nil pass0 hdb) fun _ _ _ => call_imp (ts := dNil) ?_
  rintro σ H Q ⟨G0, H0, G, env, Q', R, q, k⟩
  exact k [] [] G H q (Fr.refl R.fr.gh) Reps.nil
end

/-! ### statements -/
structure DN where
  nx : Env' → Prop
  rt : D → Env' → Prop
abbrev DS := DN → Env' → Prop
def LS (K : PySem.W.Frag) (t : DS) : TS := fun D σ H => ∃ G0 H0 G env D', Rel K G0 H0 G H env σ ∧ t D' env ∧ (∀ env' σ' G' H', D'.nx env' → Rel K G0 H0 G' H' env' σ' → D.nx σ' H') ∧
  ∀ d v env' σ' G' H', D'.rt d env' → Rel K G0 H0 G' H' env' σ' → Rep K G' d v → D.rt v H'
theorem imS {X : Cx} {st : Stmt} {t t' : TS} (h : PS X st t) (i : ∀ D σ H, t' D σ H → t D σ H) : PS X st t' := ⟨fun pins s σ H D I q => h.run pins s σ H D I (i D σ H q)⟩
theorem imSs {X : Cx} {st : List Stmt} {t t' : TS} (h : PSs X st t) (i : ∀ D σ H, t' D σ H → t D σ H) : PSs X st t' := ⟨fun pins s σ H D I q => h.run pins s σ H D I (i D σ H q)⟩
section
variable {K : PySem.W.Frag} {G0 H0 G H G' H' : Hp} {env env' : Env'} {σ σ' : L2.St}
theorem Rel.base (R : Rel K G0 H0 G H env σ) : Rel K G H0 G H env σ := ⟨⟨Same.refl _, R.fr.gh, R.fr.h, fun a o e _ => some_ne_none e⟩, R.len, R.at_, R.dst⟩
theorem Rel.rebase (f : Fr G0 H0 G H) (R : Rel K G H0 G' H' env' σ') : Rel K G0 H0 G' H' env' σ' :=
  ⟨⟨f.g.trans R.fr.g, R.fr.gh, R.fr.h, fun a o e n => by
    have n1 := R.fr.new a o e n
    cases q : G a with
    | none => exact absurd q n1
    | some u => exact f.new a u q n⟩, R.len, R.at_, R.dst⟩
end
@[simp] def dNext : DS := fun D env => D.nx env
@[simp] def dSeq (t u : DS) : DS := fun D env => t ⟨u D, D.rt⟩ env
@[simp] def dRet (t : DE) : DS := fun D env => t (opn env) fun d => D.rt d (opn env)
@[simp] def dRetN : DS := fun D env => D.rt .non env
@[simp] def dSet (i : Nat) (t : DE) : DS := fun D env => t env fun d => D.nx (env.set i (.val d))
def D.scal : D → Bool
  | .non => true
  | .bl _ => true
  | .int _ => true
  | .str _ => true
  | _ => false
/-- own lists may be read by t, whose value is none of them -/
@[simp] def dSetS (i : Nat) (t : DE) : DS := fun D env => t (opn env) fun d => d.scal = true ∧ D.nx (env.set i (.val d))
@[simp] def dOwn (i : Nat) (t : DA) : DS := fun D env => t env fun ds => D.nx (env.set i (.own ds))
@[simp] def dIfS (c : DT) (t u : DS) : DS := fun D env => c (opn env) fun b => if b = true then t D env else u D env
def dLoop (i : Nat) (body : DS) : List D → DN → Env' → Prop
  | [], D, env => D.nx env
  | d :: ds, D, env => body ⟨dLoop i body ds D, D.rt⟩ (env.set i (.val d))
@[simp] def dFor (i : Nat) (ti : DA) (body : DS) : DS := fun D env => ti env fun ds => dLoop i body ds D env
@[simp] def dApp (i : Nat) (t : DE) : DS := fun D env => ∃ ds, env[i]? = some (.own ds) ∧ t env fun d => ds.length < 16777216 ∧ D.nx (env.set i (.own (ds ++ [d])))
@[simp] def dExt (i : Nat) (t : DE) : DS := fun D env => ∃ ds, env[i]? = some (.own ds) ∧ t env fun d => ∃ es, d = .lst es ∧ ds.length + es.length ≤ 16777216 ∧ D.nx (env.set i (.own (ds ++ es)))
@[simp] def dAug (i : Nat) (t : DE) : DS := fun D env => ∃ a, env[i]? = some (.val (.int a)) ∧ t env fun d => ∃ b, d = .int b ∧ D.nx (env.set i (.val (.int (a + b))))
@[simp] def dUnp (i j k : Nat) (t : DE) : DS := fun D env => t env fun d => ∃ a b c, d = .tup [a, b, c] ∧ D.nx (((env.set i (.val a)).set j (.val b)).set k (.val c))
def dWhile (t : DT) (body : DS) : DS := fun D env => ∃ W : Nat → Env' → Prop, (∃ m, W m env) ∧ ∀ m env, W m env → t (opn env) fun b => if b = true then body ⟨fun env' => ∃ m', m' < m ∧ W m' env', D.rt⟩ env else D.nx env
/-- own list i is fixed from here on -/
@[simp] def dFix (i : Nat) (t : DS) : DS := fun D env => ∃ ds, env[i]? = some (.own ds) ∧ t D (env.set i (.val (.lst ds)))
section
variable {X : Cx} {K : PySem.W.Frag} {st : Stmt} {rest : List Stmt} {e : Expr} {pos px : Pos} {t u : DS} {te : DE} {tf : DA} {i : Nat} {x : Str}
theorem seq_imp {D : Ends} {σ : L2.St} {H : Hp} (h : LS K (dSeq t u) D σ H) : tSeq (LS K t) (LS K u) D σ H := by
  obtain ⟨G0, H0, G, env, D', R, q, kn, kr⟩ := h
  exact ⟨G0, H0, G, env, _, R, q, fun env' σ' G' H' hn R' => ⟨G0, H0, G', env', D', R', hn, kn, kr⟩, kr⟩
theorem ds_nil : PSs X [] (LS X.K dNext) := imSs pss_nil fun D σ H ⟨G0, H0, G, env, D', R, q, kn, kr⟩ => kn env σ G H q R
theorem ds_cons (h1 : PS X st (LS X.K t)) (h2 : PSs X rest (LS X.K u)) : PSs X (st :: rest) (LS X.K (dSeq t u)) := imSs (pss_cons h1 h2) fun _ _ _ => seq_imp
theorem ds_one (h1 : PS X st (LS X.K t)) : PSs X [st] (LS X.K t) := pss_one h1
theorem ds_ret (he : PE X e (LE X.K te)) : PS X (.Return (some e) pos) (LS X.K (dRet te)) := by
  refine imS (ps_ret he) ?_
  rintro D σ H ⟨G0, H0, G, env, D', R, q, kn, kr⟩
  obtain ⟨G1, s1, R1⟩ := R.opn
  exact ⟨G0, H0, G1, opn env, _, R1, q, fun d v G2 H2 q2 f2 r2 => kr d v _ σ G2 H2 q2 (R1.step f2) r2⟩
theorem ds_retN : PS X (.Return none pos) (LS X.K dRetN) := imS ps_retN fun D σ H ⟨G0, H0, G, env, D', R, q, kn, kr⟩ => kr .non .non env σ G H q R rfl
theorem ds_set (hN : X.N.Nodup) (he : PE X e (LE X.K te)) (hi : X.N[i]? = some x := by rfl) (hx : Loc X.env.scope x := by first | exact Or.inl rfl | exact Or.inr rfl) (hs : swapsWith e (some (.Name x px)) pos.line X.env = pure false := by rfl)
    (hf : X.fn x = true ∨ X.env.scope.names.lookup x = some .local := by first | exact .inl rfl | exact .inr rfl) : PS X (.Assign [.Name x px] e pos) (LS X.K (dSet i te)) := by
  refine imS (ps_set hN hi hx he hs hf) ?_
  rintro D σ H ⟨G0, H0, G, env, D', R, q, kn, kr⟩
  exact ⟨G0, H0, G, env, _, R, q, fun d v G2 H2 q2 f2 r2 => kn _ _ G2 H2 q2 ((R.step f2).setV r2)⟩
theorem rep_scal {d : D} {v : V} {G G' : Hp} (h : d.scal = true) (r : Rep K G d v) : Rep K G' d v := by
  cases d with
  | non => exact r
  | bl b => exact r
  | int j => exact r
  | str z => exact r
  | _ => cases h
theorem ds_setS (hN : X.N.Nodup) (he : PE X e (LE X.K te)) (hi : X.N[i]? = some x := by rfl) (hx : Loc X.env.scope x := by first | exact Or.inl rfl | exact Or.inr rfl) (hs : swapsWith e (some (.Name x px)) pos.line X.env = pure false := by rfl)
    (hf : X.fn x = true ∨ X.env.scope.names.lookup x = some .local := by first | exact .inl rfl | exact .inr rfl) : PS X (.Assign [.Name x px] e pos) (LS X.K (dSetS i te)) := by
  refine imS (ps_set hN hi hx he hs hf) ?_
  rintro D σ H ⟨G0, H0, G, env, D', R, q, kn, kr⟩
  obtain ⟨G1, s1, R1⟩ := R.opn
  exact ⟨G0, H0, G1, opn env, _, R1, q, fun d v G2 H2 q2 f2 r2 => kn _ _ G H2 q2.2 ((R.stay f2.h).setV (rep_scal q2.1 r2))⟩
theorem ds_own (hN : X.N.Nodup) (he : PE X e (LF X.K tf)) (hi : X.N[i]? = some x := by rfl) (hx : Loc X.env.scope x := by first | exact Or.inl rfl | exact Or.inr rfl) (hs : swapsWith e (some (.Name x px)) pos.line X.env = pure false := by rfl)
    (hf : X.fn x = true ∨ X.env.scope.names.lookup x = some .local := by first | exact .inl rfl | exact .inr rfl) : PS X (.Assign [.Name x px] e pos) (LS X.K (dOwn i tf)) := by
  refine imS (ps_set hN hi hx he hs hf) ?_
  rintro D σ H ⟨G0, H0, G, env, D', R, q, kn, kr⟩
  exact ⟨G0, H0, G, env, _, R, q, fun ds a vs G2 H2 q2 f2 n1 n2 e2 r2 => kn _ _ G2 H2 q2 (R.setF f2 n1 n2 e2 r2)⟩
theorem ds_if {c : Expr} {a b : List Stmt} {tc : DT} (hc : PT X c (LT X.K tc)) (ha : PSs X a (LS X.K t)) (hb : PSs X b (LS X.K u)) : PS X (.If c a b pos) (LS X.K (dIfS tc t u)) := by
  refine imS (ps_if hc ha hb) ?_
  rintro D σ H ⟨G0, H0, G, env, D', R, q, kn, kr⟩
  refine ⟨G0, H0, G, env, _, R, q, fun b H1 q1 s1 => ?_⟩
  cases b with
  | true => exact iteT ⟨G0, H0, G, env, D', R.stay s1, q1, kn, kr⟩
  | false => exact iteF ⟨G0, H0, G, env, D', R.stay s1, q1, kn, kr⟩
theorem ds_for {iter : Expr} {body : List Stmt} {ti : DA} (hp : PassesOwn (model X.prog X.w) X.A X.env X.xe) (hN : X.N.Nodup) (hi : PI X (.Name x px) iter (LI X.K ti)) (hb : PSs X body (LS X.K t)) (hx0 : X.N[i]? = some x := by rfl)
    (hx : Loc X.env.scope x := by first | exact Or.inl rfl | exact Or.inr rfl) (hf : X.fn x = true ∨ X.env.scope.names.lookup x = some .local := by first | exact .inl rfl | exact .inr rfl) (hc : X.calm = true := by rfl)
    (hs : ∀ x, foldedSetIterable iter X.env x = pure x := by intro _; rfl) : PS X (.For (.Name x px) iter body [] pos) (LS X.K (dFor i ti t)) := by
  refine imS (ps_for hp hc hi (pg_name (i := i) hN hx0 hx hf) hb hs) ?_
  rintro D σ H ⟨G0, H0, G, env, D', R, q, kn, kr⟩
  refine ⟨G0, H0, G, env, _, R, q, fun ds J G1 H1 q1 f1 it => ?_⟩
  refine for_it it (fun n σ H => ∃ G' env', Rel X.K G0 H0 G' H env' σ ∧ Same G1 G' ∧ dLoop i t (ds.drop n) D' env') ⟨G1, env, R.step f1, Same.refl _, q1⟩ ?_ ?_ ?_
  · rintro n σ H _ ⟨G', env', R', s', _⟩
    exact s'.trans R'.fr.gh
  · rintro n y σ H H' hn ⟨G', env', R', s', hq⟩ ⟨rfl, d, ed, rd⟩
    have ed2 : ds.drop n = d :: ds.drop (n + 1) := by
      obtain ⟨h1, h2⟩ := List.getElem?_eq_some_iff.mp ed
      rw [List.drop_eq_getElem_cons h1, h2]
    rw [ed2] at hq
    refine ⟨G', H0, G', _, _, (R'.base).setV (Rep.mono s' _ _ rd), hq, fun env2 σ2 G2 H2 hn2 R2 => ?_, fun d2 v2 env2 σ2 G2 H2 hr2 R2 => ?_⟩
    · exact ⟨G2, env2, R2.rebase R'.fr, s'.trans R2.fr.g, hn2⟩
    · exact kr d2 v2 env2 σ2 G2 H2 hr2 (R2.rebase R'.fr)
  · rintro σ H ⟨G', env', R', s', hq⟩
    rw [List.drop_of_length_le (Nat.le_refl _)] at hq
    exact kn env' σ G' H hq R'
theorem ds_while {c : Expr} {body : List Stmt} {tc : DT} (hp : PassesOwn (model X.prog X.w) X.A X.env X.xe) (hc : PT X c (LT X.K tc)) (hb : PSs X body (LS X.K t)) : PS X (.While c body [] pos) (LS X.K (dWhile tc t)) := by
  refine imS (ps_while hp hc hb) ?_
  rintro D σ H ⟨G0, H0, G, env, D', R, ⟨W, ⟨m0, w0⟩, q⟩, kn, kr⟩
  refine ⟨fun m σ H => ∃ G' env', Rel X.K G0 H0 G' H env' σ ∧ W m env', ⟨m0, G, env, R, w0⟩, ?_⟩
  rintro m σ1 H1 ⟨G1, env1, R1, w1⟩
  refine ⟨G0, H0, G1, env1, _, R1, q m env1 w1, fun b H2 q2 s2 => ?_⟩
  cases b with
  | true =>
    refine iteT ⟨fun σ H => ∃ m', m' < m ∧ ∃ G' env', Rel X.K G0 H0 G' H env' σ ∧ W m' env', fun σ' H' z => z, ?_⟩
    exact ⟨G0, H0, G1, env1, _, R1.stay s2, q2, fun env' σ' G' H' ⟨m', hm, w'⟩ R' => ⟨m', hm, G', env', R', w'⟩, kr⟩
  | false => exact iteF (kn env1 σ1 G1 H2 q2 (R1.stay s2))
theorem ds_aug (hN : X.N.Nodup) (he : PE X e (LE X.K te)) (hi : X.N[i]? = some x := by rfl) (hx : Loc X.env.scope x := by first | exact Or.inl rfl | exact Or.inr rfl)
    (hf : X.fn x = true ∨ X.env.scope.names.lookup x = some .local := by first | exact .inl rfl | exact .inr rfl) : PS X (.AugAssign (.Name x px) .Add e pos) (LS X.K (dAug i te)) := by
  refine imS (ps_aug hN hi hx he ip_add hf) ?_
  rintro D σ H ⟨G0, H0, G, env, D', R, ⟨a, ea, q⟩, kn, kr⟩
  obtain ⟨o, e2, v, rfl, r⟩ := R.at_ i _ ea
  have ev : v = .int a := r
  subst ev
  refine ⟨_, e2, G0, H0, G, env, _, R, q, ?_⟩
  rintro d v G2 H2 ⟨b, rfl, q2⟩ f2 r2
  exact ⟨a, b, rfl, r2, kn _ _ G2 H2 q2 ((R.step f2).setV (d := .int (a + b)) (v := .int (a + b)) rfl)⟩
theorem ds_unp {y z : Str} {j k : Nat} {py pz pt : Pos} {kt : Nat} (hN : X.N.Nodup) (he : PE X e (LE X.K te)) (hi : X.N[i]? = some x := by rfl) (hj : X.N[j]? = some y := by rfl) (hk : X.N[k]? = some z := by rfl)
    (hx : Loc X.env.scope x := by first | exact Or.inl rfl | exact Or.inr rfl) (hy : Loc X.env.scope y := by first | exact Or.inl rfl | exact Or.inr rfl) (hz : Loc X.env.scope z := by first | exact Or.inl rfl | exact Or.inr rfl)
    (hfx : X.fn x = true ∨ X.env.scope.names.lookup x = some .local := by first | exact .inl rfl | exact .inr rfl) (hfy : X.fn y = true ∨ X.env.scope.names.lookup y = some .local := by first | exact .inl rfl | exact .inr rfl)
    (hfz : X.fn z = true ∨ X.env.scope.names.lookup z = some .local := by first | exact .inl rfl | exact .inr rfl) (hc : X.calm = true := by rfl)
    (hs : swapsWithSole [.Tuple [.Name x px, .Name y py, .Name z pz] kt pt] e pos.line X.env = pure false := by rfl) (hw : swappedStores [.Tuple [.Name x px, .Name y py, .Name z pz] kt pt] e X.env = pure none := by rfl)
    (h1 : (assignEach [.Tuple [.Name x px, .Name y py, .Name z pz] kt pt] X.env).map (·.2) = [assign (.Tuple [.Name x px, .Name y py, .Name z pz] kt pt) X.env] := by rfl)
    (hn : (assignEach [.Name x px, .Name y py, .Name z pz] X.env).length = 3 := by rfl) (hst : (assignEach [.Name x px, .Name y py, .Name z pz] X.env).findIdx? (·.1) = none := by rfl)
    (a1 : (assignEach [.Name x px, .Name y py, .Name z pz] X.env).map (·.2) = assign (.Name x px) X.env :: (assignEach [.Name y py, .Name z pz] X.env).map (·.2) := by rfl)
    (a2 : (assignEach [.Name y py, .Name z pz] X.env).map (·.2) = assign (.Name y py) X.env :: (assignEach [.Name z pz] X.env).map (·.2) := by rfl)
    (a3 : (assignEach [.Name z pz] X.env).map (·.2) = assign (.Name z pz) X.env :: (assignEach [] X.env).map (·.2) := by rfl) :
    PS X (.Assign [.Tuple [.Name x px, .Name y py, .Name z pz] kt pt] e pos) (LS X.K (dUnp i j k te)) := by
  refine imS (ps_asg he (pg_tup hc (pgs_cons (pg_name (i := i) hN hi hx hfx) (pgs_cons (pg_name (i := j) hN hj hy hfy) (pgs_cons (pg_name (i := k) hN hk hz hfz) pgs_nil a3) a2) a1) hn hst) hs hw h1) ?_
  rintro D σ H ⟨G0, H0, G, env, D', R, q, kn, kr⟩
  refine ⟨G0, H0, G, env, _, R, q, ?_⟩
  rintro d v G2 H2 ⟨a, b, c, rfl, q2⟩ f2 ⟨p, vs, rfl, hp, rr⟩
  obtain ⟨va, w1, rfl, ra, vb, w2, rfl, rb, vc, w3, rfl, rc, rfl⟩ := rr
  refine ⟨p, _, rfl, Same.seqT f2.gh hp, rfl, va, _, rfl, vb, _, rfl, vc, _, rfl, rfl, ?_⟩
  exact kn _ _ G2 H2 q2 ((((R.step f2).setV ra).setV rb).setV rc)
theorem ds_fix (h : PS X st (LS X.K t)) (i : Nat) : PS X st (LS X.K (dFix i t)) := by
  refine imS h ?_
  rintro D σ H ⟨G0, H0, G, env, D', R, ⟨ds, ei, q⟩, kn, kr⟩
  obtain ⟨o, e2, a, vs, rfl, h0, h1, h2, h3⟩ := R.at_ i _ ei
  have oi : OwnA env σ i a := .inl ⟨ds, ei, e2⟩
  have s1 : Same G (upd G a (.lst vs)) := fun b u z => by rw [upd_ne (ne_of_none z h1)]; exact z
  have own : ∀ (j : Nat) (b : Addr), OwnA (env.set i (.val (.lst ds))) σ j b → j ≠ i ∧ OwnA env σ j b := fun j b x => by
    have hh : OwnA env σ j b ∧ i ≠ j := by
      rcases x with ⟨es, e1, e3⟩ | ⟨p, ss, e1⟩
      · rcases get_set e1 with ⟨rfl, z⟩ | ⟨ne, z⟩
        · cases z
        · exact ⟨.inl ⟨es, z, e3⟩, ne⟩
      · rcases get_set e1 with ⟨rfl, z⟩ | ⟨ne, z⟩
        · cases z
        · exact ⟨.inr ⟨p, ss, z⟩, ne⟩
    exact ⟨fun z => hh.2 z.symm, hh.1⟩
  refine ⟨G0, H0, upd G a (.lst vs), _, D', ⟨⟨R.fr.g.trans s1, fun b u z => ?_, R.fr.h, fun b u z n => ?_⟩, by simp [R.len], fun j s e => ?_, fun j k b x y => R.dst j k b (own j b x).2 (own k b y).2⟩, q, kn, kr⟩
  · by_cases hb : b = a
    · subst hb; rw [upd_same] at z; rw [h2]; exact z
    · rw [upd_ne hb] at z; exact R.fr.gh _ _ z
  · by_cases hb : b = a
    · subst hb; exact absurd h0 n
    · rw [upd_ne hb] at z; exact R.fr.new b u z n
  · rcases get_set e with ⟨rfl, rfl⟩ | ⟨ne, z⟩
    · exact ⟨_, e2, .ref a, rfl, a, vs, rfl, upd_same, Reps.mono s1 _ _ h3⟩
    · obtain ⟨o, q1, r⟩ := R.at_ j s z
      refine ⟨o, q1, ?_⟩
      cases s with
      | un => trivial
      | val d =>
        obtain ⟨v, rfl, h⟩ := r
        exact ⟨v, rfl, Rep.mono s1 _ _ h⟩
      | own es =>
        obtain ⟨b, us, rfl, g0, g1, g2, g3⟩ := r
        refine ⟨b, us, rfl, g0, ?_, g2, Reps.mono s1 _ _ g3⟩
        rw [upd_ne fun q' => ?_]
        · exact g1
        · subst q'
          exact ne (R.dst i j b oi (.inl ⟨es, z, q1⟩))
      | ses p l ss =>
        obtain ⟨dx, us, rfl, g0, g1, g2, g3, g4⟩ := r
        refine ⟨dx, us, rfl, s1 _ _ g0, g1, ?_, g3, Reps.mono s1 _ _ g4⟩
        rw [upd_ne fun q' => ?_]
        · exact g2
        · subst q'
          exact ne (R.dst i j l oi (.inr ⟨p, ss, z⟩))
theorem own_var {G0 H0 G H : Hp} {env : Env'} {σ : L2.St} {ds : List D} (R : Rel K G0 H0 G H env σ) (e : env[i]? = some (.own ds)) : ∃ a vs, σ[i]? = some (some (.ref a)) ∧ H a = some (.lst vs) ∧ G a = none ∧ Reps K G ds vs := by
  obtain ⟨o, e2, a, vs, rfl, h0, h1, h2, h3⟩ := R.at_ i _ e
  exact ⟨a, vs, e2, h2, h1, h3⟩
variable {apos cpos : Pos}
theorem ds_app (he : PE X e (LE X.K te)) (hi : X.N[i]? = some x := by rfl) (hv : Vis X.env.scope x := by first | exact Or.inl rfl | exact Or.inr (Or.inl rfl) | exact Or.inr (Or.inr rfl)) (hd : (x == ("__debug__" : Str)) = false := by decide)
    (hcd : (x == ("__classdict__" : Str)) = false := by decide) (hbase : attributeBase (.Name x px) "append" X.env (eval (.Name x px) X.env) = eval (.Name x px) X.env := by rfl)
    (hfew : ((backTo cpos (starEach [e] X.env)).all (fun x => !x.1) && (backToKw cpos (keywordEach [] X.env)).all (fun x => x.1.isSome)
      && decide ([e].length + ([] : List Keyword).length + (if ([] : List Keyword).isEmpty then 0 else 1) < 30)) = true := by rfl)
    (hline : (apos.endLine == cpos.line) = true := by rfl) (hs : starEach [e] X.env = (false, eval e X.env) :: starEach [] X.env := by rfl) (hplain : (backTo cpos (starEach [] X.env)).any (·.1) = false := by rfl)
    (hsw : swapsWith (.Call (.Attribute (.Name x px) "append" apos) [e] [] cpos) none pos.line X.env = pure false := by rfl) :
    PS X (.Expr (.Call (.Attribute (.Name x px) "append" apos) [e] [] cpos) pos) (LS X.K (dApp i te)) := by
  refine imS (ps_expr (pe_bm PySem.F.plainAttrs_list PySem.F.slot_list_append PySem.F.type_list_append mt_append (pe_var hi hv hd hcd) (pa_cons he pa_nil hs) hbase hfew hline hs hplain) hsw) ?_
  rintro D σ H ⟨G0, H0, G, env, D', R, ⟨ds, ei, q⟩, kn, kr⟩
  obtain ⟨a, vs, e2, h2, h1, h3⟩ := own_var R ei
  refine ⟨_, e2, .inl ⟨rfl, vs, SqL.of h2⟩, G0, H0, G, env, _, R, q, ?_⟩
  rintro d v G2 H2 ⟨hz, q2⟩ f2 r2
  refine ⟨a, vs, v, rfl, rfl, f2.h _ _ h2, ?_, ?_⟩
  · rw [sizeLine_eq, ← h3.len]
    exact hz
  · exact kn _ _ G2 _ q2 ((R.step f2).write ei e2 ((Reps.mono f2.g _ _ h3).app (Reps.cons r2 Reps.nil)))
theorem ds_ext (he : PE X e (LE X.K te)) (hi : X.N[i]? = some x := by rfl) (hv : Vis X.env.scope x := by first | exact Or.inl rfl | exact Or.inr (Or.inl rfl) | exact Or.inr (Or.inr rfl)) (hd : (x == ("__debug__" : Str)) = false := by decide)
    (hcd : (x == ("__classdict__" : Str)) = false := by decide) (hbase : attributeBase (.Name x px) "extend" X.env (eval (.Name x px) X.env) = eval (.Name x px) X.env := by rfl)
    (hfew : ((backTo cpos (starEach [e] X.env)).all (fun x => !x.1) && (backToKw cpos (keywordEach [] X.env)).all (fun x => x.1.isSome)
      && decide ([e].length + ([] : List Keyword).length + (if ([] : List Keyword).isEmpty then 0 else 1) < 30)) = true := by rfl)
    (hline : (apos.endLine == cpos.line) = true := by rfl) (hs : starEach [e] X.env = (false, eval e X.env) :: starEach [] X.env := by rfl) (hplain : (backTo cpos (starEach [] X.env)).any (·.1) = false := by rfl)
    (hsw : swapsWith (.Call (.Attribute (.Name x px) "extend" apos) [e] [] cpos) none pos.line X.env = pure false := by rfl) :
    PS X (.Expr (.Call (.Attribute (.Name x px) "extend" apos) [e] [] cpos) pos) (LS X.K (dExt i te)) := by
  refine imS (ps_expr (pe_bm PySem.F.plainAttrs_list PySem.F.slot_list_extend PySem.F.type_list_extend mt_extend (pe_var hi hv hd hcd) (pa_cons he pa_nil hs) hbase hfew hline hs hplain) hsw) ?_
  rintro D σ H ⟨G0, H0, G, env, D', R, ⟨ds, ei, q⟩, kn, kr⟩
  obtain ⟨a, vs, e2, h2, h1, h3⟩ := own_var R ei
  refine ⟨_, e2, .inl ⟨rfl, vs, SqL.of h2⟩, G0, H0, G, env, _, R, q, ?_⟩
  rintro d v G2 H2 ⟨es, rfl, hz, q2⟩ f2 ⟨b, ws, rfl, hb, r2⟩
  refine ⟨a, b, vs, ws, rfl, rfl, f2.h _ _ h2, f2.gh _ _ hb, ?_, ?_⟩
  · rw [sizeLine_eq, ← h3.len, ← r2.len]
    exact hz
  · exact kn _ _ G2 _ q2 ((R.step f2).write ei e2 ((Reps.mono f2.g _ _ h3).app r2))
theorem ds_setLc {elt iter : Expr} {ifs : List Expr} {scope : Scope} {c : Str} {j : Nat} {pc lpos : Pos} {ti : DA} {tt : DT} (hN : X.N.Nodup) (hi : PI X (.Name c pc) iter (LI X.K ti)) (ok : blkC X.N X.env.scope scope [(c, j)] = true)
    (hg : ∀ (s : Shared) (H : Hp) (C : Addr) (cl : List (Str × Addr)) (fp : List Addr), PG (X.blk s H scope (compEnvC scope cl C X.env) fp) (.Name c pc) (gName j))
    (ht : ∀ (s : Shared) (H : Hp) (C : Addr) (cl : List (Str × Addr)) (fp : List Addr), PTs (X.blk s H scope (compEnvC scope cl C X.env) fp) ifs (LT X.K tt))
    (he : ∀ (s : Shared) (H : Hp) (C : Addr) (cl : List (Str × Addr)) (fp : List Addr), PE (X.blk s H scope (compEnvC scope cl C X.env) fp) elt (LE X.K te))
    (hx0 : X.N[i]? = some x := by rfl) (hyl : X.env.scope.names.lookup x = some .local := by rfl) (hsw : swapsWith (.ListComp elt [⟨.Name c pc, iter, ifs, 0⟩] scope lpos) (some (.Name x px)) pos.line X.env = pure true)
    (hc : X.calm = true := by rfl) (hs : ∀ x, foldedSetIterable iter X.env x = pure x := by intro _; rfl) :
    PS X (.Assign [.Name x px] (.ListComp elt [⟨.Name c pc, iter, ifs, 0⟩] scope lpos) pos) (LS X.K (dSet i (dL (dLc j ti tt te)))) := by
  refine imS (ps_setLc (own := [(c, j)]) hc hN hx0 hyl hsw hi (blkOk_by ok) hg ht he hs) ?_
  rintro D σ H ⟨G0, H0, G, env, D', R, q, kn, kr⟩
  refine lc_imp (f_imp (t := dLc j ti tt te) ⟨G0, H0, G, env, fun d => D'.nx (env.set i (.val d)), R, q, fun d v G2 H2 q2 f2 r2 => ?_⟩)
  exact kn _ _ G2 H2 q2 ((R.step f2).setV r2)
end
end PW
set_option Elab.async false
set_option linter.all false
set_option maxRecDepth 100000
set_option maxHeartbeats 2000000
namespace PW
open PySem PySem.Spec PyProof.Rows L2

/-! ### what the top has left -/
structure Tx (K : PySem.W.Frag) (mg : Str → Option Value) (base : Heap) : Prop where
  kin : K.In base
  ns : base.Ns mainGlobals mg
  sys : obsW K = valW
section
variable {P : Program} {w : World} {K : PySem.W.Frag} {mg : Str → Option Value} {base : Heap}
theorem Tx.sysD (T : Tx K mg base) : He.SaysD fa fn K := congrArg (fun z : AlW => z.1) T.sys
theorem Tx.tabs (T : Tx K mg base) : tabsOk K = true := congrArg (fun z : AlW => z.2) T.sys
theorem Tx.fact (T : Tx K mg base) (i : Nat) {f : He.Fa} (h : fa[i]? = some f) : f.ok K = true := T.sysD.fact i h
theorem Tx.glo (T : Tx K mg base) (i : Nat) {x : Str} (h : fa[i]? = some (.glo x)) : mg x = some (.ref (He.ga K x)) := He.glo_ok T.kin T.ns (T.fact i h)
theorem Tx.free (T : Tx K mg base) (i : Nat) {x : Str} (h : fa[i]? = some (.free x)) : mg x = none := He.free_ok T.kin T.ns (T.fact i h)
theorem Tx.int (T : Tx K mg base) (i : Nat) {x : Str} {n : Int} (h : fa[i]? = some (.int x n)) : ∃ t, mg x = some (.int n t) := He.int_ok T.kin T.ns (T.fact i h)
theorem tupA_ok {a : Addr} {vs : List V} (h : tupA K a vs = true) (H : Hp) : SqT K H a vs := by
  unfold tupA at h
  cases q : K.lookup a with
  | none =>
    rw [q] at h
    cases h
  | some o =>
    obtain ⟨oc, od, dt, osl⟩ := o
    rw [q] at h
    cases oc with
    | type c =>
      cases dt with
      | seq its n =>
        obtain ⟨h1, h2⟩ := He.ba (show (decide (c = "tuple") && (decide (its.size ≤ sizeLine) && He.relAll vs its.toList)) = true from h)
        obtain ⟨h3, h4⟩ := He.ba h2
        exact .inr ⟨_, its, n, q, congrArg Value.type (of_decide_eq_true h1), rfl, of_decide_eq_true h3, He.relAll_ok h4⟩
      | _ => cases h
    | _ => cases dt <;> cases h
theorem reps_strs {G : Hp} : ∀ (zs : List Str), Reps K G (zs.map D.str) (zs.map V.str)
  | [] => rfl
  | z :: zs => ⟨_, _, rfl, rfl, reps_strs zs⟩
theorem Tx.clsT (T : Tx K mg base) : ClsT K := by
  refine ⟨fun t => ?_, fun t f hf => ?_⟩
  · cases t with
    | false => exact He.cls_ok (T.fact 142 rfl)
    | true => exact He.cls_ok (T.fact 143 rfl)
  · cases t with
    | false =>
      have h : f ∈ (["names", "covers", "spots", "held", "drawer", "up"] : List Str) := hf
      simp only [List.mem_cons, List.not_mem_nil, or_false] at h
      rcases h with rfl | rfl | rfl | rfl | rfl | rfl
      · exact He.noat_ok (T.fact 150 rfl)
      · exact He.noat_ok (T.fact 151 rfl)
      · exact He.noat_ok (T.fact 152 rfl)
      · exact He.noat_ok (T.fact 153 rfl)
      · exact He.noat_ok (T.fact 154 rfl)
      · exact He.noat_ok (T.fact 155 rfl)
    | true =>
      have h : f ∈ (["wall", "drawn", "acts", "lines"] : List Str) := hf
      simp only [List.mem_cons, List.not_mem_nil, or_false] at h
      rcases h with rfl | rfl | rfl | rfl
      · exact He.noat_ok (T.fact 156 rfl)
      · exact He.noat_ok (T.fact 157 rfl)
      · exact He.noat_ok (T.fact 158 rfl)
      · exact He.noat_ok (T.fact 159 rfl)
theorem Tx.keys (T : Tx K mg base) (G : Hp) : Rep K G (.tup (keysW.map D.str)) (.ref (He.ga K "KEYS")) := ⟨_, _, rfl, tupA_ok (He.ba T.tabs).1 G, reps_strs _⟩
theorem Tx.powers (T : Tx K mg base) (G : Hp) : Rep K G (.tup (powers.map D.int)) (.ref (He.ga K "POWERS")) := ⟨_, _, rfl, tupA_ok (He.ba (He.ba T.tabs).2).1 G, reps_ints.mpr rfl⟩
theorem reps_map {α : Type} {G : Hp} {f : α → D} {g : α → V} : ∀ {l : List α}, (∀ a ∈ l, Rep K G (f a) (g a)) → Reps K G (l.map f) (l.map g)
  | [], _ => rfl
  | a :: l, h => ⟨_, _, rfl, h a (List.mem_cons_self ..), reps_map fun b hb => h b (List.mem_cons_of_mem _ hb)⟩
theorem Tx.shapes (T : Tx K mg base) (G : Hp) : Rep K G (.tup ((List.range 14).map fun i => .tup ((shapes.getD i []).map D.int))) (.ref (He.ga K "SHAPES")) := by
  obtain ⟨h1, h2⟩ := He.ba (He.ba (He.ba T.tabs).2).2
  refine ⟨_, _, rfl, tupA_ok h1 G, reps_map fun i hi => ?_⟩
  exact ⟨_, _, rfl, tupA_ok (List.all_eq_true.mp h2 i hi) G, reps_ints.mpr rfl⟩
theorem de_gint {X : Cx} {x : Str} {i : Int} {pos : Pos} (h : ∃ t, X.mg x = some (.int i t)) (hg : Gl X x := by rfl) (hd : (x == ("__debug__" : Str)) = false := by decide) : PE X (.Name x pos) (LE X.K (dC (.int i))) := by
  obtain ⟨t, h⟩ := h
  exact de_glob (v := .int i) h ⟨t, rfl⟩ (fun _ => rfl) hg hd
theorem de_gref {X : Cx} {x : Str} {a : Addr} {d : D} {pos : Pos} (h : X.mg x = some (.ref a)) (r : ∀ G, Rep X.K G d (.ref a)) (hg : Gl X x := by rfl) (hd : (x == ("__debug__" : Str)) = false := by decide) : PE X (.Name x pos) (LE X.K (dC d)) :=
  de_glob (v := .ref a) h rfl r hg hd
/-- a def's names at its entry -/
@[simp] def startE (n : Nat) (ds : List D) : Env' := ds.map Slot.val ++ List.replicate (n - ds.length) .un
theorem Rel.start {G H : Hp} {N : List Str} {ds : List D} {vs : List V} (s : Same G H) (r : Reps K G ds vs) : Rel K G H G H (startE N.length ds) (L2.start N vs) := by
  have hl := r.len
  refine ⟨Fr.refl s, by simp [startE, L2.start, hl], fun i sl e => ?_, fun i j a x y => ?_⟩
  · unfold startE at e
    unfold L2.start
    by_cases h : i < ds.length
    · rw [List.getElem?_append_left (by simpa using h), List.getElem?_map, List.getElem?_eq_getElem h] at e
      have e2 : sl = .val ds[i] := (Option.some.inj e).symm
      subst e2
      obtain ⟨v, hv, rv⟩ := r.get (List.getElem?_eq_getElem h)
      exact ⟨some v, by rw [List.getElem?_append_left (by simpa [← hl] using h), List.getElem?_map, hv] <;> rfl, v, rfl, rv⟩
    · have h2 : i - ds.length < N.length - ds.length := by
        have := (List.getElem?_eq_some_iff.mp e).1
        simp at this
        omega
      rw [List.getElem?_append_right (by simpa using h), List.getElem?_replicate, if_pos (by simpa using h2)] at e
      have e2 : sl = .un := (Option.some.inj e).symm
      subst e2
      exact ⟨none, by rw [List.getElem?_append_right (by rw [List.length_map]; omega), List.getElem?_replicate, if_pos (by rw [List.length_map]; omega)], trivial⟩
  · have no : ∀ i a, ¬ OwnA (startE N.length ds) (L2.start N vs) i a := fun i a x => by
      have all : ∀ sl, (startE N.length ds)[i]? = some sl → (∃ d, sl = .val d) ∨ sl = .un := fun sl e => by
        have m := List.mem_of_getElem? e
        unfold startE at m
        rcases List.mem_append.mp m with m | m
        · obtain ⟨d, _, rfl⟩ := List.mem_map.mp m
          exact .inl ⟨d, rfl⟩
        · exact .inr (List.eq_of_mem_replicate m)
      rcases x with ⟨es, e1, _⟩ | ⟨p, ss, e1⟩
      · rcases all _ e1 with ⟨d, z⟩ | z <;> cases z
      · rcases all _ e1 with ⟨d, z⟩ | z <;> cases z
    exact absurd x (no i a)
abbrev cxD (P : Program) (w : World) (K : PySem.W.Frag) (mg : Str → Option Value) (base : Heap) (N : List Str) (x : Str) (sc : Scope) (cdv : Value) (A : Around) (outer : List Env) (s : Shared) (H : Hp) (E : XK) : Cx :=
  (cxOf CX0 P w K mg base N x sc (He.ga K x) cdv A outer s H E).nox
theorem good_mk (T : Tx K mg base) (j i : Nat) (x : Str) (hj : fn[j]? = some (mkD (i, x))) (hgl : fa[j]? = some (.glo x)) {N ps : List Str} (S : FnScope N ps (defScope (top i)))
    (hb : ∀ (kV doc pm : Value) (an : Option Addr) (cdv ct : Value) (us : List Value), us.length = ps.length → bindArgs (PySem.W.fnOf x x (defArgs (top i)) (defBody (top i)) (defScope (top i)) .none kV doc pm an cdv ct) ⟨us, []⟩ = pure (ps.zip us))
    {k : Nat} {f : DSp} {t : DS}
    (body : ∀ (cdv : Value) (A : Around) (outer : List Env) (s : Shared) (H : Hp) (E : XK), Room k (A.deeper (envOfC x (defScope (top i)) s.heap.objs.size (He.ga K x) cdv)) →
      PSs (cxD P w K mg base N x (defScope (top i)) cdv A outer s H E) (defBody (top i)) (LS K t))
    (pure' : ∀ ds Q, f ds Q → ds.length = ps.length ∧ t ⟨fun _ => Q .non, fun d _ => Q d⟩ (startE N.length ds)) : Good P w K mg base (k + 1) x ps (spD K f) := by
  obtain ⟨fd, F⟩ := T.sysD.def_ j hj
  refine ⟨fd, FunD.ok F S (fun vs H Q E h => ?_) fun cdv A outer s H vs Q E hr h => ?_, FunD.bindsN F hb, F.kp, T.glo j hgl⟩
  · obtain ⟨G, ds, Q', s, r, hf, _⟩ := h
    rw [← r.len]
    exact (pure' ds Q' hf).1
  · obtain ⟨G, ds, Q', sm, r, hf, hq⟩ := h
    refine ⟨LS K t, (body cdv A outer s H E hr).nox, G, H, G, _, _, Rel.start sm r, (pure' ds Q' hf).2, fun env' σ' G' H' hn R' => ?_, fun d v env' σ' G' H' hn R' rv => ?_⟩
    · exact hq _ _ G' H' hn R'.fr rfl
    · exact hq _ _ G' H' hn R'.fr rv
end
end PW
set_option Elab.async false
set_option linter.all false
set_option maxRecDepth 100000
set_option maxHeartbeats 2000000
namespace PW
open PySem PySem.Spec PyProof.Rows L2
variable {P : Program} {w : World} {K : PySem.W.Frag} {mg : Str → Option Value} {base : Heap}

/-! ### instances made -/
theorem putF_new {f : Str} {v : V} : ∀ {fs : List (Str × V)}, f ∉ fs.map (·.1) → putF f v fs = fs ++ [(f, v)]
  | [], _ => rfl
  | (g, x) :: r, h => by
    have h1 : ¬ g = f := fun e => h (by rw [e]; exact List.mem_cons_self ..)
    have h2 : f ∉ r.map (·.1) := fun e => h (List.mem_cons_of_mem _ e)
    show (if g = f then (g, v) :: r else (g, x) :: putF f v r) = _
    rw [if_neg h1, putF_new h2] <;> rfl
theorem lenp {f : Str} {v : V} {fs : List (Str × V)} {n : Nat} (h : fs.length ≤ n) : (putF f v fs).length ≤ n + 1 := Nat.le_trans (length_putF f v fs) (Nat.succ_le_succ h)
theorem put6 (a b c d e f : V) : putF "up" f (putF "drawer" e (putF "held" d (putF "spots" c (putF "covers" b (putF "names" a []))))) = ([("names", a), ("covers", b), ("spots", c), ("held", d), ("drawer", e), ("up", f)] : List (Str × V)) := by
  have h0 : putF "names" a ([] : List (Str × V)) = ([("names", a)] : List (Str × V)) := putF_new (show ("names" : Str) ∉ ([] : List Str) by decide +kernel)
  have h1 : putF "covers" b ([("names", a)] : List (Str × V)) = ([("names", a), ("covers", b)] : List (Str × V)) := putF_new (show ("covers" : Str) ∉ (["names"] : List Str) by decide +kernel)
  have h2 : putF "spots" c ([("names", a), ("covers", b)] : List (Str × V)) = ([("names", a), ("covers", b), ("spots", c)] : List (Str × V)) := putF_new (show ("spots" : Str) ∉ (["names", "covers"] : List Str) by decide +kernel)
  have h3 : putF "held" d ([("names", a), ("covers", b), ("spots", c)] : List (Str × V)) = ([("names", a), ("covers", b), ("spots", c), ("held", d)] : List (Str × V)) := putF_new (show ("held" : Str) ∉ (["names", "covers", "spots"] : List Str) by decide +kernel)
  have h4 : putF "drawer" e ([("names", a), ("covers", b), ("spots", c), ("held", d)] : List (Str × V)) = ([("names", a), ("covers", b), ("spots", c), ("held", d), ("drawer", e)] : List (Str × V)) := putF_new (show ("drawer" : Str) ∉ (["names", "covers", "spots", "held"] : List Str) by decide +kernel)
  have h5 : putF "up" f ([("names", a), ("covers", b), ("spots", c), ("held", d), ("drawer", e)] : List (Str × V)) = ([("names", a), ("covers", b), ("spots", c), ("held", d), ("drawer", e), ("up", f)] : List (Str × V)) := putF_new (show ("up" : Str) ∉ (["names", "covers", "spots", "held", "drawer"] : List Str) by decide +kernel)
  rw [h0, h1, h2, h3, h4, h5]
theorem put4 (a b c d : V) : putF "lines" d (putF "acts" c (putF "drawn" b (putF "wall" a []))) = ([("wall", a), ("drawn", b), ("acts", c), ("lines", d)] : List (Str × V)) := by
  have h0 : putF "wall" a ([] : List (Str × V)) = ([("wall", a)] : List (Str × V)) := putF_new (show ("wall" : Str) ∉ ([] : List Str) by decide +kernel)
  have h1 : putF "drawn" b ([("wall", a)] : List (Str × V)) = ([("wall", a), ("drawn", b)] : List (Str × V)) := putF_new (show ("drawn" : Str) ∉ (["wall"] : List Str) by decide +kernel)
  have h2 : putF "acts" c ([("wall", a), ("drawn", b)] : List (Str × V)) = ([("wall", a), ("drawn", b), ("acts", c)] : List (Str × V)) := putF_new (show ("acts" : Str) ∉ (["wall", "drawn"] : List Str) by decide +kernel)
  have h3 : putF "lines" d ([("wall", a), ("drawn", b), ("acts", c)] : List (Str × V)) = ([("wall", a), ("drawn", b), ("acts", c), ("lines", d)] : List (Str × V)) := putF_new (show ("lines" : Str) ∉ (["wall", "drawn", "acts"] : List Str) by decide +kernel)
  rw [h0, h1, h2, h3]
def spInit (K : PySem.W.Frag) (t : Bool) : Sp := fun vs H Q _ => ∃ (p dx : Addr) (ws : List V), vs = .ref p :: ws ∧ ws.length = (cF t).length ∧ H p = some (.ins (cA K t) dx []) ∧
  ∀ H' : Hp, H' p = some (.ins (cA K t) dx ((cF t).zip ws)) → (∀ b o, H b = some o → b ≠ p → H' b = some o) → Q .non H'
theorem len4 {ws : List V} (h : ws.length = 4) : ∃ a b c d, ws = [a, b, c, d] := by
  match ws, h with
  | [a, b, c, d], _ => exact ⟨a, b, c, d, rfl⟩
theorem len6 {ws : List V} (h : ws.length = 6) : ∃ a b c d e f, ws = [a, b, c, d, e, f] := by
  match ws, h with
  | [a, b, c, d, e, f], _ => exact ⟨a, b, c, d, e, f, rfl⟩
theorem sc_Wall : FnScope ["self", "names", "covers", "spots", "held", "drawer", "up"] ["self", "names", "covers", "spots", "held", "drawer", "up"] (defScope (inClass (top 53) 0)) := ⟨rfl, rfl, rfl, by decide +kernel, rfl, by decide +kernel, by decide +kernel⟩
theorem sc_Script : FnScope ["self", "wall", "drawn", "acts", "lines"] ["self", "wall", "drawn", "acts", "lines"] (defScope (inClass (top 83) 0)) := ⟨rfl, rfl, rfl, by decide +kernel, rfl, by decide +kernel, by decide +kernel⟩
/-- a method with its promise -/
def GoodM (P : Program) (w : World) (K : PySem.W.Frag) (mg : Str → Option Value) (base : Heap) (k : Nat) (C m : Str) (ps : List Str) (sp : Sp) : Prop :=
  ∃ fd, FnOk P w K mg base CX0 k (He.ma K (He.ga K C) m) fd ps sp ∧ Binds K fd ps []
theorem init_Wall (T : Tx K mg base) : GoodM P w K mg base 1 "Wall" "__init__" ["self", "names", "covers", "spots", "held", "drawer", "up"] (spInit K false) := by
  obtain ⟨fd, F⟩ := T.sysD.def_ 109 (d := mkM 53 0 "Wall" "__init__" "Wall.__init__") rfl
  refine ⟨fd, FunD.ok F sc_Wall (fun vs H Q E h => ?_) fun cdv A outer s H vs Q E hr h => ?_, FunD.bindsN F fun _ _ _ _ _ _ us hl => match us, hl with | [_, _, _, _, _, _, _], _ => rfl⟩
  · obtain ⟨p, dx, ws, rfl, hl, _⟩ := h
    obtain ⟨a, b, c, d, e, f, rfl⟩ := len6 hl
    rfl
  · obtain ⟨p, dx, ws, rfl, hl, hp, k⟩ := h
    obtain ⟨a, b, c, d, e, f, rfl⟩ := len6 hl
    refine ⟨_, PSs.nox (pss_cons (ps_fld (pv 0) (pv 1) rfl) (pss_cons (ps_fld (pv 0) (pv 2) rfl) (pss_cons (ps_fld (pv 0) (pv 3) rfl) (pss_cons (ps_fld (pv 0) (pv 4) rfl) (pss_cons (ps_fld (pv 0) (pv 5) rfl) (pss_one (ps_fld (pv 0) (pv 6) rfl))))))), ?_⟩
    have cl := T.clsT.cl false
    have no := T.clsT.no false
    refine ⟨_, rfl, _, rfl, p, cA K false, dx, _, rfl, hp, cl, no "names" (by decide +kernel), Nat.lt_of_le_of_lt (Nat.le_refl 0) (by decide : 0 < 1000), ?_⟩
    refine ⟨_, rfl, _, rfl, p, cA K false, dx, _, rfl, upd_same, cl, no "covers" (by decide +kernel), Nat.lt_of_le_of_lt (lenp (Nat.le_refl 0)) (by decide : 1 < 1000), ?_⟩
    refine ⟨_, rfl, _, rfl, p, cA K false, dx, _, rfl, upd_same, cl, no "spots" (by decide +kernel), Nat.lt_of_le_of_lt (lenp (lenp (Nat.le_refl 0))) (by decide : 2 < 1000), ?_⟩
    refine ⟨_, rfl, _, rfl, p, cA K false, dx, _, rfl, upd_same, cl, no "held" (by decide +kernel), Nat.lt_of_le_of_lt (lenp (lenp (lenp (Nat.le_refl 0)))) (by decide : 3 < 1000), ?_⟩
    refine ⟨_, rfl, _, rfl, p, cA K false, dx, _, rfl, upd_same, cl, no "drawer" (by decide +kernel), Nat.lt_of_le_of_lt (lenp (lenp (lenp (lenp (Nat.le_refl 0))))) (by decide : 4 < 1000), ?_⟩
    refine ⟨_, rfl, _, rfl, p, cA K false, dx, _, rfl, upd_same, cl, no "up" (by decide +kernel), Nat.lt_of_le_of_lt (lenp (lenp (lenp (lenp (lenp (Nat.le_refl 0)))))) (by decide : 5 < 1000), ?_⟩
    refine k _ (Eq.trans upd_same (congrArg (fun q => some (HO.ins (cA K false) dx q)) (put6 a b c d e f))) fun b o e hb => ?_
    rw [upd_ne hb, upd_ne hb, upd_ne hb, upd_ne hb, upd_ne hb, upd_ne hb]
    exact e
theorem init_Script (T : Tx K mg base) : GoodM P w K mg base 1 "Script" "__init__" ["self", "wall", "drawn", "acts", "lines"] (spInit K true) := by
  obtain ⟨fd, F⟩ := T.sysD.def_ 110 (d := mkM 83 0 "Script" "__init__" "Script.__init__") rfl
  refine ⟨fd, FunD.ok F sc_Script (fun vs H Q E h => ?_) fun cdv A outer s H vs Q E hr h => ?_, FunD.bindsN F fun _ _ _ _ _ _ us hl => match us, hl with | [_, _, _, _, _], _ => rfl⟩
  · obtain ⟨p, dx, ws, rfl, hl, _⟩ := h
    obtain ⟨a, b, c, d, rfl⟩ := len4 hl
    rfl
  · obtain ⟨p, dx, ws, rfl, hl, hp, k⟩ := h
    obtain ⟨a, b, c, d, rfl⟩ := len4 hl
    refine ⟨_, PSs.nox (pss_cons (ps_fld (pv 0) (pv 1) rfl) (pss_cons (ps_fld (pv 0) (pv 2) rfl) (pss_cons (ps_fld (pv 0) (pv 3) rfl) (pss_one (ps_fld (pv 0) (pv 4) rfl))))), ?_⟩
    have cl := T.clsT.cl true
    have no := T.clsT.no true
    refine ⟨_, rfl, _, rfl, p, cA K true, dx, _, rfl, hp, cl, no "wall" (by decide +kernel), Nat.lt_of_le_of_lt (Nat.le_refl 0) (by decide : 0 < 1000), ?_⟩
    refine ⟨_, rfl, _, rfl, p, cA K true, dx, _, rfl, upd_same, cl, no "drawn" (by decide +kernel), Nat.lt_of_le_of_lt (lenp (Nat.le_refl 0)) (by decide : 1 < 1000), ?_⟩
    refine ⟨_, rfl, _, rfl, p, cA K true, dx, _, rfl, upd_same, cl, no "acts" (by decide +kernel), Nat.lt_of_le_of_lt (lenp (lenp (Nat.le_refl 0))) (by decide : 2 < 1000), ?_⟩
    refine ⟨_, rfl, _, rfl, p, cA K true, dx, _, rfl, upd_same, cl, no "lines" (by decide +kernel), Nat.lt_of_le_of_lt (lenp (lenp (lenp (Nat.le_refl 0)))) (by decide : 3 < 1000), ?_⟩
    refine k _ (Eq.trans upd_same (congrArg (fun q => some (HO.ins (cA K true) dx q)) (put4 a b c d))) fun b o e hb => ?_
    rw [upd_ne hb, upd_ne hb, upd_ne hb, upd_ne hb]
    exact e
@[simp] def dMake (t : Bool) (n : Nat) (ts : DA) : DE := fun env Q => ts env fun ds => ds.length = n ∧ Q (.ins t ds)
theorem make_imp {t : Bool} {n : Nat} {ts : DA} (hn : (cF t).length = n) {σ : L2.St} {H : Hp} {Q : VK} (h : LE K (dMake t n ts) σ H Q) : tMake (cA K t) (spInit K t) [] E0 (LA K ts) σ H Q := by
  obtain ⟨G0, H0, G, env, Q', R, q, k⟩ := h
  refine ⟨G0, H0, G, env, _, R, q, ?_⟩
  rintro ds vs G1 H1 ⟨hl, q1⟩ f1 r1 x dx hx hdx ne
  refine ⟨x, dx, vs, by rw [List.append_nil], ?_, upd_same, fun H' e1 kp => ⟨rfl, ?_⟩⟩
  · rw [← r1.len, hl, hn]
  · have g1x : G1 x = none := f1.gh.free hx
    have s1 : Same H1 H' := fun b o e => kp b o (by rw [upd_ne (ne_of_none e hx), upd_ne (ne_of_none e hdx)]; exact e) (ne_of_none e hx)
    have sg : Same G1 (upd G1 x (.ins (cA K t) dx ((cF t).zip vs))) := fun b o e => by rw [upd_ne (ne_of_none e g1x)]; exact e
    have f2 : Fr G1 H1 (upd G1 x (.ins (cA K t) dx ((cF t).zip vs))) H' := ⟨sg, fun b o e => by
      by_cases hb : b = x
      · subst hb; rw [upd_same] at e; cases e; exact e1
      · rw [upd_ne hb] at e; exact s1 _ _ (f1.gh _ _ e), s1, fun b o e n z => by
      by_cases hb : b = x
      · subst hb; exact n hx
      · rw [upd_ne hb, z] at e; cases e⟩
    exact k _ _ _ H' q1 (f1.trans f2) ⟨x, dx, vs, rfl, upd_same, Reps.mono sg _ _ r1⟩
section
variable {X : Cx} {k : Nat} {e : Expr} {es : List Expr} {ts : DA} {p pos : Pos}
theorem de_make_Wall (T : Tx X.K X.mg X.base) (hr : Room 2 X.A) (ha : PA X (e :: es) (LA X.K ts)) (hg : Gl X "Wall" := by rfl) (he : starEach (e :: es) X.env = (false, eval e X.env) :: starEach es X.env := by rfl) (hpl : (backTo pos (starEach es X.env)).any (·.1) = false := by rfl) :
    PE X (.Call (.Name "Wall" p) (e :: es) [] pos) (LE X.K (dMake false 6 ts)) := by
  obtain ⟨fd, F, hb⟩ := init_Wall (P := X.prog) (w := X.w) T
  exact imE (pe_make (He.mkr_ok (T.fact 145 rfl)) F hr hg (T.glo 109 rfl) hb .nil pass0 ha (by decide) he hpl) fun _ _ _ => make_imp (t := false) rfl
theorem de_make_Script (T : Tx X.K X.mg X.base) (hr : Room 2 X.A) (ha : PA X (e :: es) (LA X.K ts)) (hg : Gl X "Script" := by rfl) (he : starEach (e :: es) X.env = (false, eval e X.env) :: starEach es X.env := by rfl) (hpl : (backTo pos (starEach es X.env)).any (·.1) = false := by rfl) :
    PE X (.Call (.Name "Script" p) (e :: es) [] pos) (LE X.K (dMake true 4 ts)) := by
  obtain ⟨fd, F, hb⟩ := init_Script (P := X.prog) (w := X.w) T
  exact imE (pe_make (He.mkr_ok (T.fact 146 rfl)) F hr hg (T.glo 110 rfl) hb .nil pass0 ha (by decide) he hpl) fun _ _ _ => make_imp (t := true) rfl
end

/-! ### a def that gives a new list (number_octets) -/
abbrev DSpF := List D → (List D → Prop) → Prop
def spF (K : PySem.W.Frag) (f : DSpF) : Sp := fun vs H Q _ => ∃ G ds Q', Same G H ∧ Reps K G ds vs ∧ f ds Q' ∧ ∀ es a ws G' H', Q' es → Fr G H G' H' → H a = none → G' a = none → H' a = some (.lst ws) → Reps K G' es ws → Q (.ref a) H'
theorem good_mkF (T : Tx K mg base) (j i : Nat) (x : Str) (hj : fn[j]? = some (mkD (i, x))) (hgl : fa[j]? = some (.glo x)) {N ps : List Str} (S : FnScope N ps (defScope (top i)))
    (hb : ∀ (kV doc pm : Value) (an : Option Addr) (cdv ct : Value) (us : List Value), us.length = ps.length → bindArgs (PySem.W.fnOf x x (defArgs (top i)) (defBody (top i)) (defScope (top i)) .none kV doc pm an cdv ct) ⟨us, []⟩ = pure (ps.zip us))
    {k : Nat} {f : DSpF} {t : DA}
    (body : ∀ (cdv : Value) (A : Around) (outer : List Env) (s : Shared) (H : Hp) (E : XK), Room k (A.deeper (envOfC x (defScope (top i)) s.heap.objs.size (He.ga K x) cdv)) →
      PSs (cxD P w K mg base N x (defScope (top i)) cdv A outer s H E) (defBody (top i)) (tRet (LF K t)))
    (pure' : ∀ ds Q, f ds Q → ds.length = ps.length ∧ t (startE N.length ds) Q) : Good P w K mg base (k + 1) x ps (spF K f) := by
  obtain ⟨fd, F⟩ := T.sysD.def_ j hj
  refine ⟨fd, FunD.ok F S (fun vs H Q E h => ?_) fun cdv A outer s H vs Q E hr h => ?_, FunD.bindsN F hb, F.kp, T.glo j hgl⟩
  · obtain ⟨G, ds, Q', s, r, hf, _⟩ := h
    rw [← r.len]
    exact (pure' ds Q' hf).1
  · obtain ⟨G, ds, Q', sm, r, hf, hq⟩ := h
    exact ⟨_, (body cdv A outer s H E hr).nox, G, H, G, _, _, Rel.start sm r, (pure' ds Q' hf).2, fun es a ws G' H' q1 f1 n1 n2 e1 r1 => hq es a ws G' H' q1 f1 n1 n2 e1 r1⟩
theorem fix_list {G H G' H' : Hp} {a : Addr} {vs : List V} (f : Fr G H G' H') (n1 : H a = none) (n2 : G' a = none) (e : H' a = some (.lst vs)) : Same G' (upd G' a (.lst vs)) ∧ Fr G H (upd G' a (.lst vs)) H' := by
  have s1 : Same G' (upd G' a (.lst vs)) := fun b u z => by rw [upd_ne (ne_of_none z n2)]; exact z
  refine ⟨s1, f.g.trans s1, fun b u z => ?_, f.h, fun b u z n => ?_⟩
  · by_cases hb : b = a
    · subst hb; rw [upd_same] at z; rw [e]; exact z
    · rw [upd_ne hb] at z; exact f.gh _ _ z
  · by_cases hb : b = a
    · subst hb; exact absurd n1 n
    · rw [upd_ne hb] at z; exact f.new b u z n
/-- a new list is a list -/
theorem Good.ofF {k : Nat} {x : Str} {ps : List Str} {f : DSpF} (g : Good P w K mg base k x ps (spF K f)) : Good P w K mg base k x ps (spD K fun ds Q => f ds fun es => Q (.lst es)) := by
  obtain ⟨fd, F, hb, hk, hm⟩ := g
  refine ⟨fd, F.imp ?_, hb, hk, hm⟩
  rintro vs H Q E ⟨G, ds, Q', s, r, hf, hq⟩
  refine ⟨G, ds, _, s, r, hf, fun es a ws G' H' q1 f1 n1 n2 e1 r1 => ?_⟩
  obtain ⟨s1, f2⟩ := fix_list f1 n1 n2 e1
  exact hq _ _ _ H' q1 f2 ⟨a, ws, rfl, upd_same, Reps.mono s1 _ _ r1⟩
@[simp] def dNum (f : DSpF) (ts : DA) : DA := fun env Q => ts env fun ds => f ds Q
section
variable {X : Cx} {k : Nat} {x : Str} {ps : List Str} {f : DSpF} {e : Expr} {es : List Expr} {ts : DA} {p pos : Pos}
theorem de_num (g : Good X.prog X.w X.K X.mg X.base k x ps (spF X.K f)) (hr : Room k X.A) (ha : PA X (e :: es) (LA X.K ts)) (hg : Gl X x := by rfl) (hdb : (x == ("__debug__" : Str)) = false := by decide)
    (he : starEach (e :: es) X.env = (false, eval e X.env) :: starEach es X.env := by rfl) (hpl : (backTo pos (starEach es X.env)).any (·.1) = false := by rfl) : PE X (.Call (.Name x p) (e :: es) [] pos) (LF X.K (dNum f ts)) := by
  obtain ⟨fd, F, hb, hk, hm⟩ := g
  refine imE (pe_call F hr hg hm hk hb .nil pass0 ha hdb he hpl) ?_
  rintro σ H Q ⟨G0, H0, G, env, Q', R, q, k⟩
  refine ⟨G0, H0, G, env, _, R, q, fun ds vs G1 H1 q1 f1 r1 => ?_⟩
  refine ⟨G1, ds, Q', f1.gh, ?_, q1, fun es a ws G2 H2 q2 f2 n1 n2 e2 r2 => k es a ws G2 H2 q2 (f1.trans f2) (f1.h.free n1) n2 e2 r2⟩
  rw [List.append_nil]
  exact r1
end

/-! ### xs.append(e), e reads own lists, its value a list of ints that is none of them -/
def D.headL : List D → Bool
  | [] => true
  | .lst _ :: _ => true
  | _ => false
@[simp] def dAppO (i : Nat) (t : DE) : DS := fun Dn env => ∃ ds, env[i]? = some (.own ds) ∧ (∀ (j : Nat) (es : List D), env[j]? = some (Slot.own es) → D.headL es = true) ∧ t (opn env) fun d => ∃ ns : List Int, d = .lst (ns.map D.int) ∧ ns ≠ [] ∧ ds.length < 16777216 ∧ Dn.nx (env.set i (.own (ds ++ [d])))
/-- a value of the opened heap that is a list of ints stands apart from the own lists -/
theorem apart_ints {G0 H0 G G1 H G2 H2 : Hp} {env : Env'} {σ : L2.St} {ns : List Int} {v : V} (R : Rel K G0 H0 G H env σ) (R1 : Rel K G0 H0 G1 H (opn env) σ) (s1 : Same G G1)
    (old : ∀ (b : Addr) (u : HO), G1 b = some u → G b = none → ∃ (j : Nat) (es : List D), env[j]? = some (Slot.own es) ∧ σ[j]? = some (some (.ref b)))
    (hd : ∀ (j : Nat) (es : List D), env[j]? = some (Slot.own es) → D.headL es = true) (hns : ns ≠ []) (f : Fr G1 H G2 H2) (r : Rep K G2 (.lst (ns.map D.int)) v) : ∃ G3, Fr G H G3 H2 ∧ Rep K G3 (.lst (ns.map D.int)) v := by
  obtain ⟨b, vs, rfl, e, rr⟩ := r
  rw [reps_ints] at rr
  subst rr
  have hb2 : H2 b = some (.lst (ns.map V.int)) := f.gh _ _ e
  refine ⟨upd G b (.lst (ns.map V.int)), ⟨fun c u z => ?_, fun c u z => ?_, f.h, fun c u z n => ?_⟩, b, _, rfl, upd_same, reps_ints.mpr rfl⟩
  · by_cases hc : c = b
    · subst hc
      have := f.g _ _ (s1 _ _ z)
      rw [e] at this
      rw [upd_same]
      exact this
    · rw [upd_ne hc]; exact z
  · by_cases hc : c = b
    · subst hc; rw [upd_same] at z; rw [hb2]; exact z
    · rw [upd_ne hc] at z; exact f.h _ _ (R.fr.gh _ _ z)
  · by_cases hc : c = b
    · subst hc
      intro gn
      have n1 := f.new _ _ e n
      cases q : G1 c with
      | none => exact n1 q
      | some u1 =>
        obtain ⟨j, es, ej, ej2⟩ := old c u1 q gn
        obtain ⟨o, q1, a', ws, q2, h0, h1, h2, h3⟩ := R.at_ j _ ej
        rw [ej2] at q1
        cases q1
        cases q2
        have e3 := f.h _ _ h2
        rw [hb2] at e3
        have e4 : ns.map V.int = ws := by
          have := Option.some.inj e3
          injection this
        subst e4
        have hj := hd j es ej
        cases ns with
        | nil => exact hns rfl
        | cons m ns =>
          cases es with
          | nil =>
            have := h3.len
            simp at this
          | cons d0 es =>
            obtain ⟨v0, us, z1, z2, z3⟩ := h3
            rw [List.map_cons] at z1
            have z4 : V.int m = v0 := (List.cons.inj z1).1
            subst z4
            cases d0 with
            | lst ds0 =>
              obtain ⟨a0, vs0, z5, _⟩ := z2
              cases z5
            | _ => cases hj
    · intro gn
      rw [upd_ne hc, gn] at z
      cases z
section
variable {X : Cx} {e : Expr} {te : DE} {i : Nat} {x : Str} {px pos apos cpos : Pos}
theorem ds_appO (he : PE X e (LE X.K te)) (hi : X.N[i]? = some x := by rfl) (hv : Vis X.env.scope x := by first | exact Or.inl rfl | exact Or.inr (Or.inl rfl) | exact Or.inr (Or.inr rfl)) (hd : (x == ("__debug__" : Str)) = false := by decide)
    (hcd : (x == ("__classdict__" : Str)) = false := by decide) (hbase : attributeBase (.Name x px) "append" X.env (eval (.Name x px) X.env) = eval (.Name x px) X.env := by rfl)
    (hfew : ((backTo cpos (starEach [e] X.env)).all (fun x => !x.1) && (backToKw cpos (keywordEach [] X.env)).all (fun x => x.1.isSome)
      && decide ([e].length + ([] : List Keyword).length + (if ([] : List Keyword).isEmpty then 0 else 1) < 30)) = true := by rfl)
    (hline : (apos.endLine == cpos.line) = true := by rfl) (hs : starEach [e] X.env = (false, eval e X.env) :: starEach [] X.env := by rfl) (hplain : (backTo cpos (starEach [] X.env)).any (·.1) = false := by rfl)
    (hsw : swapsWith (.Call (.Attribute (.Name x px) "append" apos) [e] [] cpos) none pos.line X.env = pure false := by rfl) :
    PS X (.Expr (.Call (.Attribute (.Name x px) "append" apos) [e] [] cpos) pos) (LS X.K (dAppO i te)) := by
  refine imS (ps_expr (pe_bm PySem.F.plainAttrs_list PySem.F.slot_list_append PySem.F.type_list_append mt_append (pe_var hi hv hd hcd) (pa_cons he pa_nil hs) hbase hfew hline hs hplain) hsw) ?_
  rintro D σ H ⟨G0, H0, G, env, D', R, ⟨ds, ei, hh, q⟩, kn, kr⟩
  obtain ⟨a, vs, e2, h2, h1, h3⟩ := own_var R ei
  obtain ⟨G1, s1, R1, old⟩ := R.opn2
  refine ⟨_, e2, .inl ⟨rfl, vs, SqL.of h2⟩, G0, H0, G1, opn env, _, R1, q, ?_⟩
  rintro d v G2 H2 ⟨ns, rfl, hns, hz, q2⟩ f2 r2
  obtain ⟨G3, f3, r3⟩ := apart_ints R R1 s1 old hh hns f2 r2
  refine ⟨a, vs, v, rfl, rfl, f3.h _ _ h2, ?_, ?_⟩
  · rw [sizeLine_eq, ← h3.len]
    exact hz
  · exact kn _ _ G3 _ q2 ((R.step f3).write ei e2 ((Reps.mono f3.g _ _ h3).app (Reps.cons r3 Reps.nil)))
end
end PW
set_option Elab.async false
set_option linter.all false
set_option maxRecDepth 100000
set_option maxHeartbeats 2000000
namespace PW
open PySem PySem.Spec PyProof.Rows L2
variable {P : Program} {w : World} {K : PySem.W.Frag} {mg : Str → Option Value} {base : Heap}

/-! ### the session: one object whose list of places is written -/
def er (H : Hp) (l : Addr) : Hp := fun b => if b = l then none else H b
theorem er_same {H : Hp} {l : Addr} : er H l l = none := if_pos rfl
theorem er_ne {H : Hp} {l b : Addr} (h : b ≠ l) : er H l b = H b := if_neg h
abbrev DSpS := List D → List D → (D → List D → Prop) → Prop
def spS (K : PySem.W.Frag) (f : DSpS) : Sp := fun vs H Q _ => ∃ p dx l vs' ws ss ds G Q', vs = .ref p :: vs' ∧ G p = some (.ins (He.ga K "Session") dx (sesF l)) ∧ G l = none ∧ H l = some (.lst ws) ∧ Reps K G ss ws ∧ Same G H ∧ Reps K G ds vs' ∧ f ss ds Q' ∧
  ∀ d v ss' ws' G' H', Q' d ss' → Fr G (er H l) G' H' → G' l = none → H' l = some (.lst ws') → Reps K G' ss' ws' → Rep K G' d v → Q v H'
abbrev DX := Env' → (D → Env' → Prop) → Prop
def LX (K : PySem.W.Frag) (t : DX) : TE := fun σ H Q => ∃ G0 H0 G env Q', Rel K G0 H0 G H env σ ∧ t env Q' ∧ ∀ d v env' G' H', Q' d env' → Rel K G0 H0 G' H' env' σ → Rep K G' d v → Q v H'
section
variable {G0 H0 G H G' H' : Hp} {env : Env'} {σ : L2.St} {i : Nat} {p l : Addr} {ss ss' : List D} {ws' : List V}
theorem Rel.sesAfter (R : Rel K G0 H0 G H env σ) (e : env[i]? = some (.ses p l ss)) (f : Fr G (er H l) G' H') (n : G' l = none) (e2 : H' l = some (.lst ws')) (r : Reps K G' ss' ws') : Rel K G0 H0 G' H' (env.set i (.ses p l ss')) σ := by
  obtain ⟨o, e3, dx, ws, rfl, hp, l0, lG, lH, rs⟩ := R.at_ i _ e
  have own : ∀ (j : Nat) (b : Addr), OwnA (env.set i (.ses p l ss')) σ j b → OwnA env σ j b := fun j b x => by
    rcases x with ⟨fs, x1, x2⟩ | ⟨q, us, x1⟩
    · rcases get_set x1 with ⟨rfl, z⟩ | ⟨ne, z⟩
      · cases z
      · exact .inl ⟨fs, z, x2⟩
    · rcases get_set x1 with ⟨rfl, z⟩ | ⟨ne, z⟩
      · cases z
        exact .inr ⟨p, ss, e⟩
      · exact .inr ⟨q, us, z⟩
  have hne : ∀ b o, H0 b = some o → b ≠ l := fun b o z => ne_of_none z l0
  refine ⟨⟨R.fr.g.trans f.g, f.gh, fun b o z => f.h _ _ (by rw [er_ne (hne b o z)]; exact R.fr.h _ _ z), fun b o z nn => ?_⟩, by simp [R.len], fun j s z => ?_, fun j k b x y => R.dst j k b (own j b x) (own k b y)⟩
  · cases q : H0 b with
    | none => exact absurd q nn
    | some u =>
      have n1 := f.new b o z (by rw [er_ne (hne b u q), R.fr.h _ _ q]; exact fun z => nomatch z)
      cases q2 : G b with
      | none => exact absurd q2 n1
      | some u2 =>
        have := R.fr.new b u2 q2 nn
        exact this
  · rcases get_set z with ⟨rfl, rfl⟩ | ⟨ne, z2⟩
    · exact ⟨_, e3, dx, ws', rfl, f.g _ _ hp, l0, n, e2, r⟩
    · obtain ⟨o, q1, r1⟩ := R.at_ j s z2
      refine ⟨o, q1, ?_⟩
      cases s with
      | un => trivial
      | val d =>
        obtain ⟨v, rfl, h⟩ := r1
        exact ⟨v, rfl, Rep.mono f.g _ _ h⟩
      | own es =>
        obtain ⟨b, us, rfl, g0, g1, g2, g3⟩ := r1
        have nb : b ≠ l := fun q => by
          subst q
          exact ne (R.dst i j b (.inr ⟨p, ss, e⟩) (.inl ⟨es, z2, q1⟩))
        have g2' : er H l b = some (.lst us) := by rw [er_ne nb]; exact g2
        exact ⟨b, us, rfl, g0, free_step f g1 g2', f.h _ _ g2', Reps.mono f.g _ _ g3⟩
      | ses q m us =>
        obtain ⟨dx', vs', rfl, g0, g1, g2, g3, g4⟩ := r1
        have nb : m ≠ l := fun q' => by
          subst q'
          exact ne (R.dst i j m (.inr ⟨p, ss, e⟩) (.inr ⟨q, us, z2⟩))
        have g3' : er H l m = some (.lst vs') := by rw [er_ne nb]; exact g3
        exact ⟨dx', vs', rfl, f.g _ _ g0, g1, free_step f g2 g3', f.h _ _ g3', Reps.mono f.g _ _ g4⟩
/-- a session function's names at its entry -/
@[simp] def startS (p l : Addr) (ss : List D) (n : Nat) (ds : List D) : Env' := .ses p l ss :: startE (n - 1) ds
theorem Rel.startS {N : List Str} {dx : Addr} {ds : List D} {ws vs : List V} (hN : 0 < N.length) (s : Same G H) (hp : G p = some (.ins (He.ga K "Session") dx (sesF l))) (lG : G l = none) (lH : H l = some (.lst ws)) (rs : Reps K G ss ws) (r : Reps K G ds vs) :
    Rel K G (er H l) G H (startS p l ss N.length ds) (L2.start N (.ref p :: vs)) := by
  have hN' : N.drop 1 = N.tail := by simp
  have e1 : L2.start N (.ref p :: vs) = some (.ref p) :: L2.start (N.drop 1) vs := by
    unfold L2.start
    simp only [List.map_cons, List.length_cons, List.cons_append, List.length_drop]
    congr 3
    omega
  have e2 : PW.startS p l ss N.length ds = .ses p l ss :: startE (N.drop 1).length ds := by
    unfold PW.startS
    rw [List.length_drop]
  rw [e1, e2]
  have R := Rel.start (N := N.drop 1) s r
  have noown : ∀ (j : Nat) (b : Addr), OwnA (.ses p l ss :: startE (N.drop 1).length ds) (some (.ref p) :: L2.start (N.drop 1) vs) j b → j = 0 := fun j b x => by
    cases j with
    | zero => rfl
    | succ j =>
      have y : OwnA (startE (N.drop 1).length ds) (L2.start (N.drop 1) vs) j b := by
        rcases x with ⟨es, x1, x2⟩ | ⟨q, us, x1⟩
        · exact .inl ⟨es, by simpa using x1, by simpa using x2⟩
        · exact .inr ⟨q, us, by simpa using x1⟩
      have m : ∀ sl, (startE (N.drop 1).length ds)[j]? = some sl → (∃ d, sl = .val d) ∨ sl = .un := fun sl e => by
        have m := List.mem_of_getElem? e
        unfold startE at m
        rcases List.mem_append.mp m with m | m
        · obtain ⟨d, _, rfl⟩ := List.mem_map.mp m
          exact .inl ⟨d, rfl⟩
        · exact .inr (List.eq_of_mem_replicate m)
      rcases y with ⟨es, e1, _⟩ | ⟨q, us, e1⟩
      · rcases m _ e1 with ⟨d, z⟩ | z <;> cases z
      · rcases m _ e1 with ⟨d, z⟩ | z <;> cases z
  refine ⟨⟨Same.refl _, s, fun b o e => ?_, fun b o e _ z => by rw [z] at e; cases e⟩, by simpa using R.len, fun j sl e => ?_, fun j k b x y => by rw [noown j b x, noown k b y]⟩
  · unfold er at e
    split at e
    · cases e
    · exact e
  · cases j with
    | zero =>
      have : sl = .ses p l ss := by simpa using e.symm
      subst this
      exact ⟨_, rfl, dx, ws, rfl, hp, er_same, lG, lH, rs⟩
    | succ j =>
      have e' : (startE (N.drop 1).length ds)[j]? = some sl := by simpa using e
      obtain ⟨o, q1, r1⟩ := R.at_ j sl e'
      refine ⟨o, by simpa using q1, ?_⟩
      cases sl with
      | un => trivial
      | val d => exact r1
      | own es =>
        have := noown (j + 1) 0
        obtain ⟨a, us, rfl, g0, g1, g2, g3⟩ := r1
        exact absurd (noown (j + 1) a (.inl ⟨es, e, by simpa using q1⟩)) (by omega)
      | ses q m us => exact absurd (noown (j + 1) m (.inr ⟨q, us, e⟩)) (by omega)
end
section
variable {X : Cx} {t : DX} {tt : DE} {e : Expr} {st : Stmt} {pos px : Pos} {i : Nat} {x : Str}
@[simp] def dLift (t : DE) : DX := fun env Q => t env fun d => Q d env
@[simp] def dRetX (t : DX) : DS := fun D env => t env fun d env' => D.rt d env'
@[simp] def dSetX (i : Nat) (t : DX) : DS := fun D env => t env fun d env' => D.nx (env'.set i (.val d))
@[simp] def dExprX (t : DX) : DS := fun D env => t env fun _ env' => D.nx env'
theorem dx_ret (he : PE X e (LX X.K t)) : PS X (.Return (some e) pos) (LS X.K (dRetX t)) := by
  refine imS (ps_ret he) ?_
  rintro D σ H ⟨G0, H0, G, env, D', R, q, kn, kr⟩
  exact ⟨G0, H0, G, env, _, R, q, fun d v env' G2 H2 q2 R2 r2 => kr d v _ σ G2 H2 q2 R2 r2⟩
theorem dx_set (hN : X.N.Nodup) (he : PE X e (LX X.K t)) (hi : X.N[i]? = some x := by rfl) (hx : Loc X.env.scope x := by first | exact Or.inl rfl | exact Or.inr rfl) (hs : swapsWith e (some (.Name x px)) pos.line X.env = pure false := by rfl)
    (hf : X.fn x = true ∨ X.env.scope.names.lookup x = some .local := by first | exact .inl rfl | exact .inr rfl) : PS X (.Assign [.Name x px] e pos) (LS X.K (dSetX i t)) := by
  refine imS (ps_set hN hi hx he hs hf) ?_
  rintro D σ H ⟨G0, H0, G, env, D', R, q, kn, kr⟩
  exact ⟨G0, H0, G, env, _, R, q, fun d v env' G2 H2 q2 R2 r2 => kn _ _ G2 H2 q2 (R2.setV r2)⟩
theorem dx_expr (he : PE X e (LX X.K t)) (hs : swapsWith e none pos.line X.env = pure false := by rfl) : PS X (.Expr e pos) (LS X.K (dExprX t)) := by
  refine imS (ps_expr he hs) ?_
  rintro D σ H ⟨G0, H0, G, env, D', R, q, kn, kr⟩
  exact ⟨G0, H0, G, env, _, R, q, fun d v env' G2 H2 q2 R2 r2 => kn _ _ G2 H2 q2 R2⟩
/-! calls that take the session -/
@[simp] def dCallS (i : Nat) (f : DSpS) (ts : DA) : DX := fun env Q => ∃ p l ss, env[i]? = some (.ses p l ss) ∧ ts env fun ds => f ss ds fun d ss' => Q d (env.set i (.ses p l ss'))
theorem ses_call {f : DSpS} {σ : L2.St} {H : Hp} {Q : VK} {G0 H0 G G1 H1 : Hp} {env : Env'} {Q' : D → Env' → Prop} {p l : Addr} {ss ds : List D} {vs : List V} (R : Rel K G0 H0 G H env σ) (ei : env[i]? = some (.ses p l ss)) (f1 : Fr G H G1 H1) (r1 : Reps K G1 ds vs)
    (q1 : f ss ds fun d ss' => Q' d (env.set i (.ses p l ss'))) (k : ∀ d v env' G' H', Q' d env' → Rel K G0 H0 G' H' env' σ → Rep K G' d v → Q v H') : spS K f (.ref p :: (vs ++ [])) H1 Q E0 := by
  have R1 := R.step f1
  obtain ⟨o, e3, dx, ws, rfl, hp, l0, lG, lH, rs⟩ := R1.at_ i _ ei
  rw [List.append_nil]
  exact ⟨p, dx, l, vs, ws, ss, ds, G1, _, rfl, hp, lG, lH, rs, f1.gh, r1, q1, fun d v ss' ws' G2 H2 q2 f2 n2 e2 r2 rv => k d v _ G2 H2 q2 (R1.sesAfter ei f2 n2 e2 r2) rv⟩
theorem ses_at {G0 H0 G H : Hp} {env : Env'} {σ : L2.St} {p l : Addr} {ss : List D} (R : Rel K G0 H0 G H env σ) (ei : env[i]? = some (.ses p l ss)) : σ[i]? = some (some (.ref p)) ∧ ∃ dx, G p = some (.ins (He.ga K "Session") dx (sesF l)) := by
  obtain ⟨o, e3, dx, ws, rfl, hp, _⟩ := R.at_ i _ ei
  exact ⟨e3, dx, hp⟩
variable {k : Nat} {y : Str} {ps : List Str} {f : DSpS} {es : List Expr} {ts : DA} {p pn apos : Pos}
theorem dx_call (g : Good X.prog X.w X.K X.mg X.base k y ps (spS X.K f)) (hr : Room k X.A) (ha : PA X es (LA X.K ts)) (hi : X.N[i]? = some x := by rfl) (hv : Vis X.env.scope x := by first | exact Or.inl rfl | exact Or.inr (Or.inl rfl) | exact Or.inr (Or.inr rfl))
    (hd : (x == ("__debug__" : Str)) = false := by decide) (hcd : (x == ("__classdict__" : Str)) = false := by decide) (hg : Gl X y := by rfl) (hdb : (y == ("__debug__" : Str)) = false := by decide)
    (he : starEach (.Name x pn :: es) X.env = (false, eval (.Name x pn) X.env) :: starEach es X.env := by rfl) (hpl : (backTo pos (starEach es X.env)).any (·.1) = false := by rfl) : PE X (.Call (.Name y p) (.Name x pn :: es) [] pos) (LX X.K (dCallS i f ts)) := by
  obtain ⟨fd, F, hb, hk, hm⟩ := g
  refine imE (pe_call F hr hg hm hk hb .nil pass0 (pa_cons (pe_var hi hv hd hcd) ha he) hdb he hpl) ?_
  rintro σ H Q ⟨G0, H0, G, env, Q', R, ⟨p, l, ss, ei, q⟩, k⟩
  obtain ⟨e3, dx, hp⟩ := ses_at R ei
  exact ⟨.ref p, e3, G0, H0, G, env, _, R, q, fun ds vs G1 H1 q1 f1 r1 => ses_call R ei f1 r1 q1 k⟩
theorem sesF_no {l : Addr} {m : Str} (h : (m == ("places" : Str)) = false) : (sesF l).lookup m = none := by
  unfold sesF
  simp only [List.lookup, h]
theorem Tx.sesC (T : Tx K mg base) : Cls K (He.ga K "Session") := He.cls_ok (T.fact 144 rfl)
theorem Tx.sesN (T : Tx K mg base) : NoAttr K (He.ga K "Session") "places" := He.noat_ok (T.fact 160 rfl)
theorem dx_meth {pl : Sem Bool} {m : Str} (T : Tx X.K X.mg X.base) (g : GoodM X.prog X.w X.K X.mg X.base k "Session" m ps (spS X.K f)) (hm : Meth X.K (He.ga X.K "Session") m (He.ma X.K (He.ga X.K "Session") m)) (hr : Room k X.A) (ha : PA X (e :: es) (LA X.K ts))
    (hne : (m == ("places" : Str)) = false := by decide +kernel) (hi : X.N[i]? = some x := by rfl) (hv : Vis X.env.scope x := by first | exact Or.inl rfl | exact Or.inr (Or.inl rfl) | exact Or.inr (Or.inr rfl))
    (hd : (x == ("__debug__" : Str)) = false := by decide) (hcd : (x == ("__classdict__" : Str)) = false := by decide)
    (hst : starEach (e :: es) X.env = (false, eval e X.env) :: starEach es X.env := by rfl) (hpl : (backTo pos (starEach es X.env)).any (·.1) = false := by rfl)
    (ht : eval (.Call (.Attribute (.Name x pn) m apos) (e :: es) [] pos) X.env = (do
      let ov ← eval (.Name x pn) X.env
      standAt apos.atName
      let (f, first) ← holding [ov] (getMethod ov m pl)
      callWith pos f first (backTo pos (starEach (e :: es) X.env)) (backToKw pos (keywordEach [] X.env))) := by rfl) :
    PE X (.Call (.Attribute (.Name x pn) m apos) (e :: es) [] pos) (LX X.K (dCallS i f ts)) := by
  obtain ⟨fd, F, hb⟩ := g
  refine imE (pe_meth (pe_var hi hv hd hcd) T.sesC hm F hr hb .nil pass0 ha hst hpl ht) ?_
  rintro σ H Q ⟨G0, H0, G, env, Q', R, ⟨p, l, ss, ei, q⟩, k⟩
  obtain ⟨e3, dx, hp⟩ := ses_at R ei
  exact ⟨.ref p, e3, p, dx, _, rfl, R.fr.gh _ _ hp, sesF_no hne, G0, H0, G, env, _, R, q, fun ds vs G1 H1 q1 f1 r1 => ses_call R ei f1 r1 q1 k⟩
/-! self.places[place], and its store -/
@[simp] def dPlaces (i : Nat) (tb : DE) : DE := fun env Q => ∃ p l ss, env[i]? = some (.ses p l ss) ∧ tb env fun y => ∃ j d, y = .int j ∧ 0 ≤ j ∧ ss[j.toNat]? = some d ∧ Q d
theorem sesF_at {l : Addr} : (sesF l).lookup ("places" : Str) = some (.ref l) := by
  unfold sesF
  simp [List.lookup]
variable {b : Expr} {tb te : DE} {bpos : Pos}
theorem de_places (T : Tx X.K X.mg X.base) (hb : PE X b (LE X.K tb)) (hi : X.N[i]? = some x := by rfl) (hv : Vis X.env.scope x := by first | exact Or.inl rfl | exact Or.inr (Or.inl rfl) | exact Or.inr (Or.inr rfl))
    (hd : (x == ("__debug__" : Str)) = false := by decide) (hcd : (x == ("__classdict__" : Str)) = false := by decide) (hba : attributeBase (.Name x pn) "places" X.env (eval (.Name x pn) X.env) = eval (.Name x pn) X.env := by rfl) (hs : PlainIx b := by exact fun _ _ => rfl) :
    PE X (.Subscript (.Attribute (.Name x pn) "places" apos) b pos) (LE X.K (dPlaces i tb)) := by
  refine imE (pe_ix ix_seq (pe_fld (pe_var hi hv hd hcd) hba) hb hs) ?_
  rintro σ H Q ⟨G0, H0, G, env, Q', R, ⟨p, l, ss, ei, q⟩, k⟩
  obtain ⟨o, e3, dx, ws, rfl, hp, l0, lG, lH, rs⟩ := R.at_ i _ ei
  refine ⟨.ref p, e3, p, _, dx, _, .ref l, rfl, R.fr.gh _ _ hp, T.sesC, T.sesN, sesF_at, G0, H0, G, env, _, R, q, ?_⟩
  rintro d v G1 H1 ⟨j, d2, rfl, h0, hj, q1⟩ f1 r1
  obtain ⟨u, hu, ru⟩ := rs.get hj
  have ei : j = ((j.toNat : Nat) : Int) := by omega
  refine .inl ⟨l, ws, j, u, rfl, r1, SqL.of (f1.h _ _ lH), by rw [ei]; exact atI_nat hu, k d2 u G1 H1 q1 f1 (Rep.mono f1.g _ _ ru)⟩
@[simp] def dStand (i : Nat) (te tb : DE) : DS := fun D env => te env fun d => ∃ p l ss, env[i]? = some (.ses p l ss) ∧ tb env fun y => ∃ j, y = .int j ∧ 0 ≤ j ∧ j < ss.length ∧ D.nx (env.set i (.ses p l (ss.set j.toNat d)))
theorem ds_stand (T : Tx X.K X.mg X.base) (he : PE X e (LE X.K te)) (hb : PE X b (LE X.K tb)) (hi : X.N[i]? = some x := by rfl) (hv : Vis X.env.scope x := by first | exact Or.inl rfl | exact Or.inr (Or.inl rfl) | exact Or.inr (Or.inr rfl))
    (hd : (x == ("__debug__" : Str)) = false := by decide) (hcd : (x == ("__classdict__" : Str)) = false := by decide) (hba : attributeBase (.Name x pn) "places" X.env (eval (.Name x pn) X.env) = eval (.Name x pn) X.env := by rfl)
    (hss : ∀ v, assign (.Subscript (.Attribute (.Name x pn) "places" apos) b bpos) X.env v = (do
      let ov ← holding [v] (eval (.Attribute (.Name x pn) "places" apos) X.env)
      let iv ← holding [v, ov] (eval b X.env)
      standAt bpos
      holding [v, ov, iv] (setItem ov iv v)
      release [v, ov, iv] []) := by intro _; rfl)
    (hs : swapsWithSole [.Subscript (.Attribute (.Name x pn) "places" apos) b bpos] e pos.line X.env = pure false := by rfl) (hw : swappedStores [.Subscript (.Attribute (.Name x pn) "places" apos) b bpos] e X.env = pure none := by rfl)
    (h1 : (assignEach [.Subscript (.Attribute (.Name x pn) "places" apos) b bpos] X.env).map (·.2) = [assign (.Subscript (.Attribute (.Name x pn) "places" apos) b bpos) X.env] := by rfl) :
    PS X (.Assign [.Subscript (.Attribute (.Name x pn) "places" apos) b bpos] e pos) (LS X.K (dStand i te tb)) := by
  refine imS (ps_asg he (pg_sub (pe_fld (pe_var hi hv hd hcd) hba) hb set_list hss) hs hw h1) ?_
  rintro D σ H ⟨G0, H0, G, env, D', R, q, kn, kr⟩
  refine ⟨G0, H0, G, env, _, R, q, ?_⟩
  rintro d v G1 H1 ⟨p, l, ss, ei, q1⟩ f1 r1
  have R1 := R.step f1
  obtain ⟨o, e3, dx, ws, rfl, hp, l0, lG, lH, rs⟩ := R1.at_ i _ ei
  refine ⟨.ref p, e3, p, _, dx, _, .ref l, rfl, R1.fr.gh _ _ hp, T.sesC, T.sesN, sesF_at, G0, H0, G1, env, _, R1, q1, ?_⟩
  rintro y vy G2 H2 ⟨j, rfl, h0, hj, q2⟩ f2 ry
  have hl2 := f2.h _ _ lH
  have hix : ixN ws.length j = some j.toNat := by
    have := rs.len
    unfold ixN
    rw [if_pos h0, if_pos (by omega)]
  refine ⟨l, ws, j, j.toNat, rfl, ry, hl2, hix, ?_⟩
  refine kn _ _ G2 _ q2 ?_
  have R2 := R1.step f2
  obtain ⟨_, _, _, _, _, _, _, lG2, _⟩ := R2.at_ i _ ei
  refine R2.sesAfter (ss' := ss.set j.toNat d) (ws' := ws.set j.toNat v) (i := i) (p := p) (l := l) (ss := ss) ei ⟨Same.refl _, fun b u z => ?_, fun b u z => ?_, fun b u z _ => some_ne_none z⟩ lG2 upd_same ((Reps.mono f2.g _ _ rs).set (Rep.mono f2.g _ _ r1) _)
  · rw [upd_ne (ne_of_none z lG2)]; exact f2.gh _ _ z
  · unfold er at z
    split at z
    · cases z
    · rename_i nb
      rw [upd_ne nb]; exact z
end
end PW
set_option Elab.async false
set_option linter.all false
set_option maxRecDepth 100000
set_option maxHeartbeats 2000000
namespace PW
open PySem PySem.Spec PyProof.Rows L2
variable {P : Program} {w : World} {K : PySem.W.Frag} {mg : Str → Option Value} {base : Heap}

section
variable {f : DSpS} {t : DS} {N ps : List Str} {k : Nat}
/-- what a session function's body is to reach -/
@[simp] def endS (p l : Addr) (Q : D → List D → Prop) : DN := ⟨fun env => ∃ ss', env[0]? = some (.ses p l ss') ∧ Q .non ss', fun d env => ∃ ss', env[0]? = some (.ses p l ss') ∧ Q d ss'⟩
theorem body_S {X : Cx} {body : List Stmt} {Q : VK} {H : Hp} (hXK : X.K = K) (hN : 0 < N.length) (hb : PSs X body (LS X.K t)) {vs : List V} (h : spS K f vs H Q E0)
    (pure' : ∀ p l ss ds Q, f ss ds Q → t (endS p l Q) (startS p l ss N.length ds)) : ∃ t, PSs X body t ∧ t { nx := fun _ H' => Q .non H', rt := Q } (L2.start N vs) H := by
  obtain ⟨p, dx, l, vs', ws, ss, ds, G, Q', rfl, hp, lG, lH, rs, sm, r, hf, hq⟩ := h
  subst hXK
  refine ⟨_, hb, G, er H l, G, _, _, Rel.startS hN sm hp lG lH rs r, pure' p l ss ds Q' hf, ?_, ?_⟩
  · rintro env' σ' G' H' ⟨ss', e, q⟩ R'
    obtain ⟨o, e3, dx', ws', rfl, hp', l0, lG', lH', rs'⟩ := R'.at_ 0 _ e
    exact hq _ _ ss' ws' G' H' q R'.fr lG' lH' rs' rfl
  · rintro d v env' σ' G' H' ⟨ss', e, q⟩ R' rv
    obtain ⟨o, e3, dx', ws', rfl, hp', l0, lG', lH', rs'⟩ := R'.at_ 0 _ e
    exact hq _ _ ss' ws' G' H' q R'.fr lG' lH' rs' rv
theorem spS_len {n : Nat} {vs : List V} {H : Hp} {Q : VK} {E : XK} (h : spS K f vs H Q E) (hl : ∀ ss ds Q, f ss ds Q → ds.length + 1 = n) : vs.length = n := by
  obtain ⟨p, dx, l, vs', ws, ss, ds, G, Q', rfl, hp, lG, lH, rs, sm, r, hf, hq⟩ := h
  rw [List.length_cons, ← r.len]
  exact hl ss ds Q' hf
theorem good_mkS (T : Tx K mg base) (j i : Nat) (x : Str) (hj : fn[j]? = some (mkD (i, x))) (hgl : fa[j]? = some (.glo x)) (S : FnScope N ps (defScope (top i))) (hN : 0 < N.length)
    (hb : ∀ (kV doc pm : Value) (an : Option Addr) (cdv ct : Value) (us : List Value), us.length = ps.length → bindArgs (PySem.W.fnOf x x (defArgs (top i)) (defBody (top i)) (defScope (top i)) .none kV doc pm an cdv ct) ⟨us, []⟩ = pure (ps.zip us))
    (body : ∀ (cdv : Value) (A : Around) (outer : List Env) (s : Shared) (H : Hp) (E : XK), Room k (A.deeper (envOfC x (defScope (top i)) s.heap.objs.size (He.ga K x) cdv)) →
      PSs (cxD P w K mg base N x (defScope (top i)) cdv A outer s H E) (defBody (top i)) (LS K t))
    (hl : ∀ ss ds Q, f ss ds Q → ds.length + 1 = ps.length)
    (pure' : ∀ p l ss ds Q, f ss ds Q → t (endS p l Q) (startS p l ss N.length ds)) : Good P w K mg base (k + 1) x ps (spS K f) := by
  obtain ⟨fd, F⟩ := T.sysD.def_ j hj
  refine ⟨fd, FunD.ok F S (fun vs H Q E h => spS_len h hl) fun cdv A outer s H vs Q E hr h => ?_, FunD.bindsN F hb, F.kp, T.glo j hgl⟩
  obtain ⟨t', h1, h2⟩ := body_S (X := cxD P w K mg base N x (defScope (top i)) cdv A outer s H E) rfl hN (body cdv A outer s H E hr) h pure'
  exact ⟨t', h1.nox, h2⟩
theorem good_mkM (T : Tx K mg base) (j n : Nat) (m q : Str) (hj : fn[j]? = some (mkM 139 n "Session" m q)) (S : FnScope N ps (defScope (inClass (top 139) n))) (hN : 0 < N.length)
    (hb : ∀ (kV doc pm : Value) (an : Option Addr) (cdv ct : Value) (us : List Value), us.length = ps.length → bindArgs (PySem.W.fnOf m q (defArgs (inClass (top 139) n)) (defBody (inClass (top 139) n)) (defScope (inClass (top 139) n)) .none kV doc pm an cdv ct) ⟨us, []⟩ = pure (ps.zip us))
    (body : ∀ (cdv : Value) (A : Around) (outer : List Env) (s : Shared) (H : Hp) (E : XK), Room k (A.deeper (envOfC q (defScope (inClass (top 139) n)) s.heap.objs.size (He.ma K (He.ga K "Session") m) cdv)) →
      PSs (cxOf CX0 P w K mg base N q (defScope (inClass (top 139) n)) (He.ma K (He.ga K "Session") m) cdv A outer s H E).nox (defBody (inClass (top 139) n)) (LS K t))
    (hl : ∀ ss ds Q, f ss ds Q → ds.length + 1 = ps.length)
    (pure' : ∀ p l ss ds Q, f ss ds Q → t (endS p l Q) (startS p l ss N.length ds)) : GoodM P w K mg base (k + 1) "Session" m ps (spS K f) := by
  obtain ⟨fd, F⟩ := T.sysD.def_ j hj
  refine ⟨fd, FunD.ok F S (fun vs H Q E h => spS_len h hl) fun cdv A outer s H vs Q E hr h => ?_, FunD.bindsN F hb⟩
  obtain ⟨t', h1, h2⟩ := body_S (X := (cxOf CX0 P w K mg base N q (defScope (inClass (top 139) n)) (He.ma K (He.ga K "Session") m) cdv A outer s H E).nox) rfl hN (body cdv A outer s H E hr) h pure'
  exact ⟨t', h1.nox, h2⟩
end

/-! ### session = Session() -/
theorem sc_Session : FnScope ["self"] ["self"] (defScope (inClass (top 139) 0)) := ⟨rfl, rfl, rfl, by decide +kernel, rfl, by decide +kernel, by decide +kernel⟩
def spInitS (K : PySem.W.Frag) : Sp := fun vs H Q _ => ∃ (p dx : Addr), vs = [.ref p] ∧ H p = some (.ins (He.ga K "Session") dx []) ∧
  ∀ (H' : Hp) (l a0 a1 a2 a3 : Addr), H' p = some (.ins (He.ga K "Session") dx (sesF l)) → H' l = some (.lst [.ref a0, .ref a1, .ref a2, .ref a3]) → (∀ a, a = a0 ∨ a = a1 ∨ a = a2 ∨ a = a3 → H' a = some (.lst []) ∧ H a = none ∧ a ≠ l) →
    H l = none → (∀ b o, H b = some o → b ≠ p → H' b = some o) → Q .non H'
theorem init_Session (T : Tx K mg base) : GoodM P w K mg base 1 "Session" "__init__" ["self"] (spInitS K) := by
  obtain ⟨fd, F⟩ := T.sysD.def_ 111 (d := mkM 139 0 "Session" "__init__" "Session.__init__") rfl
  refine ⟨fd, FunD.ok F sc_Session (fun vs H Q E h => ?_) fun cdv A outer s H vs Q E hr h => ?_, FunD.bindsN F fun _ _ _ _ _ _ us hl => match us, hl with | [_], _ => rfl⟩
  · obtain ⟨p, dx, rfl, _⟩ := h
    rfl
  · obtain ⟨p, dx, rfl, hp, k⟩ := h
    refine ⟨_, PSs.nox (pss_one (ps_fld (pv 0) (pe_lst (pa_cons (pe_lst pa_nil) (pa_cons (pe_lst pa_nil) (pa_cons (pe_lst pa_nil) (pa_cons (pe_lst pa_nil) pa_nil))))) rfl)), ?_⟩
    refine ⟨Nat.zero_le _, fun a0 h0 => ⟨Nat.zero_le _, fun a1 h1 => ⟨Nat.zero_le _, fun a2 h2 => ⟨Nat.zero_le _, fun a3 h3 => ⟨by show 4 ≤ sizeLine; decide, fun l hl => ?_⟩⟩⟩⟩⟩
    have np : ∀ {b : Addr} {o : HO}, upd H a0 (.lst []) b = some o → upd H a0 (.lst []) a1 = none → b ≠ a1 := fun e n => ne_of_none e n
    have e0 : upd H a0 (.lst []) a0 = some (.lst []) := upd_same
    have n01 : a0 ≠ a1 := ne_of_none e0 h1
    have e1 : upd (upd H a0 (.lst [])) a1 (.lst []) a0 = some (.lst []) := by rw [upd_ne n01]; exact e0
    have e1' : upd (upd H a0 (.lst [])) a1 (.lst []) a1 = some (.lst []) := upd_same
    have n02 : a0 ≠ a2 := ne_of_none e1 h2
    have n12 : a1 ≠ a2 := ne_of_none e1' h2
    have p0 : p ≠ a0 := ne_of_none hp h0
    have k1 : upd H a0 (.lst []) p = some (.ins (He.ga K "Session") dx []) := by rw [upd_ne p0]; exact hp
    have p1 : p ≠ a1 := ne_of_none k1 h1
    have k2 : upd (upd H a0 (.lst [])) a1 (.lst []) p = some (.ins (He.ga K "Session") dx []) := by rw [upd_ne p1]; exact k1
    have p2 : p ≠ a2 := ne_of_none k2 h2
    have k3 : upd (upd (upd H a0 (.lst [])) a1 (.lst [])) a2 (.lst []) p = some (.ins (He.ga K "Session") dx []) := by rw [upd_ne p2]; exact k2
    have p3 : p ≠ a3 := ne_of_none k3 h3
    have k4 : upd (upd (upd (upd H a0 (.lst [])) a1 (.lst [])) a2 (.lst [])) a3 (.lst []) p = some (.ins (He.ga K "Session") dx []) := by rw [upd_ne p3]; exact k3
    have pl : p ≠ l := ne_of_none k4 hl
    have f2 : ∀ a, a = a0 ∨ a = a1 → upd (upd H a0 (.lst [])) a1 (.lst []) a = some (.lst []) := fun a h => by rcases h with rfl | rfl; exact e1; exact e1'
    have f3 : ∀ a, a = a0 ∨ a = a1 ∨ a = a2 → upd (upd (upd H a0 (.lst [])) a1 (.lst [])) a2 (.lst []) a = some (.lst []) := fun a h => by
      rcases h with rfl | rfl | rfl
      · rw [upd_ne n02]; exact e1
      · rw [upd_ne n12]; exact e1'
      · exact upd_same
    have f4 : ∀ a, a = a0 ∨ a = a1 ∨ a = a2 ∨ a = a3 → upd (upd (upd (upd H a0 (.lst [])) a1 (.lst [])) a2 (.lst [])) a3 (.lst []) a = some (.lst []) := fun a h => by
      by_cases q : a = a3
      · subst q; exact upd_same
      · rw [upd_ne q]
        exact f3 a (by rcases h with h | h | h | h; exact .inl h; exact .inr (.inl h); exact .inr (.inr h); exact absurd h q)
    have s4 : ∀ b o, H b = some o → upd (upd (upd (upd H a0 (.lst [])) a1 (.lst [])) a2 (.lst [])) a3 (.lst []) b = some o := fun b o e => by
      have z0 : upd H a0 (.lst []) b = some o := by rw [upd_ne (ne_of_none e h0)]; exact e
      have z1 : upd (upd H a0 (.lst [])) a1 (.lst []) b = some o := by rw [upd_ne (ne_of_none z0 h1)]; exact z0
      have z2 : upd (upd (upd H a0 (.lst [])) a1 (.lst [])) a2 (.lst []) b = some o := by rw [upd_ne (ne_of_none z1 h2)]; exact z1
      rw [upd_ne (ne_of_none z2 h3)]; exact z2
    have fr : ∀ a, a = a0 ∨ a = a1 ∨ a = a2 ∨ a = a3 → H a = none := fun a h => by
      cases q : H a with
      | none => rfl
      | some o =>
        have z0 : upd H a0 (.lst []) a = some o := by rw [upd_ne (ne_of_none q h0)]; exact q
        have z1 : upd (upd H a0 (.lst [])) a1 (.lst []) a = some o := by rw [upd_ne (ne_of_none z0 h1)]; exact z0
        have z2 : upd (upd (upd H a0 (.lst [])) a1 (.lst [])) a2 (.lst []) a = some o := by rw [upd_ne (ne_of_none z1 h2)]; exact z1
        rcases h with rfl | rfl | rfl | rfl
        · exact absurd rfl (ne_of_none q h0)
        · exact absurd rfl (ne_of_none z0 h1)
        · exact absurd rfl (ne_of_none z1 h2)
        · exact absurd rfl (ne_of_none z2 h3)
    refine ⟨_, rfl, p, _, dx, [], rfl, by rw [upd_ne pl]; exact k4, T.sesC, T.sesN, (by show 0 < 1000; decide), ?_⟩
    refine k _ l a0 a1 a2 a3 upd_same (by rw [upd_ne (Ne.symm pl)]; exact upd_same) (fun a h => ?_) (by
      cases q : H l with
      | none => rfl
      | some o => rw [s4 l o q] at hl; cases hl) fun b o e hb => ?_
    · have z := f4 a h
      have nl : a ≠ l := ne_of_none z hl
      have nap : a ≠ p := ne_of z k4 (by intro q; cases q)
      exact ⟨by rw [upd_ne nap, upd_ne nl]; exact z, fr a h, nl⟩
    · have z := s4 b o e
      rw [upd_ne hb, upd_ne (ne_of_none z hl)]
      exact z
theorem Rel.setSes {G0 H0 G H : Hp} {env : Env'} {σ : L2.St} {i : Nat} {p l dx : Addr} {ss : List D} {ws : List V} (R : Rel K G0 H0 G H env σ) (hp : G p = some (.ins (He.ga K "Session") dx (sesF l))) (h0 : H0 l = none) (h1 : G l = none) (h2 : H l = some (.lst ws)) (h3 : Reps K G ss ws)
    (hn : ∀ j, ¬ OwnA env σ j l) : Rel K G0 H0 G H (env.set i (.ses p l ss)) (σ.set i (some (.ref p))) := by
  have own : ∀ (j : Nat) (b : Addr), OwnA (env.set i (.ses p l ss)) (σ.set i (some (.ref p))) j b → (j = i ∧ b = l) ∨ OwnA env σ j b := fun j b x => by
    rcases x with ⟨es, e1, e2⟩ | ⟨q, us, e1⟩
    · rcases get_set e1 with ⟨rfl, z⟩ | ⟨ne, z⟩
      · cases z
      · rw [List.getElem?_set_ne ne] at e2
        exact .inr (.inl ⟨es, z, e2⟩)
    · rcases get_set e1 with ⟨rfl, z⟩ | ⟨ne, z⟩
      · cases z
        exact .inl ⟨rfl, rfl⟩
      · exact .inr (.inr ⟨q, us, z⟩)
  refine ⟨R.fr, by simp [R.len], fun j s' e => ?_, fun j k b x y => ?_⟩
  · rcases get_set e with ⟨rfl, rfl⟩ | ⟨ne, z⟩
    · have hi : i < σ.length := by
        have := (List.getElem?_eq_some_iff.mp e).1
        rw [List.length_set, R.len] at this
        exact this
      exact ⟨_, List.getElem?_set_self hi, dx, ws, rfl, hp, h0, h1, h2, h3⟩
    · obtain ⟨u, q, r⟩ := R.at_ j s' z
      exact ⟨u, by rw [List.getElem?_set_ne ne]; exact q, r⟩
  · rcases own j b x with ⟨rfl, rfl⟩ | x'
    · rcases own k b y with ⟨rfl, _⟩ | y'
      · rfl
      · exact absurd y' (hn k)
    · rcases own k b y with ⟨rfl, rfl⟩ | y'
      · exact absurd x' (hn j)
      · exact R.dst j k b x' y'
def places0 : List D := [.lst [], .lst [], .lst [], .lst []]
@[simp] def dSes (i : Nat) : DS := fun D env => ∀ p l, D.nx (env.set i (.ses p l places0))
section
variable {X : Cx} {i : Nat} {x : Str} {px p pos : Pos}
theorem ds_ses (T : Tx X.K X.mg X.base) (hr : Room 2 X.A) (hN : X.N.Nodup) (hi : X.N[i]? = some x := by rfl) (hx : Loc X.env.scope x := by first | exact Or.inl rfl | exact Or.inr rfl) (hg : Gl X "Session" := by rfl)
    (hs : swapsWith (.Call (.Name "Session" p) [] [] pos) (some (.Name x px)) pos.line X.env = pure false := by rfl)
    (hf : X.fn x = true ∨ X.env.scope.names.lookup x = some .local := by first | exact .inl rfl | exact .inr rfl) {spos : Pos} (hs2 : swapsWith (.Call (.Name "Session" p) [] [] pos) (some (.Name x px)) spos.line X.env = pure false := by rfl) :
    PS X (.Assign [.Name x px] (.Call (.Name "Session" p) [] [] pos) spos) (LS X.K (dSes i)) := by
  obtain ⟨fd, F, hb⟩ := init_Session (P := X.prog) (w := X.w) T
  refine imS (ps_set hN hi hx (pe_make0 (He.mkr_ok (T.fact 147 rfl)) F hr hg (T.glo 111 rfl) hb .nil pass0 (by decide)) hs2 hf) ?_
  rintro D σ H ⟨G0, H0, G, env, D', R, q, kn, kr⟩
  intro p dx hp hdx ne
  refine ⟨p, dx, rfl, upd_same, fun H' l a0 a1 a2 a3 ep el ea nl kp => ⟨rfl, ?_⟩⟩
  have sub : ∀ {a : Addr}, upd (upd H dx (.own p)) p (.ins (He.ga X.K "Session") dx []) a = none → a ≠ p ∧ H a = none := fun {a} h => by
    by_cases h1 : a = p
    · rw [h1, upd_same] at h; cases h
    · rw [upd_ne h1] at h
      by_cases h2 : a = dx
      · rw [h2, upd_same] at h; cases h
      · rw [upd_ne h2] at h
        exact ⟨h1, h⟩
  have sH : Same H H' := fun b o e => kp b o (by rw [upd_ne (ne_of_none e hp), upd_ne (ne_of_none e hdx)]; exact e) (ne_of_none e hp)
  have gp : G p = none := R.fr.gh.free hp
  have ga' : ∀ a, a = a0 ∨ a = a1 ∨ a = a2 ∨ a = a3 → H' a = some (.lst []) ∧ H a = none ∧ G a = none ∧ a ≠ l ∧ a ≠ p := fun a h => by
    obtain ⟨z1, z2, z3⟩ := ea a h
    obtain ⟨z4, z5⟩ := sub z2
    exact ⟨z1, z5, R.fr.gh.free z5, z3, z4⟩
  obtain ⟨nlp, hl⟩ := sub nl
  have gl : G l = none := R.fr.gh.free hl
  classical
  let G' : Hp := fun b => if b = p then some (.ins (He.ga X.K "Session") dx (sesF l)) else if b = a0 ∨ b = a1 ∨ b = a2 ∨ b = a3 then some (.lst []) else G b
  have gP : G' p = some (.ins (He.ga X.K "Session") dx (sesF l)) := if_pos rfl
  have gA : ∀ a, a = a0 ∨ a = a1 ∨ a = a2 ∨ a = a3 → G' a = some (.lst []) := fun a h => by
    show (if a = p then _ else _) = _
    rw [if_neg (ga' a h).2.2.2.2, if_pos h]
  have gO : ∀ b, b ≠ p → ¬ (b = a0 ∨ b = a1 ∨ b = a2 ∨ b = a3) → G' b = G b := fun b h1 h2 => by
    show (if b = p then _ else _) = _
    rw [if_neg h1, if_neg h2]
  have sG : Same G G' := fun b o e => by
    have h1 : b ≠ p := ne_of_none e gp
    have h2 : ¬ (b = a0 ∨ b = a1 ∨ b = a2 ∨ b = a3) := fun h => by rw [(ga' b h).2.2.1] at e; cases e
    rw [gO b h1 h2]; exact e
  have f : Fr G H G' H' := ⟨sG, fun b o e => by
    by_cases h1 : b = p
    · subst h1; rw [gP] at e; cases e; exact ep
    · by_cases h2 : b = a0 ∨ b = a1 ∨ b = a2 ∨ b = a3
      · rw [gA b h2] at e; cases e; exact (ga' b h2).1
      · rw [gO b h1 h2] at e; exact sH _ _ (R.fr.gh _ _ e), sH, fun b o e n => by
    by_cases h1 : b = p
    · subst h1; exact absurd hp n
    · by_cases h2 : b = a0 ∨ b = a1 ∨ b = a2 ∨ b = a3
      · exact absurd (ga' b h2).2.1 n
      · rw [gO b h1 h2] at e; exact some_ne_none e⟩
  have gL : G' l = none := by
    rw [gO l nlp fun h => (ga' l h).2.2.2.1 rfl]
    exact gl
  have R' := (R.step f).setSes (i := i) (ss := places0) gP (R.fr.h.free hl) gL el ⟨_, _, rfl, ⟨a0, [], rfl, gA a0 (.inl rfl), rfl⟩, _, _, rfl, ⟨a1, [], rfl, gA a1 (.inr (.inl rfl)), rfl⟩, _, _, rfl, ⟨a2, [], rfl, gA a2 (.inr (.inr (.inl rfl))), rfl⟩, _, _, rfl, ⟨a3, [], rfl, gA a3 (.inr (.inr (.inr rfl))), rfl⟩, rfl⟩ fun j o => by
    obtain ⟨_, _, vs, e⟩ := R.own_at o
    rw [hl] at e
    cases e
  exact kn _ _ G' H' (q p l) R'
end
end PW
set_option Elab.async false
set_option linter.all false
set_option maxRecDepth 100000
set_option maxHeartbeats 2000000
namespace PW
abbrev Units := Panels.Units
@[simp] theorem nc_inj {m n : Nat} : ((m : Int) = (n : Int)) ↔ m = n := Int.natCast_inj
@[simp] theorem and_asc {a b c : Prop} : ((a ∧ b) ∧ c) ↔ a ∧ b ∧ c := and_assoc
@[simp] theorem scal_int {i : Int} : (D.int i).scal = true := rfl
@[simp] theorem scal_bl {i : Bool} : (D.bl i).scal = true := rfl
@[simp high] theorem ex_bl {b : Bool} {p : Bool → Prop} : (∃ c, b = c ∧ p c) ↔ p b := ⟨fun ⟨c, h, hp⟩ => by cases h; exact hp, fun h => ⟨b, rfl, h⟩⟩
/-! ### what stands for what -/
def ints16 (u : Units) : List Int := u.map fun c => ((c.toNat : Nat) : Int)
def ints8 (o : List UInt8) : List Int := o.map fun b => ((b.toNat : Nat) : Int)
def intsN (o : List Nat) : List Int := o.map fun (n : Nat) => Int.ofNat n
def eI (xs : List Int) : D := .lst (xs.map D.int)
def eU (u : Units) : D := eI (ints16 u)
def e8 (o : List UInt8) : D := eI (ints8 o)
def eN (o : List Nat) : D := eI (intsN o)
def eL (us : List Units) : D := .lst (us.map eU)
def eNL (ts : List (List Nat)) : D := .lst (ts.map eN)
def eB (bs : List Bool) : D := .lst (bs.map D.bl)
theorem map_inj {α β : Type} {f : α → β} (hf : ∀ a b, f a = f b → a = b) : ∀ {xs ys : List α}, xs.map f = ys.map f → xs = ys
  | [], [], _ => rfl
  | [], _ :: _, h => by cases h
  | _ :: _, [], h => by cases h
  | x :: xs, y :: ys, h => by
    rw [List.map_cons, List.map_cons] at h
    injection h with h1 h2
    rw [hf _ _ h1, map_inj hf h2]
@[simp] theorem int_map_inj {xs ys : List Int} : xs.map D.int = ys.map D.int ↔ xs = ys := ⟨map_inj fun _ _ h => D.int.inj h, fun h => by rw [h]⟩
theorem ints16_inj {u v : Units} (h : ints16 u = ints16 v) : u = v := map_inj (fun a b h => UInt16.toNat_inj.mp (Int.ofNat.inj h)) h
theorem ints8_inj {u v : List UInt8} (h : ints8 u = ints8 v) : u = v := map_inj (fun a b h => UInt8.toNat_inj.mp (Int.ofNat.inj h)) h
theorem intsN_inj {u v : List Nat} (h : intsN u = intsN v) : u = v := map_inj (fun a b h => Int.ofNat.inj h) h
@[simp] theorem ints16_iff {u v : Units} : ints16 u = ints16 v ↔ u = v := ⟨ints16_inj, fun h => by rw [h]⟩
@[simp] theorem ints8_iff {u v : List UInt8} : ints8 u = ints8 v ↔ u = v := ⟨ints8_inj, fun h => by rw [h]⟩
@[simp] theorem intsN_iff {u v : List Nat} : intsN u = intsN v ↔ u = v := ⟨intsN_inj, fun h => by rw [h]⟩
@[simp] theorem eI_iff {xs ys : List Int} : eI xs = eI ys ↔ xs = ys := ⟨fun h => by unfold eI at h; exact int_map_inj.mp (D.lst.inj h), fun h => by rw [h]⟩
@[simp] theorem eU_iff {u v : Units} : eU u = eU v ↔ u = v := by unfold eU; simp
@[simp] theorem e8_iff {u v : List UInt8} : e8 u = e8 v ↔ u = v := by unfold e8; simp
@[simp] theorem eN_iff {u v : List Nat} : eN u = eN v ↔ u = v := by unfold eN; simp
theorem eL_inj {us vs : List Units} (h : eL us = eL vs) : us = vs := map_inj (fun _ _ h => eU_iff.mp h) (D.lst.inj h)
@[simp] theorem eL_iff {us vs : List Units} : eL us = eL vs ↔ us = vs := ⟨eL_inj, fun h => by rw [h]⟩
@[simp] theorem eNL_iff {us vs : List (List Nat)} : eNL us = eNL vs ↔ us = vs := ⟨fun h => map_inj (fun _ _ h => eN_iff.mp h) (D.lst.inj h), fun h => by rw [h]⟩
@[simp] theorem eB_iff {us vs : List Bool} : eB us = eB vs ↔ us = vs := ⟨fun h => map_inj (fun _ _ h => D.bl.inj h) (D.lst.inj h), fun h => by rw [h]⟩
/-! their items -/
@[simp] theorem items_eI {xs : List Int} : (eI xs).items = some (xs.map D.int) := rfl
@[simp] theorem items_eU {u : Units} : (eU u).items = some ((ints16 u).map D.int) := rfl
@[simp] theorem items_e8 {u : List UInt8} : (e8 u).items = some ((ints8 u).map D.int) := rfl
@[simp] theorem items_eN {u : List Nat} : (eN u).items = some ((intsN u).map D.int) := rfl
@[simp] theorem items_eL {u : List Units} : (eL u).items = some (u.map eU) := rfl
@[simp] theorem items_eNL {u : List (List Nat)} : (eNL u).items = some (u.map eN) := rfl
@[simp] theorem items_eB {u : List Bool} : (eB u).items = some (u.map D.bl) := rfl
@[simp] theorem litems_eI {xs : List Int} : (eI xs).litems = some (xs.map D.int) := rfl
@[simp] theorem litems_eU {u : Units} : (eU u).litems = some ((ints16 u).map D.int) := rfl
@[simp] theorem litems_e8 {u : List UInt8} : (e8 u).litems = some ((ints8 u).map D.int) := rfl
@[simp] theorem litems_eN {u : List Nat} : (eN u).litems = some ((intsN u).map D.int) := rfl
@[simp] theorem litems_eL {u : List Units} : (eL u).litems = some (u.map eU) := rfl
@[simp] theorem litems_eNL {u : List (List Nat)} : (eNL u).litems = some (u.map eN) := rfl
@[simp] theorem litems_eB {u : List Bool} : (eB u).litems = some (u.map D.bl) := rfl
@[simp] theorem len16 {u : Units} : (ints16 u).length = u.length := by simp [ints16]
@[simp] theorem len8 {u : List UInt8} : (ints8 u).length = u.length := by simp [ints8]
@[simp] theorem lenN {u : List Nat} : (intsN u).length = u.length := by simp [intsN]
@[simp] theorem eL_lst {us : List Units} {ds : List D} : eL us = .lst ds ↔ us.map eU = ds := ⟨fun h => D.lst.inj h, fun h => by rw [← h] <;> rfl⟩
@[simp] theorem eN_lst {us : List Nat} {ds : List D} : eN us = .lst ds ↔ (intsN us).map D.int = ds := ⟨fun h => D.lst.inj h, fun h => by rw [← h] <;> rfl⟩
@[simp] theorem eU_lst {us : Units} {ds : List D} : eU us = .lst ds ↔ (ints16 us).map D.int = ds := ⟨fun h => D.lst.inj h, fun h => by rw [← h] <;> rfl⟩
@[simp] theorem e8_lst {us : List UInt8} {ds : List D} : e8 us = .lst ds ↔ (ints8 us).map D.int = ds := ⟨fun h => D.lst.inj h, fun h => by rw [← h] <;> rfl⟩
@[simp] theorem eNL_lst {us : List (List Nat)} {ds : List D} : eNL us = .lst ds ↔ us.map eN = ds := ⟨fun h => D.lst.inj h, fun h => by rw [← h] <;> rfl⟩
@[simp] theorem eB_lst {us : List Bool} {ds : List D} : eB us = .lst ds ↔ us.map D.bl = ds := ⟨fun h => D.lst.inj h, fun h => by rw [← h] <;> rfl⟩
theorem eN_map {us : List Nat} : eN us = .lst (us.map fun (n : Nat) => D.int (n : Int)) := by simp [eN, eI, intsN, Function.comp_def]
theorem eU_map {us : Units} : eU us = .lst (us.map fun c => D.int ((c.toNat : Nat) : Int)) := by simp [eU, eI, ints16, Function.comp_def]
theorem e8_map {us : List UInt8} : e8 us = .lst (us.map fun c => D.int ((c.toNat : Nat) : Int)) := by simp [e8, eI, ints8, Function.comp_def]
/-! as lists of ints -/
theorem eU_int {u : Units} {xs : List Int} : eU u = .lst (xs.map D.int) ↔ ints16 u = xs := by
  show eI _ = eI _ ↔ _
  simp
theorem e8_int {u : List UInt8} {xs : List Int} : e8 u = .lst (xs.map D.int) ↔ ints8 u = xs := by
  show eI _ = eI _ ↔ _
  simp
theorem eN_int {u : List Nat} {xs : List Int} : eN u = .lst (xs.map D.int) ↔ intsN u = xs := by
  show eI _ = eI _ ↔ _
  simp
theorem eI_int {u xs : List Int} : eI u = .lst (xs.map D.int) ↔ u = xs := by
  show eI _ = eI _ ↔ _
  simp
theorem get_int {xs : List Int} {i : Nat} {x : Int} (h : xs[i]? = some x) : (xs.map D.int)[i]? = some (.int x) := by simp [h]
theorem get16 {u : Units} {i : Nat} {c : UInt16} (h : u[i]? = some c) : ((ints16 u).map D.int)[i]? = some (.int c.toNat) := by simp [ints16, h]
theorem get8 {u : List UInt8} {i : Nat} {c : UInt8} (h : u[i]? = some c) : ((ints8 u).map D.int)[i]? = some (.int c.toNat) := by simp [ints8, h]
theorem getN {u : List Nat} {i : Nat} {c : Nat} (h : u[i]? = some c) : ((intsN u).map D.int)[i]? = some (.int (c : Nat)) := by simp [intsN, h]
/-! ### comprehensions and loops over typed lists -/
theorem lcD_map {α : Type} (enc : α → D) (p : α → Bool) (g : α → D) {i : Nat} {t : DT} {e : DE} {env : Env'} {Q : List D → Prop} : ∀ (xs : List α) (acc : List D),
    (∀ x ∈ xs, ∀ R : Bool → Prop, R (p x) → t (PW.opn (env.set i (.val (enc x)))) R) → (∀ x ∈ xs, p x = true → ∀ R : D → Prop, R (g x) → e (env.set i (.val (enc x))) R) → Q (acc ++ (xs.filter p).map g) → lcD i t e (xs.map enc) acc env Q
  | [], acc, _, _, h => by simpa [lcD] using h
  | x :: xs, acc, ht, he, h => by
    rw [List.map_cons, lcD]
    refine ht x (List.mem_cons_self ..) _ ?_
    cases hp : p x with
    | true =>
      rw [if_pos rfl]
      refine he x (List.mem_cons_self ..) hp _ ?_
      refine lcD_map enc p g xs _ (fun y hy => ht y (List.mem_cons_of_mem _ hy)) (fun y hy => he y (List.mem_cons_of_mem _ hy)) ?_
      rw [List.filter_cons, if_pos hp] at h
      simpa using h
    | false =>
      rw [if_neg (by simp)]
      refine lcD_map enc p g xs _ (fun y hy => ht y (List.mem_cons_of_mem _ hy)) (fun y hy => he y (List.mem_cons_of_mem _ hy)) ?_
      rw [List.filter_cons, if_neg (by simp [hp])] at h
      exact h
theorem lcD_all {α : Type} (enc : α → D) (g : α → D) {i : Nat} {e : DE} {env : Env'} {Q : List D → Prop} (xs : List α) (he : ∀ x ∈ xs, ∀ R : D → Prop, R (g x) → e (env.set i (.val (enc x))) R) (h : Q (xs.map g)) : lcD i dYes e (xs.map enc) [] env Q := by
  refine lcD_map enc (fun _ => true) g xs [] (fun x _ R r => r) (fun x hx _ => he x hx) ?_
  rw [List.filter_eq_self.mpr (fun _ _ => rfl)]
  exact h
theorem loop_nil {i : Nat} {b : DS} {Dn : DN} {env : Env'} : dLoop i b [] Dn env = Dn.nx env := rfl
theorem loop_cons {i : Nat} {b : DS} {Dn : DN} {env : Env'} {d : D} {ds : List D} : dLoop i b (d :: ds) Dn env = b ⟨dLoop i b ds Dn, Dn.rt⟩ (env.set i (.val d)) := rfl
/-! marks -/
@[simp] theorem CT_iff {i j : Int} : CT i j ↔ True := Iff.rfl
def pw (k : Nat) : Nat := 2 ^ k
theorem pw_at {k : Nat} (h : k ≤ 6) : (powers.map D.int)[k]? = some (.int (2 ^ k : Nat)) := by
  have : k = 0 ∨ k = 1 ∨ k = 2 ∨ k = 3 ∨ k = 4 ∨ k = 5 ∨ k = 6 := by omega
  rcases this with rfl | rfl | rfl | rfl | rfl | rfl | rfl <;> rfl
theorem bitAnd_nat (m n : Nat) : PySem.Builtin.bitAnd (m : Int) (n : Int) = ((m &&& n : Nat) : Int) := by
  rw [PyProof.Rows.bitAnd_pp (by omega) (by omega)]
  simp
end PW
set_option Elab.async false
set_option linter.all false
set_option maxRecDepth 100000
set_option maxHeartbeats 2000000
namespace PW
/-! ### the panel as the program keeps it -/
structure WallM where
  names : List Units
  covers : List Nat
  spots : List Units
  held : Nat
  drawer : Nat
  up : Nat
def eW (w : WallM) : D := .ins false [eL w.names, eN w.covers, eL w.spots, .int w.held, .int w.drawer, .int w.up]
@[simp] theorem eW_iff {v w : WallM} : eW v = eW w ↔ v = w := by
  constructor
  · intro h
    obtain ⟨a, b, c, d, e, f⟩ := v
    obtain ⟨a', b', c', d', e', f'⟩ := w
    simp [eW, D.ins.injEq] at h
    obtain ⟨h1, h2, h3, h4, h5, h6⟩ := h
    subst h1 h2 h3
    have h4 := h4
    simp
    omega
  · intro h
    rw [h]
@[simp] theorem eW_ins {v : WallM} {b : Bool} {ds : List D} : eW v = .ins b ds ↔ b = false ∧ [eL v.names, eN v.covers, eL v.spots, .int v.held, .int v.drawer, .int v.up] = ds := by
  unfold eW
  constructor
  · intro h
    injection h with h1 h2
    exact ⟨h1.symm, h2⟩
  · rintro ⟨rfl, rfl⟩
    rfl
/-- places of a row; -1 if it is not there -/
def placeOf (rows : List Units) (row : Units) : Int := if rows.contains row then (rows.idxOf row : Int) else -1
def cnt (m : Nat) : Nat := ((List.range 6).filter fun k => m.testBit k).length
def looseM (covers : List Nat) (up held : Nat) : List Nat := (List.range covers.length).filter fun k => up.testBit k && decide (covers.getD k 0 &&& held = 0)

theorem powers_at {k : Nat} (h : k ≤ 6) : powers[k]? = some ((2 ^ k : Nat) : Int) := by
  have : k = 0 ∨ k = 1 ∨ k = 2 ∨ k = 3 ∨ k = 4 ∨ k = 5 ∨ k = 6 := by omega
  rcases this with rfl | rfl | rfl | rfl | rfl | rfl | rfl <;> rfl
theorem pw_bound {k : Nat} (h : k ≤ 6) : 0 < 2 ^ k ∧ 2 ^ k ≤ 64 := by
  have : k = 0 ∨ k = 1 ∨ k = 2 ∨ k = 3 ∨ k = 4 ∨ k = 5 ∨ k = 6 := by omega
  rcases this with rfl | rfl | rfl | rfl | rfl | rfl | rfl <;> decide
theorem pw_int {k : Nat} (h : k ≤ 6) : (0 : Int) < 2 ^ k ∧ (2 : Int) ^ k < 1073741824 := by
  have : k = 0 ∨ k = 1 ∨ k = 2 ∨ k = 3 ∨ k = 4 ∨ k = 5 ∨ k = 6 := by omega
  rcases this with rfl | rfl | rfl | rfl | rfl | rfl | rfl <;> decide
theorem testBit_div (m k : Nat) : m.testBit k = decide (m / 2 ^ k % 2 = 1) := by
  rw [Nat.testBit_eq_decide_div_mod_eq]
def f_has : DSp := fun ds Q => ∃ (m k : Nat), ds = [.int m, .int k] ∧ k ≤ 6 ∧ Q (.bl (m.testBit k))
@[simp] theorem i_has {m k : Nat} {Q : D → Prop} : f_has [.int (m : Nat), .int (k : Nat)] Q ↔ k ≤ 6 ∧ Q (.bl (m.testBit k)) := by
  simp [f_has]
def t_has : DS := (dRet (dEqI (dMod (dDiv (dVar 0) (dIx (dC (.tup (powers.map D.int))) (dVar 1))) (dC (.int 2))) (dC (.int 1))))
theorem pure_has : ∀ ds Q, f_has ds Q → ds.length = 2 ∧ t_has ⟨fun _ => Q .non, fun d _ => Q d⟩ (startE 2 ds) := by
  rintro ds Q ⟨m, k, rfl, hk, q⟩
  refine ⟨rfl, ?_⟩
  have hb := pw_bound hk
  simp [t_has, L2.CDiv, powers_at hk]
  refine ⟨(pw_int hk).1, (pw_int hk).2, ?_⟩
  rw [testBit_div] at q
  have e : ((m : Int) / 2 ^ k % 2 = 1) = (m / 2 ^ k % 2 = 1) := by
    have : (2 : Int) ^ k = ((2 ^ k : Nat) : Int) := by simp
    rw [this]
    apply propext
    omega
  simp only [e]
  exact q
def f_put_in : DSp := fun ds Q => ∃ (m k : Nat), ds = [.int m, .int k] ∧ k ≤ 6 ∧ Q (.int (m + 2 ^ k : Nat))
def t_put_in : DS := (dRet (dAdd (dVar 0) (dIx (dC (.tup (powers.map D.int))) (dVar 1))))
theorem pure_put_in : ∀ ds Q, f_put_in ds Q → ds.length = 2 ∧ t_put_in ⟨fun _ => Q .non, fun d _ => Q d⟩ (startE 2 ds) := by
  rintro ds Q ⟨m, k, rfl, hk, q⟩
  refine ⟨rfl, ?_⟩
  simp [t_put_in, powers_at hk]
  simpa using q
def f_left_out : DSp := fun ds Q => ∃ (m k : Nat), ds = [.int m, .int k] ∧ k ≤ 6 ∧ 2 ^ k ≤ m ∧ Q (.int (m - 2 ^ k : Nat))
def t_left_out : DS := (dRet (dSub (dVar 0) (dIx (dC (.tup (powers.map D.int))) (dVar 1))))
theorem pure_left_out : ∀ ds Q, f_left_out ds Q → ds.length = 2 ∧ t_left_out ⟨fun _ => Q .non, fun d _ => Q d⟩ (startE 2 ds) := by
  rintro ds Q ⟨m, k, rfl, hk, hm, q⟩
  refine ⟨rfl, ?_⟩
  simp [t_left_out, powers_at hk]
  rw [Int.ofNat_sub hm] at q
  simpa using q
def f_count_of : DSp := fun ds Q => ∃ (m : Nat), ds = [.int m] ∧ Q (.int (cnt m))
def lb_count_of0 : DS := (dIfS (dB (dCall f_has (dCons (dVar 0) (dCons (dVar 2) dNil)))) (dAug 1 (dC (.int 1))) dNext)
def t_count_of : DS := (dSeq (dSet 1 (dC (.int 0))) (dSeq (dFor 2 (dItR (dC (.int 6))) lb_count_of0) (dRet (dVar 1))))
theorem loop_count_of {Dn : DN} {m : Nat} : ∀ (ks : List Nat) (acc : Nat) (s : Slot), (∀ k ∈ ks, k ≤ 6) → (∀ s, Dn.nx [.val (.int m), .val (.int ((acc + (ks.filter fun k => m.testBit k).length : Nat) : Int)), s]) →
    dLoop 2 lb_count_of0 (ks.map fun (k : Nat) => .int (k : Int)) Dn [.val (.int m), .val (.int acc), s]
  | [], acc, s, _, h => by simpa [loop_nil] using h s
  | k :: ks, acc, s, hk, h => by
    rw [List.map_cons, loop_cons]
    simp only [lb_count_of0, dIfS, dB, dCall, dCons, dVar, dNil, opn, List.set, List.map, Slot.opn]
    simp
    refine ⟨hk k (List.mem_cons_self ..), ?_⟩
    rw [List.filter_cons] at h
    cases hb : m.testBit k with
    | true =>
      rw [hb] at h
      simp
      refine loop_count_of ks (acc + 1) _ (fun y hy => hk y (List.mem_cons_of_mem _ hy)) fun s => ?_
      have := h s
      simp at this
      have e : acc + 1 + (ks.filter fun k => m.testBit k).length = acc + ((ks.filter fun k => m.testBit k).length + 1) := by omega
      rw [e]
      simpa using this
    | false =>
      rw [hb] at h
      simp
      exact loop_count_of ks acc _ (fun y hy => hk y (List.mem_cons_of_mem _ hy)) fun s => by simpa using h s
theorem pure_count_of : ∀ ds Q, f_count_of ds Q → ds.length = 1 ∧ t_count_of ⟨fun _ => Q .non, fun d _ => Q d⟩ (startE 3 ds) := by
  rintro ds Q ⟨m, rfl, q⟩
  refine ⟨rfl, ?_⟩
  simp [t_count_of]
  exact loop_count_of (List.range 6) 0 .un (by simp; omega) fun s => by simpa [cnt] using q
def f_apart : DSp := fun ds Q => ∃ (m n : Nat), ds = [.int m, .int n] ∧ Q (.bl (decide (m &&& n = 0)))
def t_apart : DS := (dRet (dEqI (dAnd2 (dVar 0) (dVar 1)) (dC (.int 0))))
theorem pure_apart : ∀ ds Q, f_apart ds Q → ds.length = 2 ∧ t_apart ⟨fun _ => Q .non, fun d _ => Q d⟩ (startE 2 ds) := by
  rintro ds Q ⟨m, n, rfl, q⟩
  refine ⟨rfl, ?_⟩
  simp [t_apart, bitAnd_nat]
  exact_mod_cast q
def f_within : DSp := fun ds Q => ∃ (m n : Nat), ds = [.int m, .int n] ∧ Q (.bl (decide (m &&& n = m)))
def t_within : DS := (dRet (dEqI (dAnd2 (dVar 0) (dVar 1)) (dVar 0)))
theorem pure_within : ∀ ds Q, f_within ds Q → ds.length = 2 ∧ t_within ⟨fun _ => Q .non, fun d _ => Q d⟩ (startE 2 ds) := by
  rintro ds Q ⟨m, n, rfl, q⟩
  refine ⟨rfl, ?_⟩
  simp [t_within, bitAnd_nat]
  exact_mod_cast q
@[simp] theorem i_put_in {m k : Nat} {Q : D → Prop} : f_put_in [.int (m : Nat), .int (k : Nat)] Q ↔ k ≤ 6 ∧ Q (.int (m + 2 ^ k : Nat)) := by simp [f_put_in]
@[simp] theorem i_left_out {m k : Nat} {Q : D → Prop} : f_left_out [.int (m : Nat), .int (k : Nat)] Q ↔ k ≤ 6 ∧ 2 ^ k ≤ m ∧ Q (.int (m - 2 ^ k : Nat)) := by simp [f_left_out]
@[simp] theorem i_count_of {m : Nat} {Q : D → Prop} : f_count_of [.int (m : Nat)] Q ↔ Q (.int (cnt m)) := by simp [f_count_of]
@[simp] theorem i_apart {m k : Nat} {Q : D → Prop} : f_apart [.int (m : Nat), .int (k : Nat)] Q ↔ Q (.bl (decide (m &&& k = 0))) := by simp [f_apart]
@[simp] theorem i_within {m k : Nat} {Q : D → Prop} : f_within [.int (m : Nat), .int (k : Nat)] Q ↔ Q (.bl (decide (m &&& k = m))) := by simp [f_within]
/-! place_of -/
def f_place_of : DSp := fun ds Q => ∃ (rows : List Units) (row : Units), ds = [eL rows, eU row] ∧ rows.length ≤ 1000000 ∧ Q (.int (placeOf rows row))
@[simp] theorem i_place_of {rows : List Units} {row : Units} {Q : D → Prop} : f_place_of [eL rows, eU row] Q ↔ rows.length ≤ 1000000 ∧ Q (.int (placeOf rows row)) := by simp [f_place_of]
def lb_place_of0 : DS := (dIfS (dB (dEqL (dIx (dVar 0) (dVar 2)) (dVar 1))) (dRet (dVar 2)) dNext)
def t_place_of : DS := (dSeq (dFor 2 (dItR (dLen (dVar 0))) lb_place_of0) (dRet (dNeg (dC (.int 1)))))
theorem idxOf_first {α : Type} [BEq α] [LawfulBEq α] : ∀ {l : List α} {j : Nat} {x : α} (h : j < l.length), l[j] = x → x ∉ l.take j → l.idxOf x = j
  | a :: l, 0, x, h, e, _ => by
    have e' : a = x := e
    rw [e', List.idxOf_cons, beq_self_eq_true]
    rfl
  | a :: l, j + 1, x, h, e, n => by
    rw [List.take_succ_cons, List.mem_cons, not_or] at n
    have ih := idxOf_first (l := l) (j := j) (x := x) (by simpa using h) (by simpa using e) n.2
    rw [List.idxOf_cons, beq_false_of_ne (Ne.symm n.1), ih]
    rfl
theorem loop_place_of {Dn : DN} {rows : List Units} {row : Units} : ∀ (m j : Nat) (s : Slot), j + m = rows.length → row ∉ rows.take j →
    (∀ k, placeOf rows row = (k : Nat) → Dn.rt (.int (k : Int)) [.val (eL rows), .val (eU row), .val (.int (k : Int))]) → (placeOf rows row = -1 → ∀ s, Dn.nx [.val (eL rows), .val (eU row), s]) →
    dLoop 2 lb_place_of0 ((List.range' j m).map fun (k : Nat) => .int (k : Int)) Dn [.val (eL rows), .val (eU row), s]
  | 0, j, s, hj, hn, h1, h2 => by
    rw [List.range'_zero, List.map_nil, loop_nil]
    refine h2 ?_ s
    unfold placeOf
    rw [if_neg]
    rw [List.take_of_length_le (by omega)] at hn
    simpa using hn
  | m + 1, j, s, hj, hn, h1, h2 => by
    rw [List.range'_succ, List.map_cons, loop_cons]
    have hlt : j < rows.length := by omega
    simp [lb_place_of0, hlt, eU_int]
    by_cases hb : rows[j] = row
    · rw [if_pos hb]
      refine h1 j ?_
      unfold placeOf
      have hm : row ∈ rows := by rw [← hb]; exact List.getElem_mem hlt
      rw [if_pos (by simpa using hm)]
      rw [idxOf_first hlt hb hn]
    · rw [if_neg hb]
      refine loop_place_of m (j + 1) _ (by omega) ?_ h1 h2
      rw [List.take_succ_eq_append_getElem hlt, List.mem_append, List.mem_singleton]
      exact fun h => h.elim hn fun z => hb z.symm
theorem pure_place_of : ∀ ds Q, f_place_of ds Q → ds.length = 2 ∧ t_place_of ⟨fun _ => Q .non, fun d _ => Q d⟩ (startE 3 ds) := by
  rintro ds Q ⟨rows, row, rfl, hl, q⟩
  refine ⟨rfl, ?_⟩
  simp [t_place_of]
  refine ⟨by omega, ?_⟩
  rw [List.range_eq_range']
  refine loop_place_of rows.length 0 .un (by omega) (by simp) (fun k e => ?_) fun e s => ?_
  · rw [e] at q
    simpa using q
  · rw [e] at q
    simpa using q

/-! walls made -/
def f_empty_wall : DSp := fun ds Q => ds = [] ∧ Q (eW ⟨[], [], [], 0, 0, 0⟩)
@[simp] theorem i_empty_wall {Q : D → Prop} : f_empty_wall [] Q ↔ Q (eW ⟨[], [], [], 0, 0, 0⟩) := by simp [f_empty_wall]
def t_empty_wall : DS := (dRet (dMake false 6 (dCons (dL (dDisp dNil)) (dCons (dL (dDisp dNil)) (dCons (dL (dDisp dNil)) (dCons (dC (.int 0)) (dCons (dC (.int 0)) (dCons (dC (.int 0)) dNil))))))))
theorem pure_empty_wall : ∀ ds Q, f_empty_wall ds Q → ds.length = 0 ∧ t_empty_wall ⟨fun _ => Q .non, fun d _ => Q d⟩ (startE 0 ds) := by
  rintro ds Q ⟨rfl, q⟩
  refine ⟨rfl, ?_⟩
  simp [t_empty_wall]
  simpa [eW, eL, eN, eI, intsN] using q
def f_with_magnets : DSp := fun ds Q => ∃ (v : WallM) (h d : Nat), ds = [eW v, .int h, .int d] ∧ Q (eW { v with held := h, drawer := d })
@[simp] theorem i_with_magnets {v : WallM} {h d : Nat} {Q : D → Prop} : f_with_magnets [eW v, .int (h : Nat), .int (d : Nat)] Q ↔ Q (eW { v with held := h, drawer := d }) := by simp [f_with_magnets]
def t_with_magnets : DS := (dRet (dMake false 6 (dCons (dFld false 0 (dVar 0)) (dCons (dFld false 1 (dVar 0)) (dCons (dFld false 2 (dVar 0)) (dCons (dVar 1) (dCons (dVar 2) (dCons (dFld false 5 (dVar 0)) dNil))))))))
theorem pure_with_magnets : ∀ ds Q, f_with_magnets ds Q → ds.length = 3 ∧ t_with_magnets ⟨fun _ => Q .non, fun d _ => Q d⟩ (startE 3 ds) := by
  rintro ds Q ⟨v, h, d, rfl, q⟩
  refine ⟨rfl, ?_⟩
  simp [t_with_magnets, eW]
  simpa [eW] using q
def f_without_sheet : DSp := fun ds Q => ∃ (v : WallM) (k : Nat), ds = [eW v, .int k] ∧ k ≤ 6 ∧ 2 ^ k ≤ v.up ∧ Q (eW { v with up := v.up - 2 ^ k })
@[simp] theorem i_without_sheet {v : WallM} {k : Nat} {Q : D → Prop} : f_without_sheet [eW v, .int (k : Nat)] Q ↔ k ≤ 6 ∧ 2 ^ k ≤ v.up ∧ Q (eW { v with up := v.up - 2 ^ k }) := by simp [f_without_sheet]
def t_without_sheet : DS := (dRet (dMake false 6 (dCons (dFld false 0 (dVar 0)) (dCons (dFld false 1 (dVar 0)) (dCons (dFld false 2 (dVar 0)) (dCons (dFld false 3 (dVar 0)) (dCons (dFld false 4 (dVar 0)) (dCons (dCall f_left_out (dCons (dFld false 5 (dVar 0)) (dCons (dVar 1) dNil))) dNil))))))))
theorem pure_without_sheet : ∀ ds Q, f_without_sheet ds Q → ds.length = 2 ∧ t_without_sheet ⟨fun _ => Q .non, fun d _ => Q d⟩ (startE 2 ds) := by
  rintro ds Q ⟨v, k, rfl, hk, hu, q⟩
  refine ⟨rfl, ?_⟩
  simp [t_without_sheet, eW, hk, hu]
  simpa [eW] using q
def f_with_spots : DSp := fun ds Q => ∃ (spots named : List Units), ds = [eL spots, eL named] ∧ spots.length + named.length ≤ 1000000 ∧ Q (eL (named.foldl Panels.addSpot spots))
@[simp] theorem i_with_spots {spots named : List Units} {Q : D → Prop} : f_with_spots [eL spots, eL named] Q ↔ spots.length + named.length ≤ 1000000 ∧ Q (eL (named.foldl Panels.addSpot spots)) := by simp [f_with_spots]
def lb_with_spots0 : DS := (dIfS (dB (dLtI (dCall f_place_of (dCons (dVar 2) (dCons (dVar 3) dNil))) (dC (.int 0)))) (dApp 2 (dVar 3)) dNext)
def t_with_spots : DS := (dSeq (dOwn 2 (dList (dVar 0))) (dSeq (dFor 3 (dItL (dVar 1)) lb_with_spots0) (dRet (dVar 2))))
theorem placeOf_neg {rows : List Units} {row : Units} : placeOf rows row < 0 ↔ row ∉ rows := by
  unfold placeOf
  by_cases h : row ∈ rows
  · rw [if_pos (by simpa using h)]
    constructor
    · intro z; omega
    · intro z; exact absurd h z
  · rw [if_neg (by simpa using h)]
    constructor
    · intro _; exact h
    · intro _; omega
theorem addSpot_eq (l : List Units) (u : Units) : Panels.addSpot l u = if u ∈ l then l else l ++ [u] := by
  unfold Panels.addSpot
  by_cases h : u ∈ l
  · rw [if_pos (by simpa using h), if_pos h]
  · rw [if_neg (by simpa using h), if_neg h]
theorem loop_with_spots {Dn : DN} {a b : Slot} : ∀ (named found : List Units) (s : Slot), found.length + named.length ≤ 1000000 → (∀ s, Dn.nx [a, b, .own ((named.foldl Panels.addSpot found).map eU), s]) → dLoop 3 lb_with_spots0 (named.map eU) Dn [a, b, .own (found.map eU), s]
  | [], found, s, _, h => by simpa [loop_nil] using h s
  | u :: named, found, s, hl, h => by
    rw [List.map_cons, loop_cons]
    rw [List.length_cons] at hl
    have e : D.lst (found.map eU) = eL found := rfl
    simp [lb_with_spots0, e]
    refine ⟨by omega, ?_⟩
    rw [List.foldl_cons, addSpot_eq] at h
    by_cases hm : u ∈ found
    · have h1 : ¬ placeOf found u < 0 := fun z => placeOf_neg.mp z hm
      rw [if_neg h1]
      rw [if_pos hm] at h
      exact loop_with_spots named found _ (by omega) h
    · have h1 : placeOf found u < 0 := placeOf_neg.mpr hm
      rw [if_pos h1]
      rw [if_neg hm] at h
      refine ⟨by omega, ?_⟩
      have z := loop_with_spots (Dn := Dn) (a := a) (b := b) named (found ++ [u]) (.val (eU u)) (by simp; omega) h
      rw [List.map_append] at z
      exact z
theorem pure_with_spots : ∀ ds Q, f_with_spots ds Q → ds.length = 2 ∧ t_with_spots ⟨fun _ => Q .non, fun d _ => Q d⟩ (startE 4 ds) := by
  rintro ds Q ⟨spots, named, rfl, hl, q⟩
  refine ⟨rfl, ?_⟩
  simp [t_with_spots]
  exact loop_with_spots named spots .un hl fun s => by simpa [eL] using q
def coverOf (spots named : List Units) : Nat := named.foldl (fun m u => m + 2 ^ spots.idxOf u) 0
def f_cover_of : DSp := fun ds Q => ∃ (spots named : List Units), ds = [eL spots, eL named] ∧ spots.length ≤ 6 ∧ (∀ u ∈ named, u ∈ spots) ∧ Q (.int (coverOf spots named))
@[simp] theorem i_cover_of {spots named : List Units} {Q : D → Prop} : f_cover_of [eL spots, eL named] Q ↔ spots.length ≤ 6 ∧ (∀ u ∈ named, u ∈ spots) ∧ Q (.int (coverOf spots named)) := by simp [f_cover_of]
def lb_cover_of0 : DS := (dSet 2 (dCall f_put_in (dCons (dVar 2) (dCons (dCall f_place_of (dCons (dVar 0) (dCons (dVar 3) dNil))) dNil))))
def t_cover_of : DS := (dSeq (dSet 2 (dC (.int 0))) (dSeq (dFor 3 (dItL (dVar 1)) lb_cover_of0) (dRet (dVar 2))))
theorem placeOf_mem {rows : List Units} {row : Units} (h : row ∈ rows) : placeOf rows row = (rows.idxOf row : Nat) := by
  unfold placeOf
  rw [if_pos (by simpa using h)]
theorem loop_cover_of {Dn : DN} {spots : List Units} {b : Slot} (hs : spots.length ≤ 6) : ∀ (named : List Units) (m : Nat) (s : Slot), (∀ u ∈ named, u ∈ spots) → (∀ s, Dn.nx [.val (eL spots), b, .val (.int (named.foldl (fun m u => m + 2 ^ spots.idxOf u) m : Nat)), s]) →
    dLoop 3 lb_cover_of0 (named.map eU) Dn [.val (eL spots), b, .val (.int (m : Nat)), s]
  | [], m, s, _, h => by simpa [loop_nil] using h s
  | u :: named, m, s, hm, h => by
    rw [List.map_cons, loop_cons]
    have hu := hm u (List.mem_cons_self ..)
    have hlt : spots.idxOf u < spots.length := List.idxOf_lt_length_iff.mpr hu
    simp [lb_cover_of0, placeOf_mem hu]
    refine ⟨by omega, by omega, ?_⟩
    rw [List.foldl_cons] at h
    have z := loop_cover_of (Dn := Dn) (b := b) hs named (m + 2 ^ spots.idxOf u) (.val (eU u)) (fun v hv => hm v (List.mem_cons_of_mem _ hv)) h
    simp at z
    exact z
theorem pure_cover_of : ∀ ds Q, f_cover_of ds Q → ds.length = 2 ∧ t_cover_of ⟨fun _ => Q .non, fun d _ => Q d⟩ (startE 4 ds) := by
  rintro ds Q ⟨spots, named, rfl, hs, hm, q⟩
  refine ⟨rfl, ?_⟩
  simp [t_cover_of]
  refine loop_cover_of hs named 0 .un hm fun s => ?_
  simpa [coverOf] using q
def withSheet (v : WallM) (name : Units) (named : List Units) : WallM :=
  { v with names := v.names ++ [name], spots := named.foldl Panels.addSpot v.spots, covers := v.covers ++ [coverOf (named.foldl Panels.addSpot v.spots) named], up := v.up + 2 ^ v.names.length }
def f_with_sheet : DSp := fun ds Q => ∃ (v : WallM) (name : Units) (named : List Units), ds = [eW v, eU name, eL named] ∧ v.names.length ≤ 5 ∧ v.covers.length ≤ 5 ∧ v.spots.length ≤ 6 ∧ named.length ≤ 100000 ∧ (named.foldl Panels.addSpot v.spots).length ≤ 6 ∧ Q (eW (withSheet v name named))
@[simp] theorem i_with_sheet {v : WallM} {name : Units} {named : List Units} {Q : D → Prop} : f_with_sheet [eW v, eU name, eL named] Q ↔ v.names.length ≤ 5 ∧ v.covers.length ≤ 5 ∧ v.spots.length ≤ 6 ∧ named.length ≤ 100000 ∧ (named.foldl Panels.addSpot v.spots).length ≤ 6 ∧ Q (eW (withSheet v name named)) := by simp [f_with_sheet]
def t_with_sheet : DS := (dSeq (dSet 3 (dCall f_with_spots (dCons (dFld false 2 (dVar 0)) (dCons (dVar 2) dNil)))) (dSeq (dSet 4 (dL (dCat (dFld false 0 (dVar 0)) (dL (dDisp (dCons (dVar 1) dNil)))))) (dSeq (dSet 5 (dL (dCat (dFld false 1 (dVar 0)) (dL (dDisp (dCons (dCall f_cover_of (dCons (dVar 3) (dCons (dVar 2) dNil))) dNil)))))) (dRet (dMake false 6 (dCons (dVar 4) (dCons (dVar 5) (dCons (dVar 3) (dCons (dFld false 3 (dVar 0)) (dCons (dFld false 4 (dVar 0)) (dCons (dCall f_put_in (dCons (dFld false 5 (dVar 0)) (dCons (dLen (dFld false 0 (dVar 0))) dNil))) dNil)))))))))))
theorem mem_foldl_addSpot {u : Units} : ∀ (named spots : List Units), u ∈ named ∨ u ∈ spots → u ∈ named.foldl Panels.addSpot spots
  | [], spots, h => by simpa using h
  | v :: named, spots, h => by
    rw [List.foldl_cons]
    refine mem_foldl_addSpot named _ ?_
    rw [addSpot_eq]
    rcases h with h | h
    · rcases List.mem_cons.mp h with rfl | h
      · by_cases hm : u ∈ spots
        · rw [if_pos hm]; exact .inr hm
        · rw [if_neg hm]; exact .inr (by simp)
      · exact .inl h
    · by_cases hm : v ∈ spots
      · rw [if_pos hm]; exact .inr h
      · rw [if_neg hm]; exact .inr (by simp [h])
theorem pure_with_sheet : ∀ ds Q, f_with_sheet ds Q → ds.length = 3 ∧ t_with_sheet ⟨fun _ => Q .non, fun d _ => Q d⟩ (startE 6 ds) := by
  rintro ds Q ⟨v, name, named, rfl, h1, h2, h3, h4, h5, q⟩
  refine ⟨rfl, ?_⟩
  simp [t_with_sheet, eW]
  refine ⟨by omega, by omega, h5, fun u hu => mem_foldl_addSpot named _ (.inl hu), by omega, by omega, ?_⟩
  simpa [eW, withSheet, eL, eN, eI, intsN] using q
/-! loose sheets -/
def f_loose : DSp := fun ds Q => ∃ (covers : List Nat) (up held : Nat), ds = [eN covers, .int up, .int held] ∧ covers.length ≤ 7 ∧ Q (eN (looseM covers up held))
@[simp] theorem i_loose {covers : List Nat} {up held : Nat} {Q : D → Prop} : f_loose [eN covers, .int (up : Nat), .int (held : Nat)] Q ↔ covers.length ≤ 7 ∧ Q (eN (looseM covers up held)) := by simp [f_loose]
def t_loose : DS := (dRet (dL (dLc 3 (dItR (dLen (dVar 0))) (dAndT (dB (dCall f_has (dCons (dVar 1) (dCons (dVar 3) dNil)))) (dB (dCall f_apart (dCons (dIx (dVar 0) (dVar 3)) (dCons (dVar 2) dNil))))) (dVar 3))))
theorem pure_loose : ∀ ds Q, f_loose ds Q → ds.length = 3 ∧ t_loose ⟨fun _ => Q .non, fun d _ => Q d⟩ (startE 4 ds) := by
  rintro ds Q ⟨covers, up, held, rfl, hl, q⟩
  refine ⟨rfl, ?_⟩
  simp [t_loose]
  refine ⟨by omega, by omega, ?_⟩
  refine lcD_map (fun (k : Nat) => .int (k : Int)) (fun k => up.testBit k && decide (covers.getD k 0 &&& held = 0)) (fun (k : Nat) => .int (k : Int)) _ _ (fun k hk R r => ?_) (fun k hk _ R r => ?_) ?_
  · have hlt : k < covers.length := List.mem_range.mp hk
    simp [hlt, intsN]
    refine ⟨by omega, ?_⟩
    simp [hlt] at r
    cases hb : up.testBit k with
    | true => simpa [hb] using r
    | false => simpa [hb] using r
  · simpa using r
  · rw [eN_map] at q
    exact q
def f_many_loose : DSp := fun ds Q => ∃ (v : WallM) (held : Nat), ds = [eW v, .int held] ∧ v.covers.length ≤ 7 ∧ Q (.bl (decide (1 < (looseM v.covers v.up held).length)))
@[simp] theorem i_many_loose {v : WallM} {held : Nat} {Q : D → Prop} : f_many_loose [eW v, .int (held : Nat)] Q ↔ v.covers.length ≤ 7 ∧ Q (.bl (decide (1 < (looseM v.covers v.up held).length))) := by simp [f_many_loose]
def t_many_loose : DS := (dRet (dGtI (dLen (dCall f_loose (dCons (dFld false 1 (dVar 0)) (dCons (dFld false 5 (dVar 0)) (dCons (dVar 1) dNil))))) (dC (.int 1))))
theorem pure_many_loose : ∀ ds Q, f_many_loose ds Q → ds.length = 2 ∧ t_many_loose ⟨fun _ => Q .non, fun d _ => Q d⟩ (startE 2 ds) := by
  rintro ds Q ⟨v, held, rfl, hl, q⟩
  refine ⟨rfl, ?_⟩
  simp [t_many_loose, eW, hl]
  have e : decide ((1 : Int) < ((looseM v.covers v.up held).length : Int)) = decide (1 < (looseM v.covers v.up held).length) := by
    apply decide_eq_decide.mpr
    omega
  rw [e]
  exact q
def f_fallen : DSp := fun ds Q => ∃ (v : WallM), ds = [eW v] ∧ v.covers.length ≤ 7 ∧ Q (.bl (decide (1 < (looseM v.covers v.up v.held).length)))
@[simp] theorem i_fallen {v : WallM} {Q : D → Prop} : f_fallen [eW v] Q ↔ v.covers.length ≤ 7 ∧ Q (.bl (decide (1 < (looseM v.covers v.up v.held).length))) := by simp [f_fallen]
def t_fallen : DS := (dRet (dCall f_many_loose (dCons (dVar 0) (dCons (dFld false 3 (dVar 0)) dNil))))
theorem pure_fallen : ∀ ds Q, f_fallen ds Q → ds.length = 1 ∧ t_fallen ⟨fun _ => Q .non, fun d _ => Q d⟩ (startE 1 ds) := by
  rintro ds Q ⟨v, rfl, hl, q⟩
  refine ⟨rfl, ?_⟩
  simp [t_fallen]
  exact ⟨hl, q⟩
def f_hand : DSp := fun ds Q => ∃ (v : WallM), ds = [eW v] ∧ v.covers.length ≤ 7 ∧ v.covers.length = v.names.length ∧ Q (eL ((looseM v.covers v.up v.held).map fun k => v.names.getD k []))
@[simp] theorem i_hand {v : WallM} {Q : D → Prop} : f_hand [eW v] Q ↔ v.covers.length ≤ 7 ∧ v.covers.length = v.names.length ∧ Q (eL ((looseM v.covers v.up v.held).map fun k => v.names.getD k [])) := by simp [f_hand]
def t_hand : DS := (dRet (dL (dLc 1 (dItL (dCall f_loose (dCons (dFld false 1 (dVar 0)) (dCons (dFld false 5 (dVar 0)) (dCons (dFld false 3 (dVar 0)) dNil))))) dYes (dIx (dFld false 0 (dVar 0)) (dVar 1)))))
theorem looseM_lt {covers : List Nat} {up held k : Nat} (h : k ∈ looseM covers up held) : k < covers.length := List.mem_range.mp (List.mem_filter.mp h).1
theorem looseM_len (covers : List Nat) (up held : Nat) : (looseM covers up held).length ≤ covers.length := by
  have := List.length_filter_le (fun k => up.testBit k && decide (covers.getD k 0 &&& held = 0)) (List.range covers.length)
  rw [List.length_range] at this
  exact this
theorem pure_hand : ∀ ds Q, f_hand ds Q → ds.length = 1 ∧ t_hand ⟨fun _ => Q .non, fun d _ => Q d⟩ (startE 2 ds) := by
  rintro ds Q ⟨v, rfl, hl, he, q⟩
  refine ⟨rfl, ?_⟩
  have h1 := looseM_len v.covers v.up v.held
  simp [t_hand, hl]
  refine ⟨by omega, ?_⟩
  have e : (intsN (looseM v.covers v.up v.held)).map D.int = (looseM v.covers v.up v.held).map fun (k : Nat) => D.int (k : Int) := by simp [intsN, Function.comp_def]
  rw [e]
  refine lcD_all (fun (k : Nat) => .int (k : Int)) (fun k => eU (v.names.getD k [])) _ (fun k hk R r => ?_) ?_
  · have hlt : k < v.names.length := he ▸ looseM_lt hk
    simp [hlt]
    simpa [hlt] using r
  · simpa [eL, Function.comp_def] using q
def f_names_up : DSp := fun ds Q => ∃ (v : WallM), ds = [eW v] ∧ v.names.length ≤ 7 ∧ Q (eL (((List.range v.names.length).filter v.up.testBit).map fun k => v.names.getD k []))
@[simp] theorem i_names_up {v : WallM} {Q : D → Prop} : f_names_up [eW v] Q ↔ v.names.length ≤ 7 ∧ Q (eL (((List.range v.names.length).filter v.up.testBit).map fun k => v.names.getD k [])) := by simp [f_names_up]
def t_names_up : DS := (dRet (dL (dLc 1 (dItR (dLen (dFld false 0 (dVar 0)))) (dB (dCall f_has (dCons (dFld false 5 (dVar 0)) (dCons (dVar 1) dNil)))) (dIx (dFld false 0 (dVar 0)) (dVar 1)))))
theorem pure_names_up : ∀ ds Q, f_names_up ds Q → ds.length = 1 ∧ t_names_up ⟨fun _ => Q .non, fun d _ => Q d⟩ (startE 2 ds) := by
  rintro ds Q ⟨v, rfl, hl, q⟩
  refine ⟨rfl, ?_⟩
  simp [t_names_up]
  refine ⟨by omega, by omega, ?_⟩
  refine lcD_map (fun (k : Nat) => .int (k : Int)) v.up.testBit (fun k => eU (v.names.getD k [])) _ _ (fun k hk R r => ?_) (fun k hk _ R r => ?_) ?_
  · have hlt : k < v.names.length := List.mem_range.mp hk
    simp
    exact ⟨by omega, r⟩
  · have hlt : k < v.names.length := List.mem_range.mp hk
    simp [hlt]
    simpa [hlt] using r
  · simpa [eL, Function.comp_def] using q
def magM (v : WallM) : Nat := cnt v.held + v.drawer
def f_magnets_of : DSp := fun ds Q => ∃ (v : WallM), ds = [eW v] ∧ Q (.int (magM v : Nat))
@[simp] theorem i_magnets_of {v : WallM} {Q : D → Prop} : f_magnets_of [eW v] Q ↔ Q (.int (magM v : Nat)) := by simp [f_magnets_of]
def t_magnets_of : DS := (dRet (dAdd (dCall f_count_of (dCons (dFld false 3 (dVar 0)) dNil)) (dFld false 4 (dVar 0))))
theorem pure_magnets_of : ∀ ds Q, f_magnets_of ds Q → ds.length = 1 ∧ t_magnets_of ⟨fun _ => Q .non, fun d _ => Q d⟩ (startE 1 ds) := by
  rintro ds Q ⟨v, rfl, q⟩
  refine ⟨rfl, ?_⟩
  simp [t_magnets_of]
  simpa [magM] using q
end PW
set_option Elab.async false
set_option linter.all false
set_option maxRecDepth 100000
set_option maxHeartbeats 2000000
namespace PW
open Panels (isLetter isDigit isRunCharacter)
theorem ints16_map {u : Units} : (ints16 u).map D.int = u.map fun c => D.int ((c.toNat : Nat) : Int) := by simp [ints16, Function.comp_def]
/-! lines -/
def f_lines_of : DSp := fun ds Q => ∃ u : Units, ds = [eU u] ∧ u.length ≤ 10000000 ∧ Q (eL (Panels.linesOf u))
@[simp] theorem i_lines_of {u : Units} {Q : D → Prop} : f_lines_of [eU u] Q ↔ u.length ≤ 10000000 ∧ Q (eL (Panels.linesOf u)) := by simp [f_lines_of]
def lb_lines_of0 : DS := (dIfS (dB (dEqI (dVar 3) (dC (.int 10)))) (dSeq (dFix 2 (dApp 1 (dVar 2))) (dOwn 2 (dDisp dNil))) (dApp 2 (dVar 3)))
def t_lines_of : DS := (dSeq (dOwn 1 (dDisp dNil)) (dSeq (dOwn 2 (dDisp dNil)) (dSeq (dFor 3 (dItL (dVar 0)) lb_lines_of0) (dSeq (dFix 2 (dApp 1 (dVar 2))) (dRet (dVar 1))))))
theorem toNat_eq {c : UInt16} {n : Nat} (h : n < 65536) : ((c.toNat : Nat) : Int) = (n : Int) ↔ c = UInt16.ofNat n := by
  constructor
  · intro z
    have e : c.toNat = n := by omega
    apply UInt16.toNat_inj.mp
    rw [e, UInt16.toNat_ofNat']
    omega
  · intro z
    subst z
    rw [UInt16.toNat_ofNat']
    congr 1
    omega
theorem c10 {c : UInt16} : ((c.toNat : Nat) : Int) = 10 ↔ c = 10 := toNat_eq (n := 10) (by decide)
theorem c35 {c : UInt16} : ((c.toNat : Nat) : Int) = 35 ↔ c = 35 := toNat_eq (n := 35) (by decide)
theorem c32 {c : UInt16} : ((c.toNat : Nat) : Int) = 32 ↔ c = 32 := toNat_eq (n := 32) (by decide)
theorem c48 {c : UInt16} : ((c.toNat : Nat) : Int) = 48 ↔ c = 48 := toNat_eq (n := 48) (by decide)
theorem loop_lines_of {Dn : DN} {a : Slot} : ∀ (u : Units) (rows : List Units) (row : Units) (s : Slot), rows.length + u.length < 16777216 → row.length + u.length < 16777216 →
    (∀ rows' row' s, rows' ++ [row'] = rows ++ Panels.linesFrom row u → rows'.length < 16777216 → Dn.nx [a, .own (rows'.map eU), .own ((ints16 row').map D.int), s]) →
    dLoop 3 lb_lines_of0 (u.map fun c => .int ((c.toNat : Nat) : Int)) Dn [a, .own (rows.map eU), .own ((ints16 row).map D.int), s]
  | [], rows, row, s, h1, h2, h => by
    rw [List.map_nil, loop_nil]
    exact h rows row s (by simp [Panels.linesFrom]) (by simpa using h1)
  | c :: u, rows, row, s, h1, h2, h => by
    rw [List.map_cons, loop_cons]
    rw [List.length_cons] at h1 h2
    simp only [lb_lines_of0, dIfS, dB, dEqI, dBin, dVar, dC, opn, wI, List.set, List.map, Slot.opn]
    simp [c10]
    by_cases hc : c = 10
    · subst hc
      rw [if_pos rfl]
      refine ⟨by omega, ?_⟩
      have z := loop_lines_of (Dn := Dn) (a := a) u (rows ++ [row]) [] (.val (.int 10)) (by simp; omega) (by simp; omega) fun rows' row' s e hl => h rows' row' s (by rw [e]; simp [Panels.linesFrom]) hl
      simp [ints16] at z
      exact z
    · rw [if_neg hc]
      refine ⟨by omega, ?_⟩
      have z := loop_lines_of (Dn := Dn) (a := a) u rows (row ++ [c]) (.val (.int c.toNat)) (by omega) (by simp; omega) fun rows' row' s e hl => h rows' row' s (by rw [e]; simp [Panels.linesFrom, hc]) hl
      simp [ints16] at z ⊢
      exact z
theorem pure_lines_of : ∀ ds Q, f_lines_of ds Q → ds.length = 1 ∧ t_lines_of ⟨fun _ => Q .non, fun d _ => Q d⟩ (startE 4 ds) := by
  rintro ds Q ⟨u, rfl, hl, q⟩
  refine ⟨rfl, ?_⟩
  simp [t_lines_of]
  rw [ints16_map]
  refine loop_lines_of u [] [] .un (by simp; omega) (by simp; omega) fun rows' row' s e hl' => ?_
  simp
  refine ⟨by omega, ?_⟩
  have e2 : rows' ++ [row'] = Panels.linesOf u := by simpa [Panels.linesOf] using e
  rw [← e2] at q
  simpa [eL, eU, eI] using q
/-! comments -/
def uncomment (u : Units) : Units := u.takeWhile fun c => !(c == 35)
def f_without_comment : DSp := fun ds Q => ∃ u : Units, ds = [eU u] ∧ u.length ≤ 10000000 ∧ Q (eU (uncomment u))
@[simp] theorem i_without_comment {u : Units} {Q : D → Prop} : f_without_comment [eU u] Q ↔ u.length ≤ 10000000 ∧ Q (eU (uncomment u)) := by simp [f_without_comment]
def lb_without_comment0 : DS := (dSeq (dIfS (dB (dEqI (dVar 2) (dC (.int 35)))) (dRet (dVar 1)) dNext) (dApp 1 (dVar 2)))
def t_without_comment : DS := (dSeq (dOwn 1 (dDisp dNil)) (dSeq (dFor 2 (dItL (dVar 0)) lb_without_comment0) (dRet (dVar 1))))
theorem loop_without_comment {Dn : DN} {a : Slot} : ∀ (u row : Units) (s : Slot), row.length + u.length < 16777216 → (∀ s, Dn.rt (eU (row ++ uncomment u)) [a.opn, .val (eU (row ++ uncomment u)), s]) → (∀ s, Dn.nx [a, .own ((ints16 (row ++ uncomment u)).map D.int), s]) →
    dLoop 2 lb_without_comment0 (u.map fun c => .int ((c.toNat : Nat) : Int)) Dn [a, .own ((ints16 row).map D.int), s]
  | [], row, s, h1, h2, h3 => by
    rw [List.map_nil, loop_nil]
    simpa [uncomment] using h3 s
  | c :: u, row, s, h1, h2, h3 => by
    rw [List.map_cons, loop_cons]
    rw [List.length_cons] at h1
    simp only [lb_without_comment0, dIfS, dB, dEqI, dBin, dVar, dC, opn, wI, List.set, List.map, Slot.opn]
    simp [c35]
    by_cases hc : c = 35
    · subst hc
      rw [if_pos rfl]
      have z := h2 (.val (.int 35))
      simp [uncomment] at z
      exact z
    · rw [if_neg hc]
      refine ⟨by omega, ?_⟩
      have e : uncomment (c :: u) = c :: uncomment u := by simp [uncomment, hc]
      rw [e] at h2 h3
      have z := loop_without_comment (Dn := Dn) (a := a) u (row ++ [c]) (.val (.int c.toNat)) (by simp; omega) (by simpa using h2) (by simpa using h3)
      simp [ints16] at z ⊢
      exact z
theorem pure_without_comment : ∀ ds Q, f_without_comment ds Q → ds.length = 1 ∧ t_without_comment ⟨fun _ => Q .non, fun d _ => Q d⟩ (startE 3 ds) := by
  rintro ds Q ⟨u, rfl, hl, q⟩
  refine ⟨rfl, ?_⟩
  simp [t_without_comment]
  rw [ints16_map]
  refine loop_without_comment u [] .un (by simp; omega) (fun s => by simpa using q) fun s => ?_
  simpa [eU, eI] using q
def f_is_letter : DSp := fun ds Q => ∃ c : UInt16, ds = [.int c.toNat] ∧ Q (.bl (isLetter c))
theorem u16_inj {c d : UInt16} : c.toNat = d.toNat ↔ c = d := UInt16.toNat_inj
@[simp] theorem i_is_letter {c : UInt16} {Q : D → Prop} : f_is_letter [.int (c.toNat : Nat)] Q ↔ Q (.bl (isLetter c)) := by simp [f_is_letter, u16_inj]
def t_is_letter : DS := (dRet (dAndV (dLeI (dC (.int 97)) (dVar 0)) (dLeI (dVar 0) (dC (.int 122)))))
theorem pure_is_letter : ∀ ds Q, f_is_letter ds Q → ds.length = 1 ∧ t_is_letter ⟨fun _ => Q .non, fun d _ => Q d⟩ (startE 1 ds) := by
  rintro ds Q ⟨c, rfl, q⟩
  refine ⟨rfl, ?_⟩
  simp [t_is_letter]
  have e : ∀ b : Bool, (b = isLetter c) → Q (.bl b) := fun b h => by rw [h]; exact q
  by_cases h1 : 97 ≤ c.toNat
  · rw [if_pos (by omega)]
    exact e _ (by simp [isLetter, h1]; omega)
  · rw [if_neg (by omega)]
    exact e _ (by simp [isLetter, h1])
def f_is_digit : DSp := fun ds Q => ∃ c : UInt16, ds = [.int c.toNat] ∧ Q (.bl (isDigit c))
@[simp] theorem i_is_digit {c : UInt16} {Q : D → Prop} : f_is_digit [.int (c.toNat : Nat)] Q ↔ Q (.bl (isDigit c)) := by simp [f_is_digit, u16_inj]
def t_is_digit : DS := (dRet (dAndV (dLeI (dC (.int 48)) (dVar 0)) (dLeI (dVar 0) (dC (.int 57)))))
theorem pure_is_digit : ∀ ds Q, f_is_digit ds Q → ds.length = 1 ∧ t_is_digit ⟨fun _ => Q .non, fun d _ => Q d⟩ (startE 1 ds) := by
  rintro ds Q ⟨c, rfl, q⟩
  refine ⟨rfl, ?_⟩
  simp [t_is_digit]
  have e : ∀ b : Bool, (b = isDigit c) → Q (.bl b) := fun b h => by rw [h]; exact q
  by_cases h1 : 48 ≤ c.toNat
  · rw [if_pos (by omega)]
    exact e _ (by simp [isDigit, h1]; omega)
  · rw [if_neg (by omega)]
    exact e _ (by simp [isDigit, h1])
/-! pieces -/
def pgo : Units → Units → List Units
  | _, [] => []
  | run, c :: u => if isRunCharacter c then pgo (run ++ [c]) u else (if run.length = 0 then [] else [run]) ++ ((if c = 32 then [] else [[c]]) ++ pgo [] u)
def piecesOf (u : Units) : List Units := pgo [] (uncomment u ++ [32])
def f_pieces_of : DSp := fun ds Q => ∃ u : Units, ds = [eU u] ∧ u.length ≤ 1000000 ∧ Q (eL (piecesOf u))
@[simp] theorem i_pieces_of {u : Units} {Q : D → Prop} : f_pieces_of [eU u] Q ↔ u.length ≤ 1000000 ∧ Q (eL (piecesOf u)) := by simp [f_pieces_of]
def lb_pieces_of0 : DS := (dIfS (dOrT (dB (dCall f_is_letter (dCons (dVar 3) dNil))) (dB (dCall f_is_digit (dCons (dVar 3) dNil)))) (dApp 2 (dVar 3)) (dSeq (dIfS (dB (dGtI (dLen (dVar 2)) (dC (.int 0)))) (dSeq (dFix 2 (dApp 1 (dVar 2))) (dOwn 2 (dDisp dNil))) dNext) (dIfS (dB (dNeI (dVar 3) (dC (.int 32)))) (dApp 1 (dL (dDisp (dCons (dVar 3) dNil)))) dNext)))
def t_pieces_of : DS := (dSeq (dOwn 1 (dDisp dNil)) (dSeq (dOwn 2 (dDisp dNil)) (dSeq (dFor 3 (dItL (dL (dCat (dCall f_without_comment (dCons (dVar 0) dNil)) (dL (dDisp (dCons (dC (.int 32)) dNil)))))) lb_pieces_of0) (dRet (dVar 1)))))
theorem loop_pieces_of {Dn : DN} {a : Slot} : ∀ (u : Units) (ps : List Units) (run : Units) (s : Slot), ps.length + 2 * u.length < 16777216 → run.length + u.length < 16777216 →
    (∀ run' s, Dn.nx [a, .own ((ps ++ pgo run u).map eU), .own run', s]) →
    dLoop 3 lb_pieces_of0 (u.map fun c => .int ((c.toNat : Nat) : Int)) Dn [a, .own (ps.map eU), .own ((ints16 run).map D.int), s]
  | [], ps, run, s, h1, h2, h => by
    rw [List.map_nil, loop_nil]
    have z := h ((ints16 run).map D.int) s
    simpa [pgo] using z
  | c :: u, ps, run, s, h1, h2, h => by
    rw [List.map_cons, loop_cons]
    rw [List.length_cons] at h1 h2
    have fin : ∀ (qs : List Units), qs.length ≤ ps.length + 2 → (∀ run' s, Dn.nx [a, .own ((qs ++ pgo [] u).map eU), .own run', s]) → dLoop 3 lb_pieces_of0 (u.map fun c => .int ((c.toNat : Nat) : Int)) Dn [a, .own (qs.map eU), .own [], .val (.int c.toNat)] := fun qs hq hh => by
      have z := loop_pieces_of (Dn := Dn) (a := a) u qs [] (.val (.int c.toNat)) (by omega) (by simp; omega) hh
      simpa [ints16] using z
    cases hr : isRunCharacter c with
    | true =>
      have z := loop_pieces_of (Dn := Dn) (a := a) u ps (run ++ [c]) (.val (.int c.toNat)) (by omega) (by simp; omega) (by simpa [pgo, hr] using h)
      have hor : isLetter c = true ∨ isDigit c = true := by simpa [isRunCharacter] using hr
      simp [lb_pieces_of0]
      rcases hor with h3 | h3
      · rw [if_pos h3]
        refine ⟨by omega, ?_⟩
        simp [ints16] at z ⊢
        exact z
      · by_cases h4 : isLetter c = true
        · rw [if_pos h4]
          refine ⟨by omega, ?_⟩
          simp [ints16] at z ⊢
          exact z
        · rw [if_neg h4, if_pos h3]
          refine ⟨by omega, ?_⟩
          simp [ints16] at z ⊢
          exact z
    | false =>
      have hn : ¬ isLetter c = true ∧ ¬ isDigit c = true := by simpa [isRunCharacter] using hr
      simp [lb_pieces_of0]
      rw [if_neg hn.1, if_neg hn.2]
      simp only [pgo, hr] at h
      simp at h
      by_cases h0 : run.length = 0
      · have h0' : ¬ (0 : Int) < (run.length : Int) := by omega
        have e0 : run = [] := List.eq_nil_of_length_eq_zero h0
        subst e0
        simp [c32]
        by_cases h32 : c = 32
        · subst h32
          simp
          exact fin ps (by omega) (by simpa using h)
        · rw [if_neg h32]
          refine ⟨by omega, ?_⟩
          have z := fin (ps ++ [[c]]) (by simp) (by simpa [h32] using h)
          simp [eU, eI, ints16] at z ⊢
          exact z
      · have h0' : (0 : Int) < (run.length : Int) := by omega
        simp [h0', c32]
        rw [if_pos (by omega)]
        refine ⟨by omega, ?_⟩
        have ne : ¬ run = [] := by intro e; subst e; simp at h0
        simp [ne] at h
        by_cases h32 : c = 32
        · subst h32
          simp
          have z := fin (ps ++ [run]) (by simp) (by simpa using h)
          simp [eU, eI] at z ⊢
          exact z
        · rw [if_neg h32]
          refine ⟨by omega, ?_⟩
          have z := fin (ps ++ [run] ++ [[c]]) (by simp) (by simpa [h32] using h)
          simp [eU, eI, ints16] at z ⊢
          exact z
theorem pure_pieces_of : ∀ ds Q, f_pieces_of ds Q → ds.length = 1 ∧ t_pieces_of ⟨fun _ => Q .non, fun d _ => Q d⟩ (startE 4 ds) := by
  rintro ds Q ⟨u, rfl, hl, q⟩
  refine ⟨rfl, ?_⟩
  have hu : (uncomment u).length ≤ u.length := by
    unfold uncomment
    exact (List.takeWhile_sublist _).length_le
  simp [t_pieces_of]
  refine ⟨by omega, by omega, ?_⟩
  have e : (ints16 (uncomment u)).map D.int ++ [D.int 32] = (uncomment u ++ [32]).map fun (c : UInt16) => D.int ((c.toNat : Nat) : Int) := by simp [ints16]
  rw [e]
  refine loop_pieces_of (uncomment u ++ [32]) [] [] .un (by simp; omega) (by simp; omega) fun run' s => ?_
  simpa [piecesOf, eL] using q
/-! tokens -/
def isWordP (p : Units) : Bool := isLetter (p.headD 0) && decide (p.length ≤ 12)
def f_is_word : DSp := fun ds Q => ∃ p : Units, ds = [eU p] ∧ p ≠ [] ∧ Q (.bl (isWordP p))
@[simp] theorem i_is_word {p : Units} {Q : D → Prop} : f_is_word [eU p] Q ↔ p ≠ [] ∧ Q (.bl (isWordP p)) := by simp [f_is_word]
def t_is_word : DS := (dRet (dAndV (dCall f_is_letter (dCons (dIx (dVar 0) (dC (.int 0))) dNil)) (dLeI (dLen (dVar 0)) (dC (.int 12)))))
theorem pure_is_word : ∀ ds Q, f_is_word ds Q → ds.length = 1 ∧ t_is_word ⟨fun _ => Q .non, fun d _ => Q d⟩ (startE 1 ds) := by
  rintro ds Q ⟨p, rfl, hp, q⟩
  refine ⟨rfl, ?_⟩
  obtain ⟨c, r, rfl⟩ := List.exists_cons_of_ne_nil hp
  simp [t_is_word, ints16]
  have e : ∀ b : Bool, (b = isWordP (c :: r)) → Q (.bl b) := fun b h => by rw [h]; exact q
  cases hc : isLetter c with
  | true =>
    simp
    exact e _ (by simp [isWordP, hc]; omega)
  | false =>
    simp
    exact e _ (by simp [isWordP, hc])
def isNumberP (p : Units) : Bool := p.all isDigit && (decide (p.length ≤ 5) && (decide (p.length = 1) || !(p.headD 0 == 48)))
def f_is_number : DSp := fun ds Q => ∃ p : Units, ds = [eU p] ∧ p ≠ [] ∧ Q (.bl (isNumberP p))
@[simp] theorem i_is_number {p : Units} {Q : D → Prop} : f_is_number [eU p] Q ↔ p ≠ [] ∧ Q (.bl (isNumberP p)) := by simp [f_is_number]
def lb_is_number0 : DS := (dIfS (dNotT (dB (dCall f_is_digit (dCons (dVar 1) dNil)))) (dRet (dC (.bl false))) dNext)
def t_is_number : DS := (dSeq (dFor 1 (dItL (dVar 0)) lb_is_number0) (dRet (dAndV (dLeI (dLen (dVar 0)) (dC (.int 5))) (dOrV (dEqI (dLen (dVar 0)) (dC (.int 1))) (dNeI (dIx (dVar 0) (dC (.int 0))) (dC (.int 48)))))))
theorem loop_is_number {Dn : DN} {a : Slot} : ∀ (u : Units) (s : Slot), (u.all isDigit = false → ∀ s, Dn.rt (.bl false) [a.opn, s]) → (u.all isDigit = true → ∀ s, Dn.nx [a, s]) → dLoop 1 lb_is_number0 (u.map fun c => .int ((c.toNat : Nat) : Int)) Dn [a, s]
  | [], s, h1, h2 => by
    rw [List.map_nil, loop_nil]
    exact h2 rfl s
  | c :: u, s, h1, h2 => by
    rw [List.map_cons, loop_cons]
    simp [lb_is_number0]
    rw [List.all_cons] at h1 h2
    cases hc : isDigit c with
    | false =>
      simp
      exact h1 (by simp [hc]) _
    | true =>
      simp
      rw [hc] at h1 h2
      exact loop_is_number u _ (by simpa using h1) (by simpa using h2)
theorem pure_is_number : ∀ ds Q, f_is_number ds Q → ds.length = 1 ∧ t_is_number ⟨fun _ => Q .non, fun d _ => Q d⟩ (startE 2 ds) := by
  rintro ds Q ⟨p, rfl, hp, q⟩
  refine ⟨rfl, ?_⟩
  simp [t_is_number]
  rw [ints16_map]
  refine loop_is_number p .un (fun h s => ?_) fun h s => ?_
  · have e : isNumberP p = false := by simp only [isNumberP, h, Bool.false_and]
    rw [e] at q
    exact q
  · obtain ⟨c, r, rfl⟩ := List.exists_cons_of_ne_nil hp
    have e : isNumberP (c :: r) = (decide ((c :: r).length ≤ 5) && (decide ((c :: r).length = 1) || !(c == 48))) := by simp only [isNumberP, h, Bool.true_and, List.headD_cons]
    rw [e] at q
    simp [ints16]
    by_cases h5 : (r.length : Int) ≤ 4
    · have h5' : (c :: r).length ≤ 5 := by simp; omega
      have h6 : ((r.length : Int) + 1 ≤ 5) := by omega
      rw [decide_eq_true h5', Bool.true_and] at q
      rw [if_pos (by omega)]
      by_cases h1 : r.length = 0
      · rw [if_pos (by omega)]
        have h1' : (c :: r).length = 1 := by rw [List.length_cons]; omega
        rw [decide_eq_true h1', Bool.true_or] at q
        exact q
      · rw [if_neg (by omega)]
        have h1' : ¬ (c :: r).length = 1 := by rw [List.length_cons]; omega
        rw [decide_eq_false h1', Bool.false_or] at q
        have e2 : (!(c == 48)) = !decide (((c.toNat : Nat) : Int) = 48) := by
          congr 1
          rw [Bool.eq_iff_iff]
          simp [c48]
        rw [e2] at q
        exact q
    · rw [if_neg (by omega)]
      have h5' : ¬ (c :: r).length ≤ 5 := by simp; omega
      rw [decide_eq_false h5', Bool.false_and] at q
      exact q
def isTok (p : Units) : Bool := isWordP p || (isNumberP p || (decide (p = [40]) || decide (p = [41])))
def f_is_token : DSp := fun ds Q => ∃ p : Units, ds = [eU p] ∧ p ≠ [] ∧ Q (.bl (isTok p))
@[simp] theorem i_is_token {p : Units} {Q : D → Prop} : f_is_token [eU p] Q ↔ p ≠ [] ∧ Q (.bl (isTok p)) := by simp [f_is_token]
def t_is_token : DS := (dRet (dOrV (dCall f_is_word (dCons (dVar 0) dNil)) (dOrV (dCall f_is_number (dCons (dVar 0) dNil)) (dOrV (dEqL (dVar 0) (dL (dDisp (dCons (dC (.int 40)) dNil)))) (dEqL (dVar 0) (dL (dDisp (dCons (dC (.int 41)) dNil))))))))
theorem eq_one {p : Units} {n : Nat} (hn : n < 65536) : ints16 p = [(n : Int)] ↔ p = [UInt16.ofNat n] := by
  constructor
  · intro h
    match p, h with
    | [c], h =>
      have h1 : ((c.toNat : Nat) : Int) = (n : Int) := (List.cons.inj h).1
      rw [(toNat_eq hn).mp h1]
  · intro h
    subst h
    show [(((UInt16.ofNat n).toNat : Nat) : Int)] = _
    rw [(toNat_eq hn).mpr rfl]
theorem pure_is_token : ∀ ds Q, f_is_token ds Q → ds.length = 1 ∧ t_is_token ⟨fun _ => Q .non, fun d _ => Q d⟩ (startE 1 ds) := by
  rintro ds Q ⟨p, rfl, hp, q⟩
  refine ⟨rfl, ?_⟩
  simp [t_is_token, hp]
  unfold isTok at q
  cases h1 : isWordP p with
  | true =>
    rw [h1] at q
    simpa using q
  | false =>
    rw [h1] at q
    simp
    cases h2 : isNumberP p with
    | true =>
      rw [h2] at q
      simpa using q
    | false =>
      rw [h2] at q
      simp
      have e40 : ints16 p = [40] ↔ p = [40] := eq_one (n := 40) (by decide)
      have e41 : ints16 p = [41] ↔ p = [41] := eq_one (n := 41) (by decide)
      refine ⟨[40], rfl, ?_⟩
      by_cases h3 : p = [40]
      · rw [if_pos (e40.mpr h3)]
        rw [decide_eq_true h3] at q
        simpa using q
      · rw [if_neg fun z => h3 (e40.mp z)]
        rw [decide_eq_false h3] at q
        refine ⟨[41], rfl, ?_⟩
        have e : decide (ints16 p = [41]) = decide (p = [41]) := decide_eq_decide.mpr e41
        rw [e]
        simpa using q
def f_all_tokens : DSp := fun ds Q => ∃ ps : List Units, ds = [eL ps] ∧ (∀ p ∈ ps, p ≠ []) ∧ Q (.bl (ps.all isTok))
@[simp] theorem i_all_tokens {ps : List Units} {Q : D → Prop} : f_all_tokens [eL ps] Q ↔ (∀ p ∈ ps, p ≠ []) ∧ Q (.bl (ps.all isTok)) := by simp [f_all_tokens]
def lb_all_tokens0 : DS := (dIfS (dNotT (dB (dCall f_is_token (dCons (dVar 1) dNil)))) (dRet (dC (.bl false))) dNext)
def t_all_tokens : DS := (dSeq (dFor 1 (dItL (dVar 0)) lb_all_tokens0) (dRet (dC (.bl true))))
theorem loop_all_tokens {Dn : DN} {a : Slot} : ∀ (ps : List Units) (s : Slot), (∀ p ∈ ps, p ≠ []) → (ps.all isTok = false → ∀ s, Dn.rt (.bl false) [a.opn, s]) → (ps.all isTok = true → ∀ s, Dn.nx [a, s]) → dLoop 1 lb_all_tokens0 (ps.map eU) Dn [a, s]
  | [], s, hne, h1, h2 => by
    rw [List.map_nil, loop_nil]
    exact h2 rfl s
  | p :: ps, s, hne, h1, h2 => by
    rw [List.map_cons, loop_cons]
    simp [lb_all_tokens0]
    refine ⟨hne p (List.mem_cons_self ..), ?_⟩
    rw [List.all_cons] at h1 h2
    cases hc : isTok p with
    | false =>
      simp
      exact h1 (by simp [hc]) _
    | true =>
      simp
      rw [hc] at h1 h2
      exact loop_all_tokens ps _ (fun q hq => hne q (List.mem_cons_of_mem _ hq)) (by simpa using h1) (by simpa using h2)
theorem pure_all_tokens : ∀ ds Q, f_all_tokens ds Q → ds.length = 1 ∧ t_all_tokens ⟨fun _ => Q .non, fun d _ => Q d⟩ (startE 2 ds) := by
  rintro ds Q ⟨ps, rfl, hp, q⟩
  refine ⟨rfl, ?_⟩
  simp [t_all_tokens]
  refine loop_all_tokens ps .un hp (fun h s => ?_) fun h s => ?_
  · rw [h] at q; exact q
  · rw [h] at q; exact q
def f_all_words : DSp := fun ds Q => ∃ ps : List Units, ds = [eL ps] ∧ (∀ p ∈ ps, p ≠ []) ∧ Q (.bl (ps.all isWordP))
@[simp] theorem i_all_words {ps : List Units} {Q : D → Prop} : f_all_words [eL ps] Q ↔ (∀ p ∈ ps, p ≠ []) ∧ Q (.bl (ps.all isWordP)) := by simp [f_all_words]
def lb_all_words0 : DS := (dIfS (dNotT (dB (dCall f_is_word (dCons (dVar 1) dNil)))) (dRet (dC (.bl false))) dNext)
def t_all_words : DS := (dSeq (dFor 1 (dItL (dVar 0)) lb_all_words0) (dRet (dC (.bl true))))
theorem loop_all_words {Dn : DN} {a : Slot} : ∀ (ps : List Units) (s : Slot), (∀ p ∈ ps, p ≠ []) → (ps.all isWordP = false → ∀ s, Dn.rt (.bl false) [a.opn, s]) → (ps.all isWordP = true → ∀ s, Dn.nx [a, s]) → dLoop 1 lb_all_words0 (ps.map eU) Dn [a, s]
  | [], s, hne, h1, h2 => by
    rw [List.map_nil, loop_nil]
    exact h2 rfl s
  | p :: ps, s, hne, h1, h2 => by
    rw [List.map_cons, loop_cons]
    simp [lb_all_words0]
    refine ⟨hne p (List.mem_cons_self ..), ?_⟩
    rw [List.all_cons] at h1 h2
    cases hc : isWordP p with
    | false =>
      simp
      exact h1 (by simp [hc]) _
    | true =>
      simp
      rw [hc] at h1 h2
      exact loop_all_words ps _ (fun q hq => hne q (List.mem_cons_of_mem _ hq)) (by simpa using h1) (by simpa using h2)
theorem pure_all_words : ∀ ds Q, f_all_words ds Q → ds.length = 1 ∧ t_all_words ⟨fun _ => Q .non, fun d _ => Q d⟩ (startE 2 ds) := by
  rintro ds Q ⟨ps, rfl, hp, q⟩
  refine ⟨rfl, ?_⟩
  simp [t_all_words]
  refine loop_all_words ps .un hp (fun h s => ?_) fun h s => ?_
  · rw [h] at q; exact q
  · rw [h] at q; exact q
/-! keys -/
def keysU : List Units := [Panels.units "sheet", Panels.units "magnet", Panels.units "drawer", Panels.units "put", Panels.units "off", Panels.units "move", Panels.units "take"]
def keyS (k : Nat) : PySem.Str := keysW.getD k ""
def f_letters_of : DSp := fun ds Q => ∃ k : Nat, ds = [.str (keyS k)] ∧ k < 7 ∧ Q (eU (keysU.getD k []))
theorem c_letters_of {k : Nat} {Q : D → Prop} (h : k < 7) (q : Q (eU (keysU.getD k []))) : f_letters_of [.str (keyS k)] Q := ⟨k, rfl, h, q⟩
def t_letters_of : DS := (dRet (dL (dLc 1 (dItS (dVar 0)) dYes (dOrd (dVar 1)))))
theorem key_codes {k : Nat} (h : k < 7) : (keyS k).cps.toList.map (fun c => ((c : Nat) : Int)) = ints16 (keysU.getD k []) := by
  have : k = 0 ∨ k = 1 ∨ k = 2 ∨ k = 3 ∨ k = 4 ∨ k = 5 ∨ k = 6 := by omega
  rcases this with rfl | rfl | rfl | rfl | rfl | rfl | rfl <;> decide +kernel
theorem key_size {k : Nat} (h : k < 7) : (keyS k).cps.toList.length ≤ 100 := by
  have : k = 0 ∨ k = 1 ∨ k = 2 ∨ k = 3 ∨ k = 4 ∨ k = 5 ∨ k = 6 := by omega
  rcases this with rfl | rfl | rfl | rfl | rfl | rfl | rfl <;> decide +kernel
theorem pure_letters_of : ∀ ds Q, f_letters_of ds Q → ds.length = 1 ∧ t_letters_of ⟨fun _ => Q .non, fun d _ => Q d⟩ (startE 2 ds) := by
  rintro ds Q ⟨k, rfl, hk, q⟩
  refine ⟨rfl, ?_⟩
  have hz := key_size hk
  simp [t_letters_of]
  simp at hz
  refine ⟨by omega, ?_⟩
  refine lcD_all (fun c => .str ⟨#[c]⟩) (fun (c : _) => .int ((c : Nat) : Int)) _ (fun c hc R r => ?_) ?_
  · simp [PySem.Str.length]
    exact r
  · have e : D.lst ((keyS k).cps.toList.map fun (c : Nat) => D.int ((c : Nat) : Int)) = eU (keysU.getD k []) := by
      unfold eU eI
      rw [← key_codes hk, List.map_map]
      rfl
    rw [e]
    exact q
theorem keysW_len : keysW.length = 7 := rfl
theorem keysW_at {k : Nat} (h : k < 7) : keysW[k]? = some (keyS k) := by
  have : k = 0 ∨ k = 1 ∨ k = 2 ∨ k = 3 ∨ k = 4 ∨ k = 5 ∨ k = 6 := by omega
  rcases this with rfl | rfl | rfl | rfl | rfl | rfl | rfl <;> rfl
theorem keysU_len : keysU.length = 7 := rfl
def f_key_of : DSp := fun ds Q => ∃ t : Units, ds = [eU t] ∧ Q (.int (placeOf keysU t))
@[simp] theorem i_key_of {t : Units} {Q : D → Prop} : f_key_of [eU t] Q ↔ Q (.int (placeOf keysU t)) := by simp [f_key_of]
def lb_key_of0 : DS := (dIfS (dB (dEqL (dCall f_letters_of (dCons (dIx (dC (.tup (keysW.map D.str))) (dVar 1)) dNil)) (dVar 0))) (dRet (dVar 1)) dNext)
def t_key_of : DS := (dSeq (dFor 1 (dItR (dLen (dC (.tup (keysW.map D.str))))) lb_key_of0) (dRet (dNeg (dC (.int 1)))))
theorem loop_key_of {Dn : DN} {t : Units} : ∀ (m j : Nat) (s : Slot), j + m = 7 → t ∉ keysU.take j →
    (∀ k, placeOf keysU t = (k : Nat) → Dn.rt (.int (k : Int)) [.val (eU t), .val (.int (k : Int))]) → (placeOf keysU t = -1 → ∀ s, Dn.nx [.val (eU t), s]) →
    dLoop 1 lb_key_of0 ((List.range' j m).map fun (k : Nat) => .int (k : Int)) Dn [.val (eU t), s]
  | 0, j, s, hj, hn, h1, h2 => by
    rw [List.range'_zero, List.map_nil, loop_nil]
    refine h2 ?_ s
    unfold placeOf
    rw [if_neg]
    rw [List.take_of_length_le (by rw [keysU_len]; omega)] at hn
    simpa using hn
  | m + 1, j, s, hj, hn, h1, h2 => by
    rw [List.range'_succ, List.map_cons, loop_cons]
    have hlt7 : j < 7 := by omega
    have hlt : j < keysU.length := by rw [keysU_len]; omega
    have eg : keysU.getD j [] = keysU[j] := by simp [hlt]
    simp [lb_key_of0, keysW_at hlt7]
    refine c_letters_of hlt7 ?_
    rw [eg]
    simp [eU_int]
    by_cases hb : keysU[j] = t
    · rw [if_pos hb]
      refine h1 j ?_
      unfold placeOf
      have hm : t ∈ keysU := by rw [← hb]; exact List.getElem_mem hlt
      rw [if_pos (by simpa using hm)]
      rw [idxOf_first hlt hb hn]
    · rw [if_neg hb]
      refine loop_key_of m (j + 1) _ (by omega) ?_ h1 h2
      rw [List.take_succ_eq_append_getElem hlt, List.mem_append, List.mem_singleton]
      exact fun h => h.elim hn fun z => hb z.symm
theorem pure_key_of : ∀ ds Q, f_key_of ds Q → ds.length = 1 ∧ t_key_of ⟨fun _ => Q .non, fun d _ => Q d⟩ (startE 2 ds) := by
  rintro ds Q ⟨t, rfl, q⟩
  refine ⟨rfl, ?_⟩
  simp [t_key_of, keysW_len]
  rw [show List.range 7 = List.range' 0 7 from rfl]
  refine loop_key_of 7 0 .un (by omega) (by simp) (fun k e => ?_) fun e s => ?_
  · rw [e] at q
    simpa using q
  · rw [e] at q
    simpa using q
def fitsM (k : Nat) (rest : List Units) : Bool :=
  if k = 0 then decide (2 ≤ rest.length) && rest.all isWordP
  else if k = 2 then decide (rest.length = 1) && isNumberP (rest.headD [])
  else if k = 5 then decide (rest.length = 2) && rest.all isWordP
  else decide (rest.length = 1) && rest.all isWordP
def f_fits : DSp := fun ds Q => ∃ (k : Nat) (rest : List Units), ds = [.int k, eL rest] ∧ (∀ p ∈ rest, p ≠ []) ∧ Q (.bl (fitsM k rest))
@[simp] theorem i_fits {k : Nat} {rest : List Units} {Q : D → Prop} : f_fits [.int (k : Nat), eL rest] Q ↔ (∀ p ∈ rest, p ≠ []) ∧ Q (.bl (fitsM k rest)) := by simp [f_fits]
def t_fits : DS := (dSeq (dIfS (dB (dEqI (dVar 0) (dC (.int 0)))) (dRet (dAndV (dGeI (dLen (dVar 1)) (dC (.int 2))) (dCall f_all_words (dCons (dVar 1) dNil)))) dNext) (dSeq (dIfS (dB (dEqI (dVar 0) (dC (.int 2)))) (dRet (dAndV (dEqI (dLen (dVar 1)) (dC (.int 1))) (dCall f_is_number (dCons (dIx (dVar 1) (dC (.int 0))) dNil)))) dNext) (dSeq (dIfS (dB (dEqI (dVar 0) (dC (.int 5)))) (dRet (dAndV (dEqI (dLen (dVar 1)) (dC (.int 2))) (dCall f_all_words (dCons (dVar 1) dNil)))) dNext) (dRet (dAndV (dEqI (dLen (dVar 1)) (dC (.int 1))) (dCall f_all_words (dCons (dVar 1) dNil)))))))
theorem and_word {rest : List Units} {n : Nat} {b : Bool} {Q : D → Prop} (hr : ∀ p ∈ rest, p ≠ []) {c : Prop} [Decidable c] (hc : c ↔ b = true) (q : Q (.bl (b && rest.all isWordP))) : if c then (∀ p ∈ rest, p ≠ []) ∧ Q (.bl (rest.all isWordP)) else Q (.bl false) := by
  by_cases h : c
  · rw [if_pos h]
    rw [hc.mp h, Bool.true_and] at q
    exact ⟨hr, q⟩
  · rw [if_neg h]
    have : b = false := by
      cases b with
      | false => rfl
      | true => exact absurd (hc.mpr rfl) h
    rw [this, Bool.false_and] at q
    exact q
theorem pure_fits : ∀ ds Q, f_fits ds Q → ds.length = 2 ∧ t_fits ⟨fun _ => Q .non, fun d _ => Q d⟩ (startE 2 ds) := by
  rintro ds Q ⟨k, rest, rfl, hr, q⟩
  refine ⟨rfl, ?_⟩
  simp [t_fits]
  unfold fitsM at q
  by_cases h0 : k = 0
  · rw [if_pos h0] at q
    rw [if_pos h0]
    exact and_word (n := 0) hr (by simp; omega) q
  · rw [if_neg h0] at q
    rw [if_neg h0]
    by_cases h2 : k = 2
    · rw [if_pos h2] at q
      rw [if_pos (by omega)]
      by_cases h1 : rest.length = 1
      · rw [if_pos (by omega)]
        rw [decide_eq_true h1, Bool.true_and] at q
        match rest, h1 with
        | [p], _ =>
          simp
          exact ⟨hr p (by simp), by simpa using q⟩
      · rw [if_neg (by omega)]
        rw [decide_eq_false h1, Bool.false_and] at q
        exact q
    · rw [if_neg h2] at q
      rw [if_neg (by omega)]
      by_cases h5 : k = 5
      · rw [if_pos h5] at q
        rw [if_pos (by omega)]
        exact and_word (n := 0) hr (by simp; omega) q
      · rw [if_neg h5] at q
        rw [if_neg (by omega)]
        exact and_word (n := 0) hr (by simp; omega) q
def kindOf (row : List Units) : Int := if 0 ≤ placeOf keysU (row.headD []) ∧ fitsM (placeOf keysU (row.headD [])).toNat (row.drop 1) = true then placeOf keysU (row.headD []) else -1
def f_kind_of : DSp := fun ds Q => ∃ row : List Units, ds = [eL row] ∧ row ≠ [] ∧ (∀ p ∈ row, p ≠ []) ∧ Q (.int (kindOf row))
@[simp] theorem i_kind_of {row : List Units} {Q : D → Prop} : f_kind_of [eL row] Q ↔ row ≠ [] ∧ (∀ p ∈ row, p ≠ []) ∧ Q (.int (kindOf row)) := by simp [f_kind_of]
def t_kind_of : DS := (dSeq (dSet 1 (dCall f_key_of (dCons (dIx (dVar 0) (dC (.int 0))) dNil))) (dSeq (dIfS (dAndT (dB (dGeI (dVar 1) (dC (.int 0)))) (dB (dCall f_fits (dCons (dVar 1) (dCons (dL (dSl (dVar 0) (dPart (dC (.int 1))) dNoPart)) dNil))))) (dRet (dVar 1)) dNext) (dRet (dNeg (dC (.int 1))))))
theorem cutD_from {ds : List D} {n : Nat} : cutD ds (some (n : Int)) none = ds.drop n := by
  unfold cutD
  rw [HT.sIx_nat, HT.sIx_none]
  by_cases h : n ≤ ds.length
  · rw [Nat.min_eq_left h]
    exact List.take_of_length_le (by simp)
  · rw [Nat.min_eq_right (by omega)]
    rw [List.drop_of_length_le (Nat.le_refl _), List.drop_of_length_le (by omega), List.take_nil]
theorem pure_kind_of : ∀ ds Q, f_kind_of ds Q → ds.length = 1 ∧ t_kind_of ⟨fun _ => Q .non, fun d _ => Q d⟩ (startE 2 ds) := by
  rintro ds Q ⟨row, rfl, hn, hr, q⟩
  refine ⟨rfl, ?_⟩
  obtain ⟨t, rest, rfl⟩ := List.exists_cons_of_ne_nil hn
  have e1 : cutD ((t :: rest).map eU) (some 1) none = rest.map eU := cutD_from (n := 1)
  simp [t_kind_of]
  simp at e1
  rw [e1]
  have eR : D.lst (rest.map eU) = eL rest := rfl
  simp only [eR]
  unfold kindOf at q
  simp at q
  by_cases h0 : 0 ≤ placeOf keysU t
  · rw [if_pos h0]
    obtain ⟨k, hk⟩ : ∃ k : Nat, placeOf keysU t = (k : Nat) := ⟨(placeOf keysU t).toNat, by omega⟩
    rw [hk] at q ⊢
    simp
    refine ⟨fun p hp => hr p (List.mem_cons_of_mem _ hp), ?_⟩
    simp at q
    cases hf : fitsM k rest with
    | true => simpa [hf] using q
    | false => simpa [hf] using q
  · rw [if_neg h0]
    rw [if_neg (fun z => h0 z.1)] at q
    exact q
def formProblem (row : List Units) : Int := if row.all isTok = true then (if 8 < row.length then 2 else if kindOf row < 0 then 3 else 0) else 1
def f_form_problem : DSp := fun ds Q => ∃ row : List Units, ds = [eL row] ∧ row ≠ [] ∧ (∀ p ∈ row, p ≠ []) ∧ Q (.int (formProblem row))
@[simp] theorem i_form_problem {row : List Units} {Q : D → Prop} : f_form_problem [eL row] Q ↔ row ≠ [] ∧ (∀ p ∈ row, p ≠ []) ∧ Q (.int (formProblem row)) := by simp [f_form_problem]
def t_form_problem : DS := (dSeq (dIfS (dNotT (dB (dCall f_all_tokens (dCons (dVar 0) dNil)))) (dRet (dC (.int 1))) dNext) (dSeq (dIfS (dB (dGtI (dLen (dVar 0)) (dC (.int 8)))) (dRet (dC (.int 2))) dNext) (dSeq (dIfS (dB (dLtI (dCall f_kind_of (dCons (dVar 0) dNil)) (dC (.int 0)))) (dRet (dC (.int 3))) dNext) (dRet (dC (.int 0))))))
theorem pure_form_problem : ∀ ds Q, f_form_problem ds Q → ds.length = 1 ∧ t_form_problem ⟨fun _ => Q .non, fun d _ => Q d⟩ (startE 1 ds) := by
  rintro ds Q ⟨row, rfl, hn, hr, q⟩
  refine ⟨rfl, ?_⟩
  unfold formProblem at q
  by_cases h1 : row.all isTok = true
  · rw [if_pos h1] at q
    simp only [t_form_problem, dSeq, dIfS, dNotT, dB, dCall, dCons, dNil, dVar, opn, startE]
    simp
    refine ⟨hr, ?_⟩
    have h1' : ∀ x ∈ row, isTok x = true := by simpa using h1
    rw [if_pos h1']
    by_cases h8 : 8 < row.length
    · rw [if_pos h8] at q
      rw [if_pos (by omega)]
      exact q
    · rw [if_neg h8] at q
      rw [if_neg (by omega)]
      refine ⟨hn, hr, ?_⟩
      by_cases h3 : kindOf row < 0
      · rw [if_pos h3] at q ⊢
        exact q
      · rw [if_neg h3] at q ⊢
        exact q
  · rw [if_neg h1] at q
    simp only [t_form_problem, dSeq, dIfS, dNotT, dB, dCall, dCons, dNil, dVar, opn, startE]
    simp
    refine ⟨hr, ?_⟩
    have h1' : ¬ ∀ x ∈ row, isTok x = true := by simpa using h1
    rw [if_neg h1']
    exact q
def f_value_of : DSp := fun ds Q => ∃ t : Units, ds = [eU t] ∧ t.all isDigit = true ∧ Q (.int (Panels.digitsValue 0 t : Nat))
@[simp] theorem i_value_of {t : Units} {Q : D → Prop} : f_value_of [eU t] Q ↔ t.all isDigit = true ∧ Q (.int (Panels.digitsValue 0 t : Nat)) := by simp [f_value_of]
def lb_value_of0 : DS := (dSet 1 (dSub (dAdd (dMul (dVar 1) (dC (.int 10))) (dVar 2)) (dC (.int 48))))
def t_value_of : DS := (dSeq (dSet 1 (dC (.int 0))) (dSeq (dFor 2 (dItL (dVar 0)) lb_value_of0) (dRet (dVar 1))))
theorem loop_value_of {Dn : DN} {a : Slot} : ∀ (t : Units) (n : Nat) (s : Slot), t.all isDigit = true → (∀ s, Dn.nx [a, .val (.int (Panels.digitsValue n t : Nat)), s]) → dLoop 2 lb_value_of0 (t.map fun c => .int ((c.toNat : Nat) : Int)) Dn [a, .val (.int (n : Nat)), s]
  | [], n, s, hd, h => by
    rw [List.map_nil, loop_nil]
    exact h s
  | c :: t, n, s, hd, h => by
    rw [List.map_cons, loop_cons]
    rw [List.all_cons, Bool.and_eq_true] at hd
    have hc : 48 ≤ c.toNat := by
      have := hd.1
      simp [isDigit] at this
      exact this.1
    simp [lb_value_of0]
    refine ⟨.inr ⟨by decide, by decide⟩, ?_⟩
    have e : (n : Int) * 10 + (c.toNat : Int) - 48 = ((n * 10 + (c.toNat - 48) : Nat) : Int) := by omega
    rw [e]
    exact loop_value_of t (n * 10 + (c.toNat - 48)) _ hd.2 h
theorem pure_value_of : ∀ ds Q, f_value_of ds Q → ds.length = 1 ∧ t_value_of ⟨fun _ => Q .non, fun d _ => Q d⟩ (startE 3 ds) := by
  rintro ds Q ⟨t, rfl, hd, q⟩
  refine ⟨rfl, ?_⟩
  simp [t_value_of]
  rw [ints16_map]
  exact loop_value_of t 0 .un hd fun s => by simpa using q
def spacedM (row : List Units) : Units := row.headD [] ++ (row.drop 1).flatMap fun t => 32 :: t
def sizeM (row : List Units) : Nat := (row.map List.length).sum + row.length
def f_spaced : DSp := fun ds Q => ∃ row : List Units, ds = [eL row] ∧ row ≠ [] ∧ sizeM row ≤ 10000000 ∧ Q (eU (spacedM row))
@[simp] theorem i_spaced {row : List Units} {Q : D → Prop} : f_spaced [eL row] Q ↔ row ≠ [] ∧ sizeM row ≤ 10000000 ∧ Q (eU (spacedM row)) := by simp [f_spaced]
def lb_spaced0 : DS := (dSeq (dApp 1 (dC (.int 32))) (dExt 1 (dVar 2)))
def t_spaced : DS := (dSeq (dOwn 1 (dList (dIx (dVar 0) (dC (.int 0))))) (dSeq (dFor 2 (dItL (dL (dSl (dVar 0) (dPart (dC (.int 1))) dNoPart))) lb_spaced0) (dRet (dVar 1))))
theorem loop_spaced {Dn : DN} {a : Slot} : ∀ (ts : List Units) (line : Units) (s : Slot), line.length + sizeM ts ≤ 16000000 → (∀ s, Dn.nx [a, .own ((ints16 (line ++ ts.flatMap fun t => 32 :: t)).map D.int), s]) →
    dLoop 2 lb_spaced0 (ts.map eU) Dn [a, .own ((ints16 line).map D.int), s]
  | [], line, s, hl, h => by
    rw [List.map_nil, loop_nil]
    simpa using h s
  | t :: ts, line, s, hl, h => by
    rw [List.map_cons, loop_cons]
    have e1 : sizeM (t :: ts) = t.length + 1 + sizeM ts := by simp [sizeM]; omega
    rw [e1] at hl
    simp [lb_spaced0]
    refine ⟨by omega, by omega, ?_⟩
    have z := loop_spaced (Dn := Dn) (a := a) ts (line ++ 32 :: t) (.val (eU t)) (by simp; omega) (by simpa using h)
    simp [ints16] at z ⊢
    exact z
theorem pure_spaced : ∀ ds Q, f_spaced ds Q → ds.length = 1 ∧ t_spaced ⟨fun _ => Q .non, fun d _ => Q d⟩ (startE 3 ds) := by
  rintro ds Q ⟨row, rfl, hn, hz, q⟩
  refine ⟨rfl, ?_⟩
  obtain ⟨t, rest, rfl⟩ := List.exists_cons_of_ne_nil hn
  have e1 : cutD ((t :: rest).map eU) (some 1) none = rest.map eU := cutD_from (n := 1)
  have e2 : sizeM (t :: rest) = t.length + 1 + sizeM rest := by simp [sizeM]; omega
  simp at e1
  simp [t_spaced]
  rw [e1]
  refine loop_spaced rest t .un (by omega) fun s => ?_
  simpa [spacedM, eU, eI] using q
end PW
set_option Elab.async false
set_option linter.all false
set_option maxRecDepth 100000
set_option maxHeartbeats 2000000
namespace PW
/-- octets as a text -/
def u16 (o : List UInt8) : Units := o.map fun b => UInt16.ofNat b.toNat
theorem u16_toNat (b : UInt8) : (UInt16.ofNat b.toNat).toNat = b.toNat := by
  have := b.toNat_lt
  rw [UInt16.toNat_ofNat']
  omega
theorem e8_u16 (o : List UInt8) : e8 o = eU (u16 o) := by
  unfold e8 eU ints8 ints16 u16
  rw [List.map_map]
  congr 1
  refine List.map_congr_left fun b _ => ?_
  show ((b.toNat : Nat) : Int) = (((UInt16.ofNat b.toNat).toNat : Nat) : Int)
  rw [u16_toNat]
theorem u16_len (o : List UInt8) : (u16 o).length = o.length := by simp [u16]
def eO : Option Nat → Int
  | none => -1
  | some n => n
@[simp] theorem eO_none : eO none = -1 := rfl
@[simp] theorem eO_some {n : Nat} : eO (some n) = (n : Int) := rfl
def numAt (o : List UInt8) (p : Nat) : Nat := (o.getD p 0).toNat + 256 * (o.getD (p + 1) 0).toNat + 65536 * (o.getD (p + 2) 0).toNat + 16777216 * (o.getD (p + 3) 0).toNat
def f_number_at : DSp := fun ds Q => ∃ (o : List UInt8) (p : Nat), ds = [e8 o, .int p] ∧ p + 4 ≤ o.length ∧ Q (.int (numAt o p : Nat))
@[simp] theorem i_number_at {o : List UInt8} {p : Nat} {Q : D → Prop} : f_number_at [e8 o, .int (p : Nat)] Q ↔ p + 4 ≤ o.length ∧ Q (.int (numAt o p : Nat)) := by simp [f_number_at]
def t_number_at : DS := (dRet (dAdd (dAdd (dAdd (dIx (dVar 0) (dVar 1)) (dMul (dC (.int 256)) (dIx (dVar 0) (dAdd (dVar 1) (dC (.int 1)))))) (dMul (dC (.int 65536)) (dIx (dVar 0) (dAdd (dVar 1) (dC (.int 2)))))) (dMul (dC (.int 16777216)) (dIx (dVar 0) (dAdd (dVar 1) (dC (.int 3)))))))
theorem pure_number_at : ∀ ds Q, f_number_at ds Q → ds.length = 2 ∧ t_number_at ⟨fun _ => Q .non, fun d _ => Q d⟩ (startE 2 ds) := by
  rintro ds Q ⟨o, p, rfl, hp, q⟩
  refine ⟨rfl, ?_⟩
  have h0 : p < o.length := by omega
  have h1 : p + 1 < o.length := by omega
  have h2 : p + 2 < o.length := by omega
  have h3 : p + 3 < o.length := by omega
  have t1 : ((p : Int) + 1).toNat = p + 1 := by omega
  have t2 : ((p : Int) + 2).toNat = p + 2 := by omega
  have t3 : ((p : Int) + 3).toNat = p + 3 := by omega
  simp [t_number_at, ints8, h0, h1, h2, h3, t1, t2, t3]
  refine ⟨by omega, .inl ⟨by decide, by decide⟩, by omega, .inl ⟨by decide, by decide⟩, by omega, .inl ⟨by decide, by decide⟩, ?_⟩
  simp [numAt, h0, h1, h2, h3] at q
  exact q
def numEnd (o : List UInt8) (p : Nat) : Option Nat := if o.length < p + 4 then none else some (p + 4)
def f_number_end : DSp := fun ds Q => ∃ (o : List UInt8) (p : Nat), ds = [e8 o, .int p] ∧ Q (.int (eO (numEnd o p)))
@[simp] theorem i_number_end {o : List UInt8} {p : Nat} {Q : D → Prop} : f_number_end [e8 o, .int (p : Nat)] Q ↔ Q (.int (eO (numEnd o p))) := by simp [f_number_end]
def t_number_end : DS := (dSeq (dIfS (dB (dGtI (dAdd (dVar 1) (dC (.int 4))) (dLen (dVar 0)))) (dRet (dNeg (dC (.int 1)))) dNext) (dRet (dAdd (dVar 1) (dC (.int 4)))))
theorem pure_number_end : ∀ ds Q, f_number_end ds Q → ds.length = 2 ∧ t_number_end ⟨fun _ => Q .non, fun d _ => Q d⟩ (startE 2 ds) := by
  rintro ds Q ⟨o, p, rfl, q⟩
  refine ⟨rfl, ?_⟩
  simp [t_number_end]
  unfold numEnd at q
  by_cases h : o.length < p + 4
  · rw [if_pos h] at q
    rw [if_pos (by omega)]
    exact q
  · rw [if_neg h] at q
    rw [if_neg (by omega)]
    simpa using q
def textAt (o : List UInt8) (p : Nat) : List UInt8 := (o.drop (p + 4)).take (numAt o p)
def f_text_at : DSp := fun ds Q => ∃ (o : List UInt8) (p : Nat), ds = [e8 o, .int p] ∧ p + 4 ≤ o.length ∧ Q (eU (u16 (textAt o p)))
@[simp] theorem i_text_at {o : List UInt8} {p : Nat} {Q : D → Prop} : f_text_at [e8 o, .int (p : Nat)] Q ↔ p + 4 ≤ o.length ∧ Q (eU (u16 (textAt o p))) := by simp [f_text_at]
def t_text_at : DS := (dRet (dL (dSl (dVar 0) (dPart (dAdd (dVar 1) (dC (.int 4)))) (dPart (dAdd (dAdd (dVar 1) (dC (.int 4))) (dCall f_number_at (dCons (dVar 0) (dCons (dVar 1) dNil))))))))
theorem cutD_nat {ds : List D} {a b : Nat} (h : a ≤ ds.length) : cutD ds (some (a : Int)) (some (b : Int)) = (ds.drop a).take (b - a) := by
  unfold cutD
  rw [HT.sIx_nat, HT.sIx_nat, Nat.min_eq_left h]
  by_cases hb : b ≤ ds.length
  · rw [Nat.min_eq_left hb]
  · rw [Nat.min_eq_right (by omega)]
    rw [List.take_of_length_le (by simp), List.take_of_length_le (by simp; omega)]
theorem textAt_D {o : List UInt8} {p : Nat} : (((ints8 o).map D.int).drop (p + 4)).take (numAt o p) = (ints8 (textAt o p)).map D.int := by
  simp [ints8, textAt, List.map_drop, List.map_take]
theorem pure_text_at : ∀ ds Q, f_text_at ds Q → ds.length = 2 ∧ t_text_at ⟨fun _ => Q .non, fun d _ => Q d⟩ (startE 2 ds) := by
  rintro ds Q ⟨o, p, rfl, hp, q⟩
  refine ⟨rfl, ?_⟩
  rw [← e8_u16] at q
  simp [t_text_at]
  refine ⟨hp, ?_⟩
  have e1 : (p : Int) + 4 = ((p + 4 : Nat) : Int) := by omega
  have e2 : (p : Int) + 4 + (numAt o p : Int) = ((p + 4 + numAt o p : Nat) : Int) := by omega
  rw [e2, e1, cutD_nat (by simp; omega)]
  rw [show p + 4 + numAt o p - (p + 4) = numAt o p by omega, textAt_D]
  exact q
def textEnd (o : List UInt8) (p : Nat) : Option Nat := if o.length < p + 4 then none else if o.length - (p + 4) < numAt o p then none else some (p + 4 + numAt o p)
def f_text_end : DSp := fun ds Q => ∃ (o : List UInt8) (p : Nat), ds = [e8 o, .int p] ∧ Q (.int (eO (textEnd o p)))
@[simp] theorem i_text_end {o : List UInt8} {p : Nat} {Q : D → Prop} : f_text_end [e8 o, .int (p : Nat)] Q ↔ Q (.int (eO (textEnd o p))) := by simp [f_text_end]
def t_text_end : DS := (dSeq (dIfS (dB (dGtI (dAdd (dVar 1) (dC (.int 4))) (dLen (dVar 0)))) (dRet (dNeg (dC (.int 1)))) dNext) (dSeq (dSet 2 (dCall f_number_at (dCons (dVar 0) (dCons (dVar 1) dNil)))) (dSeq (dIfS (dB (dGtI (dVar 2) (dSub (dLen (dVar 0)) (dAdd (dVar 1) (dC (.int 4)))))) (dRet (dNeg (dC (.int 1)))) dNext) (dRet (dAdd (dAdd (dVar 1) (dC (.int 4))) (dVar 2))))))
theorem pure_text_end : ∀ ds Q, f_text_end ds Q → ds.length = 2 ∧ t_text_end ⟨fun _ => Q .non, fun d _ => Q d⟩ (startE 3 ds) := by
  rintro ds Q ⟨o, p, rfl, q⟩
  refine ⟨rfl, ?_⟩
  simp [t_text_end]
  unfold textEnd at q
  by_cases h : o.length < p + 4
  · rw [if_pos h] at q
    rw [if_pos (by omega)]
    exact q
  · rw [if_neg h] at q
    rw [if_neg (by omega)]
    refine ⟨by omega, ?_⟩
    by_cases h2 : o.length - (p + 4) < numAt o p
    · rw [if_pos h2] at q
      rw [if_pos (by omega)]
      exact q
    · rw [if_neg h2] at q
      rw [if_neg (by omega)]
      simpa using q
/-- n texts from a place on, and the place behind them -/
def textsFrom (o : List UInt8) : Nat → Nat → Option (List (List UInt8) × Nat)
  | 0, p => some ([], p)
  | n + 1, p => match textEnd o p with
    | none => none
    | some e => match textsFrom o n e with
      | none => none
      | some r => some (textAt o p :: r.1, r.2)
def textsEnd (o : List UInt8) (p : Nat) : Option Nat := if o.length < p + 4 then none else if o.length - (p + 4) < numAt o p then none else (textsFrom o (numAt o p) (p + 4)).map (·.2)
theorem textEnd_some {o : List UInt8} {p e : Nat} (h : textEnd o p = some e) : p + 4 ≤ e ∧ e ≤ o.length := by
  unfold textEnd at h
  by_cases h1 : o.length < p + 4
  · rw [if_pos h1] at h; cases h
  · rw [if_neg h1] at h
    by_cases h2 : o.length - (p + 4) < numAt o p
    · rw [if_pos h2] at h; cases h
    · rw [if_neg h2] at h
      have := Option.some.inj h
      omega
def f_texts_at : DSp := fun ds Q => ∃ (o : List UInt8) (p : Nat) (r : List (List UInt8) × Nat), ds = [e8 o, .int p] ∧ p + 4 ≤ o.length ∧ o.length ≤ 1000000 ∧ textsFrom o (numAt o p) (p + 4) = some r ∧ Q (eL (r.1.map u16))
theorem c_texts_at {o : List UInt8} {p : Nat} {r : List (List UInt8) × Nat} {Q : D → Prop} (hp : p + 4 ≤ o.length) (hl : o.length ≤ 1000000) (hr : textsFrom o (numAt o p) (p + 4) = some r) (q : Q (eL (r.1.map u16))) : f_texts_at [e8 o, .int (p : Nat)] Q := ⟨o, p, r, rfl, hp, hl, hr, q⟩
def lb_texts_at0 : DS := (dSeq (dApp 2 (dCall f_text_at (dCons (dVar 0) (dCons (dVar 3) dNil)))) (dSet 3 (dCall f_text_end (dCons (dVar 0) (dCons (dVar 3) dNil)))))
def t_texts_at : DS := (dSeq (dOwn 2 (dDisp dNil)) (dSeq (dSet 3 (dAdd (dVar 1) (dC (.int 4)))) (dSeq (dFor 4 (dItR (dCall f_number_at (dCons (dVar 0) (dCons (dVar 1) dNil)))) lb_texts_at0) (dRet (dVar 2)))))
theorem loop_texts_at {Dn : DN} {o : List UInt8} {b : Slot} : ∀ (n p : Nat) (r : List (List UInt8) × Nat) (found : List Units) (ks : List Nat) (s : Slot), ks.length = n → textsFrom o n p = some r → found.length + n < 16777216 →
    (∀ x s, Dn.nx [.val (e8 o), b, .own ((found ++ r.1.map u16).map eU), x, s]) → dLoop 4 lb_texts_at0 (ks.map fun (k : Nat) => .int (k : Int)) Dn [.val (e8 o), b, .own (found.map eU), .val (.int (p : Nat)), s]
  | 0, p, r, found, ks, s, hk, hr, hl, h => by
    have e : ks = [] := List.eq_nil_of_length_eq_zero hk
    subst e
    have e2 : r = ([], p) := (Option.some.inj hr).symm
    subst e2
    rw [List.map_nil, loop_nil]
    simpa using h (.val (.int (p : Nat))) s
  | n + 1, p, r, found, ks, s, hk, hr, hl, h => by
    match ks, hk with
    | k :: ks, hk =>
      rw [List.map_cons, loop_cons]
      unfold textsFrom at hr
      cases he : textEnd o p with
      | none => rw [he] at hr; cases hr
      | some e =>
        rw [he] at hr
        simp only at hr
        cases hr2 : textsFrom o n e with
        | none => rw [hr2] at hr; cases hr
        | some r2 =>
          rw [hr2] at hr
          have er : (textAt o p :: r2.1, r2.2) = r := Option.some.inj hr
          subst er
          have hb := textEnd_some he
          simp [lb_texts_at0, he]
          refine ⟨by omega, by omega, ?_⟩
          have z := loop_texts_at (Dn := Dn) (b := b) n e r2 (found ++ [u16 (textAt o p)]) ks (.val (.int (k : Int))) (by simpa using hk) hr2 (by simp; omega) (by simpa using h)
          simp at z ⊢
          exact z
theorem textsFrom_len {o : List UInt8} : ∀ (n p : Nat) (r : List (List UInt8) × Nat), textsFrom o n p = some r → r.1.length = n ∧ 4 * n + p ≤ r.2 ∧ (r.2 ≤ o.length ∨ (n = 0 ∧ r.2 = p))
  | 0, p, r, h => by
    have e2 : r = ([], p) := (Option.some.inj h).symm
    subst e2
    simp
  | n + 1, p, r, h => by
    unfold textsFrom at h
    cases he : textEnd o p with
    | none => rw [he] at h; cases h
    | some e =>
      rw [he] at h
      simp only at h
      cases hr2 : textsFrom o n e with
      | none => rw [hr2] at h; cases h
      | some r2 =>
        rw [hr2] at h
        have er : (textAt o p :: r2.1, r2.2) = r := Option.some.inj h
        subst er
        have ih := textsFrom_len n e r2 hr2
        have hb := textEnd_some he
        refine ⟨by simp [ih.1], by simp; omega, .inl ?_⟩
        show r2.2 ≤ o.length
        omega
theorem pure_texts_at : ∀ ds Q, f_texts_at ds Q → ds.length = 2 ∧ t_texts_at ⟨fun _ => Q .non, fun d _ => Q d⟩ (startE 5 ds) := by
  rintro ds Q ⟨o, p, r, rfl, hp, hl, hr, q⟩
  refine ⟨rfl, ?_⟩
  have hb := textsFrom_len _ _ _ hr
  simp [t_texts_at]
  refine ⟨hp, by omega, ?_⟩
  have e1 : (p : Int) + 4 = ((p + 4 : Nat) : Int) := by omega
  rw [e1]
  refine loop_texts_at (numAt o p) (p + 4) r [] (List.range (numAt o p)) .un (by simp) hr (by simp; omega) fun x s => ?_
  simpa [eL] using q
def f_texts_end : DSp := fun ds Q => ∃ (o : List UInt8) (p : Nat), ds = [e8 o, .int p] ∧ o.length ≤ 1000000 ∧ Q (.int (eO (textsEnd o p)))
@[simp] theorem i_texts_end {o : List UInt8} {p : Nat} {Q : D → Prop} : f_texts_end [e8 o, .int (p : Nat)] Q ↔ o.length ≤ 1000000 ∧ Q (.int (eO (textsEnd o p))) := by simp [f_texts_end]
def lb_texts_end0 : DS := (dSeq (dSet 3 (dCall f_text_end (dCons (dVar 0) (dCons (dVar 3) dNil)))) (dIfS (dB (dLtI (dVar 3) (dC (.int 0)))) (dRet (dNeg (dC (.int 1)))) dNext))
def t_texts_end : DS := (dSeq (dIfS (dB (dGtI (dAdd (dVar 1) (dC (.int 4))) (dLen (dVar 0)))) (dRet (dNeg (dC (.int 1)))) dNext) (dSeq (dSet 2 (dCall f_number_at (dCons (dVar 0) (dCons (dVar 1) dNil)))) (dSeq (dIfS (dB (dGtI (dVar 2) (dSub (dLen (dVar 0)) (dAdd (dVar 1) (dC (.int 4)))))) (dRet (dNeg (dC (.int 1)))) dNext) (dSeq (dSet 3 (dAdd (dVar 1) (dC (.int 4)))) (dSeq (dFor 4 (dItR (dVar 2)) lb_texts_end0) (dRet (dVar 3)))))))
theorem loop_texts_end {Dn : DN} {o : List UInt8} {b c : Slot} : ∀ (n p : Nat) (ks : List Nat) (s : Slot), ks.length = n → (textsFrom o n p = none → ∀ x s, Dn.rt (.int (-1)) [.val (e8 o), b.opn, c.opn, x, s]) →
    (∀ r, textsFrom o n p = some r → ∀ s, Dn.nx [.val (e8 o), b, c, .val (.int (r.2 : Nat)), s]) → dLoop 4 lb_texts_end0 (ks.map fun (k : Nat) => .int (k : Int)) Dn [.val (e8 o), b, c, .val (.int (p : Nat)), s]
  | 0, p, ks, s, hk, h1, h2 => by
    have e : ks = [] := List.eq_nil_of_length_eq_zero hk
    subst e
    rw [List.map_nil, loop_nil]
    exact h2 ([], p) rfl s
  | n + 1, p, ks, s, hk, h1, h2 => by
    match ks, hk with
    | k :: ks, hk =>
      rw [List.map_cons, loop_cons]
      unfold textsFrom at h1 h2
      cases he : textEnd o p with
      | none =>
        rw [he] at h1
        simp [lb_texts_end0, he]
        exact h1 rfl _ _
      | some e =>
        rw [he] at h1 h2
        simp [lb_texts_end0, he]
        rw [if_neg (by omega)]
        refine loop_texts_end n e ks _ (by simpa using hk) (fun z => h1 (by simp [z])) fun r z => ?_
        exact h2 (textAt o p :: r.1, r.2) (by simp [z])
theorem pure_texts_end : ∀ ds Q, f_texts_end ds Q → ds.length = 2 ∧ t_texts_end ⟨fun _ => Q .non, fun d _ => Q d⟩ (startE 5 ds) := by
  rintro ds Q ⟨o, p, rfl, hl, q⟩
  refine ⟨rfl, ?_⟩
  simp [t_texts_end]
  unfold textsEnd at q
  by_cases h : o.length < p + 4
  · rw [if_pos h] at q
    rw [if_pos (by omega)]
    exact q
  · rw [if_neg h] at q
    rw [if_neg (by omega)]
    refine ⟨by omega, ?_⟩
    by_cases h2 : o.length - (p + 4) < numAt o p
    · rw [if_pos h2] at q
      rw [if_pos (by omega)]
      exact q
    · rw [if_neg h2] at q
      rw [if_neg (by omega)]
      refine ⟨by omega, ?_⟩
      have e1 : (p : Int) + 4 = ((p + 4 : Nat) : Int) := by omega
      rw [e1]
      refine loop_texts_end (numAt o p) (p + 4) (List.range (numAt o p)) .un (by simp) (fun z x s => ?_) fun r z s => ?_
      · rw [z] at q
        simpa using q
      · rw [z] at q
        simpa using q
def partEnd (o : List UInt8) (p : Nat) (k : Int) : Option Nat := if k = 1 then numEnd o p else if k = 2 then textEnd o p else textsEnd o p
def f_part_end : DSp := fun ds Q => ∃ (o : List UInt8) (p : Nat) (k : Int), ds = [e8 o, .int p, .int k] ∧ o.length ≤ 1000000 ∧ Q (.int (eO (partEnd o p k)))
@[simp] theorem i_part_end {o : List UInt8} {p : Nat} {k : Int} {Q : D → Prop} : f_part_end [e8 o, .int (p : Nat), .int k] Q ↔ o.length ≤ 1000000 ∧ Q (.int (eO (partEnd o p k))) := by simp [f_part_end]
def t_part_end : DS := (dSeq (dIfS (dB (dEqI (dVar 2) (dC (.int 1)))) (dRet (dCall f_number_end (dCons (dVar 0) (dCons (dVar 1) dNil)))) dNext) (dSeq (dIfS (dB (dEqI (dVar 2) (dC (.int 2)))) (dRet (dCall f_text_end (dCons (dVar 0) (dCons (dVar 1) dNil)))) dNext) (dRet (dCall f_texts_end (dCons (dVar 0) (dCons (dVar 1) dNil))))))
theorem pure_part_end : ∀ ds Q, f_part_end ds Q → ds.length = 3 ∧ t_part_end ⟨fun _ => Q .non, fun d _ => Q d⟩ (startE 3 ds) := by
  rintro ds Q ⟨o, p, k, rfl, hl, q⟩
  refine ⟨rfl, ?_⟩
  simp [t_part_end]
  unfold partEnd at q
  by_cases h1 : k = 1
  · rw [if_pos h1] at q ⊢
    exact q
  · rw [if_neg h1] at q ⊢
    by_cases h2 : k = 2
    · rw [if_pos h2] at q ⊢
      exact q
    · rw [if_neg h2] at q ⊢
      exact ⟨hl, q⟩
def startsGo (o : List UInt8) : List Int → Nat → Option (List Nat × Nat)
  | [], p => some ([], p)
  | k :: ks, p => match partEnd o p k with
    | none => none
    | some e => match startsGo o ks e with
      | none => none
      | some r => some (p :: r.1, r.2)
def startsOf (o : List UInt8) : List Nat := match o with
  | [] => []
  | b :: _ => if 13 < b.toNat then [] else match startsGo o (shapes.getD b.toNat []) 1 with
    | none => []
    | some r => if r.2 = o.length then r.1 else []
def f_starts_of : DSp := fun ds Q => ∃ o : List UInt8, ds = [e8 o] ∧ o.length ≤ 1000000 ∧ Q (eN (startsOf o))
@[simp] theorem i_starts_of {o : List UInt8} {Q : D → Prop} : f_starts_of [e8 o] Q ↔ o.length ≤ 1000000 ∧ Q (eN (startsOf o)) := by simp [f_starts_of]
def lb_starts_of0 : DS := (dSeq (dApp 1 (dVar 2)) (dSeq (dSet 2 (dCall f_part_end (dCons (dVar 0) (dCons (dVar 2) (dCons (dVar 3) dNil))))) (dIfS (dB (dLtI (dVar 2) (dC (.int 0)))) (dRet (dL (dDisp dNil))) dNext)))
def t_starts_of : DS := (dSeq (dIfS (dOrT (dB (dEqI (dLen (dVar 0)) (dC (.int 0)))) (dB (dGtI (dIx (dVar 0) (dC (.int 0))) (dC (.int 13))))) (dRet (dL (dDisp dNil))) dNext) (dSeq (dOwn 1 (dDisp dNil)) (dSeq (dSet 2 (dC (.int 1))) (dSeq (dFor 3 (dItT (dIx (dC (.tup ((List.range 14).map fun i => .tup ((shapes.getD i []).map D.int)))) (dIx (dVar 0) (dC (.int 0))))) lb_starts_of0) (dSeq (dIfS (dB (dNeI (dVar 2) (dLen (dVar 0)))) (dRet (dL (dDisp dNil))) dNext) (dRet (dVar 1)))))))
theorem loop_starts_of {Dn : DN} {o : List UInt8} (hl : o.length ≤ 1000000) : ∀ (ks : List Int) (p : Nat) (acc : List Nat) (s : Slot), acc.length + ks.length < 16777216 → (startsGo o ks p = none → ∀ x y s, Dn.rt (.lst []) [.val (e8 o), x, y, s]) →
    (∀ r, startsGo o ks p = some r → ∀ s, Dn.nx [.val (e8 o), .own ((intsN (acc ++ r.1)).map D.int), .val (.int (r.2 : Nat)), s]) → dLoop 3 lb_starts_of0 (ks.map D.int) Dn [.val (e8 o), .own ((intsN acc).map D.int), .val (.int (p : Nat)), s]
  | [], p, acc, s, hz, h1, h2 => by
    rw [List.map_nil, loop_nil]
    simpa using h2 ([], p) rfl s
  | k :: ks, p, acc, s, hz, h1, h2 => by
    rw [List.map_cons, loop_cons]
    rw [List.length_cons] at hz
    unfold startsGo at h1 h2
    simp [lb_starts_of0]
    refine ⟨by omega, hl, ?_⟩
    cases he : partEnd o p k with
    | none =>
      rw [he] at h1
      simp
      exact h1 rfl _ _ _
    | some e =>
      rw [he] at h1 h2
      have hne : ¬ ((e : Nat) : Int) < 0 := by omega
      simp [hne]
      have z := loop_starts_of (Dn := Dn) hl ks e (acc ++ [p]) (.val (.int k)) (by simp; omega) (fun z => h1 (by simp [z])) fun r z => by
        have := h2 (p :: r.1, r.2) (by simp [z])
        simpa using this
      simp [intsN] at z ⊢
      exact z
theorem shapes_at {n : Nat} (h : n ≤ 13) : ((List.range 14).map fun i => D.tup ((shapes.getD i []).map D.int))[n]? = some (.tup ((shapes.getD n []).map D.int)) := by
  rw [List.getElem?_map, List.getElem?_range (by omega)]
  rfl
theorem shapes_len (n : Nat) : (shapes.getD n []).length ≤ 2 := by
  by_cases h : n ≤ 13
  · have : n = 0 ∨ n = 1 ∨ n = 2 ∨ n = 3 ∨ n = 4 ∨ n = 5 ∨ n = 6 ∨ n = 7 ∨ n = 8 ∨ n = 9 ∨ n = 10 ∨ n = 11 ∨ n = 12 ∨ n = 13 := by omega
    rcases this with rfl | rfl | rfl | rfl | rfl | rfl | rfl | rfl | rfl | rfl | rfl | rfl | rfl | rfl <;> decide
  · have e : shapes.getD n [] = [] := by
      have hl : shapes.length = 14 := rfl
      rw [List.getD_eq_getElem?_getD, List.getElem?_eq_none (by omega)]
      rfl
    rw [e]
    decide
theorem pure_starts_of : ∀ ds Q, f_starts_of ds Q → ds.length = 1 ∧ t_starts_of ⟨fun _ => Q .non, fun d _ => Q d⟩ (startE 4 ds) := by
  rintro ds Q ⟨o, rfl, hl, q⟩
  refine ⟨rfl, ?_⟩
  cases o with
  | nil =>
    simp [t_starts_of, ints8]
    simpa [startsOf, eN, eI, intsN] using q
  | cons b o =>
    unfold startsOf at q
    simp only at q
    simp [t_starts_of, ints8]
    by_cases h : 13 < b.toNat
    · rw [if_pos h] at q
      rw [if_pos (by omega)]
      simpa [eN, eI, intsN] using q
    · rw [if_neg h] at q
      rw [if_neg (by omega)]
      have hs := shapes_len b.toNat
      refine ⟨_, ⟨b.toNat, by rw [List.getElem?_range (by omega)], rfl⟩, _, rfl, ?_⟩
      rw [← List.getD_eq_getElem?_getD]
      refine loop_starts_of hl (shapes.getD b.toNat []) 1 [] .un (by simp only [List.length_nil]; omega) (fun z x y s => ?_) fun r z s => ?_
      · rw [z] at q
        simpa [eN, eI, intsN] using q
      · rw [z] at q
        simp only at q
        simp
        by_cases e : r.2 = (b :: o).length
        · rw [if_pos e] at q
          rw [if_pos (by simp at e; omega)]
          simpa [eN, eI] using q
        · rw [if_neg e] at q
          rw [if_neg (by simp at e; omega)]
          simpa [eN, eI, intsN] using q
/-! answers -/
def fN_number_octets : DSpF := fun ds Q => ∃ n : Nat, ds = [.int n] ∧ Q ((ints8 (Panels.numberShown n)).map D.int)
@[simp] theorem iN_number_octets {n : Nat} {Q : List D → Prop} : fN_number_octets [.int (n : Nat)] Q ↔ Q ((ints8 (Panels.numberShown n)).map D.int) := by simp [fN_number_octets]
def f_number_octets : DSp := fun ds Q => fN_number_octets ds fun es => Q (.lst es)
@[simp] theorem i_number_octets {n : Nat} {Q : D → Prop} : f_number_octets [.int (n : Nat)] Q ↔ Q (e8 (Panels.numberShown n)) := by
  unfold f_number_octets
  rw [iN_number_octets]
  rfl
def tN_number_octets : DA := (dDisp (dCons (dMod (dVar 0) (dC (.int 256))) (dCons (dMod (dDiv (dVar 0) (dC (.int 256))) (dC (.int 256))) (dCons (dMod (dDiv (dVar 0) (dC (.int 65536))) (dC (.int 256))) (dCons (dMod (dDiv (dVar 0) (dC (.int 16777216))) (dC (.int 256))) dNil)))))
theorem pureN_number_octets : ∀ ds Q, fN_number_octets ds Q → ds.length = 1 ∧ tN_number_octets (startE 1 ds) Q := by
  rintro ds Q ⟨n, rfl, q⟩
  refine ⟨rfl, ?_⟩
  simp [tN_number_octets]
  refine ⟨⟨by decide, by decide⟩, ⟨by decide, by decide⟩, ⟨by decide, by decide⟩, ?_⟩
  have e : ∀ x : Nat, ((Panels.octetOf x).toNat : Int) = ((x % 256 : Nat) : Int) := fun x => by
    unfold Panels.octetOf
    rw [UInt8.toNat_ofNat']
  simp [Panels.numberShown, ints8, e] at q
  exact q
theorem octet_toNat {c : UInt16} (h : c.toNat < 256) : (Panels.octetOf c.toNat).toNat = c.toNat := by
  unfold Panels.octetOf
  rw [UInt8.toNat_ofNat']
  omega
theorem number_len (n : Nat) : (Panels.numberShown n).length = 4 := rfl
theorem text_ints {u : Units} (hc : ∀ c ∈ u, c.toNat < 256) : ints8 (Panels.textShown u) = ints8 (Panels.numberShown u.length) ++ ints16 u := by
  unfold Panels.textShown Panels.listShown ints8
  rw [List.map_append]
  congr 1
  show ints8 _ = ints16 _
  unfold ints8 ints16
  induction u with
  | nil => rfl
  | cons c u ih =>
    rw [List.flatMap_cons, List.map_append, List.map_cons, ih fun d hd => hc d (List.mem_cons_of_mem _ hd)]
    simp [octet_toNat (hc c (List.mem_cons_self ..))]
def f_text_octets : DSp := fun ds Q => ∃ u : Units, ds = [eU u] ∧ u.length ≤ 10000000 ∧ (∀ c ∈ u, c.toNat < 256) ∧ Q (e8 (Panels.textShown u))
@[simp] theorem i_text_octets {u : Units} {Q : D → Prop} : f_text_octets [eU u] Q ↔ u.length ≤ 10000000 ∧ (∀ c ∈ u, c.toNat < 256) ∧ Q (e8 (Panels.textShown u)) := by simp [f_text_octets]
def t_text_octets : DS := (dRet (dL (dCat (dCall f_number_octets (dCons (dLen (dVar 0)) dNil)) (dVar 0))))
theorem pure_text_octets : ∀ ds Q, f_text_octets ds Q → ds.length = 1 ∧ t_text_octets ⟨fun _ => Q .non, fun d _ => Q d⟩ (startE 1 ds) := by
  rintro ds Q ⟨u, rfl, hl, hc, q⟩
  refine ⟨rfl, ?_⟩
  simp [t_text_octets]
  refine ⟨by rw [number_len]; omega, ?_⟩
  rw [← List.map_append, ← text_ints hc]
  exact q
theorem text_len (u : Units) : (Panels.textShown u).length = 4 + u.length := by
  unfold Panels.textShown Panels.listShown
  rw [List.length_append, number_len]
  congr 1
  induction u with
  | nil => rfl
  | cons c u ih => rw [List.flatMap_cons, List.length_append, ih]; simp; omega
@[simp] theorem eO_inj {o p : Option Nat} : eO o = eO p ↔ o = p := by
  cases o with
  | none =>
    cases p with
    | none => simp
    | some n => simp
  | some m =>
    cases p with
    | none => simp
    | some n => simp
def f_option_number : DSp := fun ds Q => ∃ o : Option Nat, ds = [.int (eO o)] ∧ Q (e8 (Panels.optionShown Panels.numberShown o))
@[simp] theorem i_option_number {o : Option Nat} {Q : D → Prop} : f_option_number [.int (eO o)] Q ↔ Q (e8 (Panels.optionShown Panels.numberShown o)) := by simp [f_option_number]
def t_option_number : DS := (dSeq (dIfS (dB (dLtI (dVar 0) (dC (.int 0)))) (dRet (dL (dDisp (dCons (dC (.int 0)) dNil)))) dNext) (dRet (dL (dCat (dL (dDisp (dCons (dC (.int 1)) dNil))) (dCall f_number_octets (dCons (dVar 0) dNil))))))
theorem pure_option_number : ∀ ds Q, f_option_number ds Q → ds.length = 1 ∧ t_option_number ⟨fun _ => Q .non, fun d _ => Q d⟩ (startE 1 ds) := by
  rintro ds Q ⟨o, rfl, q⟩
  refine ⟨rfl, ?_⟩
  cases o with
  | none =>
    simp [t_option_number]
    exact q
  | some n =>
    simp [t_option_number]
    rw [if_neg (by omega)]
    refine ⟨by rw [number_len]; omega, ?_⟩
    exact q
def f_option_text : DSp := fun ds Q => ∃ us : List Units, ds = [eL us] ∧ (∀ u ∈ us.head?, u.length ≤ 10000000 ∧ ∀ c ∈ u, c.toNat < 256) ∧ Q (e8 (Panels.optionShown Panels.textShown us.head?))
theorem c_option_text' {us : List Units} {o : Option Units} {Q : D → Prop} (h : us.head? = o) (h2 : ∀ u ∈ o, u.length ≤ 10000000 ∧ ∀ c ∈ u, c.toNat < 256) (q : Q (e8 (Panels.optionShown Panels.textShown o))) : f_option_text [eL us] Q := ⟨us, rfl, by rw [h]; exact h2, by rw [h]; exact q⟩
theorem c_option_text {us : List Units} {o : Option Units} {Q : D → Prop} (h : us = o.toList) (h2 : ∀ u ∈ o, u.length ≤ 10000000 ∧ ∀ c ∈ u, c.toNat < 256) (q : Q (e8 (Panels.optionShown Panels.textShown o))) : f_option_text [eL us] Q := c_option_text' (by rw [h]; cases o <;> rfl) h2 q
def t_option_text : DS := (dSeq (dIfS (dB (dEqI (dLen (dVar 0)) (dC (.int 0)))) (dRet (dL (dDisp (dCons (dC (.int 0)) dNil)))) dNext) (dRet (dL (dCat (dL (dDisp (dCons (dC (.int 1)) dNil))) (dCall f_text_octets (dCons (dIx (dVar 0) (dC (.int 0))) dNil))))))
theorem pure_option_text : ∀ ds Q, f_option_text ds Q → ds.length = 1 ∧ t_option_text ⟨fun _ => Q .non, fun d _ => Q d⟩ (startE 1 ds) := by
  rintro ds Q ⟨us, rfl, h, q⟩
  refine ⟨rfl, ?_⟩
  cases us with
  | nil =>
    simp [t_option_text]
    exact q
  | cons u us =>
    have hu := h u rfl
    simp [t_option_text]
    refine ⟨hu.1, hu.2, ?_⟩
    refine ⟨by rw [text_len]; omega, ?_⟩
    exact q
def textsSize (us : List Units) : Nat := (us.map fun u => u.length + 4).sum
def f_texts_octets : DSp := fun ds Q => ∃ us : List Units, ds = [eL us] ∧ textsSize us ≤ 10000000 ∧ (∀ u ∈ us, ∀ c ∈ u, c.toNat < 256) ∧ Q (e8 (Panels.listShown Panels.textShown us))
@[simp] theorem i_texts_octets {us : List Units} {Q : D → Prop} : f_texts_octets [eL us] Q ↔ textsSize us ≤ 10000000 ∧ (∀ u ∈ us, ∀ c ∈ u, c.toNat < 256) ∧ Q (e8 (Panels.listShown Panels.textShown us)) := by simp [f_texts_octets]
def lb_texts_octets0 : DS := (dExt 1 (dCall f_text_octets (dCons (dVar 2) dNil)))
def t_texts_octets : DS := (dSeq (dOwn 1 (dNum fN_number_octets (dCons (dLen (dVar 0)) dNil))) (dSeq (dFor 2 (dItL (dVar 0)) lb_texts_octets0) (dRet (dVar 1))))
theorem loop_texts_octets {Dn : DN} {a : Slot} : ∀ (us : List Units) (o : List UInt8) (s : Slot), o.length + textsSize us ≤ 10000004 → (∀ u ∈ us, ∀ c ∈ u, c.toNat < 256) → (∀ s, Dn.nx [a, .own ((ints8 (o ++ us.flatMap Panels.textShown)).map D.int), s]) →
    dLoop 2 lb_texts_octets0 (us.map eU) Dn [a, .own ((ints8 o).map D.int), s]
  | [], o, s, hl, hc, h => by
    rw [List.map_nil, loop_nil]
    simpa using h s
  | u :: us, o, s, hl, hc, h => by
    rw [List.map_cons, loop_cons]
    have e1 : textsSize (u :: us) = u.length + 4 + textsSize us := by simp [textsSize]
    rw [e1] at hl
    simp [lb_texts_octets0]
    refine ⟨by omega, hc u (List.mem_cons_self ..), by rw [text_len]; omega, ?_⟩
    have z := loop_texts_octets (Dn := Dn) (a := a) us (o ++ Panels.textShown u) (.val (eU u)) (by rw [List.length_append, text_len]; omega) (fun v hv => hc v (List.mem_cons_of_mem _ hv)) (by simpa using h)
    simp [ints8] at z ⊢
    exact z
theorem pure_texts_octets : ∀ ds Q, f_texts_octets ds Q → ds.length = 1 ∧ t_texts_octets ⟨fun _ => Q .non, fun d _ => Q d⟩ (startE 3 ds) := by
  rintro ds Q ⟨us, rfl, hl, hc, q⟩
  refine ⟨rfl, ?_⟩
  simp [t_texts_octets]
  refine loop_texts_octets us (Panels.numberShown us.length) .un (by rw [number_len]; omega) hc fun s => ?_
  simpa [Panels.listShown, e8, eI] using q
def f_option_texts : DSp := fun ds Q => ∃ o : Option (List Units), ds = [.lst (o.toList.map eL)] ∧ (∀ us ∈ o, textsSize us ≤ 10000000 ∧ ∀ u ∈ us, ∀ c ∈ u, c.toNat < 256) ∧ Q (e8 (Panels.optionShown (Panels.listShown Panels.textShown) o))
theorem c_option_texts {us : List (List Units)} {o : Option (List Units)} {Q : D → Prop} (h : us = o.toList) (h2 : ∀ us ∈ o, textsSize us ≤ 10000000 ∧ ∀ u ∈ us, ∀ c ∈ u, c.toNat < 256) (q : Q (e8 (Panels.optionShown (Panels.listShown Panels.textShown) o))) : f_option_texts [.lst (us.map eL)] Q := ⟨o, by rw [h], h2, q⟩
def t_option_texts : DS := (dSeq (dIfS (dB (dEqI (dLen (dVar 0)) (dC (.int 0)))) (dRet (dL (dDisp (dCons (dC (.int 0)) dNil)))) dNext) (dRet (dL (dCat (dL (dDisp (dCons (dC (.int 1)) dNil))) (dCall f_texts_octets (dCons (dIx (dVar 0) (dC (.int 0))) dNil))))))
theorem texts_len (us : List Units) : (Panels.listShown Panels.textShown us).length = 4 + textsSize us := by
  unfold Panels.listShown
  rw [List.length_append, number_len]
  congr 1
  induction us with
  | nil => rfl
  | cons u us ih => rw [List.flatMap_cons, List.length_append, ih, text_len]; simp [textsSize]; omega
theorem pure_option_texts : ∀ ds Q, f_option_texts ds Q → ds.length = 1 ∧ t_option_texts ⟨fun _ => Q .non, fun d _ => Q d⟩ (startE 1 ds) := by
  rintro ds Q ⟨o, rfl, h, q⟩
  refine ⟨rfl, ?_⟩
  cases o with
  | none =>
    simp [t_option_texts]
    exact q
  | some us =>
    have hu := h us rfl
    simp [t_option_texts]
    refine ⟨hu.1, hu.2, ?_⟩
    refine ⟨by rw [texts_len]; omega, ?_⟩
    exact q
end PW
set_option Elab.async false
set_option linter.all false
set_option maxRecDepth 100000
set_option maxHeartbeats 2000000
namespace PW
/-! ### the script as the program keeps it -/
structure ScriptM where
  wall : WallM
  drawn : Bool
  acts : Nat
  lines : List Units
def eS (s : ScriptM) : D := .ins true [eW s.wall, .bl s.drawn, .int s.acts, eL s.lines]
@[simp] theorem eS_ins {s : ScriptM} {b : Bool} {ds : List D} : eS s = .ins b ds ↔ b = true ∧ [eW s.wall, .bl s.drawn, .int s.acts, eL s.lines] = ds := by
  unfold eS
  constructor
  · intro h
    injection h with h1 h2
    exact ⟨h1.symm, h2⟩
  · rintro ⟨rfl, rfl⟩
    rfl
@[simp] theorem eS_iff {s t : ScriptM} : eS s = eS t ↔ s = t := by
  constructor
  · intro h
    obtain ⟨a, b, c, d⟩ := s
    obtain ⟨a', b', c', d'⟩ := t
    unfold eS at h
    injection h with h1 h2
    simp only [List.cons.injEq, eW_iff, eL_iff, D.bl.injEq, D.int.injEq, nc_inj] at h2
    obtain ⟨h1, h2, h3, h4, _⟩ := h2
    subst h1 h2 h3 h4
    rfl
  · intro h
    rw [h]
def WfW (v : WallM) : Prop := v.names.length ≤ 5 ∧ v.covers.length = v.names.length ∧ v.spots.length ≤ 6
def f_empty_script : DSp := fun ds Q => ds = [] ∧ Q (eS ⟨⟨[], [], [], 0, 0, 0⟩, false, 0, []⟩)
@[simp] theorem i_empty_script {Q : D → Prop} : f_empty_script [] Q ↔ Q (eS ⟨⟨[], [], [], 0, 0, 0⟩, false, 0, []⟩) := by simp [f_empty_script]
def t_empty_script : DS := (dRet (dMake true 4 (dCons (dCall f_empty_wall dNil) (dCons (dC (.bl false)) (dCons (dC (.int 0)) (dCons (dL (dDisp dNil)) dNil))))))
theorem pure_empty_script : ∀ ds Q, f_empty_script ds Q → ds.length = 0 ∧ t_empty_script ⟨fun _ => Q .non, fun d _ => Q d⟩ (startE 0 ds) := by
  rintro ds Q ⟨rfl, q⟩
  refine ⟨rfl, ?_⟩
  simp [t_empty_script]
  exact q
/-! named twice -/
theorem distinct_iff : ∀ {l : List Units}, Panels.areDistinct l = true ↔ l.Nodup
  | [] => by simp [Panels.areDistinct]
  | a :: l => by
    rw [Panels.areDistinct, Bool.and_eq_true, distinct_iff, List.nodup_cons]
    simp
theorem idxOf_le {α : Type} [BEq α] [LawfulBEq α] : ∀ {l : List α} {i : Nat} (h : i < l.length), l.idxOf l[i] ≤ i
  | a :: l, 0, h => by simp
  | a :: l, i + 1, h => by
    have hi : i < l.length := by simpa using h
    rw [List.getElem_cons_succ, List.idxOf_cons]
    have ih := idxOf_le (l := l) (i := i) (by simpa using h)
    cases hb : a == l[i] with
    | true => simp
    | false =>
      simp
      exact ih
def f_named_twice : DSp := fun ds Q => ∃ us : List Units, ds = [eL us] ∧ us.length ≤ 1000000 ∧ Q (.bl (!Panels.areDistinct us))
@[simp] theorem i_named_twice {us : List Units} {Q : D → Prop} : f_named_twice [eL us] Q ↔ us.length ≤ 1000000 ∧ Q (.bl (!Panels.areDistinct us)) := by simp [f_named_twice]
def lb_named_twice0 : DS := (dIfS (dB (dNeI (dCall f_place_of (dCons (dVar 0) (dCons (dIx (dVar 0) (dVar 1)) dNil))) (dVar 1))) (dRet (dC (.bl true))) dNext)
def t_named_twice : DS := (dSeq (dFor 1 (dItR (dLen (dVar 0))) lb_named_twice0) (dRet (dC (.bl false))))
theorem loop_named_twice {Dn : DN} {us : List Units} (hl : us.length ≤ 1000000) : ∀ (m j : Nat) (s : Slot), j + m = us.length → (us.take j).Nodup →
    (¬ us.Nodup → ∀ s, Dn.rt (.bl true) [.val (eL us), s]) → (us.Nodup → ∀ s, Dn.nx [.val (eL us), s]) →
    dLoop 1 lb_named_twice0 ((List.range' j m).map fun (k : Nat) => .int (k : Int)) Dn [.val (eL us), s]
  | 0, j, s, hj, hn, h1, h2 => by
    rw [List.range'_zero, List.map_nil, loop_nil]
    rw [List.take_of_length_le (by omega)] at hn
    exact h2 hn s
  | m + 1, j, s, hj, hn, h1, h2 => by
    rw [List.range'_succ, List.map_cons, loop_cons]
    have hlt : j < us.length := by omega
    simp [lb_named_twice0, hlt]
    refine ⟨hl, ?_⟩
    rw [placeOf_mem (List.getElem_mem hlt)]
    by_cases hm : us[j] ∈ us.take j
    · have hne : ¬ us.idxOf us[j] = j := by
        intro e
        obtain ⟨i, hi, ei⟩ := List.mem_iff_getElem.mp hm
        rw [List.length_take] at hi
        rw [List.getElem_take] at ei
        have : us.idxOf us[j] ≤ i := by
          rw [← ei]
          exact idxOf_le (by omega)
        omega
      have hne' : ¬ ((us.idxOf us[j] : Nat) : Int) = (j : Int) := by omega
      rw [if_neg hne']
      refine h1 (fun nd => ?_) _
      obtain ⟨i, hi, ei⟩ := List.mem_iff_getElem.mp hm
      rw [List.length_take] at hi
      rw [List.getElem_take] at ei
      have := (List.nodup_iff_pairwise_ne.mp nd)
      exact (List.pairwise_iff_getElem.mp this) i j (by omega) hlt (by omega) ei
    · have he : us.idxOf us[j] = j := idxOf_first hlt rfl hm
      rw [if_pos (by omega)]
      refine loop_named_twice hl m (j + 1) _ (by omega) ?_ h1 h2
      rw [List.take_succ_eq_append_getElem hlt, List.nodup_append]
      exact ⟨hn, by simp, fun a ha b hb => by
        rw [List.mem_singleton] at hb
        subst hb
        exact fun e => hm (e ▸ ha)⟩
theorem pure_named_twice : ∀ ds Q, f_named_twice ds Q → ds.length = 1 ∧ t_named_twice ⟨fun _ => Q .non, fun d _ => Q d⟩ (startE 2 ds) := by
  rintro ds Q ⟨us, rfl, hl, q⟩
  refine ⟨rfl, ?_⟩
  simp [t_named_twice]
  refine ⟨by omega, ?_⟩
  rw [List.range_eq_range']
  refine loop_named_twice hl us.length 0 .un (by omega) (by simp) (fun h s => ?_) fun h s => ?_
  · have e : Panels.areDistinct us = false := Bool.eq_false_iff.mpr fun z => h (distinct_iff.mp z)
    rw [e] at q
    exact q
  · rw [distinct_iff.mpr h] at q
    exact q
/-! problems -/
def manyActs (s : ScriptM) : Nat := if 40 ≤ s.acts then 15 else 0
def f_many_acts : DSp := fun ds Q => ∃ s : ScriptM, ds = [eS s] ∧ Q (.int (manyActs s : Nat))
@[simp] theorem i_many_acts {s : ScriptM} {Q : D → Prop} : f_many_acts [eS s] Q ↔ Q (.int (manyActs s : Nat)) := by simp [f_many_acts]
def t_many_acts : DS := (dSeq (dIfS (dB (dGeI (dFld true 2 (dVar 0)) (dC (.int 40)))) (dRet (dC (.int 15))) dNext) (dRet (dC (.int 0))))
theorem pure_many_acts : ∀ ds Q, f_many_acts ds Q → ds.length = 1 ∧ t_many_acts ⟨fun _ => Q .non, fun d _ => Q d⟩ (startE 1 ds) := by
  rintro ds Q ⟨s, rfl, q⟩
  refine ⟨rfl, ?_⟩
  unfold manyActs at q
  simp [t_many_acts]
  by_cases h : 40 ≤ s.acts
  · rw [if_pos h] at q
    rw [if_pos (by omega)]
    exact q
  · rw [if_neg h] at q
    rw [if_neg (by omega)]
    exact q
def sheetProb (s : ScriptM) (name : Units) (named : List Units) : Nat := if name ∈ s.wall.names then 4 else if Panels.areDistinct named = false then 5 else if 0 < s.acts then 6 else if 5 ≤ s.wall.names.length then 7 else if 6 < (named.foldl Panels.addSpot s.wall.spots).length then 8 else 0
def f_sheet_problem : DSp := fun ds Q => ∃ (s : ScriptM) (name : Units) (named : List Units), ds = [eS s, eU name, eL named] ∧ WfW s.wall ∧ named.length ≤ 100000 ∧ Q (.int (sheetProb s name named : Nat))
@[simp] theorem i_sheet_problem {s : ScriptM} {name : Units} {named : List Units} {Q : D → Prop} : f_sheet_problem [eS s, eU name, eL named] Q ↔ WfW s.wall ∧ named.length ≤ 100000 ∧ Q (.int (sheetProb s name named : Nat)) := by simp [f_sheet_problem]
theorem placeOf_nneg {rows : List Units} {row : Units} : 0 ≤ placeOf rows row ↔ row ∈ rows := by
  unfold placeOf
  by_cases h : row ∈ rows
  · simp [h]
  · simp [h]
def t_sheet_problem : DS := (dSeq (dIfS (dB (dGeI (dCall f_place_of (dCons (dFld false 0 (dFld true 0 (dVar 0))) (dCons (dVar 1) dNil))) (dC (.int 0)))) (dRet (dC (.int 4))) dNext) (dSeq (dIfS (dB (dCall f_named_twice (dCons (dVar 2) dNil))) (dRet (dC (.int 5))) dNext) (dSeq (dIfS (dB (dGtI (dFld true 2 (dVar 0)) (dC (.int 0)))) (dRet (dC (.int 6))) dNext) (dSeq (dIfS (dB (dGeI (dLen (dFld false 0 (dFld true 0 (dVar 0)))) (dC (.int 5)))) (dRet (dC (.int 7))) dNext) (dSeq (dIfS (dB (dGtI (dLen (dCall f_with_spots (dCons (dFld false 2 (dFld true 0 (dVar 0))) (dCons (dVar 2) dNil)))) (dC (.int 6)))) (dRet (dC (.int 8))) dNext) (dRet (dC (.int 0))))))))
theorem pure_sheet_problem : ∀ ds Q, f_sheet_problem ds Q → ds.length = 3 ∧ t_sheet_problem ⟨fun _ => Q .non, fun d _ => Q d⟩ (startE 3 ds) := by
  rintro ds Q ⟨s, name, named, rfl, ⟨w1, w2, w3⟩, hn, q⟩
  refine ⟨rfl, ?_⟩
  unfold sheetProb at q
  simp [t_sheet_problem, placeOf_nneg]
  refine ⟨by omega, ?_⟩
  by_cases h1 : name ∈ s.wall.names
  · rw [if_pos h1] at q ⊢
    exact q
  rw [if_neg h1] at q ⊢
  refine ⟨by omega, ?_⟩
  by_cases h2 : Panels.areDistinct named = false
  · rw [if_pos h2] at q
    rw [if_neg (by simp [h2])]
    exact q
  rw [if_neg h2] at q
  rw [if_pos (by simpa using h2)]
  by_cases h3 : 0 < s.acts
  · rw [if_pos h3] at q
    rw [if_pos (by omega)]
    exact q
  rw [if_neg h3] at q
  rw [if_neg (by omega)]
  by_cases h4 : 5 ≤ s.wall.names.length
  · rw [if_pos h4] at q
    rw [if_pos (by omega)]
    exact q
  rw [if_neg h4] at q
  rw [if_neg (by omega)]
  refine ⟨by omega, ?_⟩
  by_cases h5 : 6 < (named.foldl Panels.addSpot s.wall.spots).length
  · rw [if_pos h5] at q
    rw [if_pos (by omega)]
    exact q
  rw [if_neg h5] at q
  rw [if_neg (by omega)]
  exact q
def magnetProb (s : ScriptM) (a : Units) : Nat := if a ∉ s.wall.spots then 9 else if 0 < s.acts then 6 else if s.wall.held.testBit (s.wall.spots.idxOf a) = true then 10 else 0
def f_magnet_problem : DSp := fun ds Q => ∃ (s : ScriptM) (a : Units), ds = [eS s, eU a] ∧ WfW s.wall ∧ Q (.int (magnetProb s a : Nat))
@[simp] theorem i_magnet_problem {s : ScriptM} {a : Units} {Q : D → Prop} : f_magnet_problem [eS s, eU a] Q ↔ WfW s.wall ∧ Q (.int (magnetProb s a : Nat)) := by simp [f_magnet_problem]
def t_magnet_problem : DS := (dSeq (dSet 2 (dCall f_place_of (dCons (dFld false 2 (dFld true 0 (dVar 0))) (dCons (dVar 1) dNil)))) (dSeq (dIfS (dB (dLtI (dVar 2) (dC (.int 0)))) (dRet (dC (.int 9))) dNext) (dSeq (dIfS (dB (dGtI (dFld true 2 (dVar 0)) (dC (.int 0)))) (dRet (dC (.int 6))) dNext) (dSeq (dIfS (dB (dCall f_has (dCons (dFld false 3 (dFld true 0 (dVar 0))) (dCons (dVar 2) dNil)))) (dRet (dC (.int 10))) dNext) (dRet (dC (.int 0)))))))
theorem pure_magnet_problem : ∀ ds Q, f_magnet_problem ds Q → ds.length = 2 ∧ t_magnet_problem ⟨fun _ => Q .non, fun d _ => Q d⟩ (startE 3 ds) := by
  rintro ds Q ⟨s, a, rfl, ⟨w1, w2, w3⟩, q⟩
  refine ⟨rfl, ?_⟩
  unfold magnetProb at q
  simp [t_magnet_problem, placeOf_neg]
  refine ⟨by omega, ?_⟩
  by_cases h1 : a ∈ s.wall.spots
  · rw [if_neg (by simpa using h1)] at q
    rw [if_pos h1]
    have hi := List.idxOf_lt_length_iff.mpr h1
    by_cases h3 : 0 < s.acts
    · rw [if_pos h3] at q
      rw [if_pos (by omega)]
      exact q
    rw [if_neg h3] at q
    rw [if_neg (by omega)]
    rw [placeOf_mem h1]
    simp
    refine ⟨by omega, ?_⟩
    by_cases h4 : s.wall.held.testBit (s.wall.spots.idxOf a) = true
    · rw [if_pos h4] at q ⊢
      exact q
    rw [if_neg h4] at q ⊢
    exact q
  · rw [if_pos (by simpa using h1)] at q
    rw [if_neg h1]
    exact q
def drawerProb (s : ScriptM) (n : Nat) : Nat := if 0 < s.acts then 6 else if s.drawn = true then 10 else if 9 < n then 11 else 0
def f_drawer_problem : DSp := fun ds Q => ∃ (s : ScriptM) (n : Nat), ds = [eS s, .int n] ∧ Q (.int (drawerProb s n : Nat))
@[simp] theorem i_drawer_problem {s : ScriptM} {n : Nat} {Q : D → Prop} : f_drawer_problem [eS s, .int (n : Nat)] Q ↔ Q (.int (drawerProb s n : Nat)) := by simp [f_drawer_problem]
def t_drawer_problem : DS := (dSeq (dIfS (dB (dGtI (dFld true 2 (dVar 0)) (dC (.int 0)))) (dRet (dC (.int 6))) dNext) (dSeq (dIfS (dB (dFld true 1 (dVar 0))) (dRet (dC (.int 10))) dNext) (dSeq (dIfS (dB (dGtI (dVar 1) (dC (.int 9)))) (dRet (dC (.int 11))) dNext) (dRet (dC (.int 0))))))
theorem pure_drawer_problem : ∀ ds Q, f_drawer_problem ds Q → ds.length = 2 ∧ t_drawer_problem ⟨fun _ => Q .non, fun d _ => Q d⟩ (startE 2 ds) := by
  rintro ds Q ⟨s, n, rfl, q⟩
  refine ⟨rfl, ?_⟩
  unfold drawerProb at q
  simp [t_drawer_problem]
  by_cases h3 : 0 < s.acts
  · rw [if_pos h3] at q
    rw [if_pos (by omega)]
    exact q
  rw [if_neg h3] at q
  rw [if_neg (by omega)]
  by_cases h4 : s.drawn = true
  · rw [if_pos h4] at q ⊢
    exact q
  rw [if_neg h4] at q ⊢
  by_cases h5 : 9 < n
  · rw [if_pos h5] at q
    rw [if_pos (by omega)]
    exact q
  rw [if_neg h5] at q
  rw [if_neg (by omega)]
  exact q
abbrev fallenM (v : WallM) (held : Nat) : Prop := 1 < (looseM v.covers v.up held).length
def putProb (s : ScriptM) (a : Units) : Nat := if a ∉ s.wall.spots then 9 else if fallenM s.wall s.wall.held then 12 else if s.wall.held.testBit (s.wall.spots.idxOf a) = true then 13 else if s.wall.drawer = 0 then 14 else manyActs s
def f_put_problem : DSp := fun ds Q => ∃ (s : ScriptM) (a : Units), ds = [eS s, eU a] ∧ WfW s.wall ∧ Q (.int (putProb s a : Nat))
@[simp] theorem i_put_problem {s : ScriptM} {a : Units} {Q : D → Prop} : f_put_problem [eS s, eU a] Q ↔ WfW s.wall ∧ Q (.int (putProb s a : Nat)) := by simp [f_put_problem]
def t_put_problem : DS := (dSeq (dSet 2 (dCall f_place_of (dCons (dFld false 2 (dFld true 0 (dVar 0))) (dCons (dVar 1) dNil)))) (dSeq (dIfS (dB (dLtI (dVar 2) (dC (.int 0)))) (dRet (dC (.int 9))) dNext) (dSeq (dIfS (dB (dCall f_fallen (dCons (dFld true 0 (dVar 0)) dNil))) (dRet (dC (.int 12))) dNext) (dSeq (dIfS (dB (dCall f_has (dCons (dFld false 3 (dFld true 0 (dVar 0))) (dCons (dVar 2) dNil)))) (dRet (dC (.int 13))) dNext) (dSeq (dIfS (dB (dEqI (dFld false 4 (dFld true 0 (dVar 0))) (dC (.int 0)))) (dRet (dC (.int 14))) dNext) (dRet (dCall f_many_acts (dCons (dVar 0) dNil))))))))
theorem pure_put_problem : ∀ ds Q, f_put_problem ds Q → ds.length = 2 ∧ t_put_problem ⟨fun _ => Q .non, fun d _ => Q d⟩ (startE 3 ds) := by
  rintro ds Q ⟨s, a, rfl, ⟨w1, w2, w3⟩, q⟩
  refine ⟨rfl, ?_⟩
  unfold putProb at q
  simp [t_put_problem, placeOf_neg]
  refine ⟨by omega, ?_⟩
  by_cases h1 : a ∈ s.wall.spots
  · rw [if_neg (by simpa using h1)] at q
    rw [if_pos h1]
    have hi := List.idxOf_lt_length_iff.mpr h1
    refine ⟨by omega, ?_⟩
    by_cases h3 : fallenM s.wall s.wall.held
    · rw [if_pos h3] at q
      rw [if_pos h3]
      exact q
    rw [if_neg h3] at q
    rw [if_neg h3]
    rw [placeOf_mem h1]
    simp
    refine ⟨by omega, ?_⟩
    by_cases h4 : s.wall.held.testBit (s.wall.spots.idxOf a) = true
    · rw [if_pos h4] at q ⊢
      exact q
    rw [if_neg h4] at q ⊢
    by_cases h5 : s.wall.drawer = 0
    · rw [if_pos h5] at q
      rw [if_pos (by omega)]
      exact q
    rw [if_neg h5] at q
    rw [if_neg (by omega)]
    exact q
  · rw [if_pos (by simpa using h1)] at q
    rw [if_neg h1]
    exact q
theorem bit_le {m k : Nat} (h : m.testBit k = true) : 2 ^ k ≤ m := Nat.ge_two_pow_of_testBit h
def offProb (s : ScriptM) (a : Units) : Nat := if a ∉ s.wall.spots then 9 else if s.wall.held.testBit (s.wall.spots.idxOf a) = false then 16 else if fallenM s.wall (s.wall.held - 2 ^ s.wall.spots.idxOf a) then 12 else manyActs s
def f_off_problem : DSp := fun ds Q => ∃ (s : ScriptM) (a : Units), ds = [eS s, eU a] ∧ WfW s.wall ∧ Q (.int (offProb s a : Nat))
@[simp] theorem i_off_problem {s : ScriptM} {a : Units} {Q : D → Prop} : f_off_problem [eS s, eU a] Q ↔ WfW s.wall ∧ Q (.int (offProb s a : Nat)) := by simp [f_off_problem]
def t_off_problem : DS := (dSeq (dSet 2 (dCall f_place_of (dCons (dFld false 2 (dFld true 0 (dVar 0))) (dCons (dVar 1) dNil)))) (dSeq (dIfS (dB (dLtI (dVar 2) (dC (.int 0)))) (dRet (dC (.int 9))) dNext) (dSeq (dIfS (dNotT (dB (dCall f_has (dCons (dFld false 3 (dFld true 0 (dVar 0))) (dCons (dVar 2) dNil))))) (dRet (dC (.int 16))) dNext) (dSeq (dIfS (dB (dCall f_many_loose (dCons (dFld true 0 (dVar 0)) (dCons (dCall f_left_out (dCons (dFld false 3 (dFld true 0 (dVar 0))) (dCons (dVar 2) dNil))) dNil)))) (dRet (dC (.int 12))) dNext) (dRet (dCall f_many_acts (dCons (dVar 0) dNil)))))))
theorem pure_off_problem : ∀ ds Q, f_off_problem ds Q → ds.length = 2 ∧ t_off_problem ⟨fun _ => Q .non, fun d _ => Q d⟩ (startE 3 ds) := by
  rintro ds Q ⟨s, a, rfl, ⟨w1, w2, w3⟩, q⟩
  refine ⟨rfl, ?_⟩
  unfold offProb at q
  simp [t_off_problem, placeOf_neg]
  refine ⟨by omega, ?_⟩
  by_cases h1 : a ∈ s.wall.spots
  · rw [if_neg (by simpa using h1)] at q
    rw [if_pos h1]
    have hi := List.idxOf_lt_length_iff.mpr h1
    rw [placeOf_mem h1]
    simp
    refine ⟨by omega, ?_⟩
    by_cases h4 : s.wall.held.testBit (s.wall.spots.idxOf a) = false
    · rw [if_pos h4] at q
      rw [if_neg (by simp [h4])]
      exact q
    rw [if_neg h4] at q
    rw [if_pos (by simpa using h4)]
    refine ⟨by omega, bit_le (by simpa using h4), by omega, ?_⟩
    by_cases h3 : fallenM s.wall (s.wall.held - 2 ^ s.wall.spots.idxOf a)
    · rw [if_pos h3] at q
      rw [if_pos h3]
      exact q
    rw [if_neg h3] at q
    rw [if_neg h3]
    exact q
  · rw [if_pos (by simpa using h1)] at q
    rw [if_neg h1]
    exact q
def moveProb (s : ScriptM) (a c : Units) : Nat := if a ∉ s.wall.spots ∨ c ∉ s.wall.spots then 9 else if s.wall.held.testBit (s.wall.spots.idxOf a) = false then 16 else if s.wall.held.testBit (s.wall.spots.idxOf c) = true then 13 else if fallenM s.wall (s.wall.held - 2 ^ s.wall.spots.idxOf a) then 12 else manyActs s
def f_move_problem : DSp := fun ds Q => ∃ (s : ScriptM) (a c : Units), ds = [eS s, eU a, eU c] ∧ WfW s.wall ∧ Q (.int (moveProb s a c : Nat))
@[simp] theorem i_move_problem {s : ScriptM} {a c : Units} {Q : D → Prop} : f_move_problem [eS s, eU a, eU c] Q ↔ WfW s.wall ∧ Q (.int (moveProb s a c : Nat)) := by simp [f_move_problem]
def t_move_problem : DS := (dSeq (dSet 3 (dCall f_place_of (dCons (dFld false 2 (dFld true 0 (dVar 0))) (dCons (dVar 1) dNil)))) (dSeq (dSet 4 (dCall f_place_of (dCons (dFld false 2 (dFld true 0 (dVar 0))) (dCons (dVar 2) dNil)))) (dSeq (dIfS (dOrT (dB (dLtI (dVar 3) (dC (.int 0)))) (dB (dLtI (dVar 4) (dC (.int 0))))) (dRet (dC (.int 9))) dNext) (dSeq (dIfS (dNotT (dB (dCall f_has (dCons (dFld false 3 (dFld true 0 (dVar 0))) (dCons (dVar 3) dNil))))) (dRet (dC (.int 16))) dNext) (dSeq (dIfS (dB (dCall f_has (dCons (dFld false 3 (dFld true 0 (dVar 0))) (dCons (dVar 4) dNil)))) (dRet (dC (.int 13))) dNext) (dSeq (dIfS (dB (dCall f_many_loose (dCons (dFld true 0 (dVar 0)) (dCons (dCall f_left_out (dCons (dFld false 3 (dFld true 0 (dVar 0))) (dCons (dVar 3) dNil))) dNil)))) (dRet (dC (.int 12))) dNext) (dRet (dCall f_many_acts (dCons (dVar 0) dNil)))))))))
theorem pure_move_problem : ∀ ds Q, f_move_problem ds Q → ds.length = 3 ∧ t_move_problem ⟨fun _ => Q .non, fun d _ => Q d⟩ (startE 5 ds) := by
  rintro ds Q ⟨s, a, c, rfl, ⟨w1, w2, w3⟩, q⟩
  refine ⟨rfl, ?_⟩
  unfold moveProb at q
  simp [t_move_problem, placeOf_neg]
  refine ⟨by omega, ?_⟩
  by_cases h1 : a ∈ s.wall.spots
  · rw [if_pos h1]
    by_cases h2 : c ∈ s.wall.spots
    · rw [if_pos h2]
      rw [if_neg (by simp [h1, h2])] at q
      have hi := List.idxOf_lt_length_iff.mpr h1
      have hj := List.idxOf_lt_length_iff.mpr h2
      rw [placeOf_mem h1, placeOf_mem h2]
      simp
      refine ⟨by omega, ?_⟩
      by_cases h4 : s.wall.held.testBit (s.wall.spots.idxOf a) = false
      · rw [if_pos h4] at q
        rw [if_neg (by simp [h4])]
        exact q
      rw [if_neg h4] at q
      rw [if_pos (by simpa using h4)]
      refine ⟨by omega, ?_⟩
      by_cases h5 : s.wall.held.testBit (s.wall.spots.idxOf c) = true
      · rw [if_pos h5] at q ⊢
        exact q
      rw [if_neg h5] at q ⊢
      refine ⟨by omega, bit_le (by simpa using h4), by omega, ?_⟩
      by_cases h3 : fallenM s.wall (s.wall.held - 2 ^ s.wall.spots.idxOf a)
      · rw [if_pos h3] at q
        rw [if_pos h3]
        exact q
      rw [if_neg h3] at q
      rw [if_neg h3]
      exact q
    · rw [if_neg h2]
      rw [if_pos (.inr h2)] at q
      exact q
  · rw [if_pos (.inl h1)] at q
    rw [if_neg h1]
    exact q
def takeProb (s : ScriptM) (n : Units) : Nat := if n ∉ s.wall.names then 17 else if s.wall.up.testBit (s.wall.names.idxOf n) = false then 18 else if ¬ s.wall.covers.getD (s.wall.names.idxOf n) 0 &&& s.wall.held = 0 then 19 else if fallenM s.wall s.wall.held then 12 else manyActs s
def f_take_problem : DSp := fun ds Q => ∃ (s : ScriptM) (n : Units), ds = [eS s, eU n] ∧ WfW s.wall ∧ Q (.int (takeProb s n : Nat))
@[simp] theorem i_take_problem {s : ScriptM} {n : Units} {Q : D → Prop} : f_take_problem [eS s, eU n] Q ↔ WfW s.wall ∧ Q (.int (takeProb s n : Nat)) := by simp [f_take_problem]
def t_take_problem : DS := (dSeq (dSet 2 (dCall f_place_of (dCons (dFld false 0 (dFld true 0 (dVar 0))) (dCons (dVar 1) dNil)))) (dSeq (dIfS (dB (dLtI (dVar 2) (dC (.int 0)))) (dRet (dC (.int 17))) dNext) (dSeq (dIfS (dNotT (dB (dCall f_has (dCons (dFld false 5 (dFld true 0 (dVar 0))) (dCons (dVar 2) dNil))))) (dRet (dC (.int 18))) dNext) (dSeq (dIfS (dNotT (dB (dCall f_apart (dCons (dIx (dFld false 1 (dFld true 0 (dVar 0))) (dVar 2)) (dCons (dFld false 3 (dFld true 0 (dVar 0))) dNil))))) (dRet (dC (.int 19))) dNext) (dSeq (dIfS (dB (dCall f_fallen (dCons (dFld true 0 (dVar 0)) dNil))) (dRet (dC (.int 12))) dNext) (dRet (dCall f_many_acts (dCons (dVar 0) dNil))))))))
theorem pure_take_problem : ∀ ds Q, f_take_problem ds Q → ds.length = 2 ∧ t_take_problem ⟨fun _ => Q .non, fun d _ => Q d⟩ (startE 3 ds) := by
  rintro ds Q ⟨s, n, rfl, ⟨w1, w2, w3⟩, q⟩
  refine ⟨rfl, ?_⟩
  unfold takeProb at q
  simp [t_take_problem, placeOf_neg]
  refine ⟨by omega, ?_⟩
  by_cases h1 : n ∈ s.wall.names
  · rw [if_neg (by simpa using h1)] at q
    rw [if_pos h1]
    have hi := List.idxOf_lt_length_iff.mpr h1
    have hi2 : s.wall.names.idxOf n < s.wall.covers.length := by omega
    rw [placeOf_mem h1]
    simp
    refine ⟨by omega, ?_⟩
    by_cases h4 : s.wall.up.testBit (s.wall.names.idxOf n) = false
    · rw [if_pos h4] at q
      rw [if_neg (by simp [h4])]
      exact q
    rw [if_neg h4] at q
    rw [if_pos (by simpa using h4)]
    simp [intsN, hi2]
    have eg : s.wall.covers.getD (s.wall.names.idxOf n) 0 = s.wall.covers[s.wall.names.idxOf n] := by simp [hi2]
    rw [eg] at q
    by_cases h5 : s.wall.covers[s.wall.names.idxOf n] &&& s.wall.held = 0
    · rw [if_neg (by simpa using h5)] at q
      rw [if_pos h5]
      refine ⟨by omega, ?_⟩
      by_cases h3 : fallenM s.wall s.wall.held
      · rw [if_pos h3] at q ⊢
        exact q
      rw [if_neg h3] at q ⊢
      exact q
    · rw [if_pos (by simpa using h5)] at q
      rw [if_neg h5]
      exact q
  · rw [if_pos (by simpa using h1)] at q
    rw [if_neg h1]
    exact q
/-! items -/
open Panels (Item)
def rowOf (i : Item) : List Units := (Panels.itemTokens i).map Panels.tokenText
def kindNo : Item → Nat
  | .sheet _ _ _ => 0
  | .magnet _ => 1
  | .drawer _ => 2
  | .put _ => 3
  | .off _ => 4
  | .shift _ _ => 5
  | .take _ => 6
theorem row_sheet {n a : Units} {l : List Units} : rowOf (.sheet n a l) = Panels.units "sheet" :: n :: a :: l := by
  unfold rowOf Panels.itemTokens
  simp [Panels.wordToken, Panels.tokenText, Function.comp_def]
theorem row_magnet {a : Units} : rowOf (.magnet a) = [Panels.units "magnet", a] := rfl
theorem row_drawer {d : Nat} : rowOf (.drawer d) = [Panels.units "drawer", Panels.numberText d] := rfl
theorem row_put {a : Units} : rowOf (.put a) = [Panels.units "put", a] := rfl
theorem row_off {a : Units} : rowOf (.off a) = [Panels.units "off", a] := rfl
theorem row_shift {a c : Units} : rowOf (.shift a c) = [Panels.units "move", a, c] := rfl
theorem row_take {a : Units} : rowOf (.take a) = [Panels.units "take", a] := rfl
structure ItemOk (i : Item) : Prop where
  kind : kindOf (rowOf i) = (kindNo i : Nat)
  full : ∀ p ∈ rowOf i, p ≠ []
  len : (rowOf i).length ≤ 8
  size : sizeM (rowOf i) ≤ 1000
  chars : ∀ p ∈ rowOf i, ∀ c ∈ p, c.toNat < 256
  num : ∀ d, i = .drawer d → (Panels.numberText d).all Panels.isDigit = true ∧ Panels.digitsValue 0 (Panels.numberText d) = d
theorem row_ne {i : Item} : rowOf i ≠ [] := by cases i <;> simp [row_sheet, row_magnet, row_drawer, row_put, row_off, row_shift, row_take]
def itemProb (s : ScriptM) : Item → Nat
  | .sheet n a l => sheetProb s n (a :: l)
  | .magnet a => magnetProb s a
  | .drawer d => drawerProb s d
  | .put a => putProb s a
  | .off a => offProb s a
  | .shift a c => moveProb s a c
  | .take n => takeProb s n
def f_item_problem : DSp := fun ds Q => ∃ (s : ScriptM) (row : List Units) (i : Item), ds = [eS s, eL row] ∧ row = rowOf i ∧ WfW s.wall ∧ ItemOk i ∧ Q (.int (itemProb s i : Nat))
theorem c_item_problem {s : ScriptM} {row : List Units} {i : Item} {Q : D → Prop} (h : row = rowOf i) (w : WfW s.wall) (o : ItemOk i) (q : Q (.int (itemProb s i : Nat))) : f_item_problem [eS s, eL row] Q := ⟨s, row, i, rfl, h, w, o, q⟩
def t_item_problem : DS := (dSeq (dSet 2 (dCall f_kind_of (dCons (dVar 1) dNil))) (dSeq (dIfS (dB (dEqI (dVar 2) (dC (.int 0)))) (dRet (dCall f_sheet_problem (dCons (dVar 0) (dCons (dIx (dVar 1) (dC (.int 1))) (dCons (dL (dSl (dVar 1) (dPart (dC (.int 2))) dNoPart)) dNil))))) dNext) (dSeq (dIfS (dB (dEqI (dVar 2) (dC (.int 1)))) (dRet (dCall f_magnet_problem (dCons (dVar 0) (dCons (dIx (dVar 1) (dC (.int 1))) dNil)))) dNext) (dSeq (dIfS (dB (dEqI (dVar 2) (dC (.int 2)))) (dRet (dCall f_drawer_problem (dCons (dVar 0) (dCons (dCall f_value_of (dCons (dIx (dVar 1) (dC (.int 1))) dNil)) dNil)))) dNext) (dSeq (dIfS (dB (dEqI (dVar 2) (dC (.int 3)))) (dRet (dCall f_put_problem (dCons (dVar 0) (dCons (dIx (dVar 1) (dC (.int 1))) dNil)))) dNext) (dSeq (dIfS (dB (dEqI (dVar 2) (dC (.int 4)))) (dRet (dCall f_off_problem (dCons (dVar 0) (dCons (dIx (dVar 1) (dC (.int 1))) dNil)))) dNext) (dSeq (dIfS (dB (dEqI (dVar 2) (dC (.int 5)))) (dRet (dCall f_move_problem (dCons (dVar 0) (dCons (dIx (dVar 1) (dC (.int 1))) (dCons (dIx (dVar 1) (dC (.int 2))) dNil))))) dNext) (dRet (dCall f_take_problem (dCons (dVar 0) (dCons (dIx (dVar 1) (dC (.int 1))) dNil)))))))))))
theorem cut2 {ds : List D} : cutD ds (some 2) none = ds.drop 2 := cutD_from (n := 2)
theorem eL_cons {u : Units} {us : List Units} : D.lst (eU u :: us.map eU) = eL (u :: us) := rfl
theorem pure_item_problem : ∀ ds Q, f_item_problem ds Q → ds.length = 2 ∧ t_item_problem ⟨fun _ => Q .non, fun d _ => Q d⟩ (startE 3 ds) := by
  rintro ds Q ⟨s, row, i, rfl, rfl, w, ⟨ok1, ok2, ok3, ok4, okc, ok5⟩, q⟩
  refine ⟨rfl, ?_⟩
  have kd := ok1
  have kn := row_ne (i := i)
  cases i with
  | sheet n a l =>
    simp [t_item_problem, kn, kd, kindNo]
    refine ⟨ok2, ?_⟩
    rw [row_sheet] at ok3 ⊢
    rw [cut2]
    simp
    rw [eL_cons]
    simp at ok3 ⊢
    exact ⟨w, by omega, q⟩
  | magnet a =>
    simp [t_item_problem, kn, kd, kindNo]
    refine ⟨ok2, ?_⟩
    rw [row_magnet]
    simp
    exact ⟨w, q⟩
  | drawer d =>
    simp [t_item_problem, kn, kd, kindNo]
    refine ⟨ok2, ?_⟩
    rw [row_drawer]
    have h5 := ok5 d rfl
    simp only [List.getElem?_cons_succ, List.getElem?_cons_zero, Option.some.injEq]
    refine ⟨_, ⟨_, rfl, rfl⟩, ?_⟩
    rw [i_value_of]
    refine ⟨h5.1, ?_⟩
    rw [h5.2]
    simp
    exact q
  | put a =>
    simp [t_item_problem, kn, kd, kindNo]
    refine ⟨ok2, ?_⟩
    rw [row_put]
    simp
    exact ⟨w, q⟩
  | off a =>
    simp [t_item_problem, kn, kd, kindNo]
    refine ⟨ok2, ?_⟩
    rw [row_off]
    simp
    exact ⟨w, q⟩
  | shift a c =>
    simp [t_item_problem, kn, kd, kindNo]
    refine ⟨ok2, ?_⟩
    rw [row_shift]
    simp
    exact ⟨w, q⟩
  | take n =>
    simp [t_item_problem, kn, kd, kindNo]
    refine ⟨ok2, ?_⟩
    rw [row_take]
    simp
    exact ⟨w, q⟩
/-! behind an item -/
theorem c_with_magnets {v : WallM} {h d : Nat} {x y : Int} {Q : D → Prop} (hx : x = (h : Nat)) (hy : y = (d : Nat)) (q : Q (eW { v with held := h, drawer := d })) : f_with_magnets [eW v, .int x, .int y] Q := ⟨v, h, d, by rw [hx, hy], q⟩
def movedM (v : WallM) : Item → WallM
  | .magnet a => { v with held := v.held + 2 ^ v.spots.idxOf a }
  | .put a => { v with held := v.held + 2 ^ v.spots.idxOf a, drawer := v.drawer - 1 }
  | .off a => { v with held := v.held - 2 ^ v.spots.idxOf a, drawer := v.drawer + 1 }
  | .shift a c => { v with held := v.held - 2 ^ v.spots.idxOf a + 2 ^ v.spots.idxOf c }
  | _ => v
def movOk (v : WallM) : Item → Prop
  | .magnet a => a ∈ v.spots
  | .put a => a ∈ v.spots ∧ 1 ≤ v.drawer
  | .off a => a ∈ v.spots ∧ v.held.testBit (v.spots.idxOf a) = true
  | .shift a c => a ∈ v.spots ∧ c ∈ v.spots ∧ v.held.testBit (v.spots.idxOf a) = true
  | _ => False
def f_magnets_moved : DSp := fun ds Q => ∃ (v : WallM) (i : Item), ds = [eW v, .int (kindNo i : Nat), eL (rowOf i)] ∧ WfW v ∧ movOk v i ∧ Q (eW (movedM v i))
theorem c_magnets_moved {v : WallM} {i : Item} {k : Int} {Q : D → Prop} (hk : k = (kindNo i : Nat)) (w : WfW v) (o : movOk v i) (q : Q (eW (movedM v i))) : f_magnets_moved [eW v, .int k, eL (rowOf i)] Q := ⟨v, i, by rw [hk], w, o, q⟩
def t_magnets_moved : DS := (dSeq (dSet 3 (dCall f_place_of (dCons (dFld false 2 (dVar 0)) (dCons (dIx (dVar 2) (dC (.int 1))) dNil)))) (dSeq (dIfS (dB (dEqI (dVar 1) (dC (.int 1)))) (dRet (dCall f_with_magnets (dCons (dVar 0) (dCons (dCall f_put_in (dCons (dFld false 3 (dVar 0)) (dCons (dVar 3) dNil))) (dCons (dFld false 4 (dVar 0)) dNil))))) dNext) (dSeq (dIfS (dB (dEqI (dVar 1) (dC (.int 3)))) (dRet (dCall f_with_magnets (dCons (dVar 0) (dCons (dCall f_put_in (dCons (dFld false 3 (dVar 0)) (dCons (dVar 3) dNil))) (dCons (dSub (dFld false 4 (dVar 0)) (dC (.int 1))) dNil))))) dNext) (dSeq (dIfS (dB (dEqI (dVar 1) (dC (.int 4)))) (dRet (dCall f_with_magnets (dCons (dVar 0) (dCons (dCall f_left_out (dCons (dFld false 3 (dVar 0)) (dCons (dVar 3) dNil))) (dCons (dAdd (dFld false 4 (dVar 0)) (dC (.int 1))) dNil))))) dNext) (dSeq (dSet 4 (dCall f_place_of (dCons (dFld false 2 (dVar 0)) (dCons (dIx (dVar 2) (dC (.int 2))) dNil)))) (dRet (dCall f_with_magnets (dCons (dVar 0) (dCons (dCall f_put_in (dCons (dCall f_left_out (dCons (dFld false 3 (dVar 0)) (dCons (dVar 3) dNil))) (dCons (dVar 4) dNil))) (dCons (dFld false 4 (dVar 0)) dNil))))))))))
theorem pure_magnets_moved : ∀ ds Q, f_magnets_moved ds Q → ds.length = 3 ∧ t_magnets_moved ⟨fun _ => Q .non, fun d _ => Q d⟩ (startE 5 ds) := by
  rintro ds Q ⟨v, i, rfl, ⟨w1, w2, w3⟩, o, q⟩
  refine ⟨rfl, ?_⟩
  cases i with
  | sheet n a l => exact o.elim
  | drawer d => exact o.elim
  | take n => exact o.elim
  | magnet a =>
    have h1 : a ∈ v.spots := o
    have hi := List.idxOf_lt_length_iff.mpr h1
    simp [t_magnets_moved, kindNo, row_magnet, placeOf_mem h1]
    exact ⟨by omega, by omega, c_with_magnets (by simp) rfl q⟩
  | put a =>
    have h1 : a ∈ v.spots := o.1
    have h2 : 1 ≤ v.drawer := o.2
    have hi := List.idxOf_lt_length_iff.mpr h1
    have e : (v.drawer : Int) - 1 = ((v.drawer - 1 : Nat) : Int) := by omega
    simp [t_magnets_moved, kindNo, row_put, placeOf_mem h1]
    exact ⟨by omega, by omega, c_with_magnets (by simp) e q⟩
  | off a =>
    have h1 : a ∈ v.spots := o.1
    have hi := List.idxOf_lt_length_iff.mpr h1
    have e : (v.drawer : Int) + 1 = ((v.drawer + 1 : Nat) : Int) := by omega
    simp [t_magnets_moved, kindNo, row_off, placeOf_mem h1]
    exact ⟨by omega, by omega, bit_le o.2, c_with_magnets rfl e q⟩
  | shift a c =>
    have h1 : a ∈ v.spots := o.1
    have h2 : c ∈ v.spots := o.2.1
    have hi := List.idxOf_lt_length_iff.mpr h1
    have hj := List.idxOf_lt_length_iff.mpr h2
    simp [t_magnets_moved, kindNo, row_shift, placeOf_mem h1, placeOf_mem h2]
    exact ⟨by omega, by omega, bit_le o.2.2, by omega, c_with_magnets (by simp) rfl q⟩
def afterM (v : WallM) : Item → WallM
  | .sheet n a l => withSheet v n (a :: l)
  | .drawer d => { v with drawer := d }
  | .take n => { v with up := v.up - 2 ^ v.names.idxOf n }
  | .magnet a => movedM v (.magnet a)
  | .put a => movedM v (.put a)
  | .off a => movedM v (.off a)
  | .shift a c => movedM v (.shift a c)
def aftOk (v : WallM) : Item → Prop
  | .sheet n a l => ((a :: l).foldl Panels.addSpot v.spots).length ≤ 6
  | .drawer d => True
  | .take n => n ∈ v.names ∧ v.up.testBit (v.names.idxOf n) = true
  | .magnet a => movOk v (.magnet a)
  | .put a => movOk v (.put a)
  | .off a => movOk v (.off a)
  | .shift a c => movOk v (.shift a c)
def f_wall_after : DSp := fun ds Q => ∃ (v : WallM) (i : Item), ds = [eW v, eL (rowOf i)] ∧ WfW v ∧ ItemOk i ∧ aftOk v i ∧ Q (eW (afterM v i))
theorem c_wall_after {v : WallM} {i : Item} {Q : D → Prop} (w : WfW v) (ok : ItemOk i) (o : aftOk v i) (q : Q (eW (afterM v i))) : f_wall_after [eW v, eL (rowOf i)] Q := ⟨v, i, rfl, w, ok, o, q⟩
def t_wall_after : DS := (dSeq (dSet 2 (dCall f_kind_of (dCons (dVar 1) dNil))) (dSeq (dIfS (dB (dEqI (dVar 2) (dC (.int 0)))) (dRet (dCall f_with_sheet (dCons (dVar 0) (dCons (dIx (dVar 1) (dC (.int 1))) (dCons (dL (dSl (dVar 1) (dPart (dC (.int 2))) dNoPart)) dNil))))) dNext) (dSeq (dIfS (dB (dEqI (dVar 2) (dC (.int 2)))) (dRet (dCall f_with_magnets (dCons (dVar 0) (dCons (dFld false 3 (dVar 0)) (dCons (dCall f_value_of (dCons (dIx (dVar 1) (dC (.int 1))) dNil)) dNil))))) dNext) (dSeq (dIfS (dB (dBin wIn (dVar 2) (dTup (dCons (dC (.int 1)) (dCons (dC (.int 3)) (dCons (dC (.int 4)) (dCons (dC (.int 5)) dNil))))))) (dRet (dCall f_magnets_moved (dCons (dVar 0) (dCons (dVar 2) (dCons (dVar 1) dNil))))) dNext) (dRet (dCall f_without_sheet (dCons (dVar 0) (dCons (dCall f_place_of (dCons (dFld false 0 (dVar 0)) (dCons (dIx (dVar 1) (dC (.int 1))) dNil))) dNil))))))))
theorem pure_wall_after : ∀ ds Q, f_wall_after ds Q → ds.length = 2 ∧ t_wall_after ⟨fun _ => Q .non, fun d _ => Q d⟩ (startE 3 ds) := by
  rintro ds Q ⟨v, i, rfl, w, ⟨ok1, ok2, ok3, ok4, okc, ok5⟩, o, q⟩
  refine ⟨rfl, ?_⟩
  have kd := ok1
  have kn := row_ne (i := i)
  cases i with
  | sheet n a l =>
    simp [t_wall_after, kn, kd, kindNo]
    refine ⟨ok2, ?_⟩
    rw [row_sheet] at ok3 ⊢
    rw [cut2]
    simp
    rw [eL_cons]
    simp at ok3 ⊢
    exact ⟨w.1, by have := w.1; have := w.2.1; omega, w.2.2, by omega, o, q⟩
  | drawer d =>
    simp [t_wall_after, kn, kd, kindNo]
    refine ⟨ok2, ?_⟩
    rw [row_drawer]
    have h5 := ok5 d rfl
    simp only [List.getElem?_cons_succ, List.getElem?_cons_zero, Option.some.injEq]
    refine ⟨_, ⟨_, rfl, rfl⟩, ?_⟩
    rw [i_value_of]
    refine ⟨h5.1, ?_⟩
    rw [h5.2]
    simp
    exact q
  | take n =>
    simp [t_wall_after, kn, kd, kindNo]
    refine ⟨ok2, ?_⟩
    rw [row_take]
    have hi := List.idxOf_lt_length_iff.mpr o.1
    have e6 : ¬ ((6 : Int) ∈ [(1 : Int), 3, 4, 5]) := by decide
    simp [placeOf_mem o.1]
    refine ⟨[1, 3, 4, 5], rfl, ?_⟩
    rw [if_neg e6]
    exact ⟨by have := w.1; omega, by have := w.1; omega, bit_le o.2, q⟩
  | magnet a =>
    simp [t_wall_after, kn, kd, kindNo]
    refine ⟨ok2, [1, 3, 4, 5], rfl, ?_⟩
    rw [if_pos (by decide)]
    exact c_magnets_moved (i := .magnet a) rfl w o q
  | put a =>
    simp [t_wall_after, kn, kd, kindNo]
    refine ⟨ok2, [1, 3, 4, 5], rfl, ?_⟩
    rw [if_pos (by decide)]
    exact c_magnets_moved (i := .put a) rfl w o q
  | off a =>
    simp [t_wall_after, kn, kd, kindNo]
    refine ⟨ok2, [1, 3, 4, 5], rfl, ?_⟩
    rw [if_pos (by decide)]
    exact c_magnets_moved (i := .off a) rfl w o q
  | shift a c =>
    simp [t_wall_after, kn, kd, kindNo]
    refine ⟨ok2, [1, 3, 4, 5], rfl, ?_⟩
    rw [if_pos (by decide)]
    exact c_magnets_moved (i := .shift a c) rfl w o q
def isDrawer : Item → Bool
  | .drawer _ => true
  | _ => false
def afterS (s : ScriptM) (i : Item) : ScriptM := ⟨afterM s.wall i, s.drawn || isDrawer i, s.acts + (if Panels.isCommand i then 1 else 0), s.lines ++ [spacedM (rowOf i)]⟩
def f_script_after : DSp := fun ds Q => ∃ (s : ScriptM) (row : List Units) (i : Item), ds = [eS s, eL row] ∧ row = rowOf i ∧ WfW s.wall ∧ s.lines.length ≤ 1000000 ∧ ItemOk i ∧ aftOk s.wall i ∧ Q (eS (afterS s i))
theorem c_script_after {s : ScriptM} {row : List Units} {i : Item} {Q : D → Prop} (h : row = rowOf i) (w : WfW s.wall) (hl : s.lines.length ≤ 1000000) (ok : ItemOk i) (o : aftOk s.wall i) (q : Q (eS (afterS s i))) : f_script_after [eS s, eL row] Q := ⟨s, row, i, rfl, h, w, hl, ok, o, q⟩
def t_script_after : DS := (dSeq (dSet 2 (dCall f_kind_of (dCons (dVar 1) dNil))) (dSeq (dSet 3 (dFld true 2 (dVar 0))) (dSeq (dIfS (dB (dGeI (dVar 2) (dC (.int 3)))) (dAug 3 (dC (.int 1))) dNext) (dRet (dMake true 4 (dCons (dCall f_wall_after (dCons (dFld true 0 (dVar 0)) (dCons (dVar 1) dNil))) (dCons (dOrV (dFld true 1 (dVar 0)) (dEqI (dVar 2) (dC (.int 2)))) (dCons (dVar 3) (dCons (dL (dCat (dFld true 3 (dVar 0)) (dL (dDisp (dCons (dCall f_spaced (dCons (dVar 1) dNil)) dNil))))) dNil)))))))))
theorem pure_script_after : ∀ ds Q, f_script_after ds Q → ds.length = 2 ∧ t_script_after ⟨fun _ => Q .non, fun d _ => Q d⟩ (startE 4 ds) := by
  rintro ds Q ⟨s, row, i, rfl, rfl, w, hl, ok, o, q⟩
  refine ⟨rfl, ?_⟩
  have kd := ok.kind
  have kn := row_ne (i := i)
  have sz := ok.size
  cases i with
  | sheet n a l =>
    cases hd : s.drawn with
    | true =>
      simp [t_script_after, kn, kd, kindNo, hd]
      refine ⟨ok.full, c_wall_after w ok o ?_⟩
      refine ⟨by omega, by omega, ?_⟩
      simpa [eS, afterS, isDrawer, Panels.isCommand, hd, eL] using q
    | false =>
      simp [t_script_after, kn, kd, kindNo, hd]
      refine ⟨ok.full, c_wall_after w ok o ?_⟩
      refine ⟨by omega, by omega, ?_⟩
      simpa [eS, afterS, isDrawer, Panels.isCommand, hd, eL] using q
  | magnet a =>
    cases hd : s.drawn with
    | true =>
      simp [t_script_after, kn, kd, kindNo, hd]
      refine ⟨ok.full, c_wall_after w ok o ?_⟩
      refine ⟨by omega, by omega, ?_⟩
      simpa [eS, afterS, isDrawer, Panels.isCommand, hd, eL] using q
    | false =>
      simp [t_script_after, kn, kd, kindNo, hd]
      refine ⟨ok.full, c_wall_after w ok o ?_⟩
      refine ⟨by omega, by omega, ?_⟩
      simpa [eS, afterS, isDrawer, Panels.isCommand, hd, eL] using q
  | drawer d =>
    cases hd : s.drawn with
    | true =>
      simp [t_script_after, kn, kd, kindNo, hd]
      refine ⟨ok.full, c_wall_after w ok o ?_⟩
      refine ⟨by omega, by omega, ?_⟩
      simpa [eS, afterS, isDrawer, Panels.isCommand, hd, eL] using q
    | false =>
      simp [t_script_after, kn, kd, kindNo, hd]
      refine ⟨ok.full, c_wall_after w ok o ?_⟩
      refine ⟨by omega, by omega, ?_⟩
      simpa [eS, afterS, isDrawer, Panels.isCommand, hd, eL] using q
  | put a =>
    cases hd : s.drawn with
    | true =>
      simp [t_script_after, kn, kd, kindNo, hd]
      refine ⟨ok.full, c_wall_after w ok o ?_⟩
      refine ⟨by omega, by omega, ?_⟩
      simpa [eS, afterS, isDrawer, Panels.isCommand, hd, eL] using q
    | false =>
      simp [t_script_after, kn, kd, kindNo, hd]
      refine ⟨ok.full, c_wall_after w ok o ?_⟩
      refine ⟨by omega, by omega, ?_⟩
      simpa [eS, afterS, isDrawer, Panels.isCommand, hd, eL] using q
  | off a =>
    cases hd : s.drawn with
    | true =>
      simp [t_script_after, kn, kd, kindNo, hd]
      refine ⟨ok.full, c_wall_after w ok o ?_⟩
      refine ⟨by omega, by omega, ?_⟩
      simpa [eS, afterS, isDrawer, Panels.isCommand, hd, eL] using q
    | false =>
      simp [t_script_after, kn, kd, kindNo, hd]
      refine ⟨ok.full, c_wall_after w ok o ?_⟩
      refine ⟨by omega, by omega, ?_⟩
      simpa [eS, afterS, isDrawer, Panels.isCommand, hd, eL] using q
  | shift a c =>
    cases hd : s.drawn with
    | true =>
      simp [t_script_after, kn, kd, kindNo, hd]
      refine ⟨ok.full, c_wall_after w ok o ?_⟩
      refine ⟨by omega, by omega, ?_⟩
      simpa [eS, afterS, isDrawer, Panels.isCommand, hd, eL] using q
    | false =>
      simp [t_script_after, kn, kd, kindNo, hd]
      refine ⟨ok.full, c_wall_after w ok o ?_⟩
      refine ⟨by omega, by omega, ?_⟩
      simpa [eS, afterS, isDrawer, Panels.isCommand, hd, eL] using q
  | take n =>
    cases hd : s.drawn with
    | true =>
      simp [t_script_after, kn, kd, kindNo, hd]
      refine ⟨ok.full, c_wall_after w ok o ?_⟩
      refine ⟨by omega, by omega, ?_⟩
      simpa [eS, afterS, isDrawer, Panels.isCommand, hd, eL] using q
    | false =>
      simp [t_script_after, kn, kd, kindNo, hd]
      refine ⟨ok.full, c_wall_after w ok o ?_⟩
      refine ⟨by omega, by omega, ?_⟩
      simpa [eS, afterS, isDrawer, Panels.isCommand, hd, eL] using q
end PW
set_option Elab.async false
set_option linter.all false
set_option maxRecDepth 100000
set_option maxHeartbeats 2000000
namespace PW
/-! ### marks and lists of truth values -/
def marksB : List Bool → Nat
  | [] => 0
  | b :: l => (if b = true then 1 else 0) + 2 * marksB l
theorem marks_bit : ∀ {l : List Bool} {k : Nat}, (marksB l).testBit k = l.getD k false
  | [], k => by simp [marksB]
  | b :: l, 0 => by
    rw [Nat.testBit_zero, marksB]
    cases b
    · simp
    · simp
  | b :: l, k + 1 => by
    rw [Nat.testBit_succ, marksB]
    have e : ((if b = true then 1 else 0) + 2 * marksB l) / 2 = marksB l := by
      cases b
      · simp
      · simp
        omega
    rw [e, marks_bit]
    simp
theorem marks_lt : ∀ {l : List Bool}, marksB l < 2 ^ l.length
  | [] => by simp [marksB]
  | b :: l => by
    have := marks_lt (l := l)
    rw [marksB, List.length_cons, Nat.pow_succ]
    cases b
    · simp
      omega
    · simp
      omega
theorem marks_on : ∀ {l : List Bool} {k : Nat}, k < l.length → l.getD k false = false → marksB (l.set k true) = marksB l + 2 ^ k
  | b :: l, 0, h, h2 => by
    have e : b = false := by simpa using h2
    subst e
    simp [marksB]
    omega
  | b :: l, k + 1, h, h2 => by
    have ih := marks_on (l := l) (k := k) (by simpa using h) (by simpa using h2)
    rw [List.set_cons_succ, marksB, marksB, ih, Nat.pow_succ]
    omega
theorem marks_off : ∀ {l : List Bool} {k : Nat}, l.getD k false = true → marksB (l.set k false) = marksB l - 2 ^ k
  | [], k, h2 => by simp at h2
  | b :: l, 0, h2 => by
    have e : b = true := by simpa using h2
    subst e
    simp [marksB]
  | b :: l, k + 1, h2 => by
    have h3 : l.getD k false = true := by simpa using h2
    have ih := marks_off (l := l) (k := k) h3
    have hb : 2 ^ k ≤ marksB l := bit_le (by rw [marks_bit]; exact h3)
    rw [List.set_cons_succ, marksB, marksB, ih, Nat.pow_succ]
    omega
theorem marks_append : ∀ {l r : List Bool}, marksB (l ++ r) = marksB l + 2 ^ l.length * marksB r
  | [], r => by simp [marksB]
  | b :: l, r => by
    rw [List.cons_append, marksB, marksB, marks_append, List.length_cons, Nat.pow_succ]
    rw [Nat.mul_add, ← Nat.mul_assoc, Nat.mul_comm 2 (2 ^ l.length), ← Nat.add_assoc]
theorem marks_falses : ∀ {n : Nat}, marksB (List.replicate n false) = 0
  | 0 => rfl
  | n + 1 => by
    rw [List.replicate_succ, marksB, marks_falses]
    rfl
theorem marks_inj : ∀ {l r : List Bool}, l.length = r.length → marksB l = marksB r → l = r
  | [], [], _, _ => rfl
  | [], _ :: _, h, _ => by cases h
  | _ :: _, [], h, _ => by cases h
  | a :: l, b :: r, h, e => by
    rw [marksB, marksB] at e
    have hl : l.length = r.length := by simpa using h
    cases a <;> cases b
    · rw [marks_inj hl (by simp at e; omega)]
    · simp at e; omega
    · simp at e; omega
    · rw [marks_inj hl (by simp at e; omega)]
/-- the truth values of a number's digits -/
def bitsN (w m : Nat) : List Bool := (List.range w).map m.testBit
@[simp] theorem bits_len {w m : Nat} : (bitsN w m).length = w := by simp [bitsN]
theorem bits_getD {w m k : Nat} : (bitsN w m).getD k false = (decide (k < w) && m.testBit k) := by
  unfold bitsN
  by_cases h : k < w
  · simp [h]
  · simp [h]
theorem marks_bits {w m : Nat} (h : m < 2 ^ w) : marksB (bitsN w m) = m := by
  apply Nat.eq_of_testBit_eq
  intro k
  rw [marks_bit, bits_getD]
  by_cases hk : k < w
  · simp [hk]
  · have : m < 2 ^ k := Nat.lt_of_lt_of_le h (Nat.pow_le_pow_right (by decide) (by omega))
    simp [hk, Nat.testBit_lt_two_pow this]
theorem bits_marks {l : List Bool} : bitsN l.length (marksB l) = l := marks_inj (by simp) (marks_bits marks_lt)
/-! counting -/
theorem cnt_filter {n m : Nat} : ((List.range n).filter m.testBit).length = ((bitsN n m).filter id).length := by
  unfold bitsN
  rw [List.filter_map, List.length_map]
  rfl
theorem cnt_marks {l : List Bool} (h : l.length ≤ 6) : cnt (marksB l) = (l.filter id).length := by
  unfold cnt
  rw [show (fun k => (marksB l).testBit k) = (marksB l).testBit from rfl, cnt_filter]
  have e : bitsN 6 (marksB l) = l ++ List.replicate (6 - l.length) false := by
    apply marks_inj
    · simp
      omega
    · rw [marks_bits (Nat.lt_of_lt_of_le marks_lt (Nat.pow_le_pow_right (by decide) h)), marks_append, marks_falses]
      simp
  rw [e, List.filter_append]
  simp
/-! covers -/
def coverM (s : List Nat) : Nat := s.foldl (fun m i => m + 2 ^ i) 0
theorem reps_getD {n k : Nat} : (List.replicate n false).getD k false = false := by
  rw [List.getD_eq_getElem?_getD, List.getElem?_replicate]
  by_cases h : k < n <;> simp [h]
theorem fold_len : ∀ {s : List Nat} {l : List Bool}, (s.foldl (fun l i => l.set i true) l).length = l.length
  | [], l => rfl
  | i :: s, l => by rw [List.foldl_cons, fold_len, List.length_set]
theorem getD_set {l : List Bool} {i k : Nat} (h : i < l.length) (b : Bool) : (l.set i b).getD k false = if k = i then b else l.getD k false := by
  rw [List.getD_eq_getElem?_getD, List.getD_eq_getElem?_getD, List.getElem?_set]
  by_cases e : i = k
  · subst e
    simp [h]
  · rw [if_neg e, if_neg (Ne.symm e)]
theorem fold_getD : ∀ {s : List Nat} {l : List Bool} {k : Nat}, (∀ i ∈ s, i < l.length) → (s.foldl (fun l i => l.set i true) l).getD k false = (s.contains k || l.getD k false)
  | [], l, k, _ => by simp
  | i :: s, l, k, h => by
    have hi := h i (List.mem_cons_self ..)
    rw [List.foldl_cons, fold_getD (fun j hj => by rw [List.length_set]; exact h j (List.mem_cons_of_mem _ hj)), getD_set hi]
    rw [List.contains_cons]
    by_cases e : k = i
    · subst e
      simp
    · rw [if_neg e]
      have e2 : (k == i) = false := by simpa using e
      rw [e2, Bool.false_or]
theorem fold_marks : ∀ {s : List Nat} {l : List Bool}, s.Nodup → (∀ i ∈ s, i < l.length ∧ l.getD i false = false) → s.foldl (fun m i => m + 2 ^ i) (marksB l) = marksB (s.foldl (fun l i => l.set i true) l)
  | [], l, _, _ => rfl
  | i :: s, l, nd, h => by
    have hi := h i (List.mem_cons_self ..)
    rw [List.nodup_cons] at nd
    rw [List.foldl_cons, List.foldl_cons, ← marks_on hi.1 hi.2]
    refine fold_marks nd.2 fun j hj => ?_
    have hj2 := h j (List.mem_cons_of_mem _ hj)
    rw [List.length_set, getD_set hi.1]
    refine ⟨hj2.1, ?_⟩
    rw [if_neg (fun e : j = i => nd.1 (e ▸ hj))]
    exact hj2.2
theorem cover_bit {s : List Nat} {k : Nat} (nd : s.Nodup) (h : ∀ i ∈ s, i < 6) : (coverM s).testBit k = s.contains k := by
  have e : coverM s = marksB (s.foldl (fun l i => l.set i true) (List.replicate 6 false)) := by
    have := fold_marks (s := s) (l := List.replicate 6 false) nd fun i hi => ⟨by rw [List.length_replicate]; exact h i hi, reps_getD⟩
    rw [marks_falses] at this
    exact this
  rw [e, marks_bit, fold_getD (fun i hi => by rw [List.length_replicate]; exact h i hi), reps_getD, Bool.or_false]
theorem and_zero_iff {m n : Nat} : m &&& n = 0 ↔ ∀ k, m.testBit k = true → n.testBit k = false := by
  constructor
  · intro h k hk
    have := congrArg (fun x => x.testBit k) h
    simp [hk] at this
    exact this
  · intro h
    apply Nat.eq_of_testBit_eq
    intro k
    rw [Nat.testBit_and]
    cases hk : m.testBit k with
    | true => simp [h k hk]
    | false => simp
theorem and_self_iff {m n : Nat} : m &&& n = m ↔ ∀ k, m.testBit k = true → n.testBit k = true := by
  constructor
  · intro h k hk
    have := congrArg (fun x => x.testBit k) h
    simp [hk] at this
    exact this
  · intro h
    apply Nat.eq_of_testBit_eq
    intro k
    rw [Nat.testBit_and]
    cases hk : m.testBit k with
    | true => simp [h k hk]
    | false => simp
/-- a well made sheet -/
def SheetOk (n : Nat) (s : List Nat) : Prop := s.Nodup ∧ ∀ i ∈ s, i < n
theorem held_iff {s : List Nat} {on : List Bool} {n : Nat} (hn : n ≤ 6) (ok : SheetOk n s) : (coverM s &&& marksB on = 0) ↔ Panels.isHeld on s = false := by
  rw [and_zero_iff]
  unfold Panels.isHeld Panels.hasMagnet
  have cb : ∀ k, (coverM s).testBit k = s.contains k := fun k => cover_bit ok.1 fun i hi => Nat.lt_of_lt_of_le (ok.2 i hi) hn
  constructor
  · intro h
    rw [Bool.eq_false_iff]
    intro z
    obtain ⟨i, hi, hi2⟩ := List.any_eq_true.mp z
    have := h i (by rw [cb]; simpa using hi)
    rw [marks_bit] at this
    rw [this] at hi2
    exact Bool.false_ne_true hi2
  · intro h k hk
    rw [cb] at hk
    rw [marks_bit]
    rw [Bool.eq_false_iff] at h ⊢
    intro z
    exact h (List.any_eq_true.mpr ⟨k, by simpa using hk, z⟩)
theorem loose_eq {ss : List (List Nat)} {up on : List Bool} {n : Nat} (hn : n ≤ 6) (ok : ∀ s ∈ ss, SheetOk n s) : looseM (ss.map coverM) (marksB up) (marksB on) = Panels.looseOf ss up on := by
  unfold looseM Panels.looseOf
  rw [List.length_map]
  refine List.filter_congr fun k hk => ?_
  have hlt : k < ss.length := List.mem_range.mp hk
  rw [marks_bit]
  unfold Panels.isUp
  congr 1
  have eg : (ss.map coverM).getD k 0 = coverM (Panels.spotsOf ss k) := by
    unfold Panels.spotsOf
    simp [hlt]
  rw [eg]
  have ho := held_iff (on := on) hn (ok (Panels.spotsOf ss k) (by unfold Panels.spotsOf; simp [hlt]))
  rw [Bool.eq_iff_iff]
  simp
  rw [ho]
end PW
set_option Elab.async false
set_option linter.all false
set_option maxRecDepth 100000
set_option maxHeartbeats 2000000
namespace PW
open Panels
/-! ### problems by their numbers -/
def numP : Option Units → Nat
  | none => 0
  | some p => problemNumber p
theorem nP_nil : numP (firstProblem []) = 0 := rfl
theorem nP_cons {c : Bool} {s : String} {n : Nat} (h : problemNumber (units s) = n) {l : List (Bool × String)} : numP (firstProblem ((c, s) :: l)) = if c = true then n else numP (firstProblem l) := by
  cases c
  · rfl
  · show problemNumber (units s) = _
    rw [h]
    rfl
theorem q4 : problemNumber (units "name already used") = 4 := by decide +kernel
theorem q5 : problemNumber (units "spot named twice") = 5 := by decide +kernel
theorem q6 : problemNumber (units "too late") = 6 := by decide +kernel
theorem q7 : problemNumber (units "too many sheets") = 7 := by decide +kernel
theorem q8 : problemNumber (units "too many spots") = 8 := by decide +kernel
theorem q9 : problemNumber (units "unknown spot") = 9 := by decide +kernel
theorem q10 : problemNumber (units "said already") = 10 := by decide +kernel
theorem q11 : problemNumber (units "too many magnets") = 11 := by decide +kernel
theorem q12 : problemNumber (units "sheets would fall") = 12 := by decide +kernel
theorem q13 : problemNumber (units "there is a magnet") = 13 := by decide +kernel
theorem q14 : problemNumber (units "the drawer is empty") = 14 := by decide +kernel
theorem q15 : problemNumber (units "too many moves") = 15 := by decide +kernel
theorem q16 : problemNumber (units "there is no magnet") = 16 := by decide +kernel
theorem q17 : problemNumber (units "unknown sheet") = 17 := by decide +kernel
theorem q18 : problemNumber (units "it is away") = 18 := by decide +kernel
theorem q19 : problemNumber (units "it is held") = 19 := by decide +kernel
theorem numP_pos {o : Option Units} (h : numP o = 0) : o = none := by
  cases o with
  | none => rfl
  | some p => simp [numP, problemNumber] at h
/-! ### a script behind one item more -/
theorem sheetItems_app {b : Panels.Script} {i : Item} : sheetItems (b ++ [i]) = sheetItems b ++ sheetItems [i] := by
  unfold sheetItems
  rw [List.filterMap_append]
theorem sheetNames_app {b : Panels.Script} {i : Item} : sheetNames (b ++ [i]) = sheetNames b ++ sheetNames [i] := by
  unfold sheetNames
  rw [sheetItems_app, List.map_append]
theorem spotNames_app {b : Panels.Script} {i : Item} : spotNames (b ++ [i]) = ((sheetItems [i]).flatMap fun e => e.2).foldl addSpot (spotNames b) := by
  unfold spotNames
  rw [sheetItems_app, List.flatMap_append, List.foldl_append]
theorem magnets_app {b : Panels.Script} {i : Item} : magnetsSaid (b ++ [i]) = magnetsSaid b ++ magnetsSaid [i] := by
  unfold magnetsSaid
  rw [List.filterMap_append]
theorem drawers_app {b : Panels.Script} {i : Item} : drawersSaid (b ++ [i]) = drawersSaid b ++ drawersSaid [i] := by
  unfold drawersSaid
  rw [List.filterMap_append]
def actOf (b : Panels.Script) (i : Item) : Option Act := match i with
  | .put a => some (.made (.put (spotIn b a)))
  | .off a => some (.made (.off (spotIn b a)))
  | .shift a c => some (.made (.shift (spotIn b a) (spotIn b c)))
  | .take n => some (.taken (sheetIn b n))
  | _ => none
theorem acts_def {b : Panels.Script} : actsSaid b = b.filterMap (actOf b) := rfl
theorem actOf_none {b : Panels.Script} {i : Item} : actOf b i = none ↔ isCommand i = false := by
  cases i <;> simp [actOf, isCommand]
theorem noActs_iff {b : Panels.Script} : actsSaid b = [] ↔ ∀ i ∈ b, isCommand i = false := by
  rw [acts_def, List.filterMap_eq_nil_iff]
  constructor
  · intro h i hi
    exact actOf_none.mp (h i hi)
  · intro h i hi
    exact actOf_none.mpr (h i hi)
theorem acts_app_sheet {b : Panels.Script} {i : Item} (h : actsSaid b = []) (hi : isCommand i = false) : actsSaid (b ++ [i]) = [] := by
  rw [noActs_iff] at h ⊢
  intro j hj
  rcases List.mem_append.mp hj with hj | hj
  · exact h j hj
  · rw [List.mem_singleton] at hj
    rw [hj]
    exact hi
theorem acts_app {b : Panels.Script} {i : Item} (h : sheetItems [i] = []) : actsSaid (b ++ [i]) = actsSaid b ++ (actOf b i).toList := by
  have e1 : spotIn (b ++ [i]) = spotIn b := by
    funext a
    unfold spotIn
    rw [spotNames_app, h]
    rfl
  have e2 : sheetIn (b ++ [i]) = sheetIn b := by
    funext a
    unfold sheetIn sheetNames
    rw [sheetItems_app, h, List.append_nil]
  have e3 : actOf (b ++ [i]) = actOf b := by
    funext j
    unfold actOf
    rw [e1, e2]
  rw [acts_def, e3, List.filterMap_append, ← acts_def]
  cases hh : actOf b i with
  | none => simp [hh]
  | some a => simp [hh]
theorem start_app {b : Panels.Script} {i : Item} (h : sheetItems [i] = []) (h2 : magnetsSaid [i] = []) : startOf (b ++ [i]) = startOf b := by
  unfold startOf
  rw [spotNames_app, h, magnets_app, h2, sheetNames_app]
  unfold sheetNames
  rw [h]
  simp
theorem scene_app {b : Panels.Script} {i : Item} (h : sheetItems [i] = []) (h2 : magnetsSaid [i] = []) : sceneIn (b ++ [i]) = (actOf b i).toList.foldl afterAct (sceneIn b) := by
  unfold sceneIn
  rw [acts_app h, start_app h h2, List.foldl_append]
theorem scene_start {b : Panels.Script} (h : actsSaid b = []) : sceneIn b = startOf b := by
  unfold sceneIn
  rw [h]
  rfl
theorem sheets_app {b : Panels.Script} {i : Item} (h : sheetItems [i] = []) : sheetsIn (b ++ [i]) = sheetsIn b := by
  unfold sheetsIn spotIn
  rw [sheetItems_app, spotNames_app, h, List.append_nil]
  rfl
/-! ### what the program keeps of a script -/
def wallM (b : Panels.Script) : WallM := ⟨sheetNames b, (sheetsIn b).map coverM, spotNames b, marksB (sceneIn b).1, totalIn b - magnetCount (sceneIn b).1, marksB (sceneIn b).2⟩
def toM (b : Panels.Script) : ScriptM := ⟨wallM b, !(drawersSaid b).isEmpty, (actsSaid b).length, b.map itemText⟩
structure Inv (b : Panels.Script) : Prop where
  five : (sheetNames b).length ≤ 5
  six : (spotNames b).length ≤ 6
  spots : (spotNames b).Nodup
  names : (sheetNames b).Nodup
  sheets : ∀ e ∈ sheetItems b, e.2.Nodup ∧ ∀ u ∈ e.2, u ∈ spotNames b
  mags : ∀ a ∈ magnetsSaid b, a ∈ spotNames b
  on : (sceneIn b).1.length = (spotNames b).length
  up : (sceneIn b).2.length = (sheetNames b).length
  tot : magnetCount (sceneIn b).1 ≤ totalIn b
  calm : actsSaid b = [] → magnetCount (sceneIn b).1 = (magnetsSaid b).length
  mag6 : (magnetsSaid b).length ≤ 6
  drw : (drawersSaid b).length ≤ 1 ∧ (drawersSaid b).sum ≤ 9
  acts : (actsSaid b).length ≤ 40
  ok : ∀ i ∈ b, ItemOk i
  size : b.length ≤ (sheetNames b).length + (magnetsSaid b).length + (drawersSaid b).length + (actsSaid b).length
theorem inv_nil : Inv [] := by
  constructor <;> simp [sheetNames, sheetItems, spotNames, magnetsSaid, drawersSaid, sceneIn, startOf, actsSaid, totalIn, magnetCount]
theorem inv_wf {b : Panels.Script} (h : Inv b) : WfW (wallM b) := ⟨h.five, by simp [wallM, sheetsIn, sheetNames], h.six⟩
theorem inv_sheet {b : Panels.Script} (h : Inv b) : ∀ s ∈ sheetsIn b, SheetOk (spotNames b).length s := by
  intro s hs
  obtain ⟨e, he, rfl⟩ := List.mem_map.mp hs
  have := h.sheets e he
  constructor
  · have nd : (e.2.map (spotIn b)).Nodup := by
      refine List.Pairwise.map (spotIn b) (fun x y hxy => ?_) (List.Pairwise.and_mem.mp this.1) 
      obtain ⟨hx, hy, hne⟩ := hxy
      intro z
      unfold spotIn at z
      have h1 := List.getElem_idxOf (List.idxOf_lt_length_iff.mpr (this.2 x hx))
      have h2 := List.getElem_idxOf (List.idxOf_lt_length_iff.mpr (this.2 y hy))
      apply hne
      rw [← h1, ← h2]
      simp only [z]
    exact nd
  · intro i hi
    obtain ⟨u, hu, rfl⟩ := List.mem_map.mp hi
    exact List.idxOf_lt_length_iff.mpr (this.2 u hu)
theorem inv_loose {b : Panels.Script} (h : Inv b) (on : List Bool) : looseM (wallM b).covers (wallM b).up (marksB on) = looseOf (sheetsIn b) (sceneIn b).2 on := loose_eq h.six (inv_sheet h)
theorem safe_iff {b : Panels.Script} (h : Inv b) (on : List Bool) : fallenM (wallM b) (marksB on) ↔ isSafe (sheetsIn b) (sceneIn b).2 on = false := by
  unfold fallenM isSafe
  rw [inv_loose h]
  simp
theorem ite_same {c d : Prop} [Decidable c] [Decidable d] {x y z : Nat} (h : c ↔ d) (hy : ¬ c → y = z) : (if c then x else y) = if d then x else z := by
  by_cases hc : c
  · rw [if_pos hc, if_pos (h.mp hc)]
  · rw [if_neg hc, if_neg fun hd => hc (h.mpr hd), hy hc]
theorem acted_iff {b : Panels.Script} : 0 < (actsSaid b).length ↔ hasActed b = true := by
  unfold hasActed
  cases actsSaid b <;> simp
theorem bit_spot {b : Panels.Script} {a : Units} : (marksB (sceneIn b).1).testBit ((spotNames b).idxOf a) = hasMagnetIn b a := by
  rw [marks_bit]
  rfl
theorem many_eq {b : Panels.Script} : manyActs (toM b) = numP (firstProblem [(isDone b, "too many moves")]) := by
  rw [nP_cons q15, nP_nil]
  exact ite_same (by unfold isDone mostActs; simp [toM]) fun _ => rfl
theorem off_marks {b : Panels.Script} {a : Units} (h : hasMagnetIn b a = true) : marksB (sceneIn b).1 - 2 ^ (spotNames b).idxOf a = marksB (without (sceneIn b).1 (spotIn b a)) := (marks_off h).symm
theorem start_bit {b : Panels.Script} {a : Units} (h : a ∈ spotNames b) (h0 : actsSaid b = []) : hasMagnetIn b a = (magnetsSaid b).contains a := by
  unfold hasMagnetIn hasMagnet spotIn
  rw [scene_start h0]
  unfold startOf
  have hlt := List.idxOf_lt_length_iff.mpr h
  simp [hlt]
theorem prob_eq {b : Panels.Script} (h : Inv b) (i : Item) : itemProb (toM b) i = numP (itemProblem b i) := by
  cases i with
  | sheet n a l =>
    show sheetProb _ _ _ = numP (firstProblem _)
    rw [nP_cons q4, nP_cons q5, nP_cons q6, nP_cons q7, nP_cons q8, nP_nil]
    unfold sheetProb
    refine ite_same (by simp [toM, wallM, isSheet]) fun _ => ite_same (by simp) fun _ => ite_same acted_iff fun _ => ite_same decide_eq_true_iff.symm fun _ => ite_same ?_ fun _ => rfl
    rw [spotNames_app]
    simp [toM, wallM, mostSpots, sheetItems]
  | magnet a =>
    show magnetProb _ _ = numP (firstProblem _)
    rw [nP_cons q9, nP_cons q6, nP_cons q10, nP_nil]
    unfold magnetProb
    refine ite_same (by simp [toM, wallM, isSpot]) fun h1 => ite_same acted_iff fun h2 => ite_same ?_ fun _ => rfl
    show (marksB (sceneIn b).1).testBit ((spotNames b).idxOf a) = true ↔ _
    have h0 : actsSaid b = [] := List.eq_nil_of_length_eq_zero (by have : ¬ 0 < (actsSaid b).length := h2; omega)
    rw [bit_spot, start_bit (by simpa [toM, wallM] using h1) h0]
  | drawer d =>
    show drawerProb _ _ = numP (firstProblem _)
    rw [nP_cons q6, nP_cons q10, nP_cons q11, nP_nil]
    unfold drawerProb
    exact ite_same acted_iff fun h2 => ite_same Iff.rfl fun _ => ite_same decide_eq_true_iff.symm fun _ => rfl
  | put a =>
    show putProb _ _ = numP (firstProblem _)
    rw [nP_cons q9, nP_cons q12, nP_cons q13, nP_cons q14, ← many_eq]
    unfold putProb
    refine ite_same (by simp [toM, wallM, isSpot]) fun h1 => ite_same ?_ fun h2 => ite_same ?_ fun _ => ite_same ?_ fun _ => rfl
    · refine (safe_iff h (sceneIn b).1).trans ?_
      unfold isSafeIn
      simp
    · show (marksB (sceneIn b).1).testBit ((spotNames b).idxOf a) = true ↔ _
      rw [bit_spot]
    · show totalIn b - magnetCount (sceneIn b).1 = 0 ↔ _
      have := h.tot
      simp
      omega
  | off a =>
    show offProb _ _ = numP (firstProblem _)
    rw [nP_cons q9, nP_cons q16, nP_cons q12, ← many_eq]
    unfold offProb
    refine ite_same (by simp [toM, wallM, isSpot]) fun h1 => ite_same ?_ fun h2 => ite_same ?_ fun _ => rfl
    · show (marksB (sceneIn b).1).testBit ((spotNames b).idxOf a) = false ↔ _
      rw [bit_spot]
      simp
    · have h3 : hasMagnetIn b a = true := by
        rw [← bit_spot]
        have h2' : ¬ (marksB (sceneIn b).1).testBit ((spotNames b).idxOf a) = false := h2
        simpa using h2'
      show fallenM (wallM b) (marksB (sceneIn b).1 - 2 ^ (spotNames b).idxOf a) ↔ _
      rw [off_marks h3]
      refine (safe_iff h _).trans ?_
      unfold wouldFall
      simp
  | shift a c =>
    show moveProb _ _ _ = numP (firstProblem _)
    rw [nP_cons q9, nP_cons q16, nP_cons q13, nP_cons q12, ← many_eq]
    unfold moveProb
    refine ite_same (by simp [toM, wallM, isSpot]) fun h1 => ite_same ?_ fun h2 => ite_same ?_ fun _ => ite_same ?_ fun _ => rfl
    · show (marksB (sceneIn b).1).testBit ((spotNames b).idxOf a) = false ↔ _
      rw [bit_spot]
      simp
    · show (marksB (sceneIn b).1).testBit ((spotNames b).idxOf c) = true ↔ _
      rw [bit_spot]
    · have h3 : hasMagnetIn b a = true := by
        rw [← bit_spot]
        have h2' : ¬ (marksB (sceneIn b).1).testBit ((spotNames b).idxOf a) = false := h2
        simpa using h2'
      show fallenM (wallM b) (marksB (sceneIn b).1 - 2 ^ (spotNames b).idxOf a) ↔ _
      rw [off_marks h3]
      refine (safe_iff h _).trans ?_
      unfold wouldFall
      simp
  | take n =>
    show takeProb _ _ = numP (firstProblem _)
    rw [nP_cons q17, nP_cons q18, nP_cons q19, nP_cons q12, ← many_eq]
    unfold takeProb
    refine ite_same (by simp [toM, wallM, isSheet]) fun h1 => ite_same ?_ fun h2 => ite_same ?_ fun _ => ite_same ?_ fun _ => rfl
    · show (marksB (sceneIn b).2).testBit ((sheetNames b).idxOf n) = false ↔ _
      rw [marks_bit]
      unfold isUp sheetIn
      simp
    · show ¬ ((sheetsIn b).map coverM).getD ((sheetNames b).idxOf n) 0 &&& marksB (sceneIn b).1 = 0 ↔ _
      have hm : n ∈ sheetNames b := by simpa [toM, wallM] using h1
      have hlt : (sheetNames b).idxOf n < (sheetsIn b).length := by
        have := List.idxOf_lt_length_iff.mpr hm
        simpa [sheetsIn, sheetNames] using this
      have eg : ((sheetsIn b).map coverM).getD ((sheetNames b).idxOf n) 0 = coverM (spotsOf (sheetsIn b) (sheetIn b n)) := by
        unfold spotsOf sheetIn
        simp [hlt]
      rw [eg, held_iff h.six (inv_sheet h _ (by unfold spotsOf sheetIn; simp [hlt]))]
      simp
    · refine (safe_iff h (sceneIn b).1).trans ?_
      unfold isSafeIn
      simp
/-! ### a line more -/
theorem item_spaced (i : Item) : itemText i = spacedM (rowOf i) := by
  unfold itemText rowOf
  generalize itemTokens i = ts
  cases ts with
  | nil => rfl
  | cons t ts =>
    unfold spacedM
    simp only [List.map_cons, List.headD_cons, List.drop_succ_cons, List.drop_zero]
    induction ts generalizing t with
    | nil => simp [spacedAll, lineText]
    | cons u ts ih =>
      have e : lineText (spacedAll (t :: u :: ts)) = tokenText t ++ 32 :: lineText (spacedAll (u :: ts)) := by
        simp [spacedAll, lineText]
      rw [e, ih u]
      simp
theorem mag_set {l : List Bool} : ∀ {k : Nat}, k < l.length → l.getD k false = false → magnetCount (l.set k true) = magnetCount l + 1 := by
  induction l with
  | nil => intro k h; simp at h
  | cons a l ih =>
    intro k h h2
    cases k with
    | zero =>
      have e : a = false := by simpa using h2
      subst e
      simp [magnetCount]
    | succ k =>
      have := ih (k := k) (by simpa using h) (by simpa using h2)
      unfold magnetCount at this ⊢
      rw [List.set_cons_succ, List.filter_cons, List.filter_cons]
      cases a
      · simpa using this
      · simpa using this
theorem mag_off {l : List Bool} : ∀ {k : Nat}, l.getD k false = true → magnetCount (l.set k false) + 1 = magnetCount l := by
  induction l with
  | nil => intro k h; simp at h
  | cons a l ih =>
    intro k h2
    cases k with
    | zero =>
      have e : a = true := by simpa using h2
      subst e
      simp [magnetCount]
    | succ k =>
      have := ih (k := k) (by simpa using h2)
      unfold magnetCount at this ⊢
      rw [List.set_cons_succ, List.filter_cons, List.filter_cons]
      cases a
      · simpa using this
      · simpa using this
theorem mag_le (l : List Bool) : magnetCount l ≤ l.length := List.length_filter_le _ _
theorem total_app {b : Panels.Script} {i : Item} : totalIn (b ++ [i]) = totalIn b + totalIn [i] := by
  unfold totalIn
  rw [magnets_app, drawers_app, List.length_append, List.sum_append]
  omega
theorem not_problem {c : Bool} {s : String} {l : List (Bool × String)} (h : firstProblem ((c, s) :: l) = none) : c = false ∧ firstProblem l = none := by
  cases c with
  | true => cases h
  | false => exact ⟨rfl, h⟩
structure Step (b : Panels.Script) (i : Item) : Prop where
  aft : aftOk (wallM b) i
  eq : afterS (toM b) i = toM (b ++ [i])
  inv : Inv (b ++ [i])
theorem step_eq {b : Panels.Script} {i : Item} (hw : afterM (wallM b) i = wallM (b ++ [i])) (hd : (!(drawersSaid b).isEmpty || isDrawer i) = !(drawersSaid (b ++ [i])).isEmpty) (ha : (actsSaid b).length + (if isCommand i then 1 else 0) = (actsSaid (b ++ [i])).length) : afterS (toM b) i = toM (b ++ [i]) := by
  unfold afterS toM
  simp only [ScriptM.mk.injEq]
  refine ⟨hw, hd, ha, ?_⟩
  rw [List.map_append, List.map_cons, List.map_nil, item_spaced]
theorem sheetItems_nil {i : Item} (h : ∀ n a l, i ≠ .sheet n a l) : sheetItems [i] = [] := by
  cases i with
  | sheet n a l => exact absurd rfl (h n a l)
  | _ => rfl
theorem names_app' {b : Panels.Script} {i : Item} (h : sheetItems [i] = []) : sheetNames (b ++ [i]) = sheetNames b := by
  unfold sheetNames
  rw [sheetItems_app, h, List.append_nil]
theorem spots_app' {b : Panels.Script} {i : Item} (h : sheetItems [i] = []) : spotNames (b ++ [i]) = spotNames b := by
  rw [spotNames_app, h]
  rfl
/-- an act -/
theorem step_act {b : Panels.Script} {i : Item} {a : Act} (h : Inv b) (ok : ItemOk i) (ha : actOf b i = some a) (h0 : sheetItems [i] = []) (h1 : magnetsSaid [i] = []) (h2 : drawersSaid [i] = [])
    (hdn : isDone b = false) (hl : (afterAct (sceneIn b) a).1.length = (sceneIn b).1.length ∧ (afterAct (sceneIn b) a).2.length = (sceneIn b).2.length) (ht : magnetCount (afterAct (sceneIn b) a).1 ≤ totalIn b)
    (hw : afterM (wallM b) i = ⟨sheetNames b, (sheetsIn b).map coverM, spotNames b, marksB (afterAct (sceneIn b) a).1, totalIn b - magnetCount (afterAct (sceneIn b) a).1, marksB (afterAct (sceneIn b) a).2⟩) (hdr : isDrawer i = false) (hc : isCommand i = true) (hf : aftOk (wallM b) i) : Step b i := by
  have es : sceneIn (b ++ [i]) = afterAct (sceneIn b) a := by
    rw [scene_app h0 h1, ha]
    rfl
  have et : totalIn (b ++ [i]) = totalIn b := by
    rw [total_app]
    unfold totalIn
    rw [h1, h2]
    rfl
  have ea : actsSaid (b ++ [i]) = actsSaid b ++ [a] := by
    rw [acts_app h0, ha]
    rfl
  refine ⟨hf, step_eq ?_ ?_ ?_, ?_⟩
  · rw [hw]
    unfold wallM
    rw [es, et, names_app' h0, sheets_app h0, spots_app' h0]
  · rw [drawers_app, h2, hdr]
    simp
  · rw [ea, hc]
    simp
  · have hd : (actsSaid b).length < 40 := by
      have : ¬ 40 ≤ (actsSaid b).length := of_decide_eq_false hdn
      omega
    constructor
    · rw [names_app' h0]; exact h.five
    · rw [spots_app' h0]; exact h.six
    · rw [spots_app' h0]; exact h.spots
    · rw [names_app' h0]; exact h.names
    · rw [sheetItems_app, h0, List.append_nil, spots_app' h0]; exact h.sheets
    · rw [magnets_app, h1, List.append_nil, spots_app' h0]; exact h.mags
    · rw [es, spots_app' h0, hl.1]; exact h.on
    · rw [es, names_app' h0, hl.2]; exact h.up
    · rw [es, et]; exact ht
    · rw [ea]; intro z; simp at z
    · rw [magnets_app, h1, List.append_nil]; exact h.mag6
    · rw [drawers_app, h2, List.append_nil]; exact h.drw
    · rw [ea]; simp; omega
    · intro j hj
      rcases List.mem_append.mp hj with hj | hj
      · exact h.ok j hj
      · rw [List.mem_singleton] at hj
        rw [hj]; exact ok
    · rw [names_app' h0, magnets_app, h1, drawers_app, h2, ea]
      have := h.size
      simp
      omega
theorem addSpot_ext : ∀ {named sp : List Units}, ∃ ex, named.foldl addSpot sp = sp ++ ex ∧ (∀ u ∈ ex, u ∉ sp) ∧ (sp.Nodup → (sp ++ ex).Nodup)
  | [], sp => ⟨[], by simp, by simp, by simp⟩
  | u :: named, sp => by
    rw [List.foldl_cons, addSpot_eq]
    by_cases h : u ∈ sp
    · rw [if_pos h]
      exact addSpot_ext
    · rw [if_neg h]
      obtain ⟨ex, e1, e2, e3⟩ := addSpot_ext (named := named) (sp := sp ++ [u])
      refine ⟨u :: ex, by rw [e1]; simp, ?_, ?_⟩
      · intro v hv
        rcases List.mem_cons.mp hv with rfl | hv
        · exact h
        · exact fun z => e2 v hv (List.mem_append.mpr (.inl z))
      · intro nd
        have := e3 (by
          rw [List.nodup_append]
          exact ⟨nd, by simp, fun x hx y hy => by
            rw [List.mem_singleton] at hy
            subst hy
            exact fun e => h (e ▸ hx)⟩)
        simpa using this
theorem calm_acts {b : Panels.Script} (h : hasActed b = false) : actsSaid b = [] := by
  unfold hasActed at h
  cases hh : actsSaid b with
  | nil => rfl
  | cons x l => rw [hh] at h; simp at h
theorem step_magnet {b : Panels.Script} {a : Units} (h : Inv b) (ok : ItemOk (.magnet a)) (hp : itemProblem b (.magnet a) = none) : Step b (.magnet a) := by
  obtain ⟨p1, hp⟩ := not_problem hp
  obtain ⟨p2, hp⟩ := not_problem hp
  obtain ⟨p3, hp⟩ := not_problem hp
  have hm : a ∈ spotNames b := by simpa [isSpot] using p1
  have h0 := calm_acts p2
  have ea : actsSaid (b ++ [.magnet a]) = [] := acts_app_sheet h0 rfl
  have hs0 : sheetItems [Item.magnet a] = [] := rfl
  have hlt : spotIn b a < (sceneIn b).1.length := by rw [h.on]; exact List.idxOf_lt_length_iff.mpr hm
  have hoff : (sceneIn b).1.getD (spotIn b a) false = false := by
    have := start_bit hm h0
    rw [p3] at this
    exact this
  have e1 : (sceneIn (b ++ [.magnet a])).1 = (sceneIn b).1.set (spotIn b a) true := by
    rw [scene_start ea, scene_start h0]
    unfold startOf
    rw [spots_app' hs0, magnets_app]
    show (spotNames b).map (fun a_1 => (magnetsSaid b ++ [a]).contains a_1) = ((spotNames b).map fun a => (magnetsSaid b).contains a).set (spotIn b a) true
    apply List.ext_getElem
    · simp
    · intro k hk1 hk2
      have hk : k < (spotNames b).length := by simpa using hk1
      rw [List.getElem_map, List.getElem_set]
      by_cases e : spotIn b a = k
      · subst e
        rw [if_pos rfl]
        have : (spotNames b)[spotIn b a] = a := List.getElem_idxOf hk
        rw [this]
        simp
      · rw [if_neg e, List.getElem_map]
        have hne : (spotNames b)[k] ≠ a := by
          intro z
          apply e
          have h1 := List.getElem_idxOf (List.idxOf_lt_length_iff.mpr hm)
          exact (List.getElem_inj h.spots).mp (h1.trans z.symm)
        simp [hne]
  have e2 : (sceneIn (b ++ [.magnet a])).2 = (sceneIn b).2 := by
    rw [scene_start ea, scene_start h0]
    unfold startOf
    rw [names_app' hs0]
  have et : totalIn (b ++ [.magnet a]) = totalIn b + 1 := by
    rw [total_app]
    rfl
  have m1 := mag_set hlt hoff
  have m2 := marks_on hlt hoff
  have hcalm := h.calm h0
  have ht := h.tot
  have hle := mag_le ((sceneIn b).1.set (spotIn b a) true)
  rw [List.length_set, h.on] at hle
  have h6 := h.six
  refine ⟨hm, step_eq ?_ ?_ ?_, ?_⟩
  · show WallM.mk _ _ _ (marksB (sceneIn b).1 + 2 ^ spotIn b a) (totalIn b - magnetCount (sceneIn b).1) _ = wallM _
    unfold wallM
    rw [e1, e2, et, names_app' hs0, sheets_app hs0, spots_app' hs0, m1, m2]
    congr 1
    omega
  · rw [drawers_app]
    show (_ || false) = !(drawersSaid b ++ []).isEmpty
    simp
  · rw [ea, h0]
    rfl
  · constructor
    · rw [names_app' hs0]; exact h.five
    · rw [spots_app' hs0]; exact h.six
    · rw [spots_app' hs0]; exact h.spots
    · rw [names_app' hs0]; exact h.names
    · rw [sheetItems_app, hs0, List.append_nil, spots_app' hs0]; exact h.sheets
    · rw [magnets_app, spots_app' hs0]
      intro u hu
      rcases List.mem_append.mp hu with hu | hu
      · exact h.mags u hu
      · have : u = a := by simpa [magnetsSaid] using hu
        rw [this]; exact hm
    · rw [e1, spots_app' hs0, List.length_set]; exact h.on
    · rw [e2, names_app' hs0]; exact h.up
    · rw [e1, et, m1]; omega
    · intro _
      rw [e1, m1, hcalm, magnets_app, List.length_append]
      rfl
    · rw [magnets_app, List.length_append]
      show _ + 1 ≤ 6
      omega
    · rw [drawers_app]
      show (drawersSaid b ++ []).length ≤ 1 ∧ (drawersSaid b ++ []).sum ≤ 9
      rw [List.append_nil]; exact h.drw
    · rw [ea]; simp
    · intro j hj
      rcases List.mem_append.mp hj with hj | hj
      · exact h.ok j hj
      · rw [List.mem_singleton] at hj
        rw [hj]; exact ok
    · have := h.size
      rw [names_app' hs0, magnets_app, drawers_app, ea]
      rw [h0] at this
      rw [List.length_append, List.length_append, List.length_append]
      show b.length + 1 ≤ _ + (_ + 1) + (_ + 0) + 0
      have z : ([] : List Act).length = 0 := rfl
      omega
theorem step_drawer {b : Panels.Script} {d : Nat} (h : Inv b) (ok : ItemOk (.drawer d)) (hp : itemProblem b (.drawer d) = none) : Step b (.drawer d) := by
  obtain ⟨p1, hp⟩ := not_problem hp
  obtain ⟨p2, hp⟩ := not_problem hp
  obtain ⟨p3, hp⟩ := not_problem hp
  have h0 := calm_acts p1
  have ea : actsSaid (b ++ [.drawer d]) = [] := acts_app_sheet h0 rfl
  have hs0 : sheetItems [Item.drawer d] = [] := rfl
  have hd : d ≤ 9 := by
    have : ¬ 9 < d := of_decide_eq_false p3
    omega
  have hd0 : drawersSaid b = [] := by simpa using p2
  have es : sceneIn (b ++ [.drawer d]) = sceneIn b := by
    rw [scene_app hs0 rfl]
    rfl
  have et : totalIn (b ++ [.drawer d]) = totalIn b + d := by
    rw [total_app]
    unfold totalIn
    simp [magnetsSaid, drawersSaid]
  have hcalm := h.calm h0
  have ht : totalIn b = (magnetsSaid b).length := by
    unfold totalIn
    rw [hd0]
    simp
  refine ⟨trivial, step_eq ?_ ?_ ?_, ?_⟩
  · show WallM.mk _ _ _ _ d _ = wallM _
    unfold wallM
    rw [es, et, names_app' hs0, sheets_app hs0, spots_app' hs0, hcalm, ht]
    congr 1
    omega
  · rw [drawers_app, hd0]
    rfl
  · rw [ea, h0]
    rfl
  · constructor
    · rw [names_app' hs0]; exact h.five
    · rw [spots_app' hs0]; exact h.six
    · rw [spots_app' hs0]; exact h.spots
    · rw [names_app' hs0]; exact h.names
    · rw [sheetItems_app, hs0, List.append_nil, spots_app' hs0]; exact h.sheets
    · rw [magnets_app, spots_app' hs0]
      show ∀ a ∈ magnetsSaid b ++ [], _
      rw [List.append_nil]; exact h.mags
    · rw [es, spots_app' hs0]; exact h.on
    · rw [es, names_app' hs0]; exact h.up
    · rw [es, et]; have := h.tot; omega
    · intro _
      rw [es, hcalm, magnets_app, List.length_append]
      rfl
    · rw [magnets_app, List.length_append]
      exact h.mag6
    · rw [drawers_app, hd0]
      show [d].length ≤ 1 ∧ [d].sum ≤ 9
      simp; omega
    · rw [ea]; simp
    · intro j hj
      rcases List.mem_append.mp hj with hj | hj
      · exact h.ok j hj
      · rw [List.mem_singleton] at hj
        rw [hj]; exact ok
    · have := h.size
      rw [names_app' hs0, magnets_app, drawers_app, ea]
      rw [h0, hd0] at this
      rw [List.length_append, List.length_append, List.length_append, hd0]
      show b.length + 1 ≤ _ + (_ + 0) + (0 + 1) + 0
      have z : ([] : List Act).length = 0 := rfl
      have z2 : ([] : List Nat).length = 0 := rfl
      omega
theorem step_sheet {b : Panels.Script} {n a : Units} {l : List Units} (h : Inv b) (ok : ItemOk (.sheet n a l)) (hp : itemProblem b (.sheet n a l) = none) : Step b (.sheet n a l) := by
  obtain ⟨p1, hp⟩ := not_problem hp
  obtain ⟨p2, hp⟩ := not_problem hp
  obtain ⟨p3, hp⟩ := not_problem hp
  obtain ⟨p4, hp⟩ := not_problem hp
  obtain ⟨p5, hp⟩ := not_problem hp
  have h0 := calm_acts p3
  have ea : actsSaid (b ++ [.sheet n a l]) = [] := acts_app_sheet h0 rfl
  have hnm : n ∉ sheetNames b := by simpa [isSheet] using p1
  have hnd : (a :: l).Nodup := distinct_iff.mp (by simpa using p2)
  have h5 : (sheetNames b).length < 5 := by
    have : ¬ 5 ≤ (sheetNames b).length := of_decide_eq_false p4
    omega
  have h6 : (spotNames (b ++ [.sheet n a l])).length ≤ 6 := by
    have : ¬ 6 < (spotNames (b ++ [.sheet n a l])).length := of_decide_eq_false p5
    omega
  have eN : sheetNames (b ++ [.sheet n a l]) = sheetNames b ++ [n] := by
    rw [sheetNames_app]
    rfl
  have eS0 : spotNames (b ++ [.sheet n a l]) = (a :: l).foldl addSpot (spotNames b) := by
    rw [spotNames_app]
    simp [sheetItems]
  obtain ⟨ex, x1, x2, x3⟩ := addSpot_ext (named := a :: l) (sp := spotNames b)
  rw [x1] at eS0
  have eM : magnetsSaid (b ++ [.sheet n a l]) = magnetsSaid b := by
    rw [magnets_app]
    exact List.append_nil _
  have eD : drawersSaid (b ++ [.sheet n a l]) = drawersSaid b := by
    rw [drawers_app]
    exact List.append_nil _
  have eI : sheetItems (b ++ [.sheet n a l]) = sheetItems b ++ [(n, a :: l)] := by
    rw [sheetItems_app]
    rfl
  have e1 : (sceneIn (b ++ [.sheet n a l])).1 = (sceneIn b).1 ++ List.replicate ex.length false := by
    rw [scene_start ea, scene_start h0]
    unfold startOf
    rw [eS0, eM]
    simp only [List.map_append]
    congr 1
    rw [List.eq_replicate_iff]
    refine ⟨by simp, fun x hx => ?_⟩
    obtain ⟨u, hu, rfl⟩ := List.mem_map.mp hx
    have : u ∉ magnetsSaid b := fun z => x2 u hu (h.mags u z)
    simpa using this
  have e2 : (sceneIn (b ++ [.sheet n a l])).2 = (sceneIn b).2 ++ [true] := by
    rw [scene_start ea, scene_start h0]
    unfold startOf
    rw [eN]
    simp
  have et : totalIn (b ++ [.sheet n a l]) = totalIn b := by
    unfold totalIn
    rw [eM, eD]
  have ec : magnetCount ((sceneIn b).1 ++ List.replicate ex.length false) = magnetCount (sceneIn b).1 := by
    unfold magnetCount
    rw [List.filter_append]
    simp
  have hin : ∀ u ∈ a :: l, u ∈ spotNames b ++ ex := fun u hu => by
    rw [← x1]
    exact mem_foldl_addSpot _ _ (.inl hu)
  have eC : (sheetsIn (b ++ [.sheet n a l])).map coverM = (sheetsIn b).map coverM ++ [coverOf ((a :: l).foldl addSpot (spotNames b)) (a :: l)] := by
    unfold sheetsIn spotIn
    rw [eI, eS0, x1]
    simp only [List.map_append, List.map_cons, List.map_nil]
    congr 1
    · rw [List.map_map, List.map_map]
      refine List.map_congr_left fun e he => ?_
      show coverM _ = coverM _
      congr 1
      refine List.map_congr_left fun u hu => ?_
      show (spotNames b ++ ex).idxOf u = (spotNames b).idxOf u
      rw [List.idxOf_append, if_pos ((h.sheets e he).2 u hu)]
    · unfold coverM coverOf
      simp [List.foldl_map]
  refine ⟨?_, step_eq ?_ ?_ ?_, ?_⟩
  · show ((a :: l).foldl addSpot (spotNames b)).length ≤ 6
    rw [x1, ← eS0]
    exact h6
  · show withSheet (wallM b) n (a :: l) = wallM _
    unfold withSheet wallM
    simp only
    rw [eC, eN, e1, e2, et, ec, marks_append, marks_append, marks_falses, eS0, x1, h.up]
    simp [marksB]
  · rw [eD]
    show (_ || false) = _
    simp
  · rw [ea, h0]
    rfl
  · constructor
    · rw [eN]; simp; omega
    · exact h6
    · rw [eS0]; exact x3 h.spots
    · rw [eN, List.nodup_append]
      exact ⟨h.names, by simp, fun x hx y hy => by
        rw [List.mem_singleton] at hy
        subst hy
        exact fun e => hnm (e ▸ hx)⟩
    · rw [eI, eS0]
      intro e he
      rcases List.mem_append.mp he with he | he
      · exact ⟨(h.sheets e he).1, fun u hu => List.mem_append.mpr (.inl ((h.sheets e he).2 u hu))⟩
      · rw [List.mem_singleton] at he
        subst he
        exact ⟨hnd, hin⟩
    · rw [eM, eS0]
      exact fun u hu => List.mem_append.mpr (.inl (h.mags u hu))
    · rw [e1, eS0, List.length_append, List.length_append, List.length_replicate, h.on]
    · rw [e2, eN, List.length_append, List.length_append, h.up]
      rfl
    · rw [e1, et, ec]; exact h.tot
    · intro _
      rw [e1, ec, eM]
      exact h.calm h0
    · rw [eM]; exact h.mag6
    · rw [eD]; exact h.drw
    · rw [ea]; simp
    · intro j hj
      rcases List.mem_append.mp hj with hj | hj
      · exact h.ok j hj
      · rw [List.mem_singleton] at hj
        rw [hj]; exact ok
    · have := h.size
      rw [eN, eM, eD, ea]
      rw [h0] at this
      rw [List.length_append, List.length_append]
      have z : ([] : List Act).length = 0 := rfl
      have z1 : [Item.sheet n a l].length = 1 := rfl
      have z2 : [n].length = 1 := rfl
      omega
theorem step_ok {b : Panels.Script} {i : Item} (h : Inv b) (ok : ItemOk i) (hp : itemProblem b i = none) : Step b i := by
  cases i with
  | put a =>
    obtain ⟨p1, hp⟩ := not_problem hp
    obtain ⟨p2, hp⟩ := not_problem hp
    obtain ⟨p3, hp⟩ := not_problem hp
    obtain ⟨p4, hp⟩ := not_problem hp
    obtain ⟨p5, hp⟩ := not_problem hp
    have hm : a ∈ spotNames b := by simpa [isSpot] using p1
    have hlt : spotIn b a < (sceneIn b).1.length := by rw [h.on]; exact List.idxOf_lt_length_iff.mpr hm
    have hcn : magnetCount (sceneIn b).1 < totalIn b := by simpa using p4
    have e1 := mag_set hlt p3
    have e2 := marks_on hlt p3
    refine step_act h ok (a := .made (.put (spotIn b a))) rfl rfl rfl rfl p5 ⟨by simp [afterAct, afterMove, withMagnet], rfl⟩ ?_ ?_ rfl rfl ?_
    · show magnetCount ((sceneIn b).1.set _ true) ≤ _
      omega
    · show WallM.mk _ _ _ (marksB (sceneIn b).1 + 2 ^ spotIn b a) (totalIn b - magnetCount (sceneIn b).1 - 1) _ = WallM.mk _ _ _ (marksB ((sceneIn b).1.set _ true)) (totalIn b - magnetCount ((sceneIn b).1.set _ true)) _
      rw [e1, e2, Nat.sub_sub]
      rfl
    · exact ⟨hm, by show 1 ≤ totalIn b - magnetCount (sceneIn b).1; omega⟩
  | off a =>
    obtain ⟨p1, hp⟩ := not_problem hp
    obtain ⟨p2, hp⟩ := not_problem hp
    obtain ⟨p3, hp⟩ := not_problem hp
    obtain ⟨p5, hp⟩ := not_problem hp
    have hm : a ∈ spotNames b := by simpa [isSpot] using p1
    have hon : hasMagnetIn b a = true := by simpa using p2
    have e1 := mag_off hon
    have e2 := marks_off hon
    have ht := h.tot
    refine step_act h ok (a := .made (.off (spotIn b a))) rfl rfl rfl rfl p5 ⟨by simp [afterAct, afterMove, without], rfl⟩ ?_ ?_ rfl rfl ?_
    · show magnetCount ((sceneIn b).1.set _ false) ≤ _
      omega
    · show WallM.mk _ _ _ (marksB (sceneIn b).1 - 2 ^ spotIn b a) (totalIn b - magnetCount (sceneIn b).1 + 1) _ = WallM.mk _ _ _ (marksB ((sceneIn b).1.set _ false)) (totalIn b - magnetCount ((sceneIn b).1.set _ false)) _
      rw [e2]
      congr 1
      omega
    · exact ⟨hm, by show (marksB (sceneIn b).1).testBit _ = true; rw [marks_bit]; exact hon⟩
  | shift a c =>
    obtain ⟨p1, hp⟩ := not_problem hp
    obtain ⟨p2, hp⟩ := not_problem hp
    obtain ⟨p4, hp⟩ := not_problem hp
    obtain ⟨p3, hp⟩ := not_problem hp
    obtain ⟨p5, hp⟩ := not_problem hp
    have hmm : a ∈ spotNames b ∧ c ∈ spotNames b := by simpa [isSpot] using p1
    have hlt : spotIn b c < (sceneIn b).1.length := by rw [h.on]; exact List.idxOf_lt_length_iff.mpr hmm.2
    have hlt0 : spotIn b a < (sceneIn b).1.length := by rw [h.on]; exact List.idxOf_lt_length_iff.mpr hmm.1
    have hon : hasMagnetIn b a = true := by simpa using p2
    have hoc : hasMagnetIn b c = false := p4
    have e1 := mag_off hon
    have e2 := marks_off hon
    have hlt2 : spotIn b c < ((sceneIn b).1.set (spotIn b a) false).length := by simpa using hlt
    have hg : ((sceneIn b).1.set (spotIn b a) false).getD (spotIn b c) false = false := by
      rw [getD_set hlt0]
      by_cases e : spotIn b c = spotIn b a
      · rw [if_pos e]
      · rw [if_neg e]; exact hoc
    have e3 := mag_set hlt2 hg
    have e4 := marks_on hlt2 hg
    have ht := h.tot
    refine step_act h ok (a := .made (.shift (spotIn b a) (spotIn b c))) rfl rfl rfl rfl p5 ⟨by simp [afterAct, afterMove, without, withMagnet], rfl⟩ ?_ ?_ rfl rfl ?_
    · show magnetCount (((sceneIn b).1.set (spotIn b a) false).set (spotIn b c) true) ≤ _
      omega
    · show WallM.mk _ _ _ (marksB (sceneIn b).1 - 2 ^ spotIn b a + 2 ^ spotIn b c) (totalIn b - magnetCount (sceneIn b).1) _ = WallM.mk _ _ _ (marksB (((sceneIn b).1.set (spotIn b a) false).set (spotIn b c) true)) (totalIn b - magnetCount (((sceneIn b).1.set (spotIn b a) false).set (spotIn b c) true)) _
      rw [e4, e2, e3, e1]
      rfl
    · exact ⟨hmm.1, hmm.2, by show (marksB (sceneIn b).1).testBit _ = true; rw [marks_bit]; exact hon⟩
  | take n =>
    obtain ⟨p1, hp⟩ := not_problem hp
    obtain ⟨p2, hp⟩ := not_problem hp
    obtain ⟨p3, hp⟩ := not_problem hp
    obtain ⟨p4, hp⟩ := not_problem hp
    obtain ⟨p5, hp⟩ := not_problem hp
    have hm : n ∈ sheetNames b := by simpa [isSheet] using p1
    have hon : (sceneIn b).2.getD (sheetIn b n) false = true := by simpa [isUp] using p2
    have e2 := marks_off hon
    refine step_act h ok (a := .taken (sheetIn b n)) rfl rfl rfl rfl p5 ⟨rfl, by simp [afterAct, takenFrom]⟩ h.tot ?_ rfl rfl ?_
    · show WallM.mk _ _ _ _ _ (marksB (sceneIn b).2 - 2 ^ sheetIn b n) = WallM.mk _ _ _ _ _ (marksB ((sceneIn b).2.set _ false))
      rw [e2]
      rfl
    · exact ⟨hm, by show (marksB (sceneIn b).2).testBit _ = true; rw [marks_bit]; exact hon⟩
  | sheet n a l => exact step_sheet h ok hp
  | magnet a => exact step_magnet h ok hp
  | drawer d => exact step_drawer h ok hp
end PW
set_option Elab.async false
set_option linter.all false
set_option maxRecDepth 100000
set_option maxHeartbeats 2000000
namespace PW
open Panels
theorem kk : ∀ i < 7, ∀ j < 7, (keysU.getD i [] == keysU.getD j []) = decide (i = j) := by decide +kernel
theorem kk_0_0 : (units "sheet" == units "sheet") = true := kk 0 (by decide) 0 (by decide)
theorem kk_0_1 : (units "sheet" == units "magnet") = false := kk 0 (by decide) 1 (by decide)
theorem kk_0_2 : (units "sheet" == units "drawer") = false := kk 0 (by decide) 2 (by decide)
theorem kk_0_3 : (units "sheet" == units "put") = false := kk 0 (by decide) 3 (by decide)
theorem kk_0_4 : (units "sheet" == units "off") = false := kk 0 (by decide) 4 (by decide)
theorem kk_0_5 : (units "sheet" == units "move") = false := kk 0 (by decide) 5 (by decide)
theorem kk_0_6 : (units "sheet" == units "take") = false := kk 0 (by decide) 6 (by decide)
theorem kk_1_0 : (units "magnet" == units "sheet") = false := kk 1 (by decide) 0 (by decide)
theorem kk_1_1 : (units "magnet" == units "magnet") = true := kk 1 (by decide) 1 (by decide)
theorem kk_1_2 : (units "magnet" == units "drawer") = false := kk 1 (by decide) 2 (by decide)
theorem kk_1_3 : (units "magnet" == units "put") = false := kk 1 (by decide) 3 (by decide)
theorem kk_1_4 : (units "magnet" == units "off") = false := kk 1 (by decide) 4 (by decide)
theorem kk_1_5 : (units "magnet" == units "move") = false := kk 1 (by decide) 5 (by decide)
theorem kk_1_6 : (units "magnet" == units "take") = false := kk 1 (by decide) 6 (by decide)
theorem kk_2_0 : (units "drawer" == units "sheet") = false := kk 2 (by decide) 0 (by decide)
theorem kk_2_1 : (units "drawer" == units "magnet") = false := kk 2 (by decide) 1 (by decide)
theorem kk_2_2 : (units "drawer" == units "drawer") = true := kk 2 (by decide) 2 (by decide)
theorem kk_2_3 : (units "drawer" == units "put") = false := kk 2 (by decide) 3 (by decide)
theorem kk_2_4 : (units "drawer" == units "off") = false := kk 2 (by decide) 4 (by decide)
theorem kk_2_5 : (units "drawer" == units "move") = false := kk 2 (by decide) 5 (by decide)
theorem kk_2_6 : (units "drawer" == units "take") = false := kk 2 (by decide) 6 (by decide)
theorem kk_3_0 : (units "put" == units "sheet") = false := kk 3 (by decide) 0 (by decide)
theorem kk_3_1 : (units "put" == units "magnet") = false := kk 3 (by decide) 1 (by decide)
theorem kk_3_2 : (units "put" == units "drawer") = false := kk 3 (by decide) 2 (by decide)
theorem kk_3_3 : (units "put" == units "put") = true := kk 3 (by decide) 3 (by decide)
theorem kk_3_4 : (units "put" == units "off") = false := kk 3 (by decide) 4 (by decide)
theorem kk_3_5 : (units "put" == units "move") = false := kk 3 (by decide) 5 (by decide)
theorem kk_3_6 : (units "put" == units "take") = false := kk 3 (by decide) 6 (by decide)
theorem kk_4_0 : (units "off" == units "sheet") = false := kk 4 (by decide) 0 (by decide)
theorem kk_4_1 : (units "off" == units "magnet") = false := kk 4 (by decide) 1 (by decide)
theorem kk_4_2 : (units "off" == units "drawer") = false := kk 4 (by decide) 2 (by decide)
theorem kk_4_3 : (units "off" == units "put") = false := kk 4 (by decide) 3 (by decide)
theorem kk_4_4 : (units "off" == units "off") = true := kk 4 (by decide) 4 (by decide)
theorem kk_4_5 : (units "off" == units "move") = false := kk 4 (by decide) 5 (by decide)
theorem kk_4_6 : (units "off" == units "take") = false := kk 4 (by decide) 6 (by decide)
theorem kk_5_0 : (units "move" == units "sheet") = false := kk 5 (by decide) 0 (by decide)
theorem kk_5_1 : (units "move" == units "magnet") = false := kk 5 (by decide) 1 (by decide)
theorem kk_5_2 : (units "move" == units "drawer") = false := kk 5 (by decide) 2 (by decide)
theorem kk_5_3 : (units "move" == units "put") = false := kk 5 (by decide) 3 (by decide)
theorem kk_5_4 : (units "move" == units "off") = false := kk 5 (by decide) 4 (by decide)
theorem kk_5_5 : (units "move" == units "move") = true := kk 5 (by decide) 5 (by decide)
theorem kk_5_6 : (units "move" == units "take") = false := kk 5 (by decide) 6 (by decide)
theorem kk_6_0 : (units "take" == units "sheet") = false := kk 6 (by decide) 0 (by decide)
theorem kk_6_1 : (units "take" == units "magnet") = false := kk 6 (by decide) 1 (by decide)
theorem kk_6_2 : (units "take" == units "drawer") = false := kk 6 (by decide) 2 (by decide)
theorem kk_6_3 : (units "take" == units "put") = false := kk 6 (by decide) 3 (by decide)
theorem kk_6_4 : (units "take" == units "off") = false := kk 6 (by decide) 4 (by decide)
theorem kk_6_5 : (units "take" == units "move") = false := kk 6 (by decide) 5 (by decide)
theorem kk_6_6 : (units "take" == units "take") = true := kk 6 (by decide) 6 (by decide)
theorem kp_0 : placeOf keysU (units "sheet") = 0 := by decide +kernel
theorem kl_0 : isLetter ((units "sheet").headD 0) = true := by decide +kernel
theorem kp_1 : placeOf keysU (units "magnet") = 1 := by decide +kernel
theorem kl_1 : isLetter ((units "magnet").headD 0) = true := by decide +kernel
theorem kp_2 : placeOf keysU (units "drawer") = 2 := by decide +kernel
theorem kl_2 : isLetter ((units "drawer").headD 0) = true := by decide +kernel
theorem kp_3 : placeOf keysU (units "put") = 3 := by decide +kernel
theorem kl_3 : isLetter ((units "put").headD 0) = true := by decide +kernel
theorem kp_4 : placeOf keysU (units "off") = 4 := by decide +kernel
theorem kl_4 : isLetter ((units "off").headD 0) = true := by decide +kernel
theorem kp_5 : placeOf keysU (units "move") = 5 := by decide +kernel
theorem kl_5 : isLetter ((units "move").headD 0) = true := by decide +kernel
theorem kp_6 : placeOf keysU (units "take") = 6 := by decide +kernel
theorem kl_6 : isLetter ((units "take").headD 0) = true := by decide +kernel
/-! ### digits -/
theorem value_app : ∀ {u : Units} {a : Nat} {c : UInt16}, digitsValue a (u ++ [c]) = digitsValue a u * 10 + (c.toNat - 48)
  | [], a, c => rfl
  | d :: u, a, c => by
    show digitsValue _ (u ++ [c]) = _
    rw [value_app]
    rfl
theorem digit_toNat {c : UInt16} (h : isDigit c = true) : 48 ≤ c.toNat ∧ c.toNat ≤ 57 := by
  simpa [isDigit] using h
theorem ofNat_digit {n : Nat} (h : n < 10) : (UInt16.ofNat (48 + n)).toNat = 48 + n := by
  rw [UInt16.toNat_ofNat']
  omega
theorem digit_ofNat {n : Nat} (h : n < 10) : isDigit (UInt16.ofNat (48 + n)) = true := by
  unfold isDigit
  rw [ofNat_digit h]
  simp
  omega
theorem digits_all : ∀ {k n : Nat}, (digitsText k n).all isDigit = true ∧ (digitsText k n).length ≤ k
  | 0, n => by simp [digitsText]
  | k + 1, n => by
    unfold digitsText
    by_cases h : n < 10
    · rw [if_pos h]
      exact ⟨by rw [List.all_cons, digit_ofNat h]; rfl, by simp⟩
    · rw [if_neg h]
      have ih := digits_all (k := k) (n := n / 10)
      have := digit_ofNat (n := n % 10) (by omega)
      refine ⟨by rw [List.all_append, ih.1, List.all_cons, this]; rfl, ?_⟩
      rw [List.length_append]
      have h2 := ih.2
      show _ + 1 ≤ k + 1
      omega
theorem value_cons {a : Nat} {c : UInt16} {u : Units} : digitsValue a (c :: u) = digitsValue (a * 10 + (c.toNat - 48)) u := by
  show digitsValue _ u = _
  exact Eq.refl _
theorem value_nil {a : Nat} : digitsValue a [] = a := by
  show a = a
  exact Eq.refl _
theorem ten_step (x a d : Nat) (h : d ≤ 9) : (a * 10 + d + 1) * x ≤ (a + 1) * (x * 10) := by
  have : a * 10 + d + 1 ≤ (a + 1) * 10 := by omega
  calc (a * 10 + d + 1) * x ≤ ((a + 1) * 10) * x := Nat.mul_le_mul_right _ this
    _ = (a + 1) * (x * 10) := by rw [Nat.mul_assoc, Nat.mul_comm 10]
theorem value_lt {u : Units} : ∀ {a : Nat}, u.all isDigit = true → digitsValue a u < (a + 1) * 10 ^ u.length := by
  induction u with
  | nil => intro a _; rw [value_nil]; simp
  | cons c u ih =>
    intro a h
    rw [List.all_cons, Bool.and_eq_true] at h
    have hc := digit_toNat h.1
    have ih := ih (a := a * 10 + (c.toNat - 48)) h.2
    rw [value_cons]
    refine Nat.lt_of_lt_of_le ih ?_
    rw [List.length_cons, Nat.pow_succ]
    exact ten_step _ _ _ (by omega)
theorem value_ge : ∀ {u : Units} {a : Nat}, 1 ≤ a → 1 ≤ digitsValue a u
  | [], a, h => h
  | c :: u, a, h => value_ge (u := u) (a := a * 10 + (c.toNat - 48)) (by omega)
theorem digits_head : ∀ {k n : Nat}, 0 < n → n < 10 ^ k → ∃ c r, digitsText k n = c :: r ∧ c ≠ 48
  | 0, n, h1, h2 => by simp at h2; omega
  | k + 1, n, h1, h2 => by
    unfold digitsText
    by_cases h : n < 10
    · rw [if_pos h]
      refine ⟨_, _, rfl, fun e => ?_⟩
      have := congrArg UInt16.toNat e
      rw [ofNat_digit h] at this
      have e48 : (48 : UInt16).toNat = 48 := rfl
      omega
    · rw [if_neg h]
      obtain ⟨c, r, e, hc⟩ := digits_head (k := k) (n := n / 10) (by omega) (by rw [Nat.pow_succ] at h2; omega)
      rw [e]
      exact ⟨c, _, rfl, hc⟩
theorem digits_back : ∀ (k : Nat) (u : Units), u ≠ [] → u.all isDigit = true → u.length ≤ k → (u.length = 1 ∨ u.headD 0 ≠ 48) → digitsText k (digitsValue 0 u) = u
  | 0, u, hn, _, hl, _ => absurd (List.eq_nil_of_length_eq_zero (by omega)) hn
  | k + 1, u, hn, hd, hl, hz => by
    have hs : u = u.dropLast ++ [u.getLast hn] := (List.dropLast_concat_getLast hn).symm
    generalize u.dropLast = v at hs
    generalize u.getLast hn = c at hs
    subst hs
    rw [List.all_append, Bool.and_eq_true] at hd
    have hc := digit_toNat (c := c) (by simpa using hd.2)
    rw [value_app]
    have hv : (UInt16.ofNat (48 + (c.toNat - 48))) = c := by
      apply UInt16.toNat_inj.mp
      rw [ofNat_digit (by omega)]
      omega
    unfold digitsText
    cases v with
    | nil =>
      rw [value_nil, if_pos (by omega)]
      rw [Nat.zero_mul, Nat.zero_add, hv]
      rfl
    | cons d v =>
      have hd48 : d ≠ 48 := by
        rcases hz with hz | hz
        · simp at hz
        · simpa using hz
      have hdd := digit_toNat (c := d) (by have := hd.1; rw [List.all_cons, Bool.and_eq_true] at this; exact this.1)
      have h1 : 1 ≤ digitsValue 0 (d :: v) := by
        rw [value_cons]
        refine value_ge ?_
        have : d.toNat ≠ 48 := fun e => hd48 (UInt16.toNat_inj.mp e)
        omega
      rw [if_neg (by omega)]
      have e1 : (digitsValue 0 (d :: v) * 10 + (c.toNat - 48)) / 10 = digitsValue 0 (d :: v) := by omega
      have e2 : (digitsValue 0 (d :: v) * 10 + (c.toNat - 48)) % 10 = c.toNat - 48 := by omega
      rw [e1, e2, hv, digits_back k (d :: v) (by simp) hd.1 (by simp at hl ⊢; omega) (.inr hd48)]
theorem number_iff {u : Units} (hn : u ≠ []) : numberText (digitsValue 0 u) = u ↔ isNumberP u = true := by
  unfold isNumberP
  constructor
  · intro h
    have ha := digits_all (k := 5) (n := digitsValue 0 u)
    have h' : digitsText 5 (digitsValue 0 u) = u := h
    rw [h'] at ha
    rw [ha.1, Bool.true_and, decide_eq_true ha.2, Bool.true_and]
    by_cases h1 : u.length = 1
    · simp [h1]
    · have hlt := value_lt (a := 0) ha.1
      have h5 : digitsValue 0 u < 10 ^ 5 := Nat.lt_of_lt_of_le hlt (by rw [Nat.zero_add, Nat.one_mul]; exact Nat.pow_le_pow_right (by decide) ha.2)
      by_cases h0 : 0 < digitsValue 0 u
      · obtain ⟨c, r, e, hc⟩ := digits_head h0 h5
        rw [h'] at e
        subst e
        simp [hc]
      · have e0 : digitsValue 0 u = 0 := by omega
        rw [e0] at h'
        have : u = [48] := h'.symm
        rw [this] at h1
        exact absurd rfl h1
  · intro h
    rw [Bool.and_eq_true, Bool.and_eq_true] at h
    obtain ⟨h1, h2, h3⟩ := h
    refine digits_back 5 u hn h1 (of_decide_eq_true h2) ?_
    rcases (Bool.or_eq_true _ _).mp h3 with h3 | h3
    · exact .inl (of_decide_eq_true h3)
    · exact .inr (by simpa using h3)
/-! ### pieces as tokens -/
def tokOf (p : Units) : Token := if isLetter (p.headD 0) = true then .word p else if isDigit (p.headD 0) = true then .number (digitsValue 0 p) else .sign (p.headD 0)
def tokensP (row : List Units) : Option (List Token) := if row.all isTok = true then some (row.map tokOf) else none
theorem letter_digit {c : UInt16} (h : isLetter c = true) : isDigit c = false := by
  unfold isLetter at h
  unfold isDigit
  simp at h ⊢
  omega
theorem tokens_cons {p : Units} {row : List Units} : tokensP (p :: row) = (if isTok p = true then some (tokOf p) else none).bind fun t => (tokensP row).map fun l => t :: l := by
  unfold tokensP
  rw [List.all_cons]
  cases isTok p with
  | true =>
    simp
  | false => simp
theorem run_tok {u : Units} (hn : u ≠ []) (hr : u.all isRunCharacter = true) : runToken u = if isTok u = true then some (tokOf u) else none := by
  obtain ⟨c, r, rfl⟩ := List.exists_cons_of_ne_nil hn
  rw [List.all_cons, Bool.and_eq_true] at hr
  have n40 : isRunCharacter 40 = false := by decide
  have n41 : isRunCharacter 41 = false := by decide
  have h40 : (c :: r) ≠ [40] := fun e => by
    have : c = 40 := (List.cons.inj e).1
    rw [this, n40] at hr
    exact Bool.false_ne_true hr.1
  have h41 : (c :: r) ≠ [41] := fun e => by
    have : c = 41 := (List.cons.inj e).1
    rw [this, n41] at hr
    exact Bool.false_ne_true hr.1
  have et : isTok (c :: r) = (isWordP (c :: r) || isNumberP (c :: r)) := by
    unfold isTok
    rw [decide_eq_false h40, decide_eq_false h41]
    simp
  rw [et]
  show (if isLetter c = true then _ else _) = _
  cases hl : isLetter c with
  | true =>
    rw [if_pos rfl]
    have en : isNumberP (c :: r) = false := by
      unfold isNumberP
      rw [List.all_cons, letter_digit hl]
      rfl
    have ew : isWordP (c :: r) = decide ((c :: r).length ≤ 12) := by
      unfold isWordP
      rw [List.headD_cons, hl]
      rfl
    rw [en, ew, Bool.or_false]
    have e2 : tokOf (c :: r) = .word (c :: r) := by
      unfold tokOf
      rw [List.headD_cons, hl]
      rfl
    rw [e2]
    by_cases h12 : (c :: r).length ≤ 12
    · rw [if_pos (show (c :: r).length ≤ mostWord from h12), if_pos (decide_eq_true h12)]
    · rw [if_neg (show ¬ (c :: r).length ≤ mostWord from h12), if_neg (by simpa using h12)]
  | false =>
    have hd : isDigit c = true := by
      have := hr.1
      unfold isRunCharacter at this
      rw [hl, Bool.false_or] at this
      exact this
    rw [if_neg Bool.false_ne_true]
    have ew : isWordP (c :: r) = false := by
      unfold isWordP
      rw [List.headD_cons, hl]
      rfl
    have e2 : tokOf (c :: r) = .number (digitsValue 0 (c :: r)) := by
      unfold tokOf
      rw [List.headD_cons, hl, hd]
      rfl
    rw [ew, Bool.false_or, e2]
    by_cases h : isNumberP (c :: r) = true
    · rw [if_pos h, if_pos (by simpa using (number_iff hn).mpr h)]
    · rw [if_neg h, if_neg (fun z => h ((number_iff hn).mp (by simpa using z)))]
theorem after_tok {run : Units} {row : List Units} (hr : run.all isRunCharacter = true) : afterRun run (tokensP row) = tokensP ((if run.length = 0 then [] else [run]) ++ row) := by
  unfold afterRun
  cases run with
  | nil => rfl
  | cons c r =>
    rw [if_neg (by simp), if_neg (by simp), run_tok (by simp) hr, List.singleton_append, tokens_cons]
theorem sign_tok {c : UInt16} {row : List Units} (hr : isRunCharacter c = false) : tokensP ([c] :: row) = if isSign c = true then (tokensP row).map (fun l => .sign c :: l) else none := by
  have hl : isLetter c = false ∧ isDigit c = false := by simpa [isRunCharacter] using hr
  rw [tokens_cons]
  have e : isTok [c] = isSign c := by
    unfold isTok isWordP isNumberP isSign
    simp [hl.1, hl.2]
  have e2 : tokOf [c] = .sign c := by
    unfold tokOf
    simp [hl.1, hl.2]
  rw [e, e2]
  cases isSign c with
  | true => simp
  | false => rfl
theorem tokens_pgo : ∀ (u run : Units), run.all isRunCharacter = true → tokensFrom run u = tokensP (pgo run (uncomment u ++ [32]))
  | [], run, hr => by
    have e : pgo run [32] = (if run.length = 0 then [] else [run]) ++ [] := by
      simp [pgo, isRunCharacter, isLetter, isDigit]
    show afterRun run (some []) = _
    show afterRun run (tokensP []) = tokensP (pgo run [32])
    rw [after_tok hr, e]
  | c :: u, run, hr => by
    unfold tokensFrom
    cases hc : isRunCharacter c with
    | true =>
      have h35 : c ≠ 35 := fun e => by rw [e] at hc; exact absurd hc (by decide)
      have eu : uncomment (c :: u) = c :: uncomment u := by simp [uncomment, h35]
      rw [if_pos rfl, tokens_pgo u (run ++ [c]) (by rw [List.all_append, hr]; simp [hc]), eu]
      simp [pgo, hc]
    | false =>
      rw [if_neg Bool.false_ne_true]
      by_cases h32 : c = 32
      · subst h32
        have eu : uncomment (32 :: u) = 32 :: uncomment u := by simp [uncomment]
        rw [if_pos rfl, tokens_pgo u [] rfl, after_tok hr, eu]
        simp [pgo, hc]
      · rw [if_neg h32]
        by_cases h35 : c = 35
        · subst h35
          have eu : uncomment (35 :: u) = [] := by simp [uncomment]
          rw [if_pos rfl, eu]
          have e : pgo run [32] = (if run.length = 0 then [] else [run]) ++ [] := by
            simp [pgo, isRunCharacter, isLetter, isDigit]
          show afterRun run (tokensP []) = tokensP (pgo run [32])
          rw [after_tok hr, e]
        · rw [if_neg h35]
          have eu : uncomment (c :: u) = c :: uncomment u := by simp [uncomment, h35]
          have e : pgo run (c :: (uncomment u ++ [32])) = (if run.length = 0 then [] else [run]) ++ ([c] :: pgo [] (uncomment u ++ [32])) := by
            simp [pgo, hc, h32]
          rw [eu, List.cons_append, e, ← after_tok hr, sign_tok hc, tokens_pgo u [] rfl]
          cases isSign c with
          | true => simp
          | false =>
            unfold afterRun
            cases run with
            | nil => rfl
            | cons d r =>
              simp
theorem tokens_eq (u : Units) : tokensOf u = tokensP (piecesOf u) := tokens_pgo u [] rfl
theorem pgo_mem : ∀ (u run : Units) (p : Units), p ∈ pgo run u → p ≠ [] ∧ ∀ c ∈ p, c ∈ run ∨ c ∈ u
  | [], run, p, h => by simp [pgo] at h
  | c :: u, run, p, h => by
    unfold pgo at h
    by_cases hc : isRunCharacter c = true
    · rw [if_pos hc] at h
      have ih := pgo_mem u (run ++ [c]) p h
      refine ⟨ih.1, fun d hd => ?_⟩
      rcases ih.2 d hd with h | h
      · rcases List.mem_append.mp h with h | h
        · exact .inl h
        · exact .inr (by simp at h; simp [h])
      · exact .inr (List.mem_cons_of_mem _ h)
    · rw [if_neg hc] at h
      rcases List.mem_append.mp h with h | h
      · by_cases h0 : run.length = 0
        · rw [if_pos h0] at h; simp at h
        · rw [if_neg h0, List.mem_singleton] at h
          subst h
          exact ⟨fun e => h0 (by rw [e]; rfl), fun d hd => .inl hd⟩
      · rcases List.mem_append.mp h with h | h
        · by_cases h32 : c = 32
          · rw [if_pos h32] at h; simp at h
          · rw [if_neg h32, List.mem_singleton] at h
            subst h
            exact ⟨by simp, fun d hd => .inr (by simp at hd; simp [hd])⟩
        · have ih := pgo_mem u [] p h
          refine ⟨ih.1, fun d hd => .inr ?_⟩
          rcases ih.2 d hd with h | h
          · simp at h
          · exact List.mem_cons_of_mem _ h
theorem pieces_ne {u p : Units} (h : p ∈ piecesOf u) : p ≠ [] := (pgo_mem _ _ _ h).1
theorem pieces_chars {u p : Units} (hu : ∀ c ∈ u, c.toNat < 256) (h : p ∈ piecesOf u) : ∀ c ∈ p, c.toNat < 256 := by
  intro c hc
  rcases (pgo_mem _ _ _ h).2 c hc with h | h
  · simp at h
  · rcases List.mem_append.mp h with h | h
    · exact hu c ((List.takeWhile_sublist _).subset h)
    · rw [List.mem_singleton] at h
      subst h
      decide
end PW
set_option Elab.async false
set_option linter.all false
set_option maxRecDepth 100000
set_option maxHeartbeats 2000000
namespace PW
open Panels
theorem word_head {p : Units} (h : isWordP p = true) : isLetter (p.headD 0) = true := by
  unfold isWordP at h
  rw [Bool.and_eq_true] at h
  exact h.1
theorem tok_word {p : Units} (h : isWordP p = true) : tokOf p = .word p := by
  unfold tokOf
  rw [word_head h]
  rfl
theorem num_not_word {p : Units} (h : isNumberP p = true) (hn : p ≠ []) : isWordP p = false ∧ tokOf p = .number (digitsValue 0 p) := by
  obtain ⟨c, r, rfl⟩ := List.exists_cons_of_ne_nil hn
  unfold isNumberP at h
  rw [Bool.and_eq_true, List.all_cons, Bool.and_eq_true] at h
  have hd := h.1.1
  have hl : isLetter c = false := by
    cases hl : isLetter c with
    | false => rfl
    | true => rw [letter_digit hl] at hd; exact absurd hd Bool.false_ne_true
  unfold isWordP tokOf
  rw [List.headD_cons, hl, hd]
  exact ⟨rfl, rfl⟩
theorem sign_tok' {p : Units} (ht : isTok p = true) (hw : isWordP p = false) (hn : isNumberP p = false) : tokOf p = .sign (p.headD 0) := by
  unfold isTok at ht
  rw [hw, hn] at ht
  have : p = [40] ∨ p = [41] := by simpa using ht
  rcases this with rfl | rfl
  · rfl
  · rfl
/-- the three kinds of pieces -/
theorem tok_cases {p : Units} (ht : isTok p = true) (hp : p ≠ []) : (isWordP p = true ∧ isNumberP p = false ∧ tokOf p = .word p) ∨ (isWordP p = false ∧ isNumberP p = true ∧ tokOf p = .number (digitsValue 0 p)) ∨ (isWordP p = false ∧ isNumberP p = false ∧ tokOf p = .sign (p.headD 0)) := by
  cases hw : isWordP p with
  | true =>
    cases hn : isNumberP p with
    | true =>
      have := (num_not_word hn hp).1
      rw [hw] at this
      cases this
    | false => exact .inl ⟨rfl, rfl, tok_word hw⟩
  | false =>
    cases hn : isNumberP p with
    | true => exact .inr (.inl ⟨rfl, rfl, (num_not_word hn hp).2⟩)
    | false => exact .inr (.inr ⟨rfl, rfl, sign_tok' ht hw hn⟩)
theorem wordOf_tok {p : Units} (ht : isTok p = true) (hp : p ≠ []) : wordOf (tokOf p) = if isWordP p = true then some p else none := by
  rcases tok_cases ht hp with ⟨h1, h2, h3⟩ | ⟨h1, h2, h3⟩ | ⟨h1, h2, h3⟩ <;> rw [h1, h3] <;> rfl
theorem allFrom_tok : ∀ {l : List Units}, (∀ p ∈ l, isTok p = true ∧ p ≠ []) → allFrom wordOf (l.map tokOf) = if l.all isWordP = true then some l else none
  | [], _ => rfl
  | p :: l, h => by
    have hp := h p (List.mem_cons_self ..)
    rw [List.map_cons, allFrom, wordOf_tok hp.1 hp.2, allFrom_tok fun q hq => h q (List.mem_cons_of_mem _ hq), List.all_cons]
    cases isWordP p with
    | true =>
      cases l.all isWordP <;> rfl
    | false => rfl
theorem kindOf_cons {p : Units} {l : List Units} : kindOf (p :: l) = if 0 ≤ placeOf keysU p ∧ fitsM (placeOf keysU p).toNat l = true then placeOf keysU p else -1 := rfl
theorem key_cases {p : Units} : (p ∉ keysU) ∨ p = units "sheet" ∨ p = units "magnet" ∨ p = units "drawer" ∨ p = units "put" ∨ p = units "off" ∨ p = units "move" ∨ p = units "take" := by
  by_cases h : p ∈ keysU
  · exact .inr (by simpa [keysU] using h)
  · exact .inl h
/-- what a row says, if it says an item -/
def Says (row : List Units) : Prop := (∃ i, itemFrom (row.map tokOf) = some i ∧ rowOf i = row ∧ kindOf row = (kindNo i : Nat) ∧ ∀ d, i = .drawer d → row = [units "drawer", numberText d] ∧ isNumberP (numberText d) = true ∧ digitsValue 0 (numberText d) = d) ∨ (itemFrom (row.map tokOf) = none ∧ kindOf row = -1)
theorem none_says {row : List Units} (h : itemFrom (row.map tokOf) = none) (k : kindOf row = -1) : Says row := .inr ⟨h, k⟩
theorem key_none {p : Units} {l : List Units} (h : p ∉ keysU) : kindOf (p :: l) = -1 := by
  rw [kindOf_cons, if_neg fun z => ?_]
  have := placeOf_nneg.mp z.1
  exact h this
theorem two_none {p a : Units} (h : p ∉ keysU) : twoFrom p a = none := by
  have h' : ∀ k ∈ keysU, (p == k) = false := fun k hk => by
    rw [beq_eq_false_iff_ne]
    exact fun e => h (e ▸ hk)
  unfold twoFrom
  rw [h' (units "magnet") (by simp [keysU]), h' (units "put") (by simp [keysU]), h' (units "off") (by simp [keysU]), h' (units "take") (by simp [keysU])]
  rfl
theorem more_none {p a : Units} {t : Token} {l : List Token} (h : p ∉ keysU) : moreFrom p a t l = none := by
  have h' : ∀ k ∈ keysU, (p == k) = false := fun k hk => by
    rw [beq_eq_false_iff_ne]
    exact fun e => h (e ▸ hk)
  unfold moreFrom
  rw [h' (units "sheet") (by simp [keysU]), h' (units "move") (by simp [keysU])]
  rfl
theorem item_one {t : Token} : itemFrom [t] = none := by
  cases t <;> rfl
theorem item_nonword {l : List Token} {t : Token} (h : ∀ u, t ≠ .word u) : itemFrom (t :: l) = none := by
  cases t with
  | word u => exact absurd rfl (h u)
  | number n => rfl
  | sign c => rfl
theorem says_one {p : Units} : Says [p] := by
  refine none_says item_one ?_
  rw [kindOf_cons]
  rcases key_cases (p := p) with h | h | h | h | h | h | h | h
  · rw [if_neg fun z => h (placeOf_nneg.mp z.1)]
  all_goals
    subst h
    simp only [kp_0, kp_1, kp_2, kp_3, kp_4, kp_5, kp_6]
    simp [fitsM]
end PW
set_option Elab.async false
set_option linter.all false
set_option maxRecDepth 100000
set_option maxHeartbeats 2000000
namespace PW
open Panels
theorem says_two {p q : Units} (hp : isTok p = true ∧ p ≠ []) (hq : isTok q = true ∧ q ≠ []) : Says [p, q] := by
  rcases key_cases (p := p) with h | h | h | h | h | h | h | h
  · refine none_says ?_ (key_none h)
    rcases tok_cases hp.1 hp.2 with ⟨w1, n1, t1⟩ | ⟨w1, n1, t1⟩ | ⟨w1, n1, t1⟩
    · rcases tok_cases hq.1 hq.2 with ⟨w, n, t⟩ | ⟨w, n, t⟩ | ⟨w, n, t⟩
      · show itemFrom [tokOf p, tokOf q] = none
        rw [t1, t]
        exact two_none h
      · show itemFrom [tokOf p, tokOf q] = none
        rw [t1, t]
        show (if (p == units "drawer") = true then _ else _) = none
        have : (p == units "drawer") = false := by
          rw [beq_eq_false_iff_ne]
          exact fun e => h (e ▸ (by simp [keysU]))
        rw [this]
        rfl
      · show itemFrom [tokOf p, tokOf q] = none
        rw [t1, t]
        rfl
    · exact item_nonword (fun u e => by rw [t1] at e; cases e)
    · exact item_nonword (fun u e => by rw [t1] at e; cases e)
  · subst h
    have et : tokOf (units "sheet") = .word (units "sheet") := by unfold tokOf; rw [kl_0]; rfl
    rcases tok_cases hq.1 hq.2 with ⟨w, n, t⟩ | ⟨w, n, t⟩ | ⟨w, n, t⟩
    · have ei : itemFrom [tokOf (units "sheet"), tokOf q] = twoFrom (units "sheet") q := by rw [et, t]; rfl
      exact none_says (by show itemFrom [_, _] = _; rw [ei]; unfold twoFrom; rw [kk_0_1, kk_0_3, kk_0_4, kk_0_6]; rfl) (by rw [kindOf_cons, kp_0]; simp [fitsM, w, n])
    · have ei : itemFrom [tokOf (units "sheet"), tokOf q] = if (units "sheet" == units "drawer") = true then some (.drawer (digitsValue 0 q)) else none := by rw [et, t]; rfl
      exact none_says (by show itemFrom [_, _] = _; rw [ei, kk_0_2]; rfl) (by rw [kindOf_cons, kp_0]; simp [fitsM, w, n])
    · exact none_says (by show itemFrom [_, _] = _; rw [et, t]; rfl) (by rw [kindOf_cons, kp_0]; simp [fitsM, w, n])
  · subst h
    have et : tokOf (units "magnet") = .word (units "magnet") := by unfold tokOf; rw [kl_1]; rfl
    rcases tok_cases hq.1 hq.2 with ⟨w, n, t⟩ | ⟨w, n, t⟩ | ⟨w, n, t⟩
    · have ei : itemFrom [tokOf (units "magnet"), tokOf q] = twoFrom (units "magnet") q := by rw [et, t]; rfl
      exact .inl ⟨.magnet q, by show itemFrom [_, _] = _; rw [ei]; unfold twoFrom; rw [kk_1_1, kk_1_3, kk_1_4, kk_1_6]; rfl, row_magnet, by rw [kindOf_cons, kp_1]; simp [fitsM, w, kindNo], fun d e => by cases e⟩
    · have ei : itemFrom [tokOf (units "magnet"), tokOf q] = if (units "magnet" == units "drawer") = true then some (.drawer (digitsValue 0 q)) else none := by rw [et, t]; rfl
      exact none_says (by show itemFrom [_, _] = _; rw [ei, kk_1_2]; rfl) (by rw [kindOf_cons, kp_1]; simp [fitsM, w, n])
    · exact none_says (by show itemFrom [_, _] = _; rw [et, t]; rfl) (by rw [kindOf_cons, kp_1]; simp [fitsM, w, n])
  · subst h
    have et : tokOf (units "drawer") = .word (units "drawer") := by unfold tokOf; rw [kl_2]; rfl
    rcases tok_cases hq.1 hq.2 with ⟨w, n, t⟩ | ⟨w, n, t⟩ | ⟨w, n, t⟩
    · have ei : itemFrom [tokOf (units "drawer"), tokOf q] = twoFrom (units "drawer") q := by rw [et, t]; rfl
      exact none_says (by show itemFrom [_, _] = _; rw [ei]; unfold twoFrom; rw [kk_2_1, kk_2_3, kk_2_4, kk_2_6]; rfl) (by rw [kindOf_cons, kp_2]; simp [fitsM, w, n])
    · have ei : itemFrom [tokOf (units "drawer"), tokOf q] = if (units "drawer" == units "drawer") = true then some (.drawer (digitsValue 0 q)) else none := by rw [et, t]; rfl
      have eq : numberText (digitsValue 0 q) = q := (number_iff hq.2).mpr n
      exact .inl ⟨.drawer (digitsValue 0 q), by show itemFrom [_, _] = _; rw [ei, kk_2_2]; rfl, by rw [row_drawer, eq], by rw [kindOf_cons, kp_2]; simp [fitsM, n, kindNo], fun d e => by
        have e : digitsValue 0 q = d := by injection e
        rw [← e, eq]
        exact ⟨rfl, n, rfl⟩⟩
    · exact none_says (by show itemFrom [_, _] = _; rw [et, t]; rfl) (by rw [kindOf_cons, kp_2]; simp [fitsM, w, n])
  · subst h
    have et : tokOf (units "put") = .word (units "put") := by unfold tokOf; rw [kl_3]; rfl
    rcases tok_cases hq.1 hq.2 with ⟨w, n, t⟩ | ⟨w, n, t⟩ | ⟨w, n, t⟩
    · have ei : itemFrom [tokOf (units "put"), tokOf q] = twoFrom (units "put") q := by rw [et, t]; rfl
      exact .inl ⟨.put q, by show itemFrom [_, _] = _; rw [ei]; unfold twoFrom; rw [kk_3_1, kk_3_3, kk_3_4, kk_3_6]; rfl, row_put, by rw [kindOf_cons, kp_3]; simp [fitsM, w, kindNo], fun d e => by cases e⟩
    · have ei : itemFrom [tokOf (units "put"), tokOf q] = if (units "put" == units "drawer") = true then some (.drawer (digitsValue 0 q)) else none := by rw [et, t]; rfl
      exact none_says (by show itemFrom [_, _] = _; rw [ei, kk_3_2]; rfl) (by rw [kindOf_cons, kp_3]; simp [fitsM, w, n])
    · exact none_says (by show itemFrom [_, _] = _; rw [et, t]; rfl) (by rw [kindOf_cons, kp_3]; simp [fitsM, w, n])
  · subst h
    have et : tokOf (units "off") = .word (units "off") := by unfold tokOf; rw [kl_4]; rfl
    rcases tok_cases hq.1 hq.2 with ⟨w, n, t⟩ | ⟨w, n, t⟩ | ⟨w, n, t⟩
    · have ei : itemFrom [tokOf (units "off"), tokOf q] = twoFrom (units "off") q := by rw [et, t]; rfl
      exact .inl ⟨.off q, by show itemFrom [_, _] = _; rw [ei]; unfold twoFrom; rw [kk_4_1, kk_4_3, kk_4_4, kk_4_6]; rfl, row_off, by rw [kindOf_cons, kp_4]; simp [fitsM, w, kindNo], fun d e => by cases e⟩
    · have ei : itemFrom [tokOf (units "off"), tokOf q] = if (units "off" == units "drawer") = true then some (.drawer (digitsValue 0 q)) else none := by rw [et, t]; rfl
      exact none_says (by show itemFrom [_, _] = _; rw [ei, kk_4_2]; rfl) (by rw [kindOf_cons, kp_4]; simp [fitsM, w, n])
    · exact none_says (by show itemFrom [_, _] = _; rw [et, t]; rfl) (by rw [kindOf_cons, kp_4]; simp [fitsM, w, n])
  · subst h
    have et : tokOf (units "move") = .word (units "move") := by unfold tokOf; rw [kl_5]; rfl
    rcases tok_cases hq.1 hq.2 with ⟨w, n, t⟩ | ⟨w, n, t⟩ | ⟨w, n, t⟩
    · have ei : itemFrom [tokOf (units "move"), tokOf q] = twoFrom (units "move") q := by rw [et, t]; rfl
      exact none_says (by show itemFrom [_, _] = _; rw [ei]; unfold twoFrom; rw [kk_5_1, kk_5_3, kk_5_4, kk_5_6]; rfl) (by rw [kindOf_cons, kp_5]; simp [fitsM, w, n])
    · have ei : itemFrom [tokOf (units "move"), tokOf q] = if (units "move" == units "drawer") = true then some (.drawer (digitsValue 0 q)) else none := by rw [et, t]; rfl
      exact none_says (by show itemFrom [_, _] = _; rw [ei, kk_5_2]; rfl) (by rw [kindOf_cons, kp_5]; simp [fitsM, w, n])
    · exact none_says (by show itemFrom [_, _] = _; rw [et, t]; rfl) (by rw [kindOf_cons, kp_5]; simp [fitsM, w, n])
  · subst h
    have et : tokOf (units "take") = .word (units "take") := by unfold tokOf; rw [kl_6]; rfl
    rcases tok_cases hq.1 hq.2 with ⟨w, n, t⟩ | ⟨w, n, t⟩ | ⟨w, n, t⟩
    · have ei : itemFrom [tokOf (units "take"), tokOf q] = twoFrom (units "take") q := by rw [et, t]; rfl
      exact .inl ⟨.take q, by show itemFrom [_, _] = _; rw [ei]; unfold twoFrom; rw [kk_6_1, kk_6_3, kk_6_4, kk_6_6]; rfl, row_take, by rw [kindOf_cons, kp_6]; simp [fitsM, w, kindNo], fun d e => by cases e⟩
    · have ei : itemFrom [tokOf (units "take"), tokOf q] = if (units "take" == units "drawer") = true then some (.drawer (digitsValue 0 q)) else none := by rw [et, t]; rfl
      exact none_says (by show itemFrom [_, _] = _; rw [ei, kk_6_2]; rfl) (by rw [kindOf_cons, kp_6]; simp [fitsM, w, n])
    · exact none_says (by show itemFrom [_, _] = _; rw [et, t]; rfl) (by rw [kindOf_cons, kp_6]; simp [fitsM, w, n])
theorem item_more {p q r : Units} {l : List Units} (hp : isWordP p = true) (hq : isTok q = true ∧ q ≠ []) : itemFrom ((p :: q :: r :: l).map tokOf) = if isWordP q = true then moreFrom p q (tokOf r) (l.map tokOf) else none := by
  show itemFrom (tokOf p :: tokOf q :: tokOf r :: l.map tokOf) = _
  rw [tok_word hp]
  rcases tok_cases hq.1 hq.2 with ⟨w, n, t⟩ | ⟨w, n, t⟩ | ⟨w, n, t⟩
  · rw [w, t]; rfl
  · rw [w, t]; rfl
  · rw [w, t]; rfl
theorem word_key {p : Units} (hp : isTok p = true) (h : p ∈ keysU) : isWordP p = true := by
  have : ∀ k ∈ keysU, isWordP k = true := by decide +kernel
  exact this p h
theorem says_more {p q r : Units} {l : List Units} (hp : isTok p = true ∧ p ≠ []) (hq : isTok q = true ∧ q ≠ []) (hr : isTok r = true ∧ r ≠ []) (hl : ∀ u ∈ l, isTok u = true ∧ u ≠ []) : Says (p :: q :: r :: l) := by
  rcases key_cases (p := p) with h | h | h | h | h | h | h | h
  · refine none_says ?_ (key_none h)
    rcases tok_cases hp.1 hp.2 with ⟨w1, n1, t1⟩ | ⟨w1, n1, t1⟩ | ⟨w1, n1, t1⟩
    · rw [item_more w1 hq, more_none h]
      simp
    · exact item_nonword (fun u e => by rw [t1] at e; cases e)
    · exact item_nonword (fun u e => by rw [t1] at e; cases e)
  · subst h
    have w0 : isWordP (units "sheet") = true := word_key hp.1 (by simp [keysU])
    have ei : itemFrom ((units "sheet" :: q :: r :: l).map tokOf) = if (q :: r :: l).all isWordP = true then some (.sheet q r l) else none := by
      rw [item_more w0 hq]
      unfold moreFrom
      rw [kk_0_0, wordOf_tok hr.1 hr.2, allFrom_tok hl, List.all_cons, List.all_cons]
      cases isWordP q <;> cases isWordP r <;> cases l.all isWordP <;> rfl
    have ek : kindOf (units "sheet" :: q :: r :: l) = if (q :: r :: l).all isWordP = true then 0 else -1 := by
      rw [kindOf_cons, kp_0]
      simp [fitsM]
    cases ha : (q :: r :: l).all isWordP with
    | true =>
      rw [ha] at ei ek
      exact .inl ⟨_, ei, row_sheet, ek, fun d e => by cases e⟩
    | false =>
      rw [ha] at ei ek
      exact none_says ei ek
  · subst h
    have w0 : isWordP (units "magnet") = true := word_key hp.1 (by simp [keysU])
    refine none_says ?_ ?_
    · rw [item_more w0 hq]
      unfold moreFrom
      rw [kk_1_0, kk_1_5]
      simp
    · rw [kindOf_cons, kp_1]
      simp [fitsM]
  · subst h
    have w0 : isWordP (units "drawer") = true := word_key hp.1 (by simp [keysU])
    refine none_says ?_ ?_
    · rw [item_more w0 hq]
      unfold moreFrom
      rw [kk_2_0, kk_2_5]
      simp
    · rw [kindOf_cons, kp_2]
      simp [fitsM]
  · subst h
    have w0 : isWordP (units "put") = true := word_key hp.1 (by simp [keysU])
    refine none_says ?_ ?_
    · rw [item_more w0 hq]
      unfold moreFrom
      rw [kk_3_0, kk_3_5]
      simp
    · rw [kindOf_cons, kp_3]
      simp [fitsM]
  · subst h
    have w0 : isWordP (units "off") = true := word_key hp.1 (by simp [keysU])
    refine none_says ?_ ?_
    · rw [item_more w0 hq]
      unfold moreFrom
      rw [kk_4_0, kk_4_5]
      simp
    · rw [kindOf_cons, kp_4]
      simp [fitsM]
  · subst h
    have w0 : isWordP (units "move") = true := word_key hp.1 (by simp [keysU])
    cases hl0 : l with
    | nil =>
      have ei : itemFrom ([units "move", q, r].map tokOf) = if (isWordP q && isWordP r) = true then some (.shift q r) else none := by
        rw [item_more w0 hq]
        unfold moreFrom
        rw [kk_5_0, kk_5_5]
        rcases tok_cases hr.1 hr.2 with ⟨w, n, t⟩ | ⟨w, n, t⟩ | ⟨w, n, t⟩ <;> rw [w, t] <;> cases isWordP q <;> rfl
      have ek : kindOf [units "move", q, r] = if (isWordP q && isWordP r) = true then 5 else -1 := by
        rw [kindOf_cons, kp_5]
        simp [fitsM]
      cases ha : isWordP q && isWordP r with
      | true =>
        rw [ha] at ei ek
        exact .inl ⟨_, ei, row_shift, ek, fun d e => by cases e⟩
      | false =>
        rw [ha] at ei ek
        exact none_says ei ek
    | cons s l2 =>
      refine none_says ?_ ?_
      · rw [item_more w0 hq]
        unfold moreFrom
        rw [kk_5_0, kk_5_5]
        rcases tok_cases hr.1 hr.2 with ⟨w, n, t⟩ | ⟨w, n, t⟩ | ⟨w, n, t⟩ <;> rw [t] <;> cases isWordP q <;> rfl
      · rw [kindOf_cons, kp_5]
        simp [fitsM]
  · subst h
    have w0 : isWordP (units "take") = true := word_key hp.1 (by simp [keysU])
    refine none_says ?_ ?_
    · rw [item_more w0 hq]
      unfold moreFrom
      rw [kk_6_0, kk_6_5]
      simp
    · rw [kindOf_cons, kp_6]
      simp [fitsM]
theorem says_all : ∀ {row : List Units}, row ≠ [] → (∀ u ∈ row, isTok u = true ∧ u ≠ []) → Says row
  | [], h, _ => absurd rfl h
  | [p], _, _ => says_one
  | [p, q], _, h => says_two (h p (by simp)) (h q (by simp))
  | p :: q :: r :: l, _, h => says_more (h p (by simp)) (h q (by simp)) (h r (by simp)) fun u hu => h u (by simp [hu])
theorem tok_len {p : Units} (h : isTok p = true) : p.length ≤ 12 := by
  unfold isTok isWordP isNumberP at h
  simp at h
  rcases h with h | h | h | h
  · exact h.2
  · have := h.2.1; omega
  · subst h; decide
  · subst h; decide
theorem size_le : ∀ {row : List Units}, (∀ u ∈ row, u.length ≤ 12) → sizeM row ≤ 13 * row.length
  | [], _ => by simp [sizeM]
  | p :: row, h => by
    have ih := size_le (row := row) fun u hu => h u (List.mem_cons_of_mem _ hu)
    have hp := h p (List.mem_cons_self ..)
    unfold sizeM at ih ⊢
    simp
    omega
/-- the three ways of a line -/
inductive LineIs (u : Units) : Prop where
  | empty (h : piecesOf u = []) (r : ∀ b, readLine b u = .ok b) (l : lineFrom u = none)
  | bad (h : piecesOf u ≠ []) (p : Units) (k : formProblem (piecesOf u) = (problemNumber p : Nat)) (r : ∀ b, readLine b u = .error p) (l : lineFrom u = none)
  | good (h : piecesOf u ≠ []) (k : formProblem (piecesOf u) = 0) (i : Item) (e : piecesOf u = rowOf i) (ok : ItemOk i) (r : ∀ b, readLine b u = match itemProblem b i with
      | some p => .error p
      | none => .ok (b ++ [i])) (l : lineFrom u = if isCommand i = true then some i else none)
theorem q1 : problemNumber (units "invalid token") = 1 := by decide +kernel
theorem q2 : problemNumber (units "line too long") = 2 := by decide +kernel
theorem q3 : problemNumber (units "syntax error") = 3 := by decide +kernel
theorem line_is (u : Units) (hu : ∀ c ∈ u, c.toNat < 256) : LineIs u := by
  have ht := tokens_eq u
  have hne : ∀ p ∈ piecesOf u, p ≠ [] := fun p hp => pieces_ne hp
  have hch : ∀ p ∈ piecesOf u, ∀ c ∈ p, c.toNat < 256 := fun p hp => pieces_chars hu hp
  revert ht hne hch
  generalize hrow : piecesOf u = row
  intro ht hne hch
  by_cases h0 : row = []
  · subst h0
    have ht' : tokensOf u = some [] := ht
    exact .empty hrow (fun b => by unfold readLine; rw [ht']) (by unfold lineFrom; rw [ht']; rfl)
  · by_cases h1 : row.all isTok = true
    · have ht' : tokensOf u = some (row.map tokOf) := by
        rw [ht]
        unfold tokensP
        rw [if_pos h1]
      have hc : ∃ t ts, row.map tokOf = t :: ts := by
        obtain ⟨p, r, rfl⟩ := List.exists_cons_of_ne_nil h0
        exact ⟨_, _, rfl⟩
      obtain ⟨t, ts, hts⟩ := hc
      have hlen : (t :: ts).length = row.length := by rw [← hts, List.length_map]
      have hread : ∀ b, readLine b u = if 8 < row.length then .error (units "line too long") else match itemFrom (t :: ts) with
          | none => .error (units "syntax error")
          | some i => match itemProblem b i with
            | some p => .error p
            | none => .ok (b ++ [i]) := fun b => by
        unfold readLine
        rw [ht', hts]
        simp only [mostInLine, hlen]
        rfl
      have hline : lineFrom u = if 8 < row.length then none else (itemFrom (t :: ts)).bind fun i => if isCommand i then some i else none := by
        unfold lineFrom
        rw [ht', hts]
        show (if 8 < (t :: ts).length then _ else _) = _
        rw [hlen]
      have hall : ∀ p ∈ row, isTok p = true ∧ p ≠ [] := fun p hp => ⟨(List.all_eq_true.mp h1) p hp, hne p hp⟩
      by_cases h8 : 8 < row.length
      · refine .bad (by rw [hrow]; exact h0) (units "line too long") ?_ (fun b => by rw [hread b, if_pos h8]) (by rw [hline, if_pos h8])
        rw [hrow, q2]
        unfold formProblem
        rw [if_pos h1, if_pos h8]
        rfl
      · rcases says_all h0 hall with ⟨i, e1, e2, e3, e4⟩ | ⟨e1, e2⟩
        · rw [hts] at e1
          refine .good (by rw [hrow]; exact h0) ?_ i (by rw [hrow, e2]) ⟨by rw [e2]; exact e3, by rw [e2]; exact hne, by rw [e2]; omega, ?_, by rw [e2]; exact hch, ?_⟩ (fun b => by rw [hread b, if_neg h8, e1]) (by rw [hline, if_neg h8, e1]; rfl)
          · rw [hrow]
            unfold formProblem
            rw [if_pos h1, if_neg h8, e3, if_neg (by omega)]
          · rw [e2]
            have := size_le (row := row) fun p hp => tok_len (hall p hp).1
            omega
          · intro d hd
            obtain ⟨e5, e6, e7⟩ := e4 d hd
            unfold isNumberP at e6
            rw [Bool.and_eq_true] at e6
            exact ⟨e6.1, e7⟩
        · rw [hts] at e1
          refine .bad (by rw [hrow]; exact h0) (units "syntax error") ?_ (fun b => by rw [hread b, if_neg h8, e1]) (by rw [hline, if_neg h8, e1]; rfl)
          rw [hrow, q3]
          unfold formProblem
          rw [if_pos h1, if_neg h8, e2]
          rfl
    · have ht' : tokensOf u = none := by
        rw [ht]
        unfold tokensP
        rw [if_neg h1]
      refine .bad (by rw [hrow]; exact h0) (units "invalid token") ?_ (fun b => by unfold readLine; rw [ht']) (by unfold lineFrom; rw [ht']; rfl)
      rw [hrow, q1]
      unfold formProblem
      rw [if_neg h1]
      rfl
end PW
set_option Elab.async false
set_option linter.all false
set_option maxRecDepth 100000
set_option maxHeartbeats 2000000
namespace PW
open Panels (readLine readLines readScript problemNumber itemProblem lineFrom isCommand scriptText joinLines Item)
def lineProb (b : Panels.Script) (u : Units) : Nat := match readLine b u with
  | .error p => problemNumber p
  | .ok _ => 0
def f_row_problem : DSp := fun ds Q => ∃ (b : Panels.Script) (u : Units), ds = [eS (toM b), eL (piecesOf u)] ∧ Inv b ∧ (∀ c ∈ u, c.toNat < 256) ∧ piecesOf u ≠ [] ∧ Q (.int (lineProb b u : Nat))
theorem c_row_problem {b : Panels.Script} {u : Units} {Q : D → Prop} (h : Inv b) (hu : ∀ c ∈ u, c.toNat < 256) (hn : piecesOf u ≠ []) (q : Q (.int (lineProb b u : Nat))) : f_row_problem [eS (toM b), eL (piecesOf u)] Q := ⟨b, u, rfl, h, hu, hn, q⟩
def t_row_problem : DS := (dSeq (dSet 2 (dCall f_form_problem (dCons (dVar 1) dNil))) (dSeq (dIfS (dB (dGtI (dVar 2) (dC (.int 0)))) (dRet (dVar 2)) dNext) (dRet (dCall f_item_problem (dCons (dVar 0) (dCons (dVar 1) dNil))))))
theorem nP_pos (p : Units) : 0 < problemNumber p := Nat.succ_pos _
theorem prob_num {b : Panels.Script} {i : Item} : numP (itemProblem b i) = match itemProblem b i with
  | some p => problemNumber p
  | none => 0 := by cases itemProblem b i <;> rfl
theorem pure_row_problem : ∀ ds Q, f_row_problem ds Q → ds.length = 2 ∧ t_row_problem ⟨fun _ => Q .non, fun d _ => Q d⟩ (startE 3 ds) := by
  rintro ds Q ⟨b, u, rfl, h, hu, hn, q⟩
  refine ⟨rfl, ?_⟩
  simp [t_row_problem]
  refine ⟨hn, fun p hp => pieces_ne hp, ?_⟩
  cases line_is u hu with
  | empty e => exact absurd e hn
  | bad _ p k r l =>
    have := nP_pos p
    rw [k, if_pos (by omega)]
    unfold lineProb at q
    rw [r] at q
    exact q
  | good _ k i e ok r l =>
    rw [k, if_neg (by omega)]
    refine c_item_problem e (inv_wf h) ok ?_
    rw [prob_eq h, prob_num]
    unfold lineProb at q
    rw [r] at q
    cases hp : itemProblem b i with
    | none => rw [hp] at q; exact q
    | some p => rw [hp] at q; exact q
theorem inv_lines {b : Panels.Script} (h : Inv b) : b.length ≤ 52 := by
  have h1 := h.size
  have h2 := h.five
  have h3 := h.mag6
  have h4 := h.drw.1
  have h5 := h.acts
  omega
theorem inv_lines' {b : Panels.Script} (h : Inv b) : (toM b).lines.length ≤ 1000000 := by
  have := inv_lines h
  show (b.map Panels.itemText).length ≤ 1000000
  rw [List.length_map]
  omega
def f_read_text : DSp := fun ds Q => ∃ (t : Units), ds = [eU t] ∧ t.length ≤ 900000 ∧ (∀ c ∈ t, c.toNat < 256) ∧ (∀ e s, readScript t = .error e → Q (.tup [.int (e.1 : Nat), .int (problemNumber e.2 : Nat), eS s])) ∧ (∀ b, readScript t = .ok b → Inv b → Q (.tup [.int 0, .int 0, eS (toM b)]))
theorem c_read_text {t : Units} {Q : D → Prop} (hl : t.length ≤ 900000) (hc : ∀ c ∈ t, c.toNat < 256) (h1 : ∀ e s, readScript t = .error e → Q (.tup [.int (e.1 : Nat), .int (problemNumber e.2 : Nat), eS s])) (h2 : ∀ b, readScript t = .ok b → Inv b → Q (.tup [.int 0, .int 0, eS (toM b)])) : f_read_text [eU t] Q := ⟨t, rfl, hl, hc, h1, h2⟩
def lb_read_text0 : DS := (dSeq (dSet 4 (dCall f_pieces_of (dCons (dIx (dVar 2) (dVar 3)) dNil))) (dIfS (dB (dGtI (dLen (dVar 4)) (dC (.int 0)))) (dSeq (dSet 5 (dCall f_row_problem (dCons (dVar 1) (dCons (dVar 4) dNil)))) (dSeq (dIfS (dB (dGtI (dVar 5) (dC (.int 0)))) (dRet (dTup (dCons (dAdd (dVar 3) (dC (.int 1))) (dCons (dVar 5) (dCons (dVar 1) dNil))))) dNext) (dSet 1 (dCall f_script_after (dCons (dVar 1) (dCons (dVar 4) dNil)))))) dNext))
def t_read_text : DS := (dSeq (dSet 1 (dCall f_empty_script dNil)) (dSeq (dSet 2 (dCall f_lines_of (dCons (dVar 0) dNil))) (dSeq (dFor 3 (dItR (dLen (dVar 2))) lb_read_text0) (dRet (dTup (dCons (dC (.int 0)) (dCons (dC (.int 0)) (dCons (dVar 1) dNil))))))))
theorem lines_mem : ∀ (u line r : Units), r ∈ Panels.linesFrom line u → r.length ≤ line.length + u.length ∧ ∀ c ∈ r, c ∈ line ∨ c ∈ u
  | [], line, r, h => by
    have : r = line := by simpa [Panels.linesFrom] using h
    subst this
    exact ⟨by simp, fun c hc => .inl hc⟩
  | c :: u, line, r, h => by
    unfold Panels.linesFrom at h
    by_cases hc : c = 10
    · rw [if_pos hc] at h
      rcases List.mem_cons.mp h with rfl | h
      · exact ⟨by simp, fun c hc => .inl hc⟩
      · have ih := lines_mem u [] r h
        refine ⟨by have := ih.1; simp at this ⊢; omega, fun d hd => .inr ?_⟩
        rcases ih.2 d hd with h | h
        · simp at h
        · exact List.mem_cons_of_mem _ h
    · rw [if_neg hc] at h
      have ih := lines_mem u (line ++ [c]) r h
      refine ⟨by have := ih.1; simp at this ⊢; omega, fun d hd => ?_⟩
      rcases ih.2 d hd with h | h
      · rcases List.mem_append.mp h with h | h
        · exact .inl h
        · exact .inr (by simp at h; simp [h])
      · exact .inr (List.mem_cons_of_mem _ h)
theorem lines_count : ∀ (u line : Units), (Panels.linesFrom line u).length ≤ u.length + 1
  | [], line => by simp [Panels.linesFrom]
  | c :: u, line => by
    unfold Panels.linesFrom
    by_cases hc : c = 10
    · rw [if_pos hc]
      have := lines_count u []
      simp
      omega
    · rw [if_neg hc]
      have := lines_count u (line ++ [c])
      simp
      omega
theorem loop_read_text {Dn : DN} {a : Slot} {rows : List Units} (hr : ∀ r ∈ rows, r.length ≤ 1000000 ∧ ∀ c ∈ r, c.toNat < 256) : ∀ (m j : Nat) (b : Panels.Script) (s1 s2 s3 : Slot), j + m = rows.length → Inv b →
    (∀ e s env, readLines (j + 1) b (rows.drop j) = .error e → Dn.rt (.tup [.int (e.1 : Nat), .int (problemNumber e.2 : Nat), eS s]) env) →
    (∀ b' s1 s2 s3, readLines (j + 1) b (rows.drop j) = .ok b' → Inv b' → Dn.nx [a, .val (eS (toM b')), .val (eL rows), s1, s2, s3]) →
    dLoop 3 lb_read_text0 ((List.range' j m).map fun (k : Nat) => .int (k : Int)) Dn [a, .val (eS (toM b)), .val (eL rows), s1, s2, s3]
  | 0, j, b, s1, s2, s3, hj, hb, h1, h2 => by
    rw [List.range'_zero, List.map_nil, loop_nil]
    refine h2 b s1 s2 s3 ?_ hb
    rw [List.drop_of_length_le (by omega)]
    rfl
  | m + 1, j, b, s1, s2, s3, hj, hb, h1, h2 => by
    rw [List.range'_succ, List.map_cons, loop_cons]
    have hlt : j < rows.length := by omega
    have hu := hr rows[j] (List.getElem_mem hlt)
    have ed : rows.drop j = rows[j] :: rows.drop (j + 1) := List.drop_eq_getElem_cons hlt
    rw [ed] at h1 h2
    unfold readLines at h1 h2
    simp [lb_read_text0, hlt]
    refine ⟨hu.1, ?_⟩
    cases line_is rows[j] hu.2 with
    | empty e r l =>
      rw [if_neg (by rw [e]; simp)]
      rw [r] at h1 h2
      exact loop_read_text hr m (j + 1) b _ _ _ (by omega) hb h1 h2
    | bad hn p k r l =>
      have hlen : 0 < (piecesOf rows[j]).length := List.length_pos_iff.mpr hn
      rw [if_pos (by omega)]
      refine c_row_problem hb hu.2 hn ?_
      have hp := nP_pos p
      unfold lineProb
      rw [r] at h1 h2
      rw [r]
      simp
      rw [if_pos (by omega)]
      have z := h1 (j + 1, p) (toM b)
      simp at z
      exact z _
    | good hn k i e ok r l =>
      have hlen : 0 < (piecesOf rows[j]).length := List.length_pos_iff.mpr hn
      rw [if_pos (by omega)]
      refine c_row_problem hb hu.2 hn ?_
      rw [r] at h1 h2
      unfold lineProb
      rw [r]
      cases hp : itemProblem b i with
      | some p =>
        have hq := nP_pos p
        rw [hp] at h1 h2
        simp
        rw [if_pos (by omega)]
        have z := h1 (j + 1, p) (toM b)
        simp at z
        exact z _
      | none =>
        rw [hp] at h1 h2
        simp
        have st := step_ok hb ok hp
        refine c_script_after e (inv_wf hb) (inv_lines' hb) ok st.aft ?_
        rw [st.eq]
        exact loop_read_text hr m (j + 1) (b ++ [i]) _ _ _ (by omega) st.inv h1 h2
theorem pure_read_text : ∀ ds Q, f_read_text ds Q → ds.length = 1 ∧ t_read_text ⟨fun _ => Q .non, fun d _ => Q d⟩ (startE 6 ds) := by
  rintro ds Q ⟨t, rfl, hl, hc, q1, q2⟩
  refine ⟨rfl, ?_⟩
  simp [t_read_text]
  have hcount := lines_count t []
  refine ⟨by omega, by unfold Panels.linesOf; omega, ?_⟩
  rw [List.range_eq_range']
  have e0 : eS ⟨⟨[], [], [], 0, 0, 0⟩, false, 0, []⟩ = eS (toM []) := rfl
  rw [e0]
  refine loop_read_text (fun r hr => ?_) (Panels.linesOf t).length 0 [] _ _ _ (by omega) inv_nil (fun e s env z => ?_) fun b' s1 s2 s3 z hb => ?_
  · have := lines_mem t [] r hr
    refine ⟨by have := this.1; simp at this; omega, fun c hcr => ?_⟩
    rcases this.2 c hcr with h | h
    · simp at h
    · exact hc c h
  · exact q1 e s z
  · simp
    exact q2 b' z hb
/-! canonical -/
def f_canonical : DSp := fun ds Q => ∃ (b : Panels.Script), ds = [eS (toM b)] ∧ Inv b ∧ Q (eU (scriptText b))
theorem c_canonical {b : Panels.Script} {Q : D → Prop} (h : Inv b) (q : Q (eU (scriptText b))) : f_canonical [eS (toM b)] Q := ⟨b, rfl, h, q⟩
def lb_canonical0 : DS := (dSeq (dIfS (dB (dGtI (dVar 2) (dC (.int 0)))) (dApp 1 (dC (.int 10))) dNext) (dExt 1 (dIx (dFld true 3 (dVar 0)) (dVar 2))))
def t_canonical : DS := (dSeq (dOwn 1 (dDisp dNil)) (dSeq (dFor 2 (dItR (dLen (dFld true 3 (dVar 0)))) lb_canonical0) (dRet (dVar 1))))
theorem join_snoc : ∀ (us : List Units) (u : Units), joinLines (us ++ [u]) = if us = [] then u else joinLines us ++ 10 :: u
  | [], u => rfl
  | [v], u => by simp [joinLines]
  | v :: w :: us, u => by
    have ih := join_snoc (w :: us) u
    rw [if_neg (by simp)] at ih
    rw [if_neg (by simp)]
    show joinLines (v :: w :: (us ++ [u])) = joinLines (v :: w :: us) ++ 10 :: u
    have e : w :: (us ++ [u]) = w :: us ++ [u] := rfl
    unfold joinLines
    rw [e, ih]
    simp
theorem join_len : ∀ (us : List Units), (joinLines us).length ≤ sizeM us
  | [] => by simp [joinLines, sizeM]
  | [u] => by simp [joinLines, sizeM]
  | u :: v :: us => by
    have ih := join_len (v :: us)
    unfold joinLines
    simp [sizeM] at ih ⊢
    omega
theorem size_app (a b : List Units) : sizeM (a ++ b) = sizeM a + sizeM b := by
  unfold sizeM
  rw [List.map_append, List.sum_append, List.length_append]
  omega
theorem size_take (us : List Units) (j : Nat) : sizeM (us.take j) ≤ sizeM us := by
  have := size_app (us.take j) (us.drop j)
  rw [List.take_append_drop] at this
  omega
theorem join_nil : joinLines ([] : List Units) = [] := rfl
theorem loop_canonical {Dn : DN} {s : ScriptM} (hs : sizeM s.lines ≤ 1000000) : ∀ (m j : Nat) (x : Slot), j + m = s.lines.length → (∀ x, Dn.nx [.val (eS s), .own ((ints16 (joinLines s.lines)).map D.int), x]) →
    dLoop 2 lb_canonical0 ((List.range' j m).map fun (k : Nat) => .int (k : Int)) Dn [.val (eS s), .own ((ints16 (joinLines (s.lines.take j))).map D.int), x]
  | 0, j, x, hj, h => by
    rw [List.range'_zero, List.map_nil, loop_nil]
    rw [List.take_of_length_le (by omega)]
    exact h x
  | m + 1, j, x, hj, h => by
    rw [List.range'_succ, List.map_cons, loop_cons]
    have hlt : j < s.lines.length := by omega
    have hz := size_take s.lines (j + 1)
    have hz0 := size_take s.lines j
    have hl0 := join_len (s.lines.take j)
    have ih := loop_canonical (Dn := Dn) hs m (j + 1) (.val (.int (j : Int))) (by omega) h
    rw [List.take_succ_eq_append_getElem hlt, join_snoc] at ih
    have hzz : sizeM (s.lines.take (j + 1)) = sizeM (s.lines.take j) + s.lines[j].length + 1 := by
      rw [List.take_succ_eq_append_getElem hlt, size_app]
      simp [sizeM]
      omega
    simp [lb_canonical0, hlt]
    by_cases hj0 : 0 < j
    · rw [if_pos (by omega)]
      rw [if_neg (by
        intro z
        have := congrArg List.length z
        rw [List.length_take, List.length_nil] at this
        omega)] at ih
      refine ⟨by omega, by omega, ?_⟩
      simp [ints16, lb_canonical0] at ih ⊢
      exact ih
    · rw [if_neg (by omega)]
      have e0 : j = 0 := by omega
      subst e0
      simp [ints16, lb_canonical0, join_nil] at ih ⊢
      refine ⟨by omega, ?_⟩
      exact ih
theorem script_size {b : Panels.Script} (h : Inv b) : sizeM (b.map Panels.itemText) ≤ 200000 := by
  have hl := inv_lines h
  have : ∀ (c : List Item), (∀ i ∈ c, ItemOk i) → sizeM (c.map Panels.itemText) ≤ 1001 * c.length := by
    intro c
    induction c with
    | nil => intro _; simp [sizeM]
    | cons i c ih =>
      intro hc
      have ih := ih fun j hj => hc j (List.mem_cons_of_mem _ hj)
      have hi := (hc i (List.mem_cons_self ..)).size
      have hi2 : (Panels.itemText i).length ≤ sizeM (rowOf i) := by
        rw [item_spaced]
        generalize rowOf i = row
        unfold spacedM sizeM
        cases row with
        | nil => simp
        | cons t ts =>
          simp
          have : (ts.flatMap fun t => (32 : UInt16) :: t).length = (ts.map List.length).sum + ts.length := by
            induction ts with
            | nil => rfl
            | cons u ts ih2 => 
              rw [List.flatMap_cons, List.length_append, ih2]
              simp
              omega
          simp at this
          omega
      unfold sizeM at ih ⊢
      simp at ih ⊢
      omega
  have := this b h.ok
  omega
theorem pure_canonical : ∀ ds Q, f_canonical ds Q → ds.length = 1 ∧ t_canonical ⟨fun _ => Q .non, fun d _ => Q d⟩ (startE 3 ds) := by
  rintro ds Q ⟨b, rfl, h, q⟩
  refine ⟨rfl, ?_⟩
  have hz := script_size h
  have hl := inv_lines' h
  simp [t_canonical]
  refine ⟨by omega, ?_⟩
  rw [List.range_eq_range']
  refine loop_canonical (s := toM b) (by show sizeM (b.map Panels.itemText) ≤ 1000000; omega) (toM b).lines.length 0 .un (by omega) fun x => ?_
  simp
  exact q
/-! acts -/
def f_says_act : DSp := fun ds Q => ∃ (u : Units), ds = [eL (piecesOf u)] ∧ (∀ c ∈ u, c.toNat < 256) ∧ Q (.bl (lineFrom u).isSome)
theorem c_says_act {u : Units} {Q : D → Prop} (hu : ∀ c ∈ u, c.toNat < 256) (q : Q (.bl (lineFrom u).isSome)) : f_says_act [eL (piecesOf u)] Q := ⟨u, rfl, hu, q⟩
def t_says_act : DS := (dRet (dAndV (dGtI (dLen (dVar 0)) (dC (.int 0))) (dAndV (dEqI (dCall f_form_problem (dCons (dVar 0) dNil)) (dC (.int 0))) (dGeI (dCall f_kind_of (dCons (dVar 0) dNil)) (dC (.int 3))))))
theorem kind_command {i : Item} : isCommand i = decide (3 ≤ kindNo i) := by cases i <;> rfl
theorem pure_says_act : ∀ ds Q, f_says_act ds Q → ds.length = 1 ∧ t_says_act ⟨fun _ => Q .non, fun d _ => Q d⟩ (startE 1 ds) := by
  rintro ds Q ⟨u, rfl, hu, q⟩
  refine ⟨rfl, ?_⟩
  simp [t_says_act]
  cases line_is u hu with
  | empty e r l =>
    rw [if_neg (by rw [e]; simp)]
    rw [l] at q
    exact q
  | bad hn p k r l =>
    have hlen : 0 < (piecesOf u).length := List.length_pos_iff.mpr hn
    have := nP_pos p
    rw [if_pos (by omega)]
    refine ⟨hn, fun p hp => pieces_ne hp, ?_⟩
    rw [k, if_neg (by omega)]
    rw [l] at q
    exact q
  | good hn k i e ok r l =>
    have hlen : 0 < (piecesOf u).length := List.length_pos_iff.mpr hn
    rw [if_pos (by omega)]
    refine ⟨hn, fun p hp => pieces_ne hp, ?_⟩
    rw [k, if_pos rfl]
    refine ⟨hn, fun p hp => pieces_ne hp, ?_⟩
    have ek : kindOf (piecesOf u) = (kindNo i : Nat) := by rw [e]; exact ok.kind
    rw [ek]
    have e2 : decide ((3 : Int) ≤ ((kindNo i : Nat) : Int)) = (lineFrom u).isSome := by
      rw [l, kind_command]
      by_cases h3 : 3 ≤ kindNo i
      · have : (3 : Int) ≤ ((kindNo i : Nat) : Int) := by omega
        simp [h3, this]
      · have : ¬ (3 : Int) ≤ ((kindNo i : Nat) : Int) := by omega
        simp [h3, this]
    rw [e2]
    exact q
def actProb (b : Panels.Script) (u : Units) : Int := match lineFrom u with
  | none => -1
  | some i => (numP (itemProblem b i) : Nat)
def f_act_problem : DSp := fun ds Q => ∃ (b : Panels.Script) (u : Units), ds = [eS (toM b), eU u] ∧ Inv b ∧ u.length ≤ 1000000 ∧ (∀ c ∈ u, c.toNat < 256) ∧ Q (.int (actProb b u))
theorem c_act_problem {b : Panels.Script} {u : Units} {Q : D → Prop} (h : Inv b) (hl : u.length ≤ 1000000) (hu : ∀ c ∈ u, c.toNat < 256) (q : Q (.int (actProb b u))) : f_act_problem [eS (toM b), eU u] Q := ⟨b, u, rfl, h, hl, hu, q⟩
def t_act_problem : DS := (dSeq (dSet 2 (dCall f_pieces_of (dCons (dVar 1) dNil))) (dSeq (dIfS (dNotT (dB (dCall f_says_act (dCons (dVar 2) dNil)))) (dRet (dNeg (dC (.int 1)))) dNext) (dRet (dCall f_item_problem (dCons (dVar 0) (dCons (dVar 2) dNil))))))
theorem line_good {u : Units} {i : Item} (hu : ∀ c ∈ u, c.toNat < 256) (h : lineFrom u = some i) : piecesOf u = rowOf i ∧ ItemOk i ∧ isCommand i = true := by
  cases line_is u hu with
  | empty e r l => rw [l] at h; cases h
  | bad hn p k r l => rw [l] at h; cases h
  | good hn k j e ok r l =>
    rw [l] at h
    cases hc : isCommand j with
    | false => rw [hc] at h; cases h
    | true =>
      rw [hc] at h
      have : j = i := Option.some.inj h
      subst this
      exact ⟨e, ok, hc⟩
theorem pure_act_problem : ∀ ds Q, f_act_problem ds Q → ds.length = 2 ∧ t_act_problem ⟨fun _ => Q .non, fun d _ => Q d⟩ (startE 3 ds) := by
  rintro ds Q ⟨b, u, rfl, h, hl, hu, q⟩
  refine ⟨rfl, ?_⟩
  unfold actProb at q
  simp [t_act_problem]
  refine ⟨hl, c_says_act hu ?_⟩
  cases hf : lineFrom u with
  | none =>
    rw [hf] at q
    simp
    exact q
  | some i =>
    rw [hf] at q
    have hg := line_good hu hf
    simp
    refine c_item_problem hg.1 (inv_wf h) hg.2.1 ?_
    rw [prob_eq h]
    exact q
def f_script_with : DSp := fun ds Q => ∃ (b : Panels.Script) (u : Units) (i : Item), ds = [eS (toM b), eU u] ∧ Inv b ∧ u.length ≤ 1000000 ∧ (∀ c ∈ u, c.toNat < 256) ∧ lineFrom u = some i ∧ itemProblem b i = none ∧ (Inv (b ++ [i]) → Q (eS (toM (b ++ [i]))))
theorem c_script_with {b : Panels.Script} {u : Units} {i : Item} {Q : D → Prop} (h : Inv b) (hl : u.length ≤ 1000000) (hu : ∀ c ∈ u, c.toNat < 256) (h1 : lineFrom u = some i) (h2 : itemProblem b i = none) (q : Inv (b ++ [i]) → Q (eS (toM (b ++ [i])))) : f_script_with [eS (toM b), eU u] Q := ⟨b, u, i, rfl, h, hl, hu, h1, h2, q⟩
def t_script_with : DS := (dRet (dCall f_script_after (dCons (dVar 0) (dCons (dCall f_pieces_of (dCons (dVar 1) dNil)) dNil))))
theorem pure_script_with : ∀ ds Q, f_script_with ds Q → ds.length = 2 ∧ t_script_with ⟨fun _ => Q .non, fun d _ => Q d⟩ (startE 2 ds) := by
  rintro ds Q ⟨b, u, i, rfl, h, hl, hu, h1, h2, q⟩
  refine ⟨rfl, ?_⟩
  have hg := line_good hu h1
  have st := step_ok h hg.2.1 h2
  simp [t_script_with]
  refine ⟨hl, c_script_after hg.1 (inv_wf h) (inv_lines' h) hg.2.1 st.aft ?_⟩
  rw [st.eq]
  exact q st.inv
end PW
set_option Elab.async false
set_option linter.all false
set_option maxRecDepth 100000
set_option maxHeartbeats 2000000
namespace PW
abbrev Stp := Nat × Nat × Nat
def eT (x : Stp) : D := .tup [.int (x.1 : Nat), .int (x.2.1 : Nat), .int (x.2.2 : Nat)]
@[simp] theorem eT_iff {x y : Stp} : eT x = eT y ↔ x = y := by
  obtain ⟨a, b, c⟩ := x
  obtain ⟨a', b', c'⟩ := y
  simp [eT]
def eTs (l : List Stp) : D := .lst (l.map eT)
@[simp] theorem eTs_iff {x y : List Stp} : eTs x = eTs y ↔ x = y := ⟨fun h => map_inj (fun _ _ h => eT_iff.mp h) (D.lst.inj h), fun h => by rw [h]⟩
@[simp] theorem items_eTs {x : List Stp} : (eTs x).items = some (x.map eT) := rfl
@[simp] theorem litems_eTs {x : List Stp} : (eTs x).litems = some (x.map eT) := rfl
@[simp] theorem eTs_lst {us : List Stp} {ds : List D} : eTs us = .lst ds ↔ us.map eT = ds := ⟨fun h => D.lst.inj h, fun h => by rw [← h] <;> rfl⟩
@[simp] theorem len_map {α β : Type} {f : α → β} {l : List α} : (l.map f).length = l.length := List.length_map ..
def calmT (covers : List Nat) (up w : Nat) : List Bool := (List.range (2 ^ w)).map fun m => decide ((looseM covers up m).length ≤ 1)
def f_calm_table : DSp := fun ds Q => ∃ (covers : List Nat) (up w : Nat), ds = [eN covers, .int up, .int w] ∧ covers.length ≤ 7 ∧ w ≤ 6 ∧ Q (eB (calmT covers up w))
@[simp] theorem i_calm_table {covers : List Nat} {up w : Nat} {Q : D → Prop} : f_calm_table [eN covers, .int (up : Nat), .int (w : Nat)] Q ↔ covers.length ≤ 7 ∧ w ≤ 6 ∧ Q (eB (calmT covers up w)) := by simp [f_calm_table]
def t_calm_table : DS := (dRet (dL (dLc 3 (dItR (dIx (dC (.tup (powers.map D.int))) (dVar 2))) dYes (dLeI (dLen (dCall f_loose (dCons (dVar 0) (dCons (dVar 1) (dCons (dVar 3) dNil))))) (dC (.int 1))))))
theorem pw_int6 {k : Nat} (h : k ≤ 6) : (0 : Int) < 2 ^ k ∧ (2 : Int) ^ k ≤ 64 := by
  have : k = 0 ∨ k = 1 ∨ k = 2 ∨ k = 3 ∨ k = 4 ∨ k = 5 ∨ k = 6 := by omega
  rcases this with rfl | rfl | rfl | rfl | rfl | rfl | rfl <;> decide
theorem pow_le {w : Nat} (h : w ≤ 6) : 2 ^ w ≤ 64 := (pw_bound h).2
theorem pow_cast {w : Nat} : (2 : Int) ^ w = ((2 ^ w : Nat) : Int) := by simp
@[simp] theorem pow_toNat {w : Nat} : ((2 : Int) ^ w).toNat = 2 ^ w := by rw [pow_cast]; exact Int.toNat_natCast _
theorem pure_calm_table : ∀ ds Q, f_calm_table ds Q → ds.length = 3 ∧ t_calm_table ⟨fun _ => Q .non, fun d _ => Q d⟩ (startE 4 ds) := by
  rintro ds Q ⟨covers, up, w, rfl, h1, h2, q⟩
  refine ⟨rfl, ?_⟩
  have hp := pow_le h2
  simp [t_calm_table, powers_at h2]
  have hq := pw_int6 h2
  refine ⟨by omega, by omega, by omega, ?_⟩
  refine lcD_all (fun (k : Nat) => .int (k : Int)) (fun m => .bl (decide ((looseM covers up m).length ≤ 1))) (List.range (2 ^ w)) (fun m hm R r => ?_) ?_
  · simp
    refine ⟨h1, ?_⟩
    have e : decide (((looseM covers up m).length : Int) ≤ 1) = decide ((looseM covers up m).length ≤ 1) := decide_eq_decide.mpr (by omega)
    rw [e]
    exact r
  · simpa [calmT, eB, Function.comp_def] using q
def putsM (cs : List Bool) (w total m : Nat) : List Stp := if cs.getD m false = false ∨ total ≤ cnt m then [] else ((List.range w).filter fun s => !m.testBit s).map fun s => (3, s, s)
def f_puts : DSp := fun ds Q => ∃ (cs : List Bool) (w total m : Nat), ds = [eB cs, .int w, .int total, .int m] ∧ m < cs.length ∧ w ≤ 6 ∧ Q (eTs (putsM cs w total m))
@[simp] theorem i_puts {cs : List Bool} {w total m : Nat} {Q : D → Prop} : f_puts [eB cs, .int (w : Nat), .int (total : Nat), .int (m : Nat)] Q ↔ m < cs.length ∧ w ≤ 6 ∧ Q (eTs (putsM cs w total m)) := by simp [f_puts]
def t_puts : DS := (dSeq (dIfS (dOrT (dNotT (dB (dIx (dVar 0) (dVar 3)))) (dB (dGeI (dCall f_count_of (dCons (dVar 3) dNil)) (dVar 2)))) (dRet (dL (dDisp dNil))) dNext) (dRet (dL (dLc 4 (dItR (dVar 1)) (dNotT (dB (dCall f_has (dCons (dVar 3) (dCons (dVar 4) dNil))))) (dTup (dCons (dC (.int 3)) (dCons (dVar 4) (dCons (dVar 4) dNil))))))))
theorem pure_puts : ∀ ds Q, f_puts ds Q → ds.length = 4 ∧ t_puts ⟨fun _ => Q .non, fun d _ => Q d⟩ (startE 5 ds) := by
  rintro ds Q ⟨cs, w, total, m, rfl, h1, h2, q⟩
  refine ⟨rfl, ?_⟩
  simp [t_puts, h1]
  have eg : cs.getD m false = cs[m] := by simp [h1]
  unfold putsM at q
  rw [eg] at q
  by_cases h3 : cs[m] = true
  · rw [if_pos h3]
    by_cases h4 : total ≤ cnt m
    · rw [if_pos (.inr h4)] at q
      rw [if_pos h4]
      exact q
    · rw [if_neg (by simp [h3, h4])] at q
      rw [if_neg h4]
      refine ⟨by omega, by omega, ?_⟩
      refine lcD_map (fun (k : Nat) => .int (k : Int)) (fun s => !m.testBit s) (fun s => eT (3, s, s)) _ _ (fun k hk R r => ?_) (fun k hk _ R r => ?_) ?_
      · have := List.mem_range.mp hk
        simp
        exact ⟨by omega, r⟩
      · simpa [eT] using r
      · simpa [eTs, Function.comp_def] using q
  · rw [if_neg h3]
    rw [if_pos (.inl (by simpa using h3))] at q
    exact q
def offsM (cs : List Bool) (w m : Nat) : List Stp := ((List.range w).filter fun s => m.testBit s && cs.getD (m - 2 ^ s) false).map fun s => (4, s, s)
def f_offs : DSp := fun ds Q => ∃ (cs : List Bool) (w m : Nat), ds = [eB cs, .int w, .int m] ∧ m < cs.length ∧ w ≤ 6 ∧ Q (eTs (offsM cs w m))
@[simp] theorem i_offs {cs : List Bool} {w m : Nat} {Q : D → Prop} : f_offs [eB cs, .int (w : Nat), .int (m : Nat)] Q ↔ m < cs.length ∧ w ≤ 6 ∧ Q (eTs (offsM cs w m)) := by simp [f_offs]
def t_offs : DS := (dRet (dL (dLc 3 (dItR (dVar 1)) (dAndT (dB (dCall f_has (dCons (dVar 2) (dCons (dVar 3) dNil)))) (dB (dIx (dVar 0) (dCall f_left_out (dCons (dVar 2) (dCons (dVar 3) dNil)))))) (dTup (dCons (dC (.int 4)) (dCons (dVar 3) (dCons (dVar 3) dNil)))))))
theorem pure_offs : ∀ ds Q, f_offs ds Q → ds.length = 3 ∧ t_offs ⟨fun _ => Q .non, fun d _ => Q d⟩ (startE 4 ds) := by
  rintro ds Q ⟨cs, w, m, rfl, h1, h2, q⟩
  refine ⟨rfl, ?_⟩
  simp [t_offs]
  refine ⟨by omega, by omega, ?_⟩
  refine lcD_map (fun (k : Nat) => .int (k : Int)) (fun s => m.testBit s && cs.getD (m - 2 ^ s) false) (fun s => eT (4, s, s)) _ _ (fun k hk R r => ?_) (fun k hk _ R r => ?_) ?_
  · have := List.mem_range.mp hk
    cases hb : m.testBit k with
    | true =>
      rw [hb] at r
      have hk2 := bit_le hb
      have hlt : m - 2 ^ k < cs.length := by have := Nat.sub_le m (2 ^ k); omega
      simp [hlt] at r
      simp [hlt, hb]
      exact ⟨by omega, hk2, r⟩
    | false =>
      rw [hb] at r
      simp [hb]
      exact ⟨by omega, by simpa using r⟩
  · simpa [eT] using r
  · rw [List.nil_append]
    unfold offsM eTs at q
    rw [List.map_map] at q
    exact q
def shiftsM (cs : List Bool) (w m : Nat) : List Stp := (List.range w).flatMap fun s => if (m.testBit s && cs.getD (m - 2 ^ s) false) = true then ((List.range w).filter fun t => !m.testBit t).map fun t => (5, s, t) else []
def f_shifts : DSp := fun ds Q => ∃ (cs : List Bool) (w m : Nat), ds = [eB cs, .int w, .int m] ∧ m < cs.length ∧ w ≤ 6 ∧ Q (eTs (shiftsM cs w m))
@[simp] theorem i_shifts {cs : List Bool} {w m : Nat} {Q : D → Prop} : f_shifts [eB cs, .int (w : Nat), .int (m : Nat)] Q ↔ m < cs.length ∧ w ≤ 6 ∧ Q (eTs (shiftsM cs w m)) := by simp [f_shifts]
def lb_shifts0 : DS := (dIfS (dNotT (dB (dCall f_has (dCons (dVar 2) (dCons (dVar 5) dNil))))) (dApp 3 (dTup (dCons (dC (.int 5)) (dCons (dVar 4) (dCons (dVar 5) dNil))))) dNext)
def lb_shifts1 : DS := (dIfS (dAndT (dB (dCall f_has (dCons (dVar 2) (dCons (dVar 4) dNil)))) (dB (dIx (dVar 0) (dCall f_left_out (dCons (dVar 2) (dCons (dVar 4) dNil)))))) (dFor 5 (dItR (dVar 1)) lb_shifts0) dNext)
def t_shifts : DS := (dSeq (dOwn 3 (dDisp dNil)) (dSeq (dFor 4 (dItR (dVar 1)) lb_shifts1) (dRet (dVar 3))))
theorem loop_shifts0 {Dn : DN} {a b : Slot} {m s : Nat} : ∀ (ts : List Nat) (acc : List Stp) (x : Slot), (∀ t ∈ ts, t ≤ 6) → acc.length + ts.length ≤ 10000 → (∀ x, Dn.nx [a, b, .val (.int (m : Nat)), .own ((acc ++ (ts.filter fun t => !m.testBit t).map fun t => (5, s, t)).map eT), .val (.int (s : Nat)), x]) →
    dLoop 5 lb_shifts0 (ts.map fun (k : Nat) => .int (k : Int)) Dn [a, b, .val (.int (m : Nat)), .own (acc.map eT), .val (.int (s : Nat)), x]
  | [], acc, x, _, _, h => by
    rw [List.map_nil, loop_nil]
    simpa using h x
  | t :: ts, acc, x, ht, hl, h => by
    rw [List.map_cons, loop_cons]
    rw [List.length_cons] at hl
    rw [List.filter_cons] at h
    simp [lb_shifts0]
    refine ⟨ht t (List.mem_cons_self ..), ?_⟩
    cases hb : m.testBit t with
    | true =>
      rw [hb] at h
      simp
      exact loop_shifts0 ts acc _ (fun y hy => ht y (List.mem_cons_of_mem _ hy)) (by omega) (by simpa using h)
    | false =>
      rw [hb] at h
      simp
      refine ⟨by omega, ?_⟩
      have z := loop_shifts0 (Dn := Dn) (a := a) (b := b) (m := m) (s := s) ts (acc ++ [(5, s, t)]) (.val (.int (t : Int))) (fun y hy => ht y (List.mem_cons_of_mem _ hy)) (by simp; omega) (by simpa using h)
      simp [lb_shifts0] at z ⊢
      exact z
theorem shifts_len (cs : List Bool) (w m : Nat) : ∀ ss : List Nat, (ss.flatMap fun s => if (m.testBit s && cs.getD (m - 2 ^ s) false) = true then ((List.range w).filter fun t => !m.testBit t).map fun t => ((5, s, t) : Stp) else []).length ≤ ss.length * w
  | [] => by simp
  | s :: ss => by
    have ih := shifts_len cs w m ss
    rw [List.flatMap_cons, List.length_append, List.length_cons, Nat.succ_mul]
    have : (if (m.testBit s && cs.getD (m - 2 ^ s) false) = true then ((List.range w).filter fun t => !m.testBit t).map fun t => ((5, s, t) : Stp) else []).length ≤ w := by
      by_cases h : (m.testBit s && cs.getD (m - 2 ^ s) false) = true
      · rw [if_pos h, List.length_map]
        have := List.length_filter_le (fun t => !m.testBit t) (List.range w)
        rw [List.length_range] at this
        exact this
      · rw [if_neg h]
        simp
    omega
theorem loop_shifts1 {Dn : DN} {cs : List Bool} {w m : Nat} (h1 : m < cs.length) (h2 : w ≤ 6) : ∀ (ss : List Nat) (acc : List Stp) (x y : Slot), (∀ s ∈ ss, s ≤ 6) → acc.length + ss.length * w ≤ 1000 → (∀ x y, Dn.nx [.val (eB cs), .val (.int (w : Nat)), .val (.int (m : Nat)), .own ((acc ++ ss.flatMap fun s => if (m.testBit s && cs.getD (m - 2 ^ s) false) = true then ((List.range w).filter fun t => !m.testBit t).map fun t => ((5, s, t) : Stp) else []).map eT), x, y]) →
    dLoop 4 lb_shifts1 (ss.map fun (k : Nat) => .int (k : Int)) Dn [.val (eB cs), .val (.int (w : Nat)), .val (.int (m : Nat)), .own (acc.map eT), x, y]
  | [], acc, x, y, _, _, h => by
    rw [List.map_nil, loop_nil]
    simpa using h x y
  | s :: ss, acc, x, y, hs, hl, h => by
    rw [List.map_cons, loop_cons]
    rw [List.length_cons, Nat.succ_mul] at hl
    have h6 := hs s (List.mem_cons_self ..)
    rw [List.flatMap_cons, ← List.append_assoc] at h
    have next : ∀ (acc' : List Stp) (y : Slot), acc'.length ≤ acc.length + w → (∀ x y, Dn.nx [.val (eB cs), .val (.int (w : Nat)), .val (.int (m : Nat)), .own ((acc' ++ ss.flatMap fun s => if (m.testBit s && cs.getD (m - 2 ^ s) false) = true then ((List.range w).filter fun t => !m.testBit t).map fun t => ((5, s, t) : Stp) else []).map eT), x, y]) → dLoop 4 lb_shifts1 (ss.map fun (k : Nat) => .int (k : Int)) Dn [.val (eB cs), .val (.int (w : Nat)), .val (.int (m : Nat)), .own (acc'.map eT), .val (.int (s : Int)), y] := fun acc' y hl' hh => loop_shifts1 h1 h2 ss acc' _ y (fun z hz => hs z (List.mem_cons_of_mem _ hz)) (by omega) hh
    cases hb : m.testBit s with
    | true =>
      have hk2 := bit_le hb
      have hlt : m - 2 ^ s < cs.length := by have := Nat.sub_le m (2 ^ s); omega
      have eg : cs.getD (m - 2 ^ s) false = cs[m - 2 ^ s] := by simp [hlt]
      rw [hb, eg, Bool.true_and] at h
      simp [lb_shifts1, hb, hlt]
      refine ⟨h6, hk2, ?_⟩
      by_cases hc : cs[m - 2 ^ s] = true
      · rw [if_pos hc] at h ⊢
        refine ⟨by omega, ?_⟩
        refine loop_shifts0 (List.range w) acc y (fun t ht => by have := List.mem_range.mp ht; omega) (by rw [List.length_range]; omega) fun x => ?_
        have hf := List.length_filter_le (fun t => !m.testBit t) (List.range w)
        rw [List.length_range] at hf
        refine next (acc ++ ((List.range w).filter fun t => !m.testBit t).map fun t => ((5, s, t) : Stp)) x (by rw [List.length_append, List.length_map]; omega) ?_
        exact h
      · rw [if_neg hc] at h ⊢
        rw [List.append_nil] at h
        exact next acc y (by omega) h
    | false =>
      rw [hb, Bool.false_and, if_neg Bool.false_ne_true, List.append_nil] at h
      simp [lb_shifts1, hb]
      exact ⟨h6, next acc y (by omega) h⟩
theorem pure_shifts : ∀ ds Q, f_shifts ds Q → ds.length = 3 ∧ t_shifts ⟨fun _ => Q .non, fun d _ => Q d⟩ (startE 6 ds) := by
  rintro ds Q ⟨cs, w, m, rfl, h1, h2, q⟩
  refine ⟨rfl, ?_⟩
  simp [t_shifts]
  refine ⟨by omega, ?_⟩
  refine loop_shifts1 h1 h2 (List.range w) [] _ _ (fun s hs => by have := List.mem_range.mp hs; omega) ?_ fun x y => ?_
  · have : w * w ≤ 6 * 6 := Nat.mul_le_mul h2 h2
    rw [List.length_range]
    simp
    omega
  · simp
    simpa [shiftsM, eTs] using q
theorem puts_len (cs : List Bool) (w total m : Nat) : (putsM cs w total m).length ≤ w := by
  unfold putsM
  by_cases h : cs.getD m false = false ∨ total ≤ cnt m
  · rw [if_pos h]
    simp
  · rw [if_neg h, List.length_map]
    have := List.length_filter_le (fun s => !m.testBit s) (List.range w)
    rw [List.length_range] at this
    exact this
theorem offs_len (cs : List Bool) (w m : Nat) : (offsM cs w m).length ≤ w := by
  unfold offsM
  rw [List.length_map]
  have := List.length_filter_le (fun s => m.testBit s && cs.getD (m - 2 ^ s) false) (List.range w)
  rw [List.length_range] at this
  exact this
theorem shiftsM_len (cs : List Bool) (w m : Nat) : (shiftsM cs w m).length ≤ w * w := by
  have := shifts_len cs w m (List.range w)
  rw [List.length_range] at this
  exact this
def stepsM (cs : List Bool) (w total m : Nat) : List Stp := putsM cs w total m ++ offsM cs w m ++ shiftsM cs w m
def f_steps : DSp := fun ds Q => ∃ (cs : List Bool) (w total m : Nat), ds = [eB cs, .int w, .int total, .int m] ∧ m < cs.length ∧ w ≤ 6 ∧ Q (eTs (stepsM cs w total m))
@[simp] theorem i_steps {cs : List Bool} {w total m : Nat} {Q : D → Prop} : f_steps [eB cs, .int (w : Nat), .int (total : Nat), .int (m : Nat)] Q ↔ m < cs.length ∧ w ≤ 6 ∧ Q (eTs (stepsM cs w total m)) := by simp [f_steps]
def t_steps : DS := (dRet (dL (dCat (dL (dCat (dCall f_puts (dCons (dVar 0) (dCons (dVar 1) (dCons (dVar 2) (dCons (dVar 3) dNil))))) (dCall f_offs (dCons (dVar 0) (dCons (dVar 1) (dCons (dVar 3) dNil)))))) (dCall f_shifts (dCons (dVar 0) (dCons (dVar 1) (dCons (dVar 3) dNil)))))))
theorem pure_steps : ∀ ds Q, f_steps ds Q → ds.length = 4 ∧ t_steps ⟨fun _ => Q .non, fun d _ => Q d⟩ (startE 4 ds) := by
  rintro ds Q ⟨cs, w, total, m, rfl, h1, h2, q⟩
  refine ⟨rfl, ?_⟩
  simp [t_steps, h1, h2]
  have a1 := puts_len cs w total m
  have a2 := offs_len cs w m
  have a3 := shiftsM_len cs w m
  have a4 : w * w ≤ 6 * 6 := Nat.mul_le_mul h2 h2
  refine ⟨by omega, by omega, ?_⟩
  simpa [stepsM, eTs] using q
def landedM (m : Nat) (x : Stp) : Nat := if x.1 = 3 then m + 2 ^ x.2.1 else if x.1 = 4 then m - 2 ^ x.2.1 else m - 2 ^ x.2.1 + 2 ^ x.2.2
def landOk (m : Nat) (x : Stp) : Prop := x.2.1 ≤ 6 ∧ x.2.2 ≤ 6 ∧ (x.1 ≠ 3 → 2 ^ x.2.1 ≤ m)
def f_landed : DSp := fun ds Q => ∃ (m : Nat) (x : Stp), ds = [.int m, eT x] ∧ landOk m x ∧ Q (.int (landedM m x : Nat))
@[simp] theorem i_landed {m : Nat} {x : Stp} {Q : D → Prop} : f_landed [.int (m : Nat), eT x] Q ↔ landOk m x ∧ Q (.int (landedM m x : Nat)) := by simp [f_landed]
def t_landed : DS := (dSeq (dUnp 2 3 4 (dVar 1)) (dSeq (dIfS (dB (dEqI (dVar 2) (dC (.int 3)))) (dRet (dCall f_put_in (dCons (dVar 0) (dCons (dVar 3) dNil)))) dNext) (dSeq (dIfS (dB (dEqI (dVar 2) (dC (.int 4)))) (dRet (dCall f_left_out (dCons (dVar 0) (dCons (dVar 3) dNil)))) dNext) (dRet (dCall f_put_in (dCons (dCall f_left_out (dCons (dVar 0) (dCons (dVar 3) dNil))) (dCons (dVar 4) dNil)))))))
theorem pure_landed : ∀ ds Q, f_landed ds Q → ds.length = 2 ∧ t_landed ⟨fun _ => Q .non, fun d _ => Q d⟩ (startE 5 ds) := by
  rintro ds Q ⟨m, x, rfl, ⟨h1, h2, h3⟩, q⟩
  refine ⟨rfl, ?_⟩
  obtain ⟨k, s, t⟩ := x
  simp [t_landed, eT]
  unfold landedM at q
  simp only at q h1 h2 h3
  by_cases h4 : k = 3
  · rw [if_pos h4] at q
    rw [if_pos (by omega)]
    refine ⟨h1, ?_⟩
    simpa using q
  · rw [if_neg h4] at q
    rw [if_neg (by omega)]
    have h5 := h3 h4
    by_cases h6 : k = 4
    · rw [if_pos h6] at q
      rw [if_pos (by omega)]
      exact ⟨h1, h5, q⟩
    · rw [if_neg h6] at q
      rw [if_neg (by omega)]
      refine ⟨h1, h5, h2, ?_⟩
      simpa using q
theorem steps_ok {cs : List Bool} {w total m : Nat} (hw : w ≤ 6) {x : Stp} (h : x ∈ stepsM cs w total m) : landOk m x := by
  unfold stepsM at h
  rcases List.mem_append.mp h with h | h
  · rcases List.mem_append.mp h with h | h
    · unfold putsM at h
      by_cases hc : cs.getD m false = false ∨ total ≤ cnt m
      · rw [if_pos hc] at h; simp at h
      · rw [if_neg hc] at h
        obtain ⟨s, hs, rfl⟩ := List.mem_map.mp h
        have := List.mem_range.mp (List.mem_filter.mp hs).1
        exact ⟨by show s ≤ 6; omega, by show s ≤ 6; omega, fun z => absurd rfl z⟩
    · unfold offsM at h
      obtain ⟨s, hs, rfl⟩ := List.mem_map.mp h
      have h2 := List.mem_filter.mp hs
      have := List.mem_range.mp h2.1
      have h3 : m.testBit s = true := by
        have := h2.2
        rw [Bool.and_eq_true] at this
        exact this.1
      exact ⟨by show s ≤ 6; omega, by show s ≤ 6; omega, fun z => bit_le h3⟩
  · unfold shiftsM at h
    obtain ⟨s, hs, hx⟩ := List.mem_flatMap.mp h
    have hsw := List.mem_range.mp hs
    by_cases hc : (m.testBit s && cs.getD (m - 2 ^ s) false) = true
    · rw [if_pos hc] at hx
      obtain ⟨t, ht, rfl⟩ := List.mem_map.mp hx
      have htw := List.mem_range.mp (List.mem_filter.mp ht).1
      rw [Bool.and_eq_true] at hc
      exact ⟨by show s ≤ 6; omega, by show t ≤ 6; omega, fun z => bit_le hc.1⟩
    · rw [if_neg hc] at hx; simp at hx
theorem calm_len (covers : List Nat) (up w : Nat) : (calmT covers up w).length = 2 ^ w := by simp [calmT]
theorem steps_len (cs : List Bool) (w total m : Nat) (h2 : w ≤ 6) : (stepsM cs w total m).length ≤ 48 := by
  have a1 := puts_len cs w total m
  have a2 := offs_len cs w m
  have a3 := shiftsM_len cs w m
  have a4 : w * w ≤ 6 * 6 := Nat.mul_le_mul h2 h2
  unfold stepsM
  rw [List.length_append, List.length_append]
  omega
def waysM (covers : List Nat) (up w total : Nat) : List (List Nat) := (List.range (2 ^ w)).map fun m => (stepsM (calmT covers up w) w total m).map (landedM m)
def f_ways_table : DSp := fun ds Q => ∃ (covers : List Nat) (up w total : Nat), ds = [eN covers, .int up, .int w, .int total] ∧ covers.length ≤ 7 ∧ w ≤ 6 ∧ Q (eNL (waysM covers up w total))
@[simp] theorem i_ways_table {covers : List Nat} {up w total : Nat} {Q : D → Prop} : f_ways_table [eN covers, .int (up : Nat), .int (w : Nat), .int (total : Nat)] Q ↔ covers.length ≤ 7 ∧ w ≤ 6 ∧ Q (eNL (waysM covers up w total)) := by simp [f_ways_table]
def lb_ways_table0 : DS := (dApp 5 (dL (dLc 7 (dItL (dCall f_steps (dCons (dVar 4) (dCons (dVar 2) (dCons (dVar 3) (dCons (dVar 6) dNil)))))) dYes (dCall f_landed (dCons (dVar 6) (dCons (dVar 7) dNil))))))
def t_ways_table : DS := (dSeq (dSet 4 (dCall f_calm_table (dCons (dVar 0) (dCons (dVar 1) (dCons (dVar 2) dNil))))) (dSeq (dOwn 5 (dDisp dNil)) (dSeq (dFor 6 (dItR (dIx (dC (.tup (powers.map D.int))) (dVar 2))) lb_ways_table0) (dRet (dVar 5)))))
theorem loop_ways_table {Dn : DN} {a b : Slot} {cs : List Bool} {w total : Nat} (hw : w ≤ 6) (hcs : cs.length = 2 ^ w) : ∀ (ms : List Nat) (acc : List (List Nat)) (x y : Slot), (∀ m ∈ ms, m < 2 ^ w) → acc.length + ms.length ≤ 10000 →
    (∀ x y, Dn.nx [a, b, .val (.int (w : Nat)), .val (.int (total : Nat)), .val (eB cs), .own ((acc ++ ms.map fun m => (stepsM cs w total m).map (landedM m)).map eN), x, y]) →
    dLoop 6 lb_ways_table0 (ms.map fun (k : Nat) => .int (k : Int)) Dn [a, b, .val (.int (w : Nat)), .val (.int (total : Nat)), .val (eB cs), .own (acc.map eN), x, y]
  | [], acc, x, y, _, _, h => by
    rw [List.map_nil, loop_nil]
    simpa using h x y
  | m :: ms, acc, x, y, hm, hl, h => by
    rw [List.map_cons, loop_cons]
    rw [List.length_cons] at hl
    have hml := hm m (List.mem_cons_self ..)
    have hz := steps_len cs w total m hw
    simp [lb_ways_table0]
    refine ⟨by omega, hw, by omega, ?_⟩
    refine lcD_all eT (fun x => .int ((landedM m x : Nat) : Int)) (stepsM cs w total m) (fun x hx R r => ?_) ?_
    · simp
      exact ⟨steps_ok hw hx, r⟩
    · have e : D.lst ((stepsM cs w total m).map fun x => D.int ((landedM m x : Nat) : Int)) = eN ((stepsM cs w total m).map (landedM m)) := by
        rw [eN_map, List.map_map]
        rfl
      simp only [e]
      refine ⟨by omega, ?_⟩
      have z := loop_ways_table (Dn := Dn) (a := a) (b := b) (total := total) hw hcs ms (acc ++ [(stepsM cs w total m).map (landedM m)]) (.val (.int (m : Int))) y (fun z hz => hm z (List.mem_cons_of_mem _ hz)) (by simp; omega) (by simpa using h)
      simp [lb_ways_table0] at z ⊢
      exact z
theorem pure_ways_table : ∀ ds Q, f_ways_table ds Q → ds.length = 4 ∧ t_ways_table ⟨fun _ => Q .non, fun d _ => Q d⟩ (startE 8 ds) := by
  rintro ds Q ⟨covers, up, w, total, rfl, h1, h2, q⟩
  refine ⟨rfl, ?_⟩
  have hq := pw_int6 h2
  have hp := pow_le h2
  simp [t_ways_table, powers_at h2, h1, h2]
  refine ⟨by omega, by omega, ?_⟩
  refine loop_ways_table h2 (calm_len covers up w) (List.range (2 ^ w)) [] _ _ (fun m hm => List.mem_range.mp hm) (by simp; omega) fun x y => ?_
  simp
  simpa [waysM, eNL] using q
def nearerM (best : List Nat) (m : Nat) (near : List Nat) : Nat := near.foldl (fun l o => if best.getD o 0 + 1 < l then best.getD o 0 + 1 else l) (best.getD m 0)
def f_nearer : DSp := fun ds Q => ∃ (best : List Nat) (m : Nat) (near : List Nat), ds = [eN best, .int m, eN near] ∧ m < best.length ∧ (∀ o ∈ near, o < best.length) ∧ Q (.int (nearerM best m near : Nat))
@[simp] theorem i_nearer {best : List Nat} {m : Nat} {near : List Nat} {Q : D → Prop} : f_nearer [eN best, .int (m : Nat), eN near] Q ↔ m < best.length ∧ (∀ o ∈ near, o < best.length) ∧ Q (.int (nearerM best m near : Nat)) := by simp [f_nearer]
def lb_nearer0 : DS := (dIfS (dB (dLtI (dAdd (dIx (dVar 0) (dVar 4)) (dC (.int 1))) (dVar 3))) (dSet 3 (dAdd (dIx (dVar 0) (dVar 4)) (dC (.int 1)))) dNext)
def t_nearer : DS := (dSeq (dSet 3 (dIx (dVar 0) (dVar 1))) (dSeq (dFor 4 (dItL (dVar 2)) lb_nearer0) (dRet (dVar 3))))
theorem loop_nearer {Dn : DN} {a b : Slot} {best : List Nat} : ∀ (near : List Nat) (l : Nat) (x : Slot), (∀ o ∈ near, o < best.length) →
    (∀ x, Dn.nx [.val (eN best), a, b, .val (.int (near.foldl (fun l o => if best.getD o 0 + 1 < l then best.getD o 0 + 1 else l) l : Nat)), x]) →
    dLoop 4 lb_nearer0 (near.map fun (k : Nat) => .int (k : Int)) Dn [.val (eN best), a, b, .val (.int (l : Nat)), x]
  | [], l, x, _, h => by
    rw [List.map_nil, loop_nil]
    exact h x
  | o :: near, l, x, ho, h => by
    rw [List.map_cons, loop_cons]
    have hlt := ho o (List.mem_cons_self ..)
    rw [List.foldl_cons] at h
    have eg : best.getD o 0 = best[o] := by simp [hlt]
    rw [eg] at h
    simp [lb_nearer0, hlt, intsN]
    by_cases hc : best[o] + 1 < l
    · rw [if_pos hc] at h
      rw [if_pos (by omega)]
      have z := loop_nearer (Dn := Dn) (a := a) (b := b) near (best[o] + 1) (.val (.int (o : Int))) (fun y hy => ho y (List.mem_cons_of_mem _ hy)) h
      simp [lb_nearer0] at z ⊢
      exact z
    · rw [if_neg hc] at h
      rw [if_neg (by omega)]
      have z := loop_nearer (Dn := Dn) (a := a) (b := b) near l (.val (.int (o : Int))) (fun y hy => ho y (List.mem_cons_of_mem _ hy)) h
      simp [lb_nearer0] at z ⊢
      exact z
theorem pure_nearer : ∀ ds Q, f_nearer ds Q → ds.length = 3 ∧ t_nearer ⟨fun _ => Q .non, fun d _ => Q d⟩ (startE 5 ds) := by
  rintro ds Q ⟨best, m, near, rfl, h1, h2, q⟩
  refine ⟨rfl, ?_⟩
  have e : (intsN near).map D.int = near.map fun (k : Nat) => D.int (k : Int) := by simp [intsN, Function.comp_def]
  simp [t_nearer, h1, e]
  rw [show (intsN best)[m]'(by simpa using h1) = ((best[m] : Nat) : Int) from by simp [intsN]]
  refine loop_nearer near best[m] .un h2 fun x => ?_
  simp
  unfold nearerM at q
  rw [show best.getD m 0 = best[m] by simp [h1]] at q
  exact q
def stepB (ways : List (List Nat)) (best : List Nat) : List Nat := (List.range best.length).map fun m => nearerM best m (ways.getD m [])
def itB (ways : List (List Nat)) : Nat → List Nat → List Nat
  | 0, b => b
  | n + 1, b => itB ways n (stepB ways b)
def spreadM (base : List Nat) (ways : List (List Nat)) : List Nat := itB ways base.length base
theorem stepB_len (ways : List (List Nat)) (b : List Nat) : (stepB ways b).length = b.length := by simp [stepB]
theorem itB_len (ways : List (List Nat)) : ∀ (n : Nat) (b : List Nat), (itB ways n b).length = b.length
  | 0, b => rfl
  | n + 1, b => by rw [itB, itB_len, stepB_len]
theorem itB_fix {ways : List (List Nat)} {b : List Nat} (h : stepB ways b = b) : ∀ n, itB ways n b = b
  | 0 => rfl
  | n + 1 => by rw [itB, h, itB_fix h]
def WaysOk (ways : List (List Nat)) (n : Nat) : Prop := ways.length = n ∧ ∀ row ∈ ways, ∀ o ∈ row, o < n
def f_spread : DSp := fun ds Q => ∃ (base : List Nat) (ways : List (List Nat)), ds = [eN base, eNL ways] ∧ base.length ≤ 64 ∧ WaysOk ways base.length ∧ Q (eN (spreadM base ways))
@[simp] theorem i_spread {base : List Nat} {ways : List (List Nat)} {Q : D → Prop} : f_spread [eN base, eNL ways] Q ↔ base.length ≤ 64 ∧ WaysOk ways base.length ∧ Q (eN (spreadM base ways)) := by simp [f_spread]
def lb_spread0 : DS := (dSeq (dSet 4 (dL (dLc 5 (dItR (dLen (dVar 2))) dYes (dCall f_nearer (dCons (dVar 2) (dCons (dVar 5) (dCons (dIx (dVar 1) (dVar 5)) dNil))))))) (dSeq (dIfS (dB (dEqL (dVar 4) (dVar 2))) (dRet (dVar 2)) dNext) (dSet 2 (dVar 4))))
def t_spread : DS := (dSeq (dSet 2 (dVar 0)) (dSeq (dFor 3 (dItR (dLen (dVar 0))) lb_spread0) (dRet (dVar 2))))
theorem loop_spread {Dn : DN} {a : Slot} {ways : List (List Nat)} : ∀ (ks : List Nat) (best : List Nat) (x y z : Slot), best.length ≤ 64 → WaysOk ways best.length →
    (∀ env, Dn.rt (eN (itB ways ks.length best)) env) → (∀ x y z, Dn.nx [a, .val (eNL ways), .val (eN (itB ways ks.length best)), x, y, z]) →
    dLoop 3 lb_spread0 (ks.map fun (k : Nat) => .int (k : Int)) Dn [a, .val (eNL ways), .val (eN best), x, y, z]
  | [], best, x, y, z, _, _, h1, h2 => by
    rw [List.map_nil, loop_nil]
    exact h2 x y z
  | k :: ks, best, x, y, z, hl, hw, h1, h2 => by
    rw [List.map_cons, loop_cons]
    simp [lb_spread0]
    refine ⟨by omega, by omega, ?_⟩
    refine lcD_all (fun (k : Nat) => .int (k : Int)) (fun m => .int ((nearerM best m (ways.getD m []) : Nat) : Int)) (List.range best.length) (fun m hm R r => ?_) ?_
    · have hlt := List.mem_range.mp hm
      have hlt2 : m < ways.length := by rw [hw.1]; exact hlt
      simp [hlt2]
      refine ⟨hlt, hw.2 _ (List.getElem_mem hlt2), ?_⟩
      simpa [hlt2] using r
    · have e : D.lst ((List.range best.length).map fun m => D.int ((nearerM best m (ways.getD m []) : Nat) : Int)) = eN (stepB ways best) := by
        rw [eN_map]
        unfold stepB
        rw [List.map_map]
        rfl
      simp only [e]
      refine ⟨intsN (stepB ways best), by simp [stepB, intsN], ?_⟩
      by_cases hc : stepB ways best = best
      · rw [if_pos (intsN_iff.mpr hc)]
        have := h1
        rw [itB_fix hc] at this
        exact this _
      · rw [if_neg fun z => hc (intsN_iff.mp z)]
        have hlen := stepB_len ways best
        have zz := loop_spread (Dn := Dn) (a := a) ks (stepB ways best) (.val (.int (k : Int))) (.val (eN (stepB ways best))) z (by omega) (by rw [hlen]; exact hw) h1 h2
        simp [lb_spread0] at zz
        exact zz
theorem pure_spread : ∀ ds Q, f_spread ds Q → ds.length = 2 ∧ t_spread ⟨fun _ => Q .non, fun d _ => Q d⟩ (startE 6 ds) := by
  rintro ds Q ⟨base, ways, rfl, h1, h2, q⟩
  refine ⟨rfl, ?_⟩
  simp [t_spread]
  refine ⟨by omega, ?_⟩
  have z := loop_spread (Dn := ⟨dRet (dVar 2) ⟨fun _ => Q .non, fun d _ => Q d⟩, fun d _ => Q d⟩) (a := .val (eN base)) (List.range base.length) base .un .un .un h1 h2 (fun env => by rw [List.length_range]; exact q) (fun x y z => by rw [List.length_range]; simp; exact q)
  exact z
def freeT (covers : List Nat) (up w k : Nat) : List Nat := (List.range (2 ^ w)).map fun m => if looseM covers up m = [k] then 0 else 1000000
def f_free_table : DSp := fun ds Q => ∃ (covers : List Nat) (up w k : Nat), ds = [eN covers, .int up, .int w, .int k] ∧ covers.length ≤ 7 ∧ w ≤ 6 ∧ Q (eN (freeT covers up w k))
@[simp] theorem i_free_table {covers : List Nat} {up w k : Nat} {Q : D → Prop} : f_free_table [eN covers, .int (up : Nat), .int (w : Nat), .int (k : Nat)] Q ↔ covers.length ≤ 7 ∧ w ≤ 6 ∧ Q (eN (freeT covers up w k)) := by simp [f_free_table]
def t_free_table : DS := (dRet (dL (dLc 4 (dItR (dIx (dC (.tup (powers.map D.int))) (dVar 2))) dYes (dIf (dB (dEqL (dCall f_loose (dCons (dVar 0) (dCons (dVar 1) (dCons (dVar 4) dNil)))) (dL (dDisp (dCons (dVar 3) dNil))))) (dC (.int 0)) (dC (.int 1000000))))))
theorem pure_free_table : ∀ ds Q, f_free_table ds Q → ds.length = 4 ∧ t_free_table ⟨fun _ => Q .non, fun d _ => Q d⟩ (startE 5 ds) := by
  rintro ds Q ⟨covers, up, w, k, rfl, h1, h2, q⟩
  refine ⟨rfl, ?_⟩
  have hq := pw_int6 h2
  simp [t_free_table, powers_at h2]
  refine ⟨by omega, by omega, by omega, ?_⟩
  refine lcD_all (fun (k : Nat) => .int (k : Int)) (fun m => .int ((if looseM covers up m = [k] then 0 else 1000000 : Nat) : Int)) (List.range (2 ^ w)) (fun m hm R r => ?_) ?_
  · simp [h1]
    refine ⟨[(k : Int)], rfl, ?_⟩
    have ek : intsN (looseM covers up m) = [(k : Int)] ↔ looseM covers up m = [k] := intsN_iff (v := [k])
    by_cases hc : looseM covers up m = [k]
    · rw [if_pos (ek.mpr hc)]
      rw [if_pos hc] at r
      exact r
    · rw [if_neg fun z => hc (ek.mp z)]
      rw [if_neg hc] at r
      exact r
  · simpa [freeT, eN_map, Function.comp_def] using q
def movesT (v : WallM) (total k : Nat) : List Nat := spreadM (freeT v.covers v.up v.spots.length k) (waysM v.covers v.up v.spots.length total)
theorem free_len (covers : List Nat) (up w k : Nat) : (freeT covers up w k).length = 2 ^ w := by simp [freeT]
theorem moves_len (v : WallM) (total k : Nat) : (movesT v total k).length = 2 ^ v.spots.length := by
  unfold movesT spreadM
  rw [itB_len, free_len]
end PW
set_option Elab.async false
set_option linter.all false
set_option maxRecDepth 100000
set_option maxHeartbeats 2000000
namespace PW
theorem add_bit_lt {m w s : Nat} (hm : m < 2 ^ w) (hs : s < w) (hb : m.testBit s = false) : m + 2 ^ s < 2 ^ w := by
  have e := marks_on (l := bitsN w m) (k := s) (by simpa using hs) (by rw [bits_getD, hb]; simp)
  rw [marks_bits hm] at e
  rw [← e]
  have := marks_lt (l := (bitsN w m).set s true)
  rw [List.length_set, bits_len] at this
  exact this
theorem sub_bit {m w s t : Nat} (hm : m < 2 ^ w) (hb : m.testBit s = true) : (m - 2 ^ s).testBit t = (if t = s then false else m.testBit t) := by
  have hs : s < w := by
    apply Classical.byContradiction
    intro h
    have : m < 2 ^ s := Nat.lt_of_lt_of_le hm (Nat.pow_le_pow_right (by decide) (by omega))
    rw [Nat.testBit_lt_two_pow this] at hb
    cases hb
  have e := marks_off (l := bitsN w m) (k := s) (by rw [bits_getD, hb]; simp [hs])
  rw [marks_bits hm] at e
  rw [← e, marks_bit, getD_set (by simpa using hs), bits_getD]
  by_cases h : t = s
  · rw [if_pos h, if_pos h]
  · rw [if_neg h, if_neg h]
    by_cases ht : t < w
    · simp [ht]
    · have : m < 2 ^ t := Nat.lt_of_lt_of_le hm (Nat.pow_le_pow_right (by decide) (by omega))
      simp [ht, Nat.testBit_lt_two_pow this]
theorem landed_lt {cs : List Bool} {w total m : Nat} {x : Stp} (hm : m < 2 ^ w) (h : x ∈ stepsM cs w total m) : landedM m x < 2 ^ w := by
  unfold stepsM at h
  rcases List.mem_append.mp h with h | h
  · rcases List.mem_append.mp h with h | h
    · unfold putsM at h
      by_cases hc : cs.getD m false = false ∨ total ≤ cnt m
      · rw [if_pos hc] at h; simp at h
      · rw [if_neg hc] at h
        obtain ⟨s, hs, rfl⟩ := List.mem_map.mp h
        have h2 := List.mem_filter.mp hs
        exact add_bit_lt hm (List.mem_range.mp h2.1) (by simpa using h2.2)
    · unfold offsM at h
      obtain ⟨s, hs, rfl⟩ := List.mem_map.mp h
      show m - 2 ^ s < 2 ^ w
      have := Nat.sub_le m (2 ^ s)
      omega
  · unfold shiftsM at h
    obtain ⟨s, hs, hx⟩ := List.mem_flatMap.mp h
    by_cases hc : (m.testBit s && cs.getD (m - 2 ^ s) false) = true
    · rw [if_pos hc] at hx
      obtain ⟨t, ht, rfl⟩ := List.mem_map.mp hx
      rw [Bool.and_eq_true] at hc
      have h2 := List.mem_filter.mp ht
      have h3 : m.testBit t = false := by simpa using h2.2
      show m - 2 ^ s + 2 ^ t < 2 ^ w
      refine add_bit_lt ?_ (List.mem_range.mp h2.1) ?_
      · have := Nat.sub_le m (2 ^ s)
        omega
      · rw [sub_bit hm hc.1, h3]
        simp
    · rw [if_neg hc] at hx; simp at hx
theorem ways_ok (covers : List Nat) (up w total : Nat) : WaysOk (waysM covers up w total) (2 ^ w) := by
  refine ⟨by simp [waysM], fun row hr o ho => ?_⟩
  obtain ⟨m, hm, rfl⟩ := List.mem_map.mp hr
  obtain ⟨x, hx, rfl⟩ := List.mem_map.mp ho
  exact landed_lt (List.mem_range.mp hm) hx
def f_moves_table : DSp := fun ds Q => ∃ (v : WallM) (total k : Nat), ds = [eW v, .int total, .int k] ∧ WfW v ∧ Q (eN (movesT v total k))
@[simp] theorem i_moves_table {v : WallM} {total k : Nat} {Q : D → Prop} : f_moves_table [eW v, .int (total : Nat), .int (k : Nat)] Q ↔ WfW v ∧ Q (eN (movesT v total k)) := by simp [f_moves_table]
theorem c_moves_table {v : WallM} {t : Int} {total k : Nat} {Q : D → Prop} (e : t = (total : Nat)) (h : WfW v) (q : Q (eN (movesT v total k))) : f_moves_table [eW v, .int t, .int (k : Nat)] Q := ⟨v, total, k, by rw [e], h, q⟩
def t_moves_table : DS := (dSeq (dSet 3 (dLen (dFld false 2 (dVar 0)))) (dSeq (dSet 4 (dCall f_free_table (dCons (dFld false 1 (dVar 0)) (dCons (dFld false 5 (dVar 0)) (dCons (dVar 3) (dCons (dVar 2) dNil)))))) (dRet (dCall f_spread (dCons (dVar 4) (dCons (dCall f_ways_table (dCons (dFld false 1 (dVar 0)) (dCons (dFld false 5 (dVar 0)) (dCons (dVar 3) (dCons (dVar 1) dNil))))) dNil))))))
theorem pure_moves_table : ∀ ds Q, f_moves_table ds Q → ds.length = 3 ∧ t_moves_table ⟨fun _ => Q .non, fun d _ => Q d⟩ (startE 5 ds) := by
  rintro ds Q ⟨v, total, k, rfl, ⟨h1, h2, h3⟩, q⟩
  refine ⟨rfl, ?_⟩
  simp [t_moves_table]
  refine ⟨by omega, h3, by omega, h3, by rw [free_len]; exact pow_le h3, by rw [free_len]; exact ways_ok _ _ _ _, ?_⟩
  exact q
def knownM (n : Nat) : Option Nat := if n < 1000000 then some n else none
def f_known : DSp := fun ds Q => ∃ n : Nat, ds = [.int n] ∧ Q (.int (eO (knownM n)))
@[simp] theorem i_known {n : Nat} {Q : D → Prop} : f_known [.int (n : Nat)] Q ↔ Q (.int (eO (knownM n))) := by simp [f_known]
def t_known : DS := (dSeq (dIfS (dB (dGeI (dVar 0) (dC (.int 1000000)))) (dRet (dNeg (dC (.int 1)))) dNext) (dRet (dVar 0)))
theorem pure_known : ∀ ds Q, f_known ds Q → ds.length = 1 ∧ t_known ⟨fun _ => Q .non, fun d _ => Q d⟩ (startE 1 ds) := by
  rintro ds Q ⟨n, rfl, q⟩
  refine ⟨rfl, ?_⟩
  unfold knownM at q
  simp [t_known]
  by_cases h : n < 1000000
  · rw [if_pos h] at q
    rw [if_neg (by omega)]
    exact q
  · rw [if_neg h] at q
    rw [if_pos (by omega)]
    exact q
def fewestM (v : WallM) (k : Nat) : Option Nat := knownM ((movesT v (magM v) k).getD v.held 0)
def f_fewest : DSp := fun ds Q => ∃ (v : WallM) (k : Nat), ds = [eW v, .int k] ∧ WfW v ∧ v.held < 2 ^ v.spots.length ∧ Q (.int (eO (fewestM v k)))
@[simp] theorem i_fewest {v : WallM} {k : Nat} {Q : D → Prop} : f_fewest [eW v, .int (k : Nat)] Q ↔ WfW v ∧ v.held < 2 ^ v.spots.length ∧ Q (.int (eO (fewestM v k))) := by simp [f_fewest]
def t_fewest : DS := (dRet (dCall f_known (dCons (dIx (dCall f_moves_table (dCons (dVar 0) (dCons (dCall f_magnets_of (dCons (dVar 0) dNil)) (dCons (dVar 1) dNil)))) (dFld false 3 (dVar 0))) dNil)))
theorem pure_fewest : ∀ ds Q, f_fewest ds Q → ds.length = 2 ∧ t_fewest ⟨fun _ => Q .non, fun d _ => Q d⟩ (startE 2 ds) := by
  rintro ds Q ⟨v, k, rfl, hw, hh, q⟩
  refine ⟨rfl, ?_⟩
  have hlt : v.held < (movesT v (magM v) k).length := by rw [moves_len]; exact hh
  unfold fewestM at q
  rw [show (movesT v (magM v) k).getD v.held 0 = (movesT v (magM v) k)[v.held] by simp [hlt]] at q
  simp [t_fewest, hw, hlt, intsN]
  exact q
def firstM (v : WallM) (k : Nat) : List Stp :=
  if (movesT v (magM v) k).getD v.held 0 = 0 ∨ 1000000 ≤ (movesT v (magM v) k).getD v.held 0 then []
  else ((stepsM (calmT v.covers v.up v.spots.length) v.spots.length (magM v) v.held).find? fun x => decide ((movesT v (magM v) k).getD (landedM v.held x) 0 + 1 = (movesT v (magM v) k).getD v.held 0)).toList
def f_first : DSp := fun ds Q => ∃ (v : WallM) (k : Nat), ds = [eW v, .int k] ∧ WfW v ∧ v.held < 2 ^ v.spots.length ∧ Q (eTs (firstM v k))
@[simp] theorem i_first {v : WallM} {k : Nat} {Q : D → Prop} : f_first [eW v, .int (k : Nat)] Q ↔ WfW v ∧ v.held < 2 ^ v.spots.length ∧ Q (eTs (firstM v k)) := by simp [f_first]
def lb_first0 : DS := (dIfS (dB (dEqI (dAdd (dIx (dVar 4) (dCall f_landed (dCons (dFld false 3 (dVar 0)) (dCons (dVar 6) dNil)))) (dC (.int 1))) (dVar 5))) (dRet (dL (dDisp (dCons (dVar 6) dNil)))) dNext)
def t_first : DS := (dSeq (dSet 2 (dLen (dFld false 2 (dVar 0)))) (dSeq (dSet 3 (dCall f_magnets_of (dCons (dVar 0) dNil))) (dSeq (dSet 4 (dCall f_moves_table (dCons (dVar 0) (dCons (dVar 3) (dCons (dVar 1) dNil))))) (dSeq (dSet 5 (dIx (dVar 4) (dFld false 3 (dVar 0)))) (dSeq (dIfS (dOrT (dB (dEqI (dVar 5) (dC (.int 0)))) (dB (dGeI (dVar 5) (dC (.int 1000000))))) (dRet (dL (dDisp dNil))) dNext) (dSeq (dFor 6 (dItL (dCall f_steps (dCons (dCall f_calm_table (dCons (dFld false 1 (dVar 0)) (dCons (dFld false 5 (dVar 0)) (dCons (dVar 2) dNil)))) (dCons (dVar 2) (dCons (dVar 3) (dCons (dFld false 3 (dVar 0)) dNil)))))) lb_first0) (dRet (dL (dDisp dNil)))))))))
theorem loop_first {Dn : DN} {v : WallM} {b c d : Slot} {table : List Nat} {here : Nat} : ∀ (xs : List Stp) (y : Slot), (∀ x ∈ xs, landOk v.held x ∧ landedM v.held x < table.length) →
    (∀ x, xs.find? (fun x => decide (table.getD (landedM v.held x) 0 + 1 = here)) = some x → ∀ env, Dn.rt (eTs [x]) env) →
    (xs.find? (fun x => decide (table.getD (landedM v.held x) 0 + 1 = here)) = none → ∀ y, Dn.nx [.val (eW v), b, c, d, .val (eN table), .val (.int (here : Nat)), y]) →
    dLoop 6 lb_first0 (xs.map eT) Dn [.val (eW v), b, c, d, .val (eN table), .val (.int (here : Nat)), y]
  | [], y, _, _, h2 => by
    rw [List.map_nil, loop_nil]
    exact h2 rfl y
  | x :: xs, y, hx, h1, h2 => by
    rw [List.map_cons, loop_cons]
    have hx0 := hx x (List.mem_cons_self ..)
    have hlt := hx0.2
    rw [List.find?_cons] at h1 h2
    rw [show table.getD (landedM v.held x) 0 = table[landedM v.held x] by simp [hlt]] at h1 h2
    simp [lb_first0, hlt, intsN]
    refine ⟨hx0.1, ?_⟩
    by_cases hc : table[landedM v.held x] + 1 = here
    · rw [decide_eq_true hc] at h1
      rw [if_pos (by omega)]
      exact h1 x rfl _
    · rw [decide_eq_false hc] at h1 h2
      rw [if_neg (by omega)]
      have z := loop_first (Dn := Dn) (b := b) (c := c) (d := d) xs (.val (eT x)) (fun z hz => hx z (List.mem_cons_of_mem _ hz)) h1 h2
      simp [lb_first0, intsN] at z ⊢
      exact z
theorem pure_first : ∀ ds Q, f_first ds Q → ds.length = 2 ∧ t_first ⟨fun _ => Q .non, fun d _ => Q d⟩ (startE 7 ds) := by
  rintro ds Q ⟨v, k, rfl, hw, hh, q⟩
  refine ⟨rfl, ?_⟩
  have hlt : v.held < (movesT v (magM v) k).length := by rw [moves_len]; exact hh
  unfold firstM at q
  have eg : (movesT v (magM v) k).getD v.held 0 = (movesT v (magM v) k)[v.held] := by simp [hlt]
  rw [eg] at q
  simp [t_first, hw, hlt, intsN]
  by_cases h0 : (movesT v (magM v) k)[v.held] = 0
  · rw [if_pos h0]
    rw [if_pos (.inl h0)] at q
    exact q
  · rw [if_neg h0]
    by_cases h1 : 1000000 ≤ (movesT v (magM v) k)[v.held]
    · rw [if_pos (by omega)]
      rw [if_pos (.inr h1)] at q
      exact q
    · rw [if_neg (by omega)]
      rw [if_neg (by omega)] at q
      refine ⟨by have := hw.1; have := hw.2.1; omega, hw.2.2, by rw [calm_len]; exact hh, hw.2.2, ?_⟩
      refine loop_first (here := (movesT v (magM v) k)[v.held]) _ .un (fun x hx => ⟨steps_ok hw.2.2 hx, by rw [moves_len]; exact landed_lt hh hx⟩) (fun x hx env => ?_) fun hx y => ?_
      · rw [hx] at q
        exact q
      · rw [hx] at q
        simp
        exact q
def spareM (v : WallM) (k : Nat) : Option Nat := (List.range (v.spots.length + 1)).find? fun d => decide ((movesT v (cnt v.held + d) k).getD v.held 0 < 1000000)
def f_spare : DSp := fun ds Q => ∃ (v : WallM) (k : Nat), ds = [eW v, .int k] ∧ WfW v ∧ v.held < 2 ^ v.spots.length ∧ Q (.int (eO (spareM v k)))
@[simp] theorem i_spare {v : WallM} {k : Nat} {Q : D → Prop} : f_spare [eW v, .int (k : Nat)] Q ↔ WfW v ∧ v.held < 2 ^ v.spots.length ∧ Q (.int (eO (spareM v k))) := by simp [f_spare]
def lb_spare0 : DS := (dSeq (dSet 3 (dCall f_moves_table (dCons (dVar 0) (dCons (dAdd (dCall f_count_of (dCons (dFld false 3 (dVar 0)) dNil)) (dVar 2)) (dCons (dVar 1) dNil))))) (dIfS (dB (dLtI (dIx (dVar 3) (dFld false 3 (dVar 0))) (dC (.int 1000000)))) (dRet (dVar 2)) dNext))
def t_spare : DS := (dSeq (dFor 2 (dItR (dAdd (dLen (dFld false 2 (dVar 0))) (dC (.int 1)))) lb_spare0) (dRet (dNeg (dC (.int 1)))))
theorem loop_spare {Dn : DN} {v : WallM} {k : Nat} (hw : WfW v) (hh : v.held < 2 ^ v.spots.length) : ∀ (ks : List Nat) (x y : Slot),
    (∀ d, ks.find? (fun d => decide ((movesT v (cnt v.held + d) k).getD v.held 0 < 1000000)) = some d → ∀ env, Dn.rt (.int (d : Nat)) env) →
    (ks.find? (fun d => decide ((movesT v (cnt v.held + d) k).getD v.held 0 < 1000000)) = none → ∀ x y, Dn.nx [.val (eW v), .val (.int (k : Nat)), x, y]) →
    dLoop 2 lb_spare0 (ks.map fun (k : Nat) => .int (k : Int)) Dn [.val (eW v), .val (.int (k : Nat)), x, y]
  | [], x, y, _, h2 => by
    rw [List.map_nil, loop_nil]
    exact h2 rfl x y
  | d :: ks, x, y, h1, h2 => by
    rw [List.map_cons, loop_cons]
    have hlt : v.held < (movesT v (cnt v.held + d) k).length := by rw [moves_len]; exact hh
    rw [List.find?_cons] at h1 h2
    have hnext := fun (T : List Nat) => loop_spare (Dn := Dn) (k := k) hw hh ks (.val (.int (d : Int))) (.val (eN T))
    simp [lb_spare0] at hnext
    simp [lb_spare0]
    refine c_moves_table (total := cnt v.held + d) (by simp) hw ?_
    generalize movesT v (cnt v.held + d) k = T at hlt h1 h2 ⊢
    rw [show T.getD v.held 0 = T[v.held] by simp [hlt]] at h1 h2
    simp [hlt, intsN]
    generalize hF : (1000000 : Int) = F at hnext ⊢
    by_cases hc : T[v.held] < 1000000
    · rw [decide_eq_true hc] at h1
      rw [if_pos (by omega)]
      exact h1 d rfl _
    · rw [decide_eq_false hc] at h1 h2
      rw [if_neg (by omega)]
      exact hnext T (by simpa using h1) (by simpa using h2)
theorem pure_spare : ∀ ds Q, f_spare ds Q → ds.length = 2 ∧ t_spare ⟨fun _ => Q .non, fun d _ => Q d⟩ (startE 4 ds) := by
  rintro ds Q ⟨v, k, rfl, hw, hh, q⟩
  refine ⟨rfl, ?_⟩
  have h6 := hw.2.2
  simp [t_spare]
  refine ⟨by omega, by omega, ?_⟩
  unfold spareM at q
  refine loop_spare hw hh (List.range (v.spots.length + 1)) .un .un (fun d hd env => ?_) fun hd x y => ?_
  · rw [hd] at q
    exact q
  · rw [hd] at q
    simpa using q
end PW
set_option Elab.async false
set_option linter.all false
set_option maxRecDepth 100000
set_option maxHeartbeats 2000000
namespace PW
def takesM (covers : List Nat) (up m : Nat) (tables : List (List Nat)) : Nat := if up = 0 then 0 else if (looseM covers up m).length = 1 then (tables.getD (up - 2 ^ (looseM covers up m).headD 0) []).getD m 0 else 1000000
def takesOk (covers : List Nat) (up m : Nat) (tables : List (List Nat)) : Prop := up ≠ 0 → ∀ k, looseM covers up m = [k] → up - 2 ^ k < tables.length ∧ m < (tables.getD (up - 2 ^ k) []).length
def f_takes : DSp := fun ds Q => ∃ (covers : List Nat) (up m : Nat) (tables : List (List Nat)), ds = [eN covers, .int up, .int m, eNL tables] ∧ covers.length ≤ 6 ∧ takesOk covers up m tables ∧ Q (.int (takesM covers up m tables : Nat))
@[simp] theorem i_takes {covers : List Nat} {up m : Nat} {tables : List (List Nat)} {Q : D → Prop} : f_takes [eN covers, .int (up : Nat), .int (m : Nat), eNL tables] Q ↔ covers.length ≤ 6 ∧ takesOk covers up m tables ∧ Q (.int (takesM covers up m tables : Nat)) := by simp [f_takes]
def t_takes : DS := (dSeq (dIfS (dB (dEqI (dVar 1) (dC (.int 0)))) (dRet (dC (.int 0))) dNext) (dSeq (dSet 4 (dCall f_loose (dCons (dVar 0) (dCons (dVar 1) (dCons (dVar 2) dNil))))) (dSeq (dIfS (dB (dNeI (dLen (dVar 4)) (dC (.int 1)))) (dRet (dC (.int 1000000))) dNext) (dRet (dIx (dIx (dVar 3) (dCall f_left_out (dCons (dVar 1) (dCons (dIx (dVar 4) (dC (.int 0))) dNil)))) (dVar 2))))))
theorem loose_bit {covers : List Nat} {up m k : Nat} (h : k ∈ looseM covers up m) : up.testBit k = true := by
  have := (List.mem_filter.mp h).2
  rw [Bool.and_eq_true] at this
  exact this.1
theorem pure_takes : ∀ ds Q, f_takes ds Q → ds.length = 4 ∧ t_takes ⟨fun _ => Q .non, fun d _ => Q d⟩ (startE 5 ds) := by
  rintro ds Q ⟨covers, up, m, tables, rfl, h1, h2, q⟩
  refine ⟨rfl, ?_⟩
  unfold takesM at q
  simp [t_takes]
  by_cases h0 : up = 0
  · rw [if_pos h0] at q ⊢
    exact q
  · rw [if_neg h0] at q ⊢
    refine ⟨by omega, ?_⟩
    have h3 := h2 h0
    have h4 := @loose_bit covers up m
    have h5 := @looseM_lt covers up m
    generalize looseM covers up m = l at h3 h4 h5 q ⊢
    by_cases hl : l.length = 1
    · rw [if_pos hl] at q
      rw [if_pos (by omega)]
      match l, hl with
      | [k], _ =>
        have hk := h3 k rfl
        have hk1 := h4 (k := k) (by simp)
        have hk2 := h5 (k := k) (by simp)
        have hk3 := bit_le hk1
        have hm : m < tables[up - 2 ^ k].length := by
          have := hk.2
          simpa [hk.1] using this
        have e0 : intsN [k] = [(k : Int)] := rfl
        rw [show ((tables.getD (up - 2 ^ [k].headD 0) []).getD m 0) = tables[up - 2 ^ k][m] by simp [hk.1, hm]] at q
        simp [e0, hk.1, hm, intsN]
        exact ⟨by omega, hk3, q⟩
    · rw [if_neg hl] at q
      rw [if_neg (by omega)]
      exact q
def takesT (v : WallM) (up : Nat) (tables : List (List Nat)) : List Nat := (List.range (2 ^ v.spots.length)).map fun m => takesM v.covers up m tables
def clearT (v : WallM) (up : Nat) (tables : List (List Nat)) : List Nat := spreadM (takesT v up tables) (waysM v.covers up v.spots.length (magM v))
theorem takesT_len (v : WallM) (up : Nat) (tables : List (List Nat)) : (takesT v up tables).length = 2 ^ v.spots.length := by simp [takesT]
theorem clearT_len (v : WallM) (up : Nat) (tables : List (List Nat)) : (clearT v up tables).length = 2 ^ v.spots.length := by
  unfold clearT spreadM
  rw [itB_len, takesT_len]
def f_clear_table : DSp := fun ds Q => ∃ (v : WallM) (up : Nat) (tables : List (List Nat)), ds = [eW v, .int up, eNL tables] ∧ WfW v ∧ (∀ m, m < 2 ^ v.spots.length → takesOk v.covers up m tables) ∧ Q (eN (clearT v up tables))
@[simp] theorem i_clear_table {v : WallM} {up : Nat} {tables : List (List Nat)} {Q : D → Prop} : f_clear_table [eW v, .int (up : Nat), eNL tables] Q ↔ WfW v ∧ (∀ m, m < 2 ^ v.spots.length → takesOk v.covers up m tables) ∧ Q (eN (clearT v up tables)) := by simp [f_clear_table]
def t_clear_table : DS := (dSeq (dSet 3 (dLen (dFld false 2 (dVar 0)))) (dSeq (dSet 4 (dL (dLc 5 (dItR (dIx (dC (.tup (powers.map D.int))) (dVar 3))) dYes (dCall f_takes (dCons (dFld false 1 (dVar 0)) (dCons (dVar 1) (dCons (dVar 5) (dCons (dVar 2) dNil)))))))) (dRet (dCall f_spread (dCons (dVar 4) (dCons (dCall f_ways_table (dCons (dFld false 1 (dVar 0)) (dCons (dVar 1) (dCons (dVar 3) (dCons (dCall f_magnets_of (dCons (dVar 0) dNil)) dNil))))) dNil))))))
theorem pure_clear_table : ∀ ds Q, f_clear_table ds Q → ds.length = 3 ∧ t_clear_table ⟨fun _ => Q .non, fun d _ => Q d⟩ (startE 6 ds) := by
  rintro ds Q ⟨v, up, tables, rfl, ⟨h1, h2, h3⟩, h4, q⟩
  refine ⟨rfl, ?_⟩
  have hq := pw_int6 h3
  simp [t_clear_table, powers_at h3]
  refine ⟨by omega, by omega, by omega, ?_⟩
  refine lcD_all (fun (k : Nat) => .int (k : Int)) (fun m => .int ((takesM v.covers up m tables : Nat) : Int)) (List.range (2 ^ v.spots.length)) (fun m hm R r => ?_) ?_
  · simp
    exact ⟨by omega, h4 m (List.mem_range.mp hm), r⟩
  · have e : D.lst ((List.range (2 ^ v.spots.length)).map fun m => D.int ((takesM v.covers up m tables : Nat) : Int)) = eN (takesT v up tables) := by
      rw [eN_map]
      unfold takesT
      rw [List.map_map]
      rfl
    simp only [e]
    simp
    refine ⟨by omega, h3, by rw [takesT_len]; exact pow_le h3, by rw [takesT_len]; exact ways_ok _ _ _ _, q⟩
def tablesM (v : WallM) : Nat → List (List Nat)
  | 0 => []
  | n + 1 => tablesM v n ++ [if n &&& v.up = n then clearT v n (tablesM v n) else []]
theorem tables_len (v : WallM) : ∀ n, (tablesM v n).length = n
  | 0 => rfl
  | n + 1 => by rw [tablesM, List.length_append, tables_len]; rfl
theorem tables_get (v : WallM) : ∀ {n j : Nat}, j < n → (tablesM v n).getD j [] = if j &&& v.up = j then clearT v j (tablesM v j) else []
  | n + 1, j, h => by
    rw [tablesM, List.getD_eq_getElem?_getD, List.getElem?_append]
    rw [tables_len]
    by_cases hj : j < n
    · rw [if_pos hj, ← List.getD_eq_getElem?_getD]
      exact tables_get v hj
    · have : j = n := by omega
      subst this
      rw [if_neg hj]
      simp
theorem within_sub {n up k w : Nat} (h : n &&& up = n) (hk : n.testBit k = true) (hn : n < 2 ^ w) : (n - 2 ^ k) &&& up = n - 2 ^ k := by
  rw [and_self_iff] at h ⊢
  intro j hj
  rw [sub_bit hn hk] at hj
  by_cases e : j = k
  · rw [if_pos e] at hj; cases hj
  · rw [if_neg e] at hj; exact h j hj
theorem takes_ok {v : WallM} {n w : Nat} (h : n &&& v.up = n) (hn : n < 2 ^ w) {m : Nat} (hm : m < 2 ^ v.spots.length) : takesOk v.covers n m (tablesM v n) := by
  intro h0 k hk
  have hb : n.testBit k = true := loose_bit (covers := v.covers) (m := m) (by rw [hk]; simp)
  have hle := bit_le hb
  have hp : 0 < 2 ^ k := Nat.two_pow_pos k
  have hlt : n - 2 ^ k < n := by omega
  rw [tables_len, tables_get v hlt, if_pos (within_sub h hb hn), clearT_len]
  exact ⟨hlt, hm⟩
def clearM (v : WallM) : Option Nat := knownM ((clearT v v.up (tablesM v v.up)).getD v.held 0)
def f_clear_moves : DSp := fun ds Q => ∃ (v : WallM), ds = [eW v] ∧ WfW v ∧ v.held < 2 ^ v.spots.length ∧ v.up < 2 ^ v.names.length ∧ Q (.int (eO (clearM v)))
@[simp] theorem i_clear_moves {v : WallM} {Q : D → Prop} : f_clear_moves [eW v] Q ↔ WfW v ∧ v.held < 2 ^ v.spots.length ∧ v.up < 2 ^ v.names.length ∧ Q (.int (eO (clearM v))) := by simp [f_clear_moves]
def lb_clear_moves0 : DS := (dIfS (dB (dCall f_within (dCons (dVar 2) (dCons (dFld false 5 (dVar 0)) dNil)))) (dAppO 1 (dCall f_clear_table (dCons (dVar 0) (dCons (dVar 2) (dCons (dVar 1) dNil))))) (dApp 1 (dL (dDisp dNil))))
def t_clear_moves : DS := (dSeq (dOwn 1 (dDisp dNil)) (dSeq (dFor 2 (dItR (dAdd (dFld false 5 (dVar 0)) (dC (.int 1)))) lb_clear_moves0) (dRet (dCall f_known (dCons (dIx (dIx (dVar 1) (dFld false 5 (dVar 0))) (dFld false 3 (dVar 0))) dNil)))))
theorem loop_clear_moves {Dn : DN} {v : WallM} (hw : WfW v) (hup : v.up < 2 ^ v.names.length) : ∀ (n j : Nat) (x : Slot), j + n ≤ v.up + 1 → (∀ x, Dn.nx [.val (eW v), .own ((tablesM v (j + n)).map eN), x]) →
    dLoop 2 lb_clear_moves0 ((List.range' j n).map fun (k : Nat) => .int (k : Int)) Dn [.val (eW v), .own ((tablesM v j).map eN), x]
  | 0, j, x, _, h => by
    rw [List.range'_zero, List.map_nil, loop_nil]
    exact h x
  | n + 1, j, x, hj, h => by
    rw [List.range'_succ, List.map_cons, loop_cons]
    have ih := loop_clear_moves (Dn := Dn) hw hup n (j + 1) (.val (.int (j : Int))) (by omega) (by rw [show j + 1 + n = j + (n + 1) by omega]; exact h)
    rw [tablesM] at ih
    have h32 := pow_le (w := v.names.length) (by have := hw.1; omega)
    have et : D.lst ((tablesM v j).map eN) = eNL (tablesM v j) := rfl
    simp [lb_clear_moves0]
    by_cases hc : j &&& v.up = j
    · rw [if_pos hc] at ih
      rw [if_pos hc]
      rw [et]
      simp
      refine ⟨?_, hw, fun m hm => takes_ok (w := v.names.length) hc (by omega) hm, ?_, by rw [tables_len]; omega, ?_⟩
      · intro i es he
        have e1 : es = (tablesM v j).map eN := by
          match i, he with
          | 0, he => simp at he
          | 1, he => simp at he; exact he.symm
          | 2, he => simp at he
          | i + 3, he => simp at he
        rw [e1]
        cases tablesM v j with
        | nil => rfl
        | cons a b => rfl
      · intro z
        have := congrArg List.length z
        rw [lenN, clearT_len] at this
        have hp : 0 < 2 ^ v.spots.length := Nat.two_pow_pos _
        simp at this
      simp [lb_clear_moves0] at ih
      exact ih
    · rw [if_neg hc] at ih
      rw [if_neg hc]
      refine ⟨by rw [tables_len]; omega, ?_⟩
      simp [lb_clear_moves0] at ih
      exact ih
theorem pure_clear_moves : ∀ ds Q, f_clear_moves ds Q → ds.length = 1 ∧ t_clear_moves ⟨fun _ => Q .non, fun d _ => Q d⟩ (startE 3 ds) := by
  rintro ds Q ⟨v, rfl, hw, hh, hup, q⟩
  refine ⟨rfl, ?_⟩
  have h32 := pow_le (w := v.names.length) (by have := hw.1; omega)
  simp [t_clear_moves]
  refine ⟨by omega, by omega, ?_⟩
  rw [List.range_eq_range']
  refine loop_clear_moves hw hup (v.up + 1) 0 .un (by omega) fun x => ?_
  rw [Nat.zero_add]
  have hlt : v.up < (tablesM v (v.up + 1)).length := by rw [tables_len]; omega
  have eg : (tablesM v (v.up + 1))[v.up] = clearT v v.up (tablesM v v.up) := by
    have := tables_get v (n := v.up + 1) (j := v.up) (by omega)
    rw [if_pos (Nat.and_self _)] at this
    simpa [hlt] using this
  unfold clearM at q
  generalize tablesM v (v.up + 1) = T at hlt eg ⊢
  have hl2 : v.held < T[v.up].length := by rw [eg, clearT_len]; exact hh
  rw [← eg] at q
  rw [show T[v.up].getD v.held 0 = T[v.up][v.held] by simp [hl2]] at q
  simp [hlt, hl2, intsN]
  exact q
/-! with magnets enough -/
def canGoM (covers : List Nat) (up k : Nat) : Bool := up.testBit k && (List.range covers.length).all fun j => !(decide (j ≠ k) && (up.testBit j && decide (covers.getD j 0 &&& covers.getD k 0 = covers.getD j 0)))
def f_can_go : DSp := fun ds Q => ∃ (covers : List Nat) (up k : Nat), ds = [eN covers, .int up, .int k] ∧ covers.length ≤ 6 ∧ k < covers.length ∧ Q (.bl (canGoM covers up k))
@[simp] theorem i_can_go {covers : List Nat} {up k : Nat} {Q : D → Prop} : f_can_go [eN covers, .int (up : Nat), .int (k : Nat)] Q ↔ covers.length ≤ 6 ∧ k < covers.length ∧ Q (.bl (canGoM covers up k)) := by simp [f_can_go]
def lb_can_go0 : DS := (dIfS (dAndT (dB (dNeI (dVar 3) (dVar 2))) (dAndT (dB (dCall f_has (dCons (dVar 1) (dCons (dVar 3) dNil)))) (dB (dCall f_within (dCons (dIx (dVar 0) (dVar 3)) (dCons (dIx (dVar 0) (dVar 2)) dNil)))))) (dRet (dC (.bl false))) dNext)
def t_can_go : DS := (dSeq (dIfS (dNotT (dB (dCall f_has (dCons (dVar 1) (dCons (dVar 2) dNil))))) (dRet (dC (.bl false))) dNext) (dSeq (dFor 3 (dItR (dLen (dVar 0))) lb_can_go0) (dRet (dC (.bl true)))))
theorem loop_can_go {Dn : DN} {covers : List Nat} {up k : Nat} (h1 : covers.length ≤ 6) (hk : k < covers.length) : ∀ (js : List Nat) (x : Slot), (∀ j ∈ js, j < covers.length) →
    ((js.all fun j => !(decide (j ≠ k) && (up.testBit j && decide (covers.getD j 0 &&& covers.getD k 0 = covers.getD j 0)))) = false → ∀ env, Dn.rt (.bl false) env) → ((js.all fun j => !(decide (j ≠ k) && (up.testBit j && decide (covers.getD j 0 &&& covers.getD k 0 = covers.getD j 0)))) = true → ∀ x, Dn.nx [.val (eN covers), .val (.int (up : Nat)), .val (.int (k : Nat)), x]) →
    dLoop 3 lb_can_go0 (js.map fun (k : Nat) => .int (k : Int)) Dn [.val (eN covers), .val (.int (up : Nat)), .val (.int (k : Nat)), x]
  | [], x, _, _, h2 => by
    rw [List.map_nil, loop_nil]
    exact h2 rfl x
  | j :: js, x, hj, h2, h3 => by
    rw [List.map_cons, loop_cons]
    have hlt := hj j (List.mem_cons_self ..)
    rw [List.all_cons] at h2 h3
    have next : ((!(decide (j ≠ k) && (up.testBit j && decide (covers.getD j 0 &&& covers.getD k 0 = covers.getD j 0)))) = true) → dLoop 3 lb_can_go0 (js.map fun (k : Nat) => .int (k : Int)) Dn [.val (eN covers), .val (.int (up : Nat)), .val (.int (k : Nat)), .val (.int (j : Nat))] := fun e => by
      rw [e] at h2 h3
      exact loop_can_go h1 hk js _ (fun z hz => hj z (List.mem_cons_of_mem _ hz)) (by simpa using h2) (by simpa using h3)
    simp [lb_can_go0] at next
    simp [lb_can_go0]
    by_cases hjk : j = k
    · rw [if_pos hjk]
      exact next (.inl hjk)
    · rw [if_neg hjk]
      refine ⟨by omega, ?_⟩
      cases hb : up.testBit j with
      | false =>
        simp
        exact next (.inr (.inl hb))
      | true =>
        simp [hlt, hk, intsN]
        have ej : covers.getD j 0 = covers[j] := by simp [hlt]
        have ek : covers.getD k 0 = covers[k] := by simp [hk]
        by_cases hc : covers[j] &&& covers[k] = covers[j]
        · rw [if_pos hc]
          refine h2 ?_ _
          rw [hb, ej, ek, decide_eq_true hc, decide_eq_true hjk]
          rfl
        · rw [if_neg hc]
          refine next (.inr (.inr ?_))
          simpa [hlt, hk] using hc
theorem pure_can_go : ∀ ds Q, f_can_go ds Q → ds.length = 3 ∧ t_can_go ⟨fun _ => Q .non, fun d _ => Q d⟩ (startE 4 ds) := by
  rintro ds Q ⟨covers, up, k, rfl, h1, hk, q⟩
  refine ⟨rfl, ?_⟩
  unfold canGoM at q
  simp [t_can_go]
  refine ⟨by omega, ?_⟩
  cases hb : up.testBit k with
  | false =>
    rw [hb] at q
    simpa using q
  | true =>
    rw [hb, Bool.true_and] at q
    simp
    refine ⟨by omega, ?_⟩
    refine loop_can_go h1 hk (List.range covers.length) .un (fun j hj => List.mem_range.mp hj) (fun h env => ?_) fun h x => ?_
    · rw [h] at q
      exact q
    · rw [h] at q
      simpa using q
def goersM (covers : List Nat) (up : Nat) : List Nat := (List.range covers.length).filter fun k => canGoM covers up k
def f_goers : DSp := fun ds Q => ∃ (covers : List Nat) (up : Nat), ds = [eN covers, .int up] ∧ covers.length ≤ 6 ∧ Q (eN (goersM covers up))
@[simp] theorem i_goers {covers : List Nat} {up : Nat} {Q : D → Prop} : f_goers [eN covers, .int (up : Nat)] Q ↔ covers.length ≤ 6 ∧ Q (eN (goersM covers up)) := by simp [f_goers]
def t_goers : DS := (dRet (dL (dLc 2 (dItR (dLen (dVar 0))) (dB (dCall f_can_go (dCons (dVar 0) (dCons (dVar 1) (dCons (dVar 2) dNil))))) (dVar 2))))
theorem pure_goers : ∀ ds Q, f_goers ds Q → ds.length = 2 ∧ t_goers ⟨fun _ => Q .non, fun d _ => Q d⟩ (startE 3 ds) := by
  rintro ds Q ⟨covers, up, rfl, h1, q⟩
  refine ⟨rfl, ?_⟩
  simp [t_goers]
  refine ⟨by omega, by omega, ?_⟩
  refine lcD_map (fun (k : Nat) => .int (k : Int)) (fun k => canGoM covers up k) (fun (k : Nat) => .int (k : Int)) _ _ (fun k hk R r => ?_) (fun k hk _ R r => ?_) ?_
  · simp
    exact ⟨h1, List.mem_range.mp hk, r⟩
  · simpa using r
  · rw [eN_map] at q
    exact q
def orderM (covers : List Nat) : Nat → Nat → List Nat → Option (List Nat)
  | 0, _, taken => some taken
  | n + 1, up, taken => match goersM covers up with
    | [] => none
    | k :: _ => orderM covers n (up - 2 ^ k) (taken ++ [k])
def f_order_of : DSp := fun ds Q => ∃ (v : WallM), ds = [eW v] ∧ WfW v ∧ Q (eNL (orderM v.covers (cnt v.up) v.up []).toList)
@[simp] theorem i_order_of {v : WallM} {Q : D → Prop} : f_order_of [eW v] Q ↔ WfW v ∧ Q (eNL (orderM v.covers (cnt v.up) v.up []).toList) := by simp [f_order_of]
def lb_order_of0 : DS := (dSeq (dSet 4 (dCall f_goers (dCons (dFld false 1 (dVar 0)) (dCons (dVar 1) dNil)))) (dSeq (dIfS (dB (dEqI (dLen (dVar 4)) (dC (.int 0)))) (dRet (dL (dDisp dNil))) dNext) (dSeq (dApp 2 (dIx (dVar 4) (dC (.int 0)))) (dSet 1 (dCall f_left_out (dCons (dVar 1) (dCons (dIx (dVar 4) (dC (.int 0))) dNil)))))))
def t_order_of : DS := (dSeq (dSet 1 (dFld false 5 (dVar 0))) (dSeq (dOwn 2 (dDisp dNil)) (dSeq (dFor 3 (dItR (dCall f_count_of (dCons (dFld false 5 (dVar 0)) dNil))) lb_order_of0) (dRet (dL (dDisp (dCons (dVar 2) dNil)))))))
theorem goers_mem {covers : List Nat} {up k : Nat} (h : k ∈ goersM covers up) : k < covers.length ∧ up.testBit k = true := by
  have := List.mem_filter.mp h
  refine ⟨List.mem_range.mp this.1, ?_⟩
  have := this.2
  unfold canGoM at this
  rw [Bool.and_eq_true] at this
  exact this.1
theorem loop_order_of {Dn : DN} {v : WallM} (hw : WfW v) : ∀ (ks : List Nat) (up : Nat) (taken : List Nat) (x y : Slot), taken.length + ks.length ≤ 1000 →
    (orderM v.covers ks.length up taken = none → ∀ env, Dn.rt (.lst []) env) → (∀ t, orderM v.covers ks.length up taken = some t → ∀ u x y, Dn.nx [.val (eW v), u, .own ((intsN t).map D.int), x, y]) →
    dLoop 3 lb_order_of0 (ks.map fun (k : Nat) => .int (k : Int)) Dn [.val (eW v), .val (.int (up : Nat)), .own ((intsN taken).map D.int), x, y]
  | [], up, taken, x, y, _, _, h2 => by
    rw [List.map_nil, loop_nil]
    exact h2 taken rfl _ x y
  | k :: ks, up, taken, x, y, hl, h1, h2 => by
    rw [List.map_cons, loop_cons]
    rw [List.length_cons] at hl h1 h2
    unfold orderM at h1 h2
    have h5 := hw.1
    have h6 := hw.2.1
    have hm := @goers_mem v.covers up
    simp [lb_order_of0]
    refine ⟨by omega, ?_⟩
    generalize goersM v.covers up = g at h1 h2 hm ⊢
    cases g with
    | nil =>
      simp
      exact ⟨rfl, h1 rfl _⟩
    | cons s g =>
      have hs := hm (k := s) (by simp)
      have hb := bit_le hs.2
      simp [intsN]
      refine ⟨by omega, by omega, hb, ?_⟩
      have z := loop_order_of (Dn := Dn) hw ks (up - 2 ^ s) (taken ++ [s]) (.val (.int (k : Int))) (.val (eN (s :: g))) (by simp; omega) h1 h2
      simp [lb_order_of0, intsN] at z
      exact z
theorem pure_order_of : ∀ ds Q, f_order_of ds Q → ds.length = 1 ∧ t_order_of ⟨fun _ => Q .non, fun d _ => Q d⟩ (startE 5 ds) := by
  rintro ds Q ⟨v, rfl, hw, q⟩
  refine ⟨rfl, ?_⟩
  have hc : cnt v.up ≤ 6 := by
    unfold cnt
    have := List.length_filter_le (fun k => v.up.testBit k) (List.range 6)
    rw [List.length_range] at this
    exact this
  simp [t_order_of]
  refine ⟨by omega, ?_⟩
  refine loop_order_of hw (List.range (cnt v.up)) v.up [] .un .un (by simp; omega) (fun h env => ?_) fun t h u x y => ?_
  · rw [List.length_range] at h
    rw [h] at q
    exact q
  · rw [List.length_range] at h
    rw [h] at q
    simp
    exact q
end PW
set_option Elab.async false
set_option linter.all false
set_option maxRecDepth 100000
set_option maxHeartbeats 2000000
namespace PW
/-! ### paths -/
inductive Path {α : Type} (next : α → List α) : Nat → α → α → Prop
  | nil (a : α) : Path next 0 a a
  | cons {n : Nat} {a b c : α} (h : b ∈ next a) (p : Path next n b c) : Path next (n + 1) a c
theorem Path.snoc {α : Type} {next : α → List α} {n : Nat} {a b c : α} (p : Path next n a b) (h : c ∈ next b) : Path next (n + 1) a c := by
  induction p with
  | nil a => exact .cons h (.nil _)
  | cons h1 p ih => exact .cons h1 (ih h)
theorem Path.unsnoc {α : Type} {next : α → List α} {a : α} : ∀ {n : Nat} {c : α}, Path next (n + 1) a c → ∃ b, Path next n a b ∧ c ∈ next b := by
  intro n
  induction n generalizing a with
  | zero =>
    intro c p
    cases p with
    | cons h p =>
      cases p with
      | nil => exact ⟨a, .nil a, h⟩
  | succ n ih =>
    intro c p
    cases p with
    | cons h p =>
      obtain ⟨b, p', hb⟩ := ih p
      exact ⟨b, .cons h p', hb⟩
def Least (P : Nat → Prop) : Option Nat → Prop
  | some c => P c ∧ ∀ j < c, ¬ P j
  | none => ∀ j, ¬ P j
theorem least_unique {P : Nat → Prop} : ∀ {o p : Option Nat}, Least P o → Least P p → o = p
  | none, none, _, _ => rfl
  | some c, none, h, g => absurd h.1 (g c)
  | none, some c, h, g => absurd g.1 (h c)
  | some c, some d, h, g => by
    congr 1
    rcases Nat.lt_trichotomy c d with z | z | z
    · exact absurd h.1 (g.2 c z)
    · exact z
    · exact absurd g.1 (h.2 d z)
theorem least_congr {P R : Nat → Prop} (e : ∀ j, P j ↔ R j) {o : Option Nat} (h : Least P o) : Least R o := by
  have : P = R := funext fun j => propext (e j)
  exact this ▸ h
/-! ### the pigeonhole -/
theorem nodup_lt : ∀ {n : Nat} {l : List Nat}, l.Nodup → (∀ x ∈ l, x < n) → l.length ≤ n
  | 0, l, nd, h => by
    cases l with
    | nil => simp
    | cons a l => exact absurd (h a (List.mem_cons_self ..)) (Nat.not_lt_zero _)
  | n + 1, l, nd, h => by
    by_cases hn : n ∈ l
    · have ih := nodup_lt (n := n) (l := l.erase n) (nd.erase n) fun x hx => by
        have hx2 := (List.Nodup.mem_erase_iff nd).mp hx
        have := h x hx2.2
        have := hx2.1
        omega
      rw [List.length_erase_of_mem hn] at ih
      omega
    · have ih := nodup_lt (n := n) (l := l) nd fun x hx => by
        have := h x hx
        have : x ≠ n := fun e => hn (e ▸ hx)
        omega
      omega
theorem nodup_enc {α : Type} {inv : α → Prop} {enc : α → Nat} {n : Nat} (he : ∀ a, inv a → enc a < n) (hi : ∀ a b, inv a → inv b → enc a = enc b → a = b) {l : List α} (nd : l.Nodup) (hl : ∀ x ∈ l, inv x) : l.length ≤ n := by
  have : (l.map enc).Nodup := by
    refine List.Pairwise.map enc (fun x y hxy => ?_) (List.Pairwise.and_mem.mp nd)
    obtain ⟨hx, hy, hne⟩ := hxy
    exact fun e => hne (hi x y (hl x hx) (hl y hy) e)
  have := nodup_lt this fun x hx => by
    obtain ⟨a, ha, rfl⟩ := List.mem_map.mp hx
    exact he a (hl a ha)
  rwa [List.length_map] at this
/-! ### the search of the specification -/
section
variable {α : Type} [BEq α] [LawfulBEq α]
theorem addNew_ext : ∀ {xs l : List α}, ∃ ex, xs.foldl Panels.addNew l = l ++ ex ∧ (l.Nodup → (l ++ ex).Nodup) ∧ ∀ x, x ∈ l ++ ex ↔ x ∈ l ∨ x ∈ xs
  | [], l => ⟨[], by simp, by simp, by simp⟩
  | u :: xs, l => by
    rw [List.foldl_cons]
    unfold Panels.addNew
    by_cases h : u ∈ l
    · rw [if_pos (by simpa using h)]
      obtain ⟨ex, e1, e2, e3⟩ := addNew_ext (xs := xs) (l := l)
      refine ⟨ex, e1, e2, fun x => ?_⟩
      rw [e3, List.mem_cons]
      constructor
      · rintro (z | z)
        · exact .inl z
        · exact .inr (.inr z)
      · rintro (z | rfl | z)
        · exact .inl z
        · exact .inl h
        · exact .inr z
    · rw [if_neg (by simpa using h)]
      obtain ⟨ex, e1, e2, e3⟩ := addNew_ext (xs := xs) (l := l ++ [u])
      refine ⟨u :: ex, by
        have : (fun (l : List α) (x : α) => if l.contains x = true then l else l ++ [x]) = Panels.addNew := rfl
        rw [show (xs.foldl (fun (l : List α) (x : α) => if l.contains x = true then l else l ++ [x]) (l ++ [u])) = xs.foldl Panels.addNew (l ++ [u]) from rfl, e1]
        simp, fun nd => ?_, fun x => ?_⟩
      · have := e2 (by
          rw [List.nodup_append]
          exact ⟨nd, by simp, fun a ha b hb => by
            rw [List.mem_singleton] at hb
            subst hb
            exact fun e => h (e ▸ ha)⟩)
        simpa using this
      · have := e3 x
        rw [List.append_assoc] at this
        rw [show l ++ u :: ex = l ++ ([u] ++ ex) by simp, this, List.mem_append, List.mem_cons (a := x) (b := u) (l := xs), List.mem_singleton, or_assoc]
theorem grown_ext {next : α → List α} {l : List α} : ∃ ex, Panels.grown next l = l ++ ex ∧ (l.Nodup → (l ++ ex).Nodup) ∧ ∀ x, x ∈ l ++ ex ↔ x ∈ l ∨ ∃ y ∈ l, x ∈ next y := by
  obtain ⟨ex, e1, e2, e3⟩ := addNew_ext (xs := l.flatMap next) (l := l)
  refine ⟨ex, e1, e2, fun x => ?_⟩
  rw [e3, List.mem_flatMap]
variable {next : α → List α} {goal : α → Bool} {inv : α → Prop} {enc : α → Nat} {N : Nat}
theorem steps_least (he : ∀ a, inv a → enc a < N) (hi : ∀ a b, inv a → inv b → enc a = enc b → a = b) (hn : ∀ a b, inv a → b ∈ next a → inv b) {s : α} : ∀ (f k : Nat) (l : List α),
    N < f + l.length → l.Nodup → (∀ x ∈ l, inv x) → (∀ x, x ∈ l ↔ ∃ i ≤ k, Path next i s x) → (∀ i < k, ¬ ∃ b, Path next i s b ∧ goal b = true) → k + 1 ≤ l.length →
    Least (fun j => ∃ b, Path next j s b ∧ goal b = true) (Panels.stepsTo next goal f k l) ∧ ∀ c, Panels.stepsTo next goal f k l = some c → c < N
  | 0, k, l, hf, nd, hv, hm, hg, hk => by
    have := nodup_enc he hi nd hv
    omega
  | f + 1, k, l, hf, nd, hv, hm, hg, hk => by
    have hN := nodup_enc he hi nd hv
    unfold Panels.stepsTo
    by_cases ha : l.any goal = true
    · rw [if_pos ha]
      obtain ⟨x, hx, hgx⟩ := List.any_eq_true.mp ha
      obtain ⟨i, hik, p⟩ := (hm x).mp hx
      have : i = k := by
        rcases Nat.lt_or_ge i k with z | z
        · exact absurd ⟨x, p, hgx⟩ (hg i z)
        · omega
      subst this
      refine ⟨⟨⟨x, p, hgx⟩, hg⟩, fun c e => ?_⟩
      have := Option.some.inj e
      omega
    · rw [if_neg ha]
      have hno : ∀ x ∈ l, goal x = false := fun x hx => by
        rw [Bool.eq_false_iff]
        exact fun z => ha (List.any_eq_true.mpr ⟨x, hx, z⟩)
      obtain ⟨ex, e1, e2, e3⟩ := grown_ext (next := next) (l := l)
      rw [e1]
      by_cases hl : (l ++ ex).length = l.length
      · rw [if_pos hl]
        have hex : ex = [] := by
          rw [List.length_append] at hl
          exact List.eq_nil_of_length_eq_zero (by omega)
        subst hex
        refine ⟨fun j hj => ?_, fun c e => by cases e⟩
        obtain ⟨b, p, hb⟩ := hj
        have all : ∀ j b, Path next j s b → b ∈ l := by
          intro j
          induction j with
          | zero =>
            intro b p
            exact (hm b).mpr ⟨0, Nat.zero_le _, p⟩
          | succ j ih =>
            intro b p
            obtain ⟨a, pa, hb⟩ := p.unsnoc
            have := (e3 b).mpr (.inr ⟨a, ih a pa, hb⟩)
            simpa using this
        have := hno b (all j b p)
        rw [this] at hb
        cases hb
      · rw [if_neg hl]
        have hlen : (l ++ ex).length = l.length + ex.length := List.length_append
        refine steps_least he hi hn f (k + 1) (l ++ ex) (by omega) (e2 nd) ?_ ?_ ?_ (by omega)
        · intro x hx
          rcases (e3 x).mp hx with z | ⟨y, hy, z⟩
          · exact hv x z
          · exact hn y x (hv y hy) z
        · intro x
          rw [e3]
          constructor
          · rintro (z | ⟨y, hy, z⟩)
            · obtain ⟨i, h1, p⟩ := (hm x).mp z
              exact ⟨i, by omega, p⟩
            · obtain ⟨i, h1, p⟩ := (hm y).mp hy
              exact ⟨i + 1, by omega, p.snoc z⟩
          · rintro ⟨i, h1, p⟩
            rcases Nat.lt_or_ge k i with z | z
            · have : i = k + 1 := by omega
              subst this
              obtain ⟨a, pa, hb⟩ := p.unsnoc
              exact .inr ⟨a, (hm a).mpr ⟨k, Nat.le_refl _, pa⟩, hb⟩
            · exact .inl ((hm x).mpr ⟨i, z, p⟩)
        · intro i h1
          rintro ⟨b, p, hb⟩
          have := hno b ((hm b).mpr ⟨i, by omega, p⟩)
          rw [this] at hb
          cases hb
theorem steps_start (he : ∀ a, inv a → enc a < N) (hi : ∀ a b, inv a → inv b → enc a = enc b → a = b) (hn : ∀ a b, inv a → b ∈ next a → inv b) {s : α} (hs : inv s) {f : Nat} (hf : N ≤ f) :
    Least (fun j => ∃ b, Path next j s b ∧ goal b = true) (Panels.stepsTo next goal f 0 [s]) ∧ ∀ c, Panels.stepsTo next goal f 0 [s] = some c → c < N := by
  refine steps_least he hi hn f 0 [s] (by simp; omega) (by simp) (by simpa using hs) (fun x => ?_) (fun i h => absurd h (Nat.not_lt_zero _)) (by simp)
  rw [List.mem_singleton]
  constructor
  · rintro rfl
    exact ⟨0, Nat.le_refl _, .nil _⟩
  · rintro ⟨i, h, p⟩
    have : i = 0 := by omega
    subst this
    cases p
    rfl
/-- a shorter path -/
theorem path_short (he : ∀ a, inv a → enc a < N) (hi : ∀ a b, inv a → inv b → enc a = enc b → a = b) (hn : ∀ a b, inv a → b ∈ next a → inv b) {s b : α} (hs : inv s) {j : Nat} (p : Path next j s b) : ∃ i ≤ j, i < N ∧ Path next i s b := by
  have h := steps_start (goal := fun x => x == b) he hi hn hs (f := N) (Nat.le_refl _)
  cases hh : Panels.stepsTo next (fun x => x == b) N 0 [s] with
  | none =>
    rw [hh] at h
    exact absurd ⟨b, p, by simp⟩ (h.1 j)
  | some c =>
    rw [hh] at h
    obtain ⟨b', p', hb'⟩ := h.1.1
    have : b' = b := by simpa using hb'
    subst this
    refine ⟨c, ?_, h.2 c rfl, p'⟩
    rcases Nat.lt_or_ge j c with z | z
    · exact absurd ⟨b', p, by simp⟩ (h.1.2 j z)
    · exact z
end
/-! ### the tables of the program -/
def wnext (ways : List (List Nat)) (m : Nat) : List Nat := ways.getD m []
theorem wnext_lt {ways : List (List Nat)} {N : Nat} (h : WaysOk ways N) {m o : Nat} (ho : o ∈ wnext ways m) : o < N := by
  unfold wnext at ho
  by_cases hm : m < ways.length
  · rw [show ways.getD m [] = ways[m] by simp [hm]] at ho
    exact h.2 _ (List.getElem_mem hm) o ho
  · rw [show ways.getD m [] = [] by simp [hm]] at ho
    simp at ho
theorem fold_least {f : Nat → Nat} : ∀ (near : List Nat) (l v : Nat), near.foldl (fun l o => if f o + 1 < l then f o + 1 else l) l ≤ v ↔ l ≤ v ∨ ∃ o ∈ near, f o + 1 ≤ v
  | [], l, v => by simp
  | o :: near, l, v => by
    rw [List.foldl_cons, fold_least near]
    by_cases h : f o + 1 < l
    · rw [if_pos h]
      constructor
      · rintro (z | ⟨p, hp, z⟩)
        · exact .inr ⟨o, List.mem_cons_self .., z⟩
        · exact .inr ⟨p, List.mem_cons_of_mem _ hp, z⟩
      · rintro (z | ⟨p, hp, z⟩)
        · exact .inl (by omega)
        · rcases List.mem_cons.mp hp with rfl | hp
          · exact .inl z
          · exact .inr ⟨p, hp, z⟩
    · rw [if_neg h]
      constructor
      · rintro (z | ⟨p, hp, z⟩)
        · exact .inl z
        · exact .inr ⟨p, List.mem_cons_of_mem _ hp, z⟩
      · rintro (z | ⟨p, hp, z⟩)
        · exact .inl z
        · rcases List.mem_cons.mp hp with rfl | hp
          · exact .inl (by omega)
          · exact .inr ⟨p, hp, z⟩
theorem nearer_le {best : List Nat} {m v : Nat} {near : List Nat} : nearerM best m near ≤ v ↔ best.getD m 0 ≤ v ∨ ∃ o ∈ near, best.getD o 0 + 1 ≤ v := fold_least (f := fun o => best.getD o 0) near _ v
theorem stepB_get {ways : List (List Nat)} {best : List Nat} {m : Nat} (h : m < best.length) : (stepB ways best).getD m 0 = nearerM best m (wnext ways m) := by
  unfold stepB wnext
  simp [h]
theorem itB_le {ways : List (List Nat)} {N : Nat} (hw : WaysOk ways N) : ∀ (n : Nat) (base : List Nat) (m v : Nat), base.length = N → m < N →
    ((itB ways n base).getD m 0 ≤ v ↔ ∃ j ≤ n, ∃ b, Path (wnext ways) j m b ∧ base.getD b 0 + j ≤ v)
  | 0, base, m, v, hb, hm => by
    constructor
    · intro h
      exact ⟨0, Nat.le_refl _, m, .nil m, h⟩
    · rintro ⟨j, hj, b, p, h⟩
      have : j = 0 := by omega
      subst this
      cases p
      exact h
  | n + 1, base, m, v, hb, hm => by
    have lt : ∀ {j m b}, m < N → Path (wnext ways) j m b → b < N := by
      intro j m b hm p
      induction p with
      | nil a => exact hm
      | cons h p ih => exact ih (wnext_lt hw h)
    rw [itB, itB_le hw n (stepB ways base) m v (by rw [stepB_len, hb]) hm]
    constructor
    · rintro ⟨j, hj, b, p, h⟩
      rw [stepB_get (by rw [hb]; exact lt hm p)] at h
      have h' : nearerM base b (wnext ways b) ≤ v - j := by omega
      have hjv : j ≤ v := by omega
      rcases nearer_le.mp h' with z | ⟨o, ho, z⟩
      · exact ⟨j, by omega, b, p, by omega⟩
      · exact ⟨j + 1, by omega, o, p.snoc ho, by omega⟩
    · rintro ⟨j, hj, b, p, h⟩
      rcases Nat.lt_or_ge n j with z | z
      · have : j = n + 1 := by omega
        subst this
        obtain ⟨a, pa, hb2⟩ := p.unsnoc
        refine ⟨n, Nat.le_refl _, a, pa, ?_⟩
        rw [stepB_get (by rw [hb]; exact lt hm pa)]
        have : nearerM base a (wnext ways a) ≤ v - n := nearer_le.mpr (.inr ⟨b, hb2, by omega⟩)
        omega
      · refine ⟨j, z, b, p, ?_⟩
        rw [stepB_get (by rw [hb]; exact lt hm p)]
        have : nearerM base b (wnext ways b) ≤ v - j := nearer_le.mpr (.inl (by omega))
        omega
theorem spread_le {ways : List (List Nat)} {base : List Nat} (hw : WaysOk ways base.length) {m v : Nat} (hm : m < base.length) :
    (spreadM base ways).getD m 0 ≤ v ↔ ∃ j b, Path (wnext ways) j m b ∧ base.getD b 0 + j ≤ v := by
  unfold spreadM
  rw [itB_le hw _ base m v rfl hm]
  constructor
  · rintro ⟨j, _, b, p, h⟩
    exact ⟨j, b, p, h⟩
  · rintro ⟨j, b, p, h⟩
    obtain ⟨i, h1, h2, p'⟩ := path_short (next := wnext ways) (inv := fun m => m < base.length) (enc := fun m => m) (N := base.length) (fun a h => h) (fun a b _ _ e => e) (fun a b _ h => wnext_lt hw h) hm p
    exact ⟨i, by omega, b, p', by omega⟩
/-- how far the table reaches -/
theorem spread_bound {ways : List (List Nat)} {base : List Nat} (hw : WaysOk ways base.length) {m j b : Nat} (hm : m < base.length) (p : Path (wnext ways) j m b) : (spreadM base ways).getD m 0 ≤ base.getD b 0 + base.length := by
  obtain ⟨i, h1, h2, p'⟩ := path_short (next := wnext ways) (inv := fun m => m < base.length) (enc := fun m => m) (N := base.length) (fun a h => h) (fun a b _ _ e => e) (fun a b _ h => wnext_lt hw h) hm p
  exact (spread_le hw hm).mpr ⟨i, b, p', by omega⟩
end PW
set_option Elab.async false
set_option linter.all false
set_option maxRecDepth 100000
set_option maxHeartbeats 2000000
namespace PW
open Panels (Move Magnets Up Sheet isFree hasMagnet isSafe magnetCount canMove afterMove allMoves nextOf isInHand fewestOf firstOf spareOf looseOf without withMagnet)
def encM : Move → Stp
  | .put i => (3, i, i)
  | .off i => (4, i, i)
  | .shift i j => (5, i, j)
theorem calm_get {ss : List Sheet} {up on : List Bool} {w : Nat} (hw : w ≤ 6) (ok : ∀ s ∈ ss, SheetOk w s) (hl : on.length = w) : (calmT (ss.map coverM) (marksB up) w).getD (marksB on) false = isSafe ss up on := by
  have hlt : marksB on < 2 ^ w := hl ▸ marks_lt
  unfold calmT isSafe
  rw [← loose_eq hw ok]
  simp [hlt]
theorem safe_off {ss : List Sheet} {up on : List Bool} {w i : Nat} (hw : w ≤ 6) (ok : ∀ s ∈ ss, SheetOk w s) (hl : on.length = w) (h : hasMagnet on i = true) : (calmT (ss.map coverM) (marksB up) w).getD (marksB on - 2 ^ i) false = isSafe ss up (without on i) := by
  have e : marksB on - 2 ^ i = marksB (without on i) := (marks_off h).symm
  rw [e]
  exact calm_get hw ok (by unfold without; rw [List.length_set, hl])
theorem puts_eq {ss : List Sheet} {up on : List Bool} {w t : Nat} (hw : w ≤ 6) (ok : ∀ s ∈ ss, SheetOk w s) (hl : on.length = w) :
    putsM (calmT (ss.map coverM) (marksB up) w) w t (marksB on) = (((List.range w).map Move.put).filter (canMove ss up t on)).map encM := by
  rw [List.filter_map, List.map_map]
  unfold putsM
  rw [calm_get hw ok hl, cnt_marks (by omega)]
  have hc : ∀ i ∈ List.range w, (canMove ss up t on ∘ Move.put) i = (!(marksB on).testBit i && (decide (magnetCount on < t) && isSafe ss up on)) := fun i hi => by
    have := List.mem_range.mp hi
    show (isFree on i && _) = _
    unfold isFree hasMagnet
    rw [marks_bit, hl, decide_eq_true this, Bool.true_and]
  rw [List.filter_congr hc]
  by_cases h : isSafe ss up on = false ∨ t ≤ (on.filter id).length
  · rw [if_pos h]
    have : (List.range w).filter (fun i => !(marksB on).testBit i && (decide (magnetCount on < t) && isSafe ss up on)) = [] := by
      rw [List.filter_eq_nil_iff]
      intro i hi
      rcases h with h | h
      · rw [h]
        simp
      · have : decide (magnetCount on < t) = false := decide_eq_false (by unfold magnetCount; omega)
        rw [this]
        simp
    rw [this]
    rfl
  · rw [if_neg h]
    have h1 : isSafe ss up on = true := by
      cases hs : isSafe ss up on with
      | true => rfl
      | false => exact absurd (.inl hs) h
    have h2 : decide (magnetCount on < t) = true := decide_eq_true (by
      unfold magnetCount
      have : ¬ t ≤ (on.filter id).length := fun z => h (.inr z)
      omega)
    rw [h1, h2]
    simp [encM, Function.comp_def]
theorem offs_eq {ss : List Sheet} {up on : List Bool} {w t : Nat} (hw : w ≤ 6) (ok : ∀ s ∈ ss, SheetOk w s) (hl : on.length = w) :
    offsM (calmT (ss.map coverM) (marksB up) w) w (marksB on) = (((List.range w).map Move.off).filter (canMove ss up t on)).map encM := by
  rw [List.filter_map, List.map_map]
  unfold offsM
  have hc : ∀ i ∈ List.range w, ((marksB on).testBit i && (calmT (ss.map coverM) (marksB up) w).getD (marksB on - 2 ^ i) false) = (canMove ss up t on ∘ Move.off) i := fun i hi => by
    show _ = (hasMagnet on i && _)
    rw [marks_bit]
    show (hasMagnet on i && _) = _
    cases hh : hasMagnet on i with
    | false => rfl
    | true => rw [safe_off hw ok hl hh]
  rw [List.filter_congr hc]
  rfl
theorem shifts_eq {ss : List Sheet} {up on : List Bool} {w t : Nat} (hw : w ≤ 6) (ok : ∀ s ∈ ss, SheetOk w s) (hl : on.length = w) :
    shiftsM (calmT (ss.map coverM) (marksB up) w) w (marksB on) = (((List.range w).flatMap fun i => (List.range w).map fun j => Move.shift i j).filter (canMove ss up t on)).map encM := by
  rw [List.filter_flatMap, List.map_flatMap]
  unfold shiftsM
  congr 1
  funext i
  rw [List.filter_map, List.map_map]
  have hb : (marksB on).testBit i = hasMagnet on i := marks_bit
  rw [hb]
  have hc : ∀ j ∈ List.range w, (canMove ss up t on ∘ fun j => Move.shift i j) j = (hasMagnet on i && (!(marksB on).testBit j && isSafe ss up (without on i))) := fun j hj => by
    have := List.mem_range.mp hj
    show (hasMagnet on i && (isFree on j && _)) = _
    unfold isFree
    rw [marks_bit, hl, decide_eq_true this, Bool.true_and]
    rfl
  rw [List.filter_congr hc]
  cases hh : hasMagnet on i with
  | false =>
    simp
  | true =>
    rw [safe_off hw ok hl hh]
    cases isSafe ss up (without on i) with
    | false => simp
    | true => simp [encM, Function.comp_def]
theorem steps_eq {ss : List Sheet} {up on : List Bool} {w t : Nat} (hw : w ≤ 6) (ok : ∀ s ∈ ss, SheetOk w s) (hl : on.length = w) :
    stepsM (calmT (ss.map coverM) (marksB up) w) w t (marksB on) = ((allMoves w).filter (canMove ss up t on)).map encM := by
  unfold stepsM allMoves
  rw [puts_eq hw ok hl, offs_eq (t := t) hw ok hl, shifts_eq (t := t) hw ok hl]
  rw [List.filter_append, List.filter_append, List.map_append, List.map_append, List.append_assoc]
theorem landed_eq {ss : List Sheet} {up on : List Bool} {t : Nat} {mv : Move} (h : canMove ss up t on mv = true) : landedM (marksB on) (encM mv) = marksB (afterMove on mv) := by
  cases mv with
  | put i =>
    have h1 : isFree on i = true := by
      have : (isFree on i && _) = true := h
      rw [Bool.and_eq_true] at this
      exact this.1
    unfold isFree at h1
    rw [Bool.and_eq_true] at h1
    exact (marks_on (of_decide_eq_true h1.1) (by simpa [hasMagnet] using h1.2)).symm
  | off i =>
    have h1 : hasMagnet on i = true := by
      have : (hasMagnet on i && _) = true := h
      rw [Bool.and_eq_true] at this
      exact this.1
    exact (marks_off h1).symm
  | shift i j =>
    have h0 : (hasMagnet on i && (isFree on j && _)) = true := h
    rw [Bool.and_eq_true, Bool.and_eq_true] at h0
    obtain ⟨h1, h2, _⟩ := h0
    unfold isFree at h2
    rw [Bool.and_eq_true] at h2
    have hj := of_decide_eq_true h2.1
    have hi : i < on.length := by
      apply Classical.byContradiction
      intro z
      unfold hasMagnet at h1
      rw [List.getD_eq_getElem?_getD, List.getElem?_eq_none (by omega)] at h1
      cases h1
    have e2 : (on.set i false).getD j false = false := by
      rw [getD_set hi]
      by_cases e : j = i
      · rw [if_pos e]
      · rw [if_neg e]
        simpa [hasMagnet] using h2.2
    show marksB on - 2 ^ i + 2 ^ j = marksB ((on.set i false).set j true)
    rw [marks_on (by rw [List.length_set]; exact hj) e2, marks_off h1]
theorem filterMap_if {α β : Type} {p : α → Bool} {f : α → β} : ∀ {l : List α}, (l.filterMap fun m => if p m = true then some (f m) else none) = (l.filter p).map f
  | [] => rfl
  | a :: l => by
    rw [List.filterMap_cons, List.filter_cons]
    cases hp : p a with
    | true =>
      simp only [if_true]
      rw [filterMap_if, List.map_cons]
    | false =>
      simp only [if_neg Bool.false_ne_true]
      exact filterMap_if
theorem next_eq {ss : List Sheet} {up on : List Bool} {w t : Nat} (hw : w ≤ 6) (ok : ∀ s ∈ ss, SheetOk w s) (hl : on.length = w) :
    wnext (waysM (ss.map coverM) (marksB up) w t) (marksB on) = (nextOf ss up t on).map marksB := by
  have hlt : marksB on < 2 ^ w := hl ▸ marks_lt
  unfold wnext waysM nextOf
  rw [filterMap_if, hl, List.map_map]
  rw [show (((List.range (2 ^ w)).map fun m => (stepsM (calmT (ss.map coverM) (marksB up) w) w t m).map (landedM m)).getD (marksB on) []) = (stepsM (calmT (ss.map coverM) (marksB up) w) w t (marksB on)).map (landedM (marksB on)) by simp [hlt]]
  rw [steps_eq hw ok hl, List.map_map]
  refine List.map_congr_left fun mv hm => ?_
  exact landed_eq (List.mem_filter.mp hm).2
theorem after_len {on : List Bool} {mv : Move} : (afterMove on mv).length = on.length := by
  cases mv <;> simp [afterMove, withMagnet, without]
theorem next_len {ss : List Sheet} {up on on' : List Bool} {t : Nat} (h : on' ∈ nextOf ss up t on) : on'.length = on.length := by
  unfold nextOf at h
  rw [filterMap_if] at h
  obtain ⟨mv, _, rfl⟩ := List.mem_map.mp h
  exact after_len
theorem path_len {ss : List Sheet} {up : List Bool} {t j : Nat} {on on' : List Bool} (p : Path (nextOf ss up t) j on on') : on'.length = on.length := by
  induction p with
  | nil a => rfl
  | cons h p ih => rw [ih, next_len h]
theorem path_to {ss : List Sheet} {up : List Bool} {w t j : Nat} (hw : w ≤ 6) (ok : ∀ s ∈ ss, SheetOk w s) {on on' : List Bool} (p : Path (nextOf ss up t) j on on') : on.length = w → Path (wnext (waysM (ss.map coverM) (marksB up) w t)) j (marksB on) (marksB on') := by
  induction p with
  | nil a => exact fun _ => .nil _
  | @cons n a b c h p ih =>
    intro hl
    have hb : b.length = w := by rw [next_len h, hl]
    refine .cons (b := marksB b) ?_ (ih hb)
    rw [next_eq hw ok hl]
    exact List.mem_map.mpr ⟨b, h, rfl⟩
theorem path_back {ss : List Sheet} {up : List Bool} {w t j : Nat} (hw : w ≤ 6) (ok : ∀ s ∈ ss, SheetOk w s) {m b : Nat} (p : Path (wnext (waysM (ss.map coverM) (marksB up) w t)) j m b) : ∀ on : List Bool, on.length = w → m = marksB on → ∃ on' : List Bool, on'.length = w ∧ b = marksB on' ∧ Path (nextOf ss up t) j on on' := by
  induction p with
  | nil a => exact fun on hl e => ⟨on, hl, e, .nil on⟩
  | @cons n a b c h p ih =>
    intro on hl e
    rw [e, next_eq hw ok hl] at h
    obtain ⟨on1, h1, e1⟩ := List.mem_map.mp h
    obtain ⟨on', l', e', p'⟩ := ih on1 (by rw [next_len h1, hl]) e1.symm
    exact ⟨on', l', e', .cons h1 p'⟩
theorem path_iff {ss : List Sheet} {up : List Bool} {w t j : Nat} (hw : w ≤ 6) (ok : ∀ s ∈ ss, SheetOk w s) {on on' : List Bool} (hl : on.length = w) (hl' : on'.length = w) : Path (wnext (waysM (ss.map coverM) (marksB up) w t)) j (marksB on) (marksB on') ↔ Path (nextOf ss up t) j on on' := by
  constructor
  · intro p
    obtain ⟨o, l, e, p'⟩ := path_back hw ok p on hl rfl
    rw [marks_inj (by rw [hl', l]) e]
    exact p'
  · exact fun p => path_to hw ok p hl
/-! ### the fewest moves -/
theorem free_get {ss : List Sheet} {up on : List Bool} {w k : Nat} (hw : w ≤ 6) (ok : ∀ s ∈ ss, SheetOk w s) (hl : on.length = w) : (freeT (ss.map coverM) (marksB up) w k).getD (marksB on) 0 = if isInHand ss up k on = true then 0 else 1000000 := by
  have hlt : marksB on < 2 ^ w := hl ▸ marks_lt
  unfold freeT isInHand
  rw [show (((List.range (2 ^ w)).map fun m => if looseM (ss.map coverM) (marksB up) m = [k] then 0 else 1000000).getD (marksB on) 0) = if looseM (ss.map coverM) (marksB up) (marksB on) = [k] then 0 else 1000000 by simp [hlt]]
  rw [loose_eq hw ok]
  by_cases h : looseOf ss up on = [k]
  · rw [if_pos h, if_pos (by simpa using h)]
  · rw [if_neg h, if_neg (by simpa using h)]
def FarBig (n : Nat) : Prop := 1000000 ≤ n
theorem pow64 {w : Nat} (h : w ≤ 6) : 2 ^ w ≤ 64 := pow_le h
/-- what the table of the fewest moves says -/
theorem table_least {ss : List Sheet} {up on : List Bool} {w t k : Nat} (hw : w ≤ 6) (ok : ∀ s ∈ ss, SheetOk w s) (hl : on.length = w) :
    Least (fun j => ∃ on', Path (nextOf ss up t) j on on' ∧ isInHand ss up k on' = true) (knownM ((spreadM (freeT (ss.map coverM) (marksB up) w k) (waysM (ss.map coverM) (marksB up) w t)).getD (marksB on) 0)) := by
  have hlt : marksB on < 2 ^ w := hl ▸ marks_lt
  have hfl := free_len (ss.map coverM) (marksB up) w k
  have hwo : WaysOk (waysM (ss.map coverM) (marksB up) w t) (freeT (ss.map coverM) (marksB up) w k).length := by rw [hfl]; exact ways_ok _ _ _ _
  have key := fun v => spread_le (v := v) hwo (m := marksB on) (by rw [hfl]; exact hlt)
  have bnd := fun (j b : Nat) => spread_bound hwo (m := marksB on) (j := j) (b := b) (by rw [hfl]; exact hlt)
  rw [hfl] at bnd
  have h64 := pow64 hw
  have hz : ∀ b on' : _, on'.length = w → b = marksB on' → isInHand ss up k on' = true → (freeT (ss.map coverM) (marksB up) w k).getD b 0 = 0 := fun b on' l e g => by rw [e, free_get hw ok l, if_pos g]
  generalize (spreadM (freeT (ss.map coverM) (marksB up) w k) (waysM (ss.map coverM) (marksB up) w t)).getD (marksB on) 0 = T at key bnd ⊢
  unfold knownM
  by_cases hT : T < 1000000
  · rw [if_pos hT]
    constructor
    · obtain ⟨j, b, p, h⟩ := (key T).mp (Nat.le_refl _)
      obtain ⟨on', l', e', p'⟩ := path_back hw ok p on hl rfl
      have hb := free_get (k := k) (up := up) hw ok l'
      rw [← e'] at hb
      by_cases g : isInHand ss up k on' = true
      · rw [if_pos g] at hb
        have hj : T ≤ j := (key j).mpr ⟨j, b, p, by omega⟩
        have : j = T := by omega
        subst this
        exact ⟨on', p', g⟩
      · rw [if_neg g] at hb
        omega
    · rintro j hj ⟨on', p', g⟩
      have l' : on'.length = w := by rw [path_len p', hl]
      have : T ≤ j := (key j).mpr ⟨j, _, path_to hw ok p' hl, by rw [hz _ on' l' rfl g]; omega⟩
      omega
  · rw [if_neg hT]
    rintro j ⟨on', p', g⟩
    have l' : on'.length = w := by rw [path_len p', hl]
    have := bnd j _ (path_to hw ok p' hl)
    rw [hz _ on' l' rfl g] at this
    omega
theorem fewest_least {ss : List Sheet} {up on : List Bool} {t k : Nat} :
    Least (fun j => ∃ on', Path (nextOf ss up t) j on on' ∧ isInHand ss up k on' = true) (fewestOf ss up t on k) := by
  have := steps_start (next := nextOf ss up t) (goal := isInHand ss up k) (inv := fun o : List Bool => o.length = on.length) (enc := marksB) (N := 2 ^ on.length) (fun a h => h ▸ marks_lt) (fun a b h1 h2 e => marks_inj (by rw [h1, h2]) e) (fun a b h1 h2 => by rw [next_len h2, h1]) (s := on) rfl (f := 2 ^ on.length + 1) (by omega)
  exact this.1
theorem table_fewest {ss : List Sheet} {up on : List Bool} {w t k : Nat} (hw : w ≤ 6) (ok : ∀ s ∈ ss, SheetOk w s) (hl : on.length = w) :
    knownM ((spreadM (freeT (ss.map coverM) (marksB up) w k) (waysM (ss.map coverM) (marksB up) w t)).getD (marksB on) 0) = fewestOf ss up t on k := least_unique (table_least hw ok hl) fewest_least
/-! ### for scripts -/
theorem mag_total {b : Panels.Script} (h : Inv b) : magM (wallM b) = Panels.totalIn b := by
  unfold magM
  show cnt (marksB (Panels.sceneIn b).1) + (Panels.totalIn b - magnetCount (Panels.sceneIn b).1) = _
  rw [cnt_marks (by rw [h.on]; exact h.six)]
  have := h.tot
  unfold magnetCount at this ⊢
  omega
theorem moves_fewest {b : Panels.Script} (h : Inv b) (t k : Nat) (on : List Bool) (hl : on.length = (Panels.spotNames b).length) : knownM ((movesT (wallM b) t k).getD (marksB on) 0) = fewestOf (Panels.sheetsIn b) (Panels.sceneIn b).2 t on k := table_fewest h.six (inv_sheet h) hl
theorem fewest_eq {b : Panels.Script} (h : Inv b) (k : Nat) : fewestM (wallM b) k = Panels.fewestIn b k := by
  unfold fewestM Panels.fewestIn
  rw [mag_total h]
  exact moves_fewest h _ k _ h.on
theorem spare_eq {b : Panels.Script} (h : Inv b) (k : Nat) : spareM (wallM b) k = Panels.spareIn b k := by
  unfold spareM Panels.spareIn spareOf
  have e : (wallM b).spots.length = (Panels.sceneIn b).1.length := h.on.symm
  rw [e]
  congr 1
  funext d
  have := moves_fewest h (cnt (wallM b).held + d) k _ h.on
  have ec : cnt (wallM b).held = magnetCount (Panels.sceneIn b).1 := cnt_marks (by rw [h.on]; exact h.six)
  rw [ec] at this ⊢
  rw [← this]
  unfold knownM
  show decide ((movesT (wallM b) _ k).getD (marksB (Panels.sceneIn b).1) 0 < 1000000) = _
  by_cases hc : (movesT (wallM b) (magnetCount (Panels.sceneIn b).1 + d) k).getD (marksB (Panels.sceneIn b).1) 0 < 1000000
  · rw [if_pos hc, decide_eq_true hc]; rfl
  · rw [if_neg hc, decide_eq_false hc]; rfl
theorem find_map {α β : Type} {f : α → β} {p : β → Bool} : ∀ {l : List α}, (l.map f).find? p = (l.find? (p ∘ f)).map f
  | [] => rfl
  | a :: l => by
    rw [List.map_cons, List.find?_cons, List.find?_cons]
    show (match p (f a) with | true => _ | false => _) = Option.map f (match p (f a) with | true => _ | false => _)
    cases p (f a) with
    | true => rfl
    | false => exact find_map
theorem find_filter {α : Type} {p q : α → Bool} : ∀ {l : List α}, (l.filter p).find? q = l.find? fun a => p a && q a
  | [] => rfl
  | a :: l => by
    rw [List.filter_cons, List.find?_cons]
    cases hp : p a with
    | true =>
      rw [if_pos rfl, List.find?_cons, Bool.true_and, find_filter]
    | false =>
      rw [if_neg Bool.false_ne_true, Bool.false_and]
      exact find_filter
theorem find_congr {α : Type} {p q : α → Bool} (h : ∀ a, p a = q a) {l : List α} : l.find? p = l.find? q := by rw [show p = q from funext h]
theorem known_some {n c : Nat} (h : c < 1000000) : knownM n = some c ↔ n = c := by
  unfold knownM
  by_cases hn : n < 1000000
  · rw [if_pos hn]
    simp
  · rw [if_neg hn]
    simp
    omega
theorem first_eq {b : Panels.Script} (h : Inv b) (k : Nat) : firstM (wallM b) k = ((firstOf (Panels.sheetsIn b) (Panels.sceneIn b).2 (Panels.totalIn b) (Panels.sceneIn b).1 k).map encM).toList := by
  unfold firstM firstOf
  rw [mag_total h]
  have hf := moves_fewest h (Panels.totalIn b) k _ h.on
  have hsl : (wallM b).spots.length = (Panels.sceneIn b).1.length := h.on.symm
  have hh : (wallM b).held = marksB (Panels.sceneIn b).1 := rfl
  have hst := steps_eq (ss := Panels.sheetsIn b) (up := (Panels.sceneIn b).2) (t := Panels.totalIn b) h.six (inv_sheet h) h.on
  rw [hh, ← hf]
  have hnext : ∀ mv, canMove (Panels.sheetsIn b) (Panels.sceneIn b).2 (Panels.totalIn b) (Panels.sceneIn b).1 mv = true → knownM ((movesT (wallM b) (Panels.totalIn b) k).getD (landedM (marksB (Panels.sceneIn b).1) (encM mv)) 0) = fewestOf (Panels.sheetsIn b) (Panels.sceneIn b).2 (Panels.totalIn b) (afterMove (Panels.sceneIn b).1 mv) k := fun mv hm => by
    rw [landed_eq hm]
    exact moves_fewest h _ k _ (by rw [after_len]; exact h.on)
  generalize hT : (movesT (wallM b) (Panels.totalIn b) k).getD (marksB (Panels.sceneIn b).1) 0 = T
  by_cases h0 : T = 0 ∨ 1000000 ≤ T
  · rw [if_pos h0]
    have : knownM T = some 0 ∨ knownM T = none := by
      unfold knownM
      rcases h0 with h0 | h0
      · subst h0; exact .inl rfl
      · rw [if_neg (by omega)]; exact .inr rfl
    rcases this with e | e <;> rw [e] <;> rfl
  · rw [if_neg h0]
    obtain ⟨c, rfl⟩ : ∃ c, T = c + 1 := ⟨T - 1, by omega⟩
    have e : knownM (c + 1) = some (c + 1) := by
      unfold knownM
      rw [if_pos (by omega)]
    rw [e]
    show (((stepsM (calmT ((Panels.sheetsIn b).map coverM) (marksB (Panels.sceneIn b).2) (Panels.spotNames b).length) (Panels.spotNames b).length (Panels.totalIn b) (marksB (Panels.sceneIn b).1))).find? _).toList = _
    rw [hst, find_map, find_filter, ← h.on]
    congr 2
    refine find_congr fun mv => ?_
    cases hm : canMove (Panels.sheetsIn b) (Panels.sceneIn b).2 (Panels.totalIn b) (Panels.sceneIn b).1 mv with
    | false => rfl
    | true =>
      rw [Bool.true_and, Bool.true_and, ← hnext mv hm]
      show decide ((movesT (wallM b) (Panels.totalIn b) k).getD (landedM (marksB (Panels.sceneIn b).1) (encM mv)) 0 + 1 = c + 1) = _
      rw [Bool.eq_iff_iff]
      rw [decide_eq_true_iff, beq_iff_eq, known_some (by omega)]
      omega
end PW
set_option Elab.async false
set_option linter.all false
set_option maxRecDepth 100000
set_option maxHeartbeats 2000000
namespace PW
open Panels (Move Magnets Up Sheet Scene isFree hasMagnet isSafe isUp isHeld magnetCount canMove afterMove allMoves nextOf looseOf without withMagnet takenFrom takeLoose nextScenes areAway clearOf spotsOf)
inductive Opt (ss : List Sheet) (t : Nat) : List Bool → List Bool → Nat → Prop
  | done {up on : List Bool} (h : up.any id = false) : Opt ss t up on 0
  | take {up on : List Bool} {k j : Nat} (h : looseOf ss up on = [k]) (p : Opt ss t (takenFrom up k) on j) : Opt ss t up on j
  | move {up on on' : List Bool} {j : Nat} (h : on' ∈ nextOf ss up t on) (p : Opt ss t up on' j) : Opt ss t up on (j + 1)
def Sub (a b : List Bool) : Prop := ∀ k, isUp a k = true → isUp b k = true
theorem any_iff {up : List Bool} : up.any id = false ↔ ∀ k, isUp up k = false := by
  unfold isUp
  constructor
  · intro h k
    rw [List.getD_eq_getElem?_getD]
    by_cases hk : k < up.length
    · rw [List.getElem?_eq_getElem hk]
      have := List.any_eq_false.mp h _ (List.getElem_mem hk)
      simpa using this
    · rw [List.getElem?_eq_none (by omega)]
      rfl
  · intro h
    rw [List.any_eq_false]
    intro x hx
    obtain ⟨k, hk, rfl⟩ := List.mem_iff_getElem.mp hx
    have := h k
    rw [List.getD_eq_getElem?_getD, List.getElem?_eq_getElem hk] at this
    simpa using this
theorem loose_sub {ss : List Sheet} {a b on : List Bool} (h : Sub a b) : looseOf ss a on = (looseOf ss b on).filter (isUp a) := by
  unfold looseOf
  rw [List.filter_filter]
  refine List.filter_congr fun k _ => ?_
  cases ha : isUp a k with
  | false => simp
  | true => rw [h k ha]; simp
theorem safe_sub {ss : List Sheet} {a b on : List Bool} (h : Sub a b) (hs : isSafe ss b on = true) : isSafe ss a on = true := by
  unfold isSafe at hs ⊢
  have h1 := of_decide_eq_true hs
  have h2 := List.length_filter_le (isUp a) (looseOf ss b on)
  rw [← loose_sub h] at h2
  exact decide_eq_true (by omega)
theorem can_sub {ss : List Sheet} {a b on : List Bool} {t : Nat} {mv : Move} (h : Sub a b) (hc : canMove ss b t on mv = true) : canMove ss a t on mv = true := by
  cases mv with
  | put i =>
    have h0 : (isFree on i && (decide (magnetCount on < t) && isSafe ss b on)) = true := hc
    show (isFree on i && (decide (magnetCount on < t) && isSafe ss a on)) = true
    rw [Bool.and_eq_true, Bool.and_eq_true] at h0 ⊢
    exact ⟨h0.1, h0.2.1, safe_sub h h0.2.2⟩
  | off i =>
    have h0 : (hasMagnet on i && isSafe ss b (without on i)) = true := hc
    show (hasMagnet on i && isSafe ss a (without on i)) = true
    rw [Bool.and_eq_true] at h0 ⊢
    exact ⟨h0.1, safe_sub h h0.2⟩
  | shift i j =>
    have h0 : (hasMagnet on i && (isFree on j && isSafe ss b (without on i))) = true := hc
    show (hasMagnet on i && (isFree on j && isSafe ss a (without on i))) = true
    rw [Bool.and_eq_true, Bool.and_eq_true] at h0 ⊢
    exact ⟨h0.1, h0.2.1, safe_sub h h0.2.2⟩
theorem next_sub {ss : List Sheet} {a b on on' : List Bool} {t : Nat} (h : Sub a b) (hn : on' ∈ nextOf ss b t on) : on' ∈ nextOf ss a t on := by
  unfold nextOf at hn ⊢
  rw [filterMap_if] at hn ⊢
  obtain ⟨mv, hm, rfl⟩ := List.mem_map.mp hn
  have := List.mem_filter.mp hm
  exact List.mem_map.mpr ⟨mv, List.mem_filter.mpr ⟨this.1, can_sub h this.2⟩, rfl⟩
theorem isUp_taken {up : List Bool} {k j : Nat} : isUp (takenFrom up k) j = if j = k then false else isUp up j := by
  unfold isUp takenFrom
  by_cases hk : k < up.length
  · exact getD_set hk false
  · rw [List.set_eq_of_length_le (by omega)]
    by_cases e : j = k
    · rw [if_pos e, e, List.getD_eq_getElem?_getD, List.getElem?_eq_none (by omega)]
      rfl
    · rw [if_neg e]
theorem sub_taken {up : List Bool} {k : Nat} : Sub (takenFrom up k) up := fun j h => by
  rw [isUp_taken] at h
  by_cases e : j = k
  · rw [if_pos e] at h; cases h
  · rw [if_neg e] at h; exact h
theorem opt_mono {ss : List Sheet} {t j : Nat} {b on : List Bool} (p : Opt ss t b on j) : ∀ a, Sub a b → Opt ss t a on j := by
  induction p with
  | done h =>
    intro a hs
    refine .done (any_iff.mpr fun k => ?_)
    rw [Bool.eq_false_iff]
    intro z
    have := hs k z
    rw [any_iff.mp h k] at this
    cases this
  | @take up on k j h p ih =>
    intro a hs
    cases hk : isUp a k with
    | true =>
      refine .take (k := k) ?_ (ih _ fun i hi => ?_)
      · rw [loose_sub hs, h, List.filter_cons, hk]
        rfl
      · rw [isUp_taken] at hi ⊢
        by_cases e : i = k
        · rw [if_pos e] at hi; cases hi
        · rw [if_neg e] at hi ⊢; exact hs i hi
    | false =>
      refine ih a fun i hi => ?_
      rw [isUp_taken]
      by_cases e : i = k
      · rw [e, hk] at hi; cases hi
      · rw [if_neg e]; exact hs i hi
  | move h p ih =>
    intro a hs
    exact .move (next_sub hs h) (ih a hs)
theorem take_cases {ss : List Sheet} (on up : List Bool) : (∃ k, looseOf ss up on = [k] ∧ takeLoose ss (on, up) = (on, takenFrom up k)) ∨ ((∀ k, looseOf ss up on ≠ [k]) ∧ takeLoose ss (on, up) = (on, up)) := by
  unfold takeLoose
  simp only
  cases h : looseOf ss up on with
  | nil => exact .inr ⟨fun k => by simp, rfl⟩
  | cons a l =>
    cases l with
    | nil => exact .inl ⟨a, rfl, rfl⟩
    | cons b l => exact .inr ⟨fun k => by simp, rfl⟩
theorem take_back {ss : List Sheet} {t j : Nat} {on up : List Bool} (p : Opt ss t (takeLoose ss (on, up)).2 (takeLoose ss (on, up)).1 j) : Opt ss t up on j := by
  rcases take_cases (ss := ss) on up with ⟨k, h, e⟩ | ⟨h, e⟩
  · rw [e] at p
    exact .take h p
  · rw [e] at p
    exact p
theorem scene_opt {ss : List Sheet} {t j : Nat} {p p' : Scene} (q : Path (nextScenes ss t) j p p') : areAway p' = true → Opt ss t p.2 p.1 j := by
  induction q with
  | nil a =>
    intro h
    exact .done (by unfold areAway at h; simpa using h)
  | @cons n a b c h q ih =>
    intro ha
    have := ih ha
    unfold nextScenes at h
    obtain ⟨on', h1, rfl⟩ := List.mem_map.mp h
    exact .move h1 (take_back this)
theorem stuck_taken {ss : List Sheet} {on up : List Bool} {k : Nat} (h : looseOf ss up on = [k]) : looseOf ss (takenFrom up k) on = [] := by
  rw [loose_sub sub_taken, h, List.filter_cons, isUp_taken, if_pos rfl]
  rfl
theorem take_ok {ss : List Sheet} {t j : Nat} {on up : List Bool} (p : Opt ss t up on j) : Opt ss t (takeLoose ss (on, up)).2 (takeLoose ss (on, up)).1 j ∧ ∀ k, looseOf ss (takeLoose ss (on, up)).2 (takeLoose ss (on, up)).1 ≠ [k] := by
  rcases take_cases (ss := ss) on up with ⟨k, h, e⟩ | ⟨h, e⟩
  · rw [e]
    refine ⟨opt_mono p _ sub_taken, fun i => ?_⟩
    show looseOf ss (takenFrom up k) on ≠ [i]
    rw [stuck_taken h]
    simp
  · rw [e]
    exact ⟨p, h⟩
theorem opt_scene {ss : List Sheet} {t : Nat} : ∀ {j : Nat} {on up : List Bool}, Opt ss t up on j → (∀ k, looseOf ss up on ≠ [k]) → ∃ p', Path (nextScenes ss t) j (on, up) p' ∧ areAway p' = true := by
  intro j
  induction j with
  | zero =>
    intro on up p hs
    cases p with
    | done h => exact ⟨(on, up), .nil _, by unfold areAway; rw [h]; rfl⟩
    | take h p => exact absurd h (hs _)
  | succ j ih =>
    intro on up p hs
    cases p with
    | take h p => exact absurd h (hs _)
    | @move _ _ on' _ h p =>
      have hq := take_ok p
      obtain ⟨p', q, ha⟩ := ih hq.1 hq.2
      exact ⟨p', .cons (b := takeLoose ss (on', up)) (List.mem_map.mpr ⟨on', h, rfl⟩) q, ha⟩
theorem scene_iff {ss : List Sheet} {t j : Nat} {on up : List Bool} : (∃ p', Path (nextScenes ss t) j (takeLoose ss (on, up)) p' ∧ areAway p' = true) ↔ Opt ss t up on j := by
  constructor
  · rintro ⟨p', q, ha⟩
    exact take_back (scene_opt q ha)
  · intro p
    have hq := take_ok p
    exact opt_scene hq.1 hq.2
theorem taken_len {up : List Bool} {k : Nat} : (takenFrom up k).length = up.length := by
  unfold takenFrom
  rw [List.length_set]
theorem takeLoose_len {ss : List Sheet} {p : Scene} : (takeLoose ss p).1.length = p.1.length ∧ (takeLoose ss p).2.length = p.2.length := by
  obtain ⟨on, up⟩ := p
  rcases take_cases (ss := ss) on up with ⟨k, h, e⟩ | ⟨h, e⟩
  · rw [e]
    exact ⟨rfl, taken_len⟩
  · rw [e]
    exact ⟨rfl, rfl⟩
theorem scenes_len {ss : List Sheet} {t : Nat} {p q : Scene} (h : q ∈ nextScenes ss t p) : q.1.length = p.1.length ∧ q.2.length = p.2.length := by
  unfold nextScenes at h
  obtain ⟨on', h1, rfl⟩ := List.mem_map.mp h
  have := takeLoose_len (ss := ss) (p := (on', p.2))
  refine ⟨this.1.trans (next_len h1), this.2⟩
theorem clear_least {ss : List Sheet} {t : Nat} {on up : List Bool} : Least (fun j => Opt ss t up on j) (clearOf ss up t on) := by
  have h := steps_start (next := nextScenes ss t) (goal := areAway) (inv := fun p : Scene => p.1.length = on.length ∧ p.2.length = up.length) (enc := fun p => marksB (p.1 ++ p.2)) (N := 2 ^ on.length * 2 ^ up.length)
    (fun a h => by
      have := marks_lt (l := a.1 ++ a.2)
      rw [List.length_append, h.1, h.2, Nat.pow_add] at this
      exact this)
    (fun a b h1 h2 e => by
      have := marks_inj (by rw [List.length_append, List.length_append, h1.1, h1.2, h2.1, h2.2]) e
      have := List.append_inj this (by rw [h1.1, h2.1])
      exact Prod.ext this.1 this.2)
    (fun a b h1 h2 => by
      have := scenes_len h2
      exact ⟨this.1.trans h1.1, this.2.trans h1.2⟩) (s := takeLoose ss (on, up)) takeLoose_len (f := 2 ^ on.length * 2 ^ up.length + 1) (by omega)
  exact least_congr (fun j => scene_iff) h.1
/-! ### the tables -/
theorem path_opt {ss : List Sheet} {t i j : Nat} {up on on' : List Bool} (q : Path (nextOf ss up t) i on on') : Opt ss t up on' j → Opt ss t up on (j + i) := by
  induction q with
  | nil a => exact fun p => p
  | cons h q ih => exact fun p => .move h (ih p)
theorem marks_zero {up : List Bool} : marksB up = 0 ↔ up.any id = false := by
  rw [any_iff]
  constructor
  · intro h k
    have := marks_bit (l := up) (k := k)
    rw [h] at this
    unfold isUp
    rw [← this]
    simp
  · intro h
    apply Nat.eq_of_testBit_eq
    intro k
    rw [marks_bit]
    have := h k
    unfold isUp at this
    rw [this]
    simp
section
variable {v : WallM} {ss : List Sheet} {w t s : Nat} (hw : w ≤ 6) (ok : ∀ x ∈ ss, SheetOk w x) (hc : v.covers = ss.map coverM) (hsp : v.spots.length = w) (ht : magM v = t) (h5 : s ≤ 6)
def valC (v : WallM) (up on : List Bool) : Nat := (clearT v (marksB up) (tablesM v (marksB up))).getD (marksB on) 0
def Within (v : WallM) (s : Nat) (up : List Bool) : Prop := up.length = s ∧ marksB up &&& v.up = marksB up
theorem within_taken {v : WallM} {s : Nat} {up : List Bool} {k : Nat} (h : Within v s up) (hk : isUp up k = true) : Within v s (takenFrom up k) ∧ marksB (takenFrom up k) = marksB up - 2 ^ k ∧ marksB up - 2 ^ k < marksB up := by
  have e : marksB (takenFrom up k) = marksB up - 2 ^ k := marks_off hk
  have hb : (marksB up).testBit k = true := by rw [marks_bit]; exact hk
  have hle := bit_le hb
  have hp : 0 < 2 ^ k := Nat.two_pow_pos k
  refine ⟨⟨by rw [taken_len, h.1], ?_⟩, e, by omega⟩
  rw [e]
  exact within_sub (w := up.length) h.2 hb marks_lt
theorem loose_up {ss : List Sheet} {up on : List Bool} {k : Nat} (h : k ∈ looseOf ss up on) : isUp up k = true := by
  have := (List.mem_filter.mp h).2
  rw [Bool.and_eq_true] at this
  exact this.1
include hw ok hc hsp
theorem base_get {up on : List Bool} (hu : Within v s up) (hl : on.length = w) : (takesT v (marksB up) (tablesM v (marksB up))).getD (marksB on) 0 = if up.any id = false then 0 else match looseOf ss up on with
    | [k] => valC v (takenFrom up k) on
    | _ => 1000000 := by
  have hlt : marksB on < 2 ^ w := hl ▸ marks_lt
  unfold takesT
  rw [hsp, show (((List.range (2 ^ w)).map fun m => takesM v.covers (marksB up) m (tablesM v (marksB up))).getD (marksB on) 0) = takesM v.covers (marksB up) (marksB on) (tablesM v (marksB up)) by simp [hlt]]
  unfold takesM
  by_cases h0 : up.any id = false
  · rw [if_pos h0, if_pos (marks_zero.mpr h0)]
  · rw [if_neg h0, if_neg fun z => h0 (marks_zero.mp z), hc, loose_eq hw ok]
    cases hlo : looseOf ss up on with
    | nil => rfl
    | cons k l =>
      cases l with
      | cons a l => rfl
      | nil =>
        have hk := loose_up (k := k) (by rw [hlo]; simp)
        have hwt := within_taken hu hk
        show (if 1 = 1 then ((tablesM v (marksB up)).getD (marksB up - 2 ^ k) []).getD (marksB on) 0 else 1000000) = valC v (takenFrom up k) on
        rw [if_pos rfl, tables_get v hwt.2.2, ← hwt.2.1, if_pos hwt.1.2]
        rfl
include ht
theorem val_le {up on : List Bool} (hu : Within v s up) (hl : on.length = w) {x : Nat} : valC v up on ≤ x ↔ ∃ j on', on'.length = w ∧ Path (nextOf ss up t) j on on' ∧ (takesT v (marksB up) (tablesM v (marksB up))).getD (marksB on') 0 + j ≤ x := by
  have hlt : marksB on < 2 ^ w := hl ▸ marks_lt
  have hfl := takesT_len v (marksB up) (tablesM v (marksB up))
  rw [hsp] at hfl
  have hwo : WaysOk (waysM v.covers (marksB up) v.spots.length (magM v)) (takesT v (marksB up) (tablesM v (marksB up))).length := by rw [hfl, hsp]; exact ways_ok _ _ _ _
  unfold valC clearT
  rw [spread_le hwo (by rw [hfl]; exact hlt), hc, hsp, ht]
  constructor
  · rintro ⟨j, b, p, h⟩
    obtain ⟨on', l', e', p'⟩ := path_back hw ok p on hl rfl
    exact ⟨j, on', l', p', by rw [← e']; exact h⟩
  · rintro ⟨j, on', l', p', h⟩
    exact ⟨j, marksB on', path_to hw ok p' hl, h⟩
theorem val_bound {up on on' : List Bool} {j : Nat} (hu : Within v s up) (hl : on.length = w) (p : Path (nextOf ss up t) j on on') : valC v up on ≤ (takesT v (marksB up) (tablesM v (marksB up))).getD (marksB on') 0 + 64 := by
  have hlt : marksB on < 2 ^ w := hl ▸ marks_lt
  have hfl := takesT_len v (marksB up) (tablesM v (marksB up))
  rw [hsp] at hfl
  have hwo : WaysOk (waysM v.covers (marksB up) v.spots.length (magM v)) (takesT v (marksB up) (tablesM v (marksB up))).length := by rw [hfl, hsp]; exact ways_ok _ _ _ _
  have h64 := pow64 hw
  have p' := path_to hw ok p hl
  rw [← hc, ← hsp, ← ht] at p'
  have := spread_bound hwo (by rw [hfl]; exact hlt) p'
  unfold valC clearT
  omega
/-- the table is reached -/
theorem val_opt : ∀ (n : Nat) {up on : List Bool}, marksB up < n → Within v s up → on.length = w → valC v up on < 1000000 → ∃ i ≤ valC v up on, Opt ss t up on i
  | 0, up, on, h, _, _, _ => absurd h (Nat.not_lt_zero _)
  | n + 1, up, on, h, hu, hl, hv => by
    obtain ⟨j, on', l', p, hx⟩ := (val_le hw ok hc hsp ht hu hl).mp (Nat.le_refl (valC v up on))
    rw [base_get hw ok hc hsp hu l'] at hx
    by_cases h0 : up.any id = false
    · rw [if_pos h0] at hx
      exact ⟨0 + j, by omega, path_opt p (.done h0)⟩
    · rw [if_neg h0] at hx
      cases hlo : looseOf ss up on' with
      | nil => rw [hlo] at hx; simp only at hx; omega
      | cons k l =>
        cases l with
        | cons a l => rw [hlo] at hx; simp only at hx; omega
        | nil =>
          rw [hlo] at hx
          simp only at hx
          have hk := loose_up (k := k) (by rw [hlo]; simp)
          have hwt := within_taken hu hk
          obtain ⟨i, hi, q⟩ := val_opt n (up := takenFrom up k) (on := on') (by rw [hwt.2.1]; omega) hwt.1 l' (by omega)
          exact ⟨i + j, by omega, path_opt p (.take hlo q)⟩
theorem opt_val {up on : List Bool} {j : Nat} (q : Opt ss t up on j) : Within v s up → on.length = w → valC v up on ≤ j := by
  induction q with
  | @done up on h =>
    intro hu hl
    refine (val_le hw ok hc hsp ht hu hl).mpr ⟨0, on, hl, .nil on, ?_⟩
    rw [base_get hw ok hc hsp hu hl, if_pos h]
    exact Nat.le_refl _
  | @take up on k j h q ih =>
    intro hu hl
    have hk := loose_up (k := k) (by rw [h]; simp)
    have hwt := within_taken hu hk
    refine (val_le hw ok hc hsp ht hu hl).mpr ⟨0, on, hl, .nil on, ?_⟩
    rw [base_get hw ok hc hsp hu hl]
    by_cases h0 : up.any id = false
    · rw [if_pos h0]; omega
    · rw [if_neg h0, h]
      exact ih hwt.1 hl
  | @move up on on' j h q ih =>
    intro hu hl
    have l1 : on'.length = w := by rw [next_len h, hl]
    obtain ⟨i, o, l', p, hx⟩ := (val_le hw ok hc hsp ht hu l1).mp (ih hu l1)
    exact (val_le hw ok hc hsp ht hu hl).mpr ⟨i + 1, o, l', .cons h p, by omega⟩
theorem opt_bound {up on : List Bool} {j : Nat} (q : Opt ss t up on j) : Within v s up → on.length = w → ∃ i on', on'.length = w ∧ Path (nextOf ss up t) i on on' ∧ (takesT v (marksB up) (tablesM v (marksB up))).getD (marksB on') 0 ≤ 64 * magnetCount up := by
  induction q with
  | @done up on h =>
    intro hu hl
    refine ⟨0, on, hl, .nil on, ?_⟩
    rw [base_get hw ok hc hsp hu hl, if_pos h]
    exact Nat.zero_le _
  | @take up on k j h q ih =>
    intro hu hl
    have hk := loose_up (k := k) (by rw [h]; simp)
    have hwt := within_taken hu hk
    obtain ⟨i, o, l', p, hx⟩ := ih hwt.1 hl
    refine ⟨0, on, hl, .nil on, ?_⟩
    rw [base_get hw ok hc hsp hu hl]
    have hb := val_bound hw ok hc hsp ht hwt.1 hl p
    have hm : magnetCount (takenFrom up k) + 1 = magnetCount up := mag_off hk
    by_cases h0 : up.any id = false
    · rw [if_pos h0]; omega
    · rw [if_neg h0, h]
      show valC v (takenFrom up k) on ≤ _
      omega
  | @move up on on' j h q ih =>
    intro hu hl
    have l1 : on'.length = w := by rw [next_len h, hl]
    obtain ⟨i, o, l', p, hx⟩ := ih hu l1
    exact ⟨i + 1, o, l', .cons h p, hx⟩
include h5
theorem val_least {up on : List Bool} (hu : Within v s up) (hl : on.length = w) : Least (fun j => Opt ss t up on j) (knownM (valC v up on)) := by
  unfold knownM
  by_cases hT : valC v up on < 1000000
  · rw [if_pos hT]
    obtain ⟨i, hi, q⟩ := val_opt hw ok hc hsp ht (marksB up + 1) (by omega) hu hl hT
    have hq := opt_val hw ok hc hsp ht q hu hl
    have : i = valC v up on := by omega
    subst this
    refine ⟨q, fun j hj q' => ?_⟩
    have := opt_val hw ok hc hsp ht q' hu hl
    omega
  · rw [if_neg hT]
    intro j q
    obtain ⟨i, o, l', p, hx⟩ := opt_bound hw ok hc hsp ht q hu hl
    have hb := val_bound hw ok hc hsp ht hu hl p
    have := mag_le up
    have := hu.1
    omega
end
theorem clear_eq {b : Panels.Script} (h : Inv b) : clearM (wallM b) = Panels.clearIn b := by
  have hwf := inv_wf h
  refine least_unique (val_least (v := wallM b) (ss := Panels.sheetsIn b) (t := Panels.totalIn b) (s := (Panels.sheetNames b).length) h.six (inv_sheet h) rfl rfl (mag_total h) (by have := h.five; omega) (up := (Panels.sceneIn b).2) (on := (Panels.sceneIn b).1) ⟨h.up, Nat.and_self _⟩ h.on) clear_least
/-! ### with magnets enough -/
theorem all_iff {w : Nat} {s r : List Nat} (hw : w ≤ 6) (o1 : SheetOk w s) (o2 : SheetOk w r) : (coverM s &&& coverM r = coverM s) ↔ (s.all fun i => r.contains i) = true := by
  rw [and_self_iff]
  have c1 : ∀ k, (coverM s).testBit k = s.contains k := fun k => cover_bit o1.1 fun i hi => Nat.lt_of_lt_of_le (o1.2 i hi) hw
  have c2 : ∀ k, (coverM r).testBit k = r.contains k := fun k => cover_bit o2.1 fun i hi => Nat.lt_of_lt_of_le (o2.2 i hi) hw
  rw [List.all_eq_true]
  constructor
  · intro h i hi
    have := h i (by rw [c1]; simpa using hi)
    rw [c2] at this
    exact this
  · intro h k hk
    rw [c1] at hk
    rw [c2]
    exact h k (by simpa using hk)
theorem go_eq {ss : List Sheet} {up : List Bool} {w k : Nat} (hw : w ≤ 6) (ok : ∀ x ∈ ss, SheetOk w x) (hk : k < ss.length) : canGoM (ss.map coverM) (marksB up) k = (isUp up k && Panels.isOpen ss up k) := by
  unfold canGoM Panels.isOpen
  rw [marks_bit, List.length_map]
  show (isUp up k && _) = _
  congr 1
  rw [Bool.eq_iff_iff, List.all_eq_true, List.all_eq_true]
  have each : ∀ j ∈ List.range ss.length, (!(decide (j ≠ k) && ((marksB up).testBit j && decide ((ss.map coverM).getD j 0 &&& (ss.map coverM).getD k 0 = (ss.map coverM).getD j 0)))) = (j == k || !isUp up j || !(spotsOf ss j).all fun i => (spotsOf ss k).contains i) := by
    intro j hj
    have hjl := List.mem_range.mp hj
    have ej : (ss.map coverM).getD j 0 = coverM (spotsOf ss j) := by unfold spotsOf; simp [hjl]
    have ek : (ss.map coverM).getD k 0 = coverM (spotsOf ss k) := by unfold spotsOf; simp [hk]
    rw [ej, ek, marks_bit]
    have o1 : SheetOk w (spotsOf ss j) := ok _ (by unfold spotsOf; simp [hjl])
    have o2 : SheetOk w (spotsOf ss k) := ok _ (by unfold spotsOf; simp [hk])
    have e3 : decide (coverM (spotsOf ss j) &&& coverM (spotsOf ss k) = coverM (spotsOf ss j)) = (spotsOf ss j).all fun i => (spotsOf ss k).contains i := by
      rw [Bool.eq_iff_iff, decide_eq_true_iff]
      exact all_iff hw o1 o2
    rw [e3]
    show (!(decide (j ≠ k) && (isUp up j && _))) = _
    have e4 : decide (j ≠ k) = !(j == k) := by
      by_cases e : j = k
      · simp [e]
      · simp [e]
    rw [e4]
    cases j == k <;> cases isUp up j <;> cases (spotsOf ss j).all fun i => (spotsOf ss k).contains i <;> rfl
  constructor
  · intro h j hj
    rw [← each j hj]; exact h j hj
  · intro h j hj
    rw [each j hj]; exact h j hj
theorem goers_eq {ss : List Sheet} {up : List Bool} {w : Nat} (hw : w ≤ 6) (ok : ∀ x ∈ ss, SheetOk w x) : goersM (ss.map coverM) (marksB up) = Panels.openOf ss up := by
  unfold goersM Panels.openOf
  rw [List.length_map]
  exact List.filter_congr fun k hk => go_eq hw ok (List.mem_range.mp hk)
theorem open_up {ss : List Sheet} {up : List Bool} {k : Nat} (h : k ∈ Panels.openOf ss up) : isUp up k = true := by
  have := (List.mem_filter.mp h).2
  rw [Bool.and_eq_true] at this
  exact this.1
theorem count_zero {up : List Bool} (h : magnetCount up = 0) : up.any id = false := by
  rw [List.any_eq_false]
  intro x hx z
  have : x ∈ up.filter id := List.mem_filter.mpr ⟨hx, z⟩
  have := List.length_pos_of_mem this
  unfold magnetCount at h
  omega
theorem count_pos {up : List Bool} (h : 0 < magnetCount up) : up.any id = true := by
  unfold magnetCount at h
  obtain ⟨x, hx⟩ := List.exists_mem_of_length_pos h
  have := List.mem_filter.mp hx
  exact List.any_eq_true.mpr ⟨x, this.1, this.2⟩
theorem order_go {ss : List Sheet} {w : Nat} (hw : w ≤ 6) (ok : ∀ x ∈ ss, SheetOk w x) : ∀ (n f : Nat) (up : List Bool) (taken : List Nat), magnetCount up = n → n ≤ f → orderM (ss.map coverM) n (marksB up) taken = (Panels.orderFrom ss f up).map fun l => taken ++ l
  | 0, f, up, taken, hn, hf => by
    have h0 := count_zero hn
    cases f with
    | zero => simp [orderM, Panels.orderFrom, h0]
    | succ f => simp [orderM, Panels.orderFrom, h0]
  | n + 1, 0, up, taken, hn, hf => by omega
  | n + 1, f + 1, up, taken, hn, hf => by
    have h1 := count_pos (up := up) (by omega)
    unfold orderM Panels.orderFrom
    rw [goers_eq hw ok, if_pos h1]
    cases hg : Panels.openOf ss up with
    | nil => rfl
    | cons k g =>
      have hk := open_up (k := k) (by rw [hg]; simp)
      have e : marksB up - 2 ^ k = marksB (takenFrom up k) := (marks_off hk).symm
      have hm : magnetCount (takenFrom up k) + 1 = magnetCount up := mag_off hk
      show orderM (ss.map coverM) n (marksB up - 2 ^ k) (taken ++ [k]) = _
      rw [e, order_go hw ok n f (takenFrom up k) (taken ++ [k]) (by omega) (by omega)]
      simp only [List.head?_cons, Option.bind_some, Option.map_map]
      congr 1
      funext l
      simp
theorem order_eq {b : Panels.Script} (h : Inv b) : orderM (wallM b).covers (cnt (wallM b).up) (wallM b).up [] = Panels.orderOf (Panels.sheetsIn b) (Panels.sceneIn b).2 := by
  have ec : cnt (wallM b).up = magnetCount (Panels.sceneIn b).2 := cnt_marks (by rw [h.up]; have := h.five; omega)
  rw [ec]
  unfold Panels.orderOf
  have := order_go h.six (inv_sheet h) (magnetCount (Panels.sceneIn b).2) (Panels.sceneIn b).2.length (Panels.sceneIn b).2 [] rfl (mag_le _)
  show orderM ((Panels.sheetsIn b).map coverM) _ (marksB (Panels.sceneIn b).2) [] = _
  rw [this]
  simp
theorem can_eq {b : Panels.Script} (h : Inv b) : goersM (wallM b).covers (wallM b).up = Panels.openOf (Panels.sheetsIn b) (Panels.sceneIn b).2 := goers_eq h.six (inv_sheet h)
end PW
set_option Elab.async false
set_option linter.all false
set_option maxRecDepth 100000
set_option maxHeartbeats 2000000
namespace PW
open Panels (problemNumber octetOf numberShown toldShown faultShown panelCheck scriptCheck textCheck readScript Told Result Fault sheetName spotName)
@[simp] theorem toM_wall {b : Panels.Script} : (toM b).wall = wallM b := rfl
def Chars (u : Units) : Prop := ∀ c ∈ u, c.toNat < 256
/-! ### names -/
theorem item_chars {i : Panels.Item} (h : ItemOk i) {u : Units} (hu : u ∈ rowOf i) : Chars u ∧ u.length ≤ 1000 := by
  refine ⟨h.chars u hu, ?_⟩
  have h1 := h.size
  have : ∀ row : List Units, u ∈ row → u.length ≤ sizeM row := by
    intro row
    induction row with
    | nil => intro z; simp at z
    | cons p row ih =>
      intro z
      unfold sizeM at ih ⊢
      rcases List.mem_cons.mp z with rfl | z
      · simp; omega
      · have := ih z
        simp
        omega
  have := this _ hu
  omega
theorem sheet_item {b : Panels.Script} {e : Units × List Units} (h : e ∈ Panels.sheetItems b) : ∃ i ∈ b, e.1 ∈ rowOf i ∧ ∀ u ∈ e.2, u ∈ rowOf i := by
  unfold Panels.sheetItems at h
  obtain ⟨i, hi, hx⟩ := List.mem_filterMap.mp h
  cases i with
  | sheet n a l =>
    have : (n, a :: l) = e := Option.some.inj hx
    subst this
    refine ⟨_, hi, ?_⟩
    rw [row_sheet]
    refine ⟨by simp, fun u hu => ?_⟩
    simp at hu ⊢
    rcases hu with hu | hu
    · exact .inr (.inr (.inl hu))
    · exact .inr (.inr (.inr hu))
  | _ => cases hx
theorem name_ok {b : Panels.Script} (h : Inv b) (k : Nat) : Chars (sheetName b k) ∧ (sheetName b k).length ≤ 1000 := by
  unfold sheetName
  by_cases hk : k < (Panels.sheetNames b).length
  · have hm : (Panels.sheetNames b).getD k [] ∈ Panels.sheetNames b := by
      rw [show (Panels.sheetNames b).getD k [] = (Panels.sheetNames b)[k] by simp [hk]]
      exact List.getElem_mem hk
    obtain ⟨e, he, e2⟩ := List.mem_map.mp hm
    obtain ⟨i, hi, h1, _⟩ := sheet_item he
    rw [← e2]
    exact item_chars (h.ok i hi) h1
  · rw [show (Panels.sheetNames b).getD k [] = [] by simp [hk]]
    exact ⟨by intro c hc; simp at hc, by simp⟩
theorem addSpot_mem {u : Units} : ∀ {named sp : List Units}, u ∈ named.foldl Panels.addSpot sp → u ∈ named ∨ u ∈ sp
  | [], sp, h => .inr h
  | a :: named, sp, h => by
    rw [List.foldl_cons] at h
    rcases addSpot_mem h with z | z
    · exact .inl (List.mem_cons_of_mem _ z)
    · rw [addSpot_eq] at z
      by_cases hm : a ∈ sp
      · rw [if_pos hm] at z; exact .inr z
      · rw [if_neg hm] at z
        rcases List.mem_append.mp z with z | z
        · exact .inr z
        · rw [List.mem_singleton] at z
          exact .inl (z ▸ List.mem_cons_self ..)
theorem spot_ok {b : Panels.Script} (h : Inv b) {u : Units} (hu : u ∈ Panels.spotNames b) : Chars u ∧ u.length ≤ 1000 := by
  unfold Panels.spotNames at hu
  rcases addSpot_mem hu with z | z
  · obtain ⟨e, he, hx⟩ := List.mem_flatMap.mp z
    obtain ⟨i, hi, _, h1⟩ := sheet_item he
    exact item_chars (h.ok i hi) (h1 u hx)
  · simp at z
theorem spaced_chars {row : List Units} (h : ∀ p ∈ row, Chars p) : Chars (spacedM row) := by
  intro c hc
  unfold spacedM at hc
  cases row with
  | nil => simp at hc
  | cons t ts =>
    simp only [List.headD_cons, List.drop_succ_cons, List.drop_zero] at hc
    rcases List.mem_append.mp hc with z | z
    · exact h t (List.mem_cons_self ..) c z
    · obtain ⟨p, hp, hx⟩ := List.mem_flatMap.mp z
      rcases List.mem_cons.mp hx with rfl | hx
      · decide
      · exact h p (List.mem_cons_of_mem _ hp) c hx
theorem join_chars : ∀ {us : List Units}, (∀ u ∈ us, Chars u) → Chars (Panels.joinLines us)
  | [], _ => by intro c hc; simp [Panels.joinLines] at hc
  | [u], h => h u (by simp)
  | u :: v :: us, h => by
    intro c hc
    have ih := join_chars (us := v :: us) fun w hw => h w (List.mem_cons_of_mem _ hw)
    unfold Panels.joinLines at hc
    rcases List.mem_append.mp hc with z | z
    · exact h u (List.mem_cons_self ..) c z
    · rcases List.mem_cons.mp z with rfl | z
      · decide
      · exact ih c z
theorem text_ok {b : Panels.Script} (h : Inv b) : Chars (Panels.scriptText b) ∧ (Panels.scriptText b).length ≤ 200000 := by
  constructor
  · refine join_chars fun u hu => ?_
    obtain ⟨i, hi, rfl⟩ := List.mem_map.mp hu
    rw [item_spaced]
    exact spaced_chars fun p hp => (h.ok i hi).chars p hp
  · have h1 := join_len (b.map Panels.itemText)
    have h2 := script_size h
    unfold Panels.scriptText
    omega
/-! ### faults -/
theorem problem_le (p : Units) : problemNumber p ≤ 20 := by
  unfold problemNumber
  have : (Panels.problems.map Panels.units).idxOf p ≤ (Panels.problems.map Panels.units).length := List.idxOf_le_length
  have e : (Panels.problems.map Panels.units).length = 19 := rfl
  omega
theorem octet_small {n : Nat} (h : n < 256) : ((octetOf n).toNat : Int) = (n : Int) := by
  unfold octetOf
  rw [UInt8.toNat_ofNat']
  omega
def f_fault_octets : DSp := fun ds Q => ∃ n p : Nat, ds = [.int n, .int p] ∧ p < 256 ∧ Q (e8 (numberShown n ++ [octetOf p]))
@[simp] theorem i_fault_octets {n p : Nat} {Q : D → Prop} : f_fault_octets [.int (n : Nat), .int (p : Nat)] Q ↔ p < 256 ∧ Q (e8 (numberShown n ++ [octetOf p])) := by simp [f_fault_octets]
def t_fault_octets : DS := (dRet (dL (dCat (dCall f_number_octets (dCons (dVar 0) dNil)) (dL (dDisp (dCons (dVar 1) dNil))))))
theorem pure_fault_octets : ∀ ds Q, f_fault_octets ds Q → ds.length = 2 ∧ t_fault_octets ⟨fun _ => Q .non, fun d _ => Q d⟩ (startE 2 ds) := by
  rintro ds Q ⟨n, p, rfl, hp, q⟩
  refine ⟨rfl, ?_⟩
  simp [t_fault_octets]
  refine ⟨by rw [number_len]; omega, ?_⟩
  simp [e8, eI, ints8, octet_small hp] at q
  simpa [ints8] using q
theorem read_cases (t : Units) : (∃ e, readScript t = .error e) ∨ ∃ b, readScript t = .ok b := by
  cases readScript t with
  | error e => exact .inl ⟨e, rfl⟩
  | ok b => exact .inr ⟨b, rfl⟩
theorem textCheck_iff {t : Units} : textCheck t = if 2000 < t.length then .error .text else .ok () := by
  unfold textCheck Panels.need Panels.mostText
  by_cases h : 2000 < t.length
  · rw [if_pos h, if_neg (by simp; omega)]
  · rw [if_neg h, if_pos (by simp; omega)]
def refuseM (t : Units) : List UInt8 := match panelCheck t with
  | .error f => faultShown f
  | .ok _ => []
def f_refusal : DSp := fun ds Q => ∃ t : Units, ds = [eU t] ∧ t.length ≤ 900000 ∧ Chars t ∧ Q (e8 (refuseM t))
@[simp] theorem i_refusal {t : Units} {Q : D → Prop} : f_refusal [eU t] Q ↔ t.length ≤ 900000 ∧ Chars t ∧ Q (e8 (refuseM t)) := by simp [f_refusal]
def t_refusal : DS := (dSeq (dIfS (dB (dGtI (dLen (dVar 0)) (dC (.int 2000)))) (dRet (dL (dDisp (dCons (dC (.int 0)) (dCons (dC (.int 2)) dNil))))) dNext) (dSeq (dUnp 1 2 3 (dCall f_read_text (dCons (dVar 0) dNil))) (dSeq (dIfS (dB (dGtI (dVar 2) (dC (.int 0)))) (dRet (dL (dCat (dL (dDisp (dCons (dC (.int 0)) (dCons (dC (.int 3)) dNil)))) (dCall f_fault_octets (dCons (dVar 1) (dCons (dVar 2) dNil)))))) dNext) (dSeq (dIfS (dB (dCall f_fallen (dCons (dFld true 0 (dVar 3)) dNil))) (dRet (dL (dDisp (dCons (dC (.int 0)) (dCons (dC (.int 4)) dNil))))) dNext) (dRet (dL (dDisp dNil)))))))
theorem fallen_iff {b : Panels.Script} (h : Inv b) : (1 < (looseM (wallM b).covers (wallM b).up (wallM b).held).length) ↔ Panels.isSafeIn b = false := safe_iff h (Panels.sceneIn b).1
theorem wall_covers {b : Panels.Script} (h : Inv b) : (wallM b).covers.length ≤ 6 := by
  have := inv_wf h
  have h1 := this.1
  have h2 := this.2.1
  omega
theorem pure_refusal : ∀ ds Q, f_refusal ds Q → ds.length = 1 ∧ t_refusal ⟨fun _ => Q .non, fun d _ => Q d⟩ (startE 4 ds) := by
  rintro ds Q ⟨t, rfl, hl, hc, q⟩
  refine ⟨rfl, ?_⟩
  simp [t_refusal]
  unfold refuseM panelCheck scriptCheck at q
  rw [textCheck_iff] at q
  by_cases h2 : 2000 < t.length
  · rw [if_pos h2] at q
    rw [if_pos (by omega)]
    exact q
  · rw [if_neg h2] at q
    rw [if_neg (by omega)]
    refine c_read_text hl hc (fun e s he => ?_) fun b he hb => ?_
    · rw [he] at q
      have := nP_pos e.2
      have := problem_le e.2
      simp
      rw [if_pos (by omega)]
      refine ⟨by omega, by rw [number_len]; omega, ?_⟩
      simp [e8, eI, ints8]
      simpa [Panels.andThen, faultShown, Panels.problemShown, e8, eI, ints8] using q
    · rw [he] at q
      simp
      have hcv := wall_covers hb
      refine ⟨by show (wallM b).covers.length ≤ 7; omega, ?_⟩
      cases hs : Panels.isSafeIn b with
      | true =>
        rw [if_neg fun z => by have := (fallen_iff hb).mp z; rw [hs] at this; cases this]
        simp [Panels.andThen, Panels.need, hs] at q
        exact q
      | false =>
        rw [if_pos ((fallen_iff hb).mpr hs)]
        simp [Panels.andThen, Panels.need, hs] at q
        exact q
def checkTold (t : Units) : Told := Panels.andThen (textCheck t) fun _ => .ok (.fault (Panels.checked t))
def f_check_answer : DSp := fun ds Q => ∃ t : Units, ds = [eU t] ∧ t.length ≤ 900000 ∧ Chars t ∧ Q (e8 (toldShown (checkTold t)))
@[simp] theorem i_check_answer {t : Units} {Q : D → Prop} : f_check_answer [eU t] Q ↔ t.length ≤ 900000 ∧ Chars t ∧ Q (e8 (toldShown (checkTold t))) := by simp [f_check_answer]
def t_check_answer : DS := (dSeq (dIfS (dB (dGtI (dLen (dVar 0)) (dC (.int 2000)))) (dRet (dL (dDisp (dCons (dC (.int 0)) (dCons (dC (.int 2)) dNil))))) dNext) (dSeq (dUnp 1 2 3 (dCall f_read_text (dCons (dVar 0) dNil))) (dSeq (dIfS (dB (dGtI (dVar 2) (dC (.int 0)))) (dRet (dL (dCat (dL (dDisp (dCons (dC (.int 1)) (dCons (dC (.int 1)) dNil)))) (dCall f_fault_octets (dCons (dVar 1) (dCons (dVar 2) dNil)))))) dNext) (dRet (dL (dDisp (dCons (dC (.int 1)) (dCons (dC (.int 0)) dNil))))))))
theorem pure_check_answer : ∀ ds Q, f_check_answer ds Q → ds.length = 1 ∧ t_check_answer ⟨fun _ => Q .non, fun d _ => Q d⟩ (startE 4 ds) := by
  rintro ds Q ⟨t, rfl, hl, hc, q⟩
  refine ⟨rfl, ?_⟩
  simp [t_check_answer]
  unfold checkTold at q
  rw [textCheck_iff] at q
  by_cases h2 : 2000 < t.length
  · rw [if_pos h2] at q
    rw [if_pos (by omega)]
    exact q
  · rw [if_neg h2] at q
    rw [if_neg (by omega)]
    refine c_read_text hl hc (fun e s he => ?_) fun b he hb => ?_
    · have ec : Panels.checked t = some e := by unfold Panels.checked; rw [he]
      rw [ec] at q
      have := nP_pos e.2
      have := problem_le e.2
      simp
      rw [if_pos (by omega)]
      refine ⟨by omega, by rw [number_len]; omega, ?_⟩
      simp [e8, eI, ints8]
      simpa [Panels.andThen, toldShown, Panels.resultShown, Panels.optionShown, Panels.problemShown, e8, eI, ints8] using q
    · have ec : Panels.checked t = none := by unfold Panels.checked; rw [he]
      rw [ec] at q
      simp
      exact q
def formatTold (t : Units) : Told := Panels.andThen (scriptCheck t) fun b => .ok (.text (Panels.scriptText b))
def f_canonical_answer : DSp := fun ds Q => ∃ t : Units, ds = [eU t] ∧ t.length ≤ 900000 ∧ Chars t ∧ Q (e8 (toldShown (formatTold t)))
@[simp] theorem i_canonical_answer {t : Units} {Q : D → Prop} : f_canonical_answer [eU t] Q ↔ t.length ≤ 900000 ∧ Chars t ∧ Q (e8 (toldShown (formatTold t))) := by simp [f_canonical_answer]
def t_canonical_answer : DS := (dSeq (dIfS (dB (dGtI (dLen (dVar 0)) (dC (.int 2000)))) (dRet (dL (dDisp (dCons (dC (.int 0)) (dCons (dC (.int 2)) dNil))))) dNext) (dSeq (dUnp 1 2 3 (dCall f_read_text (dCons (dVar 0) dNil))) (dSeq (dIfS (dB (dGtI (dVar 2) (dC (.int 0)))) (dRet (dL (dCat (dL (dDisp (dCons (dC (.int 0)) (dCons (dC (.int 3)) dNil)))) (dCall f_fault_octets (dCons (dVar 1) (dCons (dVar 2) dNil)))))) dNext) (dRet (dL (dCat (dL (dDisp (dCons (dC (.int 1)) dNil))) (dCall f_text_octets (dCons (dCall f_canonical (dCons (dVar 3) dNil)) dNil))))))))
theorem pure_canonical_answer : ∀ ds Q, f_canonical_answer ds Q → ds.length = 1 ∧ t_canonical_answer ⟨fun _ => Q .non, fun d _ => Q d⟩ (startE 4 ds) := by
  rintro ds Q ⟨t, rfl, hl, hc, q⟩
  refine ⟨rfl, ?_⟩
  simp [t_canonical_answer]
  unfold formatTold scriptCheck at q
  rw [textCheck_iff] at q
  by_cases h2 : 2000 < t.length
  · rw [if_pos h2] at q
    rw [if_pos (by omega)]
    exact q
  · rw [if_neg h2] at q
    rw [if_neg (by omega)]
    refine c_read_text hl hc (fun e s he => ?_) fun b he hb => ?_
    · rw [he] at q
      have := nP_pos e.2
      have := problem_le e.2
      simp
      rw [if_pos (by omega)]
      refine ⟨by omega, by rw [number_len]; omega, ?_⟩
      simp [e8, eI, ints8]
      simpa [Panels.andThen, toldShown, faultShown, Panels.problemShown, e8, eI, ints8] using q
    · rw [he] at q
      have hx := text_ok hb
      simp
      refine c_canonical hb ?_
      simp
      refine ⟨by omega, hx.1, by rw [text_len]; omega, ?_⟩
      exact q
/-! ### answers about a panel -/
theorem move_len {b : Panels.Script} (h : Inv b) {row : List Units} (hr : ∀ u ∈ row, Chars u ∧ u.length ≤ 1000) (hl : row.length ≤ 3) : sizeM row ≤ 4000 ∧ Chars (spacedM row) := by
  refine ⟨?_, spaced_chars fun p hp => (hr p hp).1⟩
  have : ∀ row : List Units, (∀ u ∈ row, u.length ≤ 1000) → sizeM row ≤ 1001 * row.length := by
    intro row
    induction row with
    | nil => intro _; simp [sizeM]
    | cons p row ih =>
      intro h
      have ih := ih fun u hu => h u (List.mem_cons_of_mem _ hu)
      have := h p (List.mem_cons_self ..)
      unfold sizeM at ih ⊢
      simp
      omega
  have := this row fun u hu => (hr u hu).2
  omega
theorem spaced_len {row : List Units} : (spacedM row).length ≤ sizeM row := by
  unfold spacedM sizeM
  cases row with
  | nil => simp
  | cons t ts =>
    simp only [List.headD_cons, List.drop_succ_cons, List.drop_zero, List.map_cons, List.sum_cons, List.length_cons, List.length_append]
    have : (ts.flatMap fun t => (32 : UInt16) :: t).length = (ts.map List.length).sum + ts.length := by
      induction ts with
      | nil => rfl
      | cons u ts ih2 =>
        rw [List.flatMap_cons, List.length_append, ih2]
        simp
        omega
    omega
def movIn (n : Nat) : Panels.Move → Prop
  | .put i => i < n
  | .off i => i < n
  | .shift i j => i < n ∧ j < n
theorem key_word : ∀ k < 7, Chars (keysU.getD k []) ∧ (keysU.getD k []).length ≤ 1000 := by
  intro k hk
  have : k = 0 ∨ k = 1 ∨ k = 2 ∨ k = 3 ∨ k = 4 ∨ k = 5 ∨ k = 6 := by omega
  unfold Chars
  rcases this with rfl | rfl | rfl | rfl | rfl | rfl | rfl <;> decide +kernel
theorem spot_get {b : Panels.Script} {i : Nat} (h : i < (Panels.spotNames b).length) : spotName b i ∈ Panels.spotNames b := by
  unfold spotName
  rw [show (Panels.spotNames b).getD i [] = (Panels.spotNames b)[i] by simp [h]]
  exact List.getElem_mem h
theorem moveLine_ok {b : Panels.Script} (h : Inv b) {mv : Panels.Move} (hm : movIn (Panels.spotNames b).length mv) : sizeM (rowOf (Panels.moveItem b mv)) ≤ 4000 ∧ Chars (Panels.moveLine b mv) ∧ (Panels.moveLine b mv).length ≤ 4000 := by
  have key : (∀ u ∈ rowOf (Panels.moveItem b mv), Chars u ∧ u.length ≤ 1000) ∧ (rowOf (Panels.moveItem b mv)).length ≤ 3 := by
    cases mv with
    | put i =>
      refine ⟨fun u hu => ?_, by show [_, _].length ≤ 3; simp⟩
      have : u = Panels.units "put" ∨ u = spotName b i := by simpa [Panels.moveItem, row_put] using hu
      rcases this with rfl | rfl
      · exact key_word 3 (by decide)
      · exact spot_ok h (spot_get hm)
    | off i =>
      refine ⟨fun u hu => ?_, by show [_, _].length ≤ 3; simp⟩
      have : u = Panels.units "off" ∨ u = spotName b i := by simpa [Panels.moveItem, row_off] using hu
      rcases this with rfl | rfl
      · exact key_word 4 (by decide)
      · exact spot_ok h (spot_get hm)
    | shift i j =>
      refine ⟨fun u hu => ?_, by show [_, _, _].length ≤ 3; simp⟩
      have : u = Panels.units "move" ∨ u = spotName b i ∨ u = spotName b j := by simpa [Panels.moveItem, row_shift] using hu
      rcases this with rfl | rfl | rfl
      · exact key_word 5 (by decide)
      · exact spot_ok h (spot_get hm.1)
      · exact spot_ok h (spot_get hm.2)
  have := move_len h key.1 key.2
  have hs := spaced_len (row := rowOf (Panels.moveItem b mv))
  unfold Panels.moveLine
  rw [item_spaced]
  exact ⟨this.1, this.2, by omega⟩
def f_step_line : DSp := fun ds Q => ∃ (b : Panels.Script) (mv : Panels.Move), ds = [eW (wallM b), eT (encM mv)] ∧ Inv b ∧ movIn (Panels.spotNames b).length mv ∧ Q (eU (Panels.moveLine b mv))
theorem c_step_line {b : Panels.Script} {mv : Panels.Move} {Q : D → Prop} (h : Inv b) (hm : movIn (Panels.spotNames b).length mv) (q : Q (eU (Panels.moveLine b mv))) : f_step_line [eW (wallM b), eT (encM mv)] Q := ⟨b, mv, rfl, h, hm, q⟩
def t_step_line : DS := (dSeq (dUnp 2 3 4 (dVar 1)) (dSeq (dOwn 5 (dDisp (dCons (dCall f_letters_of (dCons (dIx (dC (.tup (keysW.map D.str))) (dVar 2)) dNil)) (dCons (dIx (dFld false 2 (dVar 0)) (dVar 3)) dNil)))) (dSeq (dIfS (dB (dEqI (dVar 2) (dC (.int 5)))) (dApp 5 (dIx (dFld false 2 (dVar 0)) (dVar 4))) dNext) (dRet (dCall f_spaced (dCons (dVar 5) dNil))))))
theorem pure_step_line : ∀ ds Q, f_step_line ds Q → ds.length = 2 ∧ t_step_line ⟨fun _ => Q .non, fun d _ => Q d⟩ (startE 6 ds) := by
  rintro ds Q ⟨b, mv, rfl, h, hm, q⟩
  refine ⟨rfl, ?_⟩
  have hz := moveLine_ok h hm
  unfold Panels.moveLine at q
  rw [item_spaced] at q
  have h6 := h.six
  have hz := hz.1
  have k3 := keysW_at (k := 3) (by decide)
  have k4 := keysW_at (k := 4) (by decide)
  have k5 := keysW_at (k := 5) (by decide)
  cases mv with
  | put i =>
    have hi : i < (wallM b).spots.length := hm
    have e : rowOf (Panels.moveItem b (.put i)) = [keysU.getD 3 [], (wallM b).spots[i]] := by
      show [Panels.units "put", spotName b i] = _
      unfold spotName
      simp [keysU, wallM] at hi ⊢
      simp [hi]
    rw [e] at q hz
    simp [t_step_line, encM, eT, hi, k3]
    refine c_letters_of (by decide) ?_
    show f_spaced [eL [keysU.getD 3 [], (wallM b).spots[i]]] _
    rw [i_spaced]
    exact ⟨by simp, by omega, q⟩
  | off i =>
    have hi : i < (wallM b).spots.length := hm
    have e : rowOf (Panels.moveItem b (.off i)) = [keysU.getD 4 [], (wallM b).spots[i]] := by
      show [Panels.units "off", spotName b i] = _
      unfold spotName
      simp [keysU, wallM] at hi ⊢
      simp [hi]
    rw [e] at q hz
    simp [t_step_line, encM, eT, hi, k4]
    refine c_letters_of (by decide) ?_
    show f_spaced [eL [keysU.getD 4 [], (wallM b).spots[i]]] _
    rw [i_spaced]
    exact ⟨by simp, by omega, q⟩
  | shift i j =>
    have hi : i < (wallM b).spots.length := hm.1
    have hj : j < (wallM b).spots.length := hm.2
    have e : rowOf (Panels.moveItem b (.shift i j)) = [keysU.getD 5 [], (wallM b).spots[i], (wallM b).spots[j]] := by
      show [Panels.units "move", spotName b i, spotName b j] = _
      unfold spotName
      simp [keysU, wallM] at hi hj ⊢
      simp [hi, hj]
    rw [e] at q hz
    simp [t_step_line, encM, eT, hi, hj, k5]
    refine c_letters_of (by decide) ?_
    show f_spaced [eL [keysU.getD 5 [], (wallM b).spots[i], (wallM b).spots[j]]] _
    rw [i_spaced]
    exact ⟨by simp, by omega, q⟩
theorem all_in {n : Nat} {mv : Panels.Move} (h : mv ∈ Panels.allMoves n) : movIn n mv := by
  unfold Panels.allMoves at h
  rcases List.mem_append.mp h with h | h
  · obtain ⟨i, hi, rfl⟩ := List.mem_map.mp h
    exact List.mem_range.mp hi
  · rcases List.mem_append.mp h with h | h
    · obtain ⟨i, hi, rfl⟩ := List.mem_map.mp h
      exact List.mem_range.mp hi
    · obtain ⟨i, hi, hx⟩ := List.mem_flatMap.mp h
      obtain ⟨j, hj, rfl⟩ := List.mem_map.mp hx
      exact ⟨List.mem_range.mp hi, List.mem_range.mp hj⟩
theorem first_in {ss : List Panels.Sheet} {up on : List Bool} {t k : Nat} {mv : Panels.Move} (h : Panels.firstOf ss up t on k = some mv) : movIn on.length mv := by
  unfold Panels.firstOf at h
  cases hf : Panels.fewestOf ss up t on k with
  | none => rw [hf] at h; cases h
  | some c =>
    rw [hf] at h
    cases c with
    | zero => cases h
    | succ c => exact all_in (List.mem_of_find?_eq_some h)
def sheetTold (kd : Nat) (b : Panels.Script) (s : Units) : Told := Panels.andThen (Panels.ofOption (Panels.sheetFrom b s) .sheet) fun k => Panels.andThen (Panels.need (!Panels.isAway b k) .away) fun _ => .ok (if kd = 3 then .count (Panels.fewestIn b k) else if kd = 4 then .textThere (Panels.firstIn b k) else .count (Panels.spareIn b k))
def f_sheet_answer : DSp := fun ds Q => ∃ (kd : Nat) (b : Panels.Script) (s : Units), ds = [.int kd, eW (wallM b), eU s] ∧ Inv b ∧ Q (e8 (toldShown (sheetTold kd b s)))
theorem c_sheet_answer {kd : Nat} {b : Panels.Script} {s : Units} {Q : D → Prop} (h : Inv b) (q : Q (e8 (toldShown (sheetTold kd b s)))) : f_sheet_answer [.int (kd : Nat), eW (wallM b), eU s] Q := ⟨kd, b, s, rfl, h, q⟩
def t_sheet_answer : DS := (dSeq (dSet 3 (dCall f_place_of (dCons (dFld false 0 (dVar 1)) (dCons (dVar 2) dNil)))) (dSeq (dIfS (dB (dLtI (dVar 3) (dC (.int 0)))) (dRet (dL (dDisp (dCons (dC (.int 0)) (dCons (dC (.int 5)) dNil))))) dNext) (dSeq (dIfS (dNotT (dB (dCall f_has (dCons (dFld false 5 (dVar 1)) (dCons (dVar 3) dNil))))) (dRet (dL (dDisp (dCons (dC (.int 0)) (dCons (dC (.int 6)) dNil))))) dNext) (dSeq (dIfS (dB (dEqI (dVar 0) (dC (.int 3)))) (dRet (dL (dCat (dL (dDisp (dCons (dC (.int 1)) dNil))) (dCall f_option_number (dCons (dCall f_fewest (dCons (dVar 1) (dCons (dVar 3) dNil))) dNil))))) dNext) (dSeq (dIfS (dB (dEqI (dVar 0) (dC (.int 4)))) (dRet (dL (dCat (dL (dDisp (dCons (dC (.int 1)) dNil))) (dCall f_option_text (dCons (dL (dLc 4 (dItL (dCall f_first (dCons (dVar 1) (dCons (dVar 3) dNil)))) dYes (dCall f_step_line (dCons (dVar 1) (dCons (dVar 4) dNil))))) dNil))))) dNext) (dRet (dL (dCat (dL (dDisp (dCons (dC (.int 1)) dNil))) (dCall f_option_number (dCons (dCall f_spare (dCons (dVar 1) (dCons (dVar 3) dNil))) dNil))))))))))
theorem held_lt {b : Panels.Script} (h : Inv b) : (wallM b).held < 2 ^ (wallM b).spots.length := by
  have : marksB (Panels.sceneIn b).1 < 2 ^ (Panels.sceneIn b).1.length := marks_lt
  rw [h.on] at this
  exact this
theorem up_lt {b : Panels.Script} (h : Inv b) : (wallM b).up < 2 ^ (wallM b).names.length := by
  have : marksB (Panels.sceneIn b).2 < 2 ^ (Panels.sceneIn b).2.length := marks_lt
  rw [h.up] at this
  exact this
theorem num_len (o : Option Nat) : (Panels.optionShown numberShown o).length ≤ 5 := by
  cases o <;> simp [Panels.optionShown, number_len]
theorem otext_len (o : Option Units) (h : ∀ u ∈ o, u.length ≤ 4000) : (Panels.optionShown Panels.textShown o).length ≤ 4005 := by
  cases o with
  | none => simp [Panels.optionShown]
  | some u =>
    have := h u rfl
    simp only [Panels.optionShown, List.length_cons, text_len]
    omega
theorem pure_sheet_answer : ∀ ds Q, f_sheet_answer ds Q → ds.length = 3 ∧ t_sheet_answer ⟨fun _ => Q .non, fun d _ => Q d⟩ (startE 5 ds) := by
  rintro ds Q ⟨kd, b, s, rfl, h, q⟩
  refine ⟨rfl, ?_⟩
  have hw := inv_wf h
  have h5 := h.five
  have hn : (wallM b).names = Panels.sheetNames b := rfl
  unfold sheetTold Panels.sheetFrom at q
  simp [t_sheet_answer, placeOf_neg]
  refine ⟨by rw [hn]; omega, ?_⟩
  by_cases hm : s ∈ (wallM b).names
  · rw [if_pos hm]
    have hm' : s ∈ Panels.sheetNames b := hm
    rw [if_pos (by simpa using hm')] at q
    have hi := List.idxOf_lt_length_iff.mpr hm
    rw [placeOf_mem hm]
    simp
    refine ⟨by rw [hn] at hi; rw [hn]; omega, ?_⟩
    have hb : (wallM b).up.testBit ((wallM b).names.idxOf s) = !Panels.isAway b (Panels.sheetIn b s) := by
      show (marksB (Panels.sceneIn b).2).testBit _ = _
      rw [marks_bit]
      unfold Panels.isAway Panels.isUp Panels.sheetIn
      rw [Bool.not_not]
      rfl
    rw [hb]
    show if (!Panels.isAway b (Panels.sheetIn b s)) = true then _ else _
    cases ha : Panels.isAway b (Panels.sheetIn b s) with
    | true =>
      simp [Panels.andThen, Panels.ofOption, Panels.need, ha] at q
      simp
      exact q
    | false =>
      simp [Panels.andThen, Panels.ofOption, Panels.need, ha] at q
      simp
      have hh := held_lt h
      have hk : (wallM b).names.idxOf s = Panels.sheetIn b s := rfl
      rw [hk]
      generalize Panels.sheetIn b s = k at q ⊢
      by_cases h3 : kd = 3
      · rw [if_pos h3] at q
        rw [if_pos (by omega)]
        refine ⟨hw, hh, ?_, ?_⟩
        · have := num_len (fewestM (wallM b) k)
          omega
        · rw [fewest_eq h]
          exact q
      · rw [if_neg h3] at q
        rw [if_neg (by omega)]
        by_cases h4 : kd = 4
        · rw [if_pos h4] at q
          rw [if_pos (by omega)]
          refine ⟨hw, hh, ?_⟩
          rw [first_eq h]
          have e1 : ((Panels.firstOf (Panels.sheetsIn b) (Panels.sceneIn b).2 (Panels.totalIn b) (Panels.sceneIn b).1 k).map encM).toList.map eT = (Panels.firstOf (Panels.sheetsIn b) (Panels.sceneIn b).2 (Panels.totalIn b) (Panels.sceneIn b).1 k).toList.map fun mv => eT (encM mv) := by
            cases Panels.firstOf (Panels.sheetsIn b) (Panels.sceneIn b).2 (Panels.totalIn b) (Panels.sceneIn b).1 k <;> rfl
          rw [e1]
          have hin : ∀ mv, Panels.firstOf (Panels.sheetsIn b) (Panels.sceneIn b).2 (Panels.totalIn b) (Panels.sceneIn b).1 k = some mv → movIn (Panels.spotNames b).length mv := fun mv e => by
            have := first_in e
            rw [h.on] at this
            exact this
          refine ⟨by cases Panels.firstOf (Panels.sheetsIn b) (Panels.sceneIn b).2 (Panels.totalIn b) (Panels.sceneIn b).1 k <;> simp, ?_⟩
          refine lcD_all (fun mv => eT (encM mv)) (fun mv => eU (Panels.moveLine b mv)) _ (fun mv hmv R r => ?_) ?_
          · simp
            refine c_step_line h (hin mv (by simpa using hmv)) r
          · have hfi : Panels.firstIn b k = (Panels.firstOf (Panels.sheetsIn b) (Panels.sceneIn b).2 (Panels.totalIn b) (Panels.sceneIn b).1 k).map (Panels.moveLine b) := rfl
            have hok : ∀ u ∈ Panels.firstIn b k, Chars u ∧ u.length ≤ 4000 := fun u hu => by
              rw [hfi] at hu
              obtain ⟨mv, e, rfl⟩ := Option.map_eq_some_iff.mp hu
              exact (moveLine_ok h (hin mv e)).2
            have e2 : D.lst ((Panels.firstOf (Panels.sheetsIn b) (Panels.sceneIn b).2 (Panels.totalIn b) (Panels.sceneIn b).1 k).toList.map fun mv => eU (Panels.moveLine b mv)) = eL (Panels.firstIn b k).toList := by
              rw [hfi]
              cases Panels.firstOf (Panels.sheetsIn b) (Panels.sceneIn b).2 (Panels.totalIn b) (Panels.sceneIn b).1 k <;> rfl
            simp only [e2]
            refine c_option_text rfl (fun u hu => ⟨by have := (hok u hu).2; omega, (hok u hu).1⟩) ?_
            have := otext_len (Panels.firstIn b k) fun u hu => (hok u hu).2
            simp
            exact ⟨by omega, q⟩
        · rw [if_neg h4] at q
          rw [if_neg (by omega)]
          refine ⟨hw, hh, ?_, ?_⟩
          · have := num_len (spareM (wallM b) k)
            omega
          · rw [spare_eq h]
            exact q
  · rw [if_neg hm]
    have hm' : s ∉ Panels.sheetNames b := hm
    rw [if_neg (by simpa using hm')] at q
    exact q
def f_names_of : DSp := fun ds Q => ∃ (b : Panels.Script) (ks : List Nat), ds = [eW (wallM b), eN ks] ∧ ks.length ≤ 10000 ∧ (∀ k ∈ ks, k < (Panels.sheetNames b).length) ∧ Q (eL (ks.map (sheetName b)))
theorem c_names_of {b : Panels.Script} {ks : List Nat} {Q : D → Prop} (hl : ks.length ≤ 10000) (h : ∀ k ∈ ks, k < (Panels.sheetNames b).length) (q : Q (eL (ks.map (sheetName b)))) : f_names_of [eW (wallM b), eN ks] Q := ⟨b, ks, rfl, hl, h, q⟩
def t_names_of : DS := (dRet (dL (dLc 2 (dItL (dVar 1)) dYes (dIx (dFld false 0 (dVar 0)) (dVar 2)))))
theorem pure_names_of : ∀ ds Q, f_names_of ds Q → ds.length = 2 ∧ t_names_of ⟨fun _ => Q .non, fun d _ => Q d⟩ (startE 3 ds) := by
  rintro ds Q ⟨b, ks, rfl, hl, h, q⟩
  refine ⟨rfl, ?_⟩
  have e : (intsN ks).map D.int = ks.map fun (k : Nat) => D.int (k : Int) := by simp [intsN, Function.comp_def]
  simp [t_names_of]
  refine ⟨by omega, ?_⟩
  rw [e]
  refine lcD_all (fun (k : Nat) => .int (k : Int)) (fun k => eU (sheetName b k)) _ (fun k hk R r => ?_) ?_
  · have hlt : k < (wallM b).names.length := h k hk
    have e : sheetName b k = (wallM b).names[k] := by
      unfold sheetName
      rw [List.getD_eq_getElem?_getD, List.getElem?_eq_getElem (h k hk)]
      rfl
    rw [e] at r
    simp [hlt]
    exact r
  · simpa [eL, Function.comp_def] using q
def wallTold (kd : Nat) (b : Panels.Script) : Told := .ok (if kd = 2 then .textThere (Panels.handIn b) else if kd = 6 then .names (Panels.canIn b) else if kd = 7 then .count (Panels.clearIn b) else .namesThere (Panels.orderIn b))
def f_wall_answer : DSp := fun ds Q => ∃ (kd : Nat) (b : Panels.Script), ds = [.int kd, eW (wallM b)] ∧ Inv b ∧ Panels.isSafeIn b = true ∧ Q (e8 (toldShown (wallTold kd b)))
theorem c_wall_answer {kd : Nat} {b : Panels.Script} {Q : D → Prop} (h : Inv b) (hs : Panels.isSafeIn b = true) (q : Q (e8 (toldShown (wallTold kd b)))) : f_wall_answer [.int (kd : Nat), eW (wallM b)] Q := ⟨kd, b, rfl, h, hs, q⟩
def t_wall_answer : DS := (dSeq (dIfS (dB (dEqI (dVar 0) (dC (.int 2)))) (dRet (dL (dCat (dL (dDisp (dCons (dC (.int 1)) dNil))) (dCall f_option_text (dCons (dCall f_hand (dCons (dVar 1) dNil)) dNil))))) dNext) (dSeq (dIfS (dB (dEqI (dVar 0) (dC (.int 6)))) (dRet (dL (dCat (dL (dDisp (dCons (dC (.int 1)) dNil))) (dCall f_texts_octets (dCons (dCall f_names_of (dCons (dVar 1) (dCons (dCall f_goers (dCons (dFld false 1 (dVar 1)) (dCons (dFld false 5 (dVar 1)) dNil))) dNil))) dNil))))) dNext) (dSeq (dIfS (dB (dEqI (dVar 0) (dC (.int 7)))) (dRet (dL (dCat (dL (dDisp (dCons (dC (.int 1)) dNil))) (dCall f_option_number (dCons (dCall f_clear_moves (dCons (dVar 1) dNil)) dNil))))) dNext) (dRet (dL (dCat (dL (dDisp (dCons (dC (.int 1)) dNil))) (dCall f_option_texts (dCons (dL (dLc 2 (dItL (dCall f_order_of (dCons (dVar 1) dNil))) dYes (dCall f_names_of (dCons (dVar 1) (dCons (dVar 2) dNil))))) dNil))))))))
theorem loose_wall {b : Panels.Script} (h : Inv b) : looseM (wallM b).covers (wallM b).up (wallM b).held = Panels.looseIn b := inv_loose h (Panels.sceneIn b).1
theorem hand_eq {b : Panels.Script} (h : Inv b) (hs : Panels.isSafeIn b = true) : (looseM (wallM b).covers (wallM b).up (wallM b).held).map (fun k => (wallM b).names.getD k []) = (Panels.handIn b).toList := by
  rw [loose_wall h]
  unfold Panels.handIn
  have hl : (Panels.looseIn b).length ≤ 1 := of_decide_eq_true hs
  match hh : Panels.looseIn b, hl with
  | [], _ => rfl
  | [k], _ => rfl
theorem hand_ok {b : Panels.Script} (h : Inv b) : ∀ u ∈ Panels.handIn b, Chars u ∧ u.length ≤ 4000 := by
  intro u hu
  unfold Panels.handIn at hu
  obtain ⟨k, _, rfl⟩ := Option.map_eq_some_iff.mp hu
  have := name_ok h k
  exact ⟨this.1, by omega⟩
theorem texts_small {b : Panels.Script} (h : Inv b) : ∀ ks : List Nat, textsSize (ks.map (sheetName b)) ≤ 1004 * ks.length
  | [] => by simp [textsSize]
  | k :: ks => by
    have ih := texts_small h ks
    have := (name_ok h k).2
    unfold textsSize at ih ⊢
    simp at ih ⊢
    omega
theorem open_lt {ss : List Panels.Sheet} {up : List Bool} {k : Nat} (h : k ∈ Panels.openOf ss up) : k < ss.length := List.mem_range.mp (List.mem_filter.mp h).1
theorem sheets_len {b : Panels.Script} : (Panels.sheetsIn b).length = (Panels.sheetNames b).length := by simp [Panels.sheetsIn, Panels.sheetNames]
theorem order_mem {ss : List Panels.Sheet} : ∀ {f : Nat} {up : List Bool} {l : List Nat}, Panels.orderFrom ss f up = some l → l.length ≤ f ∧ ∀ k ∈ l, k < ss.length
  | 0, up, l, h => by
    unfold Panels.orderFrom at h
    cases hu : up.any id with
    | true => rw [hu] at h; cases h
    | false =>
      rw [hu] at h
      have : [] = l := Option.some.inj h
      subst this
      simp
  | f + 1, up, l, h => by
    unfold Panels.orderFrom at h
    cases hu : up.any id with
    | false =>
      rw [hu] at h
      have : [] = l := Option.some.inj h
      subst this
      simp
    | true =>
      rw [hu, if_pos rfl] at h
      cases hg : (Panels.openOf ss up).head? with
      | none => rw [hg] at h; cases h
      | some k =>
        rw [hg] at h
        simp only [Option.bind_some] at h
        obtain ⟨r, e, rfl⟩ := Option.map_eq_some_iff.mp h
        have ih := order_mem e
        have hk := open_lt (List.mem_of_mem_head? hg)
        refine ⟨by have := ih.1; simp; omega, fun j hj => ?_⟩
        rcases List.mem_cons.mp hj with rfl | hj
        · exact hk
        · exact ih.2 j hj
theorem pure_wall_answer : ∀ ds Q, f_wall_answer ds Q → ds.length = 2 ∧ t_wall_answer ⟨fun _ => Q .non, fun d _ => Q d⟩ (startE 3 ds) := by
  rintro ds Q ⟨kd, b, rfl, h, hs, q⟩
  refine ⟨rfl, ?_⟩
  have hw := inv_wf h
  have h5 := h.five
  have hc6 := wall_covers h
  have hh := held_lt h
  have hu := up_lt h
  unfold wallTold at q
  simp [t_wall_answer]
  by_cases h2 : kd = 2
  · rw [if_pos h2] at q
    rw [if_pos (by omega)]
    refine ⟨by omega, hw.2.1, ?_⟩
    refine c_option_text (o := Panels.handIn b) (hand_eq h hs) (fun u hu => ⟨by have := (hand_ok h u hu).2; omega, (hand_ok h u hu).1⟩) ?_
    have := otext_len (Panels.handIn b) fun u hu => (hand_ok h u hu).2
    simp
    exact ⟨by omega, q⟩
  · rw [if_neg h2] at q
    rw [if_neg (by omega)]
    by_cases h6 : kd = 6
    · rw [if_pos h6] at q
      rw [if_pos (by omega)]
      refine ⟨hc6, ?_⟩
      rw [can_eq h]
      have hlen : (Panels.openOf (Panels.sheetsIn b) (Panels.sceneIn b).2).length ≤ 5 := by
        have := List.length_filter_le (fun k => Panels.isUp (Panels.sceneIn b).2 k && Panels.isOpen (Panels.sheetsIn b) (Panels.sceneIn b).2 k) (List.range (Panels.sheetsIn b).length)
        rw [List.length_range] at this
        have hs2 := sheets_len (b := b)
        unfold Panels.openOf
        omega
      refine c_names_of (by omega) (fun k hk => by rw [← sheets_len]; exact open_lt hk) ?_
      have ht := texts_small h (Panels.openOf (Panels.sheetsIn b) (Panels.sceneIn b).2)
      simp only [i_texts_octets]
      refine ⟨by omega, fun u hu => ?_, ?_⟩
      · obtain ⟨k, _, rfl⟩ := List.mem_map.mp hu
        exact (name_ok h k).1
      · have := texts_len ((Panels.openOf (Panels.sheetsIn b) (Panels.sceneIn b).2).map (sheetName b))
        simp
        exact ⟨by omega, q⟩
    · rw [if_neg h6] at q
      rw [if_neg (by omega)]
      by_cases h7 : kd = 7
      · rw [if_pos h7] at q
        rw [if_pos (by omega)]
        refine ⟨hw, hh, hu, ?_, ?_⟩
        · have := num_len (clearM (wallM b))
          omega
        · rw [clear_eq h]
          exact q
      · rw [if_neg h7] at q
        rw [if_neg (by omega)]
        refine ⟨hw, ?_⟩
        rw [order_eq h]
        have ho := @order_mem (Panels.sheetsIn b) (Panels.sceneIn b).2.length (Panels.sceneIn b).2
        have hup := h.up
        have hoi : Panels.orderIn b = (Panels.orderFrom (Panels.sheetsIn b) (Panels.sceneIn b).2.length (Panels.sceneIn b).2).map fun l => l.map (sheetName b) := rfl
        unfold Panels.orderOf
        rw [hoi] at q
        generalize Panels.orderFrom (Panels.sheetsIn b) (Panels.sceneIn b).2.length (Panels.sceneIn b).2 = o at ho q ⊢
        refine ⟨by cases o <;> simp, ?_⟩
        refine lcD_all eN (fun l => eL (l.map (sheetName b))) o.toList (fun l hl R r => ?_) ?_
        · have hl' : o = some l := by simpa using hl
          simp
          refine c_names_of (by have := (ho hl').1; omega) (fun k hk => ?_) r
          have := (ho hl').2 k hk
          rw [sheets_len] at this
          exact this
        · have e2 : D.lst (o.toList.map fun l => eL (l.map (sheetName b))) = .lst ((o.map fun l => l.map (sheetName b)).toList.map eL) := by
            cases o <;> rfl
          simp only [e2]
          have hsz : ∀ us ∈ o.map fun l => l.map (sheetName b), textsSize us ≤ 10000 ∧ ∀ u ∈ us, ∀ c ∈ u, c.toNat < 256 := fun us hus => by
            obtain ⟨l, e, rfl⟩ := Option.map_eq_some_iff.mp hus
            have h1 := texts_small h l
            have h2 := (ho e).1
            refine ⟨by omega, fun u hu => ?_⟩
            obtain ⟨k, _, rfl⟩ := List.mem_map.mp hu
            exact (name_ok h k).1
          refine c_option_texts rfl (fun us hus => ⟨by have := (hsz us hus).1; omega, (hsz us hus).2⟩) ?_
          simp
          refine ⟨?_, q⟩
          generalize o.map (fun l => l.map (sheetName b)) = p at hsz ⊢
          cases p with
          | none => simp [Panels.optionShown]
          | some us =>
            have := (hsz us rfl).1
            have := texts_len us
            simp only [Panels.optionShown, List.length_cons]
            omega
/-! requests 0 to 8 -/
def textTold (kd : Nat) (t s : Units) : Told :=
  if kd = 0 then checkTold t
  else if kd = 1 then formatTold t
  else if kd = 3 ∨ kd = 4 ∨ kd = 5 then Panels.andThen (panelCheck t) fun b => sheetTold kd b s
  else Panels.andThen (panelCheck t) fun b => wallTold kd b
def f_text_answer : DSp := fun ds Q => ∃ (kd : Nat) (o : List UInt8) (st : List Nat) (p0 p1 : Nat) (t s : Units), ds = [.int kd, e8 o, eN st] ∧ o.length ≤ 900000 ∧ st[0]? = some p0 ∧ p0 + 4 ≤ o.length ∧ t = u16 (textAt o p0) ∧ ((kd = 3 ∨ kd = 4 ∨ kd = 5) → st[1]? = some p1 ∧ p1 + 4 ≤ o.length ∧ s = u16 (textAt o p1)) ∧ Q (e8 (toldShown (textTold kd t s)))
theorem c_text_answer {kd : Nat} {o : List UInt8} {st : List Nat} {p0 p1 : Nat} {t s : Units} {Q : D → Prop} (ho : o.length ≤ 900000) (h0 : st[0]? = some p0) (hp : p0 + 4 ≤ o.length) (ht : t = u16 (textAt o p0)) (h1 : (kd = 3 ∨ kd = 4 ∨ kd = 5) → st[1]? = some p1 ∧ p1 + 4 ≤ o.length ∧ s = u16 (textAt o p1)) (q : Q (e8 (toldShown (textTold kd t s)))) : f_text_answer [.int (kd : Nat), e8 o, eN st] Q := ⟨kd, o, st, p0, p1, t, s, rfl, ho, h0, hp, ht, h1, q⟩
def t_text_answer : DS := (dSeq (dSet 3 (dCall f_text_at (dCons (dVar 1) (dCons (dIx (dVar 2) (dC (.int 0))) dNil)))) (dSeq (dIfS (dB (dEqI (dVar 0) (dC (.int 0)))) (dRet (dCall f_check_answer (dCons (dVar 3) dNil))) dNext) (dSeq (dIfS (dB (dEqI (dVar 0) (dC (.int 1)))) (dRet (dCall f_canonical_answer (dCons (dVar 3) dNil))) dNext) (dSeq (dSet 4 (dCall f_refusal (dCons (dVar 3) dNil))) (dSeq (dIfS (dB (dGtI (dLen (dVar 4)) (dC (.int 0)))) (dRet (dVar 4)) dNext) (dSeq (dUnp 5 6 7 (dCall f_read_text (dCons (dVar 3) dNil))) (dSeq (dIfS (dB (dBin wIn (dVar 0) (dTup (dCons (dC (.int 3)) (dCons (dC (.int 4)) (dCons (dC (.int 5)) dNil)))))) (dRet (dCall f_sheet_answer (dCons (dVar 0) (dCons (dFld true 0 (dVar 7)) (dCons (dCall f_text_at (dCons (dVar 1) (dCons (dIx (dVar 2) (dC (.int 1))) dNil))) dNil))))) dNext) (dRet (dCall f_wall_answer (dCons (dVar 0) (dCons (dFld true 0 (dVar 7)) dNil)))))))))))
theorem u16_chars (o : List UInt8) : Chars (u16 o) := by
  intro c hc
  obtain ⟨b, _, rfl⟩ := List.mem_map.mp hc
  rw [u16_toNat]
  exact b.toNat_lt
theorem textAt_len (o : List UInt8) (p : Nat) : (u16 (textAt o p)).length ≤ o.length := by
  rw [u16_len]
  unfold textAt
  rw [List.length_take, List.length_drop]
  omega
theorem panel_ok {t : Units} {b : Panels.Script} (h : panelCheck t = .ok b) : readScript t = .ok b ∧ Panels.isSafeIn b = true ∧ t.length ≤ 2000 := by
  unfold panelCheck scriptCheck at h
  rw [textCheck_iff] at h
  by_cases h2 : 2000 < t.length
  · rw [if_pos h2] at h
    cases h
  · rw [if_neg h2] at h
    rcases read_cases t with ⟨e, he⟩ | ⟨c, he⟩
    · rw [he] at h
      cases h
    · rw [he] at h
      simp only [Panels.andThen, Panels.need] at h
      cases hs : Panels.isSafeIn c with
      | true =>
        rw [hs] at h
        simp only [if_true] at h
        have : c = b := by injection h
        subst this
        exact ⟨he, hs, by omega⟩
      | false =>
        rw [hs] at h
        simp at h
theorem refuse_ok {t : Units} {b : Panels.Script} (h : panelCheck t = .ok b) : refuseM t = [] := by
  unfold refuseM
  rw [h]
theorem refuse_err {t : Units} {f : Fault} (h : panelCheck t = .error f) : refuseM t = faultShown f ∧ 0 < (faultShown f).length := by
  unfold refuseM
  rw [h]
  refine ⟨rfl, ?_⟩
  cases f with
  | line e => cases e <;> simp [faultShown, Panels.refusalShown]
  | lineOf n e => cases e <;> simp [faultShown, Panels.refusalShown]
  | _ => simp [faultShown]
theorem pure_text_answer : ∀ ds Q, f_text_answer ds Q → ds.length = 3 ∧ t_text_answer ⟨fun _ => Q .non, fun d _ => Q d⟩ (startE 8 ds) := by
  rintro ds Q ⟨kd, o, st, p0, p1, t, s, rfl, ho, h0, hp, ht, h1, q⟩
  refine ⟨rfl, ?_⟩
  have hst : ((intsN st).map D.int)[0]? = some (.int (p0 : Nat)) := getN h0
  have hc : Chars t := by rw [ht]; exact u16_chars _
  have hl : t.length ≤ 900000 := by
    have := textAt_len o p0
    rw [ht]
    omega
  have e0 : (intsN st)[0]? = some (p0 : Int) := by simp [intsN, h0]
  simp [t_text_answer]
  refine ⟨_, ⟨_, e0, rfl⟩, ?_⟩
  rw [i_text_at, ← ht]
  refine ⟨hp, ?_⟩
  unfold textTold at q
  by_cases k0 : kd = 0
  · rw [if_pos k0] at q ⊢
    rw [i_check_answer]
    exact ⟨hl, hc, q⟩
  · rw [if_neg k0] at q ⊢
    by_cases k1 : kd = 1
    · rw [if_pos k1] at q
      rw [if_pos (by omega), i_canonical_answer]
      exact ⟨hl, hc, q⟩
    · rw [if_neg k1] at q
      rw [if_neg (by omega), i_refusal]
      refine ⟨hl, hc, ?_⟩
      cases hpc : panelCheck t with
      | error f =>
        have hf := refuse_err hpc
        rw [hpc] at q
        rw [hf.1]
        simp
        rw [if_pos hf.2]
        by_cases k3 : kd = 3 ∨ kd = 4 ∨ kd = 5
        · rw [if_pos k3] at q
          exact q
        · rw [if_neg k3] at q
          exact q
      | ok b =>
        have hb := panel_ok hpc
        rw [hpc] at q
        rw [refuse_ok hpc]
        simp
        refine c_read_text hl hc (fun e s he => by rw [hb.1] at he; cases he) fun c he hi => ?_
        have : b = c := by
          rw [hb.1] at he
          injection he
        subst this
        refine ⟨_, _, _, rfl, [3, 4, 5], rfl, ?_⟩
        by_cases k3 : kd = 3 ∨ kd = 4 ∨ kd = 5
        · rw [if_pos k3] at q
          have h2 := h1 k3
          have e1 : (intsN st)[1]? = some (p1 : Int) := by simp [intsN, h2.1]
          rw [if_pos (by
            rcases k3 with rfl | rfl | rfl <;> decide)]
          simp
          refine ⟨_, ⟨_, e1, rfl⟩, ?_⟩
          rw [i_text_at, ← h2.2.2]
          exact ⟨h2.2.1, c_sheet_answer hi q⟩
        · rw [if_neg k3] at q
          rw [if_neg (by
            intro z
            simp at z
            omega)]
          simp
          exact c_wall_answer hi hb.2.1 q
end PW
set_option Elab.async false
set_option linter.all false
set_option maxRecDepth 100000
set_option maxHeartbeats 2000000
namespace PW
open Panels (problemNumber octetOf numberShown toldShown faultShown panelCheck readScript Told Result Fault Panel panelAt putPanel)
/-! ### panels: the script before each added line, and behind the last -/
def panelL (v : Panel) : List Panels.Script := (List.range (v.added + 1)).map fun k => v.script.take (v.script.length - v.added + k)
structure PanelOk (v : Panel) : Prop where
  le : v.added ≤ v.script.length
  inv : ∀ b ∈ panelL v, Inv b
theorem panel_len (v : Panel) : (panelL v).length = v.added + 1 := by simp [panelL]
theorem panel_last {v : Panel} (h : PanelOk v) : (panelL v)[v.added]? = some v.script := by
  unfold panelL
  rw [List.getElem?_map, List.getElem?_range (by omega)]
  have : v.script.length - v.added + v.added = v.script.length := by have := h.le; omega
  simp only [Option.map_some, this, List.take_length]
theorem panel_inv {v : Panel} (h : PanelOk v) : Inv v.script := h.inv _ (List.mem_of_getElem? (panel_last h))
theorem panel_small {v : Panel} (h : PanelOk v) : v.added ≤ 52 := by
  have := inv_lines (panel_inv h)
  have := h.le
  omega
theorem panel_new {b : Panels.Script} : panelL ⟨b, 0⟩ = [b] := by simp [panelL]
theorem panel_play {v : Panel} (h : PanelOk v) (i : Panels.Item) : panelL ⟨v.script ++ [i], v.added + 1⟩ = panelL v ++ [v.script ++ [i]] := by
  have hle := h.le
  unfold panelL
  rw [List.range_succ (n := v.added + 1), List.map_append]
  congr 1
  · refine List.map_congr_left fun k hk => ?_
    have := List.mem_range.mp hk
    simp only [List.length_append, List.length_singleton]
    rw [show v.script.length + 1 - (v.added + 1) + k = v.script.length - v.added + k by omega]
    exact List.take_append_of_le_length (by omega)
  · simp only [List.map_cons, List.map_nil, List.length_append, List.length_singleton]
    rw [show v.script.length + 1 - (v.added + 1) + (v.added + 1) = (v.script ++ [i]).length by rw [List.length_append, List.length_singleton]; omega, List.take_length]
theorem panel_undo {v : Panel} (h : PanelOk v) (h0 : v.added ≠ 0) : panelL (Panels.undo v) = (panelL v).take v.added := by
  have hle := h.le
  unfold Panels.undo
  rw [if_neg h0]
  unfold panelL
  simp only
  rw [show v.added - 1 + 1 = v.added by omega]
  rw [← List.map_take, List.take_range, Nat.min_eq_left (by omega)]
  refine List.map_congr_left fun k hk => ?_
  have := List.mem_range.mp hk
  rw [List.length_dropLast, show v.script.length - 1 - (v.added - 1) + k = v.script.length - v.added + k by omega]
  rw [List.dropLast_eq_take, List.take_take, Nat.min_eq_left (by omega)]
def eP : Option Panel → D
  | none => .lst []
  | some v => .lst ((panelL v).map fun b => eS (toM b))
def encW (w : Panels.World) : List D := w.map eP
structure WorldOk (w : Panels.World) : Prop where
  four : w.length = 4
  ok : ∀ v, some v ∈ w → PanelOk v
theorem at_ok {w : Panels.World} {j : Nat} {v : Panel} (h : WorldOk w) (e : panelAt w j = some v) : j < 4 ∧ PanelOk v := by
  unfold panelAt at e
  by_cases hj : j < w.length
  · rw [List.getD_eq_getElem?_getD, List.getElem?_eq_getElem hj] at e
    have e' : w[j] = some v := e
    exact ⟨by rw [← h.four]; exact hj, h.ok v (e' ▸ List.getElem_mem hj)⟩
  · rw [List.getD_eq_getElem?_getD, List.getElem?_eq_none (by omega)] at e
    cases e
theorem put_ok {w : Panels.World} {j : Nat} {v : Panel} (h : WorldOk w) (hv : PanelOk v) : WorldOk (putPanel w j v) := by
  unfold putPanel
  refine ⟨by rw [List.length_set, h.four], fun u hu => ?_⟩
  rcases List.mem_or_eq_of_mem_set hu with z | z
  · exact h.ok u z
  · have : u = v := Option.some.inj z
    exact this ▸ hv
def f_scripts_at : DSpS := fun ss ds Q => ∃ (w : Panels.World) (j : Nat), ss = encW w ∧ w.length = 4 ∧ ds = [.int j] ∧ Q (eP (panelAt w j)) (encW w)
def t_scripts_at : DS := (dSeq (dIfS (dB (dGtI (dVar 1) (dC (.int 3)))) (dRet (dL (dDisp dNil))) dNext) (dRet (dPlaces 0 (dVar 1))))
theorem encW_get {w : Panels.World} {j : Nat} (h : j < w.length) : (encW w)[j]? = some (eP (panelAt w j)) := by
  unfold encW panelAt
  rw [List.getElem?_map, List.getD_eq_getElem?_getD, List.getElem?_eq_getElem h]
  rfl
theorem len_scripts_at : ∀ ss ds Q, f_scripts_at ss ds Q → ds.length + 1 = 2 := by
  rintro ss ds Q ⟨w, j, rfl, h, rfl, q⟩
  rfl
theorem pure_scripts_at : ∀ p l ss ds Q, f_scripts_at ss ds Q → t_scripts_at (endS p l Q) (startS p l ss 2 ds) := by
  rintro p l ss ds Q ⟨w, j, rfl, h, rfl, q⟩
  simp [t_scripts_at]
  by_cases hj : 3 < j
  · rw [if_pos (by omega)]
    have : panelAt w j = none := by
      unfold panelAt
      rw [List.getD_eq_getElem?_getD, List.getElem?_eq_none (by omega)]
      rfl
    rw [this] at q
    exact q
  · rw [if_neg (by omega)]
    have := encW_get (w := w) (j := j) (by omega)
    simp [this]
    exact q
def f_stand : DSpS := fun ss ds Q => ∃ (w : Panels.World) (j : Nat) (v : Panel), ss = encW w ∧ w.length = 4 ∧ j < 4 ∧ ds = [.int j, eP (some v)] ∧ Q .non (encW (putPanel w j v))
theorem c_stand {w : Panels.World} {j : Nat} {v : Panel} {d : D} {Q : D → List D → Prop} (hw : w.length = 4) (hj : j < 4) (e : d = eP (some v)) (q : Q .non (encW (putPanel w j v))) : f_stand (encW w) [.int (j : Nat), d] Q := ⟨w, j, v, rfl, hw, hj, by rw [e], q⟩
theorem c_scripts_at {w : Panels.World} {j : Nat} {Q : D → List D → Prop} (hw : w.length = 4) (q : Q (eP (panelAt w j)) (encW w)) : f_scripts_at (encW w) [.int (j : Nat)] Q := ⟨w, j, rfl, hw, rfl, q⟩
def t_stand : DS := (dStand 0 (dVar 2) (dVar 1))
theorem len_stand : ∀ ss ds Q, f_stand ss ds Q → ds.length + 1 = 3 := by
  rintro ss ds Q ⟨w, j, v, rfl, h, hj, rfl, q⟩
  rfl
theorem encW_set {w : Panels.World} {j : Nat} {v : Panel} : encW (putPanel w j v) = (encW w).set j (eP (some v)) := by
  unfold encW putPanel
  rw [List.map_set]
theorem encW_len {w : Panels.World} : (encW w).length = w.length := by simp [encW]
theorem pure_stand : ∀ p l ss ds Q, f_stand ss ds Q → t_stand (endS p l Q) (startS p l ss 3 ds) := by
  rintro p l ss ds Q ⟨w, j, v, rfl, h, hj, rfl, q⟩
  simp [t_stand]
  rw [encW_set] at q
  exact ⟨by rw [encW_len]; omega, q⟩
/-! ### requests 9 to 13 -/
def f_panel_answer : DSpS := fun ss ds Q => ∃ (w : Panels.World) (j : Nat) (t : Units), ss = encW w ∧ WorldOk w ∧ ds = [.int j, eU t] ∧ t.length ≤ 900000 ∧ Chars t ∧ (WorldOk (Panels.run w (.panel j t)).1 → Q (e8 (toldShown (Panels.run w (.panel j t)).2)) (encW (Panels.run w (.panel j t)).1))
theorem c_panel_answer {w : Panels.World} {j : Nat} {t : Units} {Q : D → List D → Prop} (hw : WorldOk w) (hl : t.length ≤ 900000) (hc : Chars t) (q : WorldOk (Panels.run w (.panel j t)).1 → Q (e8 (toldShown (Panels.run w (.panel j t)).2)) (encW (Panels.run w (.panel j t)).1)) : f_panel_answer (encW w) [.int (j : Nat), eU t] Q := ⟨w, j, t, rfl, hw, rfl, hl, hc, q⟩
def t_panel_answer : DS := (dSeq (dIfS (dB (dGtI (dVar 1) (dC (.int 3)))) (dRet (dL (dDisp (dCons (dC (.int 0)) (dCons (dC (.int 7)) dNil))))) dNext) (dSeq (dSet 3 (dCall f_refusal (dCons (dVar 2) dNil))) (dSeq (dIfS (dB (dGtI (dLen (dVar 3)) (dC (.int 0)))) (dRet (dVar 3)) dNext) (dSeq (dUnp 4 5 6 (dCall f_read_text (dCons (dVar 2) dNil))) (dSeq (dExprX (dCallS 0 f_stand (dCons (dVar 1) (dCons (dL (dDisp (dCons (dVar 6) dNil))) dNil)))) (dRet (dL (dDisp (dCons (dC (.int 1)) dNil)))))))))
theorem len_panel_answer : ∀ ss ds Q, f_panel_answer ss ds Q → ds.length + 1 = 3 := by
  rintro ss ds Q ⟨w, j, t, rfl, hw, rfl, hl, hc, q⟩
  rfl
theorem new_ok {b : Panels.Script} (h : Inv b) : PanelOk ⟨b, 0⟩ := ⟨Nat.zero_le _, fun c hc => by
  rw [panel_new, List.mem_singleton] at hc
  exact hc ▸ h⟩
theorem run_panel {w : Panels.World} {j : Nat} {t : Units} : Panels.run w (.panel j t) = if 3 < j then (w, .error .noPanel) else match panelCheck t with
  | .error f => (w, .error f)
  | .ok b => (putPanel w j ⟨b, 0⟩, .ok .nothing) := by
  show Panels.acted w (Panels.andThen (Panels.need (decide (j < 4)) .noPanel) fun _ => panelCheck t) _ = _
  unfold Panels.need
  by_cases h : 3 < j
  · rw [if_pos h, if_neg (by simp; omega)]
    rfl
  · rw [if_neg h, if_pos (by simp; omega)]
    show Panels.acted w (panelCheck t) _ = _
    cases panelCheck t <;> rfl
theorem pure_panel_answer : ∀ p l ss ds Q, f_panel_answer ss ds Q → t_panel_answer (endS p l Q) (startS p l ss 7 ds) := by
  rintro p l ss ds Q ⟨w, j, t, rfl, hw, rfl, hl, hc, q⟩
  rw [run_panel] at q
  simp [t_panel_answer]
  by_cases hj : 3 < j
  · rw [if_pos hj] at q
    rw [if_pos (by omega)]
    exact q hw
  · rw [if_neg hj] at q
    rw [if_neg (by omega)]
    refine ⟨hl, hc, ?_⟩
    cases hpc : panelCheck t with
    | error f =>
      have hf := refuse_err hpc
      rw [hpc] at q
      rw [hf.1, if_pos hf.2]
      exact q hw
    | ok b =>
      have hb := panel_ok hpc
      rw [hpc] at q
      rw [refuse_ok hpc]
      simp
      refine c_read_text hl hc (fun e s he => by rw [hb.1] at he; cases he) fun c he hi => ?_
      have : b = c := by
        rw [hb.1] at he
        injection he
      subst this
      simp
      refine c_stand (v := ⟨b, 0⟩) hw.four (by omega) (by rw [eP, panel_new]; rfl) ?_
      exact q (put_ok hw (new_ok hi))
theorem run_undo {w : Panels.World} {j : Nat} : Panels.run w (.undo j) = match panelAt w j with
  | none => (w, .error .noPanel)
  | some v => (putPanel w j (Panels.undo v), .ok (.truth (!(v.added == 0)))) := by
  show Panels.acted w (Panels.ofOption (panelAt w j) .noPanel) _ = _
  cases panelAt w j <;> rfl
def f_undo_answer : DSpS := fun ss ds Q => ∃ (w : Panels.World) (j : Nat), ss = encW w ∧ WorldOk w ∧ ds = [.int j] ∧ (WorldOk (Panels.run w (.undo j)).1 → Q (e8 (toldShown (Panels.run w (.undo j)).2)) (encW (Panels.run w (.undo j)).1))
theorem c_undo_answer {w : Panels.World} {j : Nat} {Q : D → List D → Prop} (hw : WorldOk w) (q : WorldOk (Panels.run w (.undo j)).1 → Q (e8 (toldShown (Panels.run w (.undo j)).2)) (encW (Panels.run w (.undo j)).1)) : f_undo_answer (encW w) [.int (j : Nat)] Q := ⟨w, j, rfl, hw, rfl, q⟩
def t_undo_answer : DS := (dSeq (dSetX 2 (dCallS 0 f_scripts_at (dCons (dVar 1) dNil))) (dSeq (dIfS (dB (dEqI (dLen (dVar 2)) (dC (.int 0)))) (dRet (dL (dDisp (dCons (dC (.int 0)) (dCons (dC (.int 7)) dNil))))) dNext) (dSeq (dIfS (dB (dEqI (dLen (dVar 2)) (dC (.int 1)))) (dRet (dL (dDisp (dCons (dC (.int 1)) (dCons (dC (.int 0)) dNil))))) dNext) (dSeq (dExprX (dCallS 0 f_stand (dCons (dVar 1) (dCons (dL (dSl (dVar 2) dNoPart (dPart (dSub (dLen (dVar 2)) (dC (.int 1)))))) dNil)))) (dRet (dL (dDisp (dCons (dC (.int 1)) (dCons (dC (.int 1)) dNil)))))))))
theorem len_undo_answer : ∀ ss ds Q, f_undo_answer ss ds Q → ds.length + 1 = 2 := by
  rintro ss ds Q ⟨w, j, rfl, hw, rfl, q⟩
  rfl
theorem undo_ok {v : Panel} (h : PanelOk v) : PanelOk (Panels.undo v) := by
  by_cases h0 : v.added = 0
  · unfold Panels.undo
    rw [if_pos h0]
    exact h
  · refine ⟨?_, fun b hb => ?_⟩
    · unfold Panels.undo
      rw [if_neg h0]
      have := h.le
      simp
      omega
    · rw [panel_undo h h0] at hb
      exact h.inv b (List.mem_of_mem_take hb)
theorem put_same {w : Panels.World} {j : Nat} {v : Panel} (h : panelAt w j = some v) : putPanel w j v = w := by
  unfold putPanel
  unfold panelAt at h
  apply List.ext_getElem?
  intro i
  rw [List.getElem?_set]
  by_cases e : j = i
  · subst e
    rw [if_pos rfl]
    by_cases hj : j < w.length
    · rw [if_pos hj, ← h, List.getD_eq_getElem?_getD, List.getElem?_eq_getElem hj]
      rfl
    · rw [if_neg hj, List.getElem?_eq_none (by omega)]
  · rw [if_neg e]
theorem pure_undo_answer : ∀ p l ss ds Q, f_undo_answer ss ds Q → t_undo_answer (endS p l Q) (startS p l ss 3 ds) := by
  rintro p l ss ds Q ⟨w, j, rfl, hw, rfl, q⟩
  rw [run_undo] at q
  simp [t_undo_answer]
  refine c_scripts_at hw.four ?_
  cases hp : panelAt w j with
  | none =>
    rw [hp] at q
    simp [eP, D.items]
    exact q hw
  | some v =>
    have hv := at_ok hw hp
    have hlen := panel_len v
    rw [hp] at q
    simp [eP, D.items, hlen]
    rw [if_neg (by intro z; rw [z] at hlen; simp at hlen)]
    by_cases h0 : v.added = 0
    · rw [if_pos (by omega)]
      have e1 : putPanel w j (Panels.undo v) = w := by
        unfold Panels.undo
        rw [if_pos h0]
        exact put_same hp
      simp only [e1, h0] at q
      exact q hw
    · rw [if_neg (by omega)]
      have e1 : cutD ((panelL v).map fun b => eS (toM b)) none (some (v.added : Int)) = ((panelL v).map fun b => eS (toM b)).take v.added := by
        unfold cutD
        rw [HT.sIx_nat, HT.sIx_none]
        simp [hlen]
      rw [e1]
      refine c_stand (v := Panels.undo v) hw.four hv.1 (by rw [eP, panel_undo hv.2 h0, List.map_take]) ?_
      have e2 : (!(v.added == 0)) = true := by simpa using h0
      have q' : WorldOk (putPanel w j (Panels.undo v)) → Q (e8 (toldShown (.ok (.truth (!(v.added == 0)))))) (encW (putPanel w j (Panels.undo v))) := q
      rw [e2] at q'
      exact q' (put_ok hw (undo_ok hv.2))
def f_look_answer : DSpS := fun ss ds Q => ∃ (w : Panels.World) (j : Nat), ss = encW w ∧ WorldOk w ∧ ds = [.int j] ∧ (WorldOk (Panels.run w (.look j)).1 → Q (e8 (toldShown (Panels.run w (.look j)).2)) (encW (Panels.run w (.look j)).1))
theorem c_look_answer {w : Panels.World} {j : Nat} {Q : D → List D → Prop} (hw : WorldOk w) (q : WorldOk (Panels.run w (.look j)).1 → Q (e8 (toldShown (Panels.run w (.look j)).2)) (encW (Panels.run w (.look j)).1)) : f_look_answer (encW w) [.int (j : Nat)] Q := ⟨w, j, rfl, hw, rfl, q⟩
def t_look_answer : DS := (dSeq (dSetX 2 (dCallS 0 f_scripts_at (dCons (dVar 1) dNil))) (dSeq (dIfS (dB (dEqI (dLen (dVar 2)) (dC (.int 0)))) (dRet (dL (dDisp (dCons (dC (.int 0)) (dCons (dC (.int 7)) dNil))))) dNext) (dSeq (dSet 3 (dIx (dVar 2) (dSub (dLen (dVar 2)) (dC (.int 1))))) (dSeq (dSet 4 (dFld true 0 (dVar 3))) (dRet (dL (dCat (dL (dCat (dL (dCat (dL (dDisp (dCons (dC (.int 1)) dNil))) (dCall f_option_text (dCons (dCall f_hand (dCons (dVar 4) dNil)) dNil)))) (dCall f_texts_octets (dCons (dCall f_names_up (dCons (dVar 4) dNil)) dNil)))) (dCall f_text_octets (dCons (dCall f_canonical (dCons (dVar 3) dNil)) dNil)))))))))
theorem len_look_answer : ∀ ss ds Q, f_look_answer ss ds Q → ds.length + 1 = 2 := by
  rintro ss ds Q ⟨w, j, rfl, hw, rfl, q⟩
  rfl
theorem run_look {w : Panels.World} {j : Nat} : Panels.run w (.look j) = match panelAt w j with
  | none => (w, .error .noPanel)
  | some v => (w, .ok (Panels.lookOf v)) := by
  show (w, Panels.andThen (Panels.ofOption (panelAt w j) .noPanel) _) = _
  cases panelAt w j <;> rfl
theorem hand_head {b : Panels.Script} (h : Inv b) : ((looseM (wallM b).covers (wallM b).up (wallM b).held).map fun k => (wallM b).names.getD k []).head? = Panels.handIn b := by
  rw [loose_wall h, List.head?_map]
  rfl
theorem hand_ok' {b : Panels.Script} (h : Inv b) : ∀ u ∈ Panels.handIn b, u.length ≤ 10000000 ∧ ∀ c ∈ u, c.toNat < 256 := fun u hu => ⟨by have := (hand_ok h u hu).2; omega, (hand_ok h u hu).1⟩
theorem hand_size {b : Panels.Script} (h : Inv b) : (Panels.optionShown Panels.textShown (Panels.handIn b)).length ≤ 4005 := otext_len _ fun u hu => (hand_ok h u hu).2
theorem names_up_eq {b : Panels.Script} : ((List.range (wallM b).names.length).filter (wallM b).up.testBit).map (fun k => (wallM b).names.getD k []) = (Panels.upIn b).map (Panels.sheetName b) := by
  unfold Panels.upIn
  have : ((List.range (wallM b).names.length).filter (wallM b).up.testBit) = (List.range (Panels.sheetNames b).length).filter (Panels.isUp (Panels.sceneIn b).2) := by
    refine List.filter_congr fun k _ => ?_
    show (marksB (Panels.sceneIn b).2).testBit k = _
    rw [marks_bit]
    rfl
  rw [this]
  rfl
theorem c_names_up {b : Panels.Script} {Q : D → Prop} (h : Inv b) (q : Q (eL ((Panels.upIn b).map (Panels.sheetName b)))) : f_names_up [eW (wallM b)] Q := by
  refine ⟨wallM b, rfl, ?_, ?_⟩
  · have := h.five
    show (Panels.sheetNames b).length ≤ 7
    omega
  · rw [names_up_eq]
    exact q
theorem panel_get {v : Panel} (h : PanelOk v) (hl : v.added < (panelL v).length) : (panelL v)[v.added] = v.script := by
  have := panel_last h
  rw [List.getElem?_eq_getElem hl] at this
  exact Option.some.inj this
theorem last_get {v : Panel} (h : PanelOk v) : ((panelL v).map fun b => eS (toM b))[v.added]? = some (eS (toM v.script)) := by
  rw [List.getElem?_map, panel_last h]
  rfl
theorem pure_look_answer : ∀ p l ss ds Q, f_look_answer ss ds Q → t_look_answer (endS p l Q) (startS p l ss 5 ds) := by
  rintro p l ss ds Q ⟨w, j, rfl, hw, rfl, q⟩
  rw [run_look] at q
  simp [t_look_answer]
  refine c_scripts_at hw.four ?_
  cases hp : panelAt w j with
  | none =>
    rw [hp] at q
    simp [eP, D.items]
    exact q hw
  | some v =>
    have hv := at_ok hw hp
    have hlen := panel_len v
    have hlast := last_get hv.2
    have hi := panel_inv hv.2
    rw [hp] at q
    have hget := panel_get hv.2 (by omega)
    have hne : panelL v ≠ [] := by intro z; rw [z] at hlen; simp at hlen
    have h5 := hi.five
    have hsz := hand_size hi
    have hwc := wall_covers hi
    have hw2 := (inv_wf hi).2.1
    simp [-i_names_up, eP, D.items, hlen, hne, hget]
    refine ⟨by omega, by omega, hw2, c_option_text' (hand_head hi) (hand_ok' hi) ?_⟩
    refine ⟨_, rfl, by simp; omega, c_names_up hi ?_⟩
    have hu5 : (Panels.upIn v.script).length ≤ 5 := by
      have := List.length_filter_le (Panels.isUp (Panels.sceneIn v.script).2) (List.range (Panels.sheetNames v.script).length)
      rw [List.length_range] at this
      unfold Panels.upIn
      omega
    have hts := texts_small hi (Panels.upIn v.script)
    have htl := texts_len ((Panels.upIn v.script).map (Panels.sheetName v.script))
    rw [i_texts_octets]
    refine ⟨by omega, fun u hu => ?_, _, rfl, by simp; omega, c_canonical hi ?_⟩
    · obtain ⟨k, _, rfl⟩ := List.mem_map.mp hu
      exact (name_ok hi k).1
    · have hx := text_ok hi
      have hxl := text_len (Panels.scriptText v.script)
      rw [i_text_octets]
      refine ⟨by omega, hx.1, _, rfl, by simp; omega, ?_⟩
      have q' := q hw
      simp [toldShown, Panels.resultShown, Panels.lookOf, e8, eI, ints8] at q'
      simp [ints8]
      exact q'
end PW
set_option Elab.async false
set_option linter.all false
set_option maxRecDepth 100000
set_option maxHeartbeats 2000000
namespace PW
open Panels (problemNumber octetOf numberShown toldShown faultShown panelCheck readScript Told Result Fault Panel panelAt putPanel lineFrom itemProblem)
theorem run_play {w : Panels.World} {j : Nat} {u : Units} : Panels.run w (.play j u) = match panelAt w j with
  | none => (w, .error .noPanel)
  | some v => match Panels.play v u with
    | .error e => (w, .error (.line e))
    | .ok z => (putPanel w j z, .ok (.textThere (Panels.handIn z.script))) := by
  show Panels.acted w (Panels.andThen (Panels.ofOption (panelAt w j) .noPanel) fun v => match Panels.play v u with
    | .error e => .error (.line e)
    | .ok z => .ok z) _ = _
  cases panelAt w j with
  | none => rfl
  | some v =>
    show Panels.acted w (match Panels.play v u with
      | .error e => .error (.line e)
      | .ok z => .ok z) _ = match Panels.play v u with
      | .error e => (w, .error (.line e))
      | .ok z => (putPanel w j z, .ok (.textThere (Panels.handIn z.script)))
    cases Panels.play v u <;> rfl
theorem play_none {w : Panels.World} {j : Nat} {u : Units} (h : panelAt w j = none) : Panels.run w (.play j u) = (w, .error .noPanel) := by rw [run_play, h]
theorem play_no {w : Panels.World} {j : Nat} {u : Units} {v : Panel} (h : panelAt w j = some v) (h1 : lineFrom u = none) : Panels.run w (.play j u) = (w, .error (.line .noMove)) := by
  rw [run_play, h]
  simp only [Panels.play, h1]
theorem play_bad {w : Panels.World} {j : Nat} {u : Units} {v : Panel} {i : Panels.Item} {pb : Units} (h : panelAt w j = some v) (h1 : lineFrom u = some i) (h2 : itemProblem v.script i = some pb) : Panels.run w (.play j u) = (w, .error (.line (.problem pb))) := by
  rw [run_play, h]
  simp only [Panels.play, h1, h2]
theorem play_good {w : Panels.World} {j : Nat} {u : Units} {v : Panel} {i : Panels.Item} (h : panelAt w j = some v) (h1 : lineFrom u = some i) (h2 : itemProblem v.script i = none) : Panels.run w (.play j u) = (putPanel w j ⟨v.script ++ [i], v.added + 1⟩, .ok (.textThere (Panels.handIn (v.script ++ [i])))) := by
  rw [run_play, h]
  simp only [Panels.play, h1, h2]
theorem act_none {b : Panels.Script} {u : Units} (h : lineFrom u = none) : actProb b u = -1 := by unfold actProb; rw [h]
theorem act_bad {b : Panels.Script} {u : Units} {i : Panels.Item} {pb : Units} (h : lineFrom u = some i) (h2 : itemProblem b i = some pb) : actProb b u = (problemNumber pb : Nat) := by
  unfold actProb
  rw [h]
  simp only [h2]
  rfl
theorem act_good {b : Panels.Script} {u : Units} {i : Panels.Item} (h : lineFrom u = some i) (h2 : itemProblem b i = none) : actProb b u = 0 := by
  unfold actProb
  rw [h]
  simp only [h2]
  rfl
def f_play_answer : DSpS := fun ss ds Q => ∃ (w : Panels.World) (j : Nat) (t : Units), ss = encW w ∧ WorldOk w ∧ ds = [.int j, eU t] ∧ t.length ≤ 900000 ∧ Chars t ∧ (WorldOk (Panels.run w (.play j t)).1 → Q (e8 (toldShown (Panels.run w (.play j t)).2)) (encW (Panels.run w (.play j t)).1))
theorem c_play_answer {w : Panels.World} {j : Nat} {t : Units} {Q : D → List D → Prop} (hw : WorldOk w) (hl : t.length ≤ 900000) (hc : Chars t) (q : WorldOk (Panels.run w (.play j t)).1 → Q (e8 (toldShown (Panels.run w (.play j t)).2)) (encW (Panels.run w (.play j t)).1)) : f_play_answer (encW w) [.int (j : Nat), eU t] Q := ⟨w, j, t, rfl, hw, rfl, hl, hc, q⟩
def t_play_answer : DS := (dSeq (dSetX 3 (dCallS 0 f_scripts_at (dCons (dVar 1) dNil))) (dSeq (dIfS (dB (dEqI (dLen (dVar 3)) (dC (.int 0)))) (dRet (dL (dDisp (dCons (dC (.int 0)) (dCons (dC (.int 7)) dNil))))) dNext) (dSeq (dSet 4 (dIx (dVar 3) (dSub (dLen (dVar 3)) (dC (.int 1))))) (dSeq (dSet 5 (dCall f_act_problem (dCons (dVar 4) (dCons (dVar 2) dNil)))) (dSeq (dIfS (dB (dLtI (dVar 5) (dC (.int 0)))) (dRet (dL (dDisp (dCons (dC (.int 0)) (dCons (dC (.int 8)) dNil))))) dNext) (dSeq (dIfS (dB (dGtI (dVar 5) (dC (.int 0)))) (dRet (dL (dDisp (dCons (dC (.int 0)) (dCons (dC (.int 9)) (dCons (dVar 5) dNil)))))) dNext) (dSeq (dSet 6 (dCall f_script_with (dCons (dVar 4) (dCons (dVar 2) dNil)))) (dSeq (dExprX (dCallS 0 f_stand (dCons (dVar 1) (dCons (dL (dCat (dVar 3) (dL (dDisp (dCons (dVar 6) dNil))))) dNil)))) (dRet (dL (dCat (dL (dDisp (dCons (dC (.int 1)) dNil))) (dCall f_option_text (dCons (dCall f_hand (dCons (dFld true 0 (dVar 6)) dNil)) dNil)))))))))))))
theorem len_play_answer : ∀ ss ds Q, f_play_answer ss ds Q → ds.length + 1 = 3 := by
  rintro ss ds Q ⟨w, j, t, rfl, hw, rfl, hl, hc, q⟩
  rfl
theorem play_ok {v : Panel} {i : Panels.Item} (h : PanelOk v) (hi : Inv (v.script ++ [i])) : PanelOk ⟨v.script ++ [i], v.added + 1⟩ := by
  refine ⟨by have := h.le; simp; omega, fun b hb => ?_⟩
  rw [panel_play h] at hb
  rcases List.mem_append.mp hb with z | z
  · exact h.inv b z
  · rw [List.mem_singleton] at z
    exact z ▸ hi
theorem pure_play_answer : ∀ p l ss ds Q, f_play_answer ss ds Q → t_play_answer (endS p l Q) (startS p l ss 7 ds) := by
  rintro p l ss ds Q ⟨w, j, t, rfl, hw, rfl, hl, hc, q⟩
  simp [t_play_answer]
  refine c_scripts_at hw.four ?_
  cases hp : panelAt w j with
  | none =>
    rw [play_none hp] at q
    simp [eP, D.items]
    exact q hw
  | some v =>
    have hv := at_ok hw hp
    have hlen := panel_len v
    have hi := panel_inv hv.2
    have hget := panel_get hv.2 (by omega)
    have hne : panelL v ≠ [] := by intro z; rw [z] at hlen; simp at hlen
    have h52 := panel_small hv.2
    simp [eP, D.items, hlen, hne, hget]
    refine ⟨by omega, c_act_problem hi (by omega) hc ?_⟩
    cases hf : lineFrom t with
    | none =>
      rw [play_no hp hf] at q
      rw [act_none hf]
      simp
      exact q hw
    | some i =>
      cases hpb : itemProblem v.script i with
      | some pb =>
        rw [play_bad hp hf hpb] at q
        rw [act_bad hf hpb]
        have h1 := nP_pos pb
        have h2 := problem_le pb
        simp
        rw [if_neg (by omega), if_pos (by omega)]
        have q' := q hw
        simp [toldShown, faultShown, Panels.refusalShown, Panels.problemShown, e8, eI, ints8, octet_small (n := problemNumber pb) (by omega)] at q'
        exact q'
      | none =>
        rw [play_good hp hf hpb] at q
        rw [act_good hf hpb]
        simp
        refine c_script_with hi (by omega) hc hf hpb fun hi2 => ?_
        have hsz := hand_size hi2
        have hok := play_ok hv.2 hi2
        refine ⟨by omega, ?_⟩
        refine c_stand (v := ⟨v.script ++ [i], v.added + 1⟩) hw.four hv.1 (by rw [eP, panel_play hv.2]; simp) ?_
        have hwc := wall_covers hi2
        have hw2 := (inv_wf hi2).2.1
        simp
        refine ⟨by omega, hw2, c_option_text' (hand_head hi2) (hand_ok' hi2) ?_⟩
        refine ⟨_, rfl, by simp; omega, ?_⟩
        exact q (put_ok hw hok)
/-! ### trial -/
def f_trial_answer : DSpS := fun ss ds Q => ∃ (w : Panels.World) (j : Nat) (ls : List Units), ss = encW w ∧ WorldOk w ∧ ds = [.int j, eL ls] ∧ ls.length ≤ 900000 ∧ (∀ u ∈ ls, u.length ≤ 900000 ∧ Chars u) ∧ (WorldOk (Panels.run w (.trial j ls)).1 → Q (e8 (toldShown (Panels.run w (.trial j ls)).2)) (encW (Panels.run w (.trial j ls)).1))
theorem c_trial_answer {w : Panels.World} {j : Nat} {ls : List Units} {Q : D → List D → Prop} (hw : WorldOk w) (hl : ls.length ≤ 900000) (hc : ∀ u ∈ ls, u.length ≤ 900000 ∧ Chars u) (q : WorldOk (Panels.run w (.trial j ls)).1 → Q (e8 (toldShown (Panels.run w (.trial j ls)).2)) (encW (Panels.run w (.trial j ls)).1)) : f_trial_answer (encW w) [.int (j : Nat), eL ls] Q := ⟨w, j, ls, rfl, hw, rfl, hl, hc, q⟩
def lb_trial_answer0 : DS := (dSeq (dSet 7 (dCall f_act_problem (dCons (dVar 4) (dCons (dIx (dVar 2) (dVar 6)) dNil)))) (dSeq (dIfS (dB (dLtI (dVar 7) (dC (.int 0)))) (dRet (dL (dCat (dL (dDisp (dCons (dC (.int 0)) (dCons (dC (.int 8)) dNil)))) (dCall f_number_octets (dCons (dVar 6) dNil))))) dNext) (dSeq (dIfS (dB (dGtI (dVar 7) (dC (.int 0)))) (dRet (dL (dCat (dL (dCat (dL (dDisp (dCons (dC (.int 0)) (dCons (dC (.int 9)) dNil)))) (dCall f_number_octets (dCons (dVar 6) dNil)))) (dL (dDisp (dCons (dVar 7) dNil)))))) dNext) (dSeq (dSet 4 (dCall f_script_with (dCons (dVar 4) (dCons (dIx (dVar 2) (dVar 6)) dNil)))) (dExt 5 (dCall f_option_text (dCons (dCall f_hand (dCons (dFld true 0 (dVar 4)) dNil)) dNil)))))))
def t_trial_answer : DS := (dSeq (dSetX 3 (dCallS 0 f_scripts_at (dCons (dVar 1) dNil))) (dSeq (dIfS (dB (dEqI (dLen (dVar 3)) (dC (.int 0)))) (dRet (dL (dDisp (dCons (dC (.int 0)) (dCons (dC (.int 7)) dNil))))) dNext) (dSeq (dSet 4 (dIx (dVar 3) (dSub (dLen (dVar 3)) (dC (.int 1))))) (dSeq (dOwn 5 (dCat (dL (dDisp (dCons (dC (.int 1)) dNil))) (dCall f_number_octets (dCons (dLen (dVar 2)) dNil)))) (dSeq (dFor 6 (dItR (dLen (dVar 2))) lb_trial_answer0) (dRet (dVar 5)))))))
theorem len_trial_answer : ∀ ss ds Q, f_trial_answer ss ds Q → ds.length + 1 = 3 := by
  rintro ss ds Q ⟨w, j, ls, rfl, hw, rfl, hl, hc, q⟩
  rfl
theorem run_trial {w : Panels.World} {j : Nat} {ls : List Units} : Panels.run w (.trial j ls) = match panelAt w j with
  | none => (w, .error .noPanel)
  | some v => match Panels.trial v 0 ls with
    | .error e => (w, .error (.lineOf e.1 e.2))
    | .ok r => (w, .ok (Result.hands r)) := by
  show (w, Panels.andThen (Panels.andThen (Panels.ofOption (panelAt w j) .noPanel) fun v => match Panels.trial v 0 ls with
    | .error e => .error (.lineOf e.1 e.2)
    | .ok r => .ok r) _) = _
  cases panelAt w j with
  | none => rfl
  | some v =>
    simp only [Panels.ofOption, Panels.andThen]
    cases Panels.trial v 0 ls <;> rfl
/-- behind lines said one after another, from a script -/
def trialS (b : Panels.Script) : Nat → List Units → Except (Nat × Panels.Refusal) (List (Option Units))
  | _, [] => .ok []
  | n, u :: l => match lineFrom u with
    | none => .error (n, .noMove)
    | some i => match itemProblem b i with
      | some p => .error (n, .problem p)
      | none => match trialS (b ++ [i]) (n + 1) l with
        | .error e => .error e
        | .ok r => .ok (Panels.handIn (b ++ [i]) :: r)
theorem trial_eq : ∀ (ls : List Units) (v : Panel) (n : Nat), Panels.trial v n ls = trialS v.script n ls
  | [], v, n => rfl
  | u :: ls, v, n => by
    unfold Panels.trial trialS Panels.play
    cases lineFrom u with
    | none => rfl
    | some i =>
      simp only
      cases itemProblem v.script i with
      | some p => rfl
      | none =>
        simp only
        rw [trial_eq ls]
        rfl
theorem trial_len : ∀ (ls : List Units) {b : Panels.Script} {n : Nat} {r : List (Option Units)}, trialS b n ls = .ok r → r.length = ls.length
  | [], b, n, r, h => by
    have : [] = r := by injection h
    subst this
    rfl
  | u :: ls, b, n, r, h => by
    unfold trialS at h
    cases hf : lineFrom u with
    | none => rw [hf] at h; cases h
    | some i =>
      simp only [hf] at h
      cases hp : itemProblem b i with
      | some p => simp only [hp] at h; cases h
      | none =>
        simp only [hp] at h
        cases ht : trialS (b ++ [i]) (n + 1) ls with
        | error e => simp only [ht] at h; cases h
        | ok s =>
          simp only [ht] at h
          have : Panels.handIn (b ++ [i]) :: s = r := by injection h
          subst this
          rw [List.length_cons, List.length_cons, trial_len ls ht]
theorem acts_more {b : Panels.Script} {i : Panels.Item} (h : Panels.isCommand i = true) : (Panels.actsSaid (b ++ [i])).length = (Panels.actsSaid b).length + 1 := by
  have h0 : Panels.sheetItems [i] = [] := by
    cases i <;> first | rfl | simp [Panels.isCommand] at h
  rw [acts_app h0, List.length_append]
  congr 1
  cases ha : actOf b i with
  | none =>
    have := actOf_none.mp ha
    rw [h] at this
    cases this
  | some a => rfl
theorem loop_trial_answer {Dn : DN} {p l : PySem.Addr} {ss : List D} {b0 c : Slot} {ls : List Units} (hl : ls.length ≤ 900000) (hc : ∀ u ∈ ls, u.length ≤ 900000 ∧ Chars u) : ∀ (m j : Nat) (b : Panels.Script) (o : List UInt8) (x y : Slot), j + m = ls.length → Inv b → o.length ≤ 5 + 4005 * (Panels.actsSaid b).length →
    (∀ e env, trialS b j (ls.drop j) = .error e → Dn.rt (e8 (faultShown (.lineOf e.1 e.2))) (.ses p l ss :: env)) →
    (∀ r s x y, trialS b j (ls.drop j) = .ok r → Dn.nx [.ses p l ss, b0, .val (eL ls), c, s, .own ((ints8 (o ++ r.flatMap (Panels.optionShown Panels.textShown))).map D.int), x, y]) →
    dLoop 6 lb_trial_answer0 ((List.range' j m).map fun (k : Nat) => .int (k : Int)) Dn [.ses p l ss, b0, .val (eL ls), c, .val (eS (toM b)), .own ((ints8 o).map D.int), x, y]
  | 0, j, b, o, x, y, hj, hb, ho, h1, h2 => by
    rw [List.range'_zero, List.map_nil, loop_nil]
    rw [List.drop_of_length_le (by omega)] at h2
    have := h2 [] (.val (eS (toM b))) x y rfl
    simpa using this
  | m + 1, j, b, o, x, y, hj, hb, ho, h1, h2 => by
    rw [List.range'_succ, List.map_cons, loop_cons]
    have hlt : j < ls.length := by omega
    have hu := hc ls[j] (List.getElem_mem hlt)
    have ed : ls.drop j = ls[j] :: ls.drop (j + 1) := List.drop_eq_getElem_cons hlt
    rw [ed] at h1 h2
    unfold trialS at h1 h2
    have hacts := hb.acts
    have num : ∀ n : Nat, n ≤ 20 → ((octetOf n).toNat : Int) = (n : Int) := fun n hn => octet_small (by omega)
    simp [lb_trial_answer0, hlt]
    refine c_act_problem hb (by omega) hu.2 ?_
    cases hf : lineFrom ls[j] with
    | none =>
      rw [act_none hf]
      simp only [hf] at h1
      simp
      refine ⟨by rw [number_len]; omega, ?_⟩
      have z := h1 (j, .noMove)
      simp [faultShown, Panels.refusalShown, e8, eI, ints8] at z
      simpa [ints8] using z _
    | some i =>
      simp only [hf] at h1 h2
      cases hpb : itemProblem b i with
      | some pb =>
        rw [act_bad hf hpb]
        simp only [hpb] at h1
        have h3 := nP_pos pb
        have h4 := problem_le pb
        simp
        rw [if_neg (by omega), if_pos (by omega)]
        refine ⟨by rw [number_len]; omega, by rw [number_len]; omega, ?_⟩
        have z := h1 (j, .problem pb)
        simp [faultShown, Panels.refusalShown, Panels.problemShown, e8, eI, ints8, num _ h4] at z
        simpa [ints8] using z _
      | none =>
        rw [act_good hf hpb]
        simp only [hpb] at h1 h2
        simp
        refine c_script_with hb (by omega) hu.2 hf hpb fun hi2 => ?_
        have hsz := hand_size hi2
        have hwc := wall_covers hi2
        have hw2 := (inv_wf hi2).2.1
        have hcm := (line_good hu.2 hf).2.2
        have hac := acts_more (b := b) hcm
        simp
        refine ⟨by omega, hw2, c_option_text' (hand_head hi2) (hand_ok' hi2) ?_⟩
        refine ⟨_, rfl, by simp; omega, ?_⟩
        have z := loop_trial_answer (Dn := Dn) (p := p) (l := l) (ss := ss) (b0 := b0) (c := c) hl hc m (j + 1) (b ++ [i]) (o ++ Panels.optionShown Panels.textShown (Panels.handIn (b ++ [i]))) (.val (.int (j : Int))) (.val (.int 0)) (by omega) hi2 (by rw [hac, List.length_append]; omega)
          (fun e env he => by
            rw [he] at h1
            exact h1 e env rfl)
          (fun r s x y he => by
            rw [he] at h2
            have := h2 (Panels.handIn (b ++ [i]) :: r) s x y rfl
            simpa using this)
        simp [lb_trial_answer0, ints8] at z ⊢
        exact z
theorem pure_trial_answer : ∀ p l ss ds Q, f_trial_answer ss ds Q → t_trial_answer (endS p l Q) (startS p l ss 8 ds) := by
  rintro p l ss ds Q ⟨w, j, ls, rfl, hw, rfl, hl, hc, q⟩
  simp [t_trial_answer]
  refine c_scripts_at hw.four ?_
  cases hp : panelAt w j with
  | none =>
    rw [run_trial, hp] at q
    simp [eP, D.items]
    exact q hw
  | some v =>
    have hv := at_ok hw hp
    have hlen := panel_len v
    have hi := panel_inv hv.2
    have hget := panel_get hv.2 (by omega)
    have hne : panelL v ≠ [] := by intro z; rw [z] at hlen; simp at hlen
    have h52 := panel_small hv.2
    rw [run_trial, hp] at q
    simp only [trial_eq] at q
    simp [eP, D.items, hlen, hne, hget]
    have hz := number_len ls.length
    refine ⟨by omega, by omega, by omega, ?_⟩
    rw [List.range_eq_range']
    have z := loop_trial_answer (Dn := ⟨dRet (dVar 5) ⟨fun env => ∃ ss', env[0]? = some (Slot.ses p l ss') ∧ Q D.non ss', fun d env => ∃ ss', env[0]? = some (Slot.ses p l ss') ∧ Q d ss'⟩, fun d env => ∃ ss', env[0]? = some (Slot.ses p l ss') ∧ Q d ss'⟩) (p := p) (l := l) (ss := encW w) (b0 := .val (.int (j : Int))) (c := .val (.lst ((panelL v).map fun b => eS (toM b)))) hl hc ls.length 0 v.script (1 :: numberShown ls.length) .un .un (by omega) hi (by simp [number_len])
      (fun e env he => by
        rw [List.drop_zero] at he
        rw [he] at q
        exact ⟨encW w, rfl, q hw⟩)
      (fun r s x y he => by
        rw [List.drop_zero] at he
        have hr := trial_len ls he
        rw [he] at q
        have q' : Q (e8 (1 :: (numberShown r.length ++ r.flatMap (Panels.optionShown Panels.textShown)))) (encW w) := q hw
        rw [hr] at q'
        simp
        exact q')
    simp [ints8] at z ⊢
    exact z
/-! ### a request about a place -/
def placeCall (kd j : Nat) (t : Units) (ls : List Units) : Panels.Call := if kd = 9 then .panel j t else if kd = 10 then .play j t else if kd = 11 then .undo j else if kd = 12 then .look j else .trial j ls
def f_place_answer : DSpS := fun ss ds Q => ∃ (w : Panels.World) (kd : Nat) (o : List UInt8) (st : List Nat) (p0 p1 : Nat) (t : Units) (r : List (List UInt8) × Nat), ss = encW w ∧ WorldOk w ∧ ds = [.int kd, e8 o, eN st] ∧ o.length ≤ 800000 ∧ st[0]? = some p0 ∧ p0 + 4 ≤ o.length ∧ ((kd = 9 ∨ kd = 10) → st[1]? = some p1 ∧ p1 + 4 ≤ o.length ∧ t = u16 (textAt o p1)) ∧ ((kd ≠ 9 ∧ kd ≠ 10 ∧ kd ≠ 11 ∧ kd ≠ 12) → st[1]? = some p1 ∧ p1 + 4 ≤ o.length ∧ textsFrom o (numAt o p1) (p1 + 4) = some r) ∧
  (WorldOk (Panels.run w (placeCall kd (numAt o p0) t (r.1.map u16))).1 → Q (e8 (toldShown (Panels.run w (placeCall kd (numAt o p0) t (r.1.map u16))).2)) (encW (Panels.run w (placeCall kd (numAt o p0) t (r.1.map u16))).1))
theorem c_place_answer {w : Panels.World} {kd : Nat} {o : List UInt8} {st : List Nat} {p0 p1 : Nat} {t : Units} {r : List (List UInt8) × Nat} {Q : D → List D → Prop} (hw : WorldOk w) (ho : o.length ≤ 800000) (h0 : st[0]? = some p0) (hp : p0 + 4 ≤ o.length) (h1 : (kd = 9 ∨ kd = 10) → st[1]? = some p1 ∧ p1 + 4 ≤ o.length ∧ t = u16 (textAt o p1)) (h2 : (kd ≠ 9 ∧ kd ≠ 10 ∧ kd ≠ 11 ∧ kd ≠ 12) → st[1]? = some p1 ∧ p1 + 4 ≤ o.length ∧ textsFrom o (numAt o p1) (p1 + 4) = some r)
  (q : WorldOk (Panels.run w (placeCall kd (numAt o p0) t (r.1.map u16))).1 → Q (e8 (toldShown (Panels.run w (placeCall kd (numAt o p0) t (r.1.map u16))).2)) (encW (Panels.run w (placeCall kd (numAt o p0) t (r.1.map u16))).1)) : f_place_answer (encW w) [.int (kd : Nat), e8 o, eN st] Q := ⟨w, kd, o, st, p0, p1, t, r, rfl, hw, rfl, ho, h0, hp, h1, h2, q⟩
def t_place_answer : DS := (dSeq (dSet 4 (dCall f_number_at (dCons (dVar 2) (dCons (dIx (dVar 3) (dC (.int 0))) dNil)))) (dSeq (dIfS (dB (dEqI (dVar 1) (dC (.int 9)))) (dRetX (dCallS 0 f_panel_answer (dCons (dVar 4) (dCons (dCall f_text_at (dCons (dVar 2) (dCons (dIx (dVar 3) (dC (.int 1))) dNil))) dNil)))) dNext) (dSeq (dIfS (dB (dEqI (dVar 1) (dC (.int 10)))) (dRetX (dCallS 0 f_play_answer (dCons (dVar 4) (dCons (dCall f_text_at (dCons (dVar 2) (dCons (dIx (dVar 3) (dC (.int 1))) dNil))) dNil)))) dNext) (dSeq (dIfS (dB (dEqI (dVar 1) (dC (.int 11)))) (dRetX (dCallS 0 f_undo_answer (dCons (dVar 4) dNil))) dNext) (dSeq (dIfS (dB (dEqI (dVar 1) (dC (.int 12)))) (dRetX (dCallS 0 f_look_answer (dCons (dVar 4) dNil))) dNext) (dRetX (dCallS 0 f_trial_answer (dCons (dVar 4) (dCons (dCall f_texts_at (dCons (dVar 2) (dCons (dIx (dVar 3) (dC (.int 1))) dNil))) dNil)))))))))
theorem len_place_answer : ∀ ss ds Q, f_place_answer ss ds Q → ds.length + 1 = 4 := by
  rintro ss ds Q ⟨w, kd, o, st, p0, p1, t, r, rfl, hw, rfl, ho, h0, hp, h1, h2, q⟩
  rfl
theorem texts_small' {o : List UInt8} : ∀ (n p : Nat) (r : List (List UInt8) × Nat), textsFrom o n p = some r → ∀ x ∈ r.1, x.length ≤ o.length
  | 0, p, r, h => by
    have e2 : r = ([], p) := (Option.some.inj h).symm
    subst e2
    intro x hx
    simp at hx
  | n + 1, p, r, h => by
    unfold textsFrom at h
    cases he : textEnd o p with
    | none => rw [he] at h; cases h
    | some e =>
      rw [he] at h
      simp only at h
      cases hr2 : textsFrom o n e with
      | none => rw [hr2] at h; cases h
      | some r2 =>
        rw [hr2] at h
        have er : (textAt o p :: r2.1, r2.2) = r := Option.some.inj h
        subst er
        intro x hx
        rcases List.mem_cons.mp hx with rfl | hx
        · have := textAt_len o p
          rw [u16_len] at this
          exact this
        · exact texts_small' n e r2 hr2 x hx
theorem pure_place_answer : ∀ p l ss ds Q, f_place_answer ss ds Q → t_place_answer (endS p l Q) (startS p l ss 5 ds) := by
  rintro p l ss ds Q ⟨w, kd, o, st, p0, p1, t, r, rfl, hw, rfl, ho, h0, hp, h1, h2, q⟩
  have e0 : (intsN st)[0]? = some (p0 : Int) := by simp [intsN, h0]
  simp [t_place_answer]
  refine ⟨_, ⟨_, e0, rfl⟩, ?_⟩
  rw [i_number_at]
  refine ⟨hp, ?_⟩
  unfold placeCall at q
  by_cases k9 : kd = 9
  · have h3 := h1 (.inl k9)
    have e1 : (intsN st)[1]? = some (p1 : Int) := by simp [intsN, h3.1]
    have htl := textAt_len o p1
    rw [if_pos k9] at q
    rw [if_pos (by omega)]
    refine ⟨_, ⟨_, e1, rfl⟩, ?_⟩
    rw [i_text_at, ← h3.2.2]
    rw [← h3.2.2] at htl
    exact ⟨h3.2.1, c_panel_answer hw (by omega) (by rw [h3.2.2]; exact u16_chars _) q⟩
  rw [if_neg k9] at q
  rw [if_neg (by omega)]
  by_cases k10 : kd = 10
  · have h3 := h1 (.inr k10)
    have e1 : (intsN st)[1]? = some (p1 : Int) := by simp [intsN, h3.1]
    have htl := textAt_len o p1
    rw [if_pos k10] at q
    rw [if_pos (by omega)]
    refine ⟨_, ⟨_, e1, rfl⟩, ?_⟩
    rw [i_text_at, ← h3.2.2]
    rw [← h3.2.2] at htl
    exact ⟨h3.2.1, c_play_answer hw (by omega) (by rw [h3.2.2]; exact u16_chars _) q⟩
  rw [if_neg k10] at q
  rw [if_neg (by omega)]
  by_cases k11 : kd = 11
  · rw [if_pos k11] at q
    rw [if_pos (by omega)]
    exact c_undo_answer hw q
  rw [if_neg k11] at q
  rw [if_neg (by omega)]
  by_cases k12 : kd = 12
  · rw [if_pos k12] at q
    rw [if_pos (by omega)]
    exact c_look_answer hw q
  rw [if_neg k12] at q
  rw [if_neg (by omega)]
  have h3 := h2 ⟨k9, k10, k11, k12⟩
  have e1 : (intsN st)[1]? = some (p1 : Int) := by simp [intsN, h3.1]
  refine ⟨_, ⟨_, e1, rfl⟩, ?_⟩
  refine c_texts_at h3.2.1 (by omega) h3.2.2 ?_
  have hlen := textsFrom_len _ _ _ h3.2.2
  refine c_trial_answer hw (by rw [List.length_map]; omega) (fun u hu => ?_) q
  obtain ⟨x, hx, rfl⟩ := List.mem_map.mp hu
  have := texts_small' _ _ _ h3.2.2 x hx
  exact ⟨by rw [u16_len]; omega, u16_chars x⟩
end PW
set_option Elab.async false
set_option linter.all false
set_option maxRecDepth 100000
set_option maxHeartbeats 2000000
namespace PW
open Panels (Octets octet number textRead listRead timesRead andRead pass argumentsRead callIn wholeRead toldShown panelCheck Told)
theorem drop_four {o : List UInt8} {p : Nat} (h : p + 4 ≤ o.length) : o.drop p = o.getD p 0 :: o.getD (p + 1) 0 :: o.getD (p + 2) 0 :: o.getD (p + 3) 0 :: o.drop (p + 4) := by
  rw [List.drop_eq_getElem_cons (by omega), List.drop_eq_getElem_cons (i := p + 1) (by omega), List.drop_eq_getElem_cons (i := p + 2) (by omega), List.drop_eq_getElem_cons (i := p + 3) (by omega)]
  rw [List.getD_eq_getElem?_getD, List.getD_eq_getElem?_getD, List.getD_eq_getElem?_getD, List.getD_eq_getElem?_getD]
  rw [List.getElem?_eq_getElem (by omega), List.getElem?_eq_getElem (by omega), List.getElem?_eq_getElem (by omega), List.getElem?_eq_getElem (by omega)]
  rfl
theorem number_short : ∀ {l : Octets}, l.length < 4 → number l = none
  | [], _ => rfl
  | [_], _ => rfl
  | [_, _], _ => rfl
  | [_, _, _], _ => rfl
  | _ :: _ :: _ :: _ :: l, h => by simp at h; omega
theorem number_read {o : List UInt8} {p : Nat} : number (o.drop p) = if p + 4 ≤ o.length then some (numAt o p, o.drop (p + 4)) else none := by
  by_cases h : p + 4 ≤ o.length
  · rw [if_pos h, drop_four h]
    rfl
  · rw [if_neg h]
    exact number_short (by rw [List.length_drop]; omega)
theorem octets_read : ∀ (n : Nat) (l : Octets), timesRead octet n l = if n ≤ l.length then some ((l.take n).map UInt8.toNat, l.drop n) else none
  | 0, l => by
    rw [if_pos (Nat.zero_le _)]
    rfl
  | n + 1, [] => by
    rw [if_neg (by simp)]
    rfl
  | n + 1, a :: l => by
    have e : timesRead octet (n + 1) (a :: l) = (timesRead octet n l).bind fun e => some (a.toNat :: e.1, e.2) := rfl
    rw [e, octets_read n l]
    by_cases h : n ≤ l.length
    · rw [if_pos h, if_pos (by simp; omega)]
      rfl
    · rw [if_neg h, if_neg (by simp; omega)]
      rfl
theorem u16_map (l : List UInt8) : (l.map UInt8.toNat).map UInt16.ofNat = u16 l := by
  unfold u16
  rw [List.map_map]
  rfl
theorem text_read {o : List UInt8} {p : Nat} : textRead (o.drop p) = (textEnd o p).map fun e => (u16 (textAt o p), o.drop e) := by
  have e : textRead (o.drop p) = ((number (o.drop p)).bind fun e => if e.1 ≤ e.2.length then timesRead octet e.1 e.2 else none).bind fun e => some (e.1.map UInt16.ofNat, e.2) := rfl
  rw [e, number_read]
  unfold textEnd
  by_cases h : p + 4 ≤ o.length
  · rw [if_pos h, if_neg (by omega)]
    simp only [Option.bind_some, List.length_drop]
    by_cases h2 : numAt o p ≤ o.length - (p + 4)
    · rw [if_pos h2, if_neg (by omega), octets_read, if_pos (by rw [List.length_drop]; exact h2)]
      simp only [Option.bind_some, Option.map_some, u16_map, List.drop_drop]
      rfl
    · rw [if_neg h2, if_pos (by omega)]
      rfl
  · rw [if_neg h, if_pos (by omega)]
    rfl
theorem times_read {o : List UInt8} : ∀ (n p : Nat), timesRead textRead n (o.drop p) = (textsFrom o n p).map fun r => (r.1.map u16, o.drop r.2)
  | 0, p => rfl
  | n + 1, p => by
    have e : timesRead textRead (n + 1) (o.drop p) = (textRead (o.drop p)).bind fun a => (timesRead textRead n a.2).bind fun r => some (a.1 :: r.1, r.2) := rfl
    rw [e, text_read]
    unfold textsFrom
    cases textEnd o p with
    | none => rfl
    | some e =>
      simp only [Option.map_some, Option.bind_some]
      rw [times_read n e]
      cases textsFrom o n e with
      | none => rfl
      | some r => rfl
theorem texts_read {o : List UInt8} {p : Nat} : listRead textRead (o.drop p) = if p + 4 ≤ o.length then (if numAt o p ≤ o.length - (p + 4) then (textsFrom o (numAt o p) (p + 4)).map fun r => (r.1.map u16, o.drop r.2) else none) else none := by
  have e : listRead textRead (o.drop p) = (number (o.drop p)).bind fun e => if e.1 ≤ e.2.length then timesRead textRead e.1 e.2 else none := rfl
  rw [e, number_read]
  by_cases h : p + 4 ≤ o.length
  · rw [if_pos h, if_pos h]
    simp only [Option.bind_some, List.length_drop]
    by_cases h2 : numAt o p ≤ o.length - (p + 4)
    · rw [if_pos h2, if_pos h2, times_read]
    · rw [if_neg h2, if_neg h2]
  · rw [if_neg h, if_neg h]
    rfl
theorem call_nil : callIn [] = none := rfl
theorem call_cons {b : UInt8} {r : List UInt8} : callIn (b :: r) = (argumentsRead b.toNat r).bind fun e => if e.2.isEmpty = true then some e.1 else none := rfl
theorem empty_iff {o : List UInt8} {e : Nat} : (o.drop e).isEmpty = true ↔ o.length ≤ e := by
  rw [List.isEmpty_iff, List.drop_eq_nil_iff]
theorem starts_cons {b : UInt8} {r : List UInt8} : startsOf (b :: r) = if 13 < b.toNat then [] else match startsGo (b :: r) (shapes.getD b.toNat []) 1 with
    | none => []
    | some q => if q.2 = (b :: r).length then q.1 else [] := rfl
theorem rest_drop {b : UInt8} {r : List UInt8} : r = (b :: r).drop 1 := rfl
theorem part1 {o : List UInt8} {p : Nat} : partEnd o p 1 = if p + 4 ≤ o.length then some (p + 4) else none := by
  show numEnd o p = _
  unfold numEnd
  by_cases h : p + 4 ≤ o.length
  · rw [if_pos h, if_neg (by omega)]
  · rw [if_neg h, if_pos (by omega)]
theorem part2 {o : List UInt8} {p : Nat} : partEnd o p 2 = textEnd o p := rfl
theorem part3 {o : List UInt8} {p : Nat} : partEnd o p 3 = if p + 4 ≤ o.length then (if numAt o p ≤ o.length - (p + 4) then (textsFrom o (numAt o p) (p + 4)).map (·.2) else none) else none := by
  show textsEnd o p = _
  unfold textsEnd
  by_cases h : p + 4 ≤ o.length
  · rw [if_pos h, if_neg (by omega)]
    by_cases h2 : numAt o p ≤ o.length - (p + 4)
    · rw [if_pos h2, if_neg (by omega)]
    · rw [if_neg h2, if_pos (by omega)]
  · rw [if_neg h, if_pos (by omega)]
/-! the shapes of requests -/
/-- what a request is -/
inductive Asks (o : List UInt8) : Prop where
  | no (s : startsOf o = []) (c : callIn o = none)
  | text (kd : Nat) (k8 : kd ≤ 8) (hk : o.head?.map UInt8.toNat = some kd) (h4 : 1 + 4 ≤ o.length) (st : List Nat) (s : startsOf o = 1 :: st) (p1 : Nat) (t1 : Units)
      (h : (kd = 3 ∨ kd = 4 ∨ kd = 5) → (1 :: st)[1]? = some p1 ∧ p1 + 4 ≤ o.length ∧ t1 = u16 (textAt o p1)) (c : Panels.Call) (hc : callIn o = some c) (hr : ∀ w, Panels.run w c = (w, textTold kd (u16 (textAt o 1)) t1))
  | place (kd : Nat) (k9 : 9 ≤ kd) (hk : o.head?.map UInt8.toNat = some kd) (h4 : 1 + 4 ≤ o.length) (st : List Nat) (s : startsOf o = 1 :: st) (p1 : Nat) (t : Units) (r : List (List UInt8) × Nat)
      (h1 : (kd = 9 ∨ kd = 10) → (1 :: st)[1]? = some p1 ∧ p1 + 4 ≤ o.length ∧ t = u16 (textAt o p1))
      (h2 : (kd ≠ 9 ∧ kd ≠ 10 ∧ kd ≠ 11 ∧ kd ≠ 12) → (1 :: st)[1]? = some p1 ∧ p1 + 4 ≤ o.length ∧ textsFrom o (numAt o p1) (p1 + 4) = some r)
      (hc : callIn o = some (placeCall kd (numAt o 1) t (r.1.map u16)))
theorem shape_text {b : UInt8} {r : List UInt8} {C : Units → Panels.Call} (k8 : b.toNat ≤ 8) (k3 : ¬ (b.toNat = 3 ∨ b.toNat = 4 ∨ b.toNat = 5)) (sh : shapes.getD b.toNat [] = [2]) (ar : argumentsRead b.toNat = andRead textRead fun t => pass (C t)) (hr : ∀ t s w, Panels.run w (C t) = (w, textTold b.toNat t s)) : Asks (b :: r) := by
  have e1 : argumentsRead b.toNat r = (textRead ((b :: r).drop 1)).bind fun e => some (C e.1, e.2) := by rw [ar]; rfl
  have e2 := starts_cons (b := b) (r := r)
  rw [if_neg (by omega), sh] at e2
  unfold startsGo at e2
  rw [part2] at e2
  have e3 := call_cons (b := b) (r := r)
  rw [e1, text_read] at e3
  cases he : textEnd (b :: r) 1 with
  | none =>
    rw [he] at e2 e3
    exact .no e2 e3
  | some e =>
    rw [he] at e2 e3
    have hb := textEnd_some he
    simp only [startsGo] at e2
    simp only [Option.map_some, Option.bind_some] at e3
    by_cases hl : e = (b :: r).length
    · rw [if_pos hl] at e2
      rw [if_pos (empty_iff.mpr (by omega))] at e3
      exact .text b.toNat k8 rfl (by omega) [] e2 0 [] (fun z => absurd z k3) _ e3 (hr _ _)
    · rw [if_neg hl] at e2
      rw [if_neg (fun z => by have := empty_iff.mp z; omega)] at e3
      exact .no e2 e3
theorem shape_texts {b : UInt8} {r : List UInt8} {C : Units → Units → Panels.Call} (k8 : b.toNat ≤ 8) (sh : shapes.getD b.toNat [] = [2, 2]) (ar : argumentsRead b.toNat = andRead textRead fun t => andRead textRead fun s => pass (C t s)) (hr : ∀ t s w, Panels.run w (C t s) = (w, textTold b.toNat t s)) : Asks (b :: r) := by
  have e1 : argumentsRead b.toNat r = (textRead ((b :: r).drop 1)).bind fun e => (textRead e.2).bind fun f => some (C e.1 f.1, f.2) := by rw [ar]; rfl
  have e2 := starts_cons (b := b) (r := r)
  rw [if_neg (by omega), sh] at e2
  unfold startsGo at e2
  rw [part2] at e2
  have e3 := call_cons (b := b) (r := r)
  rw [e1, text_read] at e3
  cases he : textEnd (b :: r) 1 with
  | none =>
    rw [he] at e2 e3
    exact .no e2 e3
  | some e =>
    rw [he] at e2 e3
    have hb := textEnd_some he
    simp only [startsGo, part2] at e2
    simp only [Option.map_some, Option.bind_some] at e3
    rw [text_read] at e3
    cases hf : textEnd (b :: r) e with
    | none =>
      rw [hf] at e2 e3
      exact .no e2 e3
    | some f =>
      rw [hf] at e2 e3
      have hb2 := textEnd_some hf
      simp only at e2
      simp only [Option.map_some, Option.bind_some] at e3
      by_cases hl : f = (b :: r).length
      · rw [if_pos hl] at e2
        rw [if_pos (empty_iff.mpr (by omega))] at e3
        exact .text b.toNat k8 rfl (by omega) [e] e2 e _ (fun _ => ⟨rfl, by omega, rfl⟩) _ e3 (hr _ _)
      · rw [if_neg hl] at e2
        rw [if_neg (fun z => by have := empty_iff.mp z; omega)] at e3
        exact .no e2 e3
theorem shape_ntext {b : UInt8} {r : List UInt8} {C : Nat → Units → Panels.Call} (k13 : b.toNat = 9 ∨ b.toNat = 10) (sh : shapes.getD b.toNat [] = [1, 2]) (ar : argumentsRead b.toNat = andRead number fun t => andRead textRead fun s => pass (C t s)) (hr : ∀ j t ls, C j t = placeCall b.toNat j t ls) : Asks (b :: r) := by
  have e1 : argumentsRead b.toNat r = (number ((b :: r).drop 1)).bind fun e => (textRead e.2).bind fun f => some (C e.1 f.1, f.2) := by rw [ar]; rfl
  have e2 := starts_cons (b := b) (r := r)
  rw [if_neg (by omega), sh] at e2
  unfold startsGo at e2
  rw [part1] at e2
  have e3 := call_cons (b := b) (r := r)
  rw [e1, number_read] at e3
  by_cases h4 : 1 + 4 ≤ (b :: r).length
  · rw [if_pos h4] at e2 e3
    simp only [startsGo, part2] at e2
    simp only [Option.bind_some] at e3
    rw [text_read] at e3
    cases hf : textEnd (b :: r) (1 + 4) with
    | none =>
      rw [hf] at e2 e3
      exact .no e2 e3
    | some f =>
      rw [hf] at e2 e3
      have hb2 := textEnd_some hf
      simp only at e2
      simp only [Option.map_some, Option.bind_some] at e3
      by_cases hl : f = (b :: r).length
      · rw [if_pos hl] at e2
        rw [if_pos (empty_iff.mpr (by omega)), hr _ _ []] at e3
        exact .place b.toNat (by omega) rfl (by omega) [1 + 4] e2 (1 + 4) _ ([], 0) (fun _ => ⟨rfl, by omega, rfl⟩) (fun z => by omega) e3
      · rw [if_neg hl] at e2
        rw [if_neg (fun z => by have := empty_iff.mp z; omega)] at e3
        exact .no e2 e3
  · rw [if_neg h4] at e2 e3
    exact .no e2 e3
theorem shape_num {b : UInt8} {r : List UInt8} {C : Nat → Panels.Call} (k13 : b.toNat = 11 ∨ b.toNat = 12) (sh : shapes.getD b.toNat [] = [1]) (ar : argumentsRead b.toNat = andRead number fun t => pass (C t)) (hr : ∀ j t ls, C j = placeCall b.toNat j t ls) : Asks (b :: r) := by
  have e1 : argumentsRead b.toNat r = (number ((b :: r).drop 1)).bind fun e => some (C e.1, e.2) := by rw [ar]; rfl
  have e2 := starts_cons (b := b) (r := r)
  rw [if_neg (by omega), sh] at e2
  unfold startsGo at e2
  rw [part1] at e2
  have e3 := call_cons (b := b) (r := r)
  rw [e1, number_read] at e3
  by_cases h4 : 1 + 4 ≤ (b :: r).length
  · rw [if_pos h4] at e2 e3
    simp only [startsGo] at e2
    simp only [Option.bind_some] at e3
    by_cases hl : 1 + 4 = (b :: r).length
    · rw [if_pos hl] at e2
      rw [if_pos (empty_iff.mpr (by omega)), hr _ [] []] at e3
      exact .place b.toNat (by omega) rfl (by omega) [] e2 0 [] ([], 0) (fun z => by omega) (fun z => by omega) e3
    · rw [if_neg hl] at e2
      rw [if_neg (fun z => by have := empty_iff.mp z; omega)] at e3
      exact .no e2 e3
  · rw [if_neg h4] at e2 e3
    exact .no e2 e3
theorem shape_ntexts {b : UInt8} {r : List UInt8} {C : Nat → List Units → Panels.Call} (k13 : b.toNat = 13) (sh : shapes.getD b.toNat [] = [1, 3]) (ar : argumentsRead b.toNat = andRead number fun t => andRead (listRead textRead) fun s => pass (C t s)) (hr : ∀ j t ls, C j ls = placeCall b.toNat j t ls) : Asks (b :: r) := by
  have e1 : argumentsRead b.toNat r = (number ((b :: r).drop 1)).bind fun e => (listRead textRead e.2).bind fun f => some (C e.1 f.1, f.2) := by rw [ar]; rfl
  have e2 := starts_cons (b := b) (r := r)
  rw [if_neg (by omega), sh] at e2
  unfold startsGo at e2
  rw [part1] at e2
  have e3 := call_cons (b := b) (r := r)
  rw [e1, number_read] at e3
  by_cases h4 : 1 + 4 ≤ (b :: r).length
  · rw [if_pos h4] at e2 e3
    simp only [startsGo, part3] at e2
    simp only [Option.bind_some] at e3
    rw [texts_read] at e3
    by_cases h8 : 1 + 4 + 4 ≤ (b :: r).length
    · rw [if_pos h8] at e2 e3
      by_cases h9 : numAt (b :: r) (1 + 4) ≤ (b :: r).length - (1 + 4 + 4)
      · rw [if_pos h9] at e2 e3
        cases hf : textsFrom (b :: r) (numAt (b :: r) (1 + 4)) (1 + 4 + 4) with
        | none =>
          rw [hf] at e2 e3
          exact .no e2 e3
        | some f =>
          rw [hf] at e2 e3
          have hb2 := textsFrom_len _ _ _ hf
          simp only [Option.map_some] at e2
          simp only [Option.map_some, Option.bind_some] at e3
          by_cases hl : f.2 = (b :: r).length
          · rw [if_pos hl] at e2
            rw [if_pos (empty_iff.mpr (by omega)), hr _ []] at e3
            exact .place b.toNat (by omega) rfl (by omega) [1 + 4] e2 (1 + 4) [] f (fun z => by omega) (fun _ => ⟨rfl, by omega, hf⟩) e3
          · rw [if_neg hl] at e2
            rw [if_neg (fun z => by have := empty_iff.mp z; omega)] at e3
            exact .no e2 e3
      · rw [if_neg h9] at e2 e3
        exact .no e2 e3
    · rw [if_neg h8] at e2 e3
      exact .no e2 e3
  · rw [if_neg h4] at e2 e3
    exact .no e2 e3
end PW
set_option Elab.async false
set_option linter.all false
set_option maxRecDepth 100000
set_option maxHeartbeats 2000000
namespace PW
open Panels (toldShown panelCheck Told Result Fault callIn)
theorem sheet_told {kd : Nat} {t s : Units} {x : Panels.Script → Nat → Result} (hx : ∀ b k, (if kd = 3 then Result.count (Panels.fewestIn b k) else if kd = 4 then .textThere (Panels.firstIn b k) else .count (Panels.spareIn b k)) = x b k) :
    (Panels.andThen (Panels.sheetCheck t s) fun e => .ok (x e.1 e.2)) = Panels.andThen (panelCheck t) fun b => sheetTold kd b s := by
  unfold Panels.sheetCheck
  cases panelCheck t with
  | error e => rfl
  | ok b =>
    simp only [Panels.andThen]
    unfold sheetTold
    simp only [hx]
    cases Panels.sheetFrom b s with
    | none => rfl
    | some k =>
      simp only [Panels.ofOption, Panels.andThen]
      cases Panels.isAway b k <;> rfl
theorem shape_of {b : UInt8} {n : Nat} (h : b.toNat = n) {l : List Int} (e : shapes.getD n [] = l) : shapes.getD b.toNat [] = l := by rw [h, e]
theorem asks_all : ∀ o : List UInt8, Asks o
  | [] => .no rfl call_nil
  | b :: r => by
    by_cases k : 13 < b.toNat
    · refine .no (by rw [starts_cons, if_pos k]) ?_
      rw [call_cons]
      have : Panels.argumentsRead b.toNat = fun _ => none := by
        unfold Panels.argumentsRead
        rw [if_neg (by omega), if_neg (by omega), if_neg (by omega), if_neg (by omega), if_neg (by omega), if_neg (by omega), if_neg (by omega), if_neg (by omega), if_neg (by omega), if_neg (by omega), if_neg (by omega), if_neg (by omega), if_neg (by omega), if_neg (by omega)]
      rw [this]
      rfl
    · have : b.toNat = 0 ∨ b.toNat = 1 ∨ b.toNat = 2 ∨ b.toNat = 3 ∨ b.toNat = 4 ∨ b.toNat = 5 ∨ b.toNat = 6 ∨ b.toNat = 7 ∨ b.toNat = 8 ∨ b.toNat = 9 ∨ b.toNat = 10 ∨ b.toNat = 11 ∨ b.toNat = 12 ∨ b.toNat = 13 := by omega
      rcases this with h | h | h | h | h | h | h | h | h | h | h | h | h | h
      · exact shape_text (C := .check) (by omega) (by omega) (shape_of h rfl) (by rw [h]; rfl) (fun t s w => by rw [h]; rfl)
      · exact shape_text (C := .format) (by omega) (by omega) (shape_of h rfl) (by rw [h]; rfl) (fun t s w => by rw [h]; rfl)
      · exact shape_text (C := .hand) (by omega) (by omega) (shape_of h rfl) (by rw [h]; rfl) (fun t s w => by rw [h]; rfl)
      · exact shape_texts (C := .fewest) (by omega) (shape_of h rfl) (by rw [h]; rfl) (fun t s w => by rw [h]; exact congrArg (Prod.mk w) (sheet_told (kd := 3) (x := fun b k => .count (Panels.fewestIn b k)) fun b k => rfl))
      · exact shape_texts (C := .first) (by omega) (shape_of h rfl) (by rw [h]; rfl) (fun t s w => by rw [h]; exact congrArg (Prod.mk w) (sheet_told (kd := 4) (x := fun b k => .textThere (Panels.firstIn b k)) fun b k => rfl))
      · exact shape_texts (C := .spare) (by omega) (shape_of h rfl) (by rw [h]; rfl) (fun t s w => by rw [h]; exact congrArg (Prod.mk w) (sheet_told (kd := 5) (x := fun b k => .count (Panels.spareIn b k)) fun b k => rfl))
      · exact shape_text (C := .can) (by omega) (by omega) (shape_of h rfl) (by rw [h]; rfl) (fun t s w => by rw [h]; rfl)
      · exact shape_text (C := .clear) (by omega) (by omega) (shape_of h rfl) (by rw [h]; rfl) (fun t s w => by rw [h]; rfl)
      · exact shape_text (C := .order) (by omega) (by omega) (shape_of h rfl) (by rw [h]; rfl) (fun t s w => by rw [h]; rfl)
      · exact shape_ntext (C := .panel) (by omega) (shape_of h rfl) (by rw [h]; rfl) (fun j t ls => by rw [h]; rfl)
      · exact shape_ntext (C := .play) (by omega) (shape_of h rfl) (by rw [h]; rfl) (fun j t ls => by rw [h]; rfl)
      · exact shape_num (C := .undo) (by omega) (shape_of h rfl) (by rw [h]; rfl) (fun j t ls => by rw [h]; rfl)
      · exact shape_num (C := .look) (by omega) (shape_of h rfl) (by rw [h]; rfl) (fun j t ls => by rw [h]; rfl)
      · exact shape_ntexts (C := .trial) (by omega) (shape_of h rfl) (by rw [h]; rfl) (fun j t ls => by rw [h]; rfl)
def f_reply : DSpS := fun ss ds Q => ∃ (w : Panels.World) (o : List UInt8), ss = encW w ∧ WorldOk w ∧ ds = [e8 o] ∧ o.length ≤ 800000 ∧ (WorldOk (Panels.stepWorld w o).1 → Q (e8 (Panels.stepWorld w o).2) (encW (Panels.stepWorld w o).1))
theorem c_reply {w : Panels.World} {o : List UInt8} {Q : D → List D → Prop} (hw : WorldOk w) (ho : o.length ≤ 800000) (q : WorldOk (Panels.stepWorld w o).1 → Q (e8 (Panels.stepWorld w o).2) (encW (Panels.stepWorld w o).1)) : f_reply (encW w) [e8 o] Q := ⟨w, o, rfl, hw, rfl, ho, q⟩
def t_reply : DS := (dSeq (dSet 2 (dCall f_starts_of (dCons (dVar 1) dNil))) (dSeq (dIfS (dB (dEqI (dLen (dVar 2)) (dC (.int 0)))) (dRet (dL (dDisp (dCons (dC (.int 0)) (dCons (dC (.int 1)) dNil))))) dNext) (dSeq (dIfS (dB (dLeI (dIx (dVar 1) (dC (.int 0))) (dC (.int 8)))) (dRet (dCall f_text_answer (dCons (dIx (dVar 1) (dC (.int 0))) (dCons (dVar 1) (dCons (dVar 2) dNil))))) dNext) (dRetX (dCallS 0 f_place_answer (dCons (dIx (dVar 1) (dC (.int 0))) (dCons (dVar 1) (dCons (dVar 2) dNil))))))))
theorem len_reply : ∀ ss ds Q, f_reply ss ds Q → ds.length + 1 = 2 := by
  rintro ss ds Q ⟨w, o, rfl, hw, rfl, ho, q⟩
  rfl
theorem step_none {w : Panels.World} {o : List UInt8} (h : callIn o = none) : Panels.stepWorld w o = (w, [0, 1]) := by
  unfold Panels.stepWorld
  rw [h]
  rfl
theorem step_some {w : Panels.World} {o : List UInt8} {c : Panels.Call} (h : callIn o = some c) : Panels.stepWorld w o = ((Panels.run w c).1, toldShown (Panels.run w c).2) := by
  unfold Panels.stepWorld
  rw [h]
theorem head_get {o : List UInt8} {kd : Nat} (h : o.head?.map UInt8.toNat = some kd) : (ints8 o)[0]? = some (kd : Int) := by
  cases o with
  | nil => cases h
  | cons b r =>
    have : b.toNat = kd := Option.some.inj h
    subst this
    rfl
theorem pure_reply : ∀ p l ss ds Q, f_reply ss ds Q → t_reply (endS p l Q) (startS p l ss 3 ds) := by
  rintro p l ss ds Q ⟨w, o, rfl, hw, rfl, ho, q⟩
  simp [t_reply]
  refine ⟨by omega, ?_⟩
  cases asks_all o with
  | no s c =>
    rw [step_none c] at q
    simp [s]
    exact q hw
  | text kd k8 hk h4 st s p1 t1 h c hc hr =>
    rw [step_some hc, hr] at q
    have e0 := head_get hk
    simp [s]
    rw [if_neg (by simp [intsN])]
    refine ⟨_, ⟨_, e0, rfl⟩, _, rfl, ?_⟩
    rw [if_pos (by omega)]
    refine ⟨_, ⟨_, e0, rfl⟩, ?_⟩
    exact c_text_answer (by omega) rfl h4 rfl h (q hw)
  | place kd k9 hk h4 st s p1 t r h1 h2 hc =>
    rw [step_some hc] at q
    have e0 := head_get hk
    simp [s]
    rw [if_neg (by simp [intsN])]
    refine ⟨_, ⟨_, e0, rfl⟩, _, rfl, ?_⟩
    rw [if_neg (by omega)]
    refine ⟨_, ⟨_, e0, rfl⟩, ?_⟩
    exact c_place_answer hw ho rfl h4 h1 h2 q
/-! ### the calls of a session -/
inductive Parse : List Int → List (List Int) → Prop
  | nil : Parse [] []
  | cons {n : Int} {r : List Int} {rows : List (List Int)} (h0 : 0 ≤ n) (h1 : n.toNat ≤ r.length) (p : Parse (r.drop n.toNat) rows) : Parse (0 :: n :: r) (r.take n.toNat :: rows)
theorem row_some {l : List Int} {x s : List Int} (h : PyFlat.row l = some (x, s)) : ∃ n r, l = n :: r ∧ 0 ≤ n ∧ n.toNat ≤ r.length ∧ x = r.take n.toNat ∧ s = r.drop n.toNat := by
  cases l with
  | nil => cases h
  | cons n r =>
    simp only [PyFlat.row] at h
    by_cases hc : 0 ≤ n ∧ n.toNat ≤ r.length
    · rw [if_pos hc] at h
      have e := Option.some.inj h
      injection e with e1 e2
      exact ⟨n, r, rfl, hc.1, hc.2, e1.symm, e2.symm⟩
    · rw [if_neg hc] at h
      cases h
theorem calls_parse : ∀ (f : Nat) (ns : List Int) (cs : List (List (List Int))), PyFlat.calls PyZz32.shape f ns = some cs → ∃ rows, cs = rows.map (fun r => [[0], r]) ∧ Parse ns rows
  | f, [], cs, h => by
    have : [] = cs := by cases f <;> exact Option.some.inj h
    subst this
    exact ⟨[], rfl, .nil⟩
  | 0, _ :: _, cs, h => by cases h
  | f + 1, p :: r, cs, h => by
    unfold PyFlat.calls at h
    cases hc : PyFlat.call PyZz32.shape (p :: r) with
    | none => rw [hc] at h; cases h
    | some ct =>
      obtain ⟨c, t⟩ := ct
      rw [hc] at h
      simp only at h
      cases hr : PyFlat.calls PyZz32.shape f t with
      | none => rw [hr] at h; cases h
      | some cs' =>
        rw [hr] at h
        have e : c :: cs' = cs := Option.some.inj h
        subst e
        obtain ⟨rows, e1, e2⟩ := calls_parse f t cs' hr
        simp only [PyFlat.call, PyZz32.shape] at hc
        by_cases hp : p = 0
        · subst hp
          simp only [if_pos, Nat.not_lt_zero, if_false, List.drop_zero, PyFlat.rows] at hc
          cases hw : PyFlat.row r with
          | none => rw [hw] at hc; cases hc
          | some xs =>
            obtain ⟨x, s⟩ := xs
            rw [hw] at hc
            simp only at hc
            have e3 := Option.some.inj hc
            injection e3 with e4 e5
            obtain ⟨n, r', rfl, h0, h1, rfl, rfl⟩ := row_some hw
            refine ⟨r'.take n.toNat :: rows, ?_, .cons h0 h1 (e5 ▸ e2)⟩
            rw [List.map_cons, ← e1, ← e4]
            rfl
        · simp only [if_neg hp] at hc
          cases hc
def f_requests_of : DSp := fun ds Q => ∃ (ns : List Int) (rows : List (List Int)), ds = [.sql (ns.map D.int)] ∧ Parse ns rows ∧ ns.length ≤ 100000 ∧ Q (.lst (rows.map eI))
theorem c_requests_of {ns : List Int} {rows : List (List Int)} {Q : D → Prop} (h : Parse ns rows) (hl : ns.length ≤ 100000) (q : Q (.lst (rows.map eI))) : f_requests_of [.sql (ns.map D.int)] Q := ⟨ns, rows, rfl, h, hl, q⟩
def t_requests_of : DS := (dSeq (dOwn 1 (dDisp dNil)) (dSeq (dSet 2 (dC (.int 0))) (dSeq (dWhile (dB (dLtI (dVar 2) (dLen (dVar 0)))) (dSeq (dSet 3 (dAdd (dAdd (dVar 2) (dC (.int 2))) (dIx (dVar 0) (dAdd (dVar 2) (dC (.int 1)))))) (dSeq (dApp 1 (dL (dSl (dVar 0) (dPart (dAdd (dVar 2) (dC (.int 2)))) (dPart (dVar 3))))) (dSet 2 (dVar 3))))) (dRet (dVar 1)))))
theorem parse_len {ns : List Int} {rows : List (List Int)} (h : Parse ns rows) : 2 * rows.length ≤ ns.length := by
  induction h with
  | nil => simp
  | cons h0 h1 p ih =>
    simp at ih ⊢
    omega
def wReq (ns : List Int) (rows : List (List Int)) : Nat → Env' → Prop := fun m env => ∃ (at_ : Nat) (done rest : List (List Int)) (x : Slot), env = [.val (.sql (ns.map D.int)), .own (done.map eI), .val (.int (at_ : Nat)), x] ∧ m = rest.length ∧ Parse (ns.drop at_) rest ∧ done ++ rest = rows ∧ at_ ≤ ns.length
theorem pure_requests_of : ∀ ds Q, f_requests_of ds Q → ds.length = 1 ∧ t_requests_of ⟨fun _ => Q .non, fun d _ => Q d⟩ (startE 4 ds) := by
  rintro ds Q ⟨ns, rows, rfl, h, hl, q⟩
  refine ⟨rfl, ?_⟩
  have hpl := parse_len h
  simp [t_requests_of]
  refine ⟨wReq ns rows, ⟨rows.length, 0, [], rows, .un, rfl, rfl, by simpa using h, rfl, Nat.zero_le _⟩, ?_⟩
  rintro m env ⟨at_, done, rest, x, rfl, rfl, hp, hd, ha⟩
  simp
  by_cases hat : at_ < ns.length
  · rw [if_pos hat]
    generalize hdr : ns.drop at_ = tail at hp
    cases hp with
    | nil =>
      have := congrArg List.length hdr
      simp at this
      omega
    | @cons n r rows' h0 h1 p =>
      have e1 : ns[at_ + 1]? = some n := by
        have : (ns.drop at_)[1]? = some n := by rw [hdr]; rfl
        rwa [List.getElem?_drop] at this
      have e2 : ns.drop (at_ + 2) = r := by
        rw [show at_ + 2 = at_ + 2 from rfl, ← List.drop_drop, hdr]
        rfl
      have hrl : r.length = ns.length - (at_ + 2) := by rw [← e2, List.length_drop]
      have hdl := congrArg List.length hdr
      simp at hdl
      refine ⟨by omega, _, ⟨_, e1, rfl⟩, n, rfl, ?_, ?_⟩
      · have hd2 := congrArg List.length hd
        rw [List.length_append] at hd2
        omega
      have e3 : (at_ : Int) + 2 = ((at_ + 2 : Nat) : Int) := by omega
      have e4 : (at_ : Int) + 2 + n = ((at_ + 2 + n.toNat : Nat) : Int) := by omega
      have ec : cutD (ns.map D.int) (some ((at_ : Int) + 2)) (some ((at_ : Int) + 2 + n)) = (r.take n.toNat).map D.int := by
        rw [e4, e3, cutD_nat (by simp; omega), ← List.map_drop, ← List.map_take, e2]
        congr 2
        omega
      rw [ec]
      refine ⟨rows'.length, by simp, at_ + 2 + n.toNat, done ++ [r.take n.toNat], rows', .val (.int ((at_ : Int) + 2 + n)), ?_, rfl, ?_, ?_, by omega⟩
      · rw [← e4]
        simp [eI]
      · rw [← List.drop_drop, e2]
        exact p
      · rw [List.append_assoc]
        exact hd
  · rw [if_neg hat]
    have : ns.drop at_ = [] := List.drop_of_length_le (by omega)
    rw [this] at hp
    cases hp
    rw [List.append_nil] at hd
    rw [hd]
    exact q
end PW
set_option Elab.async false
set_option linter.all false
set_option maxRecDepth 100000
set_option maxHeartbeats 2000000
namespace PW
def runT : Panels.World → List (List Int) → List Int
  | _, [] => []
  | w, r :: rows => ((Zz32Neutral.step w r).2.length : Int) :: ((Zz32Neutral.step w r).2 ++ runT (Zz32Neutral.step w r).1 rows)
theorem told_run : ∀ (rows : List (List Int)) (w : Panels.World), PyFlat.told (PyFlat.played (fun s c => Zz32Neutral.step s (c.headD [])) w (rows.map fun r => [r])) = runT w rows
  | [], w => rfl
  | r :: rows, w => by
    have ih := told_run rows (Zz32Neutral.step w r).1
    unfold PyFlat.told at ih ⊢
    rw [List.map_cons, PyFlat.played, List.flatMap_cons, runT, ← ih]
    rfl
def f_answers : DSp := fun ds Q => ∃ ns : List Int, ds = [.sql (ns.map D.int)] ∧ PyZz32.answers_asked ns = true ∧ ns.length ≤ 69000 ∧ Q (.lst ((PyZz32.answers ns).map D.int))
def lb_answers0 : DS := (dSeq (dSetX 4 (dCallS 1 f_reply (dCons (dVar 3) dNil))) (dSeq (dApp 2 (dLen (dVar 4))) (dExt 2 (dVar 4))))
def t_answers : DS := (dSeq (dSes 1) (dSeq (dOwn 2 (dDisp dNil)) (dSeq (dFor 3 (dItL (dCall f_requests_of (dCons (dVar 0) dNil))) lb_answers0) (dRet (dVar 2)))))
def ByteRow (r : List Int) : Prop := (∀ n ∈ r, 0 ≤ n ∧ n ≤ 255) ∧ r.length ≤ 69000
theorem bytes_row {r : List Int} (h : ByteRow r) : eI r = e8 (Zz32Neutral.bytesOf r) := by
  unfold e8
  congr 1
  unfold ints8 Zz32Neutral.bytesOf
  rw [List.map_map]
  have : r = r.map id := (List.map_id r).symm
  conv => lhs; rw [this]
  refine List.map_congr_left fun n hn => ?_
  have := h.1 n hn
  show n = (((UInt8.ofNat n.toNat).toNat : Nat) : Int)
  rw [UInt8.toNat_ofNat']
  omega
theorem loop_answers {Dn : DN} {c : Slot} {p l : PySem.Addr} : ∀ (rows : List (List Int)) (w : Panels.World) (acc : List Int) (x y : Slot), WorldOk w → (∀ r ∈ rows, ByteRow r) → acc.length + (runT w rows).length ≤ 10000000 →
    (∀ ss x y, Dn.nx [c, .ses p l ss, .own ((acc ++ runT w rows).map D.int), x, y]) →
    dLoop 3 lb_answers0 (rows.map eI) Dn [c, .ses p l (encW w), .own (acc.map D.int), x, y]
  | [], w, acc, x, y, hw, hr, hl, h => by
    rw [List.map_nil, loop_nil]
    have := h (encW w) x y
    simpa [runT] using this
  | r :: rows, w, acc, x, y, hw, hr, hl, h => by
    rw [List.map_cons, loop_cons]
    have hr0 := hr r (List.mem_cons_self ..)
    have hlen : (Zz32Neutral.bytesOf r).length = r.length := by simp [Zz32Neutral.bytesOf]
    unfold runT at hl h
    rw [List.length_cons, List.length_append] at hl
    rw [bytes_row hr0]
    simp [lb_answers0]
    have := hr0.2
    refine c_reply hw (by omega) fun hw' => ?_
    have e2 : (Zz32Neutral.step w r).2 = ints8 (Panels.stepWorld w (Zz32Neutral.bytesOf r)).2 := rfl
    have e1 : (Zz32Neutral.step w r).1 = (Panels.stepWorld w (Zz32Neutral.bytesOf r)).1 := rfl
    rw [e1, e2] at hl h
    rw [len8] at hl h
    simp
    refine ⟨by omega, by omega, ?_⟩
    have z := loop_answers (Dn := Dn) (c := c) (p := p) (l := l) rows (Panels.stepWorld w (Zz32Neutral.bytesOf r)).1 (acc ++ ((Panels.stepWorld w (Zz32Neutral.bytesOf r)).2.length : Int) :: ints8 (Panels.stepWorld w (Zz32Neutral.bytesOf r)).2) (.val (e8 (Zz32Neutral.bytesOf r))) (.val (e8 (Panels.stepWorld w (Zz32Neutral.bytesOf r)).2)) hw' (fun s hs => hr s (List.mem_cons_of_mem _ hs)) (by rw [List.length_append, List.length_cons, len8]; omega) (fun ss x y => by
      have := h ss x y
      simpa using this)
    simp [lb_answers0] at z ⊢
    exact z
theorem parse_rows {ns : List Int} {rows : List (List Int)} (h : Parse ns rows) : ∀ r ∈ rows, r.length ≤ ns.length := by
  induction h with
  | nil => intro r hr; simp at hr
  | @cons n r rows h0 h1 p ih =>
    intro x hx
    rcases List.mem_cons.mp hx with rfl | hx
    · rw [List.length_take]
      simp
      omega
    · have := ih x hx
      rw [List.length_drop] at this
      simp
      omega
theorem start_ok : WorldOk Panels.World.start := by
  refine ⟨rfl, fun v hv => ?_⟩
  have : some v = none := List.eq_of_mem_replicate hv
  cases this
theorem pure_answers : ∀ ds Q, f_answers ds Q → ds.length = 1 ∧ t_answers ⟨fun _ => Q .non, fun d _ => Q d⟩ (startE 5 ds) := by
  rintro ds Q ⟨ns, rfl, ha, hl, q⟩
  refine ⟨rfl, ?_⟩
  unfold PyZz32.answers_asked at ha
  unfold PyZz32.answers at ha q
  cases hc : PyZz32.calls ns with
  | none => rw [hc] at ha; cases ha
  | some cs =>
    rw [hc] at ha q
    simp only at ha q
    rw [Bool.and_eq_true, Bool.and_eq_true] at ha
    obtain ⟨⟨_, hask⟩, hshort⟩ := ha
    unfold PyZz32.calls at hc
    cases hr : PyFlat.calls PyZz32.shape ns.length ns with
    | none => rw [hr] at hc; cases hc
    | some raw =>
      rw [hr] at hc
      have ecs : raw.map PyZz32.whole = cs := Option.some.inj hc
      obtain ⟨rows, rfl, hp⟩ := calls_parse _ _ _ hr
      have e3 : cs = rows.map fun r => [r] := by
        rw [← ecs, List.map_map]
        rfl
      rw [e3, told_run] at q hshort
      rw [e3, List.map_map] at hask
      have e4 : rows.map ((fun c : List (List Int) => c.headD []) ∘ fun r => [r]) = rows := by
        have : ((fun c : List (List Int) => c.headD []) ∘ fun r : List Int => [r]) = id := rfl
        rw [this, List.map_id]
      rw [e4] at hask
      unfold Zz32Neutral.asked at hask
      rw [Bool.and_eq_true] at hask
      have hrows := parse_rows hp
      have hby : ∀ r ∈ rows, ByteRow r := fun r hr => by
        have := List.all_eq_true.mp hask.1 r hr
        unfold Zz32Neutral.asked1 NeutralIO.bytes at this
        refine ⟨fun n hn => ?_, by have := hrows r hr; omega⟩
        have := List.all_eq_true.mp this n hn
        simpa using this
      have hsz : (runT Panels.World.start rows).length ≤ 10000000 := of_decide_eq_true hshort
      simp [t_answers]
      intro p l
      refine c_requests_of hp (by omega) ?_
      refine ⟨_, rfl, ?_⟩
      have z := loop_answers (Dn := ⟨dRet (dVar 2) ⟨fun x => Q D.non, fun d x => Q d⟩, fun d x => Q d⟩) (c := .val (.sql (ns.map D.int))) (p := p) (l := l) rows Panels.World.start [] .un .un start_ok hby (by simp; omega) (fun ss x y => by simp; exact q)
      exact z
end PW
set_option Elab.async false
set_option linter.all false
set_option maxRecDepth 100000
set_option maxHeartbeats 2000000
namespace PW
open PySem PySem.Spec PyProof.Rows L2
variable {P : Program} {w : World} {K : PySem.W.Frag} {mg : Str → Option Value} {base : Heap}
theorem sc_scripts_at : FnScope ["self", "place"] ["self", "place"] (defScope (inClass (top 139) 1)) := ⟨rfl, rfl, rfl, by decide +kernel, rfl, by decide +kernel, by decide +kernel⟩
theorem good_scripts_at (T : Tx K mg base) : GoodM P w K mg base 1 "Session" "scripts_at" ["self", "place"] (spS K f_scripts_at) :=
  good_mkM T 112 1 "scripts_at" "Session.scripts_at" rfl sc_scripts_at (by decide) (fun _ _ _ _ _ _ us hl => match us, hl with | [_, _], _ => rfl) (t := t_scripts_at) (fun cdv A outer s H E hr => (ds_cons (ds_if (tt_gt (de_var 1) de_int) (ds_one (ds_ret (de_f (de_lst da_nil)))) ds_nil) (ds_one (ds_ret (de_places (i := 0) T (de_var 1)))))) len_scripts_at pure_scripts_at
theorem sc_stand : FnScope ["self", "place", "scripts"] ["self", "place", "scripts"] (defScope (inClass (top 139) 2)) := ⟨rfl, rfl, rfl, by decide +kernel, rfl, by decide +kernel, by decide +kernel⟩
theorem good_stand (T : Tx K mg base) : GoodM P w K mg base 1 "Session" "stand" ["self", "place", "scripts"] (spS K f_stand) :=
  good_mkM T 113 2 "stand" "Session.stand" rfl sc_stand (by decide) (fun _ _ _ _ _ _ us hl => match us, hl with | [_, _, _], _ => rfl) (t := t_stand) (fun cdv A outer s H E hr => (ds_one (ds_stand (i := 0) T (de_var 2) (de_var 1)))) len_stand pure_stand
theorem sc_number_at : FnScope ["octets", "at"] ["octets", "at"] (defScope (top 2)) := ⟨rfl, rfl, rfl, by decide +kernel, rfl, by decide +kernel, by decide +kernel⟩
theorem good_number_at (T : Tx K mg base) : Good P w K mg base 1 "number_at" ["octets", "at"] (spD K f_number_at) :=
  good_mk T 0 2 "number_at" rfl rfl sc_number_at (fun _ _ _ _ _ _ us hl => match us, hl with | [_, _], _ => rfl) (t := t_number_at) (fun cdv A outer s H E hr => (ds_one (ds_ret (de_add (de_add (de_add (de_ix (de_var 0) (de_var 1)) (de_mul de_int (de_ix (de_var 0) (de_add (de_var 1) de_int)))) (de_mul de_int (de_ix (de_var 0) (de_add (de_var 1) de_int)))) (de_mul de_int (de_ix (de_var 0) (de_add (de_var 1) de_int))))))) pure_number_at
theorem sc_number_end : FnScope ["octets", "at"] ["octets", "at"] (defScope (top 3)) := ⟨rfl, rfl, rfl, by decide +kernel, rfl, by decide +kernel, by decide +kernel⟩
theorem good_number_end (T : Tx K mg base) : Good P w K mg base 1 "number_end" ["octets", "at"] (spD K f_number_end) :=
  good_mk T 1 3 "number_end" rfl rfl sc_number_end (fun _ _ _ _ _ _ us hl => match us, hl with | [_, _], _ => rfl) (t := t_number_end) (fun cdv A outer s H E hr => (ds_cons (ds_if (tt_gt (de_add (de_var 1) de_int) (de_len (T.free 112 rfl) (de_var 0))) (ds_one (ds_ret (de_neg de_int))) ds_nil) (ds_one (ds_ret (de_add (de_var 1) de_int))))) pure_number_end
theorem sc_text_at : FnScope ["octets", "at"] ["octets", "at"] (defScope (top 4)) := ⟨rfl, rfl, rfl, by decide +kernel, rfl, by decide +kernel, by decide +kernel⟩
theorem good_text_at (T : Tx K mg base) : Good P w K mg base 2 "text_at" ["octets", "at"] (spD K f_text_at) :=
  good_mk T 2 4 "text_at" rfl rfl sc_text_at (fun _ _ _ _ _ _ us hl => match us, hl with | [_, _], _ => rfl) (t := t_text_at) (fun cdv A outer s H E hr => (ds_one (ds_ret (de_f (de_sl (de_var 0) (do_some (de_add (de_var 1) de_int)) (do_some (de_add (de_add (de_var 1) de_int) (de_call (good_number_at T) (hr.mono (by decide)) (da_cons (de_var 0) (da_cons (de_var 1) da_nil)))))))))) pure_text_at
theorem sc_text_end : FnScope ["octets", "at", "size"] ["octets", "at"] (defScope (top 5)) := ⟨rfl, rfl, rfl, by decide +kernel, rfl, by decide +kernel, by decide +kernel⟩
theorem good_text_end (T : Tx K mg base) : Good P w K mg base 2 "text_end" ["octets", "at"] (spD K f_text_end) :=
  good_mk T 3 5 "text_end" rfl rfl sc_text_end (fun _ _ _ _ _ _ us hl => match us, hl with | [_, _], _ => rfl) (t := t_text_end) (fun cdv A outer s H E hr => (ds_cons (ds_if (tt_gt (de_add (de_var 1) de_int) (de_len (T.free 112 rfl) (de_var 0))) (ds_one (ds_ret (de_neg de_int))) ds_nil) (ds_cons (ds_set (i := 2) sc_text_end.nd (de_call (good_number_at T) (hr.mono (by decide)) (da_cons (de_var 0) (da_cons (de_var 1) da_nil)))) (ds_cons (ds_if (tt_gt (de_var 2) (de_sub (de_len (T.free 112 rfl) (de_var 0)) (de_add (de_var 1) de_int))) (ds_one (ds_ret (de_neg de_int))) ds_nil) (ds_one (ds_ret (de_add (de_add (de_var 1) de_int) (de_var 2)))))))) pure_text_end
theorem sc_texts_at : FnScope ["octets", "at", "found", "place", "turn"] ["octets", "at"] (defScope (top 6)) := ⟨rfl, rfl, rfl, by decide +kernel, rfl, by decide +kernel, by decide +kernel⟩
theorem good_texts_at (T : Tx K mg base) : Good P w K mg base 3 "texts_at" ["octets", "at"] (spD K f_texts_at) :=
  good_mk T 4 6 "texts_at" rfl rfl sc_texts_at (fun _ _ _ _ _ _ us hl => match us, hl with | [_, _], _ => rfl) (t := t_texts_at) (fun cdv A outer s H E hr => (ds_cons (ds_own (i := 2) sc_texts_at.nd (de_lst da_nil)) (ds_cons (ds_set (i := 3) sc_texts_at.nd (de_add (de_var 1) de_int)) (ds_cons (ds_for (i := 4) PassesOwn.never sc_texts_at.nd (di_range (T.free 113 rfl) (de_call (good_number_at T) (hr.mono (by decide)) (da_cons (de_var 0) (da_cons (de_var 1) da_nil)))) (t := lb_texts_at0) (ds_cons (ds_app (i := 2) (de_call (good_text_at T) (hr.mono (by decide)) (da_cons (de_var 0) (da_cons (de_var 3) da_nil)))) (ds_one (ds_set (i := 3) sc_texts_at.nd (de_call (good_text_end T) (hr.mono (by decide)) (da_cons (de_var 0) (da_cons (de_var 3) da_nil))))))) (ds_one (ds_ret (de_var 2))))))) pure_texts_at
theorem sc_texts_end : FnScope ["octets", "at", "size", "place", "turn"] ["octets", "at"] (defScope (top 7)) := ⟨rfl, rfl, rfl, by decide +kernel, rfl, by decide +kernel, by decide +kernel⟩
theorem good_texts_end (T : Tx K mg base) : Good P w K mg base 3 "texts_end" ["octets", "at"] (spD K f_texts_end) :=
  good_mk T 5 7 "texts_end" rfl rfl sc_texts_end (fun _ _ _ _ _ _ us hl => match us, hl with | [_, _], _ => rfl) (t := t_texts_end) (fun cdv A outer s H E hr => (ds_cons (ds_if (tt_gt (de_add (de_var 1) de_int) (de_len (T.free 112 rfl) (de_var 0))) (ds_one (ds_ret (de_neg de_int))) ds_nil) (ds_cons (ds_set (i := 2) sc_texts_end.nd (de_call (good_number_at T) (hr.mono (by decide)) (da_cons (de_var 0) (da_cons (de_var 1) da_nil)))) (ds_cons (ds_if (tt_gt (de_var 2) (de_sub (de_len (T.free 112 rfl) (de_var 0)) (de_add (de_var 1) de_int))) (ds_one (ds_ret (de_neg de_int))) ds_nil) (ds_cons (ds_set (i := 3) sc_texts_end.nd (de_add (de_var 1) de_int)) (ds_cons (ds_for (i := 4) PassesOwn.never sc_texts_end.nd (di_range (T.free 113 rfl) (de_var 2)) (t := lb_texts_end0) (ds_cons (ds_set (i := 3) sc_texts_end.nd (de_call (good_text_end T) (hr.mono (by decide)) (da_cons (de_var 0) (da_cons (de_var 3) da_nil)))) (ds_one (ds_if (tt_lt (de_var 3) de_int) (ds_one (ds_ret (de_neg de_int))) ds_nil)))) (ds_one (ds_ret (de_var 3))))))))) pure_texts_end
theorem sc_part_end : FnScope ["octets", "at", "part"] ["octets", "at", "part"] (defScope (top 8)) := ⟨rfl, rfl, rfl, by decide +kernel, rfl, by decide +kernel, by decide +kernel⟩
theorem good_part_end (T : Tx K mg base) : Good P w K mg base 4 "part_end" ["octets", "at", "part"] (spD K f_part_end) :=
  good_mk T 6 8 "part_end" rfl rfl sc_part_end (fun _ _ _ _ _ _ us hl => match us, hl with | [_, _, _], _ => rfl) (t := t_part_end) (fun cdv A outer s H E hr => (ds_cons (ds_if (tt_eq (de_var 2) de_int) (ds_one (ds_ret (de_call (good_number_end T) (hr.mono (by decide)) (da_cons (de_var 0) (da_cons (de_var 1) da_nil))))) ds_nil) (ds_cons (ds_if (tt_eq (de_var 2) de_int) (ds_one (ds_ret (de_call (good_text_end T) (hr.mono (by decide)) (da_cons (de_var 0) (da_cons (de_var 1) da_nil))))) ds_nil) (ds_one (ds_ret (de_call (good_texts_end T) (hr.mono (by decide)) (da_cons (de_var 0) (da_cons (de_var 1) da_nil)))))))) pure_part_end
theorem sc_starts_of : FnScope ["octets", "starts", "at", "part"] ["octets"] (defScope (top 9)) := ⟨rfl, rfl, rfl, by decide +kernel, rfl, by decide +kernel, by decide +kernel⟩
theorem good_starts_of (T : Tx K mg base) : Good P w K mg base 5 "starts_of" ["octets"] (spD K f_starts_of) :=
  good_mk T 7 9 "starts_of" rfl rfl sc_starts_of (fun _ _ _ _ _ _ us hl => match us, hl with | [_], _ => rfl) (t := t_starts_of) (fun cdv A outer s H E hr => (ds_cons (ds_if (tt_w (tw_or (tt_eq (de_len (T.free 112 rfl) (de_var 0)) de_int) (tw_or1 (tt_gt (de_ix (de_var 0) de_int) de_int)))) (ds_one (ds_ret (de_f (de_lst da_nil)))) ds_nil) (ds_cons (ds_own (i := 1) sc_starts_of.nd (de_lst da_nil)) (ds_cons (ds_set (i := 2) sc_starts_of.nd de_int) (ds_cons (ds_for (i := 3) PassesOwn.never sc_starts_of.nd (di_tup (de_ix (de_gref (T.glo 162 rfl) T.shapes) (de_ix (de_var 0) de_int))) (t := lb_starts_of0) (ds_cons (ds_app (i := 1) (de_var 2)) (ds_cons (ds_set (i := 2) sc_starts_of.nd (de_call (good_part_end T) (hr.mono (by decide)) (da_cons (de_var 0) (da_cons (de_var 2) (da_cons (de_var 3) da_nil))))) (ds_one (ds_if (tt_lt (de_var 2) de_int) (ds_one (ds_ret (de_f (de_lst da_nil)))) ds_nil))))) (ds_cons (ds_if (tt_ne (de_var 2) (de_len (T.free 112 rfl) (de_var 0))) (ds_one (ds_ret (de_f (de_lst da_nil)))) ds_nil) (ds_one (ds_ret (de_var 1))))))))) pure_starts_of
theorem sc_number_octets : FnScope ["number"] ["number"] (defScope (top 10)) := ⟨rfl, rfl, rfl, by decide +kernel, rfl, by decide +kernel, by decide +kernel⟩
theorem num_number_octets (T : Tx K mg base) : Good P w K mg base 1 "number_octets" ["number"] (spF K fN_number_octets) :=
  good_mkF T 8 10 "number_octets" rfl rfl sc_number_octets (fun _ _ _ _ _ _ us hl => match us, hl with | [_], _ => rfl) (t := tN_number_octets) (fun cdv A outer s H E hr => pss_one (ps_ret (de_lst (da_cons (de_mod (de_var 0) de_int) (da_cons (de_mod (de_div (de_var 0) de_int) de_int) (da_cons (de_mod (de_div (de_var 0) de_int) de_int) (da_cons (de_mod (de_div (de_var 0) de_int) de_int) da_nil))))))) pureN_number_octets
theorem good_number_octets (T : Tx K mg base) : Good P w K mg base 1 "number_octets" ["number"] (spD K f_number_octets) := (num_number_octets T).ofF
theorem sc_text_octets : FnScope ["text"] ["text"] (defScope (top 11)) := ⟨rfl, rfl, rfl, by decide +kernel, rfl, by decide +kernel, by decide +kernel⟩
theorem good_text_octets (T : Tx K mg base) : Good P w K mg base 2 "text_octets" ["text"] (spD K f_text_octets) :=
  good_mk T 9 11 "text_octets" rfl rfl sc_text_octets (fun _ _ _ _ _ _ us hl => match us, hl with | [_], _ => rfl) (t := t_text_octets) (fun cdv A outer s H E hr => (ds_one (ds_ret (de_f (de_cat (de_call (good_number_octets T) (hr.mono (by decide)) (da_cons (de_len (T.free 112 rfl) (de_var 0)) da_nil)) (de_var 0)))))) pure_text_octets
theorem sc_texts_octets : FnScope ["texts", "told", "text"] ["texts"] (defScope (top 12)) := ⟨rfl, rfl, rfl, by decide +kernel, rfl, by decide +kernel, by decide +kernel⟩
theorem good_texts_octets (T : Tx K mg base) : Good P w K mg base 3 "texts_octets" ["texts"] (spD K f_texts_octets) :=
  good_mk T 10 12 "texts_octets" rfl rfl sc_texts_octets (fun _ _ _ _ _ _ us hl => match us, hl with | [_], _ => rfl) (t := t_texts_octets) (fun cdv A outer s H E hr => (ds_cons (ds_own (i := 1) sc_texts_octets.nd (de_num (num_number_octets T) (hr.mono (by decide)) (da_cons (de_len (T.free 112 rfl) (de_var 0)) da_nil))) (ds_cons (ds_for (i := 2) PassesOwn.never sc_texts_octets.nd (di_list (de_var 0)) (t := lb_texts_octets0) (ds_one (ds_ext (i := 1) (de_call (good_text_octets T) (hr.mono (by decide)) (da_cons (de_var 2) da_nil))))) (ds_one (ds_ret (de_var 1)))))) pure_texts_octets
theorem sc_option_number : FnScope ["number"] ["number"] (defScope (top 13)) := ⟨rfl, rfl, rfl, by decide +kernel, rfl, by decide +kernel, by decide +kernel⟩
theorem good_option_number (T : Tx K mg base) : Good P w K mg base 2 "option_number" ["number"] (spD K f_option_number) :=
  good_mk T 11 13 "option_number" rfl rfl sc_option_number (fun _ _ _ _ _ _ us hl => match us, hl with | [_], _ => rfl) (t := t_option_number) (fun cdv A outer s H E hr => (ds_cons (ds_if (tt_lt (de_var 0) de_int) (ds_one (ds_ret (de_f (de_lst (da_cons de_int da_nil))))) ds_nil) (ds_one (ds_ret (de_f (de_cat (de_f (de_lst (da_cons de_int da_nil))) (de_call (good_number_octets T) (hr.mono (by decide)) (da_cons (de_var 0) da_nil)))))))) pure_option_number
theorem sc_option_text : FnScope ["found"] ["found"] (defScope (top 14)) := ⟨rfl, rfl, rfl, by decide +kernel, rfl, by decide +kernel, by decide +kernel⟩
theorem good_option_text (T : Tx K mg base) : Good P w K mg base 3 "option_text" ["found"] (spD K f_option_text) :=
  good_mk T 12 14 "option_text" rfl rfl sc_option_text (fun _ _ _ _ _ _ us hl => match us, hl with | [_], _ => rfl) (t := t_option_text) (fun cdv A outer s H E hr => (ds_cons (ds_if (tt_eq (de_len (T.free 112 rfl) (de_var 0)) de_int) (ds_one (ds_ret (de_f (de_lst (da_cons de_int da_nil))))) ds_nil) (ds_one (ds_ret (de_f (de_cat (de_f (de_lst (da_cons de_int da_nil))) (de_call (good_text_octets T) (hr.mono (by decide)) (da_cons (de_ix (de_var 0) de_int) da_nil)))))))) pure_option_text
theorem sc_option_texts : FnScope ["found"] ["found"] (defScope (top 15)) := ⟨rfl, rfl, rfl, by decide +kernel, rfl, by decide +kernel, by decide +kernel⟩
theorem good_option_texts (T : Tx K mg base) : Good P w K mg base 4 "option_texts" ["found"] (spD K f_option_texts) :=
  good_mk T 13 15 "option_texts" rfl rfl sc_option_texts (fun _ _ _ _ _ _ us hl => match us, hl with | [_], _ => rfl) (t := t_option_texts) (fun cdv A outer s H E hr => (ds_cons (ds_if (tt_eq (de_len (T.free 112 rfl) (de_var 0)) de_int) (ds_one (ds_ret (de_f (de_lst (da_cons de_int da_nil))))) ds_nil) (ds_one (ds_ret (de_f (de_cat (de_f (de_lst (da_cons de_int da_nil))) (de_call (good_texts_octets T) (hr.mono (by decide)) (da_cons (de_ix (de_var 0) de_int) da_nil)))))))) pure_option_texts
theorem sc_lines_of : FnScope ["text", "rows", "row", "c"] ["text"] (defScope (top 27)) := ⟨rfl, rfl, rfl, by decide +kernel, rfl, by decide +kernel, by decide +kernel⟩
theorem good_lines_of (T : Tx K mg base) : Good P w K mg base 1 "lines_of" ["text"] (spD K f_lines_of) :=
  good_mk T 14 27 "lines_of" rfl rfl sc_lines_of (fun _ _ _ _ _ _ us hl => match us, hl with | [_], _ => rfl) (t := t_lines_of) (fun cdv A outer s H E hr => (ds_cons (ds_own (i := 1) sc_lines_of.nd (de_lst da_nil)) (ds_cons (ds_own (i := 2) sc_lines_of.nd (de_lst da_nil)) (ds_cons (ds_for (i := 3) PassesOwn.never sc_lines_of.nd (di_list (de_var 0)) (t := lb_lines_of0) (ds_one (ds_if (tt_eq (de_var 3) de_int) (ds_cons (ds_fix (ds_app (i := 1) (de_var 2)) 2) (ds_one (ds_own (i := 2) sc_lines_of.nd (de_lst da_nil)))) (ds_one (ds_app (i := 2) (de_var 3)))))) (ds_cons (ds_fix (ds_app (i := 1) (de_var 2)) 2) (ds_one (ds_ret (de_var 1)))))))) pure_lines_of
theorem sc_without_comment : FnScope ["line", "row", "c"] ["line"] (defScope (top 28)) := ⟨rfl, rfl, rfl, by decide +kernel, rfl, by decide +kernel, by decide +kernel⟩
theorem good_without_comment (T : Tx K mg base) : Good P w K mg base 1 "without_comment" ["line"] (spD K f_without_comment) :=
  good_mk T 15 28 "without_comment" rfl rfl sc_without_comment (fun _ _ _ _ _ _ us hl => match us, hl with | [_], _ => rfl) (t := t_without_comment) (fun cdv A outer s H E hr => (ds_cons (ds_own (i := 1) sc_without_comment.nd (de_lst da_nil)) (ds_cons (ds_for (i := 2) PassesOwn.never sc_without_comment.nd (di_list (de_var 0)) (t := lb_without_comment0) (ds_cons (ds_if (tt_eq (de_var 2) de_int) (ds_one (ds_ret (de_var 1))) ds_nil) (ds_one (ds_app (i := 1) (de_var 2))))) (ds_one (ds_ret (de_var 1)))))) pure_without_comment
theorem sc_is_letter : FnScope ["c"] ["c"] (defScope (top 29)) := ⟨rfl, rfl, rfl, by decide +kernel, rfl, by decide +kernel, by decide +kernel⟩
theorem good_is_letter (T : Tx K mg base) : Good P w K mg base 1 "is_letter" ["c"] (spD K f_is_letter) :=
  good_mk T 16 29 "is_letter" rfl rfl sc_is_letter (fun _ _ _ _ _ _ us hl => match us, hl with | [_], _ => rfl) (t := t_is_letter) (fun cdv A outer s H E hr => (ds_one (ds_ret (de_andV (de_le de_int (de_var 0)) (de_one (de_le (de_var 0) de_int)))))) pure_is_letter
theorem sc_is_digit : FnScope ["c"] ["c"] (defScope (top 30)) := ⟨rfl, rfl, rfl, by decide +kernel, rfl, by decide +kernel, by decide +kernel⟩
theorem good_is_digit (T : Tx K mg base) : Good P w K mg base 1 "is_digit" ["c"] (spD K f_is_digit) :=
  good_mk T 17 30 "is_digit" rfl rfl sc_is_digit (fun _ _ _ _ _ _ us hl => match us, hl with | [_], _ => rfl) (t := t_is_digit) (fun cdv A outer s H E hr => (ds_one (ds_ret (de_andV (de_le de_int (de_var 0)) (de_one (de_le (de_var 0) de_int)))))) pure_is_digit
theorem sc_pieces_of : FnScope ["line", "pieces", "run", "c"] ["line"] (defScope (top 31)) := ⟨rfl, rfl, rfl, by decide +kernel, rfl, by decide +kernel, by decide +kernel⟩
theorem good_pieces_of (T : Tx K mg base) : Good P w K mg base 2 "pieces_of" ["line"] (spD K f_pieces_of) :=
  good_mk T 18 31 "pieces_of" rfl rfl sc_pieces_of (fun _ _ _ _ _ _ us hl => match us, hl with | [_], _ => rfl) (t := t_pieces_of) (fun cdv A outer s H E hr => (ds_cons (ds_own (i := 1) sc_pieces_of.nd (de_lst da_nil)) (ds_cons (ds_own (i := 2) sc_pieces_of.nd (de_lst da_nil)) (ds_cons (ds_for (i := 3) PassesOwn.never sc_pieces_of.nd (di_list (de_f (de_cat (de_call (good_without_comment T) (hr.mono (by decide)) (da_cons (de_var 0) da_nil)) (de_f (de_lst (da_cons de_int da_nil)))))) (t := lb_pieces_of0) (ds_one (ds_if (tt_w (tw_or (tt_val (de_call (good_is_letter T) (hr.mono (by decide)) (da_cons (de_var 3) da_nil))) (tw_or1 (tt_val (de_call (good_is_digit T) (hr.mono (by decide)) (da_cons (de_var 3) da_nil)))))) (ds_one (ds_app (i := 2) (de_var 3))) (ds_cons (ds_if (tt_gt (de_len (T.free 112 rfl) (de_var 2)) de_int) (ds_cons (ds_fix (ds_app (i := 1) (de_var 2)) 2) (ds_one (ds_own (i := 2) sc_pieces_of.nd (de_lst da_nil)))) ds_nil) (ds_one (ds_if (tt_ne (de_var 3) de_int) (ds_one (ds_app (i := 1) (de_f (de_lst (da_cons (de_var 3) da_nil))))) ds_nil)))))) (ds_one (ds_ret (de_var 1))))))) pure_pieces_of
theorem sc_is_word : FnScope ["piece"] ["piece"] (defScope (top 32)) := ⟨rfl, rfl, rfl, by decide +kernel, rfl, by decide +kernel, by decide +kernel⟩
theorem good_is_word (T : Tx K mg base) : Good P w K mg base 2 "is_word" ["piece"] (spD K f_is_word) :=
  good_mk T 19 32 "is_word" rfl rfl sc_is_word (fun _ _ _ _ _ _ us hl => match us, hl with | [_], _ => rfl) (t := t_is_word) (fun cdv A outer s H E hr => (ds_one (ds_ret (de_andV (de_call (good_is_letter T) (hr.mono (by decide)) (da_cons (de_ix (de_var 0) de_int) da_nil)) (de_one (de_le (de_len (T.free 112 rfl) (de_var 0)) de_int)))))) pure_is_word
theorem sc_is_number : FnScope ["piece", "c"] ["piece"] (defScope (top 33)) := ⟨rfl, rfl, rfl, by decide +kernel, rfl, by decide +kernel, by decide +kernel⟩
theorem good_is_number (T : Tx K mg base) : Good P w K mg base 2 "is_number" ["piece"] (spD K f_is_number) :=
  good_mk T 20 33 "is_number" rfl rfl sc_is_number (fun _ _ _ _ _ _ us hl => match us, hl with | [_], _ => rfl) (t := t_is_number) (fun cdv A outer s H E hr => (ds_cons (ds_for (i := 1) PassesOwn.never sc_is_number.nd (di_list (de_var 0)) (t := lb_is_number0) (ds_one (ds_if (tt_not (tt_val (de_call (good_is_digit T) (hr.mono (by decide)) (da_cons (de_var 1) da_nil)))) (ds_one (ds_ret de_bl)) ds_nil))) (ds_one (ds_ret (de_andV (de_le (de_len (T.free 112 rfl) (de_var 0)) de_int) (de_one (de_orV (de_eq (de_len (T.free 112 rfl) (de_var 0)) de_int) (de_one (de_ne (de_ix (de_var 0) de_int) de_int))))))))) pure_is_number
theorem sc_is_token : FnScope ["piece"] ["piece"] (defScope (top 34)) := ⟨rfl, rfl, rfl, by decide +kernel, rfl, by decide +kernel, by decide +kernel⟩
theorem good_is_token (T : Tx K mg base) : Good P w K mg base 3 "is_token" ["piece"] (spD K f_is_token) :=
  good_mk T 21 34 "is_token" rfl rfl sc_is_token (fun _ _ _ _ _ _ us hl => match us, hl with | [_], _ => rfl) (t := t_is_token) (fun cdv A outer s H E hr => (ds_one (ds_ret (de_orV (de_call (good_is_word T) (hr.mono (by decide)) (da_cons (de_var 0) da_nil)) (de_orV (de_call (good_is_number T) (hr.mono (by decide)) (da_cons (de_var 0) da_nil)) (de_orV (de_eqL hr (de_var 0) (de_f (de_lst (da_cons de_int da_nil)))) (de_one (de_eqL hr (de_var 0) (de_f (de_lst (da_cons de_int da_nil))))))))))) pure_is_token
theorem sc_all_tokens : FnScope ["pieces", "piece"] ["pieces"] (defScope (top 35)) := ⟨rfl, rfl, rfl, by decide +kernel, rfl, by decide +kernel, by decide +kernel⟩
theorem good_all_tokens (T : Tx K mg base) : Good P w K mg base 4 "all_tokens" ["pieces"] (spD K f_all_tokens) :=
  good_mk T 22 35 "all_tokens" rfl rfl sc_all_tokens (fun _ _ _ _ _ _ us hl => match us, hl with | [_], _ => rfl) (t := t_all_tokens) (fun cdv A outer s H E hr => (ds_cons (ds_for (i := 1) PassesOwn.never sc_all_tokens.nd (di_list (de_var 0)) (t := lb_all_tokens0) (ds_one (ds_if (tt_not (tt_val (de_call (good_is_token T) (hr.mono (by decide)) (da_cons (de_var 1) da_nil)))) (ds_one (ds_ret de_bl)) ds_nil))) (ds_one (ds_ret de_bl)))) pure_all_tokens
theorem sc_all_words : FnScope ["pieces", "piece"] ["pieces"] (defScope (top 36)) := ⟨rfl, rfl, rfl, by decide +kernel, rfl, by decide +kernel, by decide +kernel⟩
theorem good_all_words (T : Tx K mg base) : Good P w K mg base 3 "all_words" ["pieces"] (spD K f_all_words) :=
  good_mk T 23 36 "all_words" rfl rfl sc_all_words (fun _ _ _ _ _ _ us hl => match us, hl with | [_], _ => rfl) (t := t_all_words) (fun cdv A outer s H E hr => (ds_cons (ds_for (i := 1) PassesOwn.never sc_all_words.nd (di_list (de_var 0)) (t := lb_all_words0) (ds_one (ds_if (tt_not (tt_val (de_call (good_is_word T) (hr.mono (by decide)) (da_cons (de_var 1) da_nil)))) (ds_one (ds_ret de_bl)) ds_nil))) (ds_one (ds_ret de_bl)))) pure_all_words
theorem sc_letters_of : FnScope ["word", "c"] ["word"] (defScope (top 37)) := ⟨rfl, rfl, rfl, by decide +kernel, rfl, by decide +kernel, by decide +kernel⟩
theorem good_letters_of (T : Tx K mg base) : Good P w K mg base 1 "letters_of" ["word"] (spD K f_letters_of) :=
  good_mk T 24 37 "letters_of" rfl rfl sc_letters_of (fun _ _ _ _ _ _ us hl => match us, hl with | [_], _ => rfl) (t := t_letters_of) (fun cdv A outer s H E hr => (ds_one (ds_ret (de_f (de_lc sc_letters_of.nd (di_str (de_var 0)) (show blkC ["word", "c"] (defScope (top 37)) _ _ = true by decide +kernel) (fun _ _ _ _ _ => pg_name (i := 1) sc_letters_of.nd rfl (Or.inl rfl)) (fun _ _ _ _ _ => tts_nil) (fun _ _ _ _ _ => (de_ord (T.free 114 rfl) (de_var 1)))))))) pure_letters_of
theorem sc_key_of : FnScope ["token", "kind"] ["token"] (defScope (top 38)) := ⟨rfl, rfl, rfl, by decide +kernel, rfl, by decide +kernel, by decide +kernel⟩
theorem good_key_of (T : Tx K mg base) : Good P w K mg base 2 "key_of" ["token"] (spD K f_key_of) :=
  good_mk T 25 38 "key_of" rfl rfl sc_key_of (fun _ _ _ _ _ _ us hl => match us, hl with | [_], _ => rfl) (t := t_key_of) (fun cdv A outer s H E hr => (ds_cons (ds_for (i := 1) PassesOwn.never sc_key_of.nd (di_range (T.free 113 rfl) (de_len (T.free 112 rfl) (de_gref (T.glo 161 rfl) T.keys))) (t := lb_key_of0) (ds_one (ds_if (tt_eqL hr (de_call (good_letters_of T) (hr.mono (by decide)) (da_cons (de_ix (de_gref (T.glo 161 rfl) T.keys) (de_var 1)) da_nil)) (de_var 0)) (ds_one (ds_ret (de_var 1))) ds_nil))) (ds_one (ds_ret (de_neg de_int))))) pure_key_of
theorem sc_fits : FnScope ["kind", "rest"] ["kind", "rest"] (defScope (top 39)) := ⟨rfl, rfl, rfl, by decide +kernel, rfl, by decide +kernel, by decide +kernel⟩
theorem good_fits (T : Tx K mg base) : Good P w K mg base 4 "fits" ["kind", "rest"] (spD K f_fits) :=
  good_mk T 26 39 "fits" rfl rfl sc_fits (fun _ _ _ _ _ _ us hl => match us, hl with | [_, _], _ => rfl) (t := t_fits) (fun cdv A outer s H E hr => (ds_cons (ds_if (tt_eq (de_var 0) (de_gint (T.int 116 rfl))) (ds_one (ds_ret (de_andV (de_ge (de_len (T.free 112 rfl) (de_var 1)) de_int) (de_one (de_call (good_all_words T) (hr.mono (by decide)) (da_cons (de_var 1) da_nil)))))) ds_nil) (ds_cons (ds_if (tt_eq (de_var 0) (de_gint (T.int 118 rfl))) (ds_one (ds_ret (de_andV (de_eq (de_len (T.free 112 rfl) (de_var 1)) de_int) (de_one (de_call (good_is_number T) (hr.mono (by decide)) (da_cons (de_ix (de_var 1) de_int) da_nil)))))) ds_nil) (ds_cons (ds_if (tt_eq (de_var 0) (de_gint (T.int 121 rfl))) (ds_one (ds_ret (de_andV (de_eq (de_len (T.free 112 rfl) (de_var 1)) de_int) (de_one (de_call (good_all_words T) (hr.mono (by decide)) (da_cons (de_var 1) da_nil)))))) ds_nil) (ds_one (ds_ret (de_andV (de_eq (de_len (T.free 112 rfl) (de_var 1)) de_int) (de_one (de_call (good_all_words T) (hr.mono (by decide)) (da_cons (de_var 1) da_nil)))))))))) pure_fits
theorem sc_kind_of : FnScope ["row", "kind"] ["row"] (defScope (top 40)) := ⟨rfl, rfl, rfl, by decide +kernel, rfl, by decide +kernel, by decide +kernel⟩
theorem good_kind_of (T : Tx K mg base) : Good P w K mg base 5 "kind_of" ["row"] (spD K f_kind_of) :=
  good_mk T 27 40 "kind_of" rfl rfl sc_kind_of (fun _ _ _ _ _ _ us hl => match us, hl with | [_], _ => rfl) (t := t_kind_of) (fun cdv A outer s H E hr => (ds_cons (ds_set (i := 1) sc_kind_of.nd (de_call (good_key_of T) (hr.mono (by decide)) (da_cons (de_ix (de_var 0) de_int) da_nil))) (ds_cons (ds_if (tt_w (tw_and (tt_ge (de_var 1) de_int) (tw_and1 (tt_val (de_call (good_fits T) (hr.mono (by decide)) (da_cons (de_var 1) (da_cons (de_f (de_sl (de_var 0) (do_some de_int) do_none)) da_nil))))))) (ds_one (ds_ret (de_var 1))) ds_nil) (ds_one (ds_ret (de_neg de_int)))))) pure_kind_of
theorem sc_form_problem : FnScope ["pieces"] ["pieces"] (defScope (top 41)) := ⟨rfl, rfl, rfl, by decide +kernel, rfl, by decide +kernel, by decide +kernel⟩
theorem good_form_problem (T : Tx K mg base) : Good P w K mg base 6 "form_problem" ["pieces"] (spD K f_form_problem) :=
  good_mk T 28 41 "form_problem" rfl rfl sc_form_problem (fun _ _ _ _ _ _ us hl => match us, hl with | [_], _ => rfl) (t := t_form_problem) (fun cdv A outer s H E hr => (ds_cons (ds_if (tt_not (tt_val (de_call (good_all_tokens T) (hr.mono (by decide)) (da_cons (de_var 0) da_nil)))) (ds_one (ds_ret (de_gint (T.int 122 rfl)))) ds_nil) (ds_cons (ds_if (tt_gt (de_len (T.free 112 rfl) (de_var 0)) de_int) (ds_one (ds_ret (de_gint (T.int 123 rfl)))) ds_nil) (ds_cons (ds_if (tt_lt (de_call (good_kind_of T) (hr.mono (by decide)) (da_cons (de_var 0) da_nil)) de_int) (ds_one (ds_ret (de_gint (T.int 124 rfl)))) ds_nil) (ds_one (ds_ret de_int)))))) pure_form_problem
theorem sc_value_of : FnScope ["token", "total", "c"] ["token"] (defScope (top 42)) := ⟨rfl, rfl, rfl, by decide +kernel, rfl, by decide +kernel, by decide +kernel⟩
theorem good_value_of (T : Tx K mg base) : Good P w K mg base 1 "value_of" ["token"] (spD K f_value_of) :=
  good_mk T 29 42 "value_of" rfl rfl sc_value_of (fun _ _ _ _ _ _ us hl => match us, hl with | [_], _ => rfl) (t := t_value_of) (fun cdv A outer s H E hr => (ds_cons (ds_set (i := 1) sc_value_of.nd de_int) (ds_cons (ds_for (i := 2) PassesOwn.never sc_value_of.nd (di_list (de_var 0)) (t := lb_value_of0) (ds_one (ds_set (i := 1) sc_value_of.nd (de_sub (de_add (de_mul (de_var 1) de_int) (de_var 2)) de_int)))) (ds_one (ds_ret (de_var 1)))))) pure_value_of
theorem sc_spaced : FnScope ["row", "line", "token"] ["row"] (defScope (top 43)) := ⟨rfl, rfl, rfl, by decide +kernel, rfl, by decide +kernel, by decide +kernel⟩
theorem good_spaced (T : Tx K mg base) : Good P w K mg base 1 "spaced" ["row"] (spD K f_spaced) :=
  good_mk T 30 43 "spaced" rfl rfl sc_spaced (fun _ _ _ _ _ _ us hl => match us, hl with | [_], _ => rfl) (t := t_spaced) (fun cdv A outer s H E hr => (ds_cons (ds_own (i := 1) sc_spaced.nd (de_list (T.free 115 rfl) (de_ix (de_var 0) de_int))) (ds_cons (ds_for (i := 2) PassesOwn.never sc_spaced.nd (di_list (de_f (de_sl (de_var 0) (do_some de_int) do_none))) (t := lb_spaced0) (ds_cons (ds_app (i := 1) de_int) (ds_one (ds_ext (i := 1) (de_var 2))))) (ds_one (ds_ret (de_var 1)))))) pure_spaced
theorem sc_has : FnScope ["marks", "k"] ["marks", "k"] (defScope (top 46)) := ⟨rfl, rfl, rfl, by decide +kernel, rfl, by decide +kernel, by decide +kernel⟩
theorem good_has (T : Tx K mg base) : Good P w K mg base 1 "has" ["marks", "k"] (spD K f_has) :=
  good_mk T 31 46 "has" rfl rfl sc_has (fun _ _ _ _ _ _ us hl => match us, hl with | [_, _], _ => rfl) (t := t_has) (fun cdv A outer s H E hr => (ds_one (ds_ret (de_eq (de_mod (de_div (de_var 0) (de_ix (de_gref (T.glo 163 rfl) T.powers) (de_var 1))) de_int) de_int)))) pure_has
theorem sc_put_in : FnScope ["marks", "k"] ["marks", "k"] (defScope (top 47)) := ⟨rfl, rfl, rfl, by decide +kernel, rfl, by decide +kernel, by decide +kernel⟩
theorem good_put_in (T : Tx K mg base) : Good P w K mg base 1 "put_in" ["marks", "k"] (spD K f_put_in) :=
  good_mk T 32 47 "put_in" rfl rfl sc_put_in (fun _ _ _ _ _ _ us hl => match us, hl with | [_, _], _ => rfl) (t := t_put_in) (fun cdv A outer s H E hr => (ds_one (ds_ret (de_add (de_var 0) (de_ix (de_gref (T.glo 163 rfl) T.powers) (de_var 1)))))) pure_put_in
theorem sc_left_out : FnScope ["marks", "k"] ["marks", "k"] (defScope (top 48)) := ⟨rfl, rfl, rfl, by decide +kernel, rfl, by decide +kernel, by decide +kernel⟩
theorem good_left_out (T : Tx K mg base) : Good P w K mg base 1 "left_out" ["marks", "k"] (spD K f_left_out) :=
  good_mk T 33 48 "left_out" rfl rfl sc_left_out (fun _ _ _ _ _ _ us hl => match us, hl with | [_, _], _ => rfl) (t := t_left_out) (fun cdv A outer s H E hr => (ds_one (ds_ret (de_sub (de_var 0) (de_ix (de_gref (T.glo 163 rfl) T.powers) (de_var 1)))))) pure_left_out
theorem sc_count_of : FnScope ["marks", "total", "k"] ["marks"] (defScope (top 49)) := ⟨rfl, rfl, rfl, by decide +kernel, rfl, by decide +kernel, by decide +kernel⟩
theorem good_count_of (T : Tx K mg base) : Good P w K mg base 2 "count_of" ["marks"] (spD K f_count_of) :=
  good_mk T 34 49 "count_of" rfl rfl sc_count_of (fun _ _ _ _ _ _ us hl => match us, hl with | [_], _ => rfl) (t := t_count_of) (fun cdv A outer s H E hr => (ds_cons (ds_set (i := 1) sc_count_of.nd de_int) (ds_cons (ds_for (i := 2) PassesOwn.never sc_count_of.nd (di_range (T.free 113 rfl) de_int) (t := lb_count_of0) (ds_one (ds_if (tt_val (de_call (good_has T) (hr.mono (by decide)) (da_cons (de_var 0) (da_cons (de_var 2) da_nil)))) (ds_one (ds_aug (i := 1) sc_count_of.nd de_int)) ds_nil))) (ds_one (ds_ret (de_var 1)))))) pure_count_of
theorem sc_apart : FnScope ["some", "others"] ["some", "others"] (defScope (top 50)) := ⟨rfl, rfl, rfl, by decide +kernel, rfl, by decide +kernel, by decide +kernel⟩
theorem good_apart (T : Tx K mg base) : Good P w K mg base 1 "apart" ["some", "others"] (spD K f_apart) :=
  good_mk T 35 50 "apart" rfl rfl sc_apart (fun _ _ _ _ _ _ us hl => match us, hl with | [_, _], _ => rfl) (t := t_apart) (fun cdv A outer s H E hr => (ds_one (ds_ret (de_eq (de_and2 (de_var 0) (de_var 1)) de_int)))) pure_apart
theorem sc_within : FnScope ["some", "others"] ["some", "others"] (defScope (top 51)) := ⟨rfl, rfl, rfl, by decide +kernel, rfl, by decide +kernel, by decide +kernel⟩
theorem good_within (T : Tx K mg base) : Good P w K mg base 1 "within" ["some", "others"] (spD K f_within) :=
  good_mk T 36 51 "within" rfl rfl sc_within (fun _ _ _ _ _ _ us hl => match us, hl with | [_, _], _ => rfl) (t := t_within) (fun cdv A outer s H E hr => (ds_one (ds_ret (de_eq (de_and2 (de_var 0) (de_var 1)) (de_var 0))))) pure_within
theorem sc_place_of : FnScope ["rows", "row", "k"] ["rows", "row"] (defScope (top 52)) := ⟨rfl, rfl, rfl, by decide +kernel, rfl, by decide +kernel, by decide +kernel⟩
theorem good_place_of (T : Tx K mg base) : Good P w K mg base 1 "place_of" ["rows", "row"] (spD K f_place_of) :=
  good_mk T 37 52 "place_of" rfl rfl sc_place_of (fun _ _ _ _ _ _ us hl => match us, hl with | [_, _], _ => rfl) (t := t_place_of) (fun cdv A outer s H E hr => (ds_cons (ds_for (i := 2) PassesOwn.never sc_place_of.nd (di_range (T.free 113 rfl) (de_len (T.free 112 rfl) (de_var 0))) (t := lb_place_of0) (ds_one (ds_if (tt_eqL hr (de_ix (de_var 0) (de_var 2)) (de_var 1)) (ds_one (ds_ret (de_var 2))) ds_nil))) (ds_one (ds_ret (de_neg de_int))))) pure_place_of
theorem sc_empty_wall : FnScope [] [] (defScope (top 54)) := ⟨rfl, rfl, rfl, by decide +kernel, rfl, by decide +kernel, by decide +kernel⟩
theorem good_empty_wall (T : Tx K mg base) : Good P w K mg base 3 "empty_wall" [] (spD K f_empty_wall) :=
  good_mk T 38 54 "empty_wall" rfl rfl sc_empty_wall (fun _ _ _ _ _ _ us hl => match us, hl with | [], _ => rfl) (t := t_empty_wall) (fun cdv A outer s H E hr => (ds_one (ds_ret (de_make_Wall T (hr.mono (by decide)) (da_cons (de_f (de_lst da_nil)) (da_cons (de_f (de_lst da_nil)) (da_cons (de_f (de_lst da_nil)) (da_cons de_int (da_cons de_int (da_cons de_int da_nil)))))))))) pure_empty_wall
theorem sc_with_magnets : FnScope ["wall", "held", "drawer"] ["wall", "held", "drawer"] (defScope (top 55)) := ⟨rfl, rfl, rfl, by decide +kernel, rfl, by decide +kernel, by decide +kernel⟩
theorem good_with_magnets (T : Tx K mg base) : Good P w K mg base 3 "with_magnets" ["wall", "held", "drawer"] (spD K f_with_magnets) :=
  good_mk T 39 55 "with_magnets" rfl rfl sc_with_magnets (fun _ _ _ _ _ _ us hl => match us, hl with | [_, _, _], _ => rfl) (t := t_with_magnets) (fun cdv A outer s H E hr => (ds_one (ds_ret (de_make_Wall T (hr.mono (by decide)) (da_cons (de_fld T.clsT false 0 (de_var 0)) (da_cons (de_fld T.clsT false 1 (de_var 0)) (da_cons (de_fld T.clsT false 2 (de_var 0)) (da_cons (de_var 1) (da_cons (de_var 2) (da_cons (de_fld T.clsT false 5 (de_var 0)) da_nil)))))))))) pure_with_magnets
theorem sc_without_sheet : FnScope ["wall", "k"] ["wall", "k"] (defScope (top 56)) := ⟨rfl, rfl, rfl, by decide +kernel, rfl, by decide +kernel, by decide +kernel⟩
theorem good_without_sheet (T : Tx K mg base) : Good P w K mg base 3 "without_sheet" ["wall", "k"] (spD K f_without_sheet) :=
  good_mk T 40 56 "without_sheet" rfl rfl sc_without_sheet (fun _ _ _ _ _ _ us hl => match us, hl with | [_, _], _ => rfl) (t := t_without_sheet) (fun cdv A outer s H E hr => (ds_one (ds_ret (de_make_Wall T (hr.mono (by decide)) (da_cons (de_fld T.clsT false 0 (de_var 0)) (da_cons (de_fld T.clsT false 1 (de_var 0)) (da_cons (de_fld T.clsT false 2 (de_var 0)) (da_cons (de_fld T.clsT false 3 (de_var 0)) (da_cons (de_fld T.clsT false 4 (de_var 0)) (da_cons (de_call (good_left_out T) (hr.mono (by decide)) (da_cons (de_fld T.clsT false 5 (de_var 0)) (da_cons (de_var 1) da_nil))) da_nil)))))))))) pure_without_sheet
theorem sc_with_spots : FnScope ["spots", "named", "found", "spot"] ["spots", "named"] (defScope (top 57)) := ⟨rfl, rfl, rfl, by decide +kernel, rfl, by decide +kernel, by decide +kernel⟩
theorem good_with_spots (T : Tx K mg base) : Good P w K mg base 2 "with_spots" ["spots", "named"] (spD K f_with_spots) :=
  good_mk T 41 57 "with_spots" rfl rfl sc_with_spots (fun _ _ _ _ _ _ us hl => match us, hl with | [_, _], _ => rfl) (t := t_with_spots) (fun cdv A outer s H E hr => (ds_cons (ds_own (i := 2) sc_with_spots.nd (de_list (T.free 115 rfl) (de_var 0))) (ds_cons (ds_for (i := 3) PassesOwn.never sc_with_spots.nd (di_list (de_var 1)) (t := lb_with_spots0) (ds_one (ds_if (tt_lt (de_call (good_place_of T) (hr.mono (by decide)) (da_cons (de_var 2) (da_cons (de_var 3) da_nil))) de_int) (ds_one (ds_app (i := 2) (de_var 3))) ds_nil))) (ds_one (ds_ret (de_var 2)))))) pure_with_spots
theorem sc_cover_of : FnScope ["spots", "named", "marks", "spot"] ["spots", "named"] (defScope (top 58)) := ⟨rfl, rfl, rfl, by decide +kernel, rfl, by decide +kernel, by decide +kernel⟩
theorem good_cover_of (T : Tx K mg base) : Good P w K mg base 2 "cover_of" ["spots", "named"] (spD K f_cover_of) :=
  good_mk T 42 58 "cover_of" rfl rfl sc_cover_of (fun _ _ _ _ _ _ us hl => match us, hl with | [_, _], _ => rfl) (t := t_cover_of) (fun cdv A outer s H E hr => (ds_cons (ds_set (i := 2) sc_cover_of.nd de_int) (ds_cons (ds_for (i := 3) PassesOwn.never sc_cover_of.nd (di_list (de_var 1)) (t := lb_cover_of0) (ds_one (ds_set (i := 2) sc_cover_of.nd (de_call (good_put_in T) (hr.mono (by decide)) (da_cons (de_var 2) (da_cons (de_call (good_place_of T) (hr.mono (by decide)) (da_cons (de_var 0) (da_cons (de_var 3) da_nil))) da_nil)))))) (ds_one (ds_ret (de_var 2)))))) pure_cover_of
theorem sc_with_sheet : FnScope ["wall", "name", "named", "spots", "names", "covers"] ["wall", "name", "named"] (defScope (top 59)) := ⟨rfl, rfl, rfl, by decide +kernel, rfl, by decide +kernel, by decide +kernel⟩
theorem good_with_sheet (T : Tx K mg base) : Good P w K mg base 3 "with_sheet" ["wall", "name", "named"] (spD K f_with_sheet) :=
  good_mk T 43 59 "with_sheet" rfl rfl sc_with_sheet (fun _ _ _ _ _ _ us hl => match us, hl with | [_, _, _], _ => rfl) (t := t_with_sheet) (fun cdv A outer s H E hr => (ds_cons (ds_set (i := 3) sc_with_sheet.nd (de_call (good_with_spots T) (hr.mono (by decide)) (da_cons (de_fld T.clsT false 2 (de_var 0)) (da_cons (de_var 2) da_nil)))) (ds_cons (ds_set (i := 4) sc_with_sheet.nd (de_f (de_cat (de_fld T.clsT false 0 (de_var 0)) (de_f (de_lst (da_cons (de_var 1) da_nil)))))) (ds_cons (ds_set (i := 5) sc_with_sheet.nd (de_f (de_cat (de_fld T.clsT false 1 (de_var 0)) (de_f (de_lst (da_cons (de_call (good_cover_of T) (hr.mono (by decide)) (da_cons (de_var 3) (da_cons (de_var 2) da_nil))) da_nil)))))) (ds_one (ds_ret (de_make_Wall T (hr.mono (by decide)) (da_cons (de_var 4) (da_cons (de_var 5) (da_cons (de_var 3) (da_cons (de_fld T.clsT false 3 (de_var 0)) (da_cons (de_fld T.clsT false 4 (de_var 0)) (da_cons (de_call (good_put_in T) (hr.mono (by decide)) (da_cons (de_fld T.clsT false 5 (de_var 0)) (da_cons (de_len (T.free 112 rfl) (de_fld T.clsT false 0 (de_var 0))) da_nil))) da_nil))))))))))))) pure_with_sheet
theorem sc_loose : FnScope ["covers", "up", "held", "k"] ["covers", "up", "held"] (defScope (top 60)) := ⟨rfl, rfl, rfl, by decide +kernel, rfl, by decide +kernel, by decide +kernel⟩
theorem good_loose (T : Tx K mg base) : Good P w K mg base 2 "loose" ["covers", "up", "held"] (spD K f_loose) :=
  good_mk T 44 60 "loose" rfl rfl sc_loose (fun _ _ _ _ _ _ us hl => match us, hl with | [_, _, _], _ => rfl) (t := t_loose) (fun cdv A outer s H E hr => (ds_one (ds_ret (de_f (de_lc sc_loose.nd (di_range (T.free 113 rfl) (de_len (T.free 112 rfl) (de_var 0))) (show blkC ["covers", "up", "held", "k"] (defScope (top 60)) _ _ = true by decide +kernel) (fun _ _ _ _ _ => pg_name (i := 3) sc_loose.nd rfl (Or.inl rfl)) (fun _ _ _ _ _ => tts_one (tt_w (tw_and (tt_val (de_call (good_has T) (hr.mono (by decide)) (da_cons (de_var 1) (da_cons (de_var 3) da_nil)))) (tw_and1 (tt_val (de_call (good_apart T) (hr.mono (by decide)) (da_cons (de_ix (de_var 0) (de_var 3)) (da_cons (de_var 2) da_nil)))))))) (fun _ _ _ _ _ => (de_var 3))))))) pure_loose
theorem sc_many_loose : FnScope ["wall", "held"] ["wall", "held"] (defScope (top 61)) := ⟨rfl, rfl, rfl, by decide +kernel, rfl, by decide +kernel, by decide +kernel⟩
theorem good_many_loose (T : Tx K mg base) : Good P w K mg base 3 "many_loose" ["wall", "held"] (spD K f_many_loose) :=
  good_mk T 45 61 "many_loose" rfl rfl sc_many_loose (fun _ _ _ _ _ _ us hl => match us, hl with | [_, _], _ => rfl) (t := t_many_loose) (fun cdv A outer s H E hr => (ds_one (ds_ret (de_gt (de_len (T.free 112 rfl) (de_call (good_loose T) (hr.mono (by decide)) (da_cons (de_fld T.clsT false 1 (de_var 0)) (da_cons (de_fld T.clsT false 5 (de_var 0)) (da_cons (de_var 1) da_nil))))) de_int)))) pure_many_loose
theorem sc_fallen : FnScope ["wall"] ["wall"] (defScope (top 62)) := ⟨rfl, rfl, rfl, by decide +kernel, rfl, by decide +kernel, by decide +kernel⟩
theorem good_fallen (T : Tx K mg base) : Good P w K mg base 4 "fallen" ["wall"] (spD K f_fallen) :=
  good_mk T 46 62 "fallen" rfl rfl sc_fallen (fun _ _ _ _ _ _ us hl => match us, hl with | [_], _ => rfl) (t := t_fallen) (fun cdv A outer s H E hr => (ds_one (ds_ret (de_call (good_many_loose T) (hr.mono (by decide)) (da_cons (de_var 0) (da_cons (de_fld T.clsT false 3 (de_var 0)) da_nil)))))) pure_fallen
theorem sc_hand : FnScope ["wall", "k"] ["wall"] (defScope (top 63)) := ⟨rfl, rfl, rfl, by decide +kernel, rfl, by decide +kernel, by decide +kernel⟩
theorem good_hand (T : Tx K mg base) : Good P w K mg base 3 "hand" ["wall"] (spD K f_hand) :=
  good_mk T 47 63 "hand" rfl rfl sc_hand (fun _ _ _ _ _ _ us hl => match us, hl with | [_], _ => rfl) (t := t_hand) (fun cdv A outer s H E hr => (ds_one (ds_ret (de_f (de_lc sc_hand.nd (di_list (de_call (good_loose T) (hr.mono (by decide)) (da_cons (de_fld T.clsT false 1 (de_var 0)) (da_cons (de_fld T.clsT false 5 (de_var 0)) (da_cons (de_fld T.clsT false 3 (de_var 0)) da_nil))))) (show blkC ["wall", "k"] (defScope (top 63)) _ _ = true by decide +kernel) (fun _ _ _ _ _ => pg_name (i := 1) sc_hand.nd rfl (Or.inl rfl)) (fun _ _ _ _ _ => tts_nil) (fun _ _ _ _ _ => (de_ix (de_fld T.clsT false 0 (de_var 0)) (de_var 1)))))))) pure_hand
theorem sc_names_up : FnScope ["wall", "k"] ["wall"] (defScope (top 64)) := ⟨rfl, rfl, rfl, by decide +kernel, rfl, by decide +kernel, by decide +kernel⟩
theorem good_names_up (T : Tx K mg base) : Good P w K mg base 2 "names_up" ["wall"] (spD K f_names_up) :=
  good_mk T 48 64 "names_up" rfl rfl sc_names_up (fun _ _ _ _ _ _ us hl => match us, hl with | [_], _ => rfl) (t := t_names_up) (fun cdv A outer s H E hr => (ds_one (ds_ret (de_f (de_lc sc_names_up.nd (di_range (T.free 113 rfl) (de_len (T.free 112 rfl) (de_fld T.clsT false 0 (de_var 0)))) (show blkC ["wall", "k"] (defScope (top 64)) _ _ = true by decide +kernel) (fun _ _ _ _ _ => pg_name (i := 1) sc_names_up.nd rfl (Or.inl rfl)) (fun _ _ _ _ _ => tts_one (tt_val (de_call (good_has T) (hr.mono (by decide)) (da_cons (de_fld T.clsT false 5 (de_var 0)) (da_cons (de_var 1) da_nil))))) (fun _ _ _ _ _ => (de_ix (de_fld T.clsT false 0 (de_var 0)) (de_var 1)))))))) pure_names_up
theorem sc_magnets_of : FnScope ["wall"] ["wall"] (defScope (top 65)) := ⟨rfl, rfl, rfl, by decide +kernel, rfl, by decide +kernel, by decide +kernel⟩
theorem good_magnets_of (T : Tx K mg base) : Good P w K mg base 3 "magnets_of" ["wall"] (spD K f_magnets_of) :=
  good_mk T 49 65 "magnets_of" rfl rfl sc_magnets_of (fun _ _ _ _ _ _ us hl => match us, hl with | [_], _ => rfl) (t := t_magnets_of) (fun cdv A outer s H E hr => (ds_one (ds_ret (de_add (de_call (good_count_of T) (hr.mono (by decide)) (da_cons (de_fld T.clsT false 3 (de_var 0)) da_nil)) (de_fld T.clsT false 4 (de_var 0)))))) pure_magnets_of
theorem sc_empty_script : FnScope [] [] (defScope (top 84)) := ⟨rfl, rfl, rfl, by decide +kernel, rfl, by decide +kernel, by decide +kernel⟩
theorem good_empty_script (T : Tx K mg base) : Good P w K mg base 4 "empty_script" [] (spD K f_empty_script) :=
  good_mk T 50 84 "empty_script" rfl rfl sc_empty_script (fun _ _ _ _ _ _ us hl => match us, hl with | [], _ => rfl) (t := t_empty_script) (fun cdv A outer s H E hr => (ds_one (ds_ret (de_make_Script T (hr.mono (by decide)) (da_cons (de_call0 (good_empty_wall T) (hr.mono (by decide))) (da_cons de_bl (da_cons de_int (da_cons (de_f (de_lst da_nil)) da_nil)))))))) pure_empty_script
theorem sc_named_twice : FnScope ["named", "k"] ["named"] (defScope (top 85)) := ⟨rfl, rfl, rfl, by decide +kernel, rfl, by decide +kernel, by decide +kernel⟩
theorem good_named_twice (T : Tx K mg base) : Good P w K mg base 2 "named_twice" ["named"] (spD K f_named_twice) :=
  good_mk T 51 85 "named_twice" rfl rfl sc_named_twice (fun _ _ _ _ _ _ us hl => match us, hl with | [_], _ => rfl) (t := t_named_twice) (fun cdv A outer s H E hr => (ds_cons (ds_for (i := 1) PassesOwn.never sc_named_twice.nd (di_range (T.free 113 rfl) (de_len (T.free 112 rfl) (de_var 0))) (t := lb_named_twice0) (ds_one (ds_if (tt_ne (de_call (good_place_of T) (hr.mono (by decide)) (da_cons (de_var 0) (da_cons (de_ix (de_var 0) (de_var 1)) da_nil))) (de_var 1)) (ds_one (ds_ret de_bl)) ds_nil))) (ds_one (ds_ret de_bl)))) pure_named_twice
theorem sc_many_acts : FnScope ["script"] ["script"] (defScope (top 86)) := ⟨rfl, rfl, rfl, by decide +kernel, rfl, by decide +kernel, by decide +kernel⟩
theorem good_many_acts (T : Tx K mg base) : Good P w K mg base 1 "many_acts" ["script"] (spD K f_many_acts) :=
  good_mk T 52 86 "many_acts" rfl rfl sc_many_acts (fun _ _ _ _ _ _ us hl => match us, hl with | [_], _ => rfl) (t := t_many_acts) (fun cdv A outer s H E hr => (ds_cons (ds_if (tt_ge (de_fld T.clsT true 2 (de_var 0)) de_int) (ds_one (ds_ret (de_gint (T.int 136 rfl)))) ds_nil) (ds_one (ds_ret de_int)))) pure_many_acts
theorem sc_sheet_problem : FnScope ["script", "name", "named"] ["script", "name", "named"] (defScope (top 87)) := ⟨rfl, rfl, rfl, by decide +kernel, rfl, by decide +kernel, by decide +kernel⟩
theorem good_sheet_problem (T : Tx K mg base) : Good P w K mg base 3 "sheet_problem" ["script", "name", "named"] (spD K f_sheet_problem) :=
  good_mk T 53 87 "sheet_problem" rfl rfl sc_sheet_problem (fun _ _ _ _ _ _ us hl => match us, hl with | [_, _, _], _ => rfl) (t := t_sheet_problem) (fun cdv A outer s H E hr => (ds_cons (ds_if (tt_ge (de_call (good_place_of T) (hr.mono (by decide)) (da_cons (de_fld T.clsT false 0 (de_fld T.clsT true 0 (de_var 0))) (da_cons (de_var 1) da_nil))) de_int) (ds_one (ds_ret (de_gint (T.int 125 rfl)))) ds_nil) (ds_cons (ds_if (tt_val (de_call (good_named_twice T) (hr.mono (by decide)) (da_cons (de_var 2) da_nil))) (ds_one (ds_ret (de_gint (T.int 126 rfl)))) ds_nil) (ds_cons (ds_if (tt_gt (de_fld T.clsT true 2 (de_var 0)) de_int) (ds_one (ds_ret (de_gint (T.int 127 rfl)))) ds_nil) (ds_cons (ds_if (tt_ge (de_len (T.free 112 rfl) (de_fld T.clsT false 0 (de_fld T.clsT true 0 (de_var 0)))) de_int) (ds_one (ds_ret (de_gint (T.int 128 rfl)))) ds_nil) (ds_cons (ds_if (tt_gt (de_len (T.free 112 rfl) (de_call (good_with_spots T) (hr.mono (by decide)) (da_cons (de_fld T.clsT false 2 (de_fld T.clsT true 0 (de_var 0))) (da_cons (de_var 2) da_nil)))) de_int) (ds_one (ds_ret (de_gint (T.int 129 rfl)))) ds_nil) (ds_one (ds_ret de_int)))))))) pure_sheet_problem
theorem sc_magnet_problem : FnScope ["script", "spot", "s"] ["script", "spot"] (defScope (top 88)) := ⟨rfl, rfl, rfl, by decide +kernel, rfl, by decide +kernel, by decide +kernel⟩
theorem good_magnet_problem (T : Tx K mg base) : Good P w K mg base 2 "magnet_problem" ["script", "spot"] (spD K f_magnet_problem) :=
  good_mk T 54 88 "magnet_problem" rfl rfl sc_magnet_problem (fun _ _ _ _ _ _ us hl => match us, hl with | [_, _], _ => rfl) (t := t_magnet_problem) (fun cdv A outer s H E hr => (ds_cons (ds_set (i := 2) sc_magnet_problem.nd (de_call (good_place_of T) (hr.mono (by decide)) (da_cons (de_fld T.clsT false 2 (de_fld T.clsT true 0 (de_var 0))) (da_cons (de_var 1) da_nil)))) (ds_cons (ds_if (tt_lt (de_var 2) de_int) (ds_one (ds_ret (de_gint (T.int 130 rfl)))) ds_nil) (ds_cons (ds_if (tt_gt (de_fld T.clsT true 2 (de_var 0)) de_int) (ds_one (ds_ret (de_gint (T.int 127 rfl)))) ds_nil) (ds_cons (ds_if (tt_val (de_call (good_has T) (hr.mono (by decide)) (da_cons (de_fld T.clsT false 3 (de_fld T.clsT true 0 (de_var 0))) (da_cons (de_var 2) da_nil)))) (ds_one (ds_ret (de_gint (T.int 131 rfl)))) ds_nil) (ds_one (ds_ret de_int))))))) pure_magnet_problem
theorem sc_drawer_problem : FnScope ["script", "many"] ["script", "many"] (defScope (top 89)) := ⟨rfl, rfl, rfl, by decide +kernel, rfl, by decide +kernel, by decide +kernel⟩
theorem good_drawer_problem (T : Tx K mg base) : Good P w K mg base 1 "drawer_problem" ["script", "many"] (spD K f_drawer_problem) :=
  good_mk T 55 89 "drawer_problem" rfl rfl sc_drawer_problem (fun _ _ _ _ _ _ us hl => match us, hl with | [_, _], _ => rfl) (t := t_drawer_problem) (fun cdv A outer s H E hr => (ds_cons (ds_if (tt_gt (de_fld T.clsT true 2 (de_var 0)) de_int) (ds_one (ds_ret (de_gint (T.int 127 rfl)))) ds_nil) (ds_cons (ds_if (tt_val (de_fld T.clsT true 1 (de_var 0))) (ds_one (ds_ret (de_gint (T.int 131 rfl)))) ds_nil) (ds_cons (ds_if (tt_gt (de_var 1) de_int) (ds_one (ds_ret (de_gint (T.int 132 rfl)))) ds_nil) (ds_one (ds_ret de_int)))))) pure_drawer_problem
theorem sc_put_problem : FnScope ["script", "spot", "s"] ["script", "spot"] (defScope (top 90)) := ⟨rfl, rfl, rfl, by decide +kernel, rfl, by decide +kernel, by decide +kernel⟩
theorem good_put_problem (T : Tx K mg base) : Good P w K mg base 5 "put_problem" ["script", "spot"] (spD K f_put_problem) :=
  good_mk T 56 90 "put_problem" rfl rfl sc_put_problem (fun _ _ _ _ _ _ us hl => match us, hl with | [_, _], _ => rfl) (t := t_put_problem) (fun cdv A outer s H E hr => (ds_cons (ds_set (i := 2) sc_put_problem.nd (de_call (good_place_of T) (hr.mono (by decide)) (da_cons (de_fld T.clsT false 2 (de_fld T.clsT true 0 (de_var 0))) (da_cons (de_var 1) da_nil)))) (ds_cons (ds_if (tt_lt (de_var 2) de_int) (ds_one (ds_ret (de_gint (T.int 130 rfl)))) ds_nil) (ds_cons (ds_if (tt_val (de_call (good_fallen T) (hr.mono (by decide)) (da_cons (de_fld T.clsT true 0 (de_var 0)) da_nil))) (ds_one (ds_ret (de_gint (T.int 133 rfl)))) ds_nil) (ds_cons (ds_if (tt_val (de_call (good_has T) (hr.mono (by decide)) (da_cons (de_fld T.clsT false 3 (de_fld T.clsT true 0 (de_var 0))) (da_cons (de_var 2) da_nil)))) (ds_one (ds_ret (de_gint (T.int 134 rfl)))) ds_nil) (ds_cons (ds_if (tt_eq (de_fld T.clsT false 4 (de_fld T.clsT true 0 (de_var 0))) de_int) (ds_one (ds_ret (de_gint (T.int 135 rfl)))) ds_nil) (ds_one (ds_ret (de_call (good_many_acts T) (hr.mono (by decide)) (da_cons (de_var 0) da_nil)))))))))) pure_put_problem
theorem sc_off_problem : FnScope ["script", "spot", "s"] ["script", "spot"] (defScope (top 91)) := ⟨rfl, rfl, rfl, by decide +kernel, rfl, by decide +kernel, by decide +kernel⟩
theorem good_off_problem (T : Tx K mg base) : Good P w K mg base 4 "off_problem" ["script", "spot"] (spD K f_off_problem) :=
  good_mk T 57 91 "off_problem" rfl rfl sc_off_problem (fun _ _ _ _ _ _ us hl => match us, hl with | [_, _], _ => rfl) (t := t_off_problem) (fun cdv A outer s H E hr => (ds_cons (ds_set (i := 2) sc_off_problem.nd (de_call (good_place_of T) (hr.mono (by decide)) (da_cons (de_fld T.clsT false 2 (de_fld T.clsT true 0 (de_var 0))) (da_cons (de_var 1) da_nil)))) (ds_cons (ds_if (tt_lt (de_var 2) de_int) (ds_one (ds_ret (de_gint (T.int 130 rfl)))) ds_nil) (ds_cons (ds_if (tt_not (tt_val (de_call (good_has T) (hr.mono (by decide)) (da_cons (de_fld T.clsT false 3 (de_fld T.clsT true 0 (de_var 0))) (da_cons (de_var 2) da_nil))))) (ds_one (ds_ret (de_gint (T.int 137 rfl)))) ds_nil) (ds_cons (ds_if (tt_val (de_call (good_many_loose T) (hr.mono (by decide)) (da_cons (de_fld T.clsT true 0 (de_var 0)) (da_cons (de_call (good_left_out T) (hr.mono (by decide)) (da_cons (de_fld T.clsT false 3 (de_fld T.clsT true 0 (de_var 0))) (da_cons (de_var 2) da_nil))) da_nil)))) (ds_one (ds_ret (de_gint (T.int 133 rfl)))) ds_nil) (ds_one (ds_ret (de_call (good_many_acts T) (hr.mono (by decide)) (da_cons (de_var 0) da_nil))))))))) pure_off_problem
theorem sc_move_problem : FnScope ["script", "spot", "other", "s", "t"] ["script", "spot", "other"] (defScope (top 92)) := ⟨rfl, rfl, rfl, by decide +kernel, rfl, by decide +kernel, by decide +kernel⟩
theorem good_move_problem (T : Tx K mg base) : Good P w K mg base 4 "move_problem" ["script", "spot", "other"] (spD K f_move_problem) :=
  good_mk T 58 92 "move_problem" rfl rfl sc_move_problem (fun _ _ _ _ _ _ us hl => match us, hl with | [_, _, _], _ => rfl) (t := t_move_problem) (fun cdv A outer s H E hr => (ds_cons (ds_set (i := 3) sc_move_problem.nd (de_call (good_place_of T) (hr.mono (by decide)) (da_cons (de_fld T.clsT false 2 (de_fld T.clsT true 0 (de_var 0))) (da_cons (de_var 1) da_nil)))) (ds_cons (ds_set (i := 4) sc_move_problem.nd (de_call (good_place_of T) (hr.mono (by decide)) (da_cons (de_fld T.clsT false 2 (de_fld T.clsT true 0 (de_var 0))) (da_cons (de_var 2) da_nil)))) (ds_cons (ds_if (tt_w (tw_or (tt_lt (de_var 3) de_int) (tw_or1 (tt_lt (de_var 4) de_int)))) (ds_one (ds_ret (de_gint (T.int 130 rfl)))) ds_nil) (ds_cons (ds_if (tt_not (tt_val (de_call (good_has T) (hr.mono (by decide)) (da_cons (de_fld T.clsT false 3 (de_fld T.clsT true 0 (de_var 0))) (da_cons (de_var 3) da_nil))))) (ds_one (ds_ret (de_gint (T.int 137 rfl)))) ds_nil) (ds_cons (ds_if (tt_val (de_call (good_has T) (hr.mono (by decide)) (da_cons (de_fld T.clsT false 3 (de_fld T.clsT true 0 (de_var 0))) (da_cons (de_var 4) da_nil)))) (ds_one (ds_ret (de_gint (T.int 134 rfl)))) ds_nil) (ds_cons (ds_if (tt_val (de_call (good_many_loose T) (hr.mono (by decide)) (da_cons (de_fld T.clsT true 0 (de_var 0)) (da_cons (de_call (good_left_out T) (hr.mono (by decide)) (da_cons (de_fld T.clsT false 3 (de_fld T.clsT true 0 (de_var 0))) (da_cons (de_var 3) da_nil))) da_nil)))) (ds_one (ds_ret (de_gint (T.int 133 rfl)))) ds_nil) (ds_one (ds_ret (de_call (good_many_acts T) (hr.mono (by decide)) (da_cons (de_var 0) da_nil))))))))))) pure_move_problem
theorem sc_take_problem : FnScope ["script", "name", "k"] ["script", "name"] (defScope (top 93)) := ⟨rfl, rfl, rfl, by decide +kernel, rfl, by decide +kernel, by decide +kernel⟩
theorem good_take_problem (T : Tx K mg base) : Good P w K mg base 5 "take_problem" ["script", "name"] (spD K f_take_problem) :=
  good_mk T 59 93 "take_problem" rfl rfl sc_take_problem (fun _ _ _ _ _ _ us hl => match us, hl with | [_, _], _ => rfl) (t := t_take_problem) (fun cdv A outer s H E hr => (ds_cons (ds_set (i := 2) sc_take_problem.nd (de_call (good_place_of T) (hr.mono (by decide)) (da_cons (de_fld T.clsT false 0 (de_fld T.clsT true 0 (de_var 0))) (da_cons (de_var 1) da_nil)))) (ds_cons (ds_if (tt_lt (de_var 2) de_int) (ds_one (ds_ret (de_gint (T.int 138 rfl)))) ds_nil) (ds_cons (ds_if (tt_not (tt_val (de_call (good_has T) (hr.mono (by decide)) (da_cons (de_fld T.clsT false 5 (de_fld T.clsT true 0 (de_var 0))) (da_cons (de_var 2) da_nil))))) (ds_one (ds_ret (de_gint (T.int 139 rfl)))) ds_nil) (ds_cons (ds_if (tt_not (tt_val (de_call (good_apart T) (hr.mono (by decide)) (da_cons (de_ix (de_fld T.clsT false 1 (de_fld T.clsT true 0 (de_var 0))) (de_var 2)) (da_cons (de_fld T.clsT false 3 (de_fld T.clsT true 0 (de_var 0))) da_nil))))) (ds_one (ds_ret (de_gint (T.int 140 rfl)))) ds_nil) (ds_cons (ds_if (tt_val (de_call (good_fallen T) (hr.mono (by decide)) (da_cons (de_fld T.clsT true 0 (de_var 0)) da_nil))) (ds_one (ds_ret (de_gint (T.int 133 rfl)))) ds_nil) (ds_one (ds_ret (de_call (good_many_acts T) (hr.mono (by decide)) (da_cons (de_var 0) da_nil)))))))))) pure_take_problem
theorem sc_item_problem : FnScope ["script", "row", "kind"] ["script", "row"] (defScope (top 94)) := ⟨rfl, rfl, rfl, by decide +kernel, rfl, by decide +kernel, by decide +kernel⟩
theorem good_item_problem (T : Tx K mg base) : Good P w K mg base 6 "item_problem" ["script", "row"] (spD K f_item_problem) :=
  good_mk T 60 94 "item_problem" rfl rfl sc_item_problem (fun _ _ _ _ _ _ us hl => match us, hl with | [_, _], _ => rfl) (t := t_item_problem) (fun cdv A outer s H E hr => (ds_cons (ds_set (i := 2) sc_item_problem.nd (de_call (good_kind_of T) (hr.mono (by decide)) (da_cons (de_var 1) da_nil))) (ds_cons (ds_if (tt_eq (de_var 2) (de_gint (T.int 116 rfl))) (ds_one (ds_ret (de_call (good_sheet_problem T) (hr.mono (by decide)) (da_cons (de_var 0) (da_cons (de_ix (de_var 1) de_int) (da_cons (de_f (de_sl (de_var 1) (do_some de_int) do_none)) da_nil)))))) ds_nil) (ds_cons (ds_if (tt_eq (de_var 2) (de_gint (T.int 117 rfl))) (ds_one (ds_ret (de_call (good_magnet_problem T) (hr.mono (by decide)) (da_cons (de_var 0) (da_cons (de_ix (de_var 1) de_int) da_nil))))) ds_nil) (ds_cons (ds_if (tt_eq (de_var 2) (de_gint (T.int 118 rfl))) (ds_one (ds_ret (de_call (good_drawer_problem T) (hr.mono (by decide)) (da_cons (de_var 0) (da_cons (de_call (good_value_of T) (hr.mono (by decide)) (da_cons (de_ix (de_var 1) de_int) da_nil)) da_nil))))) ds_nil) (ds_cons (ds_if (tt_eq (de_var 2) (de_gint (T.int 119 rfl))) (ds_one (ds_ret (de_call (good_put_problem T) (hr.mono (by decide)) (da_cons (de_var 0) (da_cons (de_ix (de_var 1) de_int) da_nil))))) ds_nil) (ds_cons (ds_if (tt_eq (de_var 2) (de_gint (T.int 120 rfl))) (ds_one (ds_ret (de_call (good_off_problem T) (hr.mono (by decide)) (da_cons (de_var 0) (da_cons (de_ix (de_var 1) de_int) da_nil))))) ds_nil) (ds_cons (ds_if (tt_eq (de_var 2) (de_gint (T.int 121 rfl))) (ds_one (ds_ret (de_call (good_move_problem T) (hr.mono (by decide)) (da_cons (de_var 0) (da_cons (de_ix (de_var 1) de_int) (da_cons (de_ix (de_var 1) de_int) da_nil)))))) ds_nil) (ds_one (ds_ret (de_call (good_take_problem T) (hr.mono (by decide)) (da_cons (de_var 0) (da_cons (de_ix (de_var 1) de_int) da_nil))))))))))))) pure_item_problem
theorem sc_magnets_moved : FnScope ["wall", "kind", "row", "s", "t"] ["wall", "kind", "row"] (defScope (top 95)) := ⟨rfl, rfl, rfl, by decide +kernel, rfl, by decide +kernel, by decide +kernel⟩
theorem good_magnets_moved (T : Tx K mg base) : Good P w K mg base 4 "magnets_moved" ["wall", "kind", "row"] (spD K f_magnets_moved) :=
  good_mk T 61 95 "magnets_moved" rfl rfl sc_magnets_moved (fun _ _ _ _ _ _ us hl => match us, hl with | [_, _, _], _ => rfl) (t := t_magnets_moved) (fun cdv A outer s H E hr => (ds_cons (ds_set (i := 3) sc_magnets_moved.nd (de_call (good_place_of T) (hr.mono (by decide)) (da_cons (de_fld T.clsT false 2 (de_var 0)) (da_cons (de_ix (de_var 2) de_int) da_nil)))) (ds_cons (ds_if (tt_eq (de_var 1) (de_gint (T.int 117 rfl))) (ds_one (ds_ret (de_call (good_with_magnets T) (hr.mono (by decide)) (da_cons (de_var 0) (da_cons (de_call (good_put_in T) (hr.mono (by decide)) (da_cons (de_fld T.clsT false 3 (de_var 0)) (da_cons (de_var 3) da_nil))) (da_cons (de_fld T.clsT false 4 (de_var 0)) da_nil)))))) ds_nil) (ds_cons (ds_if (tt_eq (de_var 1) (de_gint (T.int 119 rfl))) (ds_one (ds_ret (de_call (good_with_magnets T) (hr.mono (by decide)) (da_cons (de_var 0) (da_cons (de_call (good_put_in T) (hr.mono (by decide)) (da_cons (de_fld T.clsT false 3 (de_var 0)) (da_cons (de_var 3) da_nil))) (da_cons (de_sub (de_fld T.clsT false 4 (de_var 0)) de_int) da_nil)))))) ds_nil) (ds_cons (ds_if (tt_eq (de_var 1) (de_gint (T.int 120 rfl))) (ds_one (ds_ret (de_call (good_with_magnets T) (hr.mono (by decide)) (da_cons (de_var 0) (da_cons (de_call (good_left_out T) (hr.mono (by decide)) (da_cons (de_fld T.clsT false 3 (de_var 0)) (da_cons (de_var 3) da_nil))) (da_cons (de_add (de_fld T.clsT false 4 (de_var 0)) de_int) da_nil)))))) ds_nil) (ds_cons (ds_set (i := 4) sc_magnets_moved.nd (de_call (good_place_of T) (hr.mono (by decide)) (da_cons (de_fld T.clsT false 2 (de_var 0)) (da_cons (de_ix (de_var 2) de_int) da_nil)))) (ds_one (ds_ret (de_call (good_with_magnets T) (hr.mono (by decide)) (da_cons (de_var 0) (da_cons (de_call (good_put_in T) (hr.mono (by decide)) (da_cons (de_call (good_left_out T) (hr.mono (by decide)) (da_cons (de_fld T.clsT false 3 (de_var 0)) (da_cons (de_var 3) da_nil))) (da_cons (de_var 4) da_nil))) (da_cons (de_fld T.clsT false 4 (de_var 0)) da_nil)))))))))))) pure_magnets_moved
theorem sc_wall_after : FnScope ["wall", "row", "kind"] ["wall", "row"] (defScope (top 96)) := ⟨rfl, rfl, rfl, by decide +kernel, rfl, by decide +kernel, by decide +kernel⟩
theorem good_wall_after (T : Tx K mg base) : Good P w K mg base 6 "wall_after" ["wall", "row"] (spD K f_wall_after) :=
  good_mk T 62 96 "wall_after" rfl rfl sc_wall_after (fun _ _ _ _ _ _ us hl => match us, hl with | [_, _], _ => rfl) (t := t_wall_after) (fun cdv A outer s H E hr => (ds_cons (ds_set (i := 2) sc_wall_after.nd (de_call (good_kind_of T) (hr.mono (by decide)) (da_cons (de_var 1) da_nil))) (ds_cons (ds_if (tt_eq (de_var 2) (de_gint (T.int 116 rfl))) (ds_one (ds_ret (de_call (good_with_sheet T) (hr.mono (by decide)) (da_cons (de_var 0) (da_cons (de_ix (de_var 1) de_int) (da_cons (de_f (de_sl (de_var 1) (do_some de_int) do_none)) da_nil)))))) ds_nil) (ds_cons (ds_if (tt_eq (de_var 2) (de_gint (T.int 118 rfl))) (ds_one (ds_ret (de_call (good_with_magnets T) (hr.mono (by decide)) (da_cons (de_var 0) (da_cons (de_fld T.clsT false 3 (de_var 0)) (da_cons (de_call (good_value_of T) (hr.mono (by decide)) (da_cons (de_ix (de_var 1) de_int) da_nil)) da_nil)))))) ds_nil) (ds_cons (ds_if (tt_in (de_var 2) (de_tup (da_cons (de_gint (T.int 117 rfl)) (da_cons (de_gint (T.int 119 rfl)) (da_cons (de_gint (T.int 120 rfl)) (da_cons (de_gint (T.int 121 rfl)) da_nil)))))) (ds_one (ds_ret (de_call (good_magnets_moved T) (hr.mono (by decide)) (da_cons (de_var 0) (da_cons (de_var 2) (da_cons (de_var 1) da_nil)))))) ds_nil) (ds_one (ds_ret (de_call (good_without_sheet T) (hr.mono (by decide)) (da_cons (de_var 0) (da_cons (de_call (good_place_of T) (hr.mono (by decide)) (da_cons (de_fld T.clsT false 0 (de_var 0)) (da_cons (de_ix (de_var 1) de_int) da_nil))) da_nil)))))))))) pure_wall_after
theorem sc_script_after : FnScope ["script", "row", "kind", "acts"] ["script", "row"] (defScope (top 97)) := ⟨rfl, rfl, rfl, by decide +kernel, rfl, by decide +kernel, by decide +kernel⟩
theorem good_script_after (T : Tx K mg base) : Good P w K mg base 7 "script_after" ["script", "row"] (spD K f_script_after) :=
  good_mk T 63 97 "script_after" rfl rfl sc_script_after (fun _ _ _ _ _ _ us hl => match us, hl with | [_, _], _ => rfl) (t := t_script_after) (fun cdv A outer s H E hr => (ds_cons (ds_set (i := 2) sc_script_after.nd (de_call (good_kind_of T) (hr.mono (by decide)) (da_cons (de_var 1) da_nil))) (ds_cons (ds_set (i := 3) sc_script_after.nd (de_fld T.clsT true 2 (de_var 0))) (ds_cons (ds_if (tt_ge (de_var 2) (de_gint (T.int 119 rfl))) (ds_one (ds_aug (i := 3) sc_script_after.nd de_int)) ds_nil) (ds_one (ds_ret (de_make_Script T (hr.mono (by decide)) (da_cons (de_call (good_wall_after T) (hr.mono (by decide)) (da_cons (de_fld T.clsT true 0 (de_var 0)) (da_cons (de_var 1) da_nil))) (da_cons (de_orV (de_fld T.clsT true 1 (de_var 0)) (de_one (de_eq (de_var 2) (de_gint (T.int 118 rfl))))) (da_cons (de_var 3) (da_cons (de_f (de_cat (de_fld T.clsT true 3 (de_var 0)) (de_f (de_lst (da_cons (de_call (good_spaced T) (hr.mono (by decide)) (da_cons (de_var 1) da_nil)) da_nil))))) da_nil))))))))))) pure_script_after
theorem sc_row_problem : FnScope ["script", "row", "found"] ["script", "row"] (defScope (top 99)) := ⟨rfl, rfl, rfl, by decide +kernel, rfl, by decide +kernel, by decide +kernel⟩
theorem good_row_problem (T : Tx K mg base) : Good P w K mg base 7 "row_problem" ["script", "row"] (spD K f_row_problem) :=
  good_mk T 64 99 "row_problem" rfl rfl sc_row_problem (fun _ _ _ _ _ _ us hl => match us, hl with | [_, _], _ => rfl) (t := t_row_problem) (fun cdv A outer s H E hr => (ds_cons (ds_set (i := 2) sc_row_problem.nd (de_call (good_form_problem T) (hr.mono (by decide)) (da_cons (de_var 1) da_nil))) (ds_cons (ds_if (tt_gt (de_var 2) de_int) (ds_one (ds_ret (de_var 2))) ds_nil) (ds_one (ds_ret (de_call (good_item_problem T) (hr.mono (by decide)) (da_cons (de_var 0) (da_cons (de_var 1) da_nil)))))))) pure_row_problem
theorem sc_read_text : FnScope ["text", "script", "rows", "k", "row", "problem"] ["text"] (defScope (top 100)) := ⟨rfl, rfl, rfl, by decide +kernel, rfl, by decide +kernel, by decide +kernel⟩
theorem good_read_text (T : Tx K mg base) : Good P w K mg base 8 "read_text" ["text"] (spD K f_read_text) :=
  good_mk T 65 100 "read_text" rfl rfl sc_read_text (fun _ _ _ _ _ _ us hl => match us, hl with | [_], _ => rfl) (t := t_read_text) (fun cdv A outer s H E hr => (ds_cons (ds_set (i := 1) sc_read_text.nd (de_call0 (good_empty_script T) (hr.mono (by decide)))) (ds_cons (ds_set (i := 2) sc_read_text.nd (de_call (good_lines_of T) (hr.mono (by decide)) (da_cons (de_var 0) da_nil))) (ds_cons (ds_for (i := 3) PassesOwn.never sc_read_text.nd (di_range (T.free 113 rfl) (de_len (T.free 112 rfl) (de_var 2))) (t := lb_read_text0) (ds_cons (ds_set (i := 4) sc_read_text.nd (de_call (good_pieces_of T) (hr.mono (by decide)) (da_cons (de_ix (de_var 2) (de_var 3)) da_nil))) (ds_one (ds_if (tt_gt (de_len (T.free 112 rfl) (de_var 4)) de_int) (ds_cons (ds_set (i := 5) sc_read_text.nd (de_call (good_row_problem T) (hr.mono (by decide)) (da_cons (de_var 1) (da_cons (de_var 4) da_nil)))) (ds_cons (ds_if (tt_gt (de_var 5) de_int) (ds_one (ds_ret (de_tup (da_cons (de_add (de_var 3) de_int) (da_cons (de_var 5) (da_cons (de_var 1) da_nil)))))) ds_nil) (ds_one (ds_set (i := 1) sc_read_text.nd (de_call (good_script_after T) (hr.mono (by decide)) (da_cons (de_var 1) (da_cons (de_var 4) da_nil))))))) ds_nil)))) (ds_one (ds_ret (de_tup (da_cons de_int (da_cons de_int (da_cons (de_var 1) da_nil)))))))))) pure_read_text
theorem sc_canonical : FnScope ["script", "text", "k"] ["script"] (defScope (top 101)) := ⟨rfl, rfl, rfl, by decide +kernel, rfl, by decide +kernel, by decide +kernel⟩
theorem good_canonical (T : Tx K mg base) : Good P w K mg base 1 "canonical" ["script"] (spD K f_canonical) :=
  good_mk T 66 101 "canonical" rfl rfl sc_canonical (fun _ _ _ _ _ _ us hl => match us, hl with | [_], _ => rfl) (t := t_canonical) (fun cdv A outer s H E hr => (ds_cons (ds_own (i := 1) sc_canonical.nd (de_lst da_nil)) (ds_cons (ds_for (i := 2) PassesOwn.never sc_canonical.nd (di_range (T.free 113 rfl) (de_len (T.free 112 rfl) (de_fld T.clsT true 3 (de_var 0)))) (t := lb_canonical0) (ds_cons (ds_if (tt_gt (de_var 2) de_int) (ds_one (ds_app (i := 1) de_int)) ds_nil) (ds_one (ds_ext (i := 1) (de_ix (de_fld T.clsT true 3 (de_var 0)) (de_var 2)))))) (ds_one (ds_ret (de_var 1)))))) pure_canonical
theorem sc_says_act : FnScope ["row"] ["row"] (defScope (top 102)) := ⟨rfl, rfl, rfl, by decide +kernel, rfl, by decide +kernel, by decide +kernel⟩
theorem good_says_act (T : Tx K mg base) : Good P w K mg base 7 "says_act" ["row"] (spD K f_says_act) :=
  good_mk T 67 102 "says_act" rfl rfl sc_says_act (fun _ _ _ _ _ _ us hl => match us, hl with | [_], _ => rfl) (t := t_says_act) (fun cdv A outer s H E hr => (ds_one (ds_ret (de_andV (de_gt (de_len (T.free 112 rfl) (de_var 0)) de_int) (de_andV (de_eq (de_call (good_form_problem T) (hr.mono (by decide)) (da_cons (de_var 0) da_nil)) de_int) (de_one (de_ge (de_call (good_kind_of T) (hr.mono (by decide)) (da_cons (de_var 0) da_nil)) (de_gint (T.int 119 rfl))))))))) pure_says_act
theorem sc_act_problem : FnScope ["script", "line", "row"] ["script", "line"] (defScope (top 103)) := ⟨rfl, rfl, rfl, by decide +kernel, rfl, by decide +kernel, by decide +kernel⟩
theorem good_act_problem (T : Tx K mg base) : Good P w K mg base 8 "act_problem" ["script", "line"] (spD K f_act_problem) :=
  good_mk T 68 103 "act_problem" rfl rfl sc_act_problem (fun _ _ _ _ _ _ us hl => match us, hl with | [_, _], _ => rfl) (t := t_act_problem) (fun cdv A outer s H E hr => (ds_cons (ds_set (i := 2) sc_act_problem.nd (de_call (good_pieces_of T) (hr.mono (by decide)) (da_cons (de_var 1) da_nil))) (ds_cons (ds_if (tt_not (tt_val (de_call (good_says_act T) (hr.mono (by decide)) (da_cons (de_var 2) da_nil)))) (ds_one (ds_ret (de_neg de_int))) ds_nil) (ds_one (ds_ret (de_call (good_item_problem T) (hr.mono (by decide)) (da_cons (de_var 0) (da_cons (de_var 2) da_nil)))))))) pure_act_problem
theorem sc_script_with : FnScope ["script", "line"] ["script", "line"] (defScope (top 104)) := ⟨rfl, rfl, rfl, by decide +kernel, rfl, by decide +kernel, by decide +kernel⟩
theorem good_script_with (T : Tx K mg base) : Good P w K mg base 8 "script_with" ["script", "line"] (spD K f_script_with) :=
  good_mk T 69 104 "script_with" rfl rfl sc_script_with (fun _ _ _ _ _ _ us hl => match us, hl with | [_, _], _ => rfl) (t := t_script_with) (fun cdv A outer s H E hr => (ds_one (ds_ret (de_call (good_script_after T) (hr.mono (by decide)) (da_cons (de_var 0) (da_cons (de_call (good_pieces_of T) (hr.mono (by decide)) (da_cons (de_var 1) da_nil)) da_nil)))))) pure_script_with
theorem sc_calm_table : FnScope ["covers", "up", "width", "held"] ["covers", "up", "width"] (defScope (top 107)) := ⟨rfl, rfl, rfl, by decide +kernel, rfl, by decide +kernel, by decide +kernel⟩
theorem good_calm_table (T : Tx K mg base) : Good P w K mg base 3 "calm_table" ["covers", "up", "width"] (spD K f_calm_table) :=
  good_mk T 70 107 "calm_table" rfl rfl sc_calm_table (fun _ _ _ _ _ _ us hl => match us, hl with | [_, _, _], _ => rfl) (t := t_calm_table) (fun cdv A outer s H E hr => (ds_one (ds_ret (de_f (de_lc sc_calm_table.nd (di_range (T.free 113 rfl) (de_ix (de_gref (T.glo 163 rfl) T.powers) (de_var 2))) (show blkC ["covers", "up", "width", "held"] (defScope (top 107)) _ _ = true by decide +kernel) (fun _ _ _ _ _ => pg_name (i := 3) sc_calm_table.nd rfl (Or.inl rfl)) (fun _ _ _ _ _ => tts_nil) (fun _ _ _ _ _ => (de_le (de_len (T.free 112 rfl) (de_call (good_loose T) (hr.mono (by decide)) (da_cons (de_var 0) (da_cons (de_var 1) (da_cons (de_var 3) da_nil))))) de_int))))))) pure_calm_table
theorem sc_puts : FnScope ["calm", "width", "total", "held", "s"] ["calm", "width", "total", "held"] (defScope (top 108)) := ⟨rfl, rfl, rfl, by decide +kernel, rfl, by decide +kernel, by decide +kernel⟩
theorem good_puts (T : Tx K mg base) : Good P w K mg base 3 "puts" ["calm", "width", "total", "held"] (spD K f_puts) :=
  good_mk T 71 108 "puts" rfl rfl sc_puts (fun _ _ _ _ _ _ us hl => match us, hl with | [_, _, _, _], _ => rfl) (t := t_puts) (fun cdv A outer s H E hr => (ds_cons (ds_if (tt_w (tw_or (tt_not (tt_val (de_ix (de_var 0) (de_var 3)))) (tw_or1 (tt_ge (de_call (good_count_of T) (hr.mono (by decide)) (da_cons (de_var 3) da_nil)) (de_var 2))))) (ds_one (ds_ret (de_f (de_lst da_nil)))) ds_nil) (ds_one (ds_ret (de_f (de_lc sc_puts.nd (di_range (T.free 113 rfl) (de_var 1)) (show blkC ["calm", "width", "total", "held", "s"] (defScope (top 108)) _ _ = true by decide +kernel) (fun _ _ _ _ _ => pg_name (i := 4) sc_puts.nd rfl (Or.inl rfl)) (fun _ _ _ _ _ => tts_one (tt_not (tt_val (de_call (good_has T) (hr.mono (by decide)) (da_cons (de_var 3) (da_cons (de_var 4) da_nil)))))) (fun _ _ _ _ _ => (de_tup (da_cons (de_gint (T.int 119 rfl)) (da_cons (de_var 4) (da_cons (de_var 4) da_nil))))))))))) pure_puts
theorem sc_offs : FnScope ["calm", "width", "held", "s"] ["calm", "width", "held"] (defScope (top 109)) := ⟨rfl, rfl, rfl, by decide +kernel, rfl, by decide +kernel, by decide +kernel⟩
theorem good_offs (T : Tx K mg base) : Good P w K mg base 2 "offs" ["calm", "width", "held"] (spD K f_offs) :=
  good_mk T 72 109 "offs" rfl rfl sc_offs (fun _ _ _ _ _ _ us hl => match us, hl with | [_, _, _], _ => rfl) (t := t_offs) (fun cdv A outer s H E hr => (ds_one (ds_ret (de_f (de_lc sc_offs.nd (di_range (T.free 113 rfl) (de_var 1)) (show blkC ["calm", "width", "held", "s"] (defScope (top 109)) _ _ = true by decide +kernel) (fun _ _ _ _ _ => pg_name (i := 3) sc_offs.nd rfl (Or.inl rfl)) (fun _ _ _ _ _ => tts_one (tt_w (tw_and (tt_val (de_call (good_has T) (hr.mono (by decide)) (da_cons (de_var 2) (da_cons (de_var 3) da_nil)))) (tw_and1 (tt_val (de_ix (de_var 0) (de_call (good_left_out T) (hr.mono (by decide)) (da_cons (de_var 2) (da_cons (de_var 3) da_nil))))))))) (fun _ _ _ _ _ => (de_tup (da_cons (de_gint (T.int 120 rfl)) (da_cons (de_var 3) (da_cons (de_var 3) da_nil)))))))))) pure_offs
theorem sc_shifts : FnScope ["calm", "width", "held", "found", "s", "t"] ["calm", "width", "held"] (defScope (top 110)) := ⟨rfl, rfl, rfl, by decide +kernel, rfl, by decide +kernel, by decide +kernel⟩
theorem good_shifts (T : Tx K mg base) : Good P w K mg base 2 "shifts" ["calm", "width", "held"] (spD K f_shifts) :=
  good_mk T 73 110 "shifts" rfl rfl sc_shifts (fun _ _ _ _ _ _ us hl => match us, hl with | [_, _, _], _ => rfl) (t := t_shifts) (fun cdv A outer s H E hr => (ds_cons (ds_own (i := 3) sc_shifts.nd (de_lst da_nil)) (ds_cons (ds_for (i := 4) PassesOwn.never sc_shifts.nd (di_range (T.free 113 rfl) (de_var 1)) (t := lb_shifts1) (ds_one (ds_if (tt_w (tw_and (tt_val (de_call (good_has T) (hr.mono (by decide)) (da_cons (de_var 2) (da_cons (de_var 4) da_nil)))) (tw_and1 (tt_val (de_ix (de_var 0) (de_call (good_left_out T) (hr.mono (by decide)) (da_cons (de_var 2) (da_cons (de_var 4) da_nil)))))))) (ds_one (ds_for (i := 5) PassesOwn.never sc_shifts.nd (di_range (T.free 113 rfl) (de_var 1)) (t := lb_shifts0) (ds_one (ds_if (tt_not (tt_val (de_call (good_has T) (hr.mono (by decide)) (da_cons (de_var 2) (da_cons (de_var 5) da_nil))))) (ds_one (ds_app (i := 3) (de_tup (da_cons (de_gint (T.int 121 rfl)) (da_cons (de_var 4) (da_cons (de_var 5) da_nil)))))) ds_nil)))) ds_nil))) (ds_one (ds_ret (de_var 3)))))) pure_shifts
theorem sc_steps : FnScope ["calm", "width", "total", "held"] ["calm", "width", "total", "held"] (defScope (top 111)) := ⟨rfl, rfl, rfl, by decide +kernel, rfl, by decide +kernel, by decide +kernel⟩
theorem good_steps (T : Tx K mg base) : Good P w K mg base 4 "steps" ["calm", "width", "total", "held"] (spD K f_steps) :=
  good_mk T 74 111 "steps" rfl rfl sc_steps (fun _ _ _ _ _ _ us hl => match us, hl with | [_, _, _, _], _ => rfl) (t := t_steps) (fun cdv A outer s H E hr => (ds_one (ds_ret (de_f (de_cat (de_f (de_cat (de_call (good_puts T) (hr.mono (by decide)) (da_cons (de_var 0) (da_cons (de_var 1) (da_cons (de_var 2) (da_cons (de_var 3) da_nil))))) (de_call (good_offs T) (hr.mono (by decide)) (da_cons (de_var 0) (da_cons (de_var 1) (da_cons (de_var 3) da_nil)))))) (de_call (good_shifts T) (hr.mono (by decide)) (da_cons (de_var 0) (da_cons (de_var 1) (da_cons (de_var 3) da_nil))))))))) pure_steps
theorem sc_landed : FnScope ["held", "step", "kind", "s", "t"] ["held", "step"] (defScope (top 112)) := ⟨rfl, rfl, rfl, by decide +kernel, rfl, by decide +kernel, by decide +kernel⟩
theorem good_landed (T : Tx K mg base) : Good P w K mg base 2 "landed" ["held", "step"] (spD K f_landed) :=
  good_mk T 75 112 "landed" rfl rfl sc_landed (fun _ _ _ _ _ _ us hl => match us, hl with | [_, _], _ => rfl) (t := t_landed) (fun cdv A outer s H E hr => (ds_cons (ds_unp (i := 2) (j := 3) (k := 4) sc_landed.nd (de_var 1)) (ds_cons (ds_if (tt_eq (de_var 2) (de_gint (T.int 119 rfl))) (ds_one (ds_ret (de_call (good_put_in T) (hr.mono (by decide)) (da_cons (de_var 0) (da_cons (de_var 3) da_nil))))) ds_nil) (ds_cons (ds_if (tt_eq (de_var 2) (de_gint (T.int 120 rfl))) (ds_one (ds_ret (de_call (good_left_out T) (hr.mono (by decide)) (da_cons (de_var 0) (da_cons (de_var 3) da_nil))))) ds_nil) (ds_one (ds_ret (de_call (good_put_in T) (hr.mono (by decide)) (da_cons (de_call (good_left_out T) (hr.mono (by decide)) (da_cons (de_var 0) (da_cons (de_var 3) da_nil))) (da_cons (de_var 4) da_nil))))))))) pure_landed
theorem sc_ways_table : FnScope ["covers", "up", "width", "total", "calm", "table", "held", "step"] ["covers", "up", "width", "total"] (defScope (top 113)) := ⟨rfl, rfl, rfl, by decide +kernel, rfl, by decide +kernel, by decide +kernel⟩
theorem good_ways_table (T : Tx K mg base) : Good P w K mg base 5 "ways_table" ["covers", "up", "width", "total"] (spD K f_ways_table) :=
  good_mk T 76 113 "ways_table" rfl rfl sc_ways_table (fun _ _ _ _ _ _ us hl => match us, hl with | [_, _, _, _], _ => rfl) (t := t_ways_table) (fun cdv A outer s H E hr => (ds_cons (ds_set (i := 4) sc_ways_table.nd (de_call (good_calm_table T) (hr.mono (by decide)) (da_cons (de_var 0) (da_cons (de_var 1) (da_cons (de_var 2) da_nil))))) (ds_cons (ds_own (i := 5) sc_ways_table.nd (de_lst da_nil)) (ds_cons (ds_for (i := 6) PassesOwn.never sc_ways_table.nd (di_range (T.free 113 rfl) (de_ix (de_gref (T.glo 163 rfl) T.powers) (de_var 2))) (t := lb_ways_table0) (ds_one (ds_app (i := 5) (de_f (de_lc sc_ways_table.nd (di_list (de_call (good_steps T) (hr.mono (by decide)) (da_cons (de_var 4) (da_cons (de_var 2) (da_cons (de_var 3) (da_cons (de_var 6) da_nil)))))) (show blkC ["covers", "up", "width", "total", "calm", "table", "held", "step"] (defScope (top 113)) _ _ = true by decide +kernel) (fun _ _ _ _ _ => pg_name (i := 7) sc_ways_table.nd rfl (Or.inl rfl)) (fun _ _ _ _ _ => tts_nil) (fun _ _ _ _ _ => (de_call (good_landed T) (hr.mono (by decide)) (da_cons (de_var 6) (da_cons (de_var 7) da_nil))))))))) (ds_one (ds_ret (de_var 5))))))) pure_ways_table
theorem sc_nearer : FnScope ["best", "held", "near", "least", "other"] ["best", "held", "near"] (defScope (top 114)) := ⟨rfl, rfl, rfl, by decide +kernel, rfl, by decide +kernel, by decide +kernel⟩
theorem good_nearer (T : Tx K mg base) : Good P w K mg base 1 "nearer" ["best", "held", "near"] (spD K f_nearer) :=
  good_mk T 77 114 "nearer" rfl rfl sc_nearer (fun _ _ _ _ _ _ us hl => match us, hl with | [_, _, _], _ => rfl) (t := t_nearer) (fun cdv A outer s H E hr => (ds_cons (ds_set (i := 3) sc_nearer.nd (de_ix (de_var 0) (de_var 1))) (ds_cons (ds_for (i := 4) PassesOwn.never sc_nearer.nd (di_list (de_var 2)) (t := lb_nearer0) (ds_one (ds_if (tt_lt (de_add (de_ix (de_var 0) (de_var 4)) de_int) (de_var 3)) (ds_one (ds_set (i := 3) sc_nearer.nd (de_add (de_ix (de_var 0) (de_var 4)) de_int))) ds_nil))) (ds_one (ds_ret (de_var 3)))))) pure_nearer
theorem sc_spread : FnScope ["base", "ways", "best", "turn", "better", "held"] ["base", "ways"] (defScope (top 115)) := ⟨rfl, rfl, rfl, by decide +kernel, rfl, by decide +kernel, by decide +kernel⟩
theorem good_spread (T : Tx K mg base) : Good P w K mg base 2 "spread" ["base", "ways"] (spD K f_spread) :=
  good_mk T 78 115 "spread" rfl rfl sc_spread (fun _ _ _ _ _ _ us hl => match us, hl with | [_, _], _ => rfl) (t := t_spread) (fun cdv A outer s H E hr => (ds_cons (ds_set (i := 2) sc_spread.nd (de_var 0)) (ds_cons (ds_for (i := 3) PassesOwn.never sc_spread.nd (di_range (T.free 113 rfl) (de_len (T.free 112 rfl) (de_var 0))) (t := lb_spread0) (ds_cons (ds_setLc (i := 4) sc_spread.nd (di_range (T.free 113 rfl) (de_len (T.free 112 rfl) (de_var 2))) (show blkC ["base", "ways", "best", "turn", "better", "held"] (defScope (top 115)) _ _ = true by decide +kernel) (fun _ _ _ _ _ => pg_name (i := 5) sc_spread.nd rfl (Or.inl rfl)) (fun _ _ _ _ _ => tts_nil) (fun _ _ _ _ _ => (de_call (good_nearer T) (hr.mono (by decide)) (da_cons (de_var 2) (da_cons (de_var 5) (da_cons (de_ix (de_var 1) (de_var 5)) da_nil))))) (hsw := sw_true rfl rfl rfl (by decide +kernel))) (ds_cons (ds_if (tt_eqL hr (de_var 4) (de_var 2)) (ds_one (ds_ret (de_var 2))) ds_nil) (ds_one (ds_set (i := 2) sc_spread.nd (de_var 4)))))) (ds_one (ds_ret (de_var 2)))))) pure_spread
theorem sc_free_table : FnScope ["covers", "up", "width", "sheet", "held"] ["covers", "up", "width", "sheet"] (defScope (top 116)) := ⟨rfl, rfl, rfl, by decide +kernel, rfl, by decide +kernel, by decide +kernel⟩
theorem good_free_table (T : Tx K mg base) : Good P w K mg base 3 "free_table" ["covers", "up", "width", "sheet"] (spD K f_free_table) :=
  good_mk T 79 116 "free_table" rfl rfl sc_free_table (fun _ _ _ _ _ _ us hl => match us, hl with | [_, _, _, _], _ => rfl) (t := t_free_table) (fun cdv A outer s H E hr => (ds_one (ds_ret (de_f (de_lc sc_free_table.nd (di_range (T.free 113 rfl) (de_ix (de_gref (T.glo 163 rfl) T.powers) (de_var 2))) (show blkC ["covers", "up", "width", "sheet", "held"] (defScope (top 116)) _ _ = true by decide +kernel) (fun _ _ _ _ _ => pg_name (i := 4) sc_free_table.nd rfl (Or.inl rfl)) (fun _ _ _ _ _ => tts_nil) (fun _ _ _ _ _ => (de_if (tt_eqL hr (de_call (good_loose T) (hr.mono (by decide)) (da_cons (de_var 0) (da_cons (de_var 1) (da_cons (de_var 4) da_nil)))) (de_f (de_lst (da_cons (de_var 3) da_nil)))) de_int (de_gint (T.int 141 rfl))))))))) pure_free_table
theorem sc_moves_table : FnScope ["wall", "total", "sheet", "width", "base"] ["wall", "total", "sheet"] (defScope (top 117)) := ⟨rfl, rfl, rfl, by decide +kernel, rfl, by decide +kernel, by decide +kernel⟩
theorem good_moves_table (T : Tx K mg base) : Good P w K mg base 6 "moves_table" ["wall", "total", "sheet"] (spD K f_moves_table) :=
  good_mk T 80 117 "moves_table" rfl rfl sc_moves_table (fun _ _ _ _ _ _ us hl => match us, hl with | [_, _, _], _ => rfl) (t := t_moves_table) (fun cdv A outer s H E hr => (ds_cons (ds_set (i := 3) sc_moves_table.nd (de_len (T.free 112 rfl) (de_fld T.clsT false 2 (de_var 0)))) (ds_cons (ds_set (i := 4) sc_moves_table.nd (de_call (good_free_table T) (hr.mono (by decide)) (da_cons (de_fld T.clsT false 1 (de_var 0)) (da_cons (de_fld T.clsT false 5 (de_var 0)) (da_cons (de_var 3) (da_cons (de_var 2) da_nil)))))) (ds_one (ds_ret (de_call (good_spread T) (hr.mono (by decide)) (da_cons (de_var 4) (da_cons (de_call (good_ways_table T) (hr.mono (by decide)) (da_cons (de_fld T.clsT false 1 (de_var 0)) (da_cons (de_fld T.clsT false 5 (de_var 0)) (da_cons (de_var 3) (da_cons (de_var 1) da_nil))))) da_nil)))))))) pure_moves_table
theorem sc_known : FnScope ["number"] ["number"] (defScope (top 118)) := ⟨rfl, rfl, rfl, by decide +kernel, rfl, by decide +kernel, by decide +kernel⟩
theorem good_known (T : Tx K mg base) : Good P w K mg base 1 "known" ["number"] (spD K f_known) :=
  good_mk T 81 118 "known" rfl rfl sc_known (fun _ _ _ _ _ _ us hl => match us, hl with | [_], _ => rfl) (t := t_known) (fun cdv A outer s H E hr => (ds_cons (ds_if (tt_ge (de_var 0) (de_gint (T.int 141 rfl))) (ds_one (ds_ret (de_neg de_int))) ds_nil) (ds_one (ds_ret (de_var 0))))) pure_known
theorem sc_fewest : FnScope ["wall", "sheet"] ["wall", "sheet"] (defScope (top 119)) := ⟨rfl, rfl, rfl, by decide +kernel, rfl, by decide +kernel, by decide +kernel⟩
theorem good_fewest (T : Tx K mg base) : Good P w K mg base 7 "fewest" ["wall", "sheet"] (spD K f_fewest) :=
  good_mk T 82 119 "fewest" rfl rfl sc_fewest (fun _ _ _ _ _ _ us hl => match us, hl with | [_, _], _ => rfl) (t := t_fewest) (fun cdv A outer s H E hr => (ds_one (ds_ret (de_call (good_known T) (hr.mono (by decide)) (da_cons (de_ix (de_call (good_moves_table T) (hr.mono (by decide)) (da_cons (de_var 0) (da_cons (de_call (good_magnets_of T) (hr.mono (by decide)) (da_cons (de_var 0) da_nil)) (da_cons (de_var 1) da_nil)))) (de_fld T.clsT false 3 (de_var 0))) da_nil))))) pure_fewest
theorem sc_first : FnScope ["wall", "sheet", "width", "total", "table", "here", "step"] ["wall", "sheet"] (defScope (top 120)) := ⟨rfl, rfl, rfl, by decide +kernel, rfl, by decide +kernel, by decide +kernel⟩
theorem good_first (T : Tx K mg base) : Good P w K mg base 7 "first" ["wall", "sheet"] (spD K f_first) :=
  good_mk T 83 120 "first" rfl rfl sc_first (fun _ _ _ _ _ _ us hl => match us, hl with | [_, _], _ => rfl) (t := t_first) (fun cdv A outer s H E hr => (ds_cons (ds_set (i := 2) sc_first.nd (de_len (T.free 112 rfl) (de_fld T.clsT false 2 (de_var 0)))) (ds_cons (ds_set (i := 3) sc_first.nd (de_call (good_magnets_of T) (hr.mono (by decide)) (da_cons (de_var 0) da_nil))) (ds_cons (ds_set (i := 4) sc_first.nd (de_call (good_moves_table T) (hr.mono (by decide)) (da_cons (de_var 0) (da_cons (de_var 3) (da_cons (de_var 1) da_nil))))) (ds_cons (ds_set (i := 5) sc_first.nd (de_ix (de_var 4) (de_fld T.clsT false 3 (de_var 0)))) (ds_cons (ds_if (tt_w (tw_or (tt_eq (de_var 5) de_int) (tw_or1 (tt_ge (de_var 5) (de_gint (T.int 141 rfl)))))) (ds_one (ds_ret (de_f (de_lst da_nil)))) ds_nil) (ds_cons (ds_for (i := 6) PassesOwn.never sc_first.nd (di_list (de_call (good_steps T) (hr.mono (by decide)) (da_cons (de_call (good_calm_table T) (hr.mono (by decide)) (da_cons (de_fld T.clsT false 1 (de_var 0)) (da_cons (de_fld T.clsT false 5 (de_var 0)) (da_cons (de_var 2) da_nil)))) (da_cons (de_var 2) (da_cons (de_var 3) (da_cons (de_fld T.clsT false 3 (de_var 0)) da_nil)))))) (t := lb_first0) (ds_one (ds_if (tt_eq (de_add (de_ix (de_var 4) (de_call (good_landed T) (hr.mono (by decide)) (da_cons (de_fld T.clsT false 3 (de_var 0)) (da_cons (de_var 6) da_nil)))) de_int) (de_var 5)) (ds_one (ds_ret (de_f (de_lst (da_cons (de_var 6) da_nil))))) ds_nil))) (ds_one (ds_ret (de_f (de_lst da_nil))))))))))) pure_first
theorem sc_spare : FnScope ["wall", "sheet", "drawer", "table"] ["wall", "sheet"] (defScope (top 121)) := ⟨rfl, rfl, rfl, by decide +kernel, rfl, by decide +kernel, by decide +kernel⟩
theorem good_spare (T : Tx K mg base) : Good P w K mg base 7 "spare" ["wall", "sheet"] (spD K f_spare) :=
  good_mk T 84 121 "spare" rfl rfl sc_spare (fun _ _ _ _ _ _ us hl => match us, hl with | [_, _], _ => rfl) (t := t_spare) (fun cdv A outer s H E hr => (ds_cons (ds_for (i := 2) PassesOwn.never sc_spare.nd (di_range (T.free 113 rfl) (de_add (de_len (T.free 112 rfl) (de_fld T.clsT false 2 (de_var 0))) de_int)) (t := lb_spare0) (ds_cons (ds_set (i := 3) sc_spare.nd (de_call (good_moves_table T) (hr.mono (by decide)) (da_cons (de_var 0) (da_cons (de_add (de_call (good_count_of T) (hr.mono (by decide)) (da_cons (de_fld T.clsT false 3 (de_var 0)) da_nil)) (de_var 2)) (da_cons (de_var 1) da_nil))))) (ds_one (ds_if (tt_lt (de_ix (de_var 3) (de_fld T.clsT false 3 (de_var 0))) (de_gint (T.int 141 rfl))) (ds_one (ds_ret (de_var 2))) ds_nil)))) (ds_one (ds_ret (de_neg de_int))))) pure_spare
theorem sc_takes : FnScope ["covers", "up", "held", "tables", "found"] ["covers", "up", "held", "tables"] (defScope (top 122)) := ⟨rfl, rfl, rfl, by decide +kernel, rfl, by decide +kernel, by decide +kernel⟩
theorem good_takes (T : Tx K mg base) : Good P w K mg base 3 "takes" ["covers", "up", "held", "tables"] (spD K f_takes) :=
  good_mk T 85 122 "takes" rfl rfl sc_takes (fun _ _ _ _ _ _ us hl => match us, hl with | [_, _, _, _], _ => rfl) (t := t_takes) (fun cdv A outer s H E hr => (ds_cons (ds_if (tt_eq (de_var 1) de_int) (ds_one (ds_ret de_int)) ds_nil) (ds_cons (ds_set (i := 4) sc_takes.nd (de_call (good_loose T) (hr.mono (by decide)) (da_cons (de_var 0) (da_cons (de_var 1) (da_cons (de_var 2) da_nil))))) (ds_cons (ds_if (tt_ne (de_len (T.free 112 rfl) (de_var 4)) de_int) (ds_one (ds_ret (de_gint (T.int 141 rfl)))) ds_nil) (ds_one (ds_ret (de_ix (de_ix (de_var 3) (de_call (good_left_out T) (hr.mono (by decide)) (da_cons (de_var 1) (da_cons (de_ix (de_var 4) de_int) da_nil)))) (de_var 2)))))))) pure_takes
theorem sc_clear_table : FnScope ["wall", "up", "tables", "width", "base", "held"] ["wall", "up", "tables"] (defScope (top 123)) := ⟨rfl, rfl, rfl, by decide +kernel, rfl, by decide +kernel, by decide +kernel⟩
theorem good_clear_table (T : Tx K mg base) : Good P w K mg base 6 "clear_table" ["wall", "up", "tables"] (spD K f_clear_table) :=
  good_mk T 86 123 "clear_table" rfl rfl sc_clear_table (fun _ _ _ _ _ _ us hl => match us, hl with | [_, _, _], _ => rfl) (t := t_clear_table) (fun cdv A outer s H E hr => (ds_cons (ds_set (i := 3) sc_clear_table.nd (de_len (T.free 112 rfl) (de_fld T.clsT false 2 (de_var 0)))) (ds_cons (ds_setLc (i := 4) sc_clear_table.nd (di_range (T.free 113 rfl) (de_ix (de_gref (T.glo 163 rfl) T.powers) (de_var 3))) (show blkC ["wall", "up", "tables", "width", "base", "held"] (defScope (top 123)) _ _ = true by decide +kernel) (fun _ _ _ _ _ => pg_name (i := 5) sc_clear_table.nd rfl (Or.inl rfl)) (fun _ _ _ _ _ => tts_nil) (fun _ _ _ _ _ => (de_call (good_takes T) (hr.mono (by decide)) (da_cons (de_fld T.clsT false 1 (de_var 0)) (da_cons (de_var 1) (da_cons (de_var 5) (da_cons (de_var 2) da_nil)))))) (hsw := sw_true rfl rfl rfl (by decide +kernel))) (ds_one (ds_ret (de_call (good_spread T) (hr.mono (by decide)) (da_cons (de_var 4) (da_cons (de_call (good_ways_table T) (hr.mono (by decide)) (da_cons (de_fld T.clsT false 1 (de_var 0)) (da_cons (de_var 1) (da_cons (de_var 3) (da_cons (de_call (good_magnets_of T) (hr.mono (by decide)) (da_cons (de_var 0) da_nil)) da_nil))))) da_nil)))))))) pure_clear_table
theorem sc_clear_moves : FnScope ["wall", "tables", "up"] ["wall"] (defScope (top 124)) := ⟨rfl, rfl, rfl, by decide +kernel, rfl, by decide +kernel, by decide +kernel⟩
theorem good_clear_moves (T : Tx K mg base) : Good P w K mg base 7 "clear_moves" ["wall"] (spD K f_clear_moves) :=
  good_mk T 87 124 "clear_moves" rfl rfl sc_clear_moves (fun _ _ _ _ _ _ us hl => match us, hl with | [_], _ => rfl) (t := t_clear_moves) (fun cdv A outer s H E hr => (ds_cons (ds_own (i := 1) sc_clear_moves.nd (de_lst da_nil)) (ds_cons (ds_for (i := 2) PassesOwn.never sc_clear_moves.nd (di_range (T.free 113 rfl) (de_add (de_fld T.clsT false 5 (de_var 0)) de_int)) (t := lb_clear_moves0) (ds_one (ds_if (tt_val (de_call (good_within T) (hr.mono (by decide)) (da_cons (de_var 2) (da_cons (de_fld T.clsT false 5 (de_var 0)) da_nil)))) (ds_one (ds_appO (i := 1) (de_call (good_clear_table T) (hr.mono (by decide)) (da_cons (de_var 0) (da_cons (de_var 2) (da_cons (de_var 1) da_nil)))))) (ds_one (ds_app (i := 1) (de_f (de_lst da_nil))))))) (ds_one (ds_ret (de_call (good_known T) (hr.mono (by decide)) (da_cons (de_ix (de_ix (de_var 1) (de_fld T.clsT false 5 (de_var 0))) (de_fld T.clsT false 3 (de_var 0))) da_nil))))))) pure_clear_moves
theorem sc_can_go : FnScope ["covers", "up", "sheet", "k"] ["covers", "up", "sheet"] (defScope (top 125)) := ⟨rfl, rfl, rfl, by decide +kernel, rfl, by decide +kernel, by decide +kernel⟩
theorem good_can_go (T : Tx K mg base) : Good P w K mg base 2 "can_go" ["covers", "up", "sheet"] (spD K f_can_go) :=
  good_mk T 88 125 "can_go" rfl rfl sc_can_go (fun _ _ _ _ _ _ us hl => match us, hl with | [_, _, _], _ => rfl) (t := t_can_go) (fun cdv A outer s H E hr => (ds_cons (ds_if (tt_not (tt_val (de_call (good_has T) (hr.mono (by decide)) (da_cons (de_var 1) (da_cons (de_var 2) da_nil))))) (ds_one (ds_ret de_bl)) ds_nil) (ds_cons (ds_for (i := 3) PassesOwn.never sc_can_go.nd (di_range (T.free 113 rfl) (de_len (T.free 112 rfl) (de_var 0))) (t := lb_can_go0) (ds_one (ds_if (tt_w (tw_and (tt_ne (de_var 3) (de_var 2)) (tw_and (tt_val (de_call (good_has T) (hr.mono (by decide)) (da_cons (de_var 1) (da_cons (de_var 3) da_nil)))) (tw_and1 (tt_val (de_call (good_within T) (hr.mono (by decide)) (da_cons (de_ix (de_var 0) (de_var 3)) (da_cons (de_ix (de_var 0) (de_var 2)) da_nil)))))))) (ds_one (ds_ret de_bl)) ds_nil))) (ds_one (ds_ret de_bl))))) pure_can_go
theorem sc_goers : FnScope ["covers", "up", "k"] ["covers", "up"] (defScope (top 126)) := ⟨rfl, rfl, rfl, by decide +kernel, rfl, by decide +kernel, by decide +kernel⟩
theorem good_goers (T : Tx K mg base) : Good P w K mg base 3 "goers" ["covers", "up"] (spD K f_goers) :=
  good_mk T 89 126 "goers" rfl rfl sc_goers (fun _ _ _ _ _ _ us hl => match us, hl with | [_, _], _ => rfl) (t := t_goers) (fun cdv A outer s H E hr => (ds_one (ds_ret (de_f (de_lc sc_goers.nd (di_range (T.free 113 rfl) (de_len (T.free 112 rfl) (de_var 0))) (show blkC ["covers", "up", "k"] (defScope (top 126)) _ _ = true by decide +kernel) (fun _ _ _ _ _ => pg_name (i := 2) sc_goers.nd rfl (Or.inl rfl)) (fun _ _ _ _ _ => tts_one (tt_val (de_call (good_can_go T) (hr.mono (by decide)) (da_cons (de_var 0) (da_cons (de_var 1) (da_cons (de_var 2) da_nil)))))) (fun _ _ _ _ _ => (de_var 2))))))) pure_goers
theorem sc_order_of : FnScope ["wall", "up", "taken", "turn", "found"] ["wall"] (defScope (top 127)) := ⟨rfl, rfl, rfl, by decide +kernel, rfl, by decide +kernel, by decide +kernel⟩
theorem good_order_of (T : Tx K mg base) : Good P w K mg base 4 "order_of" ["wall"] (spD K f_order_of) :=
  good_mk T 90 127 "order_of" rfl rfl sc_order_of (fun _ _ _ _ _ _ us hl => match us, hl with | [_], _ => rfl) (t := t_order_of) (fun cdv A outer s H E hr => (ds_cons (ds_set (i := 1) sc_order_of.nd (de_fld T.clsT false 5 (de_var 0))) (ds_cons (ds_own (i := 2) sc_order_of.nd (de_lst da_nil)) (ds_cons (ds_for (i := 3) PassesOwn.never sc_order_of.nd (di_range (T.free 113 rfl) (de_call (good_count_of T) (hr.mono (by decide)) (da_cons (de_fld T.clsT false 5 (de_var 0)) da_nil))) (t := lb_order_of0) (ds_cons (ds_set (i := 4) sc_order_of.nd (de_call (good_goers T) (hr.mono (by decide)) (da_cons (de_fld T.clsT false 1 (de_var 0)) (da_cons (de_var 1) da_nil)))) (ds_cons (ds_if (tt_eq (de_len (T.free 112 rfl) (de_var 4)) de_int) (ds_one (ds_ret (de_f (de_lst da_nil)))) ds_nil) (ds_cons (ds_app (i := 2) (de_ix (de_var 4) de_int)) (ds_one (ds_set (i := 1) sc_order_of.nd (de_call (good_left_out T) (hr.mono (by decide)) (da_cons (de_var 1) (da_cons (de_ix (de_var 4) de_int) da_nil))))))))) (ds_one (ds_ret (de_f (de_lst (da_cons (de_var 2) da_nil))))))))) pure_order_of
theorem sc_fault_octets : FnScope ["line", "problem"] ["line", "problem"] (defScope (top 129)) := ⟨rfl, rfl, rfl, by decide +kernel, rfl, by decide +kernel, by decide +kernel⟩
theorem good_fault_octets (T : Tx K mg base) : Good P w K mg base 2 "fault_octets" ["line", "problem"] (spD K f_fault_octets) :=
  good_mk T 91 129 "fault_octets" rfl rfl sc_fault_octets (fun _ _ _ _ _ _ us hl => match us, hl with | [_, _], _ => rfl) (t := t_fault_octets) (fun cdv A outer s H E hr => (ds_one (ds_ret (de_f (de_cat (de_call (good_number_octets T) (hr.mono (by decide)) (da_cons (de_var 0) da_nil)) (de_f (de_lst (da_cons (de_var 1) da_nil)))))))) pure_fault_octets
theorem sc_refusal : FnScope ["text", "line", "problem", "script"] ["text"] (defScope (top 130)) := ⟨rfl, rfl, rfl, by decide +kernel, rfl, by decide +kernel, by decide +kernel⟩
theorem good_refusal (T : Tx K mg base) : Good P w K mg base 9 "refusal" ["text"] (spD K f_refusal) :=
  good_mk T 92 130 "refusal" rfl rfl sc_refusal (fun _ _ _ _ _ _ us hl => match us, hl with | [_], _ => rfl) (t := t_refusal) (fun cdv A outer s H E hr => (ds_cons (ds_if (tt_gt (de_len (T.free 112 rfl) (de_var 0)) de_int) (ds_one (ds_ret (de_f (de_lst (da_cons de_int (da_cons de_int da_nil)))))) ds_nil) (ds_cons (ds_unp (i := 1) (j := 2) (k := 3) sc_refusal.nd (de_call (good_read_text T) (hr.mono (by decide)) (da_cons (de_var 0) da_nil))) (ds_cons (ds_if (tt_gt (de_var 2) de_int) (ds_one (ds_ret (de_f (de_cat (de_f (de_lst (da_cons de_int (da_cons de_int da_nil)))) (de_call (good_fault_octets T) (hr.mono (by decide)) (da_cons (de_var 1) (da_cons (de_var 2) da_nil))))))) ds_nil) (ds_cons (ds_if (tt_val (de_call (good_fallen T) (hr.mono (by decide)) (da_cons (de_fld T.clsT true 0 (de_var 3)) da_nil))) (ds_one (ds_ret (de_f (de_lst (da_cons de_int (da_cons de_int da_nil)))))) ds_nil) (ds_one (ds_ret (de_f (de_lst da_nil))))))))) pure_refusal
theorem sc_check_answer : FnScope ["text", "line", "problem", "script"] ["text"] (defScope (top 131)) := ⟨rfl, rfl, rfl, by decide +kernel, rfl, by decide +kernel, by decide +kernel⟩
theorem good_check_answer (T : Tx K mg base) : Good P w K mg base 9 "check_answer" ["text"] (spD K f_check_answer) :=
  good_mk T 93 131 "check_answer" rfl rfl sc_check_answer (fun _ _ _ _ _ _ us hl => match us, hl with | [_], _ => rfl) (t := t_check_answer) (fun cdv A outer s H E hr => (ds_cons (ds_if (tt_gt (de_len (T.free 112 rfl) (de_var 0)) de_int) (ds_one (ds_ret (de_f (de_lst (da_cons de_int (da_cons de_int da_nil)))))) ds_nil) (ds_cons (ds_unp (i := 1) (j := 2) (k := 3) sc_check_answer.nd (de_call (good_read_text T) (hr.mono (by decide)) (da_cons (de_var 0) da_nil))) (ds_cons (ds_if (tt_gt (de_var 2) de_int) (ds_one (ds_ret (de_f (de_cat (de_f (de_lst (da_cons de_int (da_cons de_int da_nil)))) (de_call (good_fault_octets T) (hr.mono (by decide)) (da_cons (de_var 1) (da_cons (de_var 2) da_nil))))))) ds_nil) (ds_one (ds_ret (de_f (de_lst (da_cons de_int (da_cons de_int da_nil)))))))))) pure_check_answer
theorem sc_canonical_answer : FnScope ["text", "line", "problem", "script"] ["text"] (defScope (top 132)) := ⟨rfl, rfl, rfl, by decide +kernel, rfl, by decide +kernel, by decide +kernel⟩
theorem good_canonical_answer (T : Tx K mg base) : Good P w K mg base 9 "canonical_answer" ["text"] (spD K f_canonical_answer) :=
  good_mk T 94 132 "canonical_answer" rfl rfl sc_canonical_answer (fun _ _ _ _ _ _ us hl => match us, hl with | [_], _ => rfl) (t := t_canonical_answer) (fun cdv A outer s H E hr => (ds_cons (ds_if (tt_gt (de_len (T.free 112 rfl) (de_var 0)) de_int) (ds_one (ds_ret (de_f (de_lst (da_cons de_int (da_cons de_int da_nil)))))) ds_nil) (ds_cons (ds_unp (i := 1) (j := 2) (k := 3) sc_canonical_answer.nd (de_call (good_read_text T) (hr.mono (by decide)) (da_cons (de_var 0) da_nil))) (ds_cons (ds_if (tt_gt (de_var 2) de_int) (ds_one (ds_ret (de_f (de_cat (de_f (de_lst (da_cons de_int (da_cons de_int da_nil)))) (de_call (good_fault_octets T) (hr.mono (by decide)) (da_cons (de_var 1) (da_cons (de_var 2) da_nil))))))) ds_nil) (ds_one (ds_ret (de_f (de_cat (de_f (de_lst (da_cons de_int da_nil))) (de_call (good_text_octets T) (hr.mono (by decide)) (da_cons (de_call (good_canonical T) (hr.mono (by decide)) (da_cons (de_var 3) da_nil)) da_nil)))))))))) pure_canonical_answer
theorem sc_step_line : FnScope ["wall", "step", "kind", "s", "t", "row"] ["wall", "step"] (defScope (top 133)) := ⟨rfl, rfl, rfl, by decide +kernel, rfl, by decide +kernel, by decide +kernel⟩
theorem good_step_line (T : Tx K mg base) : Good P w K mg base 2 "step_line" ["wall", "step"] (spD K f_step_line) :=
  good_mk T 95 133 "step_line" rfl rfl sc_step_line (fun _ _ _ _ _ _ us hl => match us, hl with | [_, _], _ => rfl) (t := t_step_line) (fun cdv A outer s H E hr => (ds_cons (ds_unp (i := 2) (j := 3) (k := 4) sc_step_line.nd (de_var 1)) (ds_cons (ds_own (i := 5) sc_step_line.nd (de_lst (da_cons (de_call (good_letters_of T) (hr.mono (by decide)) (da_cons (de_ix (de_gref (T.glo 161 rfl) T.keys) (de_var 2)) da_nil)) (da_cons (de_ix (de_fld T.clsT false 2 (de_var 0)) (de_var 3)) da_nil)))) (ds_cons (ds_if (tt_eq (de_var 2) (de_gint (T.int 121 rfl))) (ds_one (ds_app (i := 5) (de_ix (de_fld T.clsT false 2 (de_var 0)) (de_var 4)))) ds_nil) (ds_one (ds_ret (de_call (good_spaced T) (hr.mono (by decide)) (da_cons (de_var 5) da_nil)))))))) pure_step_line
theorem sc_sheet_answer : FnScope ["kind", "wall", "name", "sheet", "step"] ["kind", "wall", "name"] (defScope (top 134)) := ⟨rfl, rfl, rfl, by decide +kernel, rfl, by decide +kernel, by decide +kernel⟩
theorem good_sheet_answer (T : Tx K mg base) : Good P w K mg base 8 "sheet_answer" ["kind", "wall", "name"] (spD K f_sheet_answer) :=
  good_mk T 96 134 "sheet_answer" rfl rfl sc_sheet_answer (fun _ _ _ _ _ _ us hl => match us, hl with | [_, _, _], _ => rfl) (t := t_sheet_answer) (fun cdv A outer s H E hr => (ds_cons (ds_set (i := 3) sc_sheet_answer.nd (de_call (good_place_of T) (hr.mono (by decide)) (da_cons (de_fld T.clsT false 0 (de_var 1)) (da_cons (de_var 2) da_nil)))) (ds_cons (ds_if (tt_lt (de_var 3) de_int) (ds_one (ds_ret (de_f (de_lst (da_cons de_int (da_cons de_int da_nil)))))) ds_nil) (ds_cons (ds_if (tt_not (tt_val (de_call (good_has T) (hr.mono (by decide)) (da_cons (de_fld T.clsT false 5 (de_var 1)) (da_cons (de_var 3) da_nil))))) (ds_one (ds_ret (de_f (de_lst (da_cons de_int (da_cons de_int da_nil)))))) ds_nil) (ds_cons (ds_if (tt_eq (de_var 0) de_int) (ds_one (ds_ret (de_f (de_cat (de_f (de_lst (da_cons de_int da_nil))) (de_call (good_option_number T) (hr.mono (by decide)) (da_cons (de_call (good_fewest T) (hr.mono (by decide)) (da_cons (de_var 1) (da_cons (de_var 3) da_nil))) da_nil)))))) ds_nil) (ds_cons (ds_if (tt_eq (de_var 0) de_int) (ds_one (ds_ret (de_f (de_cat (de_f (de_lst (da_cons de_int da_nil))) (de_call (good_option_text T) (hr.mono (by decide)) (da_cons (de_f (de_lc sc_sheet_answer.nd (di_list (de_call (good_first T) (hr.mono (by decide)) (da_cons (de_var 1) (da_cons (de_var 3) da_nil)))) (show blkC ["kind", "wall", "name", "sheet", "step"] (defScope (top 134)) _ _ = true by decide +kernel) (fun _ _ _ _ _ => pg_name (i := 4) sc_sheet_answer.nd rfl (Or.inl rfl)) (fun _ _ _ _ _ => tts_nil) (fun _ _ _ _ _ => (de_call (good_step_line T) (hr.mono (by decide)) (da_cons (de_var 1) (da_cons (de_var 4) da_nil)))))) da_nil)))))) ds_nil) (ds_one (ds_ret (de_f (de_cat (de_f (de_lst (da_cons de_int da_nil))) (de_call (good_option_number T) (hr.mono (by decide)) (da_cons (de_call (good_spare T) (hr.mono (by decide)) (da_cons (de_var 1) (da_cons (de_var 3) da_nil))) da_nil)))))))))))) pure_sheet_answer
theorem sc_names_of : FnScope ["wall", "sheets", "k"] ["wall", "sheets"] (defScope (top 135)) := ⟨rfl, rfl, rfl, by decide +kernel, rfl, by decide +kernel, by decide +kernel⟩
theorem good_names_of (T : Tx K mg base) : Good P w K mg base 1 "names_of" ["wall", "sheets"] (spD K f_names_of) :=
  good_mk T 97 135 "names_of" rfl rfl sc_names_of (fun _ _ _ _ _ _ us hl => match us, hl with | [_, _], _ => rfl) (t := t_names_of) (fun cdv A outer s H E hr => (ds_one (ds_ret (de_f (de_lc sc_names_of.nd (di_list (de_var 1)) (show blkC ["wall", "sheets", "k"] (defScope (top 135)) _ _ = true by decide +kernel) (fun _ _ _ _ _ => pg_name (i := 2) sc_names_of.nd rfl (Or.inl rfl)) (fun _ _ _ _ _ => tts_nil) (fun _ _ _ _ _ => (de_ix (de_fld T.clsT false 0 (de_var 0)) (de_var 2)))))))) pure_names_of
theorem sc_wall_answer : FnScope ["kind", "wall", "sheets"] ["kind", "wall"] (defScope (top 136)) := ⟨rfl, rfl, rfl, by decide +kernel, rfl, by decide +kernel, by decide +kernel⟩
theorem good_wall_answer (T : Tx K mg base) : Good P w K mg base 8 "wall_answer" ["kind", "wall"] (spD K f_wall_answer) :=
  good_mk T 98 136 "wall_answer" rfl rfl sc_wall_answer (fun _ _ _ _ _ _ us hl => match us, hl with | [_, _], _ => rfl) (t := t_wall_answer) (fun cdv A outer s H E hr => (ds_cons (ds_if (tt_eq (de_var 0) de_int) (ds_one (ds_ret (de_f (de_cat (de_f (de_lst (da_cons de_int da_nil))) (de_call (good_option_text T) (hr.mono (by decide)) (da_cons (de_call (good_hand T) (hr.mono (by decide)) (da_cons (de_var 1) da_nil)) da_nil)))))) ds_nil) (ds_cons (ds_if (tt_eq (de_var 0) de_int) (ds_one (ds_ret (de_f (de_cat (de_f (de_lst (da_cons de_int da_nil))) (de_call (good_texts_octets T) (hr.mono (by decide)) (da_cons (de_call (good_names_of T) (hr.mono (by decide)) (da_cons (de_var 1) (da_cons (de_call (good_goers T) (hr.mono (by decide)) (da_cons (de_fld T.clsT false 1 (de_var 1)) (da_cons (de_fld T.clsT false 5 (de_var 1)) da_nil))) da_nil))) da_nil)))))) ds_nil) (ds_cons (ds_if (tt_eq (de_var 0) de_int) (ds_one (ds_ret (de_f (de_cat (de_f (de_lst (da_cons de_int da_nil))) (de_call (good_option_number T) (hr.mono (by decide)) (da_cons (de_call (good_clear_moves T) (hr.mono (by decide)) (da_cons (de_var 1) da_nil)) da_nil)))))) ds_nil) (ds_one (ds_ret (de_f (de_cat (de_f (de_lst (da_cons de_int da_nil))) (de_call (good_option_texts T) (hr.mono (by decide)) (da_cons (de_f (de_lc sc_wall_answer.nd (di_list (de_call (good_order_of T) (hr.mono (by decide)) (da_cons (de_var 1) da_nil))) (show blkC ["kind", "wall", "sheets"] (defScope (top 136)) _ _ = true by decide +kernel) (fun _ _ _ _ _ => pg_name (i := 2) sc_wall_answer.nd rfl (Or.inl rfl)) (fun _ _ _ _ _ => tts_nil) (fun _ _ _ _ _ => (de_call (good_names_of T) (hr.mono (by decide)) (da_cons (de_var 1) (da_cons (de_var 2) da_nil)))))) da_nil)))))))))) pure_wall_answer
theorem sc_text_answer : FnScope ["kind", "octets", "starts", "text", "refused", "line", "problem", "script"] ["kind", "octets", "starts"] (defScope (top 137)) := ⟨rfl, rfl, rfl, by decide +kernel, rfl, by decide +kernel, by decide +kernel⟩
theorem good_text_answer (T : Tx K mg base) : Good P w K mg base 10 "text_answer" ["kind", "octets", "starts"] (spD K f_text_answer) :=
  good_mk T 99 137 "text_answer" rfl rfl sc_text_answer (fun _ _ _ _ _ _ us hl => match us, hl with | [_, _, _], _ => rfl) (t := t_text_answer) (fun cdv A outer s H E hr => (ds_cons (ds_set (i := 3) sc_text_answer.nd (de_call (good_text_at T) (hr.mono (by decide)) (da_cons (de_var 1) (da_cons (de_ix (de_var 2) de_int) da_nil)))) (ds_cons (ds_if (tt_eq (de_var 0) de_int) (ds_one (ds_ret (de_call (good_check_answer T) (hr.mono (by decide)) (da_cons (de_var 3) da_nil)))) ds_nil) (ds_cons (ds_if (tt_eq (de_var 0) de_int) (ds_one (ds_ret (de_call (good_canonical_answer T) (hr.mono (by decide)) (da_cons (de_var 3) da_nil)))) ds_nil) (ds_cons (ds_set (i := 4) sc_text_answer.nd (de_call (good_refusal T) (hr.mono (by decide)) (da_cons (de_var 3) da_nil))) (ds_cons (ds_if (tt_gt (de_len (T.free 112 rfl) (de_var 4)) de_int) (ds_one (ds_ret (de_var 4))) ds_nil) (ds_cons (ds_unp (i := 5) (j := 6) (k := 7) sc_text_answer.nd (de_call (good_read_text T) (hr.mono (by decide)) (da_cons (de_var 3) da_nil))) (ds_cons (ds_if (tt_in (de_var 0) (de_tup (da_cons de_int (da_cons de_int (da_cons de_int da_nil))))) (ds_one (ds_ret (de_call (good_sheet_answer T) (hr.mono (by decide)) (da_cons (de_var 0) (da_cons (de_fld T.clsT true 0 (de_var 7)) (da_cons (de_call (good_text_at T) (hr.mono (by decide)) (da_cons (de_var 1) (da_cons (de_ix (de_var 2) de_int) da_nil))) da_nil)))))) ds_nil) (ds_one (ds_ret (de_call (good_wall_answer T) (hr.mono (by decide)) (da_cons (de_var 0) (da_cons (de_fld T.clsT true 0 (de_var 7)) da_nil))))))))))))) pure_text_answer
theorem sc_panel_answer : FnScope ["session", "place", "text", "refused", "line", "problem", "script"] ["session", "place", "text"] (defScope (top 140)) := ⟨rfl, rfl, rfl, by decide +kernel, rfl, by decide +kernel, by decide +kernel⟩
theorem good_panel_answer (T : Tx K mg base) : Good P w K mg base 10 "panel_answer" ["session", "place", "text"] (spS K f_panel_answer) :=
  good_mkS T 100 140 "panel_answer" rfl rfl sc_panel_answer (by decide) (fun _ _ _ _ _ _ us hl => match us, hl with | [_, _, _], _ => rfl) (t := t_panel_answer) (fun cdv A outer s H E hr => (ds_cons (ds_if (tt_gt (de_var 1) de_int) (ds_one (ds_ret (de_f (de_lst (da_cons de_int (da_cons de_int da_nil)))))) ds_nil) (ds_cons (ds_set (i := 3) sc_panel_answer.nd (de_call (good_refusal T) (hr.mono (by decide)) (da_cons (de_var 2) da_nil))) (ds_cons (ds_if (tt_gt (de_len (T.free 112 rfl) (de_var 3)) de_int) (ds_one (ds_ret (de_var 3))) ds_nil) (ds_cons (ds_unp (i := 4) (j := 5) (k := 6) sc_panel_answer.nd (de_call (good_read_text T) (hr.mono (by decide)) (da_cons (de_var 2) da_nil))) (ds_cons (dx_expr (dx_meth (i := 0) T (good_stand T) (He.meth_ok (T.fact 149 rfl)) (hr.mono (by decide)) (da_cons (de_var 1) (da_cons (de_f (de_lst (da_cons (de_var 6) da_nil))) da_nil)))) (ds_one (ds_ret (de_f (de_lst (da_cons de_int da_nil))))))))))) len_panel_answer pure_panel_answer
theorem sc_play_answer : FnScope ["session", "place", "line", "scripts", "script", "problem", "later"] ["session", "place", "line"] (defScope (top 141)) := ⟨rfl, rfl, rfl, by decide +kernel, rfl, by decide +kernel, by decide +kernel⟩
theorem good_play_answer (T : Tx K mg base) : Good P w K mg base 9 "play_answer" ["session", "place", "line"] (spS K f_play_answer) :=
  good_mkS T 101 141 "play_answer" rfl rfl sc_play_answer (by decide) (fun _ _ _ _ _ _ us hl => match us, hl with | [_, _, _], _ => rfl) (t := t_play_answer) (fun cdv A outer s H E hr => (ds_cons (dx_set (i := 3) sc_play_answer.nd (dx_meth (i := 0) T (good_scripts_at T) (He.meth_ok (T.fact 148 rfl)) (hr.mono (by decide)) (da_cons (de_var 1) da_nil))) (ds_cons (ds_if (tt_eq (de_len (T.free 112 rfl) (de_var 3)) de_int) (ds_one (ds_ret (de_f (de_lst (da_cons de_int (da_cons de_int da_nil)))))) ds_nil) (ds_cons (ds_set (i := 4) sc_play_answer.nd (de_ix (de_var 3) (de_sub (de_len (T.free 112 rfl) (de_var 3)) de_int))) (ds_cons (ds_set (i := 5) sc_play_answer.nd (de_call (good_act_problem T) (hr.mono (by decide)) (da_cons (de_var 4) (da_cons (de_var 2) da_nil)))) (ds_cons (ds_if (tt_lt (de_var 5) de_int) (ds_one (ds_ret (de_f (de_lst (da_cons de_int (da_cons de_int da_nil)))))) ds_nil) (ds_cons (ds_if (tt_gt (de_var 5) de_int) (ds_one (ds_ret (de_f (de_lst (da_cons de_int (da_cons de_int (da_cons (de_var 5) da_nil))))))) ds_nil) (ds_cons (ds_set (i := 6) sc_play_answer.nd (de_call (good_script_with T) (hr.mono (by decide)) (da_cons (de_var 4) (da_cons (de_var 2) da_nil)))) (ds_cons (dx_expr (dx_meth (i := 0) T (good_stand T) (He.meth_ok (T.fact 149 rfl)) (hr.mono (by decide)) (da_cons (de_var 1) (da_cons (de_f (de_cat (de_var 3) (de_f (de_lst (da_cons (de_var 6) da_nil))))) da_nil)))) (ds_one (ds_ret (de_f (de_cat (de_f (de_lst (da_cons de_int da_nil))) (de_call (good_option_text T) (hr.mono (by decide)) (da_cons (de_call (good_hand T) (hr.mono (by decide)) (da_cons (de_fld T.clsT true 0 (de_var 6)) da_nil)) da_nil))))))))))))))) len_play_answer pure_play_answer
theorem sc_undo_answer : FnScope ["session", "place", "scripts"] ["session", "place"] (defScope (top 142)) := ⟨rfl, rfl, rfl, by decide +kernel, rfl, by decide +kernel, by decide +kernel⟩
theorem good_undo_answer (T : Tx K mg base) : Good P w K mg base 2 "undo_answer" ["session", "place"] (spS K f_undo_answer) :=
  good_mkS T 102 142 "undo_answer" rfl rfl sc_undo_answer (by decide) (fun _ _ _ _ _ _ us hl => match us, hl with | [_, _], _ => rfl) (t := t_undo_answer) (fun cdv A outer s H E hr => (ds_cons (dx_set (i := 2) sc_undo_answer.nd (dx_meth (i := 0) T (good_scripts_at T) (He.meth_ok (T.fact 148 rfl)) (hr.mono (by decide)) (da_cons (de_var 1) da_nil))) (ds_cons (ds_if (tt_eq (de_len (T.free 112 rfl) (de_var 2)) de_int) (ds_one (ds_ret (de_f (de_lst (da_cons de_int (da_cons de_int da_nil)))))) ds_nil) (ds_cons (ds_if (tt_eq (de_len (T.free 112 rfl) (de_var 2)) de_int) (ds_one (ds_ret (de_f (de_lst (da_cons de_int (da_cons de_int da_nil)))))) ds_nil) (ds_cons (dx_expr (dx_meth (i := 0) T (good_stand T) (He.meth_ok (T.fact 149 rfl)) (hr.mono (by decide)) (da_cons (de_var 1) (da_cons (de_f (de_sl (de_var 2) do_none (do_some (de_sub (de_len (T.free 112 rfl) (de_var 2)) de_int)))) da_nil)))) (ds_one (ds_ret (de_f (de_lst (da_cons de_int (da_cons de_int da_nil))))))))))) len_undo_answer pure_undo_answer
theorem sc_look_answer : FnScope ["session", "place", "scripts", "script", "wall"] ["session", "place"] (defScope (top 143)) := ⟨rfl, rfl, rfl, by decide +kernel, rfl, by decide +kernel, by decide +kernel⟩
theorem good_look_answer (T : Tx K mg base) : Good P w K mg base 4 "look_answer" ["session", "place"] (spS K f_look_answer) :=
  good_mkS T 103 143 "look_answer" rfl rfl sc_look_answer (by decide) (fun _ _ _ _ _ _ us hl => match us, hl with | [_, _], _ => rfl) (t := t_look_answer) (fun cdv A outer s H E hr => (ds_cons (dx_set (i := 2) sc_look_answer.nd (dx_meth (i := 0) T (good_scripts_at T) (He.meth_ok (T.fact 148 rfl)) (hr.mono (by decide)) (da_cons (de_var 1) da_nil))) (ds_cons (ds_if (tt_eq (de_len (T.free 112 rfl) (de_var 2)) de_int) (ds_one (ds_ret (de_f (de_lst (da_cons de_int (da_cons de_int da_nil)))))) ds_nil) (ds_cons (ds_set (i := 3) sc_look_answer.nd (de_ix (de_var 2) (de_sub (de_len (T.free 112 rfl) (de_var 2)) de_int))) (ds_cons (ds_set (i := 4) sc_look_answer.nd (de_fld T.clsT true 0 (de_var 3))) (ds_one (ds_ret (de_f (de_cat (de_f (de_cat (de_f (de_cat (de_f (de_lst (da_cons de_int da_nil))) (de_call (good_option_text T) (hr.mono (by decide)) (da_cons (de_call (good_hand T) (hr.mono (by decide)) (da_cons (de_var 4) da_nil)) da_nil)))) (de_call (good_texts_octets T) (hr.mono (by decide)) (da_cons (de_call (good_names_up T) (hr.mono (by decide)) (da_cons (de_var 4) da_nil)) da_nil)))) (de_call (good_text_octets T) (hr.mono (by decide)) (da_cons (de_call (good_canonical T) (hr.mono (by decide)) (da_cons (de_var 3) da_nil)) da_nil))))))))))) len_look_answer pure_look_answer
theorem sc_trial_answer : FnScope ["session", "place", "lines", "scripts", "script", "told", "k", "problem"] ["session", "place", "lines"] (defScope (top 144)) := ⟨rfl, rfl, rfl, by decide +kernel, rfl, by decide +kernel, by decide +kernel⟩
theorem good_trial_answer (T : Tx K mg base) : Good P w K mg base 9 "trial_answer" ["session", "place", "lines"] (spS K f_trial_answer) :=
  good_mkS T 104 144 "trial_answer" rfl rfl sc_trial_answer (by decide) (fun _ _ _ _ _ _ us hl => match us, hl with | [_, _, _], _ => rfl) (t := t_trial_answer) (fun cdv A outer s H E hr => (ds_cons (dx_set (i := 3) sc_trial_answer.nd (dx_meth (i := 0) T (good_scripts_at T) (He.meth_ok (T.fact 148 rfl)) (hr.mono (by decide)) (da_cons (de_var 1) da_nil))) (ds_cons (ds_if (tt_eq (de_len (T.free 112 rfl) (de_var 3)) de_int) (ds_one (ds_ret (de_f (de_lst (da_cons de_int (da_cons de_int da_nil)))))) ds_nil) (ds_cons (ds_set (i := 4) sc_trial_answer.nd (de_ix (de_var 3) (de_sub (de_len (T.free 112 rfl) (de_var 3)) de_int))) (ds_cons (ds_own (i := 5) sc_trial_answer.nd (de_cat (de_f (de_lst (da_cons de_int da_nil))) (de_call (good_number_octets T) (hr.mono (by decide)) (da_cons (de_len (T.free 112 rfl) (de_var 2)) da_nil)))) (ds_cons (ds_for (i := 6) PassesOwn.never sc_trial_answer.nd (di_range (T.free 113 rfl) (de_len (T.free 112 rfl) (de_var 2))) (t := lb_trial_answer0) (ds_cons (ds_set (i := 7) sc_trial_answer.nd (de_call (good_act_problem T) (hr.mono (by decide)) (da_cons (de_var 4) (da_cons (de_ix (de_var 2) (de_var 6)) da_nil)))) (ds_cons (ds_if (tt_lt (de_var 7) de_int) (ds_one (ds_ret (de_f (de_cat (de_f (de_lst (da_cons de_int (da_cons de_int da_nil)))) (de_call (good_number_octets T) (hr.mono (by decide)) (da_cons (de_var 6) da_nil)))))) ds_nil) (ds_cons (ds_if (tt_gt (de_var 7) de_int) (ds_one (ds_ret (de_f (de_cat (de_f (de_cat (de_f (de_lst (da_cons de_int (da_cons de_int da_nil)))) (de_call (good_number_octets T) (hr.mono (by decide)) (da_cons (de_var 6) da_nil)))) (de_f (de_lst (da_cons (de_var 7) da_nil))))))) ds_nil) (ds_cons (ds_set (i := 4) sc_trial_answer.nd (de_call (good_script_with T) (hr.mono (by decide)) (da_cons (de_var 4) (da_cons (de_ix (de_var 2) (de_var 6)) da_nil)))) (ds_one (ds_ext (i := 5) (de_call (good_option_text T) (hr.mono (by decide)) (da_cons (de_call (good_hand T) (hr.mono (by decide)) (da_cons (de_fld T.clsT true 0 (de_var 4)) da_nil)) da_nil))))))))) (ds_one (ds_ret (de_var 5))))))))) len_trial_answer pure_trial_answer
theorem sc_place_answer : FnScope ["session", "kind", "octets", "starts", "place"] ["session", "kind", "octets", "starts"] (defScope (top 145)) := ⟨rfl, rfl, rfl, by decide +kernel, rfl, by decide +kernel, by decide +kernel⟩
theorem good_place_answer (T : Tx K mg base) : Good P w K mg base 11 "place_answer" ["session", "kind", "octets", "starts"] (spS K f_place_answer) :=
  good_mkS T 105 145 "place_answer" rfl rfl sc_place_answer (by decide) (fun _ _ _ _ _ _ us hl => match us, hl with | [_, _, _, _], _ => rfl) (t := t_place_answer) (fun cdv A outer s H E hr => (ds_cons (ds_set (i := 4) sc_place_answer.nd (de_call (good_number_at T) (hr.mono (by decide)) (da_cons (de_var 2) (da_cons (de_ix (de_var 3) de_int) da_nil)))) (ds_cons (ds_if (tt_eq (de_var 1) de_int) (ds_one (dx_ret (dx_call (i := 0) (good_panel_answer T) (hr.mono (by decide)) (da_cons (de_var 4) (da_cons (de_call (good_text_at T) (hr.mono (by decide)) (da_cons (de_var 2) (da_cons (de_ix (de_var 3) de_int) da_nil))) da_nil))))) ds_nil) (ds_cons (ds_if (tt_eq (de_var 1) de_int) (ds_one (dx_ret (dx_call (i := 0) (good_play_answer T) (hr.mono (by decide)) (da_cons (de_var 4) (da_cons (de_call (good_text_at T) (hr.mono (by decide)) (da_cons (de_var 2) (da_cons (de_ix (de_var 3) de_int) da_nil))) da_nil))))) ds_nil) (ds_cons (ds_if (tt_eq (de_var 1) de_int) (ds_one (dx_ret (dx_call (i := 0) (good_undo_answer T) (hr.mono (by decide)) (da_cons (de_var 4) da_nil)))) ds_nil) (ds_cons (ds_if (tt_eq (de_var 1) de_int) (ds_one (dx_ret (dx_call (i := 0) (good_look_answer T) (hr.mono (by decide)) (da_cons (de_var 4) da_nil)))) ds_nil) (ds_one (dx_ret (dx_call (i := 0) (good_trial_answer T) (hr.mono (by decide)) (da_cons (de_var 4) (da_cons (de_call (good_texts_at T) (hr.mono (by decide)) (da_cons (de_var 2) (da_cons (de_ix (de_var 3) de_int) da_nil))) da_nil))))))))))) len_place_answer pure_place_answer
theorem sc_reply : FnScope ["session", "octets", "starts"] ["session", "octets"] (defScope (top 147)) := ⟨rfl, rfl, rfl, by decide +kernel, rfl, by decide +kernel, by decide +kernel⟩
theorem good_reply (T : Tx K mg base) : Good P w K mg base 12 "reply" ["session", "octets"] (spS K f_reply) :=
  good_mkS T 106 147 "reply" rfl rfl sc_reply (by decide) (fun _ _ _ _ _ _ us hl => match us, hl with | [_, _], _ => rfl) (t := t_reply) (fun cdv A outer s H E hr => (ds_cons (ds_set (i := 2) sc_reply.nd (de_call (good_starts_of T) (hr.mono (by decide)) (da_cons (de_var 1) da_nil))) (ds_cons (ds_if (tt_eq (de_len (T.free 112 rfl) (de_var 2)) de_int) (ds_one (ds_ret (de_f (de_lst (da_cons de_int (da_cons de_int da_nil)))))) ds_nil) (ds_cons (ds_if (tt_le (de_ix (de_var 1) de_int) de_int) (ds_one (ds_ret (de_call (good_text_answer T) (hr.mono (by decide)) (da_cons (de_ix (de_var 1) de_int) (da_cons (de_var 1) (da_cons (de_var 2) da_nil)))))) ds_nil) (ds_one (dx_ret (dx_call (i := 0) (good_place_answer T) (hr.mono (by decide)) (da_cons (de_ix (de_var 1) de_int) (da_cons (de_var 1) (da_cons (de_var 2) da_nil)))))))))) len_reply pure_reply
theorem sc_requests_of : FnScope ["calls", "found", "at", "end"] ["calls"] (defScope (top 148)) := ⟨rfl, rfl, rfl, by decide +kernel, rfl, by decide +kernel, by decide +kernel⟩
theorem good_requests_of (T : Tx K mg base) : Good P w K mg base 1 "requests_of" ["calls"] (spD K f_requests_of) :=
  good_mk T 107 148 "requests_of" rfl rfl sc_requests_of (fun _ _ _ _ _ _ us hl => match us, hl with | [_], _ => rfl) (t := t_requests_of) (fun cdv A outer s H E hr => (ds_cons (ds_own (i := 1) sc_requests_of.nd (de_lst da_nil)) (ds_cons (ds_set (i := 2) sc_requests_of.nd de_int) (ds_cons (ds_while PassesOwn.never (tt_lt (de_var 2) (de_len (T.free 112 rfl) (de_var 0))) (ds_cons (ds_set (i := 3) sc_requests_of.nd (de_add (de_add (de_var 2) de_int) (de_ix (de_var 0) (de_add (de_var 2) de_int)))) (ds_cons (ds_app (i := 1) (de_f (de_sl (de_var 0) (do_some (de_add (de_var 2) de_int)) (do_some (de_var 3))))) (ds_one (ds_set (i := 2) sc_requests_of.nd (de_var 3)))))) (ds_one (ds_ret (de_var 1))))))) pure_requests_of
theorem sc_answers : FnScope ["calls", "session", "told", "octets", "answer"] ["calls"] (defScope (top 149)) := ⟨rfl, rfl, rfl, by decide +kernel, rfl, by decide +kernel, by decide +kernel⟩
theorem good_answers (T : Tx K mg base) : Good P w K mg base 13 "answers" ["calls"] (spD K f_answers) :=
  good_mk T 108 149 "answers" rfl rfl sc_answers (fun _ _ _ _ _ _ us hl => match us, hl with | [_], _ => rfl) (t := t_answers) (fun cdv A outer s H E hr => (ds_cons (ds_ses (i := 1) T (hr.mono (by decide)) sc_answers.nd) (ds_cons (ds_own (i := 2) sc_answers.nd (de_lst da_nil)) (ds_cons (ds_for (i := 3) PassesOwn.never sc_answers.nd (di_list (de_call (good_requests_of T) (hr.mono (by decide)) (da_cons (de_var 0) da_nil))) (t := lb_answers0) (ds_cons (dx_set (i := 4) sc_answers.nd (dx_call (i := 1) (good_reply T) (hr.mono (by decide)) (da_cons (de_var 3) da_nil))) (ds_cons (ds_app (i := 2) (de_len (T.free 112 rfl) (de_var 4))) (ds_one (ds_ext (i := 2) (de_var 4)))))) (ds_one (ds_ret (de_var 2))))))) pure_answers
end PW
set_option Elab.async false
set_option linter.all false
set_option maxRecDepth 100000
set_option maxHeartbeats 0
namespace PW
open PySem PySem.Spec PyProof.Rows L2
open PySem.W (Codec OpenSpec)
theorem walk_specE {r : OpenSpec} {k : Nat} {q : Program} {loose : List Str} {XP : (Str → Option Value) → Heap → Prop} {YP : World → Heap → Prop} {d : DefRec} {CX : CXT} {ps : List Str} {sp : PySem.W.Frag → Sp}
    (hwell : r.wellSaid = true) (hlen : r.args.length = ps.length) (hr : Room k callerA)
    (F : ∀ (w : World) (mg : Str → Option Value) (fa : Addr) (h : Heap), YP w h → h.Ns mainGlobals mg → mg d.name = some (.ref fa) →
      ∃ K : PySem.W.Frag, K.In h ∧ ∃ fd : FuncData, (∀ (s : Shared) (us : List Value), us.length = ps.length → BindsTo s fd ⟨us, []⟩ (ps.zip us)) ∧
        ∀ base : Heap, K.In base → base.Ns mainGlobals mg → FnOk r.prog w K mg base CX k fa fd ps (sp K))
    (hsp : ∀ (K : PySem.W.Frag) (H : Hp) (xs : List V) (a : Codec.denoteAll r.args), OnlyF H → Codec.withinAll r.args a = true → Codec.app r.args r.asked a = true → DwAll K H xs (Codec.encAll r.args a) →
      sp K xs H (fun v H' => Dw K H' v (r.ret.enc (Codec.app r.args r.f a))) fun _ _ _ => False)
    (hCX : ∀ (H : Hp) (s : Shared) (e : Value) (s' : Shared), CX [] H s (fun _ _ _ => False) e s' → False) :
    PySem.W.WalkOS q loose XP YP r d [] (fun f vs => PySem.call f vs) := by
  intro w s₀ s₁ mg mb G Y fa o pm cd doc dV kV ho hd hcd hD hmg hg args vals as hpre hlay hrd hwl hlo
  obtain ⟨a, e1, e2⟩ := PySem.W.os_pre_some hpre
  obtain ⟨e3, hwi⟩ := Codec.encAll_of_decAll r.args args a e1
  subst e3
  obtain ⟨K, KX, fd, hb, hF⟩ := F w mg fa _ Y G.T.g hmg
  refine PySem.W.enter_call (codeAny_mono (spec_call (R := []) (cl := classAt s₀.heap) (d0 := r.ret.enc (Codec.app r.args r.f a)) KX G.T.g G.T.b G.T.builtins G.T.nolimit hg hwl (pl_encAll _ _) (layable_weight hlay) hr hF hb (by rw [encAll_len]; exact hlen)
    (fun H xs hO hS => hsp K H xs a hO hwi e2 hS) fun H e s' => hCX H s₁ e s') fun r' s' hq => ?_)
  obtain ⟨u, as', rfl, h1, h2, h3, h4⟩ := hq
  exact ⟨.inl ⟨u, _, as', rfl, fun _ => rfl, h1, (OpenSpec.post_iff hwell hwi _ _).mpr rfl, fun z => Bool.noConfusion (show false = true from z)⟩, h2, h3, h4⟩
def spAnswers (K : PySem.W.Frag) : Sp := fun vs H Q _ => ∃ (a : Addr) (ns : List Int), vs = [.ref a] ∧ SqL K H a (ns.map V.int) ∧ PyZz32.answers_asked ns = true ∧ ns.length ≤ 69000 ∧ ∀ H' v, Dw K H' v (.list ((PyZz32.answers ns).map .int)) → Q v H'
section
variable {P : Program} {w : World} {K : PySem.W.Frag} {mg : Str → Option Value} {base : Heap}
theorem fnok_mk (T : Tx K mg base) (i : Nat) (x : Str) {fd : FuncData} (F : FunD K x x (defArgs (top i)) (defBody (top i)) (defScope (top i)) [] [] (He.ga K x) fd) {N ps : List Str} (S : FnScope N ps (defScope (top i)))
    {k : Nat} {f : DSp} {t : DS}
    (body : ∀ (cdv : Value) (A : Around) (outer : List Env) (s : Shared) (H : Hp) (E : XK), Room k (A.deeper (envOfC x (defScope (top i)) s.heap.objs.size (He.ga K x) cdv)) →
      PSs (cxD P w K mg base N x (defScope (top i)) cdv A outer s H E) (defBody (top i)) (LS K t))
    (pure' : ∀ ds Q, f ds Q → ds.length = ps.length ∧ t ⟨fun _ => Q .non, fun d _ => Q d⟩ (startE N.length ds)) : FnOk P w K mg base CX0 (k + 1) (He.ga K x) fd ps (spD K f) := by
  refine FunD.ok F S (fun vs H Q E h => ?_) fun cdv A outer s H vs Q E hr h => ?_
  · obtain ⟨G, ds, Q', s, r, hf, _⟩ := h
    rw [← r.len]
    exact (pure' ds Q' hf).1
  · obtain ⟨G, ds, Q', sm, r, hf, hq⟩ := h
    refine ⟨LS K t, (body cdv A outer s H E hr).nox, G, H, G, _, _, Rel.start sm r, (pure' ds Q' hf).2, fun env' σ' G' H' hn R' => ?_, fun d v env' σ' G' H' hn R' rv => ?_⟩
    · exact hq _ _ G' H' hn R'.fr rfl
    · exact hq _ _ G' H' hn R'.fr rv
theorem fnok_answers (T : Tx K mg base) {fd : FuncData} (F : FunD K "answers" "answers" (defArgs (top 149)) (defBody (top 149)) (defScope (top 149)) [] [] (He.ga K "answers") fd) : FnOk P w K mg base CX0 13 (He.ga K "answers") fd ["calls"] (spD K f_answers) :=
  fnok_mk T 149 "answers" F sc_answers (t := t_answers) (fun cdv A outer s H E hr => (ds_cons (ds_ses (i := 1) T (hr.mono (by decide)) sc_answers.nd) (ds_cons (ds_own (i := 2) sc_answers.nd (de_lst da_nil)) (ds_cons (ds_for (i := 3) PassesOwn.never sc_answers.nd (di_list (de_call (good_requests_of T) (hr.mono (by decide)) (da_cons (de_var 0) da_nil))) (t := lb_answers0) (ds_cons (dx_set (i := 4) sc_answers.nd (dx_call (i := 1) (good_reply T) (hr.mono (by decide)) (da_cons (de_var 3) da_nil))) (ds_cons (ds_app (i := 2) (de_len (T.free 112 rfl) (de_var 4))) (ds_one (ds_ext (i := 2) (de_var 4)))))) (ds_one (ds_ret (de_var 2))))))) pure_answers
end
theorem facts {P : Program} {w : World} {K : PySem.W.Frag} {h : Heap} {mg : Str → Option Value} {f : Addr} (X : K.In h) (G : h.Ns mainGlobals mg) (hfa : mg ("answers" : Str) = some (.ref f)) (c : obsW K = valW) :
    ∃ fd : FuncData, (∀ (s : Shared) (us : List Value), us.length = (["calls"] : List Str).length → BindsTo s fd ⟨us, []⟩ ((["calls"] : List Str).zip us)) ∧ ∀ base : Heap, K.In base → base.Ns mainGlobals mg → FnOk P w K mg base CX0 30 f fd ["calls"] (spAnswers K) := by
  have T0 : Tx K mg h := ⟨X, G, c⟩
  obtain ⟨fd, F⟩ := T0.sysD.def_ 108 (d := mkD (149, "answers")) rfl
  have ef : f = He.ga K "answers" := by
    have := T0.glo 108 (x := "answers") rfl
    rw [hfa] at this
    injection this with e
    injection e
  subst ef
  refine ⟨fd, fun s us hl => FunD.bindsA F (fun _ _ _ _ _ _ us hl => match us, hl with | [_], _ => rfl) s us hl, fun base KB NB => ?_⟩
  have T : Tx K mg base := ⟨KB, NB, c⟩
  refine ((fnok_answers T F).mono (by decide : 13 ≤ 30)).imp fun vs H Q E hsp => ?_
  obtain ⟨a, ns, rfl, hs, ha, hl, k⟩ := hsp
  refine ⟨H, [.sql (ns.map D.int)], fun d => d = .lst ((PyZz32.answers ns).map D.int), Same.refl _, ⟨.ref a, [], rfl, ⟨a, ns.map V.int, rfl, hs, reps_ints.mpr rfl⟩, rfl⟩, ⟨ns, rfl, ha, hl, rfl⟩, ?_⟩
  rintro d v G' H' rfl f' ⟨b, us, rfl, hb, hr⟩
  rw [reps_ints] at hr
  subst hr
  exact k H' (.ref b) (.lst (SqL.of (f'.gh _ _ hb)) (dw_ints _))
end PW
open PySem PySem.W PySem.Calls PyProof.Rows
theorem PySem.Challenge.cw_pinwall_s01_answers_holds : PySem.Challenge.rw_pinwall_s01_answers.Holds := by
  w_on
  refine HandSHeadRun.head_spec (r := PySem.Challenge.rw_pinwall_s01_answers) (q := PW.qv) (H := PW.hk) (ob := PW.ob) (M := 6000) (loose := PW.looseN) (d := HandSHeadRun.topDef PW.RS.prog 149) (kwd := []) PW.ob_eq
    (by kernel_rfl) (fun s => by kernel_rfl) PW.run (by kernel_rfl) (by kernel_rfl) (by kernel_rfl) os_shapes (by decide +kernel) (by decide +kernel) ⟨rfl, rfl, rfl, rfl, rfl, by decide +kernel⟩ ?hw ?hc
  case hw => exact ⟨[.list [.int 0, .int 0]], by decide +kernel, by decide +kernel⟩
  case hc =>
    refine PW.walk_specE (r := PySem.Challenge.rw_pinwall_s01_answers) (k := 30) (CX := L2.CX0) (ps := ["calls"]) (sp := PW.spAnswers) (by decide +kernel) rfl ⟨rfl, by decide, by decide⟩ ?F ?S (fun _ _ _ _ z => z)
    case F =>
      intro w mg fa h Y G hmg0
      obtain ⟨K, KX, c⟩ := Y
      have hmg : mg ("answers" : PySem.Str) = some (.ref fa) := by
        have e : (HandSHeadRun.topDef PW.RS.prog 149).name = ("answers" : PySem.Str) := by kernel_rfl
        rw [← e]
        exact hmg0
      exact ⟨K, KX, PW.facts KX G hmg c⟩
    case S =>
      intro K H xs a hO hwi hask hx
      cases hx with
      | cons h1 h2 =>
        cases h2
        cases h1 with
        | lst hs ha =>
          have e := L2.ints_dw a.1 _ ha
          subst e
          have q : ((Codec.inLen 0 69000 a.1 && a.1.all (Codec.inInt 0 8192)) && true) = true := hwi
          rw [Bool.and_eq_true, Bool.and_eq_true] at q
          exact ⟨_, a.1, rfl, hs, hask, (Codec.inNat_iff.mp q.1.1).2, fun H' v hv => hv⟩
