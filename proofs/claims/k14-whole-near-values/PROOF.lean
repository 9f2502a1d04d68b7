import PyProof.Rows.All
import KE.KStateDown
import HandS.Head0
import HandS.Head1
import HandS.Head2
import HandS.HeadEnd
import HandS.HeadHook1
import HandS.HeadHook2
import Wide.All
import OpenK.AllK
import Wide.FinOn
import HandS.ForMost
import HandS.TupAny
import HandS.TupMul
import HandS.IsInst
import HandS.Conv
import HandS.Zip
import HandS.Strs
import HandS.SetFor
import HandS.SortInts
import KE.GoesEnum
import HandS.Defaults
import HandS.Codes
import PySem.Challenge.RW_onepicture_k14_whole_near_values
set_option Elab.async false
set_option linter.all false
set_option maxRecDepth 100000
set_option maxHeartbeats 0
/-! Hd: the top's run, what it leaves by names. -/
namespace Op
open PySem PySem.Spec PyProof.Rows L2
def topS (i : Nat) : Stmt := PySem.Challenge.pw_onepicture_k14_whole_near_values.main.body.getD i (.Pass ⟨0, 0, 0, 0⟩)
def dOf (x : Str) (i : Nat) : He.DefD := ⟨(x, none), x, x, defArgs (topS i), defBody (topS i), defScope (topS i), [], []⟩
def initS0 : Stmt := match topS 39 with
  | .ClassDef _ _ _ (s :: _) _ _ _ _ _ _ _ => s
  | s => s
def fnL0 : List He.DefD := [dOf "is_integer" 9, dOf "is_within" 10, dOf "is_below" 11, dOf "is_sized" 12, dOf "is_pair" 13, dOf "is_listed" 14, dOf "replaced" 15, dOf "is_near_value" 35, dOf "is_row_of" 37, dOf "are_inputs" 38, dOf "is_hand" 40, dOf "check_hand" 41, dOf "top_cell" 63, dOf "top_state" 64, dOf "top_next" 65, dOf "after_near" 68, dOf "top_after" 70, dOf "cell_of" 72, dOf "state_of" 73, dOf "next_of" 74]
def fnL1 : List He.DefD := [dOf "after_of" 75, dOf "begun" 76, dOf "first_standing" 77, dOf "movers" 78, dOf "can_step" 79, dOf "after_step" 80, dOf "check_step" 81, dOf "step" 82, dOf "next_step" 83, dOf "standings_of" 84, dOf "run" 85, dOf "run_out" 86, dOf "is_came" 89, dOf "is_item" 93, dOf "most_told" 94, dOf "is_told" 95, dOf "flat" 96, dOf "near_fault" 107, dOf "raw_fault" 109, dOf "fault" 110]
def fnL2 : List He.DefD := [dOf "_law_hand" 112, dOf "_law_draw" 113, dOf "_law_some" 114, dOf "_law_is" 116, dOf "_law_inputs" 117, dOf "_law_begin" 118, dOf "_law_next" 119, dOf "_law_near" 122, dOf "_law_moved" 124, dOf "_law_left" 125, dOf "_law_woven" 126, dOf "_law_whole" 127, dOf "_law_came" 128, dOf "_law_all" 131, dOf "_law_near_fault" 133, dOf "_law_fault" 135, dOf "_law_led_right" 136, dOf "law" 137, ⟨("Play", some "__init__"), "__init__", "Play.__init__", defArgs initS0, defBody initS0, defScope initS0, [], []⟩]
def fnL : List He.DefD := fnL0 ++ (fnL1 ++ (fnL2))
def faL0 : List He.Fa := [.glo "is_integer", .glo "is_within", .glo "is_below", .glo "is_sized", .glo "is_pair", .glo "is_listed", .glo "replaced", .glo "is_near_value", .glo "is_row_of", .glo "are_inputs", .glo "is_hand", .glo "check_hand", .glo "top_cell", .glo "top_state", .glo "top_next", .glo "after_near", .glo "top_after", .glo "cell_of", .glo "state_of", .glo "next_of"]
def faL1 : List He.Fa := [.glo "after_of", .glo "begun", .glo "first_standing", .glo "movers", .glo "can_step", .glo "after_step", .glo "check_step", .glo "step", .glo "next_step", .glo "standings_of", .glo "run", .glo "run_out", .glo "is_came", .glo "is_item", .glo "most_told", .glo "is_told", .glo "flat", .glo "near_fault", .glo "raw_fault", .glo "fault"]
def faL2 : List He.Fa := [.glo "_law_hand", .glo "_law_draw", .glo "_law_some", .glo "_law_is", .glo "_law_inputs", .glo "_law_begin", .glo "_law_next", .glo "_law_near", .glo "_law_moved", .glo "_law_left", .glo "_law_woven", .glo "_law_whole", .glo "_law_came", .glo "_law_all", .glo "_law_near_fault", .glo "_law_fault", .glo "_law_led_right", .glo "law", .free "len", .free "min"]
def faL3 : List He.Fa := [.free "max", .free "sorted", .free "all", .free "any", .free "tuple", .free "list", .free "range", .free "enumerate", .free "zip", .free "isinstance", .free "set", .free "abs", .free "int", .free "bool", .free "str", .free "dict", .int "MOST_HANDS" 5, .int "MOST_VALUE" 1000, .int "MOST_ROUNDS" 6, .str "LEVELS" "levels"]
def faL4 : List He.Fa := [.str "NAMES" "names", .str "NEAR" "near", .str "CHAIN" "chain", .str "PUT" "put", .str "SEE" "see", .cls "Play", .noat "Play" "kind", .noat "Play" "inputs", .noat "Play" "rows", .mkr "Play", .glo "Play", .glo "MANNERS"]
def faL : List He.Fa := faL0 ++ (faL1 ++ (faL2 ++ (faL3 ++ (faL4))))
def looseL0 : List Str := ["PictureError", "BadPlay", "NoHand", "NoStep", "NoWeaving", "NoCame", "NoTold", "is_integer", "is_within", "is_below", "is_sized", "is_pair", "is_listed", "replaced", "MOST_HANDS", "MOST_DEEDS", "MOST_VALUE", "MOST_ROUNDS", "MOST_THING", "SWEEP"]
def looseL1 : List Str := ["TWICE", "BORROW", "LEVELS", "NAMES", "NEAR", "CHAIN", "MANNERS", "PUT", "SEE", "is_deed", "is_script", "is_value", "is_near_value", "is_lot", "is_row_of", "are_inputs", "Play", "is_hand", "check_hand", "LOOK_levels"]
def looseL2 : List Str := ["level_cell", "level_state", "level_next", "level_after", "LOOK_manners", "FIRST_CELL", "fresh", "manner_cell", "manner_state", "is_put_next", "manner_next", "numbers_of", "picture_of", "lent", "result_of", "after_sweep", "manner_after", "top_cell", "top_state", "top_next"]
def looseL3 : List Str := ["wish_by", "after_names", "after_near", "after_chain", "top_after", "cell_of", "state_of", "next_of", "after_of", "begun", "first_standing", "movers", "can_step", "after_step", "check_step", "step", "next_step", "standings_of", "run", "run_out"]
def looseL4 : List Str := ["MOST_NUMBER", "is_came", "is_number_and_value", "is_picture", "is_at_once", "is_item", "most_told", "is_told", "flat", "is_older", "is_within_lot", "are_chain", "is_of_others", "manner_fault", "hands_of", "is_strange", "has_more", "level_fault", "name_fault", "near_fault"]
def looseL5 : List Str := ["chain_fault", "raw_fault", "fault", "_law_hand", "_law_draw", "_law_some", "_law_shuffled", "_law_is", "_law_inputs", "_law_begin", "_law_next", "_law_level", "_law_name", "_law_near", "_law_lot", "_law_moved", "_law_left", "_law_woven", "_law_whole", "_law_came"]
def looseL6 : List Str := ["_law_has", "_law_are_chain", "_law_all", "_law_level_fault", "_law_near_fault", "_law_lot_fault", "_law_fault", "_law_led_right"]
def looseL : List Str := looseL0 ++ (looseL1 ++ (looseL2 ++ (looseL3 ++ (looseL4 ++ (looseL5 ++ (looseL6))))))
def xtB (K : PySem.W.Frag) : Bool := He.tupB K "MANNERS" [.str "sweep", .str "twice", .str "borrow"] && PySem.W.keepIn K (.ref (He.ga K "is_near_value"))
def obsX (K : PySem.W.Frag) : He.AlD := (((faL.all fun f => f.ok K) && (fnL.all fun d => d.ok K)) && xtB K, fnL.map fun d => He.fnW K d.at_)
def SaysX (K : PySem.W.Frag) : Prop := obsX K = He.valD fnL
def refsX (g : Addr → Option Obj) (as : List Addr) : List Addr := as.flatMap fun a => match g a with
  | some o => He.refsD o
  | none => []
def clsX (g : Addr → Option Obj) (as : List Addr) : List Addr := as.flatMap fun a => match g a with
  | some ⟨_, _, .cls cd, _⟩ => [cd.ns]
  | _ => []
/-- what the facts look at: the module's values, what those name, the classes' own values, what those name -/
def asX (g : Addr → Option Obj) : List Addr :=
  (fun a1 => (fun a3 => mainGlobals :: (a1 ++ (refsX g a1 ++ (a3 ++ refsX g a3)))) (refsX g (clsX g a1))) (refsX g [mainGlobals])
def obsXG (g : Addr → Option Obj) : He.AlD := obsX (He.frG g (asX g))
def hookX : PySem.W.Hook where
  α := He.AlD
  obs := fun s => obsXG s.heap.get?
  val := fun _ => He.valD fnL
  says := fun _ h => ∃ K : PySem.W.Frag, K.In h ∧ SaysX K
  of := fun _ _ e => ⟨_, He.frG_in, e⟩
  keeps := fun _ _ _ ⟨K, hK, c⟩ k => ⟨K, PySem.W.Frag.In.keeps hK k, c⟩
theorem obsXG_eq {g : Addr → Option Obj} {s : Shared} (h : ∀ a, g a = s.heap.get? a) : obsXG g = hookX.obs s := by
  have e : g = s.heap.get? := funext h
  rw [e] <;> rfl
section
variable {K : PySem.W.Frag}
theorem SaysX.both (c : SaysX K) : ((faL.all fun f => f.ok K) = true ∧ (fnL.all fun d => d.ok K) = true) ∧ xtB K = true := by
  have e : (((faL.all fun f => f.ok K) && (fnL.all fun d => d.ok K)) && xtB K) = true := congrArg (fun z : He.AlD => z.1) c
  obtain ⟨h1, h2⟩ := He.ba e
  exact ⟨He.ba h1, h2⟩
theorem SaysX.fact (c : SaysX K) (i : Nat) {f : He.Fa} (h : faL[i]? = some f := by rfl) : f.ok K = true := List.all_eq_true.mp c.both.1.1 f (List.mem_of_getElem? h)
theorem SaysX.def_ (c : SaysX K) (i : Nat) {d : He.DefD} (h : fnL[i]? = some d := by rfl) : ∃ fd, FunD K d.name d.qual d.params d.body d.scope (d.dvs K) (d.kws K) (He.fAd K d.at_) fd := by
  have e : fnL.map (fun d => He.fnW K d.at_) = fnL.map He.DefD.val := congrArg (fun z : He.AlD => z.2) c
  have e2 : (fnL.map fun d => He.fnW K d.at_)[i]? = (fnL.map He.DefD.val)[i]? := by rw [e]
  rw [List.getElem?_map, List.getElem?_map, h] at e2
  exact He.DefD.funD (Option.some.inj e2) (List.all_eq_true.mp c.both.1.2 d (List.mem_of_getElem? h))
end
abbrev RW : PySem.W.OpenRow := PySem.W.OpenLaw.row PySem.Challenge.rw_onepicture_k14_whole_near_values
def obX (s : PySem.W.SharedT) : He.AlD := obsXG (HandSHeadRun.getT s)
theorem obX_eq (s : PySem.W.SharedT) : obX s = hookX.obs s.abs := obsXG_eq (HandSHeadRun.getT_eq s)
theorem runX (w : World) : HandSHeadRun.RunEq RW (PySem.W.view RW.prog [137]) hookX obX 6000 looseL w := by
  intro os
  kernel_rfl
end Op
set_option maxHeartbeats 4000000
/-! Dl1: a data layer over HandS: values as data, heaps out of sight. -/
namespace Dl
open PySem PySem.Spec PyProof.Rows L2

abbrev St := L2.St
/-- data -/
inductive D where
  | non | bl (b : Bool) | int (i : Int) | str (x : Str) | tup (l : List D) | lst (l : List D) | hnd | fnc (a : Addr) | play (i r : D)

/-- a list of the written part -/
def KL (K : PySem.W.Frag) (a : Addr) (xs : List V) : Prop :=
  ∃ (o : Obj) (its : Array Value) (n : Nat), K.lookup a = some o ∧ o.cls = .type "list" ∧ o.dict = none ∧ o.data = .seq its n ∧ its.size ≤ sizeLine ∧ Vals xs its.toList
/-- a list that nobody of ours writes -/
def LsAt (K : PySem.W.Frag) (W : Option Addr) (av : Addr → Prop) (H : Hp) (a : Addr) (xs : List V) : Prop :=
  (Rd H a (.lst xs) ∧ W ≠ some a ∧ ¬ av a) ∨ KL K a xs
theorem LsAt.sql {K : PySem.W.Frag} {W : Option Addr} {av : Addr → Prop} {H : Hp} {a : Addr} {xs : List V} (h : LsAt K W av H a xs) : SqL K H a xs := by
  rcases h with ⟨h, _⟩ | h
  · exact .inl h
  · exact .inr h

mutual
/-- a value bears data -/
inductive Rep (K : PySem.W.Frag) (C : Addr) (W : Option Addr) (av : Addr → Prop) (H : Hp) : V → D → Prop where
  | non : Rep K C W av H .non .non
  | bl (b : Bool) : Rep K C W av H (.bl b) (.bl b)
  | int (i : Int) : Rep K C W av H (.int i) (.int i)
  | str (x : Str) : Rep K C W av H (.str x) (.str x)
  | tup {a : Addr} {xs : List V} {ds : List D} : SqT K H a xs → RepAll K C W av H xs ds → Rep K C W av H (.ref a) (.tup ds)
  | lst {a : Addr} {xs : List V} {ds : List D} : LsAt K W av H a xs → RepAll K C W av H xs ds → Rep K C W av H (.ref a) (.lst ds)
  | hnd {p : Addr} : W = some p → Rep K C W av H (.ref p) .hnd
  | fnc (a : Addr) : Rep K C W av H (.ref a) (.fnc a)
  | play {a dx : Addr} {vi vr : V} {di dr : D} : H a = some (.ins C dx [("kind", .str "near"), ("inputs", vi), ("rows", vr)]) → Rep K C W av H vi di → Rep K C W av H vr dr → Rep K C W av H (.ref a) (.play di dr)
inductive RepAll (K : PySem.W.Frag) (C : Addr) (W : Option Addr) (av : Addr → Prop) (H : Hp) : List V → List D → Prop where
  | nil : RepAll K C W av H [] []
  | cons {v : V} {vs : List V} {d : D} {ds : List D} : Rep K C W av H v d → RepAll K C W av H vs ds → RepAll K C W av H (v :: vs) (d :: ds)
end

/-- the law's hand: a list of the cells' list and four numbers -/
def HandAt (K : PySem.W.Frag) (av : Addr → Prop) (H : Hp) (p : Addr) : Prop :=
  ∃ (c : Addr) (ns : List Int) (i x y z : Int), H p = some (.lst [.ref c, .int i, .int x, .int y, .int z]) ∧ LsAt K (some p) av H c (ns.map V.int) ∧ 0 ≤ i

/-- all that was tracked is as it was, but for lists that may be written -/
def Kq (W : Option Addr) (av : Addr → Prop) (H H' : Hp) : Prop :=
  ∀ b o, H b = some o → H' b = some o ∨ ((W = some b ∨ av b) ∧ (∃ xs, o = .lst xs) ∧ ∃ ys, H' b = some (.lst ys))
abbrev Kp (W : Option Addr) (H H' : Hp) : Prop := Kq W (fun _ => False) H H'

section
variable {K : PySem.W.Frag} {C : Addr} {W : Option Addr} {av av' : Addr → Prop} {H H1 H' : Hp}
theorem Kq.refl : Kq W av H H := fun _ _ h => .inl h
theorem Kq.of_same (h : Same H H') : Kq W av H H' := fun b o e => .inl (h b o e)
theorem Kq.trans (a : Kq W av H H1) (b : Kq W av H1 H') : Kq W av H H' := fun c o e => by
  rcases a c o e with e1 | ⟨w, ⟨xs, rfl⟩, ys, e1⟩
  · exact b c o e1
  · rcases b c _ e1 with e2 | ⟨_, _, zs, e2⟩
    · exact .inr ⟨w, ⟨xs, rfl⟩, ys, e2⟩
    · exact .inr ⟨w, ⟨xs, rfl⟩, zs, e2⟩
theorem Kq.mono (h : Kq W av H H') (s : ∀ b, av b → av' b) : Kq W av' H H' := fun b o e => by
  rcases h b o e with e1 | ⟨w, r⟩
  · exact .inl e1
  · exact .inr ⟨w.imp_right (s b), r⟩
theorem Kq.of_kp (h : Kp W H H') : Kq W av H H' := Kq.mono h fun _ z => z.elim
theorem Kq.free (h : Kq W av H H') {p : Addr} (e : H' p = none) : H p = none := by
  cases q : H p with
  | none => rfl
  | some o =>
    rcases h p o q with e1 | ⟨_, _, ys, e1⟩
    · rw [e] at e1; cases e1
    · rw [e] at e1; cases e1
theorem Kq.there (h : Kq W av H H') {p : Addr} {o : HO} (e : H p = some o) : ∃ o', H' p = some o' := by
  rcases h p o e with e1 | ⟨_, _, ys, e1⟩
  · exact ⟨_, e1⟩
  · exact ⟨_, e1⟩
theorem Kq.notlst (h : Kq W av H H') {p : Addr} {o : HO} (e : H p = some o) (n : ∀ xs, o ≠ .lst xs) : H' p = some o := by
  rcases h p o e with e1 | ⟨_, ⟨xs, r⟩, _⟩
  · exact e1
  · exact absurd r (n xs)
theorem Kq.at_ (h : Kq W av H H') {p : Addr} {o : HO} (e : H p = some o) (n : W ≠ some p) (n2 : ¬ av p) : H' p = some o := by
  rcases h p o e with e1 | ⟨r | r, _⟩
  · exact e1
  · exact absurd r n
  · exact absurd r n2
theorem Kq.tup (h : Kq W av H H') {a : Addr} {xs : List V} (t : SqT K H a xs) : SqT K H' a xs := by
  rcases t with (t | ⟨o, t⟩) | t
  · exact .inl (.inl (h.notlst t fun _ z => nomatch z))
  · exact .inl (.inr ⟨o, h.notlst t fun _ z => nomatch z⟩)
  · exact .inr t
theorem Kq.ls (h : Kq W av H H') {a : Addr} {xs : List V} (t : LsAt K W av H a xs) : LsAt K W av H' a xs := by
  rcases t with ⟨t | ⟨o, t⟩, n1, n2⟩ | t
  · exact .inl ⟨.inl (h.at_ t n1 n2), n1, n2⟩
  · exact .inl ⟨.inr ⟨o, h.notlst t fun _ z => nomatch z⟩, n1, n2⟩
  · exact .inr t
mutual
theorem Rep.kq (k : Kq W av H H') : ∀ (d : D) (v : V), Rep K C W av H v d → Rep K C W av H' v d
  | .non, _, h => by cases h; exact .non
  | .bl _, _, h => by cases h; exact .bl _
  | .int _, _, h => by cases h; exact .int _
  | .str _, _, h => by cases h; exact .str _
  | .tup ds, _, h => by
    cases h with
    | tup t r => exact .tup (k.tup t) (RepAll.kq k ds _ r)
  | .lst ds, _, h => by
    cases h with
    | lst t r => exact .lst (k.ls t) (RepAll.kq k ds _ r)
  | .hnd, _, h => by
    cases h with
    | hnd e => exact .hnd e
  | .fnc _, _, h => by cases h; exact .fnc _
  | .play di dr, _, h => by
    cases h with
    | play e r1 r2 => exact .play (k.notlst e fun _ z => nomatch z) (Rep.kq k di _ r1) (Rep.kq k dr _ r2)
theorem RepAll.kq (k : Kq W av H H') : ∀ (ds : List D) (vs : List V), RepAll K C W av H vs ds → RepAll K C W av H' vs ds
  | [], _, h => by cases h; exact .nil
  | d :: ds, _, h => by
    cases h with
    | cons r rs => exact .cons (Rep.kq k d _ r) (RepAll.kq k ds _ rs)
end
/-- other lists are to be kept clear of -/
theorem LsAt.avs (hv : ∀ b, av' b → av b ∨ H b = none) {a : Addr} {xs : List V} (t : LsAt K W av H a xs) : LsAt K W av' H a xs := by
  rcases t with ⟨t, n1, n2⟩ | t
  · refine .inl ⟨t, n1, fun z => ?_⟩
    rcases hv a z with q | q
    · exact n2 q
    · rcases t with t | ⟨o, t⟩
      · rw [q] at t; cases t
      · rw [q] at t; cases t
  · exact .inr t
mutual
theorem Rep.avs (hv : ∀ b, av' b → av b ∨ H b = none) : ∀ (d : D) (v : V), Rep K C W av H v d → Rep K C W av' H v d
  | .non, _, h => by cases h; exact .non
  | .bl _, _, h => by cases h; exact .bl _
  | .int _, _, h => by cases h; exact .int _
  | .str _, _, h => by cases h; exact .str _
  | .tup ds, _, h => by
    cases h with
    | tup t r => exact .tup t (RepAll.avs hv ds _ r)
  | .lst ds, _, h => by
    cases h with
    | lst t r => exact .lst (t.avs hv) (RepAll.avs hv ds _ r)
  | .hnd, _, h => by
    cases h with
    | hnd e => exact .hnd e
  | .fnc _, _, h => by cases h; exact .fnc _
  | .play di dr, _, h => by
    cases h with
    | play e r1 r2 => exact .play e (Rep.avs hv di _ r1) (Rep.avs hv dr _ r2)
theorem RepAll.avs (hv : ∀ b, av' b → av b ∨ H b = none) : ∀ (ds : List D) (vs : List V), RepAll K C W av H vs ds → RepAll K C W av' H vs ds
  | [], _, h => by cases h; exact .nil
  | d :: ds, _, h => by
    cases h with
    | cons r rs => exact .cons (Rep.avs hv d _ r) (RepAll.avs hv ds _ rs)
end
theorem RepAll.len : ∀ {vs : List V} {ds : List D}, RepAll K C W av H vs ds → vs.length = ds.length
  | _, _, .nil => rfl
  | _, _, .cons _ t => by rw [List.length_cons, List.length_cons, RepAll.len t]
theorem RepAll.get : ∀ {vs : List V} {ds : List D} {i : Nat} {d : D}, RepAll K C W av H vs ds → ds[i]? = some d → ∃ v, vs[i]? = some v ∧ Rep K C W av H v d
  | _, _, _, _, .nil, e => by simp at e
  | _, _, 0, _, .cons r _, e => by simp at e; subst e; exact ⟨_, rfl, r⟩
  | _, _, i + 1, d, .cons _ t, e => by
    obtain ⟨v, h1, h2⟩ := RepAll.get (i := i) (d := d) t (by simpa using e)
    exact ⟨v, by simpa using h1, h2⟩
theorem RepAll.getV : ∀ {vs : List V} {ds : List D} {i : Nat} {v : V}, RepAll K C W av H vs ds → vs[i]? = some v → ∃ d, ds[i]? = some d ∧ Rep K C W av H v d
  | _, _, _, _, .nil, e => by simp at e
  | _, _, 0, _, .cons r _, e => by simp at e; subst e; exact ⟨_, rfl, r⟩
  | _, _, i + 1, v, .cons _ t, e => by
    obtain ⟨d, h1, h2⟩ := RepAll.getV (i := i) (v := v) t (by simpa using e)
    exact ⟨d, by simpa using h1, h2⟩
theorem RepAll.append : ∀ {xs ys : List V} {ds es : List D}, RepAll K C W av H xs ds → RepAll K C W av H ys es → RepAll K C W av H (xs ++ ys) (ds ++ es)
  | _, _, _, _, .nil, s => s
  | _, _, _, _, .cons r t, s => .cons r (RepAll.append t s)
theorem RepAll.take : ∀ {xs : List V} {ds : List D} (n : Nat), RepAll K C W av H xs ds → RepAll K C W av H (xs.take n) (ds.take n)
  | _, _, 0, _ => .nil
  | _, _, _ + 1, .nil => .nil
  | _, _, n + 1, .cons r t => .cons r (RepAll.take n t)
theorem RepAll.drop : ∀ {xs : List V} {ds : List D} (n : Nat), RepAll K C W av H xs ds → RepAll K C W av H (xs.drop n) (ds.drop n)
  | _, _, 0, r => r
  | _, _, _ + 1, .nil => .nil
  | _, _, n + 1, .cons _ t => RepAll.drop n t
theorem RepAll.rep {v : V} {d : D} (r : Rep K C W av H v d) : ∀ n, RepAll K C W av H (List.replicate n v) (List.replicate n d)
  | 0 => .nil
  | n + 1 => .cons r (RepAll.rep r n)
theorem HandAt.kq {p : Addr} (h : HandAt K av H p) (k : Same H H') : HandAt K av H' p := by
  obtain ⟨c, ns, i, x, y, z, h1, h2, h3⟩ := h
  exact ⟨c, ns, i, x, y, z, k _ _ h1, (Kq.of_same k).ls h2, h3⟩
theorem HandAt.avs (hv : ∀ b, av' b → av b ∨ H b = none) {p : Addr} (h : HandAt K av H p) : HandAt K av' H p := by
  obtain ⟨c, ns, i, x, y, z, h1, h2, h3⟩ := h
  exact ⟨c, ns, i, x, y, z, h1, LsAt.avs hv h2, h3⟩
end

/-! ### where one stands -/
structure Glob where
  P : Program
  w : World
  K : PySem.W.Frag
  mg : Str → Option Value
  base : Heap
  C : Addr
structure Gc where
  gl : Glob
  N : List Str
  sc : Scope
  k : Nat
  fn : Str → Bool
structure Cf where
  g : Gc
  W : Option Addr
  A0 : Addr → Prop
structure In (g : Gc) (X : Cx) : Prop where
  P : X.prog = g.gl.P
  w : X.w = g.gl.w
  K : X.K = g.gl.K
  mg : X.mg = g.gl.mg
  base : X.base = g.gl.base
  N : X.N = g.N
  nd : g.N.Nodup
  sc : X.env.scope = g.sc
  room : Room g.k X.A
  calm : X.calm = true
  xe : X.xe = fun _ _ => False
  fn : ∀ x, X.fn x = g.fn x

/-- what a slot holds -/
inductive Sl where
  | non | dat (d : D) | own (a : Addr) (l : List D)
def Sl.adr : Sl → Option Addr
  | .own a _ => some a
  | _ => none
/-- the lists that the def itself writes -/
def ows (ρ : List Sl) (b : Addr) : Prop := some b ∈ ρ.map Sl.adr
abbrev Cf.av (c : Cf) (ρ : List Sl) : Addr → Prop := fun b => c.A0 b ∨ ows ρ b
abbrev RepC (c : Cf) (ρ : List Sl) (H : Hp) (v : V) (d : D) : Prop := Rep c.g.gl.K c.g.gl.C c.W (c.av ρ) H v d
abbrev RepAC (c : Cf) (ρ : List Sl) (H : Hp) (v : List V) (d : List D) : Prop := RepAll c.g.gl.K c.g.gl.C c.W (c.av ρ) H v d
abbrev Cps := List (Hp × (Addr → Prop))

structure EnvOk (c : Cf) (cps : Cps) (σ : St) (H : Hp) (ρ : List Sl) : Prop where
  kp : ∀ p ∈ cps, Kq c.W p.2 p.1 H
  len : σ.length = ρ.length
  dat : ∀ (i : Nat) (d : D), ρ[i]? = some (.dat d) → ∃ v, σ[i]? = some (some v) ∧ RepC c ρ H v d
  own : ∀ (i : Nat) (a : Addr) (l : List D), ρ[i]? = some (.own a l) → σ[i]? = some (some (.ref a)) ∧ c.W ≠ some a ∧ ¬ c.A0 a ∧ (∀ p ∈ cps, p.1 a = none ∨ p.2 a) ∧ ∃ xs, H a = some (.lst xs) ∧ RepAC c ρ H xs l
  inj : ∀ (i j : Nat) (a : Addr) (l l' : List D), ρ[i]? = some (.own a l) → ρ[j]? = some (.own a l') → i = j
  a0 : ∀ b, c.A0 b → ∃ o, H b = some o
  hand : ∀ p, c.W = some p → HandAt c.g.gl.K (c.av ρ) H p

theorem ows_at {ρ : List Sl} {b : Addr} (h : ows ρ b) : ∃ (i : Nat) (l : List D), ρ[i]? = some (.own b l) := by
  unfold ows at h
  obtain ⟨s, hs, e⟩ := List.mem_map.mp h
  obtain ⟨i, hi, e2⟩ := List.getElem_of_mem hs
  cases s with
  | non => cases e
  | dat d => cases e
  | own a l =>
    have : a = b := by cases e; rfl
    subst this
    exact ⟨i, l, by rw [List.getElem?_eq_getElem hi, e2]⟩
theorem ows_of {ρ : List Sl} {b : Addr} {i : Nat} {l : List D} (h : ρ[i]? = some (.own b l)) : ows ρ b := by
  unfold ows
  exact List.mem_map.mpr ⟨_, List.mem_of_getElem? h, rfl⟩

section
variable {c : Cf} {cps : Cps} {σ : St} {H H' : Hp} {ρ : List Sl}
theorem EnvOk.avt (env : EnvOk c cps σ H ρ) : ∀ b, c.av ρ b → ∃ o, H b = some o := fun b h => by
  rcases h with h | h
  · exact env.a0 b h
  · obtain ⟨i, l, e⟩ := ows_at h
    obtain ⟨_, _, _, _, xs, e2, _⟩ := env.own i b l e
    exact ⟨_, e2⟩
theorem EnvOk.fresh (env : EnvOk c cps σ H ρ) {p : Addr} (hp : H p = none) : c.W ≠ some p ∧ ¬ c.av ρ p := by
  refine ⟨fun e => ?_, fun e => ?_⟩
  · obtain ⟨_, _, _, _, _, _, h, _⟩ := env.hand p e
    rw [hp] at h; cases h
  · obtain ⟨o, h⟩ := env.avt p e
    rw [hp] at h; cases h
/-- behind an expression -/
theorem EnvOk.kp' (env : EnvOk c cps σ H ρ) (k : Kp c.W H H') (hh : ∀ p, c.W = some p → HandAt c.g.gl.K (c.av ρ) H' p) : EnvOk c cps σ H' ρ where
  kp := fun p hp => (env.kp p hp).trans (Kq.of_kp k)
  len := env.len
  dat := fun i d e => by
    obtain ⟨v, h1, h2⟩ := env.dat i d e
    exact ⟨v, h1, Rep.kq (Kq.of_kp k) _ _ h2⟩
  own := fun i a l e => by
    obtain ⟨h1, h2, h3, h4, xs, h5, h6⟩ := env.own i a l e
    exact ⟨h1, h2, h3, h4, xs, k.at_ h5 h2 (fun z => z), RepAll.kq (Kq.of_kp k) _ _ h6⟩
  inj := env.inj
  a0 := fun b h => by
    obtain ⟨o, e⟩ := env.a0 b h
    exact Kq.there k e
  hand := hh
theorem EnvOk.same (env : EnvOk c cps σ H ρ) (s : Same H H') : EnvOk c cps σ H' ρ :=
  env.kp' (Kq.of_same s) fun p e => (env.hand p e).kq s
theorem EnvOk.rep (env : EnvOk c cps σ H ρ) {v : V} {d : D} (k : Kp c.W H H') (r : RepC c ρ H v d) : RepC c ρ H' v d := Rep.kq (Kq.of_kp k) _ _ r
theorem same_upd {H : Hp} {p : Addr} {o : HO} (h : H p = none) : Same H (upd H p o) := fun b x e => by
  rw [upd_ne (ne_of_none e h)]
  exact e
theorem adr_set {ρ : List Sl} {i : Nat} {s s' : Sl} (h : ρ[i]? = some s) (e : s.adr = s'.adr) : (ρ.set i s').map Sl.adr = ρ.map Sl.adr := by
  rw [List.map_set, ← e]
  apply List.ext_getElem?
  intro j
  by_cases hj : i = j
  · subst hj
    rw [List.getElem?_set, List.getElem?_map, h]
    simp
    exact (List.getElem?_eq_some_iff.mp h).1
  · rw [List.getElem?_set_ne hj]
theorem get_set {α : Type} {l : List α} {i j : Nat} {x y : α} (h : (l.set i x)[j]? = some y) : (j = i ∧ y = x ∧ i < l.length) ∨ (j ≠ i ∧ l[j]? = some y) := by
  by_cases hj : i = j
  · subst hj
    left
    rw [List.getElem?_set] at h
    simp at h
    exact ⟨rfl, h.2.symm, h.1⟩
  · right
    rw [List.getElem?_set_ne hj] at h
    exact ⟨fun e => hj e.symm, h⟩
theorem ows_set {ρ : List Sl} {i : Nat} {s : Sl} {b : Addr} (h : ows (ρ.set i s) b) : ows ρ b ∨ s.adr = some b := by
  unfold ows at h ⊢
  rw [List.map_set] at h
  obtain ⟨j, hj, e⟩ := List.getElem_of_mem h
  have e' : ((ρ.map Sl.adr).set i s.adr)[j]? = some (some b) := by rw [List.getElem?_eq_getElem hj, e]
  rcases get_set e' with ⟨_, q, _⟩ | ⟨_, q⟩
  · exact .inr q.symm
  · exact .inl (List.mem_of_getElem? q)
/-- a slot gets data -/
theorem EnvOk.set (env : EnvOk c cps σ H ρ) {i : Nat} {v : V} {d : D} (r : RepC c ρ H v d) : EnvOk c cps (σ.set i (some v)) H (ρ.set i (.dat d)) := by
  have hv : ∀ b, c.av (ρ.set i (.dat d)) b → c.av ρ b ∨ H b = none := fun b z => by
    rcases z with z | z
    · exact .inl (.inl z)
    · rcases ows_set z with z | z
      · exact .inl (.inr z)
      · cases z
  refine ⟨env.kp, by rw [List.length_set, List.length_set, env.len], fun j e he => ?_, fun j a l he => ?_, fun j k a l l' h1 h2 => ?_, env.a0, fun p e => (env.hand p e).avs hv⟩
  · rcases get_set he with ⟨rfl, q, hi⟩ | ⟨hj, q⟩
    · cases q
      refine ⟨v, ?_, Rep.avs hv _ _ r⟩
      rw [List.getElem?_set_self (by rw [env.len]; exact hi)]
    · obtain ⟨u, h1, h2⟩ := env.dat j e q
      exact ⟨u, by rw [List.getElem?_set_ne (Ne.symm hj)]; exact h1, Rep.avs hv _ _ h2⟩
  · rcases get_set he with ⟨rfl, q, hi⟩ | ⟨hj, q⟩
    · cases q
    · obtain ⟨h1, h2, h3, h4, xs, h5, h6⟩ := env.own j a l q
      exact ⟨by rw [List.getElem?_set_ne (Ne.symm hj)]; exact h1, h2, h3, h4, xs, h5, RepAll.avs hv _ _ h6⟩
  · rcases get_set h1 with ⟨_, q, _⟩ | ⟨_, q1⟩
    · cases q
    · rcases get_set h2 with ⟨_, q, _⟩ | ⟨_, q2⟩
      · cases q
      · exact env.inj j k a l l' q1 q2
/-- a slot gets a new list that the def will write -/
theorem EnvOk.setOwn (env : EnvOk c cps σ H ρ) {i : Nat} {a : Addr} {xs : List V} {l : List D} (hW : c.W ≠ some a) (hA : ¬ c.av ρ a) (hc : ∀ p ∈ cps, p.1 a = none ∨ p.2 a) (e : H a = some (.lst xs)) (r : RepAll c.g.gl.K c.g.gl.C c.W (fun b => c.av ρ b ∨ b = a) H xs l)
    (hd : ∀ (j : Nat) (d : D), ρ[j]? = some (.dat d) → ∃ v, σ[j]? = some (some v) ∧ Rep c.g.gl.K c.g.gl.C c.W (fun b => c.av ρ b ∨ b = a) H v d)
    (ho : ∀ (j : Nat) (b : Addr) (m : List D), ρ[j]? = some (.own b m) → ∃ ys, H b = some (.lst ys) ∧ RepAll c.g.gl.K c.g.gl.C c.W (fun b => c.av ρ b ∨ b = a) H ys m)
    (hh : ∀ p, c.W = some p → HandAt c.g.gl.K (fun b => c.av ρ b ∨ b = a) H p) : EnvOk c cps (σ.set i (some (.ref a))) H (ρ.set i (.own a l)) := by
  have hv : ∀ b, c.av (ρ.set i (.own a l)) b → (c.av ρ b ∨ b = a) ∨ H b = none := fun b z => by
    rcases z with z | z
    · exact .inl (.inl (.inl z))
    · rcases ows_set z with z | z
      · exact .inl (.inl (.inr z))
      · cases z; exact .inl (.inr rfl)
  refine ⟨env.kp, by rw [List.length_set, List.length_set, env.len], fun j d he => ?_, fun j b m he => ?_, fun j k b l l' h1 h2 => ?_, env.a0, fun p q => (hh p q).avs hv⟩
  · rcases get_set he with ⟨rfl, q, hi⟩ | ⟨hj, q⟩
    · cases q
    · obtain ⟨u, h1, h2⟩ := hd j d q
      exact ⟨u, by rw [List.getElem?_set_ne (Ne.symm hj)]; exact h1, Rep.avs hv _ _ h2⟩
  · rcases get_set he with ⟨rfl, q, hi⟩ | ⟨hj, q⟩
    · cases q
      exact ⟨by rw [List.getElem?_set_self (by rw [env.len]; exact hi)], hW, fun z => hA (.inl z), hc, xs, e, RepAll.avs hv _ _ r⟩
    · obtain ⟨h1, h2, h3, h4, _⟩ := env.own j b m q
      obtain ⟨ys, h5, h6⟩ := ho j b m q
      exact ⟨by rw [List.getElem?_set_ne (Ne.symm hj)]; exact h1, h2, h3, h4, ys, h5, RepAll.avs hv _ _ h6⟩
  · rcases get_set h1 with ⟨e1, q, _⟩ | ⟨_, q1⟩
    · rcases get_set h2 with ⟨e2, _, _⟩ | ⟨_, q2⟩
      · rw [e1, e2]
      · cases q; exact absurd (.inr (ows_of q2)) hA
    · rcases get_set h2 with ⟨_, q, _⟩ | ⟨_, q2⟩
      · cases q; exact absurd (.inr (ows_of q1)) hA
      · exact env.inj j k b l l' q1 q2
/-- .. a list just laid: H0 is the heap ahead, the list at a not there -/
theorem EnvOk.setNew {H0 : Hp} (env0 : EnvOk c cps σ H0 ρ) (env : EnvOk c cps σ H ρ) (k : Kp c.W H0 H) {i : Nat} {a : Addr} {xs : List V} {l : List D} (h0 : H0 a = none) (e : H a = some (.lst xs))
    (r : RepAll c.g.gl.K c.g.gl.C c.W (fun b => c.av ρ b ∨ b = a) H xs l) (hh : ∀ p, c.W = some p → HandAt c.g.gl.K (fun b => c.av ρ b ∨ b = a) H p) : EnvOk c cps (σ.set i (some (.ref a))) H (ρ.set i (.own a l)) := by
  have hv : ∀ b, (c.av ρ b ∨ b = a) → c.av ρ b ∨ H0 b = none := fun b z => z.imp_right fun e => by rw [e]; exact h0
  obtain ⟨n1, n2⟩ := env0.fresh h0
  have kk : Kq c.W (fun b => c.av ρ b ∨ b = a) H0 H := Kq.of_kp k
  refine env.setOwn n1 n2 (fun p hp => .inl ((env0.kp p hp).free h0)) e r (fun j d hj => ?_) (fun j b m hj => ?_) hh
  · obtain ⟨v, h1, h2⟩ := env0.dat j d hj
    exact ⟨v, h1, Rep.kq kk _ _ (Rep.avs hv _ _ h2)⟩
  · obtain ⟨_, h2, _, _, ys, h5, h6⟩ := env0.own j b m hj
    exact ⟨ys, k.at_ h5 h2 (fun z => z), RepAll.kq kk _ _ (RepAll.avs hv _ _ h6)⟩
/-- the def's own list is written -/
theorem EnvOk.put (env : EnvOk c cps σ H ρ) {i : Nat} {a : Addr} {l l' : List D} {ys : List V} (ho : ρ[i]? = some (.own a l)) (r : RepAC c ρ H ys l') : EnvOk c cps σ (upd H a (.lst ys)) (ρ.set i (.own a l')) ∧ (c.av (ρ.set i (.own a l')) = c.av ρ) := by
  obtain ⟨h1, h2, h3, h4, xs, h5, h6⟩ := env.own i a l ho
  have eav : c.av (ρ.set i (.own a l')) = c.av ρ := by
    unfold Cf.av ows
    rw [adr_set ho (s' := .own a l') rfl]
  have k : Kq c.W (c.av ρ) H (upd H a (.lst ys)) := fun b o e => by
    by_cases hb : b = a
    · subst hb
      rw [h5] at e; cases e
      exact .inr ⟨.inr (.inr (ows_of ho)), ⟨xs, rfl⟩, ys, upd_same⟩
    · exact .inl (by rw [upd_ne hb]; exact e)
  refine ⟨⟨fun p hp b o e => ?_, by rw [List.length_set, env.len], fun j d he => ?_, fun j b m he => ?_, fun j k b m m' q1 q2 => ?_, fun b hb => ?_, fun p e => ?_⟩, eav⟩
  · rcases h4 p hp with q | q
    · have hb : b ≠ a := fun z => by rw [z, q] at e; cases e
      rcases env.kp p hp b o e with z | ⟨z1, z2, zs, z3⟩
      · exact .inl (by rw [upd_ne hb]; exact z)
      · exact .inr ⟨z1, z2, zs, by rw [upd_ne hb]; exact z3⟩
    · by_cases hb : b = a
      · subst hb
        refine .inr ⟨.inr q, ?_, ys, upd_same⟩
        rcases env.kp p hp b o e with z | ⟨_, z2, _⟩
        · rw [h5] at z; cases z; exact ⟨xs, rfl⟩
        · exact z2
      · rcases env.kp p hp b o e with z | ⟨z1, z2, zs, z3⟩
        · exact .inl (by rw [upd_ne hb]; exact z)
        · exact .inr ⟨z1, z2, zs, by rw [upd_ne hb]; exact z3⟩
  · rcases get_set he with ⟨_, q, _⟩ | ⟨hj, q⟩
    · cases q
    · obtain ⟨v, q1, q2⟩ := env.dat j d q
      refine ⟨v, q1, ?_⟩
      show Rep _ _ _ (c.av (ρ.set i (.own a l'))) _ _ _
      rw [eav]
      exact Rep.kq k _ _ q2
  · rcases get_set he with ⟨e1, q, _⟩ | ⟨hj, q⟩
    · cases q
      subst e1
      refine ⟨h1, h2, h3, h4, ys, upd_same, ?_⟩
      show RepAll _ _ _ (c.av (ρ.set j (.own a l'))) _ _ _
      rw [eav]
      exact RepAll.kq k _ _ r
    · obtain ⟨g1, g2, g3, g4, zs, g5, g6⟩ := env.own j b m q
      have hb : b ≠ a := fun z => by
        subst z
        exact hj (env.inj j i b m l q ho)
      refine ⟨g1, g2, g3, g4, zs, by rw [upd_ne hb]; exact g5, ?_⟩
      show RepAll _ _ _ (c.av (ρ.set i (.own a l'))) _ _ _
      rw [eav]
      exact RepAll.kq k _ _ g6
  · rcases get_set q1 with ⟨e1, z, _⟩ | ⟨n1, z1⟩
    · rcases get_set q2 with ⟨e2, _, _⟩ | ⟨n2, z2⟩
      · rw [e1, e2]
      · cases z; exact absurd (env.inj k i a m' l z2 ho) n2
    · rcases get_set q2 with ⟨_, z, _⟩ | ⟨n2, z2⟩
      · cases z; exact absurd (env.inj j i a m l z1 ho) n1
      · exact env.inj j k b m m' z1 z2
  · obtain ⟨o, e⟩ := env.a0 b hb
    by_cases hba : b = a
    · subst hba; exact ⟨_, upd_same⟩
    · exact ⟨o, by rw [upd_ne hba]; exact e⟩
  · obtain ⟨cc, ns, u, x, y, z, g1, g2, g4⟩ := env.hand p e
    have np : p ≠ a := fun q => h2 (by rw [← q]; exact e)
    refine ⟨cc, ns, u, x, y, z, by rw [upd_ne np]; exact g1, ?_, g4⟩
    rw [eav, ← e]
    rw [← e] at g2
    exact k.ls g2
/-- another checkpoint -/
theorem EnvOk.check (env : EnvOk c cps σ H ρ) : EnvOk c ((H, c.av ρ) :: cps) σ H ρ :=
  ⟨fun p hp => by
    rcases List.mem_cons.mp hp with rfl | hp
    · exact Kq.refl
    · exact env.kp p hp, env.len, env.dat, fun i a l e => by
    obtain ⟨h1, h2, h3, h4, h5⟩ := env.own i a l e
    refine ⟨h1, h2, h3, fun p hp => ?_, h5⟩
    rcases List.mem_cons.mp hp with rfl | hp
    · exact .inr (.inr (ows_of e))
    · exact h4 p hp, env.inj, env.a0, env.hand⟩
theorem EnvOk.uncheck {q : Hp × (Addr → Prop)} (env : EnvOk c (q :: cps) σ H ρ) : EnvOk c cps σ H ρ :=
  ⟨fun p hp => env.kp p (List.mem_cons_of_mem _ hp), env.len, env.dat, fun i a l e => by
    obtain ⟨h1, h2, h3, h4, h5⟩ := env.own i a l e
    exact ⟨h1, h2, h3, fun p hp => h4 p (List.mem_cons_of_mem _ hp), h5⟩, env.inj, env.a0, env.hand⟩
end
end Dl
/-! Dl2: expressions, tests, arguments over data. -/
namespace Dl
open PySem PySem.Spec PyProof.Rows L2

/-! ### the readings themselves, as the weakest ones -/
def esem (g : Gc) (e : Expr) : TE := fun σ H Q => ∀ X, In g X → ∀ pins s, Inv X pins σ H s → wpAny (model X.prog X.w) X.A (eval e X.env) (EP X pins σ Q) X.xe s
def tsem (g : Gc) (e : Expr) : TT := fun σ H Q => ∀ X, In g X → ∀ pins s, Inv X pins σ H s → wpAny (model X.prog X.w) X.A (isTrue e X.env (eval e X.env)) (TP X pins σ Q) X.xe s
def asem (g : Gc) (es : List Expr) : TA := fun σ H Q => ∀ X, In g X → ∀ pos pins s, Inv X pins σ H s → wpAny (model X.prog X.w) X.A (spliced (backTo pos (starEach es X.env))) (AP X pins σ Q) X.xe s
section
variable {g : Gc} {X : Cx}
theorem In.pe (h : In g X) (e : Expr) : PE X e (esem g e) := ⟨fun pins s σ H Q I q => q X h pins s I⟩
theorem In.pt (h : In g X) (e : Expr) : PT X e (tsem g e) := ⟨fun pins s σ H Q I q => q X h pins s I⟩
theorem In.pa (h : In g X) (es : List Expr) : PA X es (asem g es) := ⟨fun pos pins s σ H Q I q => q X h pos pins s I⟩
theorem In.sqt (h : In g X) {H : Hp} {a : Addr} {xs : List V} (t : SqT g.gl.K H a xs) : SqT X.K H a xs := by rw [h.K]; exact t
theorem In.sql (h : In g X) {H : Hp} {a : Addr} {xs : List V} (t : SqL g.gl.K H a xs) : SqL X.K H a xs := by rw [h.K]; exact t
theorem In.unsqt (h : In g X) {H : Hp} {a : Addr} {xs : List V} (t : SqT X.K H a xs) : SqT g.gl.K H a xs := by rw [← h.K]; exact t
end
/-! ### a scope's names -/
def visB (sc : Scope) (x : Str) : Bool := match sc.names.lookup x with
  | some .local => true
  | some .cell => true
  | some .free => true
  | _ => false
def locB (sc : Scope) (x : Str) : Bool := match sc.names.lookup x with
  | some .local => true
  | some .cell => true
  | _ => false
def glB (sc : Scope) (x : Str) : Bool := match sc.names.lookup x with
  | some .globalImplicit => true
  | _ => false
def okN (x : Str) : Bool := !(x == ("__debug__" : Str)) && (!(x == ("__classdict__" : Str)) && decide (x ≠ ("__name__" : Str)))
theorem visB_ok {sc : Scope} {x : Str} (h : visB sc x = true) : Vis sc x := by
  unfold visB at h
  split at h
  · exact .inl (by assumption)
  · exact .inr (.inl (by assumption))
  · exact .inr (.inr (by assumption))
  · cases h
theorem locB_ok {sc : Scope} {x : Str} (h : locB sc x = true) : Loc sc x := by
  unfold locB at h
  split at h
  · exact .inl (by assumption)
  · exact .inr (by assumption)
  · cases h
theorem glB_ok {sc : Scope} {x : Str} (h : glB sc x = true) : sc.names.lookup x = some .globalImplicit := by
  unfold glB at h
  split at h
  · assumption
  · cases h
theorem okN1 {x : Str} (h : okN x = true) : (x == ("__debug__" : Str)) = false := by
  unfold okN at h
  simp only [Bool.and_eq_true, Bool.not_eq_true'] at h
  exact h.1
theorem okN2 {x : Str} (h : okN x = true) : (x == ("__classdict__" : Str)) = false := by
  unfold okN at h
  simp only [Bool.and_eq_true, Bool.not_eq_true'] at h
  exact h.2.1
theorem okN3 {x : Str} (h : okN x = true) : x ≠ ("__name__" : Str) := by
  unfold okN at h
  simp only [Bool.and_eq_true, Bool.not_eq_true', decide_eq_true_eq] at h
  exact h.2.2
theorem In.vis {g : Gc} {X : Cx} (h : In g X) {x : Str} (v : visB g.sc x = true) : Vis X.env.scope x := by rw [h.sc]; exact visB_ok v
theorem In.loc {g : Gc} {X : Cx} (h : In g X) {x : Str} (v : locB g.sc x = true) : Loc X.env.scope x := by rw [h.sc]; exact locB_ok v
def fnB (g : Gc) (x : Str) : Bool := g.fn x || (match g.sc.names.lookup x with
  | some .local => true
  | _ => false)
theorem In.fnl {g : Gc} {X : Cx} (h : In g X) {x : Str} (v : fnB g x = true) : X.fn x = true ∨ X.env.scope.names.lookup x = some .local := by
  unfold fnB at v
  rw [Bool.or_eq_true] at v
  rcases v with v | v
  · exact .inl (by rw [h.fn]; exact v)
  · split at v
    · exact .inr (by rw [h.sc]; assumption)
    · cases v
theorem In.gl' {g : Gc} {X : Cx} (h : In g X) {x : Str} (v : glB g.sc x = true) : Gl X x := by
  show X.env.scope.names.lookup x = some .globalImplicit
  rw [h.sc]
  exact glB_ok v
theorem In.name {g : Gc} {X : Cx} (h : In g X) {i : Nat} {x : Str} (v : g.N[i]? = some x) : X.N[i]? = some x := by rw [h.N]; exact v
theorem In.mgn {g : Gc} {X : Cx} (h : In g X) {x : Str} {o : Option Value} (v : g.gl.mg x = o) : X.mg x = o := by rw [h.mg]; exact v

/-! ### judgements -/
abbrev KE (c : Cf) (cps : Cps) (σ : St) (ρ : List Sl) (H : Hp) (Q : D → Prop) (Q' : VK) : Prop := ∀ v H' d, EnvOk c cps σ H' ρ → Kp c.W H H' → RepC c ρ H' v d → Q d → Q' v H'
abbrev KA (c : Cf) (cps : Cps) (σ : St) (ρ : List Sl) (H : Hp) (Q : List D → Prop) (Q' : List V → Hp → Prop) : Prop := ∀ vs H' ds, EnvOk c cps σ H' ρ → Kp c.W H H' → RepAC c ρ H' vs ds → Q ds → Q' vs H'
abbrev KT (c : Cf) (cps : Cps) (σ : St) (ρ : List Sl) (H : Hp) (Q : Bool → Prop) (Q' : Bool → Hp → Prop) : Prop := ∀ b H', EnvOk c cps σ H' ρ → Kp c.W H H' → Q b → Q' b H'
structure DE (c : Cf) (e : Expr) (ρ : List Sl) (Q : D → Prop) : Prop where
  run : ∀ cps σ H, EnvOk c cps σ H ρ → ∀ Q', KE c cps σ ρ H Q Q' → esem c.g e σ H Q'
structure DT (c : Cf) (e : Expr) (ρ : List Sl) (Q : Bool → Prop) : Prop where
  run : ∀ cps σ H, EnvOk c cps σ H ρ → ∀ Q', KT c cps σ ρ H Q Q' → tsem c.g e σ H Q'
structure DA (c : Cf) (es : List Expr) (ρ : List Sl) (Q : List D → Prop) : Prop where
  run : ∀ cps σ H, EnvOk c cps σ H ρ → ∀ Q', KA c cps σ ρ H Q Q' → asem c.g es σ H Q'
section
variable {c : Cf} {e : Expr} {es : List Expr} {ρ : List Sl} {Q : D → Prop}
theorem DE.of (h : ∀ X, In c.g X → ∃ t, PE X e t ∧ ∀ cps σ H, EnvOk c cps σ H ρ → ∀ Q', KE c cps σ ρ H Q Q' → t σ H Q') : DE c e ρ Q :=
  ⟨fun cps σ H env Q' k X hX pins s I => by
    obtain ⟨t, p, r⟩ := h X hX
    exact p.run pins s σ H Q' I (r cps σ H env Q' k)⟩
theorem DT.of {Q : Bool → Prop} (h : ∀ X, In c.g X → ∃ t, PT X e t ∧ ∀ cps σ H, EnvOk c cps σ H ρ → ∀ Q', KT c cps σ ρ H Q Q' → t σ H Q') : DT c e ρ Q :=
  ⟨fun cps σ H env Q' k X hX pins s I => by
    obtain ⟨t, p, r⟩ := h X hX
    exact p.run pins s σ H Q' I (r cps σ H env Q' k)⟩
theorem DA.of {Q : List D → Prop} (h : ∀ X, In c.g X → ∃ t, PA X es t ∧ ∀ cps σ H, EnvOk c cps σ H ρ → ∀ Q', KA c cps σ ρ H Q Q' → t σ H Q') : DA c es ρ Q :=
  ⟨fun cps σ H env Q' k X hX pos pins s I => by
    obtain ⟨t, p, r⟩ := h X hX
    exact p.run pos pins s σ H Q' I (r cps σ H env Q' k)⟩
theorem DE.mono {Q2 : D → Prop} (h : DE c e ρ Q) (hq : ∀ d, Q d → Q2 d) : DE c e ρ Q2 :=
  ⟨fun cps σ H env Q' k => h.run cps σ H env Q' fun v H' d e1 e2 e3 e4 => k v H' d e1 e2 e3 (hq d e4)⟩
theorem DT.mono {Q Q2 : Bool → Prop} (h : DT c e ρ Q) (hq : ∀ d, Q d → Q2 d) : DT c e ρ Q2 :=
  ⟨fun cps σ H env Q' k => h.run cps σ H env Q' fun v H' e1 e2 e4 => k v H' e1 e2 (hq _ e4)⟩
theorem DA.mono {Q Q2 : List D → Prop} (h : DA c es ρ Q) (hq : ∀ d, Q d → Q2 d) : DA c es ρ Q2 :=
  ⟨fun cps σ H env Q' k => h.run cps σ H env Q' fun v H' d e1 e2 e3 e4 => k v H' d e1 e2 e3 (hq d e4)⟩
end

/-! ### kinds of data -/
@[reducible] def IsI (k : Int → Prop) : D → Prop
  | .int i => k i
  | _ => False
@[reducible] def IsB (k : Bool → Prop) : D → Prop
  | .bl i => k i
  | _ => False
@[reducible] def IsS (k : Str → Prop) : D → Prop
  | .str i => k i
  | _ => False
@[reducible] def IsT (k : List D → Prop) : D → Prop
  | .tup i => k i
  | _ => False
@[reducible] def IsL (k : List D → Prop) : D → Prop
  | .lst i => k i
  | _ => False
/-- a list or a tuple -/
@[reducible] def IsQ (k : List D → Prop) : D → Prop
  | .tup i => k i
  | .lst i => k i
  | _ => False
section
variable {k : Int → Prop} {kb : Bool → Prop} {ks : Str → Prop} {kl : List D → Prop} {d : D} {K : PySem.W.Frag} {C : Addr} {W : Option Addr} {av : Addr → Prop} {H : Hp} {v : V}
theorem IsI.mono {k' : Int → Prop} (h : IsI k d) (hk : ∀ i, k i → k' i) : IsI k' d := by
  cases d with
  | int i => exact hk i h
  | _ => exact False.elim h
theorem IsB.mono {k' : Bool → Prop} (h : IsB kb d) (hk : ∀ i, kb i → k' i) : IsB k' d := by
  cases d with
  | bl i => exact hk i h
  | _ => exact False.elim h
theorem IsI.get (h : IsI k d) (r : Rep K C W av H v d) : ∃ i, d = .int i ∧ v = .int i ∧ k i := by
  cases d with
  | int i => cases r; exact ⟨i, rfl, rfl, h⟩
  | _ => exact False.elim h
theorem IsB.get (h : IsB kb d) (r : Rep K C W av H v d) : ∃ i, d = .bl i ∧ v = .bl i ∧ kb i := by
  cases d with
  | bl i => cases r; exact ⟨i, rfl, rfl, h⟩
  | _ => exact False.elim h
theorem IsS.get (h : IsS ks d) (r : Rep K C W av H v d) : ∃ i, d = .str i ∧ v = .str i ∧ ks i := by
  cases d with
  | str i => cases r; exact ⟨i, rfl, rfl, h⟩
  | _ => exact False.elim h
theorem IsT.get (h : IsT kl d) (r : Rep K C W av H v d) : ∃ l a xs, d = .tup l ∧ v = .ref a ∧ SqT K H a xs ∧ RepAll K C W av H xs l ∧ kl l := by
  cases d with
  | tup l => cases r with
    | tup t rs => exact ⟨l, _, _, rfl, rfl, t, rs, h⟩
  | _ => exact False.elim h
theorem IsL.get (h : IsL kl d) (r : Rep K C W av H v d) : ∃ l a xs, d = .lst l ∧ v = .ref a ∧ LsAt K W av H a xs ∧ RepAll K C W av H xs l ∧ kl l := by
  cases d with
  | lst l => cases r with
    | lst t rs => exact ⟨l, _, _, rfl, rfl, t, rs, h⟩
  | _ => exact False.elim h
theorem IsQ.get (h : IsQ kl d) (r : Rep K C W av H v d) : ∃ l a xs, v = .ref a ∧ ((d = .tup l ∧ SqT K H a xs) ∨ (d = .lst l ∧ LsAt K W av H a xs)) ∧ RepAll K C W av H xs l ∧ kl l := by
  cases d with
  | tup l => cases r with
    | tup t rs => exact ⟨l, _, _, rfl, .inl ⟨rfl, t⟩, rs, h⟩
  | lst l => cases r with
    | lst t rs => exact ⟨l, _, _, rfl, .inr ⟨rfl, t⟩, rs, h⟩
  | _ => exact False.elim h
end

/-! ### names and constants -/
section
variable {c : Cf} {ρ : List Sl} {Q : D → Prop} {pos : Pos}
theorem de_v (i : Nat) {x : Str} {d : D} (e : ρ[i]? = some (.dat d)) (hq : Q d) (hN : c.g.N[i]? = some x := by kernel_rfl) (hv : visB c.g.sc x = true := by kernel_rfl) (ho : okN x = true := by kernel_rfl) : DE c (.Name x pos) ρ Q :=
  DE.of fun X hX => ⟨tVar i, pe_var (hX.name hN) (hX.vis hv) (okN1 ho) (okN2 ho), fun cps σ H env Q' k => by
    obtain ⟨v, h1, h2⟩ := env.dat i d e
    exact ⟨v, h1, k v H d env Kq.refl h2 hq⟩⟩
theorem de_int {i j} (hq : Q (.int i)) : DE c (.Constant (.int i) j pos) ρ Q :=
  DE.of fun X hX => ⟨_, pe_int, fun cps σ H env Q' k => k _ H _ env Kq.refl (.int i) hq⟩
theorem de_bl {i j} (hq : Q (.bl i)) : DE c (.Constant (.bool i) j pos) ρ Q :=
  DE.of fun X hX => ⟨_, pe_bl, fun cps σ H env Q' k => k _ H _ env Kq.refl (.bl i) hq⟩
theorem de_non {j} (hq : Q .non) : DE c (.Constant .none j pos) ρ Q :=
  DE.of fun X hX => ⟨_, pe_non, fun cps σ H env Q' k => k _ H _ env Kq.refl .non hq⟩
theorem de_str {i j} (hq : Q (.str i)) : DE c (.Constant (.str i) j pos) ρ Q :=
  DE.of fun X hX => ⟨_, pe_str, fun cps σ H env Q' k => k _ H _ env Kq.refl (.str i) hq⟩
/-- what a module's name stands for -/
structure GlIs (gl : Glob) (x : Str) (d : D) : Prop where
  val : ∃ (u : Value) (v : V), gl.mg x = some u ∧ RelV v u ∧ ∀ W av H, Rep gl.K gl.C W av H v d
theorem de_g {x : Str} {d : D} (h : GlIs c.g.gl x d) (hq : Q d) (hv : glB c.g.sc x = true := by kernel_rfl) (ho : okN x = true := by kernel_rfl) : DE c (.Name x pos) ρ Q := by
  obtain ⟨u, v, h1, h2, h3⟩ := h.val
  exact DE.of fun X hX => ⟨tC v, pe_glob (hX.gl' hv) (hX.mgn h1) h2 (okN1 ho), fun cps σ H env Q' k => k _ H _ env Kq.refl (h3 _ _ _) hq⟩

/-! ### arguments -/
theorem da_nil {Q : List D → Prop} (hq : Q []) : DA c [] ρ Q :=
  DA.of fun X hX => ⟨_, pa_nil, fun cps σ H env Q' k => k _ H _ env Kq.refl .nil hq⟩
theorem da_cons {e : Expr} {es : List Expr} {Q : List D → Prop} (h : DE c e ρ fun d => DA c es ρ fun ds => Q (d :: ds))
    (hs : ∀ env, starEach (e :: es) env = (false, eval e env) :: starEach es env := by intro _; rfl) : DA c (e :: es) ρ Q :=
  DA.of fun X hX => ⟨_, pa_cons (hX.pe e) (hX.pa es) (hs _), fun cps σ H env Q' k => h.run cps σ H env _ fun v H1 d env1 k1 r1 h1 =>
    h1.run cps σ H1 env1 _ fun vs H2 ds env2 k2 r2 h2 => k _ H2 _ env2 (k1.trans k2) (.cons (env1.rep k2 r1) r2) h2⟩

/-! ### arithmetic -/
variable {a b : Expr}
theorem de_opI {op : Operator} {g : Int → Int → Int} (P : Int → Int → Prop) (ho : ∀ X, OpR X (binaryOp op) (rI P fun i j => .int (g i j)))
    (h : DE c a ρ (IsI fun i => DE c b ρ (IsI fun j => P i j ∧ Q (.int (g i j))))) : DE c (.BinOp a op b pos) ρ Q :=
  DE.of fun X hX => ⟨_, pe_op (ho X) (hX.pe a) (hX.pe b), fun cps σ H env Q' k => h.run cps σ H env _ fun v H1 d env1 k1 r1 h1 => by
    obtain ⟨i, rfl, rfl, h1⟩ := IsI.get h1 r1
    refine h1.run cps σ H1 env1 _ fun u H2 d2 env2 k2 r2 h2 => ?_
    obtain ⟨j, rfl, rfl, h2, h3⟩ := IsI.get h2 r2
    exact ⟨i, j, rfl, rfl, h2, k _ H2 _ env2 (k1.trans k2) (.int _) h3⟩⟩
theorem opI_of0 {X : Cx} {op : Operator} {g : Int → Int → V} (h : OpR X (binaryOp op) (rI0 g)) : OpR X (binaryOp op) (rI (fun _ _ => True) g) := by
  intro pins s σ H x y v u Q I rx ry hh
  obtain ⟨i, j, e1, e2, _, q⟩ := hh
  exact h pins s σ H x y v u Q I rx ry ⟨i, j, e1, e2, q⟩
theorem de_add (h : DE c a ρ (IsI fun i => DE c b ρ (IsI fun j => Q (.int (i + j))))) : DE c (.BinOp a .Add b pos) ρ Q :=
  de_opI (fun _ _ => True) (fun X => opI_of0 op_add) (h.mono fun d hd => hd.mono fun i hi => hi.mono fun d2 h2 => h2.mono fun j hj => ⟨trivial, hj⟩)
theorem de_sub (h : DE c a ρ (IsI fun i => DE c b ρ (IsI fun j => Q (.int (i - j))))) : DE c (.BinOp a .Sub b pos) ρ Q :=
  de_opI (fun _ _ => True) (fun X => opI_of0 op_sub) (h.mono fun d hd => hd.mono fun i hi => hi.mono fun d2 h2 => h2.mono fun j hj => ⟨trivial, hj⟩)
theorem de_mul (h : DE c a ρ (IsI fun i => DE c b ρ (IsI fun j => CMul i j ∧ Q (.int (i * j))))) : DE c (.BinOp a .Mult b pos) ρ Q :=
  de_opI CMul (fun X => op_mul) h
theorem de_mod (h : DE c a ρ (IsI fun i => DE c b ρ (IsI fun j => 0 < j ∧ Q (.int (i % j))))) : DE c (.BinOp a .Mod b pos) ρ Q :=
  de_opI (fun _ j => 0 < j) (fun X => op_mod) h
theorem de_fdiv (h : DE c a ρ (IsI fun i => DE c b ρ (IsI fun j => CDiv i j ∧ Q (.int (i / j))))) : DE c (.BinOp a .FloorDiv b pos) ρ Q :=
  de_opI CDiv (fun X => op_fdiv) h
theorem de_pow (h : DE c a ρ (IsI fun i => DE c b ρ (IsI fun j => CPow i j ∧ Q (.int (i ^ j.toNat))))) : DE c (.BinOp a .Pow b pos) ρ Q :=
  de_opI CPow (fun X => op_pow) h
theorem de_neg (h : DE c a ρ (IsI fun i => Q (.int (-i)))) : DE c (.UnaryOp .USub a pos) ρ Q :=
  DE.of fun X hX => ⟨_, pe_un un_neg (hX.pe a), fun cps σ H env Q' k => h.run cps σ H env _ fun v H1 d env1 k1 r1 h1 => by
    obtain ⟨i, rfl, rfl, h1⟩ := IsI.get h1 r1
    exact ⟨i, rfl, k _ H1 _ env1 k1 (.int _) h1⟩⟩
theorem le_size {n : Nat} (h : n ≤ 1000000) : n ≤ sizeLine := Nat.le_trans h (by decide)
/-- t + u, tuples -/
theorem de_cat (h : DE c a ρ (IsT fun l => DE c b ρ (IsT fun m => l.length + m.length ≤ 1000000 ∧ Q (.tup (l ++ m))))) : DE c (.BinOp a .Add b pos) ρ Q :=
  DE.of fun X hX => ⟨_, pe_op op_catA (hX.pe a) (hX.pe b), fun cps σ H env Q' k => h.run cps σ H env _ fun v H1 d env1 k1 r1 h1 => by
    obtain ⟨l, a1, xs, rfl, rfl, t1, rs1, h1⟩ := IsT.get h1 r1
    refine h1.run cps σ H1 env1 _ fun u H2 d2 env2 k2 r2 h2 => ?_
    obtain ⟨m, a2, ys, rfl, rfl, t2, rs2, hz, h2⟩ := IsT.get h2 r2
    have t1' : SqT c.g.gl.K H2 a1 xs := Kq.tup k2 t1
    have rs1' : RepAC c ρ H2 xs l := RepAll.kq (Kq.of_kp k2) _ _ rs1
    refine ⟨a1, a2, xs, ys, rfl, rfl, hX.sqt t1', hX.sqt t2, ?_, fun e => ?_, fun _ e => ?_, fun _ _ p hp => ?_⟩
    · rw [rs1'.len, rs2.len]; exact le_size hz
    · subst e
      have e2 := rs1'.len
      have e3 : l = [] := by cases l with
        | nil => rfl
        | cons _ _ => cases e2
      subst e3
      exact k _ H2 _ env2 (k1.trans k2) (.tup t2 rs2) h2
    · subst e
      have e2 := rs2.len
      have e3 : m = [] := by cases m with
        | nil => rfl
        | cons _ _ => cases e2
      subst e3
      rw [List.append_nil] at h2
      exact k _ H2 _ env2 (k1.trans k2) (.tup t1' rs1') h2
    · have s := same_upd (o := .tup (xs ++ ys)) hp
      have kk : Kp c.W H2 (upd H2 p (.tup (xs ++ ys))) := Kq.of_same s
      exact k _ _ _ (env2.same s) ((k1.trans k2).trans kk) (.tup (SqT.of upd_same) (RepAll.kq (Kq.of_same s) _ _ (rs1'.append rs2))) h2⟩
/-- xs * n, lists -/
theorem replicate_flat {α : Type} : ∀ (n : Nat) (x : α), (List.replicate n [x]).flatten = List.replicate n x
  | 0, _ => rfl
  | n + 1, x => by
    rw [List.replicate_succ, List.flatten_cons, replicate_flat n x]
    rfl
/-- [x] * n -/
theorem de_repL {e : Expr} {p1 : Pos} (h : DE c e ρ fun x => DE c b ρ (IsI fun n => 0 ≤ n ∧ n ≤ 1000 ∧ Q (.lst (List.replicate n.toNat x))))
    (hs : ∀ env, starEach [e] env = (false, eval e env) :: starEach [] env := by intro _; rfl) : DE c (.BinOp (.List [e] p1) .Mult b pos) ρ Q :=
  DE.of fun X hX => ⟨_, pe_op op_rep (pe_lst (pa_cons (hX.pe e) pa_nil (hs _))) (hX.pe b), fun cps σ H env Q' k => h.run cps σ H env _ fun v H1 d env1 k1 r1 h1 => by
    refine ⟨by show 1 ≤ sizeLine; decide, fun p hp => ?_⟩
    have s := same_upd (o := .lst [v]) hp
    obtain ⟨n1, n2⟩ := env1.fresh hp
    refine h1.run cps σ _ (env1.same s) _ fun u H2 d2 env2 k2 r2 h2 => ?_
    obtain ⟨n, rfl, rfl, h0, hz, h2⟩ := IsI.get h2 r2
    refine ⟨p, n, [v], rfl, rfl, k2.at_ upd_same n1 (fun z => z), by omega, by omega, ?_, fun q hq => ?_⟩
    · rw [List.length_singleton, Nat.one_mul]
      exact le_size (by omega)
    · rw [replicate_flat]
      have s2 := same_upd (o := .lst (List.replicate n.toNat v)) hq
      obtain ⟨m1, m2⟩ := env2.fresh hq
      have rv : RepC c ρ H2 v d := Rep.kq (Kq.of_kp k2) _ _ (Rep.kq (Kq.of_same s) _ _ r1)
      exact k _ _ _ (env2.same s2) (((k1.trans (Kq.of_same s)).trans k2).trans (Kq.of_same s2)) (.lst (.inl ⟨.inl upd_same, m1, m2⟩) (RepAll.kq (Kq.of_same s2) _ _ (RepAll.rep rv n.toNat))) h2⟩
end
end Dl
/-! Dl3: comparisons, tests, places, slices, displays, attributes, calls. -/
namespace Dl
open PySem PySem.Spec PyProof.Rows L2

/-! ### comparisons -/
abbrev KC (c : Cf) (cps : Cps) (σ : St) (ρ : List Sl) (H : Hp) (Q : Bool → Prop) (Q' : VK) : Prop := ∀ k H', EnvOk c cps σ H' ρ → Kp c.W H H' → Q k → Q' (.bl k) H'
structure DC (c : Cf) (op : CmpOp) (a b : Expr) (ρ : List Sl) (Q : Bool → Prop) : Prop where
  run : ∀ X, In c.g X → ∃ r, OpR X (compareOp op) r ∧ behindInMarks op b = false ∧ ∀ cps σ H, EnvOk c cps σ H ρ → ∀ Q' : VK, KC c cps σ ρ H Q Q' → tOp r (esem c.g a) (esem c.g b) σ H Q'
section
variable {c : Cf} {ρ : List Sl} {Q : D → Prop} {Qb : Bool → Prop} {pos : Pos} {a b e : Expr} {op : CmpOp}
theorem de_cmp (h : DC c op a b ρ fun k => Q (.bl k)) : DE c (.Compare a [op] [b] pos) ρ Q :=
  DE.of fun X hX => by
    obtain ⟨r, ho, hm, hh⟩ := h.run X hX
    exact ⟨_, pe_cmpR ho (hX.pe a) (hX.pe b) hm, fun cps σ H env Q' k => hh cps σ H env Q' fun z H' e1 k1 q => k _ H' _ e1 k1 (.bl z) q⟩
theorem dt_cmp (h : DC c op a b ρ Qb) : DT c (.Compare a [op] [b] pos) ρ Qb :=
  DT.of fun X hX => by
    obtain ⟨r, ho, hm, hh⟩ := h.run X hX
    exact ⟨_, pt_cmpR ho (hX.pe a) (hX.pe b) hm, fun cps σ H env Q' k => hh cps σ H env (fun x H' => ∃ k, x = .bl k ∧ Q' k H') fun z H' e1 k1 q => ⟨z, rfl, k _ H' e1 k1 q⟩⟩
theorem dc_int {g : Int → Int → Bool} (ho : ∀ X, OpR X (compareOp op) (rI0 fun i j => .bl (g i j))) (h : DE c a ρ (IsI fun i => DE c b ρ (IsI fun j => Qb (g i j))))
    (hm : behindInMarks op b = false) : DC c op a b ρ Qb :=
  ⟨fun X hX => ⟨_, ho X, hm, fun cps σ H env Q' k => h.run cps σ H env _ fun v H1 d env1 k1 r1 h1 => by
    obtain ⟨i, rfl, rfl, h1⟩ := IsI.get h1 r1
    refine h1.run cps σ H1 env1 _ fun u H2 d2 env2 k2 r2 h2 => ?_
    obtain ⟨j, rfl, rfl, h2⟩ := IsI.get h2 r2
    exact ⟨i, j, rfl, rfl, k _ H2 env2 (k1.trans k2) h2⟩⟩⟩
theorem dc_lt (h : DE c a ρ (IsI fun i => DE c b ρ (IsI fun j => Qb (decide (i < j))))) : DC c .Lt a b ρ Qb := dc_int (fun X => op_lt) h (nomark _)
theorem dc_le (h : DE c a ρ (IsI fun i => DE c b ρ (IsI fun j => Qb (decide (i ≤ j))))) : DC c .LtE a b ρ Qb := dc_int (fun X => op_le) h (nomark _)
theorem dc_gt (h : DE c a ρ (IsI fun i => DE c b ρ (IsI fun j => Qb (decide (j < i))))) : DC c .Gt a b ρ Qb := dc_int (fun X => op_gt) h (nomark _)
theorem dc_ge (h : DE c a ρ (IsI fun i => DE c b ρ (IsI fun j => Qb (decide (j ≤ i))))) : DC c .GtE a b ρ Qb := dc_int (fun X => op_ge) h (nomark _)
/-- == of scalars: two ints, two texts, two bools, None -/
def sc2 : D → D → Option Bool
  | .int i, .int j => some (decide (i = j))
  | .str i, .str j => some (decide (i = j))
  | .bl i, .bl j => some (decide (i = j))
  | .non, .non => some true
  | _, _ => none
theorem sc2_ok {K : PySem.W.Frag} {C : Addr} {W : Option Addr} {av : Addr → Prop} {H H' : Hp} {v u : V} {x y : D} {k : Bool} (h : sc2 x y = some k) (r : Rep K C W av H v x) (s : Rep K C W av H' u y) : scal v u = true ∧ decide (v = u) = k := by
  cases x <;> cases y <;> first | (cases h; done) | (cases r; cases s; cases h; refine ⟨rfl, ?_⟩; simp)
theorem dc_eq (h : DE c a ρ fun x => DE c b ρ fun y => ∃ k, sc2 x y = some k ∧ Qb k) : DC c .Eq a b ρ Qb :=
  ⟨fun X hX => ⟨_, op_eq, nomark _, fun cps σ H env Q' k => h.run cps σ H env _ fun v H1 d env1 k1 r1 h1 => by
    refine h1.run cps σ H1 env1 _ fun u H2 d2 env2 k2 r2 ⟨z, hz, q⟩ => ?_
    obtain ⟨e1, e2⟩ := sc2_ok hz r1 r2
    refine ⟨e1, ?_⟩
    rw [e2]
    exact k _ H2 env2 (k1.trans k2) q⟩⟩
theorem dc_ne (h : DE c a ρ fun x => DE c b ρ fun y => ∃ k, sc2 x y = some k ∧ Qb (!k)) : DC c .NotEq a b ρ Qb :=
  ⟨fun X hX => ⟨_, op_ne, nomark _, fun cps σ H env Q' k => h.run cps σ H env _ fun v H1 d env1 k1 r1 h1 => by
    refine h1.run cps σ H1 env1 _ fun u H2 d2 env2 k2 r2 ⟨z, hz, q⟩ => ?_
    obtain ⟨e1, e2⟩ := sc2_ok hz r1 r2
    refine ⟨e1, ?_⟩
    rw [e2]
    exact k _ H2 env2 (k1.trans k2) q⟩⟩
/-- None or not -/
def isNon : D → Bool
  | .non => true
  | _ => false
theorem isNon_ok {K : PySem.W.Frag} {C : Addr} {W : Option Addr} {av : Addr → Prop} {H : Hp} {v : V} {x : D} (r : Rep K C W av H v x) : decide (v = .non) = isNon x := by
  cases r <;> simp [isNon]
theorem dc_isN {j p2} (h : DE c a ρ fun x => Qb (isNon x)) : DC c .Is a (.Constant .none j p2) ρ Qb :=
  ⟨fun X hX => ⟨_, op_isN, nomark _, fun cps σ H env Q' k => h.run cps σ H env _ fun v H1 d env1 k1 r1 h1 =>
    fun Y hY pins s I => pe_non.run pins s σ H1 _ I (show _ ∧ _ from ⟨rfl, by
      show Q' (.bl (decide (v = .non))) H1
      rw [isNon_ok r1]
      exact k _ H1 env1 k1 h1⟩)⟩⟩
theorem dc_notN {j p2} (h : DE c a ρ fun x => Qb (!isNon x)) : DC c .IsNot a (.Constant .none j p2) ρ Qb :=
  ⟨fun X hX => ⟨_, op_notN, nomark _, fun cps σ H env Q' k => h.run cps σ H env _ fun v H1 d env1 k1 r1 h1 =>
    fun Y hY pins s I => pe_non.run pins s σ H1 _ I (show _ ∧ _ from ⟨rfl, by
      show Q' (.bl (!decide (v = .non))) H1
      rw [isNon_ok r1]
      exact k _ H1 env1 k1 h1⟩)⟩⟩
theorem shaped1 {s : Str} (h : PyData.strOk s = true) : SeqAt.shaped (.tuple [.str s]) = true := by
  unfold SeqAt.shaped
  simp [PyData.canLay0, PyData.canLayAll0, PyData.depth, PyData.depthAll, h]
/-- (text,) == (text,) -/
theorem dc_eqT1 (h : DE c a ρ fun x => ∃ s, x = .tup [.str s] ∧ PyData.strOk s = true ∧ DE c b ρ fun y => ∃ t, y = .tup [.str t] ∧ PyData.strOk t = true ∧ Qb (decide (s = t))) : DC c .Eq a b ρ Qb :=
  ⟨fun X hX => ⟨_, op_eqD hX.room.units, nomark _, fun cps σ H env Q' k => h.run cps σ H env _ fun v H1 d env1 k1 r1 ⟨s, e1, so, h1⟩ => by
    subst e1
    refine h1.run cps σ H1 env1 _ fun u H2 d2 env2 k2 r2 ⟨t, e2, to, q⟩ => ?_
    subst e2
    have r1' : RepC c ρ H2 v (.tup [.str s]) := Rep.kq (Kq.of_kp k2) _ _ r1
    cases r1' with
    | tup t1 a1 =>
      cases r2 with
      | tup t2 a2 =>
        cases a1 with
        | cons q1 q1' =>
          cases q1'
          cases q1
          cases a2 with
          | cons q2 q2' =>
            cases q2'
            cases q2
            refine ⟨_, _, .tup (hX.sqt t1) (.cons (.str s) .nil), .tup (hX.sqt t2) (.cons (.str t) .nil), shaped1 so, shaped1 to, ?_⟩
            have e3 : PyData.eqv (.tuple [.str s]) (.tuple [.str t]) = decide (s = t) := by
              by_cases e : s = t
              · subst e
                rw [decide_eq_true rfl]
                exact SeqAt.eqv_refl _ (SeqAt.canLay_of_shaped (shaped1 so))
              · rw [decide_eq_false e]
                simp [PyData.eqv, PyData.eqvAll, e]
            rw [e3]
            exact k _ H2 env2 (k1.trans k2) q⟩⟩
/-- an int in a list or tuple of ints -/
theorem ints_of {K : PySem.W.Frag} {C : Addr} {W : Option Addr} {av : Addr → Prop} {H : Hp} : ∀ {ns : List Int} {xs : List V}, RepAll K C W av H xs (ns.map D.int) → xs = ns.map V.int
  | [], _, h => by cases h; rfl
  | n :: ns, _, h => by
    cases h with
    | cons r rs =>
      cases r
      rw [ints_of rs]
      rfl
theorem strs_of {K : PySem.W.Frag} {C : Addr} {W : Option Addr} {av : Addr → Prop} {H : Hp} : ∀ {ns : List Str} {xs : List V}, RepAll K C W av H xs (ns.map D.str) → xs = ns.map V.str
  | [], _, h => by cases h; rfl
  | n :: ns, _, h => by
    cases h with
    | cons r rs =>
      cases r
      rw [strs_of rs]
      rfl
theorem bls_of {K : PySem.W.Frag} {C : Addr} {W : Option Addr} {av : Addr → Prop} {H : Hp} : ∀ {ns : List Bool} {xs : List V}, RepAll K C W av H xs (ns.map D.bl) → xs = ns.map V.bl
  | [], _, h => by cases h; rfl
  | n :: ns, _, h => by
    cases h with
    | cons r rs =>
      cases r
      rw [bls_of rs]
      rfl
theorem rep_ints {K : PySem.W.Frag} {C : Addr} {W : Option Addr} {av : Addr → Prop} {H : Hp} : ∀ (ns : List Int), RepAll K C W av H (ns.map V.int) (ns.map D.int)
  | [] => .nil
  | n :: ns => .cons (.int n) (rep_ints ns)
theorem inV_int (i : Int) : ∀ ns : List Int, inV (.int i) (ns.map V.int) = decide (i ∈ ns)
  | [] => rfl
  | n :: ns => by
    have ih := inV_int i ns
    unfold inV at ih ⊢
    rw [List.map_cons, List.any_cons, ih]
    show ((n == i) || _) = _
    rw [Bool.eq_iff_iff]
    simp only [Bool.or_eq_true, beq_iff_eq, decide_eq_true_eq, List.mem_cons]
    exact ⟨fun z => z.imp_left Eq.symm, fun z => z.imp_left Eq.symm⟩
theorem inV_str (i : Str) : ∀ ns : List Str, inV (.str i) (ns.map V.str) = decide (i ∈ ns)
  | [] => rfl
  | n :: ns => by
    have ih := inV_str i ns
    unfold inV at ih ⊢
    rw [List.map_cons, List.any_cons, ih]
    show ((n == i) || _) = _
    rw [Bool.eq_iff_iff]
    simp only [Bool.or_eq_true, beq_iff_eq, decide_eq_true_eq, List.mem_cons]
    exact ⟨fun z => z.imp_left Eq.symm, fun z => z.imp_left Eq.symm⟩
theorem flat_int (ns : List Int) : (ns.map V.int).all flatV = true := by
  rw [List.all_map]
  exact List.all_eq_true.mpr fun _ _ => rfl
theorem flat_str (ns : List Str) : (ns.map V.str).all flatV = true := by
  rw [List.all_map]
  exact List.all_eq_true.mpr fun _ _ => rfl
/-- what `in` asks: flat of one kind, in a list or tuple -/
def In2 (x y : D) (k : Bool) : Prop :=
  (∃ (i : Int) (ns : List Int), x = .int i ∧ (y = .tup (ns.map D.int) ∨ y = .lst (ns.map D.int)) ∧ k = decide (i ∈ ns)) ∨
  (∃ (i : Str) (ns : List Str), x = .str i ∧ (y = .tup (ns.map D.str) ∨ y = .lst (ns.map D.str)) ∧ k = decide (i ∈ ns))
theorem in2_ok {K : PySem.W.Frag} {C : Addr} {W : Option Addr} {av : Addr → Prop} {H H' : Hp} {v u : V} {x y : D} {k : Bool} (h : In2 x y k) (r : Rep K C W av H v x) (s : Rep K C W av H' u y) :
    ∃ p xs, u = .ref p ∧ (SqL K H' p xs ∨ SqT K H' p xs) ∧ flatV v = true ∧ xs.all flatV = true ∧ inV v xs = k := by
  rcases h with ⟨i, ns, rfl, rfl | rfl, e⟩ | ⟨i, ns, rfl, rfl | rfl, e⟩
  · cases r
    cases s with
    | tup t rs =>
      have q := ints_of rs
      subst q
      exact ⟨_, _, rfl, .inr t, rfl, flat_int _, by rw [inV_int, e]⟩
  · cases r
    cases s with
    | lst t rs =>
      have q := ints_of rs
      subst q
      exact ⟨_, _, rfl, .inl t.sql, rfl, flat_int _, by rw [inV_int, e]⟩
  · cases r
    cases s with
    | tup t rs =>
      have q := strs_of rs
      subst q
      exact ⟨_, _, rfl, .inr t, rfl, flat_str _, by rw [inV_str, e]⟩
  · cases r
    cases s with
    | lst t rs =>
      have q := strs_of rs
      subst q
      exact ⟨_, _, rfl, .inl t.sql, rfl, flat_str _, by rw [inV_str, e]⟩
theorem dc_in (h : DE c a ρ fun x => DE c b ρ fun y => ∃ k, In2 x y k ∧ Qb k) (hm : behindInMarks .In b = false := by with_unfolding_all rfl) : DC c .In a b ρ Qb :=
  ⟨fun X hX => ⟨_, op_in_seq, hm, fun cps σ H env Q' k => h.run cps σ H env _ fun v H1 d env1 k1 r1 h1 => by
    refine h1.run cps σ H1 env1 _ fun u H2 d2 env2 k2 r2 ⟨z, hz, q⟩ => ?_
    obtain ⟨p, xs, rfl, t, f1, f2, e⟩ := in2_ok hz r1 r2
    refine ⟨p, xs, rfl, t.imp hX.sql hX.sqt, f1, f2, ?_⟩
    rw [e]
    exact k _ H2 env2 (k1.trans k2) q⟩⟩
theorem dc_notIn (h : DE c a ρ fun x => DE c b ρ fun y => ∃ k, In2 x y k ∧ Qb (!k)) (hm : behindInMarks .NotIn b = false := by with_unfolding_all rfl) : DC c .NotIn a b ρ Qb :=
  ⟨fun X hX => ⟨_, op_notIn_seq, hm, fun cps σ H env Q' k => h.run cps σ H env _ fun v H1 d env1 k1 r1 h1 => by
    refine h1.run cps σ H1 env1 _ fun u H2 d2 env2 k2 r2 ⟨z, hz, q⟩ => ?_
    obtain ⟨p, xs, rfl, t, f1, f2, e⟩ := in2_ok hz r1 r2
    refine ⟨p, xs, rfl, t.imp hX.sql hX.sqt, f1, f2, ?_⟩
    rw [e]
    exact k _ H2 env2 (k1.trans k2) q⟩⟩
/-- a <= b <= d, ints -/
theorem chain_rd {d : Expr} {X : Cx} (hX : In c.g X) (h : DE c a ρ (IsI fun i => DE c b ρ (IsI fun j => if i ≤ j then DE c d ρ (IsI fun l => Qb (decide (j ≤ l))) else Qb false))) :
    ∀ cps σ H, EnvOk c cps σ H ρ → ∀ Q' : VK, KC c cps σ ρ H Qb Q' → tChain (rI0 fun i j => .bl (decide (i ≤ j))) (rI0 fun i j => .bl (decide (i ≤ j))) (esem c.g a) (esem c.g b) (esem c.g d) σ H Q' :=
  fun cps σ H env Q' k => h.run cps σ H env _ fun v H1 d1 env1 k1 r1 h1 => by
    obtain ⟨i, rfl, rfl, h1⟩ := IsI.get h1 r1
    refine h1.run cps σ H1 env1 _ fun u H2 d2 env2 k2 r2 h2 => ?_
    obtain ⟨j, rfl, rfl, h2⟩ := IsI.get h2 r2
    refine ⟨i, j, rfl, rfl, _, rfl, ?_⟩
    by_cases hij : i ≤ j
    · rw [if_pos hij] at h2
      rw [if_pos (decide_eq_true hij)]
      refine h2.run cps σ H2 env2 _ fun w H3 d3 env3 k3 r3 h3 => ?_
      obtain ⟨l, rfl, rfl, h3⟩ := IsI.get h3 r3
      exact ⟨j, l, rfl, rfl, k _ H3 env3 ((k1.trans k2).trans k3) h3⟩
    · rw [if_neg hij] at h2
      rw [if_neg (by rw [decide_eq_false hij]; exact Bool.false_ne_true)]
      exact k _ H2 env2 (k1.trans k2) h2
theorem de_chain {d : Expr} (h : DE c a ρ (IsI fun i => DE c b ρ (IsI fun j => if i ≤ j then DE c d ρ (IsI fun l => Q (.bl (decide (j ≤ l)))) else Q (.bl false))))
    (hm : lastMarks [CmpOp.LtE, .LtE] [b, d] = false := by with_unfolding_all rfl) : DE c (.Compare a [.LtE, .LtE] [b, d] pos) ρ Q :=
  DE.of fun X hX => ⟨_, pe_chain op_le op_le (hX.pe a) (hX.pe b) (hX.pe d) hm, fun cps σ H env Q' k => chain_rd (Qb := fun z => Q (.bl z)) hX h cps σ H env Q' fun z H' e1 k1 q => k _ H' _ e1 k1 (.bl z) q⟩
theorem dt_chain {d : Expr} (h : DE c a ρ (IsI fun i => DE c b ρ (IsI fun j => if i ≤ j then DE c d ρ (IsI fun l => Qb (decide (j ≤ l))) else Qb false)))
    (hm : lastMarks [CmpOp.LtE, .LtE] [b, d] = false := by with_unfolding_all rfl) : DT c (.Compare a [.LtE, .LtE] [b, d] pos) ρ Qb :=
  DT.of fun X hX => ⟨_, pt_chain op_le op_le (hX.pe a) (hX.pe b) (hX.pe d) hm, fun cps σ H env Q' k => chain_rd (Qb := Qb) hX h cps σ H env (fun x H' => ∃ k, x = .bl k ∧ Q' k H') fun z H' e1 k1 q => ⟨z, rfl, k _ H' e1 k1 q⟩⟩

/-! ### bools -/
theorem de_one {op : BoolOp} (h : DE c a ρ Q) : DE c (.BoolOp op [a] pos) ρ Q :=
  DE.of fun X hX => ⟨_, pe_one (hX.pe a), fun cps σ H env Q' k => h.run cps σ H env Q' k⟩
theorem de_and {r : List Expr} (h : DE c a ρ (IsB fun k => if k = true then DE c (.BoolOp .And (b :: r) pos) ρ Q else Q (.bl false))) : DE c (.BoolOp .And (a :: b :: r) pos) ρ Q :=
  DE.of fun X hX => ⟨_, pe_and (hX.pe a) (hX.pe _), fun cps σ H env Q' k => h.run cps σ H env _ fun v H1 d env1 k1 r1 h1 => by
    obtain ⟨z, rfl, rfl, h1⟩ := IsB.get h1 r1
    refine ⟨z, rfl, ?_⟩
    cases z with
    | true => exact h1.run cps σ H1 env1 Q' fun v2 H2 d2 e2 k2 r2 q2 => k v2 H2 d2 e2 (k1.trans k2) r2 q2
    | false => exact k _ H1 _ env1 k1 (.bl false) h1⟩
theorem de_or {r : List Expr} (h : DE c a ρ (IsB fun k => if k = true then Q (.bl true) else DE c (.BoolOp .Or (b :: r) pos) ρ Q)) : DE c (.BoolOp .Or (a :: b :: r) pos) ρ Q :=
  DE.of fun X hX => ⟨_, pe_or (hX.pe a) (hX.pe _), fun cps σ H env Q' k => h.run cps σ H env _ fun v H1 d env1 k1 r1 h1 => by
    obtain ⟨z, rfl, rfl, h1⟩ := IsB.get h1 r1
    refine ⟨z, rfl, ?_⟩
    cases z with
    | true => exact k _ H1 _ env1 k1 (.bl true) h1
    | false => exact h1.run cps σ H1 env1 Q' fun v2 H2 d2 e2 k2 r2 q2 => k v2 H2 d2 e2 (k1.trans k2) r2 q2⟩
theorem de_not (h : DE c a ρ (IsB fun k => Q (.bl (!k)))) : DE c (.UnaryOp .Not a pos) ρ Q :=
  DE.of fun X hX => ⟨_, pe_not (hX.pe a), fun cps σ H env Q' k => h.run cps σ H env _ fun v H1 d env1 k1 r1 h1 => by
    obtain ⟨z, rfl, rfl, h1⟩ := IsB.get h1 r1
    exact ⟨z, rfl, k _ H1 _ env1 k1 (.bl _) h1⟩⟩
theorem de_if {t : Expr} (h : DT c t ρ fun k => if k = true then DE c a ρ Q else DE c b ρ Q) : DE c (.IfExp t a b pos) ρ Q :=
  DE.of fun X hX => ⟨_, pe_ifExp (hX.pt t) (hX.pe a) (hX.pe b), fun cps σ H env Q' k => h.run cps σ H env _ fun z H1 env1 k1 h1 => by
    cases z with
    | true => exact h1.run cps σ H1 env1 Q' fun v2 H2 d2 e2 k2 r2 q2 => k v2 H2 d2 e2 (k1.trans k2) r2 q2
    | false => exact h1.run cps σ H1 env1 Q' fun v2 H2 d2 e2 k2 r2 q2 => k v2 H2 d2 e2 (k1.trans k2) r2 q2⟩
/-! ### tests -/
theorem dt_val (h : DE c e ρ (IsB Qb)) (he : ∀ env whole, isTrue e env whole = (do let v ← whole; standAt e.pos; holding [v] (truthy v)) := by intro _ _; rfl) : DT c e ρ Qb :=
  DT.of fun X hX => ⟨_, pt_val (hX.pe e) (he _), fun cps σ H env Q' k => h.run cps σ H env _ fun v H1 d env1 k1 r1 h1 => by
    obtain ⟨z, rfl, rfl, h1⟩ := IsB.get h1 r1
    exact ⟨z, rfl, k _ H1 env1 k1 h1⟩⟩
theorem dt_not (h : DT c a ρ fun k => Qb (!k)) : DT c (.UnaryOp .Not a pos) ρ Qb :=
  DT.of fun X hX => ⟨_, pt_not (hX.pt a), fun cps σ H env Q' k => h.run cps σ H env _ fun z H1 env1 k1 h1 => k _ H1 env1 k1 h1⟩
/-- and, or as tests: two, three items -/
theorem dt_and2 (h : DT c a ρ fun k => if k = true then DT c b ρ Qb else Qb false) : DT c (.BoolOp .And [a, b] pos) ρ Qb :=
  DT.of fun X hX => ⟨_, (pw_and (hX.pt a) (pw_and1 (hX.pt b))).pt, fun cps σ H env Q' k => h.run cps σ H env _ fun z H1 env1 k1 h1 => by
    cases z with
    | true => exact h1.run cps σ H1 env1 Q' fun z2 H2 e2 k2 q2 => k z2 H2 e2 (k1.trans k2) q2
    | false => exact k _ H1 env1 k1 h1⟩
theorem dt_or2 (h : DT c a ρ fun k => if k = true then Qb true else DT c b ρ Qb) : DT c (.BoolOp .Or [a, b] pos) ρ Qb :=
  DT.of fun X hX => ⟨_, (pw_or (hX.pt a) (pw_or1 (hX.pt b))).pt, fun cps σ H env Q' k => h.run cps σ H env _ fun z H1 env1 k1 h1 => by
    cases z with
    | true => exact k _ H1 env1 k1 h1
    | false => exact h1.run cps σ H1 env1 Q' fun z2 H2 e2 k2 q2 => k z2 H2 e2 (k1.trans k2) q2⟩
theorem dt_or3 {d : Expr} (h : DT c a ρ fun k => if k = true then Qb true else DT c b ρ fun k => if k = true then Qb true else DT c d ρ Qb) : DT c (.BoolOp .Or [a, b, d] pos) ρ Qb :=
  DT.of fun X hX => ⟨_, (pw_or (hX.pt a) (pw_or (hX.pt b) (pw_or1 (hX.pt d)))).pt, fun cps σ H env Q' k => h.run cps σ H env _ fun z H1 env1 k1 h1 => by
    cases z with
    | true => exact k _ H1 env1 k1 h1
    | false =>
      refine h1.run cps σ H1 env1 _ fun z2 H2 env2 k2 h2 => ?_
      cases z2 with
      | true => exact k _ H2 env2 (k1.trans k2) h2
      | false => exact h2.run cps σ H2 env2 Q' fun z3 H3 e3 k3 q3 => k z3 H3 e3 ((k1.trans k2).trans k3) q3⟩

/-! ### places, slices, displays -/
theorem atI_map {K : PySem.W.Frag} {C : Addr} {W : Option Addr} {av : Addr → Prop} {H : Hp} {xs : List V} {l : List D} {i : Int} {d : D} (r : RepAll K C W av H xs l) (h : atI l i = some d) : ∃ v, atI xs i = some v ∧ Rep K C W av H v d := by
  unfold atI at h ⊢
  rw [r.len]
  cases e : ixN l.length i with
  | none => rw [e] at h; cases h
  | some j =>
    rw [e] at h
    exact r.get h
theorem de_ix (h : DE c a ρ (IsQ fun l => DE c b ρ (IsI fun i => ∃ d, atI l i = some d ∧ Q d))) (hs : PlainIx b := by exact fun _ _ => rfl) : DE c (.Subscript a b pos) ρ Q :=
  DE.of fun X hX => ⟨_, pe_ix ix_seq (hX.pe a) (hX.pe b) hs, fun cps σ H env Q' k => h.run cps σ H env _ fun v H1 d env1 k1 r1 h1 => by
    obtain ⟨l, a1, xs, rfl, t, rs, h1⟩ := IsQ.get h1 r1
    refine h1.run cps σ H1 env1 _ fun u H2 d2 env2 k2 r2 h2 => ?_
    obtain ⟨i, rfl, rfl, d3, e3, q⟩ := IsI.get h2 r2
    have rs' : RepAC c ρ H2 xs l := RepAll.kq (Kq.of_kp k2) _ _ rs
    obtain ⟨w, hw, rw'⟩ := atI_map rs' e3
    rcases t with ⟨_, t⟩ | ⟨_, t⟩
    · exact .inr (.inl ⟨a1, xs, i, w, rfl, rfl, hX.sqt (Kq.tup k2 t), hw, k w H2 d3 env2 (k1.trans k2) rw' q⟩)
    · exact .inl ⟨a1, xs, i, w, rfl, rfl, hX.sql (LsAt.sql (Kq.ls (Kq.of_kp k2) t)), hw, k w H2 d3 env2 (k1.trans k2) rw' q⟩⟩
/-- xs[i] of the def's own list -/
theorem de_ixOwn (j : Nat) {x : Str} {p1 : Pos} {o : Addr} {l : List D} (e : ρ[j]? = some (.own o l)) (h : DE c b ρ (IsI fun i => ∃ d, atI l i = some d ∧ Q d)) (hN : c.g.N[j]? = some x := by kernel_rfl) (hv : visB c.g.sc x = true := by kernel_rfl) (ho : okN x = true := by kernel_rfl)
    (hs : PlainIx b := by exact fun _ _ => rfl) : DE c (.Subscript (.Name x p1) b pos) ρ Q :=
  DE.of fun X hX => ⟨_, pe_ix ix_list (pe_var (hX.name hN) (hX.vis hv) (okN1 ho) (okN2 ho)) (hX.pe b) hs, fun cps σ H env Q' k => by
    refine ⟨.ref o, (env.own j o l e).1, h.run cps σ H env _ fun u H2 d2 env2 k2 r2 h2 => ?_⟩
    obtain ⟨i, rfl, rfl, d3, e3, q⟩ := IsI.get h2 r2
    obtain ⟨_, _, _, _, xs, hx, rs⟩ := env2.own j o l e
    obtain ⟨w, hw, rw'⟩ := atI_map rs e3
    exact ⟨o, xs, i, w, rfl, rfl, SqL.of hx, hw, k w H2 d3 env2 k2 rw' q⟩⟩
theorem cut_to (xs : List V) (n : Nat) : cutV xs none (some (n : Int)) = xs.take n := by
  unfold cutV
  rw [HT.sIx_none, HT.sIx_nat, List.drop_zero, Nat.sub_zero]
  by_cases h : n ≤ xs.length
  · rw [Nat.min_eq_left h]
  · rw [Nat.min_eq_right (by omega), List.take_length, List.take_of_length_le (by omega)]
theorem cut_from (xs : List V) (n : Nat) : cutV xs (some (n : Int)) none = xs.drop n := by
  unfold cutV
  rw [HT.sIx_none, HT.sIx_nat]
  by_cases h : n ≤ xs.length
  · rw [Nat.min_eq_left h, List.take_of_length_le (by rw [List.length_drop]; exact Nat.le_refl _)]
  · rw [Nat.min_eq_right (by omega), List.drop_length, List.drop_of_length_le (by omega)]
    simp
/-- a slice of a tuple or list, by its two ends -/
theorem slice_tup {X : Cx} (hX : In c.g X) {cps : Cps} {σ : St} {H : Hp} {Q' : VK} {a1 : Addr} {xs : List V} {l m : List D} {lo hi : Option Int} (env : EnvOk c cps σ H ρ) (t : SqT c.g.gl.K H a1 xs) (rs : RepAC c ρ H xs l)
    (hc : ∀ H', Same H H' → RepAC c ρ H' (cutV xs lo hi) m) (hw : HT.sIx xs.length 0 lo = 0 ∧ HT.sIx xs.length xs.length hi = xs.length → l = m) (q : KE c cps σ ρ H (fun d => d = .tup m) Q') : rSlA X.K (.ref a1) lo hi H Q' := by
  refine ⟨a1, xs, rfl, hX.sqt t, fun w => ?_, fun _ p hp => ?_⟩
  · exact q _ H _ env Kq.refl (.tup t rs) (by rw [hw w])
  · have s := same_upd (o := .tup (cutV xs lo hi)) hp
    exact q _ _ _ (env.same s) (Kq.of_same s) (.tup (SqT.of upd_same) (hc _ s)) rfl
theorem slice_lst {X : Cx} (hX : In c.g X) {cps : Cps} {σ : St} {H : Hp} {Q' : VK} {a1 : Addr} {xs : List V} {m : List D} {lo hi : Option Int} (env : EnvOk c cps σ H ρ) (t : LsAt c.g.gl.K c.W (c.av ρ) H a1 xs)
    (hc : ∀ H', Same H H' → RepAC c ρ H' (cutV xs lo hi) m) (q : KE c cps σ ρ H (fun d => d = .lst m) Q') : rSlL X.K (.ref a1) lo hi H Q' := by
  refine ⟨a1, xs, rfl, hX.sql t.sql, fun p hp => ?_⟩
  have s := same_upd (o := .lst (cutV xs lo hi)) hp
  obtain ⟨n1, n2⟩ := env.fresh hp
  exact q _ _ _ (env.same s) (Kq.of_same s) (.lst (.inl ⟨.inl upd_same, n1, n2⟩) (hc _ s)) rfl
theorem rep_take {H H' : Hp} {xs : List V} {l : List D} (rs : RepAC c ρ H xs l) (n : Nat) (s : Same H H') : RepAC c ρ H' (cutV xs none (some (n : Int))) (l.take n) := by
  rw [cut_to]
  exact RepAll.kq (Kq.of_same s) _ _ (rs.take n)
theorem rep_drop {H H' : Hp} {xs : List V} {l : List D} (rs : RepAC c ρ H xs l) (n : Nat) (s : Same H H') : RepAC c ρ H' (cutV xs (some (n : Int)) none) (l.drop n) := by
  rw [cut_from]
  exact RepAll.kq (Kq.of_same s) _ _ (rs.drop n)
variable {p2 : Pos}
/-- t[:n] of a tuple -/
theorem de_toT (h : DE c a ρ (IsT fun l => DE c b ρ (IsI fun i => 0 ≤ i ∧ Q (.tup (l.take i.toNat))))) : DE c (.Subscript a (.Slice none (some b) none p2) pos) ρ Q :=
  DE.of fun X hX => ⟨_, pe_slice sl_tupA (hX.pe a) po_none (po_some (hX.pe b)), fun cps σ H env Q' k => h.run cps σ H env _ fun v H1 d env1 k1 r1 h1 => by
    obtain ⟨l, a1, xs, rfl, rfl, t, rs, h1⟩ := IsT.get h1 r1
    refine h1.run cps σ H1 env1 _ fun u H2 d2 env2 k2 r2 h2 => ?_
    obtain ⟨i, rfl, rfl, h0, q⟩ := IsI.get h2 r2
    obtain ⟨n, rfl⟩ := Int.eq_ofNat_of_zero_le h0
    have rs' : RepAC c ρ H2 xs l := RepAll.kq (Kq.of_kp k2) _ _ rs
    refine ⟨_, rfl, slice_tup hX env2 (Kq.tup k2 t) rs' (fun H' s => rep_take rs' n s) (fun w => ?_) fun v' H' d' e' k' r' q' => ?_⟩
    · have e1 := w.2
      have e2 : HT.sIx xs.length xs.length (some (n : Int)) = min n xs.length := HT.sIx_nat _ _ _
      rw [e2] at e1
      have e3 := rs'.len
      rw [List.take_of_length_le (by omega)]
    · subst q'
      exact k _ H' _ e' ((k1.trans k2).trans k') r' q⟩
/-- t[n:] of a tuple -/
theorem de_fromT (h : DE c a ρ (IsT fun l => DE c b ρ (IsI fun i => 0 ≤ i ∧ Q (.tup (l.drop i.toNat))))) : DE c (.Subscript a (.Slice (some b) none none p2) pos) ρ Q :=
  DE.of fun X hX => ⟨_, pe_slice sl_tupA (hX.pe a) (po_some (hX.pe b)) po_none, fun cps σ H env Q' k => h.run cps σ H env _ fun v H1 d env1 k1 r1 h1 => by
    obtain ⟨l, a1, xs, rfl, rfl, t, rs, h1⟩ := IsT.get h1 r1
    refine h1.run cps σ H1 env1 _ fun u H2 d2 env2 k2 r2 h2 => ?_
    obtain ⟨i, rfl, rfl, h0, q⟩ := IsI.get h2 r2
    obtain ⟨n, rfl⟩ := Int.eq_ofNat_of_zero_le h0
    have rs' : RepAC c ρ H2 xs l := RepAll.kq (Kq.of_kp k2) _ _ rs
    refine ⟨_, rfl, slice_tup hX env2 (Kq.tup k2 t) rs' (fun H' s => rep_drop rs' n s) (fun w => ?_) fun v' H' d' e' k' r' q' => ?_⟩
    · have e1 := w.1
      have e2 : HT.sIx xs.length 0 (some (n : Int)) = min n xs.length := HT.sIx_nat _ _ _
      rw [e2] at e1
      have e3 := rs'.len
      by_cases hn : n = 0
      · subst hn; rfl
      · have e4 : l = [] := List.eq_nil_of_length_eq_zero (by omega)
        subst e4
        rw [List.drop_nil]
    · subst q'
      exact k _ H' _ e' ((k1.trans k2).trans k') r' q⟩
/-- xs[:n] of a list -/
theorem de_toL (h : DE c a ρ (IsL fun l => DE c b ρ (IsI fun i => 0 ≤ i ∧ Q (.lst (l.take i.toNat))))) : DE c (.Subscript a (.Slice none (some b) none p2) pos) ρ Q :=
  DE.of fun X hX => ⟨_, pe_slice sl_list (hX.pe a) po_none (po_some (hX.pe b)), fun cps σ H env Q' k => h.run cps σ H env _ fun v H1 d env1 k1 r1 h1 => by
    obtain ⟨l, a1, xs, rfl, rfl, t, rs, h1⟩ := IsL.get h1 r1
    refine h1.run cps σ H1 env1 _ fun u H2 d2 env2 k2 r2 h2 => ?_
    obtain ⟨i, rfl, rfl, h0, q⟩ := IsI.get h2 r2
    obtain ⟨n, rfl⟩ := Int.eq_ofNat_of_zero_le h0
    have rs' : RepAC c ρ H2 xs l := RepAll.kq (Kq.of_kp k2) _ _ rs
    refine ⟨_, rfl, slice_lst hX env2 (Kq.ls (Kq.of_kp k2) t) (fun H' s => rep_take rs' n s) fun v' H' d' e' k' r' q' => ?_⟩
    subst q'
    exact k _ H' _ e' ((k1.trans k2).trans k') r' q⟩
theorem de_tup {es : List Expr} {x1} (h : DA c es ρ fun ds => ds.length ≤ 1000000 ∧ Q (.tup ds)) : DE c (.Tuple es x1 pos) ρ Q :=
  DE.of fun X hX => ⟨_, pe_tup (hX.pa es), fun cps σ H env Q' k => h.run cps σ H env _ fun vs H1 ds env1 k1 r1 ⟨hz, q⟩ => ⟨by rw [r1.len]; exact le_size hz, fun p hp => by
    have s := same_upd (o := .tup vs) hp
    exact k _ _ _ (env1.same s) (k1.trans (Kq.of_same s)) (.tup (SqT.of upd_same) (RepAll.kq (Kq.of_same s) _ _ r1)) q⟩⟩
theorem de_lst {es : List Expr} (h : DA c es ρ fun ds => ds.length ≤ 1000000 ∧ Q (.lst ds)) : DE c (.List es pos) ρ Q :=
  DE.of fun X hX => ⟨_, pe_lst (hX.pa es), fun cps σ H env Q' k => h.run cps σ H env _ fun vs H1 ds env1 k1 r1 ⟨hz, q⟩ => ⟨by rw [r1.len]; exact le_size hz, fun p hp => by
    have s := same_upd (o := .lst vs) hp
    obtain ⟨n1, n2⟩ := env1.fresh hp
    exact k _ _ _ (env1.same s) (k1.trans (Kq.of_same s)) (.lst (.inl ⟨.inl upd_same, n1, n2⟩) (RepAll.kq (Kq.of_same s) _ _ r1)) q⟩⟩

/-! ### a play's attributes -/
structure PlayCls (gl : Glob) : Prop where
  cl : Cls gl.K gl.C
  kind : NoAttr gl.K gl.C "kind"
  inputs : NoAttr gl.K gl.C "inputs"
  rows : NoAttr gl.K gl.C "rows"
theorem de_attr {f : Str} (T : PlayCls c.g.gl) (hf : NoAttr c.g.gl.K c.g.gl.C f) (g : D → D → D) (hg : ∀ {K C W av H} {vi vr : V} {di dr : D}, Rep K C W av H vi di → Rep K C W av H vr dr → ∃ v, ([("kind", .str "near"), ("inputs", vi), ("rows", vr)] : List (Str × V)).lookup f = some v ∧ Rep K C W av H v (g di dr))
    (h : DE c e ρ fun d => ∃ i r, d = .play i r ∧ Q (g i r)) (hb : ∀ env, attributeBase e f env (eval e env) = eval e env) : DE c (.Attribute e f pos) ρ Q :=
  DE.of fun X hX => ⟨_, pe_fld (hX.pe e) (hb _), fun cps σ H env Q' k => h.run cps σ H env _ fun v H1 d env1 k1 r1 ⟨di, dr, e1, q⟩ => by
    subst e1
    cases r1 with
    | play e2 ri rr =>
      obtain ⟨v, hl, hr⟩ := hg ri rr
      exact ⟨_, _, _, _, v, rfl, e2, by rw [hX.K]; exact T.cl, by rw [hX.K]; exact hf, hl, k _ H1 _ env1 k1 hr q⟩⟩
theorem de_kind (T : PlayCls c.g.gl) (h : DE c e ρ fun d => ∃ i r, d = .play i r ∧ Q (.str "near")) (hb : ∀ env, attributeBase e "kind" env (eval e env) = eval e env := by intro _; rfl) : DE c (.Attribute e "kind" pos) ρ Q :=
  de_attr T T.kind (fun _ _ => .str "near") (fun _ _ => ⟨_, by kernel_rfl, .str _⟩) h hb
theorem de_inputs (T : PlayCls c.g.gl) (h : DE c e ρ fun d => ∃ i r, d = .play i r ∧ Q i) (hb : ∀ env, attributeBase e "inputs" env (eval e env) = eval e env := by intro _; rfl) : DE c (.Attribute e "inputs" pos) ρ Q :=
  de_attr T T.inputs (fun i _ => i) (fun ri _ => ⟨_, by kernel_rfl, ri⟩) h hb
theorem de_rows (T : PlayCls c.g.gl) (h : DE c e ρ fun d => ∃ i r, d = .play i r ∧ Q r) (hb : ∀ env, attributeBase e "rows" env (eval e env) = eval e env := by intro _; rfl) : DE c (.Attribute e "rows" pos) ρ Q :=
  de_attr T T.rows (fun _ r => r) (fun _ rr => ⟨_, by kernel_rfl, rr⟩) h hb

/-! ### calls of the text's own defs -/
abbrev DSp := List D → (D → Prop) → Prop
def spOf (K : PySem.W.Frag) (C : Addr) (n : Nat) (sp : DSp) : Sp := fun vs H Q _ => ∃ (W : Option Addr) (A0 : Addr → Prop) (ds : List D) (post : D → Prop), ds.length = n ∧ RepAll K C W A0 H vs ds ∧ (∀ b, A0 b → ∃ o, H b = some o) ∧ (∀ p, W = some p → HandAt K A0 H p) ∧ sp ds post ∧
  ∀ v H' d, Kp W H H' → Rep K C W A0 H' v d → (∀ p, W = some p → HandAt K A0 H' p) → post d → Q v H'
/-- the module's def x keeps sp -/
def Cal (gl : Glob) (j : Nat) (x : Str) (n : Nat) (sp : DSp) : Prop := ∃ (f : Addr) (fd : FuncData) (ps : List Str), ps.length = n ∧ FnOk gl.P gl.w gl.K gl.mg gl.base CX0 j f fd ps (spOf gl.K gl.C n sp) ∧ gl.mg x = some (.ref f) ∧ PySem.W.keepIn gl.K (.ref f) = true ∧ Binds gl.K fd ps []
theorem Passes0 {X : Cx} : Passes CX0 X E0 := pass0
theorem In.fn' {g : Gc} {X : Cx} (h : In g X) {j : Nat} {f : Addr} {fd : FuncData} {ps : List Str} {sp : Sp} (F : FnOk g.gl.P g.gl.w g.gl.K g.gl.mg g.gl.base CX0 j f fd ps sp) : FnOk X.prog X.w X.K X.mg X.base CX0 j f fd ps sp := by
  rw [h.P, h.w, h.K, h.mg, h.base]
  exact F
theorem de_call {x : Str} {es : List Expr} {j n : Nat} {sp : DSp} {p1 : Pos} (F : Cal c.g.gl j x n sp) (h : DA c (e :: es) ρ fun ds => ds.length = n ∧ sp ds Q) (hj : Nat.ble j c.g.k = true := by rfl) (hv : glB c.g.sc x = true := by kernel_rfl) (ho : okN x = true := by kernel_rfl)
    (he : ∀ env, starEach (e :: es) env = (false, eval e env) :: starEach es env := by intro _; rfl) (hpl : ∀ env, (backTo pos (starEach es env)).any (·.1) = false := by intro _; rfl) : DE c (.Call (.Name x p1) (e :: es) [] pos) ρ Q := by
  obtain ⟨f, fd, ps, hn, F, hm, hk, hb⟩ := F
  refine DE.of fun X hX => ⟨_, pe_call (hX.fn' F) (hX.room.mono (Nat.le_of_ble_eq_true hj)) (hX.gl' hv) (hX.mgn hm) (by rw [hX.K]; exact hk) (by rw [hX.K]; exact hb) .nil Passes0 (hX.pa (e :: es)) (okN1 ho) (he _) (hpl _), fun cps σ H env Q' k => h.run cps σ H env _ fun vs H1 ds env1 k1 r1 ⟨hl, hs⟩ => ?_⟩
  show spOf c.g.gl.K c.g.gl.C n sp (vs ++ []) H1 Q' _
  rw [List.append_nil]
  exact ⟨c.W, c.av ρ, ds, Q, hl, r1, env1.avt, env1.hand, hs, fun v H' d k2 r2 h2 q => k v H' d (env1.kp' k2 h2) (k1.trans k2) r2 q⟩
end
end Dl
/-! Dl4: built-ins over data. -/
namespace Dl
open PySem PySem.Spec PyProof.Rows L2
section
variable {c : Cf} {ρ : List Sl} {Q : D → Prop} {pos p1 : Pos} {a b e : Expr}

/-- a built-in function, a built-in class, by its rule -/
theorem de_blt {x : Str} {id : String} {es : List Expr} {r : Cx → List V → Hp → VK → Prop} {P : List D → Prop} (hc : ∀ X, In c.g X → CallR X (.builtin id) (r X)) (hm : c.g.gl.mg x = none) (hv : bootBuiltins x = some (.builtin id)) (h : DA c (e :: es) ρ P)
    (hr : ∀ X, In c.g X → ∀ cps σ H vs ds, EnvOk c cps σ H ρ → RepAC c ρ H vs ds → P ds → ∀ Q' : VK, KE c cps σ ρ H Q Q' → r X vs H Q') (hg : glB c.g.sc x = true) (ho : okN x = true)
    (he : ∀ env, starEach (e :: es) env = (false, eval e env) :: starEach es env) (hpl : ∀ env, (backTo pos (starEach es env)).any (·.1) = false) : DE c (.Call (.Name x p1) (e :: es) [] pos) ρ Q :=
  DE.of fun X hX => ⟨_, pe_callB (hc X hX) (hX.gl' hg) (hX.mgn hm) hv (hX.pa _) (okN3 ho) (okN1 ho) (he _) (hpl _), fun cps σ H env Q' k => h.run cps σ H env _ fun vs H1 ds env1 k1 r1 q =>
    hr X hX cps σ H1 vs ds env1 r1 q Q' fun v H2 d env2 k2 r2 q2 => k v H2 d env2 (k1.trans k2) r2 q2⟩
theorem de_blty {x : Str} {id : String} {es : List Expr} {r : Cx → List V → Hp → VK → Prop} {P : List D → Prop} (hc : ∀ X, In c.g X → CallR X (.type id) (r X)) (hm : c.g.gl.mg x = none) (hv : bootBuiltins x = some (.type id)) (h : DA c (e :: es) ρ P)
    (hr : ∀ X, In c.g X → ∀ cps σ H vs ds, EnvOk c cps σ H ρ → RepAC c ρ H vs ds → P ds → ∀ Q' : VK, KE c cps σ ρ H Q Q' → r X vs H Q') (hg : glB c.g.sc x = true) (ho : okN x = true)
    (he : ∀ env, starEach (e :: es) env = (false, eval e env) :: starEach es env) (hpl : ∀ env, (backTo pos (starEach es env)).any (·.1) = false) : DE c (.Call (.Name x p1) (e :: es) [] pos) ρ Q :=
  DE.of fun X hX => ⟨_, pe_callTy (hc X hX) (hX.gl' hg) (hX.mgn hm) hv (hX.pa _) (okN3 ho) (okN1 ho) (he _) (hpl _), fun cps σ H env Q' k => h.run cps σ H env _ fun vs H1 ds env1 k1 r1 q =>
    hr X hX cps σ H1 vs ds env1 r1 q Q' fun v H2 d env2 k2 r2 q2 => k v H2 d env2 (k1.trans k2) r2 q2⟩
/-- one argument -/
theorem da_one {P : D → Prop} (h : DE c e ρ P) (hs : ∀ env, starEach [e] env = (false, eval e env) :: starEach [] env) : DA c [e] ρ (fun ds => ∃ d, ds = [d] ∧ P d) :=
  da_cons (h.mono fun d q => da_nil ⟨d, rfl, q⟩) hs
theorem rep1 {K : PySem.W.Frag} {C : Addr} {W : Option Addr} {av : Addr → Prop} {H : Hp} {vs : List V} {d : D} (r : RepAll K C W av H vs [d]) : ∃ v, vs = [v] ∧ Rep K C W av H v d := by
  cases r with
  | cons q qs => cases qs; exact ⟨_, rfl, q⟩
theorem de_len (hm : c.g.gl.mg "len" = none) (h : DE c e ρ (IsQ fun l => Q (.int (l.length : Int)))) (hg : glB c.g.sc "len" = true := by kernel_rfl)
    (hs : ∀ env, starEach [e] env = (false, eval e env) :: starEach [] env := by intro _; rfl) : DE c (.Call (.Name "len" p1) [e] [] pos) ρ Q :=
  de_blt (fun X hX => call_len_seq) hm PySem.boot_len (da_one h hs) (fun X hX cps σ H vs ds env r ⟨d, e1, q⟩ Q' k => by
    subst e1
    obtain ⟨v, rfl, r1⟩ := rep1 r
    obtain ⟨l, a1, xs, rfl, t, rs, q⟩ := IsQ.get q r1
    refine ⟨a1, xs, rfl, ?_, ?_⟩
    · rcases t with ⟨_, t⟩ | ⟨_, t⟩
      · exact .inr (hX.sqt t)
      · exact .inl (hX.sql t.sql)
    · have e2 := rs.len
      rw [e2]
      exact k _ H _ env Kq.refl (.int _) q) hg (by kernel_rfl) hs (fun _ => rfl)
/-- ints, bools in a list -/
def intsD (d : D) (ns : List Int) : Prop := d = .lst (ns.map D.int)
theorem de_min (hm : c.g.gl.mg "min" = none) (h : DE c e ρ fun d => ∃ ns : List Int, d = .lst (ns.map D.int) ∧ 0 < ns.length ∧ ∀ m, m ∈ ns → (∀ y, y ∈ ns → m ≤ y) → Q (.int m)) (hg : glB c.g.sc "min" = true := by kernel_rfl)
    (hs : ∀ env, starEach [e] env = (false, eval e env) :: starEach [] env := by intro _; rfl) : DE c (.Call (.Name "min" p1) [e] [] pos) ρ Q :=
  de_blt (fun X hX => cr_min hX.calm) hm (by decide +kernel) (da_one h hs) (fun X hX cps σ H vs ds env r ⟨d, e1, ns, e2, h0, q⟩ Q' k => by
    subst e1 e2
    obtain ⟨v, rfl, r1⟩ := rep1 r
    cases r1 with
    | lst t rs =>
      have e3 := ints_of rs
      subst e3
      exact ⟨_, ns, rfl, hX.sql t.sql, h0, fun m h1 h2 => k _ H _ env Kq.refl (.int m) (q m h1 h2)⟩) hg (by kernel_rfl) hs (fun _ => rfl)
theorem de_max (hm : c.g.gl.mg "max" = none) (h : DE c e ρ fun d => ∃ ns : List Int, d = .lst (ns.map D.int) ∧ 0 < ns.length ∧ ∀ m, m ∈ ns → (∀ y, y ∈ ns → y ≤ m) → Q (.int m)) (hg : glB c.g.sc "max" = true := by kernel_rfl)
    (hs : ∀ env, starEach [e] env = (false, eval e env) :: starEach [] env := by intro _; rfl) : DE c (.Call (.Name "max" p1) [e] [] pos) ρ Q :=
  de_blt (fun X hX => cr_max hX.calm) hm (by decide +kernel) (da_one h hs) (fun X hX cps σ H vs ds env r ⟨d, e1, ns, e2, h0, q⟩ Q' k => by
    subst e1 e2
    obtain ⟨v, rfl, r1⟩ := rep1 r
    cases r1 with
    | lst t rs =>
      have e3 := ints_of rs
      subst e3
      exact ⟨_, ns, rfl, hX.sql t.sql, h0, fun m h1 h2 => k _ H _ env Kq.refl (.int m) (q m h1 h2)⟩) hg (by kernel_rfl) hs (fun _ => rfl)
theorem de_sorted (hm : c.g.gl.mg "sorted" = none) (h : DE c e ρ fun d => ∃ ns : List Int, d = .lst (ns.map D.int) ∧ ns.length < 64 ∧ ∀ ms : List Int, ms.Perm ns → ms.Pairwise (· ≤ ·) → Q (.lst (ms.map D.int))) (hg : glB c.g.sc "sorted" = true := by kernel_rfl)
    (hs : ∀ env, starEach [e] env = (false, eval e env) :: starEach [] env := by intro _; rfl) : DE c (.Call (.Name "sorted" p1) [e] [] pos) ρ Q :=
  de_blt (fun X hX => cr_sorted) hm (by decide +kernel) (da_one h hs) (fun X hX cps σ H vs ds env r ⟨d, e1, ns, e2, h0, q⟩ Q' k => by
    subst e1 e2
    obtain ⟨v, rfl, r1⟩ := rep1 r
    cases r1 with
    | lst t rs =>
      have e3 := ints_of rs
      subst e3
      refine ⟨_, ns, rfl, hX.sql t.sql, h0, fun ms p h1 h2 hp => ?_⟩
      have s := same_upd (o := .lst (ms.map V.int)) hp
      obtain ⟨n1, n2⟩ := env.fresh hp
      exact k _ _ _ (env.same s) (Kq.of_same s) (.lst (.inl ⟨.inl upd_same, n1, n2⟩) (rep_ints ms)) (q ms h1 h2)) hg (by kernel_rfl) hs (fun _ => rfl)
theorem de_all (hm : c.g.gl.mg "all" = none) (h : DE c e ρ fun d => ∃ bs : List Bool, d = .lst (bs.map D.bl) ∧ Q (.bl (bs.all id))) (hg : glB c.g.sc "all" = true := by kernel_rfl)
    (hs : ∀ env, starEach [e] env = (false, eval e env) :: starEach [] env := by intro _; rfl) : DE c (.Call (.Name "all" p1) [e] [] pos) ρ Q :=
  de_blt (fun X hX => cr_all hX.calm) hm (by decide +kernel) (da_one h hs) (fun X hX cps σ H vs ds env r ⟨d, e1, bs, e2, q⟩ Q' k => by
    subst e1 e2
    obtain ⟨v, rfl, r1⟩ := rep1 r
    cases r1 with
    | lst t rs =>
      have e3 := bls_of rs
      subst e3
      exact ⟨_, bs, rfl, hX.sql t.sql, k _ H _ env Kq.refl (.bl _) q⟩) hg (by kernel_rfl) hs (fun _ => rfl)
theorem de_any (hm : c.g.gl.mg "any" = none) (h : DE c e ρ fun d => ∃ bs : List Bool, d = .lst (bs.map D.bl) ∧ Q (.bl (bs.any id))) (hg : glB c.g.sc "any" = true := by kernel_rfl)
    (hs : ∀ env, starEach [e] env = (false, eval e env) :: starEach [] env := by intro _; rfl) : DE c (.Call (.Name "any" p1) [e] [] pos) ρ Q :=
  de_blt (fun X hX => cr_any hX.calm) hm (by decide +kernel) (da_one h hs) (fun X hX cps σ H vs ds env r ⟨d, e1, bs, e2, q⟩ Q' k => by
    subst e1 e2
    obtain ⟨v, rfl, r1⟩ := rep1 r
    cases r1 with
    | lst t rs =>
      have e3 := bls_of rs
      subst e3
      exact ⟨_, bs, rfl, hX.sql t.sql, k _ H _ env Kq.refl (.bl _) q⟩) hg (by kernel_rfl) hs (fun _ => rfl)
/-- tuple(xs) -/
theorem de_tupleOf (hm : c.g.gl.mg "tuple" = none) (h : DE c e ρ (IsQ fun l => Q (.tup l))) (hg : glB c.g.sc "tuple" = true := by kernel_rfl)
    (hs : ∀ env, starEach [e] env = (false, eval e env) :: starEach [] env := by intro _; rfl) : DE c (.Call (.Name "tuple" p1) [e] [] pos) ρ Q :=
  de_blty (fun X hX => call_tuple_of) hm (by decide +kernel) (da_one h hs) (fun X hX cps σ H vs ds env r ⟨d, e1, q⟩ Q' k => by
    subst e1
    obtain ⟨v, rfl, r1⟩ := rep1 r
    obtain ⟨l, a1, xs, rfl, t, rs, q⟩ := IsQ.get q r1
    refine ⟨a1, xs, rfl, ?_⟩
    rcases t with ⟨_, t⟩ | ⟨_, t⟩
    · exact .inr ⟨hX.sqt t, k _ H _ env Kq.refl (.tup t rs) q⟩
    · refine .inl ⟨hX.sql t.sql, fun p hp => ?_⟩
      have s := same_upd (o := .tup xs) hp
      exact k _ _ _ (env.same s) (Kq.of_same s) (.tup (SqT.of upd_same) (RepAll.kq (Kq.of_same s) _ _ rs)) q) hg (by kernel_rfl) hs (fun _ => rfl)
/-- list(xs) -/
theorem de_listOf (hm : c.g.gl.mg "list" = none) (h : DE c e ρ (IsQ fun l => Q (.lst l))) (hg : glB c.g.sc "list" = true := by kernel_rfl)
    (hs : ∀ env, starEach [e] env = (false, eval e env) :: starEach [] env := by intro _; rfl) : DE c (.Call (.Name "list" p1) [e] [] pos) ρ Q :=
  de_blty (fun X hX => call_list_of) hm (by decide +kernel) (da_one h hs) (fun X hX cps σ H vs ds env r ⟨d, e1, q⟩ Q' k => by
    subst e1
    obtain ⟨v, rfl, r1⟩ := rep1 r
    obtain ⟨l, a1, xs, rfl, t, rs, q⟩ := IsQ.get q r1
    refine ⟨a1, xs, rfl, ?_, fun p hp => ?_⟩
    · rcases t with ⟨_, t⟩ | ⟨_, t⟩
      · exact .inr (hX.sqt t)
      · exact .inl (hX.sql t.sql)
    · have s := same_upd (o := .lst xs) hp
      obtain ⟨n1, n2⟩ := env.fresh hp
      exact k _ _ _ (env.same s) (Kq.of_same s) (.lst (.inl ⟨.inl upd_same, n1, n2⟩) (RepAll.kq (Kq.of_same s) _ _ rs)) q) hg (by kernel_rfl) hs (fun _ => rfl)
/-- tuple(xs) of the def's own list -/
theorem de_tupleOwn (j : Nat) {x : Str} {p2 : Pos} {o : Addr} {l : List D} (hm : c.g.gl.mg "tuple" = none) (e : ρ[j]? = some (.own o l)) (q : Q (.tup l)) (hN : c.g.N[j]? = some x := by kernel_rfl) (hv : visB c.g.sc x = true := by kernel_rfl) (ho : okN x = true := by kernel_rfl)
    (hg : glB c.g.sc "tuple" = true := by kernel_rfl) : DE c (.Call (.Name "tuple" p1) [.Name x p2] [] pos) ρ Q :=
  DE.of fun X hX => ⟨_, pe_callTy call_tuple_of (hX.gl' hg) (hX.mgn hm) (by decide +kernel) (pa_cons (pe_var (hX.name hN) (hX.vis hv) (okN1 ho) (okN2 ho)) pa_nil), fun cps σ H env Q' k => by
    obtain ⟨h1, _, _, _, xs, h5, h6⟩ := env.own j o l e
    refine ⟨_, h1, o, xs, rfl, .inl ⟨SqL.of h5, fun p hp => ?_⟩⟩
    have s := same_upd (o := .tup xs) hp
    exact k _ _ _ (env.same s) (Kq.of_same s) (.tup (SqT.of upd_same) (RepAll.kq (Kq.of_same s) _ _ h6)) q⟩
/-- list(range(n)) -/
theorem rep_rg {K : PySem.W.Frag} {C : Addr} {W : Option Addr} {av : Addr → Prop} {H : Hp} (n : Nat) : RepAll K C W av H (rgV 0 (n : Int)) ((List.range n).map fun i : Nat => D.int (i : Int)) := by
  have e : rgV 0 (n : Int) = ((List.range n).map fun i : Nat => (i : Int)).map V.int := by
    unfold rgV
    rw [List.map_map]
    have e1 : ((n : Int) - 0).toNat = n := by omega
    rw [e1]
    refine List.map_congr_left fun i _ => ?_
    show V.int (0 + (i : Int)) = V.int (i : Int)
    rw [Int.zero_add]
  rw [e]
  have e2 : ((List.range n).map fun i : Nat => D.int (i : Int)) = ((List.range n).map fun i : Nat => (i : Int)).map D.int := by
    rw [List.map_map]
    rfl
  rw [e2]
  exact rep_ints _
theorem de_listRange {p2 p3 : Pos} (hm : c.g.gl.mg "list" = none) (hm2 : c.g.gl.mg "range" = none) (h : DE c e ρ (IsI fun i => ∃ n : Nat, i = (n : Int) ∧ n ≤ 1000 ∧ Q (.lst ((List.range n).map fun i : Nat => D.int (i : Int))))) (hg : glB c.g.sc "list" = true := by kernel_rfl) (hg2 : glB c.g.sc "range" = true := by kernel_rfl)
    (hs : ∀ env, starEach [e] env = (false, eval e env) :: starEach [] env := by intro _; rfl) (hs2 : ∀ env, starEach [Expr.Call (.Name "range" p2) [e] [] p3] env = (false, eval (.Call (.Name "range" p2) [e] [] p3) env) :: starEach [] env := by intro _; rfl) :
    DE c (.Call (.Name "list" p1) [.Call (.Name "range" p2) [e] [] p3] [] pos) ρ Q :=
  DE.of fun X hX => ⟨_, pe_listRg hX.calm (hX.gl' hg) (hX.mgn hm) (prg_1 (hX.gl' hg2) (hX.mgn hm2) (hX.pe e) (hs _)) (hs2 _), fun cps σ H env Q' k => h.run cps σ H env _ fun v H1 d env1 k1 r1 h1 => by
    obtain ⟨i, rfl, rfl, n, rfl, hz, q⟩ := IsI.get h1 r1
    refine ⟨(n : Int), rfl, RgOk.of_le (Int.le_refl 0) (by omega) (by omega) (by omega), fun p hp => ?_⟩
    have s := same_upd (o := .lst (rgV 0 (n : Int))) hp
    obtain ⟨n1, n2⟩ := env1.fresh hp
    exact k _ _ _ (env1.same s) (k1.trans (Kq.of_same s)) (.lst (.inl ⟨.inl upd_same, n1, n2⟩) (rep_rg n)) q⟩
/-! ### isinstance -/
/-- a data's class -/
def tyD : D → Option String
  | .non => some "NoneType"
  | .bl _ => some "bool"
  | .int _ => some "int"
  | .str _ => some "str"
  | .tup _ => some "tuple"
  | .lst _ => some "list"
  | _ => none
theorem tyD_ok {K : PySem.W.Frag} {C : Addr} {W : Option Addr} {av : Addr → Prop} {H : Hp} {v : V} {d : D} {t : String} (r : Rep K C W av H v d) (h : tyD d = some t) : TyX K H v (.type t) := by
  cases r with
  | non => cases h; exact .base .non
  | bl b => cases h; exact .base (.bl b)
  | int b => cases h; exact .base (.int b)
  | str b => cases h; exact .base (.str b)
  | tup t1 _ =>
    cases h
    rcases t1 with (t1 | ⟨o, t1⟩) | ⟨o, its, n, t1, t2, _⟩
    · exact .base (.tup t1)
    · exact .fTuple t1
    · exact .kTuple t1 t2
  | lst t1 _ =>
    cases h
    rcases t1 with ⟨t1 | ⟨o, t1⟩, _⟩ | ⟨o, its, n, t1, t2, _⟩
    · exact .base (.lst t1)
    · exact .base (.frz t1)
    · exact .kList t1 t2
  | hnd _ => cases h
  | fnc _ => cases h
  | play _ _ _ => cases h
/-- isinstance(x, T) of a built-in class T -/
theorem de_isi {x : Str} {T : String} {p2 : Pos} (hm : c.g.gl.mg "isinstance" = none) (hmT : c.g.gl.mg x = none) (hv : bootBuiltins x = some (.type T)) (h : DE c e ρ fun d => ∃ t k, tyD d = some t ∧ kitB t T = some k ∧ Q (.bl k)) (hg : glB c.g.sc "isinstance" = true := by kernel_rfl) (hgT : glB c.g.sc x = true := by kernel_rfl) (ho : okN x = true := by kernel_rfl)
    (hs : ∀ env, starEach [e, .Name x p2] env = (false, eval e env) :: starEach [.Name x p2] env := by intro _; rfl) (hs2 : ∀ env, starEach [Expr.Name x p2] env = (false, eval (.Name x p2) env) :: starEach [] env := by intro _; rfl) (hpl : ∀ env, (backTo pos (starEach [Expr.Name x p2] env)).any (·.1) = false := by intro _; rfl) :
    DE c (.Call (.Name "isinstance" p1) [e, .Name x p2] [] pos) ρ Q :=
  DE.of fun X hX => ⟨_, pe_callB call_isi (hX.gl' hg) (hX.mgn hm) (by decide +kernel) (pa_cons (hX.pe e) (pa_cons (pe_bltn (v := .ty T) (hX.gl' hgT) (hX.mgn hmT) hv rfl (okN3 ho) (okN1 ho)) pa_nil (hs2 _)) (hs _)) (by decide) (by decide) (hs _) (hpl _), fun cps σ H env Q' k => h.run cps σ H env _ fun v H1 d env1 k1 r1 ⟨t, z, h1, h2, q⟩ => by
    have ty := tyD_ok r1 h1
    exact ⟨v, .ty T, .type t, .type T, z, rfl, ClsV.ty T, by rw [hX.K]; exact ty, kit_ty h2, k _ H1 _ env1 k1 (.bl z) q⟩⟩
/-- isinstance(x, (tuple, list)) -/
theorem de_isi2 {x y : Str} {T U : String} {p2 p3 p4 : Pos} {n2} (hm : c.g.gl.mg "isinstance" = none) (hmT : c.g.gl.mg x = none) (hmU : c.g.gl.mg y = none) (hv : bootBuiltins x = some (.type T)) (hv2 : bootBuiltins y = some (.type U))
    (h : DE c e ρ fun d => ∃ t k l, tyD d = some t ∧ kitB t T = some k ∧ kitB t U = some l ∧ Q (.bl (k || l))) (hg : glB c.g.sc "isinstance" = true := by kernel_rfl) (hgT : glB c.g.sc x = true := by kernel_rfl) (ho : okN x = true := by kernel_rfl) (hgU : glB c.g.sc y = true := by kernel_rfl) (hoU : okN y = true := by kernel_rfl)
    (hs : ∀ env, starEach [e, .Tuple [.Name x p2, .Name y p3] n2 p4] env = (false, eval e env) :: starEach [.Tuple [.Name x p2, .Name y p3] n2 p4] env := by intro _; rfl) :
    DE c (.Call (.Name "isinstance" p1) [e, .Tuple [.Name x p2, .Name y p3] n2 p4] [] pos) ρ Q :=
  DE.of fun X hX => ⟨_, pe_callB call_isiT (hX.gl' hg) (hX.mgn hm) (by decide +kernel) (pa_cons (hX.pe e) (pa_cons (pe_tup (pa_cons (pe_bltn (v := .ty T) (hX.gl' hgT) (hX.mgn hmT) hv rfl (okN3 ho) (okN1 ho)) (pa_cons (pe_bltn (v := .ty U) (hX.gl' hgU) (hX.mgn hmU) hv2 rfl (okN3 hoU) (okN1 hoU)) pa_nil))) pa_nil) (hs _)) (by decide) (by decide) (hs _) rfl, fun cps σ H env Q' k => h.run cps σ H env _ fun v H1 d env1 k1 r1 ⟨t, z, l, h1, h2, h3, q⟩ => by
    refine ⟨by show 2 ≤ sizeLine; decide, fun p hp => ?_⟩
    have s := same_upd (o := .tup [.ty T, .ty U]) hp
    have ty := tyD_ok (Rep.kq (Kq.of_same (W := c.W) (av := c.av ρ) s) _ _ r1) h1
    refine ⟨v, p, [.ty T, .ty U], .type t, [.type T, .type U], z || l, rfl, upd_same, .cons (ClsV.ty T) (.cons (ClsV.ty U) .nil), by rw [hX.K]; exact ty, ?_, k _ _ _ (env1.same s) (k1.trans (Kq.of_same s)) (.bl _) q⟩
    refine kitAny_cons (kit_ty h2) (r := z || l) (fun e1 => ?_) (fun e1 => by rw [e1]; rfl)
    rw [e1, Bool.false_or]
    refine kitAny_cons (kit_ty h3) (r := l) (fun e2 => ?_) (fun e2 => e2)
    rw [e2]
    rfl⟩
end
end Dl
/-! Dl5: what is walked, statements, comprehensions, defs. -/
namespace Dl
open PySem PySem.Spec PyProof.Rows L2

/-! ### what is walked -/
def isem (g : Gc) (tg iter : Expr) : TI := fun σ H R => ∀ X, In g X → ∀ pins s, Inv X pins σ H s → wpAny (model X.prog X.w) X.A (eval iter X.env) (fun v s1 => wpAny (model X.prog X.w) X.A (pyIter v) (PIE X pins σ tg R) X.xe s1) X.xe s
theorem In.pi {g : Gc} {X : Cx} (h : In g X) (tg e : Expr) : PI X tg e (isem g tg e) := ⟨fun pins s σ H R I q => q X h pins s I⟩
structure Ylds (c : Cf) (ρ : List Sl) (J : It) (H1 : Hp) (items : List D) : Prop where
  go : ∀ i H, Kq c.W (c.av ρ) H1 H → i < items.length → J.go i H
  yld : ∀ av' : Addr → Prop, (∀ b, c.av ρ b → av' b) → (∀ b, av' b → c.av ρ b ∨ H1 b = none) → ∀ i H x H', Kq c.W (c.av ρ) H1 H → i < items.length → J.yld i H x H' → Same H H' ∧ ∃ d, items[i]? = some d ∧ Rep c.g.gl.K c.g.gl.C c.W av' H' x d
  stop : ∀ i H, Kq c.W (c.av ρ) H1 H → i = items.length → J.stop i H
structure DI (c : Cf) (tg iter : Expr) (ρ : List Sl) (Q : List D → Prop) : Prop where
  run : ∀ cps σ H, EnvOk c cps σ H ρ → ∀ R : It → Hp → Prop, (∀ J H' items, EnvOk c cps σ H' ρ → Kp c.W H H' → Ylds c ρ J H' items → Q items → R J H') → isem c.g tg iter σ H R
section
variable {c : Cf} {ρ : List Sl} {Q : List D → Prop} {pos p1 : Pos} {tg e a b : Expr}
theorem DI.of (h : ∀ X, In c.g X → ∃ t, PI X tg e t ∧ ∀ cps σ H, EnvOk c cps σ H ρ → ∀ R : It → Hp → Prop, (∀ J H' items, EnvOk c cps σ H' ρ → Kp c.W H H' → Ylds c ρ J H' items → Q items → R J H') → t σ H R) : DI c tg e ρ Q :=
  ⟨fun cps σ H env R k X hX pins s I => by
    obtain ⟨t, p, r⟩ := h X hX
    exact p.run pins s σ H R I (r cps σ H env R k)⟩
theorem ylds_lst {X : Cx} (hX : In c.g X) {H1 : Hp} {a1 : Addr} {xs : List V} {l : List D} (t : LsAt c.g.gl.K c.W (c.av ρ) H1 a1 xs) (rs : RepAC c ρ H1 xs l) : Ylds c ρ (Itl X.K a1) H1 l where
  go := fun i H k hi => by
    have e := rs.len
    exact ⟨xs, xs[i]'(by omega), hX.sql (LsAt.sql (Kq.ls k t)), List.getElem?_eq_getElem _⟩
  yld := fun av' s1 s2 i H x H' k hi y => by
    obtain ⟨e1, y⟩ := y
    subst e1
    obtain ⟨d, h1, h2⟩ := RepAll.getV (RepAll.kq (k.mono s1) _ _ (RepAll.avs s2 _ _ rs)) (y xs (hX.sql (LsAt.sql (Kq.ls k t))))
    exact ⟨Same.refl _, d, h1, h2⟩
  stop := fun i H k hi => ⟨xs, hX.sql (LsAt.sql (Kq.ls k t)), by rw [rs.len]; exact Nat.le_of_eq hi.symm⟩
theorem ylds_tup {X : Cx} (hX : In c.g X) {H1 : Hp} {a1 : Addr} {xs : List V} {l : List D} (t : SqT c.g.gl.K H1 a1 xs) (rs : RepAC c ρ H1 xs l) : Ylds c ρ (Itt X.K a1) H1 l where
  go := fun i H k hi => by
    have e := rs.len
    exact ⟨xs, xs[i]'(by omega), hX.sqt (Kq.tup k t), List.getElem?_eq_getElem _⟩
  yld := fun av' s1 s2 i H x H' k hi y => by
    obtain ⟨e1, y⟩ := y
    subst e1
    obtain ⟨d, h1, h2⟩ := RepAll.getV (RepAll.kq (k.mono s1) _ _ (RepAll.avs s2 _ _ rs)) (y xs (hX.sqt (Kq.tup k t)))
    exact ⟨Same.refl _, d, h1, h2⟩
  stop := fun i H k hi => ⟨xs, hX.sqt (Kq.tup k t), by rw [rs.len]; exact Nat.le_of_eq hi.symm⟩
theorem di_lst (h : DE c e ρ (IsL Q)) : DI c tg e ρ Q :=
  DI.of fun X hX => ⟨_, pi_list (hX.pe e), fun cps σ H env R k => h.run cps σ H env _ fun v H1 d env1 k1 r1 h1 => by
    obtain ⟨l, a1, xs, rfl, rfl, t, rs, q⟩ := IsL.get h1 r1
    exact ⟨a1, rfl, ⟨xs, hX.sql t.sql⟩, k _ H1 l env1 k1 (ylds_lst hX t rs) q⟩⟩
theorem di_tup (h : DE c e ρ (IsT Q)) : DI c tg e ρ Q :=
  DI.of fun X hX => ⟨_, pi_tup (hX.pe e), fun cps σ H env R k => h.run cps σ H env _ fun v H1 d env1 k1 r1 h1 => by
    obtain ⟨l, a1, xs, rfl, rfl, t, rs, q⟩ := IsT.get h1 r1
    exact ⟨a1, rfl, ⟨xs, hX.sqt t⟩, k _ H1 l env1 k1 (ylds_tup hX t rs) q⟩⟩
/-- 0 .. n - 1 as data -/
def rangeD (n : Nat) : List D := (List.range n).map fun i : Nat => D.int (i : Int)
theorem rangeD_len (n : Nat) : (rangeD n).length = n := by unfold rangeD; rw [List.length_map, List.length_range]
theorem rangeD_get {n i : Nat} (h : i < n) : (rangeD n)[i]? = some (.int (i : Int)) := by
  unfold rangeD
  rw [List.getElem?_map, List.getElem?_range h]
  rfl
theorem rangeD_at {n i : Nat} {d : D} (h : (rangeD n)[i]? = some d) : i < n ∧ d = .int (i : Int) := by
  have h1 := (List.getElem?_eq_some_iff.mp h).1
  rw [rangeD_len] at h1
  rw [rangeD_get h1] at h
  exact ⟨h1, (Option.some.inj h).symm⟩
theorem di_range (hm : c.g.gl.mg "range" = none) (h : DE c e ρ (IsI fun i => ∃ n : Nat, i = (n : Int) ∧ n ≤ 1000000 ∧ Q (rangeD n))) (hg : glB c.g.sc "range" = true := by kernel_rfl)
    (hs : ∀ env, starEach [e] env = (false, eval e env) :: starEach [] env := by intro _; rfl) (hs2 : ∀ env, starEach [e] env = [(false, eval e env)] := by intro _; rfl) : DI c tg (.Call (.Name "range" p1) [e] [] pos) ρ Q :=
  DI.of fun X hX => ⟨_, pi_range1 (hX.gl' hg) (hX.mgn hm) (pa_cons (hX.pe e) pa_nil (hs _)) (hs2 _), fun cps σ H env R k => h.run cps σ H env _ fun v H1 d env1 k1 r1 h1 => by
    obtain ⟨i, rfl, rfl, n, rfl, hz, q⟩ := IsI.get h1 r1
    have hz1 : ((n : Nat) : Int) ≤ 1000000 := by omega
    refine ⟨(n : Int), rfl, by omega, by omega, k _ H1 (rangeD n) env1 k1 ?_ q⟩
    have en : ((n : Nat) : Int).toNat = n := by omega
    rw [en]
    refine ⟨fun i H _ hi => by rw [rangeD_len] at hi; exact hi, fun av' s1 s2 i H x H' _ hi y => ?_, fun i H _ hi => by rw [rangeD_len] at hi; exact Nat.le_of_eq hi.symm⟩
    obtain ⟨e1, e2⟩ := y
    subst e1 e2
    rw [rangeD_len] at hi
    refine ⟨Same.refl _, _, rangeD_get hi, ?_⟩
    rw [Int.zero_add]
    exact .int _⟩
/-- (i, item) -/
def enumD (l : List D) : List D := l.zipIdx.map fun p => D.tup [.int ((p.2 : Nat) : Int), p.1]
theorem enumD_len (l : List D) : (enumD l).length = l.length := by unfold enumD; rw [List.length_map, List.length_zipIdx]
theorem enumD_get {l : List D} {i : Nat} {d : D} (h : l[i]? = some d) : (enumD l)[i]? = some (.tup [.int (i : Int), d]) := by
  unfold enumD
  rw [List.getElem?_map, List.getElem?_zipIdx, h]
  simp
theorem enumD_at {l : List D} {i : Nat} {x : D} (h : (enumD l)[i]? = some x) : ∃ d, l[i]? = some d ∧ x = .tup [.int (i : Int), d] := by
  have h1 := (List.getElem?_eq_some_iff.mp h).1
  rw [enumD_len] at h1
  have h2 : l[i]? = some l[i] := List.getElem?_eq_getElem h1
  rw [enumD_get h2] at h
  exact ⟨_, h2, (Option.some.inj h).symm⟩
theorem di_enumL {elts : List Expr} {kk : Nat} {tpos : Pos} (hm : c.g.gl.mg "enumerate" = none) (h : DE c e ρ (IsL fun l => Q (enumD l))) (hg : glB c.g.sc "enumerate" = true := by kernel_rfl)
    (hs : ∀ env, starEach [e] env = (false, eval e env) :: starEach [] env := by intro _; rfl) (hs2 : ∀ env, starEach [e] env = [(false, eval e env)] := by intro _; rfl) : DI c (.Tuple elts kk tpos) (.Call (.Name "enumerate" p1) [e] [] pos) ρ Q :=
  DI.of fun X hX => ⟨_, pi_enum (hX.gl' hg) (hX.mgn hm) (pa_cons (hX.pe e) pa_nil (hs _)) (hs2 _), fun cps σ H env R k => h.run cps σ H env _ fun v H1 d env1 k1 r1 h1 => by
    obtain ⟨l, a1, xs, rfl, rfl, t, rs, q⟩ := IsL.get h1 r1
    refine ⟨a1, xs, rfl, hX.sql t.sql, k _ H1 (enumD l) env1 k1 ?_ q⟩
    refine ⟨fun i H kq hi => ?_, fun av' s1 s2 i H x H' kq hi y => ?_, fun i H kq hi => ⟨xs, hX.sql (LsAt.sql (Kq.ls kq t)), by rw [rs.len]; rw [enumD_len] at hi; exact Nat.le_of_eq hi.symm⟩⟩
    · rw [enumD_len, ← rs.len] at hi
      exact ⟨xs, xs[i], hX.sql (LsAt.sql (Kq.ls kq t)), List.getElem?_eq_getElem _⟩
    · obtain ⟨T, x1, e1, hT, e2, y⟩ := y
      subst e1 e2
      obtain ⟨d, h1, h2⟩ := RepAll.getV (RepAll.kq (kq.mono s1) _ _ (RepAll.avs s2 _ _ rs)) (y xs (hX.sql (LsAt.sql (Kq.ls kq t))))
      have s := same_upd (o := .tup [.int (i : Nat), x1]) hT
      exact ⟨s, _, enumD_get h1, .tup (SqT.of upd_same) (.cons (.int _) (.cons (Rep.kq (Kq.of_same s) _ _ h2) .nil))⟩⟩
/-- pairs of two tuples' items -/
def zipD (l m : List D) : List D := (l.zip m).map fun p => D.tup [p.1, p.2]
theorem zipD_len (l m : List D) : (zipD l m).length = min l.length m.length := by unfold zipD; rw [List.length_map, List.length_zip]
theorem zipD_get {l m : List D} {i : Nat} {x y : D} (h : l[i]? = some x) (h2 : m[i]? = some y) : (zipD l m)[i]? = some (.tup [x, y]) := by
  unfold zipD
  rw [List.getElem?_map, (List.getElem?_zip_eq_some (z := (x, y))).mpr ⟨h, h2⟩]
  rfl
theorem zipD_at {l m : List D} {i : Nat} {z : D} (h : (zipD l m)[i]? = some z) : ∃ x y, l[i]? = some x ∧ m[i]? = some y ∧ z = .tup [x, y] := by
  unfold zipD at h
  rw [List.getElem?_map] at h
  cases q : (l.zip m)[i]? with
  | none => rw [q] at h; cases h
  | some p =>
    rw [q] at h
    obtain ⟨h1, h2⟩ := List.getElem?_zip_eq_some.mp q
    exact ⟨_, _, h1, h2, (Option.some.inj h).symm⟩
theorem di_zipT {elts : List Expr} {kk : Nat} {tpos : Pos} (hm : c.g.gl.mg "zip" = none) (h : DE c a ρ (IsT fun l => DE c b ρ (IsT fun m => Q (zipD l m)))) (hg : glB c.g.sc "zip" = true := by kernel_rfl)
    (hs : ∀ env, starEach [a, b] env = (false, eval a env) :: starEach [b] env := by intro _; rfl) (hs2 : ∀ env, starEach [b] env = (false, eval b env) :: starEach [] env := by intro _; rfl) (hpl : ∀ env, (backTo pos (starEach [b] env)).any (·.1) = false := by intro _; rfl) : DI c (.Tuple elts kk tpos) (.Call (.Name "zip" p1) [a, b] [] pos) ρ Q :=
  DI.of fun X hX => ⟨_, RZ.pi_zipA (hX.gl' hg) (hX.mgn hm) (pa_cons (hX.pe a) (pa_cons (hX.pe b) pa_nil (hs2 _)) (hs _)) (hs _) (hpl _), fun cps σ H env R k => h.run cps σ H env _ fun v H1 d env1 k1 r1 h1 => by
    obtain ⟨l, a1, xs, rfl, rfl, t, rs, h1⟩ := IsT.get h1 r1
    refine h1.run cps σ H1 env1 _ fun u H2 d2 env2 k2 r2 h2 => ?_
    obtain ⟨m, a2, ys, rfl, rfl, t2, rs2, q⟩ := IsT.get h2 r2
    have t' : SqT c.g.gl.K H2 a1 xs := Kq.tup k2 t
    have rs' : RepAC c ρ H2 xs l := RepAll.kq (Kq.of_kp k2) _ _ rs
    refine ⟨a1, a2, xs, ys, rfl, .inr ⟨hX.sqt t', hX.sqt t2, k _ H2 (zipD l m) env2 (k1.trans k2) ?_ q⟩⟩
    have e1 := rs'.len
    have e2 := rs2.len
    refine ⟨fun i H kq hi => ?_, fun av' s1 s2 i H x H' kq hi y => ?_, fun i H kq hi => ⟨xs, ys, hX.sqt (Kq.tup kq t'), hX.sqt (Kq.tup kq t2), ?_⟩⟩
    · rw [zipD_len] at hi
      exact ⟨xs, ys, xs[i]'(by omega), ys[i]'(by omega), hX.sqt (Kq.tup kq t'), hX.sqt (Kq.tup kq t2), List.getElem?_eq_getElem _, List.getElem?_eq_getElem _⟩
    · obtain ⟨T, x1, y1, e3, hT, e4, z1, z2⟩ := y
      subst e3 e4
      obtain ⟨d, h1, h2⟩ := RepAll.getV (RepAll.kq (kq.mono s1) _ _ (RepAll.avs s2 _ _ rs')) (z1 xs (hX.sqt (Kq.tup kq t')))
      obtain ⟨d', h1', h2'⟩ := RepAll.getV (RepAll.kq (kq.mono s1) _ _ (RepAll.avs s2 _ _ rs2)) (z2 ys (hX.sqt (Kq.tup kq t2)))
      have s := same_upd (o := .tup [x1, y1]) hT
      exact ⟨s, _, zipD_get h1 h1', .tup (SqT.of upd_same) (.cons (Rep.kq (Kq.of_same s) _ _ h2) (.cons (Rep.kq (Kq.of_same s) _ _ h2') .nil))⟩
    · rw [zipD_len] at hi
      omega⟩
end

/-! ### what a scope alone says of stores -/
def env0 (sc : Scope) : Env := { scope := sc, locals := 0, globals := 0, cells := [] }
theorem sw_env (ts : List Expr) (v : Expr) (env : Env) : swappedStores ts v env = swappedStores ts v (env0 env.scope) := by rfl
theorem sw_env2 (e : Expr) (t : Option Expr) (l : Nat) (env : Env) : swapsWith e t l env = swapsWith e t l (env0 env.scope) := by
  unfold swapsWith
  rfl
theorem sw_env3 (ts : List Expr) (e : Expr) (l : Nat) (env : Env) : swapsWithSole ts e l env = swapsWithSole ts e l (env0 env.scope) := by
  unfold swapsWithSole
  split
  · exact sw_env2 ..
  · rfl
theorem In.sw {g : Gc} {X : Cx} (h : In g X) {ts : List Expr} {v : Expr} {o : Sem (Option (List Str))} (q : swappedStores ts v (env0 g.sc) = o) : swappedStores ts v X.env = o := by rw [sw_env, h.sc]; exact q
theorem In.sw2 {g : Gc} {X : Cx} (h : In g X) {e : Expr} {t : Option Expr} {l : Nat} {o : Sem Bool} (q : swapsWith e t l (env0 g.sc) = o) : swapsWith e t l X.env = o := by rw [sw_env2, h.sc]; exact q
theorem In.sw3 {g : Gc} {X : Cx} (h : In g X) {ts : List Expr} {e : Expr} {l : Nat} {o : Sem Bool} (q : swapsWithSole ts e l (env0 g.sc) = o) : swapsWithSole ts e l X.env = o := by rw [sw_env3, h.sc]; exact q

/-! ### statements -/
structure EndsD where
  nx : List Sl → Prop
  rt : D → Prop
  bk : List Sl → Prop := fun _ => False
  ct : List Sl → Prop := fun _ => False
structure RetOk (c : Cf) (cps : Cps) (H : Hp) (v : V) (d : D) : Prop where
  kp : ∀ p ∈ cps, Kq c.W p.2 p.1 H
  rep : Rep c.g.gl.K c.g.gl.C c.W c.A0 H v d
  hand : ∀ p, c.W = some p → HandAt c.g.gl.K c.A0 H p
structure EOk (c : Cf) (cps : Cps) (E : EndsD) (T : Ends) : Prop where
  nx : ∀ σ H ρ, EnvOk c cps σ H ρ → E.nx ρ → T.nx σ H
  rt : ∀ v H d, RetOk c cps H v d → E.rt d → T.rt v H
  bk : ∀ σ H ρ, EnvOk c cps σ H ρ → E.bk ρ → T.bk σ H
  ct : ∀ σ H ρ, EnvOk c cps σ H ρ → E.ct ρ → T.ct σ H
def ssem (g : Gc) (st : Stmt) : TS := fun T σ H => ∀ X, In g X → ∀ pins s, Inv X pins σ H s → wpAny (model X.prog X.w) X.A (exec st X.env) (SP X pins T) X.xe s
def sssem (g : Gc) (st : List Stmt) : TS := fun T σ H => ∀ X, In g X → ∀ pins s, Inv X pins σ H s → wpAny (model X.prog X.w) X.A (execs st X.env) (SP X pins T) X.xe s
theorem In.ps {g : Gc} {X : Cx} (h : In g X) (st : Stmt) : PS X st (ssem g st) := ⟨fun pins s σ H T I q => q X h pins s I⟩
theorem In.pss {g : Gc} {X : Cx} (h : In g X) (st : List Stmt) : PSs X st (sssem g st) := ⟨fun pins s σ H T I q => q X h pins s I⟩
structure DS (c : Cf) (st : Stmt) (ρ : List Sl) (E : EndsD) : Prop where
  run : ∀ cps σ H, EnvOk c cps σ H ρ → ∀ T, EOk c cps E T → ssem c.g st T σ H
structure DSs (c : Cf) (st : List Stmt) (ρ : List Sl) (E : EndsD) : Prop where
  run : ∀ cps σ H, EnvOk c cps σ H ρ → ∀ T, EOk c cps E T → sssem c.g st T σ H
section
variable {c : Cf} {ρ : List Sl} {E : EndsD} {pos p1 p2 p3 : Pos} {tg e a b : Expr} {st : Stmt} {rest : List Stmt}
theorem DS.of (h : ∀ X, In c.g X → ∃ t, PS X st t ∧ ∀ cps σ H, EnvOk c cps σ H ρ → ∀ T, EOk c cps E T → t T σ H) : DS c st ρ E :=
  ⟨fun cps σ H env T k X hX pins s I => by
    obtain ⟨t, p, r⟩ := h X hX
    exact p.run pins s σ H T I (r cps σ H env T k)⟩
theorem DSs.of (h : ∀ X, In c.g X → ∃ t, PSs X rest t ∧ ∀ cps σ H, EnvOk c cps σ H ρ → ∀ T, EOk c cps E T → t T σ H) : DSs c rest ρ E :=
  ⟨fun cps σ H env T k X hX pins s I => by
    obtain ⟨t, p, r⟩ := h X hX
    exact p.run pins s σ H T I (r cps σ H env T k)⟩
theorem dss_nil (h : E.nx ρ) : DSs c [] ρ E := DSs.of fun X hX => ⟨_, pss_nil, fun cps σ H env T k => k.nx σ H ρ env h⟩
theorem dss_cons (h : DS c st ρ { E with nx := fun ρ' => DSs c rest ρ' E }) : DSs c (st :: rest) ρ E :=
  DSs.of fun X hX => ⟨_, pss_cons (hX.ps st) (hX.pss rest), fun cps σ H env T k => h.run cps σ H env _ ⟨fun σ2 H2 ρ2 env2 h2 => h2.run cps σ2 H2 env2 T k, k.rt, k.bk, k.ct⟩⟩
theorem ds_never (h : False) : DS c st ρ E := h.elim
theorem ds_if {t : Expr} {A B : List Stmt} (h : DT c t ρ fun k => if k = true then DSs c A ρ E else DSs c B ρ E) : DS c (.If t A B pos) ρ E :=
  DS.of fun X hX => ⟨_, ps_if (hX.pt t) (hX.pss A) (hX.pss B), fun cps σ H env T k => h.run cps σ H env _ fun z H1 env1 k1 h1 => by
    cases z with
    | true => exact h1.run cps σ H1 env1 T k
    | false => exact h1.run cps σ H1 env1 T k⟩
theorem RetOk.of {cps : Cps} {σ : St} {H : Hp} {v : V} {d : D} (env : EnvOk c cps σ H ρ) (r : RepC c ρ H v d) : RetOk c cps H v d :=
  ⟨env.kp, Rep.avs (fun b h => .inl (.inl h)) _ _ r, fun p e => (env.hand p e).avs fun b h => .inl (.inl h)⟩
theorem ds_ret (h : DE c e ρ E.rt) : DS c (.Return (some e) pos) ρ E :=
  DS.of fun X hX => ⟨_, ps_ret (hX.pe e), fun cps σ H env T k => h.run cps σ H env _ fun v H1 d env1 k1 r1 h1 => k.rt v H1 d (.of env1 r1) h1⟩
theorem own_ret {cps : Cps} {σ : St} {H : Hp} {j : Nat} {o : Addr} {l : List D} (env : EnvOk c cps σ H ρ) (e : ρ[j]? = some (.own o l)) : σ[j]? = some (some (.ref o)) ∧ Rep c.g.gl.K c.g.gl.C c.W c.A0 H (.ref o) (.lst l) := by
  obtain ⟨h1, h2, h3, _, xs, h5, h6⟩ := env.own j o l e
  exact ⟨h1, .lst (.inl ⟨.inl h5, h2, h3⟩) (RepAll.avs (fun b h => .inl (.inl h)) _ _ h6)⟩
theorem ds_retOwn (j : Nat) {x : Str} {o : Addr} {l : List D} (e : ρ[j]? = some (.own o l)) (h : E.rt (.lst l)) (hN : c.g.N[j]? = some x := by kernel_rfl) (hv : visB c.g.sc x = true := by kernel_rfl) (ho : okN x = true := by kernel_rfl) : DS c (.Return (some (.Name x p1)) pos) ρ E :=
  DS.of fun X hX => ⟨_, ps_ret (pe_var (hX.name hN) (hX.vis hv) (okN1 ho) (okN2 ho)), fun cps σ H env T k => by
    obtain ⟨h1, h2⟩ := own_ret env e
    exact ⟨_, h1, k.rt _ H _ ⟨env.kp, h2, fun p e => (env.hand p e).avs fun b h => .inl (.inl h)⟩ h⟩⟩
theorem ds_retOwn2 (i j : Nat) {x y : Str} {o o' : Addr} {l l' : List D} {n2} (e : ρ[i]? = some (.own o l)) (e' : ρ[j]? = some (.own o' l')) (h : E.rt (.tup [.lst l, .lst l'])) (hN : c.g.N[i]? = some x := by kernel_rfl) (hv : visB c.g.sc x = true := by kernel_rfl) (ho : okN x = true := by kernel_rfl)
    (hN' : c.g.N[j]? = some y := by kernel_rfl) (hv' : visB c.g.sc y = true := by kernel_rfl) (ho' : okN y = true := by kernel_rfl) : DS c (.Return (some (.Tuple [.Name x p1, .Name y p2] n2 p3)) pos) ρ E :=
  DS.of fun X hX => ⟨_, ps_ret (pe_tup (pa_cons (pe_var (hX.name hN) (hX.vis hv) (okN1 ho) (okN2 ho)) (pa_cons (pe_var (hX.name hN') (hX.vis hv') (okN1 ho') (okN2 ho')) pa_nil))), fun cps σ H env T k => by
    obtain ⟨h1, h2⟩ := own_ret env e
    obtain ⟨h1', h2'⟩ := own_ret env e'
    refine ⟨_, h1, _, h1', by show 2 ≤ sizeLine; decide, fun p hp => ?_⟩
    have s := same_upd (o := .tup [.ref o, .ref o']) hp
    have kk : Kq c.W c.A0 H (upd H p (.tup [.ref o, .ref o'])) := Kq.of_same s
    exact k.rt _ _ _ ⟨(env.same s).kp, .tup (SqT.of upd_same) (.cons (Rep.kq kk _ _ h2) (.cons (Rep.kq kk _ _ h2') .nil)), fun p e => ((env.same s).hand p e).avs fun b h => .inl (.inl h)⟩ h⟩
/-- name = value -/
theorem ds_set (i : Nat) {x : Str} (h : DE c e ρ fun d => E.nx (ρ.set i (.dat d))) (hN : c.g.N[i]? = some x := by kernel_rfl) (hl : locB c.g.sc x = true := by kernel_rfl) (hf : fnB c.g x = true := by kernel_rfl)
    (hs : swapsWith e (some (.Name x p1)) pos.line (env0 c.g.sc) = pure false := by kernel_rfl) : DS c (.Assign [.Name x p1] e pos) ρ E :=
  DS.of fun X hX => ⟨_, ps_set (by rw [hX.N]; exact hX.nd) (hX.name hN) (hX.loc hl) (hX.pe e) (hX.sw2 hs) (hX.fnl hf), fun cps σ H env T k => h.run cps σ H env _ fun v H1 d env1 k1 r1 h1 => k.nx _ H1 _ (env1.set r1) h1⟩
theorem av_set_sub {i : Nat} {d : D} {H : Hp} : ∀ b, c.av (ρ.set i (.dat d)) b → c.av ρ b ∨ H b = none := fun b hb => by
  rcases hb with hb | hb
  · exact .inl (.inl hb)
  · rcases ows_set hb with hb | hb
    · exact .inl (.inr hb)
    · cases hb
theorem av_sub2 {i j : Nat} {d d' : D} {H : Hp} : ∀ b, c.av ((ρ.set i (.dat d)).set j (.dat d')) b → c.av ρ b ∨ H b = none := fun b hb => by
  rcases av_set_sub (H := H) b hb with hb | hb
  · exact av_set_sub b hb
  · exact .inr hb
/-- a, b = a tuple -/
theorem ds_tup2 (i j : Nat) {x y : Str} {n1} (h : DE c e ρ fun d => ∃ d1 d2, d = .tup [d1, d2] ∧ E.nx ((ρ.set i (.dat d1)).set j (.dat d2))) (hN : c.g.N[i]? = some x := by kernel_rfl) (hl : locB c.g.sc x = true := by kernel_rfl) (hf : fnB c.g x = true := by kernel_rfl)
    (hN2 : c.g.N[j]? = some y := by kernel_rfl) (hl2 : locB c.g.sc y = true := by kernel_rfl) (hf2 : fnB c.g y = true := by kernel_rfl)
    (hs : swapsWithSole [.Tuple [.Name x p1, .Name y p2] n1 p3] e pos.line (env0 c.g.sc) = pure false := by kernel_rfl) (hw : swappedStores [.Tuple [.Name x p1, .Name y p2] n1 p3] e (env0 c.g.sc) = pure none := by kernel_rfl) : DS c (.Assign [.Tuple [.Name x p1, .Name y p2] n1 p3] e pos) ρ E :=
  DS.of fun X hX => ⟨_, ps_asg (hX.pe e) (pg_tup hX.calm (pgs_cons (pg_name (by rw [hX.N]; exact hX.nd) (hX.name hN) (hX.loc hl) (hX.fnl hf)) (pgs_cons (pg_name (by rw [hX.N]; exact hX.nd) (hX.name hN2) (hX.loc hl2) (hX.fnl hf2)) pgs_nil))) (hX.sw3 hs) (hX.sw hw), fun cps σ H env T k => h.run cps σ H env _ fun v H1 d env1 k1 r1 ⟨d1, d2, e1, h1⟩ => by
    subst e1
    cases r1 with
    | tup t rs =>
      cases rs with
      | cons q1 rs =>
        cases rs with
        | cons q2 rs =>
          cases rs
          have env2 := env1.set (i := i) q1
          exact ⟨_, _, rfl, hX.sqt t, rfl, _, _, rfl, _, _, rfl, rfl, k.nx _ H1 _ (env2.set (i := j) (d := d2) (Rep.avs av_set_sub _ _ q2)) h1⟩⟩
theorem ds_tup3 (i j l : Nat) {x y z : Str} {n1} {p4 : Pos} (h : DE c e ρ fun d => ∃ d1 d2 d3, d = .tup [d1, d2, d3] ∧ E.nx (((ρ.set i (.dat d1)).set j (.dat d2)).set l (.dat d3))) (hN : c.g.N[i]? = some x := by kernel_rfl) (hl : locB c.g.sc x = true := by kernel_rfl) (hf : fnB c.g x = true := by kernel_rfl)
    (hN2 : c.g.N[j]? = some y := by kernel_rfl) (hl2 : locB c.g.sc y = true := by kernel_rfl) (hf2 : fnB c.g y = true := by kernel_rfl) (hN3 : c.g.N[l]? = some z := by kernel_rfl) (hl3 : locB c.g.sc z = true := by kernel_rfl) (hf3 : fnB c.g z = true := by kernel_rfl)
    (hs : swapsWithSole [.Tuple [.Name x p1, .Name y p2, .Name z p4] n1 p3] e pos.line (env0 c.g.sc) = pure false := by kernel_rfl) (hw : swappedStores [.Tuple [.Name x p1, .Name y p2, .Name z p4] n1 p3] e (env0 c.g.sc) = pure none := by kernel_rfl) : DS c (.Assign [.Tuple [.Name x p1, .Name y p2, .Name z p4] n1 p3] e pos) ρ E :=
  DS.of fun X hX => ⟨_, ps_asg (hX.pe e) (pg_tup hX.calm (pgs_cons (pg_name (by rw [hX.N]; exact hX.nd) (hX.name hN) (hX.loc hl) (hX.fnl hf)) (pgs_cons (pg_name (by rw [hX.N]; exact hX.nd) (hX.name hN2) (hX.loc hl2) (hX.fnl hf2)) (pgs_cons (pg_name (by rw [hX.N]; exact hX.nd) (hX.name hN3) (hX.loc hl3) (hX.fnl hf3)) pgs_nil)))) (hX.sw3 hs) (hX.sw hw), fun cps σ H env T k => h.run cps σ H env _ fun v H1 d env1 k1 r1 ⟨d1, d2, d3, e1, h1⟩ => by
    subst e1
    cases r1 with
    | tup t rs =>
      cases rs with
      | cons q1 rs =>
        cases rs with
        | cons q2 rs =>
          cases rs with
          | cons q3 rs =>
            cases rs
            have env2 := env1.set (i := i) q1
            have env3 := env2.set (i := j) (d := d2) (Rep.avs av_set_sub _ _ q2)
            exact ⟨_, _, rfl, hX.sqt t, rfl, _, _, rfl, _, _, rfl, _, _, rfl, rfl, k.nx _ H1 _ (env3.set (i := l) (d := d3) (Rep.avs av_sub2 _ _ q3)) h1⟩⟩
/-! ### loops -/
/-- for name in .. -/
theorem for_core {J : It} {items : List D} {H1 : Hp} {cps : Cps} {σ : St} {T : Ends} {g : TG} {tb : TS} (I : Nat → List Sl → Prop) (env : EnvOk c cps σ H1 ρ) (k : EOk c cps E T) (Y : Ylds c ρ J H1 items) (h0 : I 0 ρ) (ha : ∀ j ρ', I j ρ' → ρ'.map Sl.adr = ρ.map Sl.adr)
    (hs : ∀ (i : Nat) (d : D) (cps' : Cps) (σ' : St) (H' : Hp) (ρ' : List Sl) (x : V) (T' : Ends), i < items.length → items[i]? = some d → I i ρ' → EnvOk c cps' σ' H' ρ' → RepC c ρ' H' x d → EOk c cps' { E with nx := I (i + 1), ct := I (i + 1), bk := E.nx } T' → g x σ' H' fun σ2 H2 => tb T' σ2 H2)
    (hd : ∀ ρ', I items.length ρ' → E.nx ρ') :
    ∃ W : Nat → Nat → St → Hp → Prop, (∃ m, W 0 m σ H1) ∧ ∀ i m σ H, W i m σ H →
      (J.stop i H ∧ T.nx σ H) ∨ (J.go i H ∧ ∃ N : St → Hp → Prop, (∀ σ' H', N σ' H' → ∃ m', m' < m ∧ W (i + 1) m' σ' H') ∧ ∀ x H', J.yld i H x H' → g x σ H' fun σ2 H2 => tb { T with nx := N, ct := N, bk := T.nx } σ2 H2) := by
  let cps' : Cps := (H1, c.av ρ) :: cps
  have eav : ∀ {j : Nat} {ρ' : List Sl}, I j ρ' → c.av ρ' = c.av ρ := fun {j ρ'} hI => by
    unfold Cf.av ows
    rw [ha j ρ' hI]
  refine ⟨fun i m σ H => m = items.length - i ∧ i ≤ items.length ∧ ∃ ρ', I i ρ' ∧ EnvOk c cps' σ H ρ', ⟨_, rfl, Nat.zero_le _, ρ, h0, env.check⟩, ?_⟩
  rintro i m σ2 H2 ⟨rfl, hi, ρ', hI, env2⟩
  have kq : Kq c.W (c.av ρ) H1 H2 := env2.kp _ List.mem_cons_self
  by_cases hlt : i < items.length
  · refine .inr ⟨Y.go i H2 kq hlt, fun σ' H' => ∃ ρ'', I (i + 1) ρ'' ∧ EnvOk c cps' σ' H' ρ'', fun σ' H' ⟨ρ'', a1, a2⟩ => ⟨items.length - (i + 1), by omega, rfl, hlt, ρ'', a1, a2⟩, fun x H' y => ?_⟩
    obtain ⟨sm, d, hd1, hr⟩ := Y.yld (c.av ρ) (fun _ z => z) (fun _ z => .inl z) i H2 x H' kq hlt y
    have env3 := env2.same sm
    refine hs i d cps' σ2 H' ρ' x _ hlt hd1 hI env3 (by show Rep _ _ _ (c.av ρ') _ _ _; rw [eav hI]; exact hr) ⟨fun σ' H' ρ'' e1 e2 => ⟨ρ'', e2, e1⟩, fun v H d r e => k.rt v H d ⟨fun p hp => r.kp p (List.mem_cons_of_mem _ hp), r.rep, r.hand⟩ e, fun σ' H' ρ'' e1 e2 => k.nx σ' H' ρ'' e1.uncheck e2, fun σ' H' ρ'' e1 e2 => ⟨ρ'', e2, e1⟩⟩
  · have e : i = items.length := by omega
    subst e
    exact .inl ⟨Y.stop _ H2 kq rfl, k.nx _ H2 ρ' env2.uncheck (hd ρ' hI)⟩
theorem ds_for (i : Nat) {x : Str} {iter : Expr} {body : List Stmt} (h : DI c (.Name x p1) iter ρ fun items => ∃ I : Nat → List Sl → Prop, I 0 ρ ∧ (∀ j ρ', I j ρ' → ρ'.map Sl.adr = ρ.map Sl.adr) ∧
      (∀ j ρ' d, I j ρ' → items[j]? = some d → DSs c body (ρ'.set i (.dat d)) { E with nx := I (j + 1), ct := I (j + 1), bk := E.nx }) ∧ ∀ ρ', I items.length ρ' → E.nx ρ')
    (hN : c.g.N[i]? = some x := by kernel_rfl) (hl : locB c.g.sc x = true := by kernel_rfl) (hf : fnB c.g x = true := by kernel_rfl) (hs : ∀ env y, foldedSetIterable iter env y = pure y := by intro _ _; rfl) : DS c (.For (.Name x p1) iter body [] pos) ρ E :=
  DS.of fun X hX => ⟨_, ps_for (by rw [hX.xe]; exact PassesOwn.never) hX.calm (hX.pi _ iter) (pg_name (by rw [hX.N]; exact hX.nd) (hX.name hN) (hX.loc hl) (hX.fnl hf)) (hX.pss body) (hs _), fun cps σ H env T k => h.run cps σ H env _ fun J H1 items env1 k1 Y ⟨I, h0, ha, hb, hd⟩ =>
    for_core I env1 k Y h0 ha (fun j d cps' σ' H' ρ' v T' _ hj hI env' r k' => (hb j ρ' d hI hj).run cps' _ H' (env'.set r) T' k') hd⟩
/-- for name, name in .. -/
theorem ds_for2 (i l : Nat) {x y : Str} {n1} {iter : Expr} {body : List Stmt} (h : DI c (.Tuple [.Name x p1, .Name y p2] n1 p3) iter ρ fun items => ∃ I : Nat → List Sl → Prop, I 0 ρ ∧ (∀ j ρ', I j ρ' → ρ'.map Sl.adr = ρ.map Sl.adr) ∧
      (∀ j ρ' d, I j ρ' → items[j]? = some d → ∃ d1 d2, d = .tup [d1, d2] ∧ DSs c body ((ρ'.set i (.dat d1)).set l (.dat d2)) { E with nx := I (j + 1), ct := I (j + 1), bk := E.nx }) ∧ ∀ ρ', I items.length ρ' → E.nx ρ')
    (hN : c.g.N[i]? = some x := by kernel_rfl) (hl : locB c.g.sc x = true := by kernel_rfl) (hf : fnB c.g x = true := by kernel_rfl) (hN2 : c.g.N[l]? = some y := by kernel_rfl) (hl2 : locB c.g.sc y = true := by kernel_rfl) (hf2 : fnB c.g y = true := by kernel_rfl) (hs : ∀ env y, foldedSetIterable iter env y = pure y := by intro _ _; rfl) :
    DS c (.For (.Tuple [.Name x p1, .Name y p2] n1 p3) iter body [] pos) ρ E :=
  DS.of fun X hX => ⟨_, ps_for (by rw [hX.xe]; exact PassesOwn.never) hX.calm (hX.pi _ iter) (pg_tup hX.calm (pgs_cons (pg_name (by rw [hX.N]; exact hX.nd) (hX.name hN) (hX.loc hl) (hX.fnl hf)) (pgs_cons (pg_name (by rw [hX.N]; exact hX.nd) (hX.name hN2) (hX.loc hl2) (hX.fnl hf2)) pgs_nil))) (hX.pss body) (hs _), fun cps σ H env T k => h.run cps σ H env _ fun J H1 items env1 k1 Y ⟨I, h0, ha, hb, hd⟩ =>
    for_core I env1 k Y h0 ha (fun j d cps' σ' H' ρ' v T' _ hj hI env' r k' => by
      obtain ⟨d1, d2, e1, hb⟩ := hb j ρ' d hI hj
      subst e1
      cases r with
      | tup t rs =>
        cases rs with
        | cons q1 rs =>
          cases rs with
          | cons q2 rs =>
            cases rs
            exact ⟨_, _, rfl, hX.sqt t, rfl, _, _, rfl, _, _, rfl, rfl, hb.run cps' _ H' ((env'.set (i := i) q1).set (i := l) (d := d2) (Rep.avs av_set_sub _ _ q2)) T' k'⟩) hd⟩
/-- while -/
theorem ds_while {t : Expr} {body : List Stmt} (I : Nat → List Sl → Prop) (h0 : ∃ m, I m ρ) (h : ∀ m ρ', I m ρ' → DT c t ρ' fun k => if k = true then DSs c body ρ' { E with nx := fun ρ'' => ∃ m', m' < m ∧ I m' ρ'', ct := fun ρ'' => ∃ m', m' < m ∧ I m' ρ'', bk := E.nx } else E.nx ρ') : DS c (.While t body [] pos) ρ E :=
  DS.of fun X hX => ⟨_, ps_while (by rw [hX.xe]; exact PassesOwn.never) (hX.pt t) (hX.pss body), fun cps σ H env T k => by
    obtain ⟨m0, h0⟩ := h0
    refine ⟨fun m σ H => ∃ ρ', I m ρ' ∧ EnvOk c cps σ H ρ', ⟨m0, ρ, h0, env⟩, fun m σ2 H2 ⟨ρ', hI, env2⟩ => ?_⟩
    refine (h m ρ' hI).run cps σ2 H2 env2 _ fun z H3 env3 k3 h3 => ?_
    cases z with
    | true =>
      refine ⟨fun σ' H' => ∃ m', m' < m ∧ ∃ ρ'', I m' ρ'' ∧ EnvOk c cps σ' H' ρ'', fun σ' H' ⟨m', a1, ρ'', a2, a3⟩ => ⟨m', a1, ρ'', a2, a3⟩, ?_⟩
      exact h3.run cps σ2 H3 env3 _ ⟨fun σ' H' ρ'' e1 ⟨m', a1, a2⟩ => ⟨m', a1, ρ'', a2, e1⟩, k.rt, k.nx, fun σ' H' ρ'' e1 ⟨m', a1, a2⟩ => ⟨m', a1, ρ'', a2, e1⟩⟩
    | false => exact k.nx _ H3 _ env3 h3⟩
/-- found.append(e) of the def's own list -/
theorem ds_append (j : Nat) {x : Str} {p4 : Pos} {o : Addr} {l : List D} (ho : ρ[j]? = some (.own o l)) (h : DE c e ρ fun d => l.length < 1000000 ∧ E.nx (ρ.set j (.own o (l ++ [d])))) (hN : c.g.N[j]? = some x := by kernel_rfl) (hv : visB c.g.sc x = true := by kernel_rfl) (hok : okN x = true := by kernel_rfl)
    (hs : ∀ env, starEach [e] env = (false, eval e env) :: starEach [] env := by intro _; rfl) (hsw : ∀ env, swapsWith (.Call (.Attribute (.Name x p1) "append" p2) [e] [] p3) none p4.line env = pure false := by intro _; rfl)
    (hb : ∀ env, attributeBase (.Name x p1) "append" env (eval (.Name x p1) env) = eval (.Name x p1) env := by intro _; rfl) (hlv : (p2.endLine == p3.line) = true := by rfl)
    (hfew : ∀ env, ((backTo p3 (starEach [e] env)).all (fun x => !x.1) && (backToKw p3 (keywordEach [] env)).all (fun x => x.1.isSome) && decide ([e].length + ([] : List Keyword).length + (if ([] : List Keyword).isEmpty then 0 else 1) < 30)) = true := by intro _; rfl) : DS c (.Expr (.Call (.Attribute (.Name x p1) "append" p2) [e] [] p3) p4) ρ E :=
  DS.of fun X hX => ⟨_, ps_expr (pe_bm PySem.F.plainAttrs_list PySem.F.slot_list_append PySem.F.type_list_append mt_append (pe_var (hX.name hN) (hX.vis hv) (okN1 hok) (okN2 hok)) (pa_cons (hX.pe e) pa_nil (hs _)) (hb _) (hfew _) hlv (hs _)) (hsw _), fun cps σ H env T k => by
    obtain ⟨h1, h2, _, _, xs, h5, h6⟩ := env.own j o l ho
    refine ⟨_, h1, .inl ⟨rfl, xs, SqL.of h5⟩, h.run cps σ H env _ fun v H1 d env1 k1 r1 ⟨hz, q⟩ => ?_⟩
    obtain ⟨_, _, _, _, ys, g5, g6⟩ := env1.own j o l ho
    refine ⟨o, ys, v, rfl, rfl, g5, by rw [g6.len]; exact Nat.lt_of_lt_of_le hz (by decide), ?_⟩
    exact k.nx _ _ _ (env1.put ho (g6.append (.cons r1 .nil))).1 q⟩
end
end Dl
/-! Dx: rules that the hand layer lacks: t * 1, enumerate(tuple), xs.extend(tuple), set(..) of ints. -/
namespace Dx
open PySem PySem.Spec PyProof.Rows L2
open AutoSeq1 (wpAny_loadPart')

/-! ### t * n, n at least 1 -/
theorem tuple_mul1 (l : Addr) (its : Array Value) (n : Nat) (dd : Option Addr) (sl : Array (Option Value)) (u : Tok) :
    Meets (Builtin.«tuple.__mul__» ⟨[.ref l, .int 1 u], []⟩) (fun _ R s => s.heap.get? l = some { cls := .type "tuple", dict := dd, data := .seq its n, slots := sl } ∧ R (.ok (.ret (Value.ref l))) s) :=
  .of_wp fun prog w A R s h => by
    obtain ⟨hp, g, d, tk, os⟩ := s
    obtain ⟨hl, h⟩ := h
    have f1 := AutoSeq1.idx_int
    have f2 := AutoSeq1.sub_tuple_tuple
    have c1 : (its.isEmpty || (1 : Int) == 1) = true := by simp
    wp_walk using wpAny_loadPart' hl
    all_goals first
      | exact ⟨_, rfl, h⟩
      | (rw [if_pos (by simp)]; wp_walk using wpAny_loadPart' hl; exact ⟨_, rfl, h⟩)
section
variable {X : Cx}
def rRepA (K : PySem.W.Frag) : R2 := fun x y H Q => ∃ l k xs, x = .ref l ∧ y = .int k ∧ SqT K H l xs ∧ xs ≠ [] ∧ 1 ≤ k ∧ k ≤ 1000 ∧ xs.length ≤ 1000 ∧ (k = 1 → Q (.ref l) H) ∧ (2 ≤ k → ∀ p, H p = none → Q (.ref p) (upd H p (.tup (List.replicate k.toNat xs).flatten)))
theorem op_repA : OpR X (binaryOp .Mult) (rRepA X.K) := by
  intro pins s σ H x y v u Q I rx ry h
  obtain ⟨l, k, xs, e1, e2, hT, hne, h1, h2, hz, q1, q2⟩ := h
  by_cases hk : k = 1
  · subst e1 e2 hk
    cases rx
    obtain ⟨t, rfl⟩ := ry
    obtain ⟨its, r, ⟨⟨cls, dd, data, sl⟩, ho, hc, n, hd⟩, _⟩ := I.tuple hT
    simp only at hc hd
    subst hc hd
    exact wpAny_binaryOp_repeat_ref (T := "tuple") (U := "int") (by decide) ⟨_, ho, rfl⟩ (fun s' => typeIs_int s' 1 t) noFill_tuple_mul F.fills_int_mul F.slot_int_rmul repeat_tuple F.slot_int_index.lookup
      (call_meets F.slot_int_rmul (typeIs_int s 1 t) F.entry_int_rmul (F.args_int_rmul_2 _ _) (int_rmul_tuple 1 t l its.toArray n dd sl)
        ⟨ho, rfl, ⟨_, ho, rfl⟩, call_meets F.slot_tuple_mul ⟨_, ho, rfl⟩ F.entry_tuple_mul (F.args_tuple_mul_2 _ _) (tuple_mul1 l its.toArray n dd sl t) ⟨ho, ⟨.ref l, H, I, rfl, q1 rfl⟩⟩⟩)
  · exact op_repT pins s σ H x y v u Q I rx ry ⟨l, k, xs, e1, e2, hT, hne, by omega, h2, hz, q2 (by omega)⟩
end

/-! ### enumerate(t), t a tuple -/
theorem meets_enum_tup (l : Addr) (items : Array Value) (n : Nat) (dct : Option Addr) (sl : Array (Option Value)) :
    Meets (Builtin.«enumerate.__new__» ⟨[.type "enumerate", .ref l], []⟩) (fun _ R s => s.heap.get? l = some { cls := .type "tuple", dict := dct, data := .seq items n, slots := sl } ∧
      R (.ok (.ret (.ref (s.heap.push { cls := .type "tuple_iterator", data := .fields #[.ref l, .int 0 0] }).objs.size)))
        { s with heap := (s.heap.push { cls := .type "tuple_iterator", data := .fields #[.ref l, .int 0 0] }).push { cls := .type "enumerate", data := .fields #[.none, .bool false, .ref s.heap.objs.size, rawInt 0, .none, .none] } }) :=
  .of_wp fun prog w A R s h => by
    obtain ⟨hp, g, d, tk, os⟩ := s
    obtain ⟨hl, h⟩ := h
    have hsub := sub_enumerate
    have hL : Heap.IsTuple (Shared.heap ⟨hp, g, d, tk, os⟩) l items := ⟨_, hl, rfl, n, rfl⟩
    wp_walk using wpAny_loadPart' hl
    refine wpAny_stack_any fun st => wpAny_pure ?_
    split
    · rename_i c _ _ _ _ _
      cases (c == Value.type "enumerate") <;> (wp_walk using wpAny_loadPart' hl, wpAny_pyIter_tuple hL; exact ⟨_, rfl, h⟩)
    · wp_walk using wpAny_loadPart' hl, wpAny_pyIter_tuple hL
      exact ⟨_, rfl, h⟩
section
variable {prog : Program} {w : World} {A : Around} {E : Value → Shared → Prop} {s : Shared}
theorem call_enum_tup {l : Addr} {items : Array Value} {Q : Value → Shared → Prop} (hL : s.heap.IsTuple l items)
    (h : ∀ h', IsEnum h' (s.heap.objs.size + 1) s.heap.objs.size 0 .none → h'.IsTupleIter s.heap.objs.size l 0 → (∀ b o, s.heap.get? b = some o → h'.get? b = some o) → Q (.ref (s.heap.objs.size + 1)) { s with heap := h' }) :
    wpAny (model prog w) A (call (.type "enumerate") [.ref l]) Q E s := by
  obtain ⟨⟨cl, dct, dt, sl⟩, hl, hc, n, hd⟩ := hL
  simp only at hc hd
  subst hc hd
  refine callType_new F.called_enumerate (by decide) (F.typeCall_enumerate_1 _) (F.newCall_enumerate_1 _) (fun obj => F.args_object_init_2 obj _) F.entry_enumerate_new (meets_enum_tup l items n dct sl) ⟨hl, ?_⟩
  let H1 := s.heap.push { cls := .type "tuple_iterator", data := .fields #[.ref l, .int 0 0] }
  have hz : H1.objs.size = s.heap.objs.size + 1 := Heap.size_push ..
  have k1 : ∀ b o, s.heap.get? b = some o → H1.get? b = some o := fun b o x => Heap.get?_push_of_some _ x
  have he : (H1.push { cls := .type "enumerate", data := .fields #[.none, .bool false, .ref s.heap.objs.size, rawInt 0, .none, .none] }).get? H1.objs.size = some { cls := .type "enumerate", data := .fields #[.none, .bool false, .ref s.heap.objs.size, rawInt 0, .none, .none] } := Heap.get?_push_size _ rfl
  show _ ∧ _
  rw [hz] at he ⊢
  exact ⟨⟨_, he, rfl⟩, h _ he ⟨_, Heap.get?_push_of_some _ (Heap.get?_push_size _ rfl), rfl, rfl⟩ fun b o x => Heap.get?_push_of_some _ (k1 b o x)⟩
end
/-- the tuple at a, each item in a new pair -/
def IteT (K : PySem.W.Frag) (a : Addr) : It :=
  ⟨fun i H => ∃ (xs : List V) (x : V), SqT K H a xs ∧ xs[i]? = some x, fun i H v H' => ∃ T x, v = .ref T ∧ H T = none ∧ H' = upd H T (.tup [.int (i : Nat), x]) ∧ ∀ xs, SqT K H a xs → xs[i]? = some x, fun i H => ∃ xs : List V, SqT K H a xs ∧ i = xs.length⟩
theorem turn_enumT {P : Program} {w : World} {K : PySem.W.Frag} {elts : List Expr} {kk : Nat} {tpos : Pos} (a e it : Addr) :
    Turn P w K (.Tuple elts kk tpos) (IteT K a) [e, it] e (fun i h => (∃ old, IsEnum h e it ((i : Nat) : Int) old) ∧ h.IsTupleIter it a i ∧ e ≠ it ∧ a ≠ it ∧ e ≠ a) where
  mem := by simp
  obj := fun i h st b hb => by
    obtain ⟨⟨old, he⟩, ⟨o, ho, hc, hd⟩, _⟩ := st
    rcases (show b = e ∨ b = it by simpa using hb) with z | z <;> rw [z]
    · exact ⟨_, he, fun v q => nomatch q⟩
    · exact ⟨o, ho, fun v q => by rw [hd] at q; cases q⟩
  keep := fun i h h' st k => by
    obtain ⟨⟨old, he⟩, hi, hr⟩ := st
    exact ⟨⟨old, k e (by simp) _ he⟩, hi.at fun o q => k it (by simp) o q, hr⟩
  item := by
    intro X hP hw hK hc i pins s σ H E I hf st hg
    subst hP hw hK
    obtain ⟨⟨old, he⟩, hit, hne, hai, hea⟩ := st
    obtain ⟨xs, x, hq, hx⟩ := hg
    obtain ⟨its, rv, p, hz⟩ := I.tuple hq
    obtain ⟨u, hu, ru⟩ := rv.get hx
    have hel : e < s.heap.objs.size := Heap.lt_size he
    have hil : it < s.heap.objs.size := by obtain ⟨_, q, _⟩ := hit; exact Heap.lt_size q
    have hT : s.heap.IsTuple a its.toArray := p
    have D := Draws.tuple (prog := X.prog) (w := X.w) (A := X.A.in1) (by simp [I.ok.hd hc]) it a hai its.toArray
    have hlt : i < its.toArray.size := by
      have q := (List.getElem?_eq_some_iff.mp hu).1
      simpa using q
    refine wpAny_pyNext_enum_itemD D he ⟨hit, hT⟩ hlt hne (by simp [hne, hea]) fun y h' tk hy ho hst hnew hsz hk => ?_
    have ey : y = u := by
      have q : its[i]? = some y := by simpa using hy
      rw [hu] at q
      exact (Option.some.inj q).symm
    subst ey
    refine ⟨_, rfl, wpAny_letOwnedTupleGo_enum (s := { s with heap := h', toks := tk + 1 }) ho fun h2 he2 sb => ?_⟩
    have hT2 : h2.get? s.heap.objs.size = some { cls := .type "tuple", data := .seq #[.int i tk, y] } := (sb.2 _ (Nat.ne_of_gt hel)).trans hnew
    have new : ObjOk X.prog X.w (upd H s.heap.objs.size (.tup [.int (i : Nat), x])) h2 s.heap.objs.size (.tup [.int (i : Nat), x]) :=
      ⟨by show 2 ≤ sizeLine; decide, [.int i tk, y], .cons ⟨_, rfl⟩ (.cons ru .nil), ⟨_, hT2, rfl, _, rfl⟩⟩
    have I1 : Inv X pins σ (upd H s.heap.objs.size (.tup [.int (i : Nat), x])) { s with heap := h2, toks := tk + 1 } :=
      I.turnedNew (ch := [e, it]) (fun b ob hb q => (sb.2 b (fun z => hb (by simp [z]))).trans (hk b ob (fun z => hb (by simp [z])) (fun z => hb (by simp [z])) q)) hf (Nat.le_refl _) new
    refine ⟨.ref s.heap.objs.size, _, I1, rfl, ⟨_, x, rfl, I.hok.fresh (Nat.le_refl _), rfl, fun ys hy => by rw [I.tuple_inj hy hq]; exact hx⟩, ⟨⟨y, ?_⟩, hst.1.at fun o q => (sb.2 it (Ne.symm hne)).trans q, hne, hai, hea⟩, fun b hb => ?_⟩
    · rw [show ((i + 1 : Nat) : Int) = (i : Int) + 1 by omega]
      exact he2
    · have hb' : b < s.heap.objs.size := by
        rcases (show b = e ∨ b = it by simpa using hb) with z | z <;> rw [z] <;> assumption
      rw [upd_ne (Nat.ne_of_lt hb')]
      exact (hf b hb).1
  done := by
    intro X hP hw hK hc i pins s σ H E I hf st hg
    subst hP hw hK
    obtain ⟨⟨old, he⟩, hit, hne, hai, hea⟩ := st
    obtain ⟨xs, hq, hx⟩ := hg
    obtain ⟨its, rv, p, hz⟩ := I.tuple hq
    obtain ⟨f0, f1, f2, f3, f4, f5⟩ := hf it (by simp)
    have hl := rv.length
    have hT : s.heap.IsTuple a its.toArray := p
    have D := Draws.tuple (prog := X.prog) (w := X.w) (A := X.A.in1) (by simp [I.ok.hd hc]) it a hai its.toArray
    have hi : i = its.toArray.size := by rw [hx, hl, List.size_toArray]
    exact wpAny_pyNext_enum_endD D he ⟨by rw [← hi]; exact hit, hT⟩ fun h' eb => ⟨rfl, I.turned (t' := s.toks) (fun b o hb q => eb b o hb q) f0 f1 f3 f4 f5⟩
  self := fun A i s Q E st h => by
    obtain ⟨⟨_, he⟩, _⟩ := st
    exact wpAny_pyIter_enum he h
def iEnumT (K : PySem.W.Frag) (ta : TA) : TI := fun σ H R => ta σ H fun vs H1 => ∃ a xs, vs = [.ref a] ∧ SqT K H1 a xs ∧ R (IteT K a) H1
theorem pi_enumT {X : Cx} {e : Expr} {ta : TA} {p pos tpos : Pos} {elts : List Expr} {kk : Nat} (hg : Gl X "enumerate") (hm : X.mg "enumerate" = none) (ha : PA X [e] ta) (hs : starEach [e] X.env = [(false, eval e X.env)] := by rfl) :
    PI X (.Tuple elts kk tpos) (.Call (.Name "enumerate" p) [e] [] pos) (iEnumT X.K ta) := by
  refine ⟨fun pins s σ H R I h => ?_⟩
  refine Call_ (ld_blt I hg hm boot_enumerate (PyProof.Rows.callWith_type1 (thn (ha.run pos pins s σ H _ I h) fun us s1 ⟨vs, H1, I1, r1, q1⟩ => ?_) hs rfl))
  obtain ⟨a, xs, ex, hq, q⟩ := q1
  subst ex
  cases r1 with
  | cons r rr =>
    cases rr
    cases r
    obtain ⟨its, rv, p', hz⟩ := I1.tuple hq
    have hT : s1.heap.IsTuple a its.toArray := p'
    have hal : a < s1.heap.objs.size := by obtain ⟨o, ho, _⟩ := hT; exact Heap.lt_size ho
    refine call_enum_tup hT fun h' he hit hk => wpAny_pyIter_enum he ?_
    refine ⟨s1.heap.objs.size + 1, [s1.heap.objs.size + 1, s1.heap.objs.size], _, _, H1, rfl, I1.kept (t' := s1.toks) hk, turn_enumT a (s1.heap.objs.size + 1) s1.heap.objs.size, ⟨⟨.none, he⟩, hit, Nat.succ_ne_self _, Nat.ne_of_lt hal, Nat.ne_of_gt (Nat.lt_succ_of_lt hal)⟩, fun b hb => ?_, q⟩
    have hle : s1.heap.objs.size ≤ b := by
      rcases (show b = s1.heap.objs.size + 1 ∨ b = s1.heap.objs.size by simpa using hb) with z | z <;> rw [z]
      · exact Nat.le_add_right _ _
      · exact Nat.le_refl _
    exact I1.fpOk hle (I1.hok.fresh hle)

/-! ### xs.extend(t), t a tuple -/
theorem meets_ext_tup (l : Addr) (items : Array Value) (n : Nat) (b : Addr) (items2 : Array Value) (n2 : Nat) (dd : Option Addr) (sl : Array (Option Value)) (h0 : ¬(!items.isEmpty && Builtin.List.listTooLong (items.size + items2.size)) = true) (h1 : items.size ≤ sizeLine) (h2 : items.size + items2.size ≤ sizeLine + 1) :
    Meets (Builtin.«list.extend» ⟨[.ref l, .ref b], []⟩) (fun _ R s => s.heap.get? l = some { cls := .type "list", dict := none, data := .seq items n, slots := #[] } ∧ s.heap.get? b = some { cls := .type "tuple", dict := dd, data := .seq items2 n2, slots := sl } ∧ R (.ok (.ret Value.none)) { s with heap := s.heap.update l (Obj.mapSeq fun x => x ++ items2), toks := s.toks }) :=
  .of_wp fun prog w A R s h => by
    obtain ⟨hp, g, d, tk, os⟩ := s
    obtain ⟨hl, hb, h⟩ := h
    have f1 := AutoSeq1.idx_int
    have f2 := AutoSeq1.sub_tuple_tuple
    have f3 := AutoSeq1.sub_list_list
    have f4 := AutoSeq1.sub_tuple_list
    have f5 := AutoSeq1.sub_list_tuple
    have hz' : (items ++ items2).size ≤ sizeLine + 1 := by rw [Array.size_append]; exact h2
    wp_walk using (wpAny_updateSeq hl rfl (hz := h1) (_hz' := hz')), wpAny_loadPart' hl, wpAny_loadPart' hb
    exact ⟨_, rfl, h⟩
section
variable {X : Cx}
def rExtT (K : PySem.W.Frag) : V → List V → Hp → VK → Prop := fun x vs H Q => ∃ l b xs zs, x = .ref l ∧ vs = [.ref b] ∧ H l = some (.lst xs) ∧ SqT K H b zs ∧ xs.length + zs.length ≤ sizeLine ∧ Q .non (upd H l (.lst (xs ++ zs)))
theorem mt_extT : MtM X "list.extend" (rExtT X.K) := by
  intro pins s σ H x vs v us Q I rx rv h
  obtain ⟨l, b, xs, zs, e1, e2, hH, hB, hz, q⟩ := h
  subst e1 e2
  cases rx
  obtain ⟨u, rfl, ru⟩ := rv.one
  cases ru
  obtain ⟨z, its, n, r, hl, e⟩ := I.lstM hH
  obtain ⟨its2, r2, ⟨⟨cls, dd, data, sl⟩, ho, hc, n2, hd⟩, hz2⟩ := I.tuple hB
  simp only at hc hd
  subst hc hd
  have hl2 := r2.length
  have hsz : its.toArray.size + its2.toArray.size ≤ sizeLine := by rw [List.size_toArray, List.size_toArray]; omega
  have hlong : ¬ (!its.toArray.isEmpty && Builtin.List.listTooLong (its.toArray.size + its2.toArray.size)) = true := by
    rw [notLongL hsz, Bool.and_false]
    exact Bool.false_ne_true
  refine call_meets F.slot_list_extend ⟨_, e, rfl⟩ F.entry_list_extend (F.args_list_extend_2 _ _) (meets_ext_tup l its.toArray n b its2.toArray n2 dd sl hlong (by omega) (by omega)) ⟨e, ho, ?_⟩
  exact ⟨.non, _, I.lset (its' := its ++ its2) hH e (by simp) (r.append r2) (by rw [List.length_append]; omega), rfl, q⟩
end
end Dx
/-! Dl6: comprehensions, defs. -/
namespace Dl
open PySem PySem.Spec PyProof.Rows L2

/-! ### a comprehension's block -/
abbrev Gc.blk (g : Gc) (scope : Scope) : Gc := { g with sc := relS scope g.sc, fn := fun x => scope.names.lookup x == some .cell }
abbrev Cf.blk (c : Cf) (scope : Scope) (A : Addr → Prop) : Cf := { g := c.g.blk scope, W := c.W, A0 := A }
theorem In.blk {g : Gc} {X : Cx} (h : In g X) (scope : Scope) (s : Shared) (H : Hp) (C : Addr) (cl : List (Str × Addr)) (fp : List Addr) : In (g.blk scope) (X.blk s H scope (compEnvC scope cl C X.env) fp) where
  P := h.P
  w := h.w
  K := h.K
  mg := h.mg
  base := h.base
  N := h.N
  nd := h.nd
  sc := by
    show relS scope X.env.scope = relS scope g.sc
    rw [h.sc]
  room := h.room
  calm := h.calm
  xe := rfl
  fn := fun _ => rfl
/-- the tests of a clause -/
structure DTs (c : Cf) (ifs : List Expr) (ρ : List Sl) (Q : Bool → Prop) : Prop where
  run : ∃ tt : TT, (∀ X, In c.g X → PTs X ifs tt) ∧ ∀ cps σ H, EnvOk c cps σ H ρ → ∀ Q', KT c cps σ ρ H Q Q' → tt σ H Q'
/-- the tests' reading: one for all contexts -/
def ttsem (g : Gc) (ifs : List Expr) : TT := fun σ H Q => ∀ X, In g X → ∀ pins s, Inv X pins σ H s →
  wpAny (model X.prog X.w) X.A (forIn ifs true fun c r => if r = true then do let ok ← isTrue c X.env (eval c X.env); pure (ForInStep.yield ok) else pure (ForInStep.yield r)) (TP X pins σ Q) X.xe s
theorem In.pts {g : Gc} {X : Cx} (h : In g X) (ifs : List Expr) : PTs X ifs (ttsem g ifs) := ⟨fun pins s σ H Q I q => q X h pins s I⟩
structure DF (c : Cf) (ifs : List Expr) (ρ : List Sl) (Q : Bool → Prop) : Prop where
  run : ∀ cps σ H, EnvOk c cps σ H ρ → ∀ Q', KT c cps σ ρ H Q Q' → ttsem c.g ifs σ H Q'
section
variable {c : Cf} {ρ : List Sl} {Qb : Bool → Prop} {t : Expr}
theorem df_nil (h : Qb true) : DF c [] ρ Qb :=
  ⟨fun cps σ H env Q' k X hX pins s I => pts_nil.run pins s σ H Q' I (k true H env Kq.refl h)⟩
theorem df_one (h : DT c t ρ Qb) : DF c [t] ρ Qb :=
  ⟨fun cps σ H env Q' k X hX pins s I => (pts_one (hX.pt t)).run pins s σ H Q' I (h.run cps σ H env Q' k)⟩
end
section
variable {c : Cf} {cps : Cps} {σ : St} {H : Hp} {ρ : List Sl}
/-- a slot forgotten -/
theorem EnvOk.unset (env : EnvOk c cps σ H ρ) (i : Nat) : EnvOk c cps (σ.set i none) H (ρ.set i .non) := by
  have hv : ∀ b, c.av (ρ.set i .non) b → c.av ρ b ∨ H b = none := fun b z => by
    rcases z with z | z
    · exact .inl (.inl z)
    · rcases ows_set z with z | z
      · exact .inl (.inr z)
      · cases z
  refine ⟨env.kp, by rw [List.length_set, List.length_set, env.len], fun j e he => ?_, fun j a l he => ?_, fun j k a l l' h1 h2 => ?_, env.a0, fun p e => (env.hand p e).avs hv⟩
  · rcases get_set he with ⟨rfl, q, hi⟩ | ⟨hj, q⟩
    · cases q
    · obtain ⟨u, h1, h2⟩ := env.dat j e q
      exact ⟨u, by rw [List.getElem?_set_ne (Ne.symm hj)]; exact h1, Rep.avs hv _ _ h2⟩
  · rcases get_set he with ⟨rfl, q, hi⟩ | ⟨hj, q⟩
    · cases q
    · obtain ⟨h1, h2, h3, h4, xs, h5, h6⟩ := env.own j a l q
      exact ⟨by rw [List.getElem?_set_ne (Ne.symm hj)]; exact h1, h2, h3, h4, xs, h5, RepAll.avs hv _ _ h6⟩
  · rcases get_set h1 with ⟨_, q, _⟩ | ⟨_, q1⟩
    · cases q
    · rcases get_set h2 with ⟨_, q, _⟩ | ⟨_, q2⟩
      · cases q
      · exact env.inj j k a l l' q1 q2
/-- the new list besides -/
abbrev Cf.plus (c : Cf) (D : Addr) : Cf := { c with A0 := fun b => c.A0 b ∨ b = D }
theorem plus_av {D b : Addr} (h : (c.plus D).av ρ b) : c.av ρ b ∨ b = D := by
  rcases h with (h | h) | h
  · exact .inl (.inl h)
  · exact .inr h
  · exact .inl (.inr h)
theorem av_plus {D b : Addr} (h : c.av ρ b) : (c.plus D).av ρ b := by
  rcases h with h | h
  · exact .inl (.inl h)
  · exact .inr h
theorem EnvOk.plus (env : EnvOk c cps σ H ρ) {D : Addr} (hD : H D = none) (xs : List V) : EnvOk (c.plus D) cps σ (upd H D (.lst xs)) ρ := by
  have e1 := env.same (same_upd (o := .lst xs) hD)
  have hv : ∀ b, (c.plus D).av ρ b → c.av ρ b ∨ H b = none := fun b z => (plus_av z).imp_right fun e => by rw [e]; exact hD
  have kq : ∀ av', Kq c.W av' H (upd H D (.lst xs)) := fun av' => Kq.of_same (same_upd hD)
  refine ⟨e1.kp, env.len, fun i d h => ?_, fun i a l h => ?_, env.inj, fun b hb => ?_, fun p hp => ?_⟩
  · obtain ⟨v, h1, h2⟩ := env.dat i d h
    exact ⟨v, h1, Rep.kq (kq _) _ _ (Rep.avs hv _ _ h2)⟩
  · obtain ⟨h1, h2, h3, h4, ys, h5, h6⟩ := env.own i a l h
    refine ⟨h1, h2, fun z => ?_, h4, ys, same_upd hD _ _ h5, RepAll.kq (kq _) _ _ (RepAll.avs hv _ _ h6)⟩
    rcases z with z | z
    · exact h3 z
    · rw [z, hD] at h5; cases h5
  · rcases hb with hb | hb
    · exact e1.a0 b hb
    · rw [hb]; exact ⟨_, upd_same⟩
  · exact ((env.hand p hp).avs hv).kq (same_upd hD)
theorem EnvOk.minus {D : Addr} (env : EnvOk (c.plus D) cps σ H ρ) : EnvOk c cps σ H ρ := by
  have hv : ∀ b, c.av ρ b → (c.plus D).av ρ b ∨ H b = none := fun b z => .inl (av_plus z)
  refine ⟨env.kp, env.len, fun i d h => ?_, fun i a l h => ?_, env.inj, fun b hb => env.a0 b (.inl hb), fun p hp => (env.hand p hp).avs hv⟩
  · obtain ⟨v, h1, h2⟩ := env.dat i d h
    exact ⟨v, h1, Rep.avs hv _ _ h2⟩
  · obtain ⟨h1, h2, h3, h4, ys, h5, h6⟩ := env.own i a l h
    exact ⟨h1, h2, fun z => h3 (.inl z), h4, ys, h5, RepAll.avs hv _ _ h6⟩
/-- the new list grows -/
theorem EnvOk.grow {D : Addr} (env : EnvOk (c.plus D) cps σ H ρ) (hW : c.W ≠ some D) (hc : ∀ p ∈ cps, p.1 D = none) {xs ys : List V} (e : H D = some (.lst xs)) : EnvOk (c.plus D) cps σ (upd H D (.lst ys)) ρ := by
  have kq : Kq c.W ((c.plus D).av ρ) H (upd H D (.lst ys)) := fun b o q => by
    by_cases hb : b = D
    · subst hb
      rw [e] at q; cases q
      exact .inr ⟨.inr (.inl (.inr rfl)), ⟨xs, rfl⟩, ys, upd_same⟩
    · exact .inl (by rw [upd_ne hb]; exact q)
  refine ⟨fun p hp b o q => ?_, env.len, fun i d h => ?_, fun i a l h => ?_, env.inj, fun b hb => ?_, fun p hp => ?_⟩
  · have hb : b ≠ D := fun z => by rw [z, hc p hp] at q; cases q
    rcases env.kp p hp b o q with z | ⟨z1, z2, zs, z3⟩
    · exact .inl (by rw [upd_ne hb]; exact z)
    · exact .inr ⟨z1, z2, zs, by rw [upd_ne hb]; exact z3⟩
  · obtain ⟨v, h1, h2⟩ := env.dat i d h
    exact ⟨v, h1, Rep.kq kq _ _ h2⟩
  · obtain ⟨h1, h2, h3, h4, zs, h5, h6⟩ := env.own i a l h
    refine ⟨h1, h2, h3, h4, zs, ?_, RepAll.kq kq _ _ h6⟩
    rw [upd_ne (fun z => h3 (.inr z))]
    exact h5
  · by_cases hz : b = D
    · rw [hz]; exact ⟨_, upd_same⟩
    · obtain ⟨o, q⟩ := env.a0 b hb
      exact ⟨o, by rw [upd_ne hz]; exact q⟩
  · obtain ⟨cc, ns, i, x, y, z, h1, h2, h4⟩ := env.hand p hp
    refine ⟨cc, ns, i, x, y, z, ?_, ?_, h4⟩
    · rw [upd_ne (fun q => hW (by rw [← q]; exact hp))]; exact h1
    · rw [← hp] at h2 ⊢; exact kq.ls h2
theorem EnvOk.atG {g : Gc} (env : EnvOk c cps σ H ρ) (hg : c.g.gl = g.gl) : EnvOk ⟨g, c.W, c.A0⟩ cps σ H ρ := by
  refine ⟨env.kp, env.len, fun i d h => ?_, fun i a l h => ?_, env.inj, env.a0, fun p hp => by show HandAt g.gl.K _ _ _; rw [← hg]; exact env.hand p hp⟩
  · obtain ⟨v, h1, h2⟩ := env.dat i d h
    refine ⟨v, h1, ?_⟩
    show Rep g.gl.K g.gl.C _ _ _ _ _
    rw [← hg]
    exact h2
  · obtain ⟨h1, h2, h3, h4, xs, h5, h6⟩ := env.own i a l h
    refine ⟨h1, h2, h3, h4, xs, h5, ?_⟩
    show RepAll g.gl.K g.gl.C _ _ _ _ _
    rw [← hg]
    exact h6
end

section
variable {c : Cf} {ρ : List Sl} {Q : D → Prop} {pos p1 p2 p3 : Pos} {elt iter : Expr} {ifs : List Expr} {scope : Scope}
/-- the core of a comprehension's reading -/
theorem lc_rd {X : Cx} {tg : Expr} {g : TG} {vs : List Nat} {cps : Cps} {σ : St} {H : Hp} {Q' : VK} (hX : In c.g X) (sets : D → List Sl) (okD : D → Prop)
    (hg : ∀ (A : Addr → Prop) (cps : Cps) (σ : St) (H : Hp) (x : V) (d : D) (R : St → Hp → Prop), EnvOk (c.blk scope A) cps σ H ρ → Rep c.g.gl.K c.g.gl.C c.W ((c.blk scope A).av ρ) H x d → okD d → (∀ σ2, wipe σ2 vs = wipe σ vs → EnvOk (c.blk scope A) cps σ2 H (sets d) → R σ2 H) → g x (wipe σ vs) H R)
    (h : DI c tg iter ρ fun items => items.length ≤ 1000000 ∧ ∃ I : Nat → List D → Prop, I 0 [] ∧ (∀ A j acc d, I j acc → items[j]? = some d → okD d ∧ DF (c.blk scope A) ifs (sets d) fun b => if b = true then DE (c.blk scope A) elt (sets d) (fun y => I (j + 1) (acc ++ [y])) else I (j + 1) acc) ∧ ∀ acc, I items.length acc → Q (.lst acc))
    (hsub : ∀ d, okD d → (sets d).length = ρ.length) (env : EnvOk c cps σ H ρ) (k : KE c cps σ ρ H Q Q')
    (hav : ∀ d b, okD d → ows (sets d) b → ows ρ b) (hav2 : ∀ d b, okD d → ows ρ b → ows (sets d) b) : tLc (isem c.g tg iter) g (ttsem (c.g.blk scope) ifs) (esem (c.g.blk scope) elt) vs σ H Q' := by
  refine h.run cps σ H env _ fun J H1 items env1 k1 Y ⟨hz, I, h0, hs, hd⟩ D hD => ?_
  obtain ⟨n1, n2⟩ := env1.fresh hD
  have hcD : ∀ p ∈ cps, p.1 D = none := fun p hp => (env1.kp p hp).free hD
  refine ⟨fun i m H2 => m = items.length - i ∧ i ≤ items.length ∧ ∃ acc accV, I i acc ∧ EnvOk (c.plus D) cps σ H2 ρ ∧ Kp c.W H1 H2 ∧ H2 D = some (.lst accV) ∧ RepAll c.g.gl.K c.g.gl.C c.W ((c.plus D).av ρ) H2 accV acc ∧ acc.length ≤ i,
    ⟨_, rfl, Nat.zero_le _, [], [], h0, env1.plus hD [], Kq.of_same (same_upd hD), upd_same, .nil, Nat.le_refl _⟩, ?_⟩
  rintro i m H2 ⟨rfl, hi, acc, accV, hI, env2, kk, hDv, ra, hl⟩
  have kq : Kq c.W (c.av ρ) H1 H2 := Kq.of_kp kk
  by_cases hlt : i < items.length
  · refine .inr ⟨Y.go i H2 kq hlt, fun H3 => ∃ acc accV, I (i + 1) acc ∧ EnvOk (c.plus D) cps σ H3 ρ ∧ Kp c.W H1 H3 ∧ H3 D = some (.lst accV) ∧ RepAll c.g.gl.K c.g.gl.C c.W ((c.plus D).av ρ) H3 accV acc ∧ acc.length ≤ i + 1,
      fun H3 ⟨acc, accV, a1, a2, a3, a4, a5, a6⟩ => ⟨items.length - (i + 1), by omega, rfl, hlt, acc, accV, a1, a2, a3, a4, a5, a6⟩, fun x H3 y => ?_⟩
    obtain ⟨sm, d, hd1, hr⟩ := Y.yld ((c.plus D).av ρ) (fun b z => av_plus z) (fun b z => (plus_av z).imp_right fun e => by rw [e]; exact hD) i H2 x H3 kq hlt y
    obtain ⟨ok, hs⟩ := hs (c.plus D).A0 i acc d hI hd1
    have env3 : EnvOk (c.plus D) cps σ H3 ρ := env2.same sm
    refine hg (c.plus D).A0 cps σ H3 x d _ (env3.atG rfl) hr ok fun σ2 hw env4 => ⟨hw, ?_⟩
    have back : ∀ {H4 : Hp}, EnvOk (c.blk scope (c.plus D).A0) cps σ2 H4 (sets d) → Kp c.W H3 H4 → EnvOk (c.plus D) cps σ H4 ρ := fun {H4} e4 k4 =>
      env3.kp' k4 fun p hp => (e4.hand p hp).avs fun b z => .inl (by
        rcases z with z | z
        · exact .inl z
        · exact .inr (hav2 d b ok z))
    refine hs.run cps σ2 H3 env4 _ fun b H4 env5 k5 hb => ?_
    cases b with
    | false =>
      refine ⟨acc, accV, hb, back env5 k5, (kk.trans (Kq.of_same sm)).trans k5, k5.at_ (sm _ _ hDv) n1 (fun z => z), ?_, by omega⟩
      exact RepAll.kq (Kq.of_kp k5) _ _ (RepAll.kq (Kq.of_same sm) _ _ ra)
    | true =>
      refine hb.run cps σ2 H4 env5 _ fun y H5 dy env6 k6 r6 h6 => ?_
      have k56 : Kp c.W H3 H5 := k5.trans k6
      have hD5 : H5 D = some (.lst accV) := k56.at_ (sm _ _ hDv) n1 (fun z => z)
      have env7 : EnvOk (c.plus D) cps σ H5 ρ := back env6 k56
      have ra5 : RepAll c.g.gl.K c.g.gl.C c.W ((c.plus D).av ρ) H5 accV acc := RepAll.kq (Kq.of_kp k56) _ _ (RepAll.kq (Kq.of_same sm) _ _ ra)
      have ry : Rep c.g.gl.K c.g.gl.C c.W ((c.plus D).av ρ) H5 y dy := Rep.avs (fun b z => .inl (by
        rcases z with z | z
        · exact .inl z
        · exact .inr (hav2 d b ok z))) _ _ r6
      have kw : Kq c.W ((c.plus D).av ρ) H5 (upd H5 D (.lst (accV ++ [y]))) := fun b o q => by
        by_cases hb2 : b = D
        · subst hb2
          rw [hD5] at q; cases q
          exact .inr ⟨.inr (.inl (.inr rfl)), ⟨accV, rfl⟩, _, upd_same⟩
        · exact .inl (by rw [upd_ne hb2]; exact q)
      refine ⟨accV, hD5, ?_, acc ++ [dy], accV ++ [y], h6, env7.grow n1 hcD hD5, fun b o q => ?_, upd_same, RepAll.kq kw _ _ (ra5.append (.cons ry .nil)), by rw [List.length_append]; simp; omega⟩
      · rw [ra5.len]
        exact Nat.lt_of_le_of_lt (show acc.length ≤ 1000000 by omega) (by decide)
      · have hb2 : b ≠ D := fun z => by rw [z, hD] at q; cases q
        rcases ((kk.trans (Kq.of_same sm)).trans k56) b o q with z | ⟨z1, z2, zs, z3⟩
        · exact .inl (by rw [upd_ne hb2]; exact z)
        · exact .inr ⟨z1, z2, zs, by rw [upd_ne hb2]; exact z3⟩
  · have e : i = items.length := by omega
    subst e
    refine .inl ⟨Y.stop _ H2 kq rfl, ?_⟩
    exact k _ H2 _ env2.minus (k1.trans kk) (.lst (.inl ⟨.inl hDv, n1, n2⟩) (RepAll.avs (fun b z => .inl (av_plus z)) _ _ ra)) (hd acc hI)
/-- one name -/
theorem lc1_tg {i : Nat} (hi : i < ρ.length) (hno : ∀ a l, ρ[i]? ≠ some (.own a l)) (A : Addr → Prop) (cps : Cps) (σ : St) (H : Hp) (x : V) (d : D) (R : St → Hp → Prop) (env : EnvOk (c.blk scope A) cps σ H ρ) (r : Rep c.g.gl.K c.g.gl.C c.W ((c.blk scope A).av ρ) H x d) (_ : True)
    (k : ∀ σ2, wipe σ2 [i] = wipe σ [i] → EnvOk (c.blk scope A) cps σ2 H (ρ.set i (.dat d)) → R σ2 H) : gName i x (wipe σ [i]) H R := by
  refine k _ ?_ ?_
  · show ((σ.set i none).set i (some x)).set i none = σ.set i none
    rw [List.set_set, List.set_set]
  · have e1 := env.unset i
    have e2 := e1.set (i := i) (v := x) (d := d) (Rep.avs (fun b z => by
      rcases z with z | z
      · exact .inl (.inl z)
      · rcases ows_set z with z | z
        · exact .inl (.inr z)
        · cases z) _ _ r)
    have er : (ρ.set i Sl.non).set i (.dat d) = ρ.set i (.dat d) := List.set_set ..
    rw [er] at e2
    exact e2
theorem adr_non {i : Nat} (hno : ∀ a l, ρ[i]? ≠ some (.own a l)) (d : D) : (ρ.set i (.dat d)).map Sl.adr = ρ.map Sl.adr := by
  cases h : ρ[i]? with
  | none =>
    rw [List.set_eq_of_length_le]
    exact List.getElem?_eq_none_iff.mp h
  | some s =>
    refine adr_set h ?_
    cases s with
    | non => rfl
    | dat _ => rfl
    | own a l => exact absurd h (hno a l)
theorem de_lc (i : Nat) {x : Str} (h : DI c (.Name x p1) iter ρ fun items => items.length ≤ 1000000 ∧ ∃ I : Nat → List D → Prop, I 0 [] ∧ (∀ A j acc d, I j acc → items[j]? = some d → DF (c.blk scope A) ifs (ρ.set i (.dat d)) fun b => if b = true then DE (c.blk scope A) elt (ρ.set i (.dat d)) (fun y => I (j + 1) (acc ++ [y])) else I (j + 1) acc) ∧ ∀ acc, I items.length acc → Q (.lst acc))
    (hno : ∀ a l, ρ[i]? ≠ some (.own a l) := by intro _ _ z; cases z) (hi : i < ρ.length := by exact Nat.le_of_ble_eq_true rfl) (hN : c.g.N[i]? = some x := by kernel_rfl) (ok : blkC c.g.N c.g.sc scope [(x, i)] = true := by kernel_rfl) (hl : locB (relS scope c.g.sc) x = true := by kernel_rfl) (hf : fnB (c.g.blk scope) x = true := by kernel_rfl)
    (hs : ∀ env y, foldedSetIterable iter env y = pure y := by intro _ _; rfl) : DE c (.ListComp elt [⟨.Name x p1, iter, ifs, 0⟩] scope pos) ρ Q :=
  DE.of fun X hX => ⟨_, pe_lc (own := [(x, i)]) hX.calm (by rw [hX.N]; exact hX.nd) (hX.pi _ iter) (by rw [hX.N, hX.sc]; exact blkOk_by ok) (fun s H C cl fp => pg_name (by rw [(hX.blk scope s H C cl fp).N]; exact hX.nd) ((hX.blk scope s H C cl fp).name hN) ((hX.blk scope s H C cl fp).loc hl) ((hX.blk scope s H C cl fp).fnl hf))
    (fun s H C cl fp => (hX.blk scope s H C cl fp).pts ifs) (fun s H C cl fp => (hX.blk scope s H C cl fp).pe elt) (hs _), fun cps σ H env Q' k =>
    lc_rd hX (fun d => ρ.set i (.dat d)) (fun _ => True) (lc1_tg hi hno) ⟨fun cps σ H env R kk => h.run cps σ H env R fun J H' items e1 e2 e3 ⟨a1, I, a2, a3, a4⟩ => kk J H' items e1 e2 e3 ⟨a1, I, a2, fun A j acc d b1 b2 => ⟨trivial, a3 A j acc d b1 b2⟩, a4⟩⟩
      (fun d _ => List.length_set ..) env k (fun d b _ z => by unfold ows at z ⊢; rw [adr_non hno] at z; exact z) (fun d b _ z => by unfold ows at z ⊢; rw [adr_non hno]; exact z)⟩
/-- two names -/
def set2 (ρ : List Sl) (i l : Nat) : D → List Sl
  | .tup [d1, d2] => (ρ.set i (.dat d1)).set l (.dat d2)
  | _ => ρ
theorem lc2_tg {K : PySem.W.Frag} {i l : Nat} (hK : K = c.g.gl.K) (hil : i ≠ l) (A : Addr → Prop) (cps : Cps) (σ : St) (H : Hp) (x : V) (d : D) (R : St → Hp → Prop) (env : EnvOk (c.blk scope A) cps σ H ρ) (r : Rep c.g.gl.K c.g.gl.C c.W ((c.blk scope A).av ρ) H x d) (ok : ∃ d1 d2, d = .tup [d1, d2])
    (k : ∀ σ2, wipe σ2 [i, l] = wipe σ [i, l] → EnvOk (c.blk scope A) cps σ2 H (set2 ρ i l d) → R σ2 H) : gTup K 2 (gCons (gName i) (gCons (gName l) gNil)) x (wipe σ [i, l]) H R := by
  obtain ⟨d1, d2, rfl⟩ := ok
  cases r with
  | tup t rs =>
    cases rs with
    | cons q1 rs =>
      cases rs with
      | cons q2 rs =>
        cases rs
        refine ⟨_, _, rfl, by rw [hK]; exact t, rfl, _, _, rfl, _, _, rfl, rfl, k _ ?_ ?_⟩
        · show ((((((σ.set l none).set i none).set i (some _)).set l (some _)).set l none).set i none) = (σ.set l none).set i none
          rw [List.set_set, List.set_set, List.set_comm _ _ hil, List.set_set, List.set_set]
        · have e1 := ((env.unset l).unset i)
          have sub0 : ∀ b, (c.blk scope A).av ((ρ.set l .non).set i .non) b → (c.blk scope A).av ρ b ∨ H b = none := fun b z => by
            rcases z with z | z
            · exact .inl (.inl z)
            · rcases ows_set z with z | z
              · rcases ows_set z with z | z
                · exact .inl (.inr z)
                · cases z
              · cases z
          have e2 := e1.set (i := i) (d := d1) (Rep.avs sub0 _ _ q1)
          have e3 := e2.set (i := l) (d := d2) (Rep.avs (fun b z => by
            rcases av_set_sub (H := H) b z with z | z
            · exact sub0 b z
            · exact .inr z) _ _ q2)
          have er : (((ρ.set l Sl.non).set i Sl.non).set i (Sl.dat d1)).set l (Sl.dat d2) = (ρ.set i (.dat d1)).set l (.dat d2) := by
            rw [List.set_set, List.set_comm _ _ (Ne.symm hil), List.set_set]
          rw [er] at e3
          exact e3
theorem de_lc2 (i l : Nat) {x y : Str} {n1} (h : DI c (.Tuple [.Name x p1, .Name y p2] n1 p3) iter ρ fun items => items.length ≤ 1000000 ∧ ∃ I : Nat → List D → Prop, I 0 [] ∧ (∀ A j acc d, I j acc → items[j]? = some d → ∃ d1 d2, d = .tup [d1, d2] ∧ DF (c.blk scope A) ifs ((ρ.set i (.dat d1)).set l (.dat d2)) fun b => if b = true then DE (c.blk scope A) elt ((ρ.set i (.dat d1)).set l (.dat d2)) (fun y => I (j + 1) (acc ++ [y])) else I (j + 1) acc) ∧ ∀ acc, I items.length acc → Q (.lst acc))
    (hno : ∀ a l, ρ[i]? ≠ some (.own a l) := by intro _ _ z; cases z) (hno2 : ∀ a m, ρ[l]? ≠ some (.own a m) := by intro _ _ z; cases z) (hil : i ≠ l := by decide) (hN : c.g.N[i]? = some x := by kernel_rfl) (hN2 : c.g.N[l]? = some y := by kernel_rfl) (ok : blkC c.g.N c.g.sc scope [(x, i), (y, l)] = true := by kernel_rfl)
    (hl : locB (relS scope c.g.sc) x = true := by kernel_rfl) (hf : fnB (c.g.blk scope) x = true := by kernel_rfl) (hl2 : locB (relS scope c.g.sc) y = true := by kernel_rfl) (hf2 : fnB (c.g.blk scope) y = true := by kernel_rfl)
    (hs : ∀ env y, foldedSetIterable iter env y = pure y := by intro _ _; rfl) : DE c (.ListComp elt [⟨.Tuple [.Name x p1, .Name y p2] n1 p3, iter, ifs, 0⟩] scope pos) ρ Q :=
  DE.of fun X hX => ⟨_, pe_lc (own := [(x, i), (y, l)]) hX.calm (by rw [hX.N]; exact hX.nd) (hX.pi _ iter) (by rw [hX.N, hX.sc]; exact blkOk_by ok) (fun s H C cl fp => pg_tup (X := X.blk s H scope (compEnvC scope cl C X.env) fp) hX.calm (pgs_cons (pg_name (by rw [(hX.blk scope s H C cl fp).N]; exact hX.nd) ((hX.blk scope s H C cl fp).name hN) ((hX.blk scope s H C cl fp).loc hl) ((hX.blk scope s H C cl fp).fnl hf))
      (pgs_cons (pg_name (by rw [(hX.blk scope s H C cl fp).N]; exact hX.nd) ((hX.blk scope s H C cl fp).name hN2) ((hX.blk scope s H C cl fp).loc hl2) ((hX.blk scope s H C cl fp).fnl hf2)) pgs_nil)))
    (fun s H C cl fp => (hX.blk scope s H C cl fp).pts ifs) (fun s H C cl fp => (hX.blk scope s H C cl fp).pe elt) (hs _), fun cps σ H env Q' k =>
    lc_rd hX (set2 ρ i l) (fun d => ∃ d1 d2, d = .tup [d1, d2]) (lc2_tg hX.K hil)
      ⟨fun cps σ H env R kk => h.run cps σ H env R fun J H' items e1 e2 e3 ⟨a1, I, a2, a3, a4⟩ => kk J H' items e1 e2 e3 ⟨a1, I, a2, fun A j acc d b1 b2 => by
        obtain ⟨d1, d2, rfl, q⟩ := a3 A j acc d b1 b2
        exact ⟨⟨d1, d2, rfl⟩, q⟩, a4⟩⟩
      (fun d ⟨d1, d2, e⟩ => by subst e; simp [set2]) env k (fun d b ⟨d1, d2, e⟩ z => by
        subst e
        have hno3 : ∀ a m, (ρ.set i (.dat d1))[l]? ≠ some (.own a m) := fun a m q => by
          rw [List.getElem?_set_ne hil] at q
          exact hno2 a m q
        unfold ows at z ⊢
        have z' : some b ∈ List.map Sl.adr ((ρ.set i (Sl.dat d1)).set l (Sl.dat d2)) := z
        rw [adr_non hno3, adr_non hno] at z'
        exact z') (fun d b ⟨d1, d2, e⟩ z => by
        subst e
        have hno3 : ∀ a m, (ρ.set i (.dat d1))[l]? ≠ some (.own a m) := fun a m q => by
          rw [List.getElem?_set_ne hil] at q
          exact hno2 a m q
        unfold ows at z ⊢
        show some b ∈ List.map Sl.adr ((ρ.set i (Sl.dat d1)).set l (Sl.dat d2))
        rw [adr_non hno3, adr_non hno]
        exact z)⟩
/-- name = [.. for name in ..] on one line -/
theorem ds_setLc (m i : Nat) {E : EndsD} {x y : Str} {py spos : Pos} (h : DI c (.Name x p1) iter ρ fun items => items.length ≤ 1000000 ∧ ∃ I : Nat → List D → Prop, I 0 [] ∧ (∀ A j acc d, I j acc → items[j]? = some d → DF (c.blk scope A) ifs (ρ.set i (.dat d)) fun b => if b = true then DE (c.blk scope A) elt (ρ.set i (.dat d)) (fun y => I (j + 1) (acc ++ [y])) else I (j + 1) acc) ∧ ∀ acc, I items.length acc → E.nx (ρ.set m (.dat (.lst acc))))
    (hno : ∀ a l, ρ[i]? ≠ some (.own a l) := by intro _ _ z; cases z) (hi : i < ρ.length := by exact Nat.le_of_ble_eq_true rfl) (hN : c.g.N[i]? = some x := by kernel_rfl) (ok : blkC c.g.N c.g.sc scope [(x, i)] = true := by kernel_rfl) (hl : locB (relS scope c.g.sc) x = true := by kernel_rfl) (hf : fnB (c.g.blk scope) x = true := by kernel_rfl)
    (hNy : c.g.N[m]? = some y := by kernel_rfl) (hly : c.g.sc.names.lookup y = some .local := by kernel_rfl) (hk : c.g.sc.kind = .function := by kernel_rfl) (hln : (py.line == pos.line) = true := by kernel_rfl) (hcap : (scope.names.any fun (n, k) => n == y && (k == .local || k == .cell)) = false := by kernel_rfl)
    (hs : ∀ env y, foldedSetIterable iter env y = pure y := by intro _ _; rfl) : DS c (.Assign [.Name y py] (.ListComp elt [⟨.Name x p1, iter, ifs, 0⟩] scope pos) spos) ρ E :=
  DS.of fun X hX => ⟨_, ps_setLc (own := [(x, i)]) hX.calm (by rw [hX.N]; exact hX.nd) (hX.name hNy) (by rw [hX.sc]; exact hly) (sw_true (by rw [hX.sc]; exact hk) (by rw [hX.sc]; exact hly) hln hcap) (hX.pi _ iter) (by rw [hX.N, hX.sc]; exact blkOk_by ok) (fun s H C cl fp => pg_name (by rw [(hX.blk scope s H C cl fp).N]; exact hX.nd) ((hX.blk scope s H C cl fp).name hN) ((hX.blk scope s H C cl fp).loc hl) ((hX.blk scope s H C cl fp).fnl hf))
    (fun s H C cl fp => (hX.blk scope s H C cl fp).pts ifs) (fun s H C cl fp => (hX.blk scope s H C cl fp).pe elt) (hs _), fun cps σ H env T k =>
    lc_rd (Q := fun d => E.nx (ρ.set m (.dat d))) hX (fun d => ρ.set i (.dat d)) (fun _ => True) (lc1_tg hi hno) ⟨fun cps σ H env R kk => h.run cps σ H env R fun J H' items e1 e2 e3 ⟨a1, I, a2, a3, a4⟩ => kk J H' items e1 e2 e3 ⟨a1, I, a2, fun A j acc d b1 b2 => ⟨trivial, a3 A j acc d b1 b2⟩, a4⟩⟩
      (fun d _ => List.length_set ..) env (fun v H' d e1 k1 r1 q => k.nx _ H' _ (e1.set r1) q) (fun d b _ z => by unfold ows at z ⊢; rw [adr_non hno] at z; exact z) (fun d b _ z => by unfold ows at z ⊢; rw [adr_non hno]; exact z)⟩
end
end Dl
set_option maxHeartbeats 8000000
/-! Dx2: set(xs) of a list or tuple of ints, then sorted. -/
namespace Dx
open PySem PySem.Spec PyProof.Rows L2
abbrev set0 (w : World) : Obj := { cls := .type "set", dict := none, data := .set #[] 0 (.fresh 0 0 (!w.params.followText "set-order")) }
section
variable {P : Program} {w : World} {A : Around} {E : Value → Shared → Prop} {s : Shared}
theorem call_set_lst {l : Addr} {items : Array Value} (ns : List Int) {Q : Value → Shared → Prop} (hh : A.handled = none) (hl : s.heap.IsList l items) (hit : IntsAre items.toList ns) (hb : ns.length + 1 < scanBound)
    (h : ∀ (h' : Heap) (tk c : Nat), SetR w h' s.heap.objs.size (fun j => decide (j ∈ ns)) c → (∀ b o, s.heap.get? b = some o → h'.get? b = some o) → Q (.ref s.heap.objs.size) { s with heap := h', toks := tk }) :
    wpAny (model P w) A (call (.type "set") [.ref l]) Q E s := by
  have hisz : items.size = ns.length := by
    have q := IntsAre.length hit
    rwa [Array.length_toList] at q
  obtain ⟨c, tl, hmro⟩ := F.called_set.mro
  have hmade := F.called_set.made
  have hsub := F.called_set.sub
  refine wpAny_call (codeAny_of_tree ?_)
  show wpAny _ _ (callAny (.type "set") _) _ _ _
  refine wpAny_pure ⟨Code.quiet_builtin _ (by decide +kernel), codeAny_builtin F.entry_type_call ?_⟩
  rw [Around.under_plain (weight_type_call_type "set" [.ref l] []) rfl]
  have h1 := F.called_set.notType
  have h2 := F.called_set.canCreate
  have hct := F.typeCall_set_1 (.ref l)
  repeat (any_goals (first | assumption | wp_step))
  refine codeAny_mono (code_set_led1 (.ref l) (E := E) (Q₁ := fun obj s₁ => obj = .ref s.heap.objs.size ∧ s₁ = { s with heap := s.heap.push (set0 w) }) ⟨rfl, rfl⟩) fun r s₁ hr => ?_
  cases r with
  | error e => exact hr
  | ok fl =>
    cases fl with
    | ret obj =>
      obtain ⟨rfl, rfl⟩ := hr
      have hS : (s.heap.push (set0 w)).get? s.heap.objs.size = some (set0 w) := Heap.get?_push_size _ rfl
      have hT : Shared.TypeIs { s with heap := s.heap.push (set0 w) } (.ref s.heap.objs.size) "set" := ⟨_, hS, rfl⟩
      have hli := F.called_set.init.lookup
      have hbi := F.called_set.init.bind (.ref s.heap.objs.size)
      repeat (any_goals (first | assumption | wp_step))
      refine codeAny_mono (codeAny_call_builtin (R := wants (fun r s₂ => r = .none ∧ ∃ h' tk c, s₂ = { s with heap := h', toks := tk } ∧ SetR w h' s.heap.objs.size (fun j => decide (j ∈ ns)) c ∧ ∀ b o, s.heap.get? b = some o → h'.get? b = some o) E) F.called_set.init.plain F.entry_set_init (check_set_init_1 hT ?_)) fun r₂ s₂ hr₂ => ?_
      · obtain ⟨⟨ocls, odict, odata, oslots⟩, hol, hcl, nl, hdl⟩ := hl
        simp only at hcl hdl
        subst hcl hdl
        have hol' : (s.heap.push (set0 w)).get? l = some { cls := .type "list", dict := odict, data := .seq items nl, slots := oslots } := Heap.get?_push_of_some _ hol
        have hsls := F.sub_list_set
        have hslf := F.sub_list_frozenset
        have hne : (Value.type "list" == Value.type "dict") = false := by decide
        have hl1 : (s.heap.push (set0 w)).IsList l items := ⟨_, hol', rfl, nl, rfl⟩
        unfold Builtin.«set.__init__» noKeywords Builtin.Frozenset.updateFrom
        generalize hPI : pyIter = PI
        wp_walk
        subst hPI
        refine wpAny_pyIter_list hl1 (wpAny_bind (wpAny_runValue ?_))
        have hlS : l < s.heap.objs.size := Heap.lt_size hol
        have hz : (s.heap.push (set0 w)).objs.size = s.heap.objs.size + 1 := Heap.size_push ..
        have hneI : l ≠ (s.heap.push (set0 w)).objs.size := by rw [hz]; exact Nat.ne_of_lt (Nat.lt_succ_of_lt hlS)
        have hSf : s.heap.objs.size ∉ [(s.heap.push (set0 w)).objs.size, l] := by
          rw [hz]
          intro hm
          rcases List.mem_cons.mp hm with z | z
          · exact Nat.ne_of_lt (Nat.lt_succ_self _) z
          · exact Nat.ne_of_gt hlS (List.mem_singleton.mp z)
        have hval : ∀ (i : Nat) (v : Value), items[i]? = some v → ∃ k t, ns[i]? = some k ∧ v = .int k t := fun i v hv => by
          have hi : i < ns.length := by rw [← hisz]; exact (Array.getElem?_eq_some_iff.mp hv).1
          obtain ⟨t, e⟩ := PyProof.Rows.IntsAre.int_at hit i v (by rw [Array.getElem?_toList]; exact hv)
          have e2 : ns.getD i 0 = ns[i] := by rw [List.getD_eq_getElem?_getD, List.getElem?_eq_getElem hi]; rfl
          exact ⟨ns[i], t, List.getElem?_eq_getElem hi, by rw [e, e2]⟩
        refine set_update_ints ((Walks.list (by simp [hh]) _ l hneI items).toS) s.heap.objs.size hSf ns hisz hb hval (items.size - 0) 0 _ (by omega) (Nat.zero_le _) ⟨⟨_, Heap.get?_push_size _ rfl, rfl, rfl⟩, (hl1.push _)⟩ ?hS0 ?hR
        case hS0 => exact ⟨0, Nat.le_refl 0, setR_new_at (Heap.get?_push_of_some _ hS)⟩
        case hR =>
          intro s' c' hm hc' hS'
          obtain ⟨h', g2, d', tk', os'⟩ := s'
          have eg : g2 = s.gens := hm.gens
          have ed : d' = s.drawn := hm.drawn
          have eo : os' = s.os := hm.os
          subst eg ed eo
          show wpAny _ _ _ _ _ _
          refine wpAny_pure ?_
          show wpAny _ _ (ret Value.none) _ _ _
          refine wpAny_pure ⟨rfl, h', tk', c', rfl, hS', fun b o e => ?_⟩
          have hb0 : b < s.heap.objs.size := Heap.lt_size e
          refine hm.heap b o (fun hmem => ?_) (Heap.get?_push_of_some _ (Heap.get?_push_of_some _ e))
          rcases List.mem_cons.mp hmem with z | z
          · exact Nat.ne_of_lt hb0 z
          · exact Nat.ne_of_lt (Nat.lt_succ_of_lt hb0) ((List.mem_singleton.mp z).trans hz)
      · cases r₂ with
        | error e => exact hr₂
        | ok fl₂ =>
          cases fl₂ with
          | ret r =>
            obtain ⟨rfl, h', tk, c', rfl, hS', hk'⟩ := hr₂
            repeat (any_goals (first | assumption | wp_step))
            exact h _ _ _ hS' hk'
          | _ => exact hr₂.elim
    | _ => exact hr.elim
end
/-- small ints, none twice: few -/
theorem nodup_len : ∀ (m : Nat) (l : List Int), l.Nodup → (∀ x ∈ l, 0 ≤ x ∧ x < (m : Int)) → l.length ≤ m
  | 0, l, _, h => by
    cases l with
    | nil => exact Nat.le_refl _
    | cons x r =>
      have := h x List.mem_cons_self
      omega
  | m + 1, l, hd, h => by
    have ih := nodup_len m (l.erase (m : Int)) (hd.erase _) fun x hx => by
      have h1 := (hd.mem_erase_iff.mp hx)
      have h2 := h x h1.2
      have h3 := h1.1
      omega
    by_cases hm : (m : Int) ∈ l
    · have := List.length_erase_of_mem hm
      omega
    · rw [List.erase_of_not_mem hm] at ih
      omega
/-- the number of a set's members -/
theorem setR_few {w : World} {h : Heap} {a : Addr} {S : Int → Bool} {n : Nat} (R : SetR w h a S n) {m : Nat} (hS : ∀ k, S k = true → 0 ≤ k ∧ k < (m : Int)) : n ≤ m := by
  obtain ⟨o, es, ep, t, ho, hex, hdt, g, nd, hm2, hb, hf, hn, hr, hl2⟩ := R
  have h1 := nodup_len m _ nd fun x hx => hS x ((hm2 x).mpr hx)
  rw [List.length_map, Array.length_toList] at h1
  omega
section
variable {X : Cx}
def rSetOf (K : PySem.W.Frag) (w : World) : List V → Hp → VK → Prop := fun xs H Q => ∃ (p : Addr) (ns : List Int) (m : Nat), xs = [.ref p] ∧ (SqL K H p (ns.map V.int) ∨ SqT K H p (ns.map V.int)) ∧ ns.length ≤ 1000 ∧ (∀ k ∈ ns, 0 ≤ k ∧ k < (m : Int)) ∧
  ∀ a c, H a = none → c ≤ m → Q (.ref a) (upd H a (SetO w a (fun j => decide (j ∈ ns)) c))
theorem cr_setOf (hc : X.calm = true) : CallR X (.type "set") (rSetOf X.K X.w) := by
  intro pins s σ H xs us Q I r h
  obtain ⟨p, ns, m, e1, hq, hz, hm, q⟩ := h
  subst e1
  rw [Vals.ref1 r]
  have fin : ∀ (h' : Heap) (tk c : Nat), SetR X.w h' s.heap.objs.size (fun j => decide (j ∈ ns)) c → (∀ b o, s.heap.get? b = some o → h'.get? b = some o) → EP X pins σ Q (.ref s.heap.objs.size) { s with heap := h', toks := tk } := fun h' tk c R k =>
    ⟨.ref s.heap.objs.size, _, I.laid (t' := tk) k (Nat.le_refl _) (setO_new R), rfl, q _ c (I.hok.fresh (Nat.le_refl _)) (setR_few R fun j hj => hm j (of_decide_eq_true hj))⟩
  rcases hq with hq | hq
  · obtain ⟨its, rv, pl, _⟩ := I.list hq
    exact call_set_lst ns (I.ok.hd hc) pl.isList (ints_of_vals rv) (by unfold scanBound; omega) fin
  · obtain ⟨its, rv, pt, _⟩ := I.tuple hq
    exact call_set_tupI ns (I.ok.hd hc) (show s.heap.IsTuple p its.toArray from pt) (ints_of_vals rv) (by unfold scanBound; omega) fun h' tk c R _ k => fin h' tk c R k
end
end Dx
/-! Dl7: the def's own lists, pairs of stores, the further built-ins, a def by its body. -/
namespace Dl
open PySem PySem.Spec PyProof.Rows L2
section
variable {c : Cf} {cps : Cps} {σ : St} {H : Hp} {ρ : List Sl}
theorem plus_fresh {D : Addr} (env : EnvOk c cps σ H ρ) (hD : H D = none) : c.W ≠ some D ∧ ¬ c.av ρ D ∧ ∀ p ∈ cps, p.1 D = none :=
  ⟨(env.fresh hD).1, (env.fresh hD).2, fun p hp => (env.kp p hp).free hD⟩
/-- the list that was laid becomes the def's own -/
theorem EnvOk.adopt {o : Addr} {i : Nat} {xs : List V} {l : List D} (env : EnvOk (c.plus o) cps σ H ρ) (hW : c.W ≠ some o) (hA : ¬ c.av ρ o) (hc : ∀ p ∈ cps, p.1 o = none) (e : H o = some (.lst xs)) (r : RepAll c.g.gl.K c.g.gl.C c.W ((c.plus o).av ρ) H xs l) :
    EnvOk c cps (σ.set i (some (.ref o))) H (ρ.set i (.own o l)) := by
  have hv : ∀ b, (c.av ρ b ∨ b = o) → (c.plus o).av ρ b ∨ H b = none := fun b z => by
    rcases z with z | z
    · exact .inl (av_plus z)
    · exact .inl (.inl (.inr z))
  refine env.minus.setOwn hW hA (fun p hp => .inl (hc p hp)) e (RepAll.avs hv _ _ r) (fun j d hj => ?_) (fun j b m hj => ?_) fun p hp => (env.hand p hp).avs hv
  · obtain ⟨v, h1, h2⟩ := env.dat j d hj
    exact ⟨v, h1, Rep.avs hv _ _ h2⟩
  · obtain ⟨_, _, _, _, ys, h5, h6⟩ := env.own j b m hj
    exact ⟨ys, h5, RepAll.avs hv _ _ h6⟩
end
section
variable {c : Cf} {ρ : List Sl} {E : EndsD} {Q : D → Prop} {pos p1 p2 p3 : Pos} {tg e a b : Expr} {es : List Expr}
/-- name = [..], a list that the def will write -/
theorem ds_new (i : Nat) {x : Str} (h : DA c es ρ fun ds => ds.length ≤ 1000000 ∧ ∀ o, E.nx (ρ.set i (.own o ds))) (hN : c.g.N[i]? = some x := by kernel_rfl) (hl : locB c.g.sc x = true := by kernel_rfl) (hf : fnB c.g x = true := by kernel_rfl)
    (hs : swapsWith (.List es p2) (some (.Name x p1)) pos.line (env0 c.g.sc) = pure false := by kernel_rfl) : DS c (.Assign [.Name x p1] (.List es p2) pos) ρ E :=
  DS.of fun X hX => ⟨_, ps_set (by rw [hX.N]; exact hX.nd) (hX.name hN) (hX.loc hl) (pe_lst (hX.pa es)) (hX.sw2 hs) (hX.fnl hf), fun cps σ H env T k => h.run cps σ H env _ fun vs H1 ds env1 k1 r1 ⟨hz, q⟩ => by
    refine ⟨by rw [r1.len]; exact le_size hz, fun o ho => ?_⟩
    obtain ⟨n1, n2, n3⟩ := plus_fresh env1 ho
    refine k.nx _ _ _ ((env1.plus ho vs).adopt (i := i) n1 n2 n3 upd_same ?_) (q o)
    exact RepAll.kq (Kq.of_same (same_upd ho)) _ _ (RepAll.avs (fun b z => (plus_av z).imp_right fun e => by rw [e]; exact ho) _ _ r1)⟩
/-- name = list(..), a list that the def will write -/
theorem ds_newListOf (i : Nat) {x : Str} {p4 : Pos} (hm : c.g.gl.mg "list" = none) (h : DE c e ρ (IsQ fun l => ∀ o, E.nx (ρ.set i (.own o l)))) (hN : c.g.N[i]? = some x := by kernel_rfl) (hl : locB c.g.sc x = true := by kernel_rfl) (hf : fnB c.g x = true := by kernel_rfl) (hg : glB c.g.sc "list" = true := by kernel_rfl)
    (hst : ∀ env, starEach [e] env = (false, eval e env) :: starEach [] env := by intro _; rfl) (hs : swapsWith (.Call (.Name "list" p2) [e] [] p4) (some (.Name x p1)) pos.line (env0 c.g.sc) = pure false := by kernel_rfl) : DS c (.Assign [.Name x p1] (.Call (.Name "list" p2) [e] [] p4) pos) ρ E :=
  DS.of fun X hX => ⟨_, ps_set (by rw [hX.N]; exact hX.nd) (hX.name hN) (hX.loc hl) (pe_callTy call_list_of (hX.gl' hg) (hX.mgn hm) (by decide +kernel) (pa_cons (hX.pe e) pa_nil (hst _)) (by decide) (by decide) (hst _) rfl) (hX.sw2 hs) (hX.fnl hf), fun cps σ H env T k => h.run cps σ H env _ fun v H1 d env1 k1 r1 h1 => by
    obtain ⟨l, a1, xs, rfl, t, rs, q⟩ := IsQ.get h1 r1
    refine ⟨a1, xs, rfl, ?_, fun o ho => ?_⟩
    · rcases t with ⟨_, t⟩ | ⟨_, t⟩
      · exact .inr (hX.sqt t)
      · exact .inl (hX.sql t.sql)
    · obtain ⟨n1, n2, n3⟩ := plus_fresh env1 ho
      refine k.nx _ _ _ ((env1.plus ho xs).adopt (i := i) n1 n2 n3 upd_same ?_) (q o)
      exact RepAll.kq (Kq.of_same (same_upd ho)) _ _ (RepAll.avs (fun b z => (plus_av z).imp_right fun e => by rw [e]; exact ho) _ _ rs)⟩
/-- a, b = e, e' stored from the right -/
theorem ds_par2 (i j : Nat) {x y : Str} {n1 n2} {p4 : Pos} (h : DE c a ρ fun d1 => DE c b ρ fun d2 => E.nx ((ρ.set i (.dat d1)).set j (.dat d2))) (hij : i ≠ j := by decide) (hN : c.g.N[i]? = some x := by kernel_rfl) (hN2 : c.g.N[j]? = some y := by kernel_rfl) (hx : c.g.sc.names.lookup x = some .local := by kernel_rfl) (hy : c.g.sc.names.lookup y = some .local := by kernel_rfl)
    (hs : swapsWithSole [.Tuple [.Name x p1, .Name y p2] n1 p3] (.Tuple [a, b] n2 p4) pos.line (env0 c.g.sc) = pure false := by kernel_rfl) (hw : swappedStores [.Tuple [.Name x p1, .Name y p2] n1 p3] (.Tuple [a, b] n2 p4) (env0 c.g.sc) = pure (some [x, y]) := by kernel_rfl)
    (hs1 : ∀ env, starEach [a, b] env = (false, eval a env) :: starEach [b] env := by intro _; rfl) (hs2 : ∀ env, starEach [b] env = (false, eval b env) :: starEach [] env := by intro _; rfl) : DS c (.Assign [.Tuple [.Name x p1, .Name y p2] n1 p3] (.Tuple [a, b] n2 p4) pos) ρ E :=
  DS.of fun X hX => ⟨_, ps_par hX.calm (by rw [hX.N]; exact hX.nd) (hX.name hN) (hX.name hN2) hij (by rw [hX.sc]; exact hx) (by rw [hX.sc]; exact hy) (pa_cons (hX.pe a) (pa_cons (hX.pe b) pa_nil (hs2 _)) (hs1 _)) (hX.sw hw) (hX.sw3 hs), fun cps σ H env T k => h.run cps σ H env _ fun v H1 d1 env1 k1 r1 h1 =>
    h1.run cps σ H1 env1 _ fun u H2 d2 env2 k2 r2 q => ⟨v, u, rfl, k.nx _ H2 _ ((env2.set (i := i) (env1.rep k2 r1)).set (i := j) (d := d2) (Rep.avs av_set_sub _ _ r2)) q⟩⟩
/-- a, b, w = [], [e], f: two lists of the def's own -/
theorem ds_own3 (i j l : Nat) {x y z : Str} {f : Expr} {n1 n2} {p4 p5 p6 p7 : Pos} (hij : i ≠ j) (h : ∀ A, DE ⟨c.g, c.W, A⟩ e ρ fun d1 => ∀ A, DE ⟨c.g, c.W, A⟩ f ρ fun d2 => ∀ o o', E.nx (((ρ.set i (.own o [])).set j (.own o' [d1])).set l (.dat d2)))
    (hN : c.g.N[i]? = some x := by kernel_rfl) (hl : locB c.g.sc x = true := by kernel_rfl) (hf : fnB c.g x = true := by kernel_rfl) (hN2 : c.g.N[j]? = some y := by kernel_rfl) (hl2 : locB c.g.sc y = true := by kernel_rfl) (hf2 : fnB c.g y = true := by kernel_rfl) (hN3 : c.g.N[l]? = some z := by kernel_rfl) (hl3 : locB c.g.sc z = true := by kernel_rfl) (hf3 : fnB c.g z = true := by kernel_rfl)
    (hs : swapsWithSole [.Tuple [.Name x p1, .Name y p2, .Name z p4] n1 p3] (.Tuple [.List [] p5, .List [e] p6, f] n2 p7) pos.line (env0 c.g.sc) = pure false := by kernel_rfl) (hw : swappedStores [.Tuple [.Name x p1, .Name y p2, .Name z p4] n1 p3] (.Tuple [.List [] p5, .List [e] p6, f] n2 p7) (env0 c.g.sc) = pure none := by kernel_rfl)
    (hs1 : ∀ env, starEach [e] env = (false, eval e env) :: starEach [] env := by intro _; rfl) (hs2 : ∀ env, starEach [f] env = (false, eval f env) :: starEach [] env := by intro _; rfl) :
    DS c (.Assign [.Tuple [.Name x p1, .Name y p2, .Name z p4] n1 p3] (.Tuple [.List [] p5, .List [e] p6, f] n2 p7) pos) ρ E :=
  DS.of fun X hX => ⟨_, ps_asg (pe_tup (pa_cons (pe_lst pa_nil) (pa_cons (pe_lst (pa_cons (hX.pe e) pa_nil (hs1 _))) (pa_cons (hX.pe f) pa_nil (hs2 _))))) (pg_tup hX.calm (pgs_cons (pg_name (by rw [hX.N]; exact hX.nd) (hX.name hN) (hX.loc hl) (hX.fnl hf)) (pgs_cons (pg_name (by rw [hX.N]; exact hX.nd) (hX.name hN2) (hX.loc hl2) (hX.fnl hf2)) (pgs_cons (pg_name (by rw [hX.N]; exact hX.nd) (hX.name hN3) (hX.loc hl3) (hX.fnl hf3)) pgs_nil)))) (hX.sw3 hs) (hX.sw hw), fun cps σ H env T k => by
    refine ⟨Nat.zero_le _, fun o ho => ?_⟩
    obtain ⟨a1, a2, a3⟩ := plus_fresh env ho
    have env1 := env.plus ho []
    refine (h (c.plus o).A0).run cps σ _ env1 _ fun v H2 d1 env2 k2 r2 h2 => ?_
    refine ⟨by show 1 ≤ sizeLine; decide, fun o' ho' => ?_⟩
    obtain ⟨b1, b2, b3⟩ := plus_fresh env2 ho'
    have env3 : EnvOk ((c.plus o).plus o') cps σ (upd H2 o' (.lst [v])) ρ := EnvOk.plus (c := c.plus o) env2 ho' [v]
    refine (h2 ((c.plus o).plus o').A0).run cps σ _ env3 _ fun u H4 d2 env4 k4 r4 q => ?_
    refine ⟨by show 3 ≤ sizeLine; decide, fun t ht => ?_⟩
    have s := same_upd (o := .tup [.ref o, .ref o', u]) ht
    have env5 : EnvOk ((c.plus o).plus o') cps σ (upd H4 t (.tup [.ref o, .ref o', u])) ρ := EnvOk.same (c := (c.plus o).plus o') env4 s
    refine ⟨t, _, rfl, SqT.of upd_same, rfl, _, _, rfl, _, _, rfl, _, _, rfl, rfl, ?_⟩
    have e1 : (upd H2 o' (.lst [v])) o = some (.lst []) := by
      have : o ≠ o' := ne_of_none (k2.at_ upd_same a1 fun z => z) ho'
      rw [upd_ne this]
      exact k2.at_ upd_same a1 fun z => z
    have e2 : (upd H4 t (.tup [.ref o, .ref o', u])) o = some (.lst []) := s _ _ (k4.at_ e1 a1 fun z => z)
    have e3 : (upd H4 t (.tup [.ref o, .ref o', u])) o' = some (.lst [v]) := s _ _ (k4.at_ upd_same b1 fun z => z)
    have rv : RepAll c.g.gl.K c.g.gl.C c.W (((c.plus o).plus o').av ρ) (upd H4 t (.tup [.ref o, .ref o', u])) [v] [d1] := by
      refine .cons ?_ .nil
      refine Rep.kq (Kq.of_same s) _ _ (Rep.kq (Kq.of_kp k4) _ _ (Rep.kq (Kq.of_same (same_upd ho')) _ _ (Rep.avs (fun b z => ?_) _ _ r2)))
      exact (plus_av (c := c.plus o) z).imp_right fun e => by rw [e]; exact ho'
    have ru : Rep c.g.gl.K c.g.gl.C c.W (((c.plus o).plus o').av ρ) (upd H4 t (.tup [.ref o, .ref o', u])) u d2 := Rep.kq (Kq.of_same s) _ _ r4
    have env6 : EnvOk (c.plus o) cps (σ.set j (some (.ref o'))) (upd H4 t (.tup [.ref o, .ref o', u])) (ρ.set j (.own o' [d1])) := EnvOk.adopt (c := c.plus o) env5 b1 b2 b3 e3 rv
    have hoo : o ≠ o' := ne_of_none (k2.at_ upd_same a1 fun z => z) ho'
    have n7 : ¬ c.av (ρ.set j (.own o' [d1])) o := fun z => by
      rcases z with z | z
      · exact a2 (.inl z)
      · rcases ows_set z with z | z
        · exact a2 (.inr z)
        · cases z; exact hoo rfl
    have env7 := EnvOk.adopt (c := c) (i := i) (l := []) env6 a1 n7 a3 e2 .nil
    rw [List.set_comm _ _ (Ne.symm hij), List.set_comm (l := ρ) _ _ (Ne.symm hij)] at env7
    refine k.nx _ _ _ (env7.set (i := l) (d := d2) (Rep.avs (fun b z => .inl ?_) _ _ ru)) (q o o')
    rcases z with z | z
    · exact .inl (.inl (.inl z))
    · rcases ows_set z with z | z
      · rcases ows_set z with z | z
        · exact .inr z
        · cases z; exact .inl (.inl (.inr rfl))
      · cases z; exact .inl (.inr rfl)⟩
end
end Dl
/-! Dl8: the further built-ins, a def by its body. -/
namespace Dl
open PySem PySem.Spec PyProof.Rows L2
section
variable {c : Cf} {ρ : List Sl} {E : EndsD} {Q : D → Prop} {pos p1 p2 p3 : Pos} {tg e a b : Expr} {es : List Expr}
/-- (x,) * n -/
theorem de_repT {n1} (h : DE c e ρ fun x => DE c b ρ (IsI fun n => 1 ≤ n ∧ n ≤ 1000 ∧ Q (.tup (List.replicate n.toNat x))))
    (hs : ∀ env, starEach [e] env = (false, eval e env) :: starEach [] env := by intro _; rfl) : DE c (.BinOp (.Tuple [e] n1 p1) .Mult b pos) ρ Q :=
  DE.of fun X hX => ⟨_, pe_op Dx.op_repA (pe_tup (pa_cons (hX.pe e) pa_nil (hs _))) (hX.pe b), fun cps σ H env Q' k => h.run cps σ H env _ fun v H1 d env1 k1 r1 h1 => by
    refine ⟨by show 1 ≤ sizeLine; decide, fun p hp => ?_⟩
    have s := same_upd (o := .tup [v]) hp
    refine h1.run cps σ _ (env1.same s) _ fun u H2 d2 env2 k2 r2 h2 => ?_
    obtain ⟨n, rfl, rfl, h0, hz, h2⟩ := IsI.get h2 r2
    have t2 : SqT c.g.gl.K H2 p [v] := Kq.tup k2 (SqT.of upd_same)
    have rv : RepC c ρ H2 v d := Rep.kq (Kq.of_kp k2) _ _ (Rep.kq (Kq.of_same s) _ _ r1)
    have kk : Kp c.W H H2 := (k1.trans (Kq.of_same s)).trans k2
    refine ⟨p, n, [v], rfl, rfl, hX.sqt t2, by simp, h0, hz, by simp, fun e1 => ?_, fun _ q hq => ?_⟩
    · subst e1
      exact k _ H2 _ env2 kk (.tup t2 (.cons rv .nil)) h2
    · rw [replicate_flat]
      have s2 := same_upd (o := .tup (List.replicate n.toNat v)) hq
      exact k _ _ _ (env2.same s2) (kk.trans (Kq.of_same s2)) (.tup (SqT.of upd_same) (RepAll.kq (Kq.of_same s2) _ _ (RepAll.rep rv n.toNat))) h2⟩
theorem di_enumT {Q : List D → Prop} {elts : List Expr} {kk : Nat} {tpos : Pos} (hm : c.g.gl.mg "enumerate" = none) (h : DE c e ρ (IsT fun l => Q (enumD l))) (hg : glB c.g.sc "enumerate" = true := by kernel_rfl)
    (hs : ∀ env, starEach [e] env = (false, eval e env) :: starEach [] env := by intro _; rfl) (hs2 : ∀ env, starEach [e] env = [(false, eval e env)] := by intro _; rfl) : DI c (.Tuple elts kk tpos) (.Call (.Name "enumerate" p1) [e] [] pos) ρ Q :=
  DI.of fun X hX => ⟨_, Dx.pi_enumT (hX.gl' hg) (hX.mgn hm) (pa_cons (hX.pe e) pa_nil (hs _)) (hs2 _), fun cps σ H env R k => h.run cps σ H env _ fun v H1 d env1 k1 r1 h1 => by
    obtain ⟨l, a1, xs, rfl, rfl, t, rs, q⟩ := IsT.get h1 r1
    refine ⟨a1, xs, rfl, hX.sqt t, k _ H1 (enumD l) env1 k1 ?_ q⟩
    refine ⟨fun i H kq hi => ?_, fun av' s1 s2 i H x H' kq hi y => ?_, fun i H kq hi => ⟨xs, hX.sqt (Kq.tup kq t), by rw [rs.len]; rw [enumD_len] at hi; exact hi⟩⟩
    · rw [enumD_len, ← rs.len] at hi
      exact ⟨xs, xs[i], hX.sqt (Kq.tup kq t), List.getElem?_eq_getElem _⟩
    · obtain ⟨T, x1, e1, hT, e2, y⟩ := y
      subst e1 e2
      obtain ⟨d, h1, h2⟩ := RepAll.getV (RepAll.kq (kq.mono s1) _ _ (RepAll.avs s2 _ _ rs)) (y xs (hX.sqt (Kq.tup kq t)))
      have s := same_upd (o := .tup [.int (i : Nat), x1]) hT
      exact ⟨s, _, enumD_get h1, .tup (SqT.of upd_same) (.cons (.int _) (.cons (Rep.kq (Kq.of_same s) _ _ h2) .nil))⟩⟩
/-- found.extend(t), t a tuple, of the def's own list -/
theorem ds_extendT (j : Nat) {x : Str} {p4 : Pos} {o : Addr} {l : List D} (ho : ρ[j]? = some (.own o l)) (h : DE c e ρ (IsT fun m => l.length + m.length ≤ 1000000 ∧ E.nx (ρ.set j (.own o (l ++ m))))) (hN : c.g.N[j]? = some x := by kernel_rfl) (hv : visB c.g.sc x = true := by kernel_rfl) (hok : okN x = true := by kernel_rfl)
    (hs : ∀ env, starEach [e] env = (false, eval e env) :: starEach [] env := by intro _; rfl) (hsw : ∀ env, swapsWith (.Call (.Attribute (.Name x p1) "extend" p2) [e] [] p3) none p4.line env = pure false := by intro _; rfl)
    (hb : ∀ env, attributeBase (.Name x p1) "extend" env (eval (.Name x p1) env) = eval (.Name x p1) env := by intro _; rfl) (hlv : (p2.endLine == p3.line) = true := by rfl)
    (hfew : ∀ env, ((backTo p3 (starEach [e] env)).all (fun x => !x.1) && (backToKw p3 (keywordEach [] env)).all (fun x => x.1.isSome) && decide ([e].length + ([] : List Keyword).length + (if ([] : List Keyword).isEmpty then 0 else 1) < 30)) = true := by intro _; rfl) : DS c (.Expr (.Call (.Attribute (.Name x p1) "extend" p2) [e] [] p3) p4) ρ E :=
  DS.of fun X hX => ⟨_, ps_expr (pe_bm PySem.F.plainAttrs_list PySem.F.slot_list_extend PySem.F.type_list_extend Dx.mt_extT (pe_var (hX.name hN) (hX.vis hv) (okN1 hok) (okN2 hok)) (pa_cons (hX.pe e) pa_nil (hs _)) (hb _) (hfew _) hlv (hs _)) (hsw _), fun cps σ H env T k => by
    obtain ⟨h1, h2, _, _, xs, h5, h6⟩ := env.own j o l ho
    refine ⟨_, h1, .inl ⟨rfl, xs, SqL.of h5⟩, h.run cps σ H env _ fun v H1 d env1 k1 r1 q => ?_⟩
    obtain ⟨m, a1, zs, rfl, rfl, t, rs, hz, q⟩ := IsT.get q r1
    obtain ⟨_, _, _, _, ys, g5, g6⟩ := env1.own j o l ho
    refine ⟨o, a1, ys, zs, rfl, rfl, g5, hX.sqt t, by rw [g6.len, rs.len]; exact le_size hz, ?_⟩
    exact k.nx _ _ _ (env1.put ho (g6.append rs)).1 q⟩
/-- found.extend(list(t)) of the def's own list -/
theorem ds_extendL (j : Nat) {x : Str} {p4 p5 p6 : Pos} {o : Addr} {l : List D} (hm : c.g.gl.mg "list" = none) (ho : ρ[j]? = some (.own o l)) (h : DE c e ρ (IsQ fun m => l.length + m.length ≤ 1000000 ∧ E.nx (ρ.set j (.own o (l ++ m))))) (hN : c.g.N[j]? = some x := by kernel_rfl) (hv : visB c.g.sc x = true := by kernel_rfl) (hok : okN x = true := by kernel_rfl) (hg : glB c.g.sc "list" = true := by kernel_rfl)
    (hs : ∀ env, starEach [e] env = (false, eval e env) :: starEach [] env := by intro _; rfl) (hs2 : ∀ env, starEach [Expr.Call (.Name "list" p5) [e] [] p6] env = (false, eval (.Call (.Name "list" p5) [e] [] p6) env) :: starEach [] env := by intro _; rfl)
    (hsw : ∀ env, swapsWith (.Call (.Attribute (.Name x p1) "extend" p2) [.Call (.Name "list" p5) [e] [] p6] [] p3) none p4.line env = pure false := by intro _; rfl)
    (hb : ∀ env, attributeBase (.Name x p1) "extend" env (eval (.Name x p1) env) = eval (.Name x p1) env := by intro _; rfl) (hlv : (p2.endLine == p3.line) = true := by rfl)
    (hfew : ∀ env, ((backTo p3 (starEach [Expr.Call (.Name "list" p5) [e] [] p6] env)).all (fun x => !x.1) && (backToKw p3 (keywordEach [] env)).all (fun x => x.1.isSome) && decide ([Expr.Call (.Name "list" p5) [e] [] p6].length + ([] : List Keyword).length + (if ([] : List Keyword).isEmpty then 0 else 1) < 30)) = true := by intro _; rfl) :
    DS c (.Expr (.Call (.Attribute (.Name x p1) "extend" p2) [.Call (.Name "list" p5) [e] [] p6] [] p3) p4) ρ E :=
  DS.of fun X hX => ⟨_, ps_expr (pe_bm PySem.F.plainAttrs_list PySem.F.slot_list_extend PySem.F.type_list_extend mt_extend (pe_var (hX.name hN) (hX.vis hv) (okN1 hok) (okN2 hok)) (pa_cons (pe_callTy call_list_of (hX.gl' hg) (hX.mgn hm) (by decide +kernel) (pa_cons (hX.pe e) pa_nil (hs _)) (by decide) (by decide) (hs _) rfl) pa_nil (hs2 _)) (hb _) (hfew _) hlv (hs2 _)) (hsw _), fun cps σ H env T k => by
    obtain ⟨h1, h2, _, _, xs, h5, h6⟩ := env.own j o l ho
    refine ⟨_, h1, .inl ⟨rfl, xs, SqL.of h5⟩, h.run cps σ H env _ fun v H1 d env1 k1 r1 q => ?_⟩
    obtain ⟨m, a1, zs, rfl, t, rs, hz, q⟩ := IsQ.get q r1
    refine ⟨a1, zs, rfl, ?_, fun p hp => ?_⟩
    · rcases t with ⟨_, t⟩ | ⟨_, t⟩
      · exact .inr (hX.sqt t)
      · exact .inl (hX.sql t.sql)
    · have s := same_upd (o := .lst zs) hp
      have env2 := env1.same s
      obtain ⟨_, _, _, _, ys, g5, g6⟩ := env2.own j o l ho
      refine ⟨o, p, ys, zs, rfl, rfl, g5, upd_same, by rw [g6.len, rs.len]; exact le_size hz, ?_⟩
      exact k.nx _ _ _ (env2.put ho (g6.append (RepAll.kq (Kq.of_same s) _ _ rs))).1 q⟩
/-- sorted(set(xs)), small ints -/
theorem de_sortedSet {p4 : Pos} (hm : c.g.gl.mg "sorted" = none) (hm2 : c.g.gl.mg "set" = none) (h : DE c e ρ fun d => ∃ ns : List Int, (d = .lst (ns.map D.int) ∨ d = .tup (ns.map D.int)) ∧ ns.length ≤ 1000 ∧ (∀ k ∈ ns, 0 ≤ k ∧ k < 60) ∧ ∀ ms : List Int, ms.Pairwise (· < ·) → (∀ k, k ∈ ms ↔ k ∈ ns) → Q (.lst (ms.map D.int)))
    (hg : glB c.g.sc "sorted" = true := by kernel_rfl) (hg2 : glB c.g.sc "set" = true := by kernel_rfl) (hs : ∀ env, starEach [e] env = (false, eval e env) :: starEach [] env := by intro _; rfl)
    (hs2 : ∀ env, starEach [Expr.Call (.Name "set" p2) [e] [] p4] env = (false, eval (.Call (.Name "set" p2) [e] [] p4) env) :: starEach [] env := by intro _; rfl) : DE c (.Call (.Name "sorted" p1) [.Call (.Name "set" p2) [e] [] p4] [] pos) ρ Q :=
  DE.of fun X hX => ⟨_, pe_callB (cr_sortedSet hX.calm) (hX.gl' hg) (hX.mgn hm) (by decide +kernel) (pa_cons (pe_callTy (Dx.cr_setOf hX.calm) (hX.gl' hg2) (hX.mgn hm2) (by decide +kernel) (pa_cons (hX.pe e) pa_nil (hs _)) (by decide) (by decide) (hs _) rfl) pa_nil (hs2 _)) (by decide) (by decide) (hs2 _) rfl, fun cps σ H env Q' k => h.run cps σ H env _ fun v H1 d env1 k1 r1 ⟨ns, e1, hz, hb, q⟩ => by
    have src : ∃ p, v = .ref p ∧ (SqL X.K H1 p (ns.map V.int) ∨ SqT X.K H1 p (ns.map V.int)) := by
      rcases e1 with e1 | e1
      · subst e1
        cases r1 with
        | lst t rs =>
          have e3 := ints_of rs
          subst e3
          exact ⟨_, rfl, .inl (hX.sql t.sql)⟩
      · subst e1
        cases r1 with
        | tup t rs =>
          have e3 := ints_of rs
          subst e3
          exact ⟨_, rfl, .inr (hX.sqt t)⟩
    obtain ⟨p, rfl, src⟩ := src
    refine ⟨p, ns, 60, rfl, src, hz, hb, fun a n ha hn => ?_⟩
    have s := same_upd (o := SetO X.w a (fun j => decide (j ∈ ns)) n) ha
    refine ⟨a, _, n, rfl, upd_same, by omega, fun ms q2 g1 g2 g3 hq => ?_⟩
    have s2 := same_upd (o := .lst (ms.map V.int)) hq
    have env2 := (env1.same s).same s2
    obtain ⟨n1, n2⟩ := (env1.same s).fresh hq
    exact k _ _ _ env2 ((k1.trans (Kq.of_same s)).trans (Kq.of_same s2)) (.lst (.inl ⟨.inl upd_same, n1, n2⟩) (rep_ints ms)) (q ms g1 fun k => by rw [g2 k, decide_eq_true_eq])⟩
/-! ### a def that a local name holds -/
def CalA (gl : Glob) (j : Nat) (f : Addr) (n : Nat) (sp : DSp) : Prop := ∃ (fd : FuncData) (ps : List Str), ps.length = n ∧ FnOk gl.P gl.w gl.K gl.mg gl.base CX0 j f fd ps (spOf gl.K gl.C n sp) ∧ PySem.W.keepIn gl.K (.ref f) = true ∧ Binds gl.K fd ps []
theorem de_callV (i : Nat) {x : Str} {j n : Nat} {f : Addr} {sp : DSp} (F : CalA c.g.gl j f n sp) (he0 : ρ[i]? = some (.dat (.fnc f))) (h : DA c (e :: es) ρ fun ds => ds.length = n ∧ sp ds Q) (hj : Nat.ble j c.g.k = true := by rfl) (hN : c.g.N[i]? = some x := by kernel_rfl) (hv : visB c.g.sc x = true := by kernel_rfl) (ho : okN x = true := by kernel_rfl)
    (he : ∀ env, starEach (e :: es) env = (false, eval e env) :: starEach es env := by intro _; rfl) (hpl : ∀ env, (backTo pos (starEach es env)).any (·.1) = false := by intro _; rfl) : DE c (.Call (.Name x p1) (e :: es) [] pos) ρ Q := by
  obtain ⟨fd, ps, hn, F, hk, hb⟩ := F
  refine DE.of fun X hX => ?_
  have A : C8.CalAt X.prog X.w X.K X.mg X.base j f (spOf c.g.gl.K c.g.gl.C n sp) := ⟨fd, ps, hX.fn' F, by rw [hX.K]; exact hk, by rw [hX.K]; exact hb⟩
  refine ⟨_, C8.pe_cv (i := i) A A (hX.room.mono (Nat.le_of_ble_eq_true hj)) (Nat.le_refl _) (Nat.le_refl _) (hX.name hN) (hX.vis hv) (hX.pa (e :: es)) (okN1 ho) (okN2 ho) (he _) (hpl _), fun cps σ H env Q' k => ?_⟩
  obtain ⟨v, h1, r⟩ := env.dat i _ he0
  cases r
  refine .inl ⟨h1, h.run cps σ H env _ fun vs H1 ds env1 k1 r1 ⟨hl, hs⟩ => ?_⟩
  exact ⟨c.W, c.av ρ, ds, Q, hl, r1, env1.avt, env1.hand, hs, fun v H' d k2 r2 h2 q => k v H' d (env1.kp' k2 h2) (k1.trans k2) r2 q⟩
end
/-! ### a def by its body -/
def startD (N : List Str) (ds : List D) : List Sl := ds.map Sl.dat ++ List.replicate (N.length - ds.length) Sl.non
abbrev cfg (gl : Glob) (N : List Str) (sc : Scope) (k : Nat) (W : Option Addr) (A0 : Addr → Prop) : Cf := ⟨⟨gl, N, sc, k, fun _ => true⟩, W, A0⟩
theorem start_env {gl : Glob} {N : List Str} {sc : Scope} {k : Nat} {W : Option Addr} {A0 : Addr → Prop} {H : Hp} {vs : List V} {ds : List D} (r : RepAll gl.K gl.C W A0 H vs ds) (ha : ∀ b, A0 b → ∃ o, H b = some o) (hh : ∀ p, W = some p → HandAt gl.K A0 H p) :
    EnvOk (cfg gl N sc k W A0) [(H, fun _ => False)] (start N vs) H (startD N ds) := by
  have hl := r.len
  have noown : ∀ (i : Nat) (a : Addr) (l : List D), (startD N ds)[i]? ≠ some (.own a l) := fun i a l h => by
    have hm := List.mem_of_getElem? h
    unfold startD at hm
    rcases List.mem_append.mp hm with z | z
    · obtain ⟨d, _, e⟩ := List.mem_map.mp z
      cases e
    · have := (List.mem_replicate.mp z).2
      cases this
  have hv : ∀ b, (cfg gl N sc k W A0).av (startD N ds) b → A0 b ∨ H b = none := fun b z => by
    rcases z with z | z
    · exact .inl z
    · obtain ⟨i, l, e⟩ := ows_at z
      exact absurd e (noown i b l)
  refine ⟨fun p hp => ?_, ?_, fun i d h => ?_, fun i a l h => absurd h (noown i a l), fun i j a l l' h _ => absurd h (noown i a l), ha, fun p e => (hh p e).avs hv⟩
  · rw [List.mem_singleton.mp hp]
    exact Kq.refl
  · unfold L2.start startD
    rw [List.length_append, List.length_append, List.length_map, List.length_map, List.length_replicate, List.length_replicate, hl]
  · unfold startD at h
    by_cases hi : i < ds.length
    · rw [List.getElem?_append_left (by rw [List.length_map]; exact hi), List.getElem?_map] at h
      cases e : ds[i]? with
      | none => rw [e] at h; cases h
      | some d2 =>
        rw [e] at h
        cases h
        obtain ⟨v, h1, h2⟩ := r.get e
        refine ⟨v, ?_, Rep.avs hv _ _ h2⟩
        unfold L2.start
        rw [List.getElem?_append_left (by rw [List.length_map, hl]; exact hi), List.getElem?_map, h1]
        rfl
    · rw [List.getElem?_append_right (by rw [List.length_map]; omega)] at h
      have := (List.mem_replicate.mp (List.mem_of_getElem? h)).2
      cases this
theorem in_cx {gl : Glob} {N : List Str} {sc : Scope} {k : Nat} (nd : N.Nodup) {qual : Str} {f : Addr} {cdv : Value} {A : Around} {outer : List Env} {s : Shared} {H : Hp} {E : XK} (hr : Room k (A.deeper (envOfC qual sc s.heap.objs.size f cdv))) :
    In ⟨gl, N, sc, k, fun _ => true⟩ (cxOf CX0 gl.P gl.w gl.K gl.mg gl.base N qual sc f cdv A outer s H E).nox :=
  ⟨rfl, rfl, rfl, rfl, rfl, rfl, nd, rfl, hr, rfl, rfl, fun _ => rfl⟩
/-- the def at f -/
abbrev FnP (K : PySem.W.Frag) (x qual : Str) (st : Stmt) (f : Addr) (fd : FuncData) : Prop := FunD K x qual (defArgs st) (defBody st) (defScope st) [] [] f fd
theorem fn_d {gl : Glob} {x qual : Str} {st : Stmt} {f : Addr} {fd : FuncData} {N ps : List Str} {k n : Nat} {sp : DSp} (F : FnP gl.K x qual st f fd) (S : FnScope N ps (defScope st)) (hn : ps.length = n)
    (h : ∀ (W : Option Addr) (A0 : Addr → Prop) (ds : List D) (post : D → Prop), ds.length = n → sp ds post → DSs (cfg gl N (defScope st) k W A0) (defBody st) (startD N ds) { nx := fun _ => post .non, rt := post }) :
    FnOk gl.P gl.w gl.K gl.mg gl.base CX0 (k + 1) f fd ps (spOf gl.K gl.C n sp) := by
  refine F.ok S (fun vs H Q E ⟨W, A0, ds, post, hl, r, _⟩ => ?_) (fun cdv A outer s H vs Q E hr ⟨W, A0, ds, post, hl, r, ha, hh, hs, q⟩ => ?_)
  · rw [r.len, hl, hn]
  · refine ⟨sssem ⟨gl, N, defScope st, k, fun _ => true⟩ (defBody st), PSs.nox ((in_cx S.nd hr).pss _), ?_⟩
    refine (h W A0 ds post hl hs).run _ _ H (start_env r ha hh) _ ⟨fun σ' H' ρ' e p => ?_, fun v H' d e p => ?_, fun _ _ _ _ z => z, fun _ _ _ _ z => z⟩
    · exact q .non H' .non (e.kp _ List.mem_cons_self) .non (fun p hp => (e.hand p hp).avs fun b z => .inl (.inl z)) p
    · exact q v H' d (e.kp _ List.mem_cons_self) e.rep e.hand p
/-- .. as one that is called by its name -/
theorem cal_d {gl : Glob} {x qual : Str} {st : Stmt} {f : Addr} {fd : FuncData} {N ps : List Str} {k n : Nat} {sp : DSp} (F : FnP gl.K x qual st f fd) (hm : gl.mg x = some (.ref f)) (S : FnScope N ps (defScope st)) (hn : ps.length = n)
    (hb : ∀ (kV doc pm : Value) (an : Option Addr) (cdv ct : Value) (us : List Value), us.length = ps.length → bindArgs (PySem.W.fnOf x qual (defArgs st) (defBody st) (defScope st) .none kV doc pm an cdv ct) ⟨us, []⟩ = pure (ps.zip us))
    (h : ∀ (W : Option Addr) (A0 : Addr → Prop) (ds : List D) (post : D → Prop), ds.length = n → sp ds post → DSs (cfg gl N (defScope st) k W A0) (defBody st) (startD N ds) { nx := fun _ => post .non, rt := post }) : Cal gl (k + 1) x n sp :=
  ⟨f, fd, ps, hn, fn_d F S hn h, hm, F.kp, F.bindsN hb⟩
theorem Cal.mono {gl : Glob} {i j n : Nat} {x : Str} {sp : DSp} (C : Cal gl i x n sp) (h : i ≤ j) : Cal gl j x n sp := by
  obtain ⟨f, fd, ps, a, F, b⟩ := C
  exact ⟨f, fd, ps, a, F.mono h, b⟩
end Dl
/-! Dl9: comprehensions whose result is known. -/
namespace Dl
open PySem PySem.Spec PyProof.Rows L2
section
variable {c : Cf} {ρ : List Sl} {Q : D → Prop} {Qi : List D → Prop} {pos p1 p2 p3 : Pos} {tg elt iter : Expr} {ifs : List Expr} {scope : Scope}
theorem DI.mono {Q2 : List D → Prop} (h : DI c tg iter ρ Qi) (hq : ∀ l, Qi l → Q2 l) : DI c tg iter ρ Q2 :=
  ⟨fun cps σ H env R k => h.run cps σ H env R fun J H' items e1 e2 e3 e4 => k J H' items e1 e2 e3 (hq _ e4)⟩
theorem DF.mono {Q1 Q2 : Bool → Prop} (h : DF c ifs ρ Q1) (hq : ∀ l, Q1 l → Q2 l) : DF c ifs ρ Q2 :=
  ⟨fun cps σ H env Q' k => h.run cps σ H env Q' fun b H' e1 e2 e4 => k b H' e1 e2 (hq _ e4)⟩
/-- the invariant of a comprehension whose i-th item gives g i -/
theorem inv_map {sets : D → List Sl} {items out : List D} {P : List D → Prop} (hl : out.length = items.length) (h : ∀ (A : Addr → Prop) (j : Nat) (d : D), items[j]? = some d → DE (c.blk scope A) elt (sets d) fun y => out[j]? = some y) (q : P out) :
    ∃ I : Nat → List D → Prop, I 0 [] ∧ (∀ (A : Addr → Prop) (j : Nat) (acc : List D) (d : D), I j acc → items[j]? = some d → DF (c.blk scope A) [] (sets d) fun b => if b = true then DE (c.blk scope A) elt (sets d) (fun y => I (j + 1) (acc ++ [y])) else I (j + 1) acc) ∧ ∀ acc, I items.length acc → P acc := by
  refine ⟨fun j acc => acc = out.take j, rfl, fun A j acc d e hd => df_nil ?_, fun acc e => ?_⟩
  · rw [if_pos rfl]
    refine (h A j d hd).mono fun y hy => ?_
    show acc ++ [y] = out.take (j + 1)
    rw [List.take_add_one, hy, e]
    rfl
  · have e1 : acc = out.take items.length := e
    rw [e1, ← hl, List.take_length]
    exact q
theorem inv_filter {sets : D → List Sl} {items : List D} {P : List D → Prop} (g : D → Option D) (h : ∀ (A : Addr → Prop) (j : Nat) (d : D), items[j]? = some d → DF (c.blk scope A) ifs (sets d) fun b => if b = true then DE (c.blk scope A) elt (sets d) (fun y => g d = some y) else g d = none) (q : P (items.filterMap g)) :
    ∃ I : Nat → List D → Prop, I 0 [] ∧ (∀ (A : Addr → Prop) (j : Nat) (acc : List D) (d : D), I j acc → items[j]? = some d → DF (c.blk scope A) ifs (sets d) fun b => if b = true then DE (c.blk scope A) elt (sets d) (fun y => I (j + 1) (acc ++ [y])) else I (j + 1) acc) ∧ ∀ acc, I items.length acc → P acc := by
  refine ⟨fun j acc => acc = (items.take j).filterMap g, rfl, fun A j acc d e hd => (h A j d hd).mono fun b hb => ?_, fun acc e => ?_⟩
  · have et : (items.take (j + 1)).filterMap g = acc ++ (g d).toList := by
      have e1 : acc = (items.take j).filterMap g := e
      rw [List.take_add_one, hd, List.filterMap_append, e1]
      cases q : g d <;> simp [q]
    cases b with
    | true =>
      rw [if_pos rfl] at hb ⊢
      refine hb.mono fun y hy => ?_
      show acc ++ [y] = (items.take (j + 1)).filterMap g
      rw [et, hy]
      rfl
    | false =>
      rw [if_neg Bool.false_ne_true] at hb ⊢
      show acc = (items.take (j + 1)).filterMap g
      rw [et, hb]
      simp
  · have e1 : acc = (items.take items.length).filterMap g := e
    rw [e1, List.take_length]
    exact q
theorem de_lcM (i : Nat) {x : Str} (h : DI c (.Name x p1) iter ρ fun items => items.length ≤ 1000000 ∧ ∃ out : List D, out.length = items.length ∧ (∀ (A : Addr → Prop) (j : Nat) (d : D), items[j]? = some d → DE (c.blk scope A) elt (ρ.set i (.dat d)) fun y => out[j]? = some y) ∧ Q (.lst out))
    (hno : ∀ a l, ρ[i]? ≠ some (.own a l) := by intro _ _ z; cases z) (hi : i < ρ.length := by exact Nat.le_of_ble_eq_true rfl) (hN : c.g.N[i]? = some x := by kernel_rfl) (ok : blkC c.g.N c.g.sc scope [(x, i)] = true := by kernel_rfl) (hl : locB (relS scope c.g.sc) x = true := by kernel_rfl) (hf : fnB (c.g.blk scope) x = true := by kernel_rfl)
    (hs : ∀ env y, foldedSetIterable iter env y = pure y := by intro _ _; rfl) : DE c (.ListComp elt [⟨.Name x p1, iter, [], 0⟩] scope pos) ρ Q :=
  de_lc i (h.mono fun items ⟨h1, out, h2, h3, h4⟩ => ⟨h1, inv_map (sets := fun d => ρ.set i (.dat d)) (P := fun l => Q (.lst l)) h2 h3 h4⟩) hno hi hN ok hl hf hs
theorem de_lcF (i : Nat) (g : D → Option D) {x : Str} (h : DI c (.Name x p1) iter ρ fun items => items.length ≤ 1000000 ∧ (∀ (A : Addr → Prop) (j : Nat) (d : D), items[j]? = some d → DF (c.blk scope A) ifs (ρ.set i (.dat d)) fun b => if b = true then DE (c.blk scope A) elt (ρ.set i (.dat d)) (fun y => g d = some y) else g d = none) ∧ Q (.lst (items.filterMap g)))
    (hno : ∀ a l, ρ[i]? ≠ some (.own a l) := by intro _ _ z; cases z) (hi : i < ρ.length := by exact Nat.le_of_ble_eq_true rfl) (hN : c.g.N[i]? = some x := by kernel_rfl) (ok : blkC c.g.N c.g.sc scope [(x, i)] = true := by kernel_rfl) (hl : locB (relS scope c.g.sc) x = true := by kernel_rfl) (hf : fnB (c.g.blk scope) x = true := by kernel_rfl)
    (hs : ∀ env y, foldedSetIterable iter env y = pure y := by intro _ _; rfl) : DE c (.ListComp elt [⟨.Name x p1, iter, ifs, 0⟩] scope pos) ρ Q :=
  de_lc i (h.mono fun items ⟨h1, h3, h4⟩ => ⟨h1, inv_filter (sets := fun d => ρ.set i (.dat d)) (P := fun l => Q (.lst l)) g h3 h4⟩) hno hi hN ok hl hf hs
theorem ds_setLcM (m i : Nat) {E : EndsD} {x y : Str} {py spos : Pos} (h : DI c (.Name x p1) iter ρ fun items => items.length ≤ 1000000 ∧ ∃ out : List D, out.length = items.length ∧ (∀ (A : Addr → Prop) (j : Nat) (d : D), items[j]? = some d → DE (c.blk scope A) elt (ρ.set i (.dat d)) fun y => out[j]? = some y) ∧ E.nx (ρ.set m (.dat (.lst out))))
    (hno : ∀ a l, ρ[i]? ≠ some (.own a l) := by intro _ _ z; cases z) (hi : i < ρ.length := by exact Nat.le_of_ble_eq_true rfl) (hN : c.g.N[i]? = some x := by kernel_rfl) (ok : blkC c.g.N c.g.sc scope [(x, i)] = true := by kernel_rfl) (hl : locB (relS scope c.g.sc) x = true := by kernel_rfl) (hf : fnB (c.g.blk scope) x = true := by kernel_rfl)
    (hNy : c.g.N[m]? = some y := by kernel_rfl) (hly : c.g.sc.names.lookup y = some .local := by kernel_rfl) (hk : c.g.sc.kind = .function := by kernel_rfl) (hln : (py.line == pos.line) = true := by kernel_rfl) (hcap : (scope.names.any fun (n, k) => n == y && (k == .local || k == .cell)) = false := by kernel_rfl)
    (hs : ∀ env y, foldedSetIterable iter env y = pure y := by intro _ _; rfl) : DS c (.Assign [.Name y py] (.ListComp elt [⟨.Name x p1, iter, [], 0⟩] scope pos) spos) ρ E :=
  ds_setLc m i (h.mono fun items ⟨h1, out, h2, h3, h4⟩ => ⟨h1, inv_map (sets := fun d => ρ.set i (.dat d)) (P := fun l => E.nx (ρ.set m (.dat (.lst l)))) h2 h3 h4⟩) hno hi hN ok hl hf hNy hly hk hln hcap hs
theorem ds_setLcF (m i : Nat) (g : D → Option D) {E : EndsD} {x y : Str} {py spos : Pos} (h : DI c (.Name x p1) iter ρ fun items => items.length ≤ 1000000 ∧ (∀ (A : Addr → Prop) (j : Nat) (d : D), items[j]? = some d → DF (c.blk scope A) ifs (ρ.set i (.dat d)) fun b => if b = true then DE (c.blk scope A) elt (ρ.set i (.dat d)) (fun y => g d = some y) else g d = none) ∧ E.nx (ρ.set m (.dat (.lst (items.filterMap g)))))
    (hno : ∀ a l, ρ[i]? ≠ some (.own a l) := by intro _ _ z; cases z) (hi : i < ρ.length := by exact Nat.le_of_ble_eq_true rfl) (hN : c.g.N[i]? = some x := by kernel_rfl) (ok : blkC c.g.N c.g.sc scope [(x, i)] = true := by kernel_rfl) (hl : locB (relS scope c.g.sc) x = true := by kernel_rfl) (hf : fnB (c.g.blk scope) x = true := by kernel_rfl)
    (hNy : c.g.N[m]? = some y := by kernel_rfl) (hly : c.g.sc.names.lookup y = some .local := by kernel_rfl) (hk : c.g.sc.kind = .function := by kernel_rfl) (hln : (py.line == pos.line) = true := by kernel_rfl) (hcap : (scope.names.any fun (n, k) => n == y && (k == .local || k == .cell)) = false := by kernel_rfl)
    (hs : ∀ env y, foldedSetIterable iter env y = pure y := by intro _ _; rfl) : DS c (.Assign [.Name y py] (.ListComp elt [⟨.Name x p1, iter, ifs, 0⟩] scope pos) spos) ρ E :=
  ds_setLc m i (h.mono fun items ⟨h1, h3, h4⟩ => ⟨h1, inv_filter (sets := fun d => ρ.set i (.dat d)) (P := fun l => E.nx (ρ.set m (.dat (.lst l)))) g h3 h4⟩) hno hi hN ok hl hf hNy hly hk hln hcap hs
theorem inv_map2 {sets : D → D → List Sl} {items out : List D} {P : List D → Prop} (hl : out.length = items.length) (h : ∀ (A : Addr → Prop) (j : Nat) (d : D), items[j]? = some d → ∃ d1 d2 : D, d = .tup [d1, d2] ∧ DE (c.blk scope A) elt (sets d1 d2) fun y => out[j]? = some y) (q : P out) :
    ∃ I : Nat → List D → Prop, I 0 [] ∧ (∀ (A : Addr → Prop) (j : Nat) (acc : List D) (d : D), I j acc → items[j]? = some d → ∃ d1 d2 : D, d = .tup [d1, d2] ∧ DF (c.blk scope A) [] (sets d1 d2) fun b => if b = true then DE (c.blk scope A) elt (sets d1 d2) (fun y => I (j + 1) (acc ++ [y])) else I (j + 1) acc) ∧ ∀ acc, I items.length acc → P acc := by
  refine ⟨fun j acc => acc = out.take j, rfl, fun A j acc d e hd => ?_, fun acc e => ?_⟩
  · obtain ⟨d1, d2, e2, h⟩ := h A j d hd
    refine ⟨d1, d2, e2, df_nil ?_⟩
    rw [if_pos rfl]
    refine h.mono fun y hy => ?_
    show acc ++ [y] = out.take (j + 1)
    rw [List.take_add_one, hy, e]
    rfl
  · have e1 : acc = out.take items.length := e
    rw [e1, ← hl, List.take_length]
    exact q
theorem inv_filter2 {sets : D → D → List Sl} {items : List D} {P : List D → Prop} (g : D → Option D) (h : ∀ (A : Addr → Prop) (j : Nat) (d : D), items[j]? = some d → ∃ d1 d2 : D, d = .tup [d1, d2] ∧ DF (c.blk scope A) ifs (sets d1 d2) fun b => if b = true then DE (c.blk scope A) elt (sets d1 d2) (fun y => g d = some y) else g d = none) (q : P (items.filterMap g)) :
    ∃ I : Nat → List D → Prop, I 0 [] ∧ (∀ (A : Addr → Prop) (j : Nat) (acc : List D) (d : D), I j acc → items[j]? = some d → ∃ d1 d2 : D, d = .tup [d1, d2] ∧ DF (c.blk scope A) ifs (sets d1 d2) fun b => if b = true then DE (c.blk scope A) elt (sets d1 d2) (fun y => I (j + 1) (acc ++ [y])) else I (j + 1) acc) ∧ ∀ acc, I items.length acc → P acc := by
  refine ⟨fun j acc => acc = (items.take j).filterMap g, rfl, fun A j acc d e hd => ?_, fun acc e => ?_⟩
  · obtain ⟨d1, d2, e2, h⟩ := h A j d hd
    refine ⟨d1, d2, e2, h.mono fun b hb => ?_⟩
    have et : (items.take (j + 1)).filterMap g = acc ++ (g d).toList := by
      have e1 : acc = (items.take j).filterMap g := e
      rw [List.take_add_one, hd, List.filterMap_append, e1]
      cases q : g d <;> simp [q]
    cases b with
    | true =>
      rw [if_pos rfl] at hb ⊢
      refine hb.mono fun y hy => ?_
      show acc ++ [y] = (items.take (j + 1)).filterMap g
      rw [et, hy]
      rfl
    | false =>
      rw [if_neg Bool.false_ne_true] at hb ⊢
      show acc = (items.take (j + 1)).filterMap g
      rw [et, hb]
      simp
  · have e1 : acc = (items.take items.length).filterMap g := e
    rw [e1, List.take_length]
    exact q
theorem de_lc2M (i l : Nat) {x y : Str} {n1} (h : DI c (.Tuple [.Name x p1, .Name y p2] n1 p3) iter ρ fun items => items.length ≤ 1000000 ∧ ∃ out : List D, out.length = items.length ∧ (∀ (A : Addr → Prop) (j : Nat) (d : D), items[j]? = some d → ∃ d1 d2 : D, d = .tup [d1, d2] ∧ DE (c.blk scope A) elt ((ρ.set i (.dat d1)).set l (.dat d2)) fun y => out[j]? = some y) ∧ Q (.lst out))
    (hno : ∀ a l, ρ[i]? ≠ some (.own a l) := by intro _ _ z; cases z) (hno2 : ∀ a m, ρ[l]? ≠ some (.own a m) := by intro _ _ z; cases z) (hil : i ≠ l := by decide) (hN : c.g.N[i]? = some x := by kernel_rfl) (hN2 : c.g.N[l]? = some y := by kernel_rfl) (ok : blkC c.g.N c.g.sc scope [(x, i), (y, l)] = true := by kernel_rfl)
    (hl : locB (relS scope c.g.sc) x = true := by kernel_rfl) (hf : fnB (c.g.blk scope) x = true := by kernel_rfl) (hl2 : locB (relS scope c.g.sc) y = true := by kernel_rfl) (hf2 : fnB (c.g.blk scope) y = true := by kernel_rfl)
    (hs : ∀ env y, foldedSetIterable iter env y = pure y := by intro _ _; rfl) : DE c (.ListComp elt [⟨.Tuple [.Name x p1, .Name y p2] n1 p3, iter, [], 0⟩] scope pos) ρ Q :=
  de_lc2 i l (h.mono fun items ⟨h1, out, h2, h3, h4⟩ => ⟨h1, inv_map2 (sets := fun d1 d2 => (ρ.set i (.dat d1)).set l (.dat d2)) (P := fun l => Q (.lst l)) h2 h3 h4⟩) hno hno2 hil hN hN2 ok hl hf hl2 hf2 hs
theorem de_lc2F (i l : Nat) (g : D → Option D) {x y : Str} {n1} (h : DI c (.Tuple [.Name x p1, .Name y p2] n1 p3) iter ρ fun items => items.length ≤ 1000000 ∧ (∀ (A : Addr → Prop) (j : Nat) (d : D), items[j]? = some d → ∃ d1 d2 : D, d = .tup [d1, d2] ∧ DF (c.blk scope A) ifs ((ρ.set i (.dat d1)).set l (.dat d2)) fun b => if b = true then DE (c.blk scope A) elt ((ρ.set i (.dat d1)).set l (.dat d2)) (fun y => g d = some y) else g d = none) ∧ Q (.lst (items.filterMap g)))
    (hno : ∀ a l, ρ[i]? ≠ some (.own a l) := by intro _ _ z; cases z) (hno2 : ∀ a m, ρ[l]? ≠ some (.own a m) := by intro _ _ z; cases z) (hil : i ≠ l := by decide) (hN : c.g.N[i]? = some x := by kernel_rfl) (hN2 : c.g.N[l]? = some y := by kernel_rfl) (ok : blkC c.g.N c.g.sc scope [(x, i), (y, l)] = true := by kernel_rfl)
    (hl : locB (relS scope c.g.sc) x = true := by kernel_rfl) (hf : fnB (c.g.blk scope) x = true := by kernel_rfl) (hl2 : locB (relS scope c.g.sc) y = true := by kernel_rfl) (hf2 : fnB (c.g.blk scope) y = true := by kernel_rfl)
    (hs : ∀ env y, foldedSetIterable iter env y = pure y := by intro _ _; rfl) : DE c (.ListComp elt [⟨.Tuple [.Name x p1, .Name y p2] n1 p3, iter, ifs, 0⟩] scope pos) ρ Q :=
  de_lc2 i l (h.mono fun items ⟨h1, h3, h4⟩ => ⟨h1, inv_filter2 (sets := fun d1 d2 => (ρ.set i (.dat d1)).set l (.dat d2)) (P := fun l => Q (.lst l)) g h3 h4⟩) hno hno2 hil hN hN2 ok hl hf hl2 hf2 hs
end
end Dl
/-! Dh: the law's hand: read, written. -/
namespace Dl
open PySem PySem.Spec PyProof.Rows L2
section
variable {c : Cf} {ρ : List Sl} {E : EndsD} {Q : D → Prop} {pos p1 p2 p3 p4 p5 p6 p7 p8 p9 : Pos} {e : Expr} {x y : Str}
theorem EnvOk.hnd {cps : Cps} {σ : St} {H : Hp} (env : EnvOk c cps σ H ρ) {i : Nat} (e : ρ[i]? = some (.dat .hnd)) : ∃ p, σ[i]? = some (some (.ref p)) ∧ c.W = some p ∧ HandAt c.g.gl.K (c.av ρ) H p := by
  obtain ⟨v, h1, h2⟩ := env.dat i _ e
  cases h2 with
  | hnd hp => exact ⟨_, h1, hp, env.hand _ hp⟩
theorem bothB {A B : Prop} {k : Bool} (a : k = true → A) (b : k = false → B) : if k = true then A else B := by
  cases k with
  | true => rw [if_pos rfl]; exact a rfl
  | false => rw [if_neg Bool.false_ne_true]; exact b rfl
/-- hand[k] for k = 1 .. 4 -/
theorem de_hnd (j : Nat) {k : Nat} {kd} (e : ρ[j]? = some (.dat .hnd)) (hk : 1 ≤ k ∧ k ≤ 4) (h : ∀ i : Int, (k = 1 → 0 ≤ i) → Q (.int i)) (hN : c.g.N[j]? = some x := by kernel_rfl) (hv : visB c.g.sc x = true := by kernel_rfl) (ho : okN x = true := by kernel_rfl)
    (hs : PlainIx (.Constant (.int (k : Int)) kd p2) := by exact fun _ _ => rfl) : DE c (.Subscript (.Name x p1) (.Constant (.int (k : Int)) kd p2) pos) ρ Q :=
  DE.of fun X hX => ⟨_, pe_ix ix_list (pe_var (hX.name hN) (hX.vis hv) (okN1 ho) (okN2 ho)) pe_int hs, fun cps σ H env Q' kk => by
    obtain ⟨p, h1, hp, cc, ns, i, a, b, d, g1, g2, g3⟩ := env.hnd e
    refine ⟨.ref p, h1, ?_⟩
    have key : ∃ z : Int, atI [V.ref cc, .int i, .int a, .int b, .int d] (k : Int) = some (.int z) ∧ (k = 1 → 0 ≤ z) := by
      have : k = 1 ∨ k = 2 ∨ k = 3 ∨ k = 4 := by omega
      rcases this with rfl | rfl | rfl | rfl
      · exact ⟨i, atI_nat rfl, fun _ => g3⟩
      · exact ⟨a, atI_nat rfl, fun z => by cases z⟩
      · exact ⟨b, atI_nat rfl, fun z => by cases z⟩
      · exact ⟨d, atI_nat rfl, fun z => by cases z⟩
    obtain ⟨z, hz, h0⟩ := key
    exact ⟨p, _, _, _, rfl, rfl, SqL.of g1, hz, kk _ H _ env Kq.refl (.int z) (h z h0)⟩⟩
/-- the hand is written -/
theorem EnvOk.hset {cps : Cps} {σ : St} {H : Hp} {p : Addr} (env : EnvOk c cps σ H ρ) (hp : c.W = some p) {ys : List V} (hh : HandAt c.g.gl.K (c.av ρ) (upd H p (.lst ys)) p) (ex : ∃ xs, H p = some (.lst xs)) : EnvOk c cps σ (upd H p (.lst ys)) ρ :=
  env.kp' (fun b o q => by
    by_cases hb : b = p
    · subst hb
      obtain ⟨xs, hx⟩ := ex
      rw [hx] at q
      cases q
      exact .inr ⟨.inl hp, ⟨xs, rfl⟩, ys, upd_same⟩
    · exact .inl (by rw [upd_ne hb]; exact q)) fun q hq => by
      rw [hp] at hq
      cases hq
      exact hh
theorem LsAt.set {K : PySem.W.Frag} {p a : Addr} {av : Addr → Prop} {H : Hp} {xs ys : List V} (h : LsAt K (some p) av H a xs) : LsAt K (some p) av (upd H p (.lst ys)) a xs := by
  rcases h with ⟨h, n1, n2⟩ | h
  · have hn : a ≠ p := fun z => n1 (by rw [z])
    refine .inl ⟨?_, n1, n2⟩
    rcases h with h | ⟨o, h⟩
    · exact .inl (by rw [upd_ne hn]; exact h)
    · exact .inr ⟨o, by rw [upd_ne hn]; exact h⟩
  · exact .inr h
/-- hand[k] = e -/
theorem ds_hnd (j : Nat) {k : Nat} {kd} (hj : ρ[j]? = some (.dat .hnd)) (hk : 1 ≤ k ∧ k ≤ 4) (h : DE c e ρ (IsI fun i => (k = 1 → 0 ≤ i) ∧ E.nx ρ)) (hN : c.g.N[j]? = some x := by kernel_rfl) (hv : visB c.g.sc x = true := by kernel_rfl) (ho : okN x = true := by kernel_rfl)
    (hs : swapsWithSole [.Subscript (.Name x p1) (.Constant (.int (k : Int)) kd p2) p3] e pos.line (env0 c.g.sc) = pure false := by kernel_rfl) (hw : swappedStores [.Subscript (.Name x p1) (.Constant (.int (k : Int)) kd p2) p3] e (env0 c.g.sc) = pure none := by kernel_rfl)
    (ha : ∀ v env, assign (.Subscript (.Name x p1) (.Constant (.int (k : Int)) kd p2) p3) env v = (do
      let ov ← holding [v] (eval (.Name x p1) env)
      let iv ← holding [v, ov] (eval (.Constant (.int (k : Int)) kd p2) env)
      standAt p3
      holding [v, ov, iv] (setItem ov iv v)
      release [v, ov, iv] []) := by intro _ _; rfl) : DS c (.Assign [.Subscript (.Name x p1) (.Constant (.int (k : Int)) kd p2) p3] e pos) ρ E :=
  DS.of fun X hX => ⟨_, ps_asg (hX.pe e) (pg_sub (pe_var (hX.name hN) (hX.vis hv) (okN1 ho) (okN2 ho)) pe_int set_list (fun v => ha v _)) (hX.sw3 hs) (hX.sw hw), fun cps σ H env T kk => h.run cps σ H env _ fun v H1 d env1 k1 r1 h1 => by
    obtain ⟨i0, rfl, rfl, h0, q⟩ := IsI.get h1 r1
    obtain ⟨p, h1, hp, cc, ns, i, a, b, d, g1, g2, g3⟩ := env1.hnd hj
    refine ⟨.ref p, h1, ?_⟩
    have key : ∃ (i' a' b' d' : Int), [V.ref cc, .int i, .int a, .int b, .int d].set k (.int i0) = [V.ref cc, .int i', .int a', .int b', .int d'] ∧ 0 ≤ i' := by
      have : k = 1 ∨ k = 2 ∨ k = 3 ∨ k = 4 := by omega
      rcases this with rfl | rfl | rfl | rfl
      · exact ⟨i0, a, b, d, rfl, h0 rfl⟩
      · exact ⟨i, i0, b, d, rfl, g3⟩
      · exact ⟨i, a, i0, d, rfl, g3⟩
      · exact ⟨i, a, b, i0, rfl, g3⟩
    obtain ⟨i', a', b', d', e1, e2⟩ := key
    refine ⟨p, _, k, k, rfl, rfl, g1, ?_, ?_⟩
    · unfold ixN
      rw [if_pos (Int.natCast_nonneg k), if_pos (by show (k : Int) < 5; omega)]
      rfl
    · exact kk.nx _ _ _ (env1.hset hp ⟨cc, ns, i', a', b', d', by rw [upd_same, e1], g2.set, e2⟩ ⟨_, g1⟩) q⟩
/-- int(i) -/
theorem de_intOf (hm : c.g.gl.mg "int" = none) (h : DE c e ρ (IsI fun i => Q (.int i))) (hg : glB c.g.sc "int" = true := by kernel_rfl)
    (hs : ∀ env, starEach [e] env = (false, eval e env) :: starEach [] env := by intro _; rfl) : DE c (.Call (.Name "int" p1) [e] [] pos) ρ Q :=
  de_blty (fun X hX => call_int1) hm (by decide +kernel) (da_one h hs) (fun X hX cps σ H vs ds env r ⟨d, e1, q⟩ Q' k => by
    subst e1
    obtain ⟨v, rfl, r1⟩ := rep1 r
    obtain ⟨i, rfl, rfl, q⟩ := IsI.get q r1
    exact .inl ⟨i, rfl, k _ H _ env Kq.refl (.int i) q⟩) hg (by kernel_rfl) hs (fun _ => rfl)
theorem de_absOf (hm : c.g.gl.mg "abs" = none) (h : DE c e ρ (IsI fun i => ∀ j : Int, Q (.int j))) (hg : glB c.g.sc "abs" = true := by kernel_rfl)
    (hs : ∀ env, starEach [e] env = (false, eval e env) :: starEach [] env := by intro _; rfl) : DE c (.Call (.Name "abs" p1) [e] [] pos) ρ Q :=
  de_blt (fun X hX => call_abs) hm (by decide +kernel) (da_one h hs) (fun X hX cps σ H vs ds env r ⟨d, e1, q⟩ Q' k => by
    subst e1
    obtain ⟨v, rfl, r1⟩ := rep1 r
    obtain ⟨i, rfl, rfl, q⟩ := IsI.get q r1
    exact ⟨i, rfl, k _ H _ env Kq.refl (.int _) (q _)⟩) hg (by kernel_rfl) hs (fun _ => rfl)
/-- if hand[2] == 0 and hand[1] < len(hand[0]): y = hand[0][hand[1]]; .. -/
theorem ds_hcut (j m : Nat) {rest : List Stmt} {q1 q2 q3 q4 q5 q6 q7 q8 q9 r1 r2 r3 r4 r5 r6 r7 r8 r9 s1 s2 s3 : Pos} {k1 k2 k3 k4 k5 k6} (hj : ρ[j]? = some (.dat .hnd)) (hm : c.g.gl.mg "len" = none) (ht : ∀ i : Int, DSs c rest (ρ.set m (.dat (.int i))) E) (hf : E.nx ρ)
    (hN : c.g.N[j]? = some x := by kernel_rfl) (hv : visB c.g.sc x = true := by kernel_rfl) (ho : okN x = true := by kernel_rfl) (hg : glB c.g.sc "len" = true := by kernel_rfl)
    (hNy : c.g.N[m]? = some y := by kernel_rfl) (hl : locB c.g.sc y = true := by kernel_rfl) (hfn : fnB c.g y = true := by kernel_rfl)
    (hsw : swapsWith (.Subscript (.Subscript (.Name x r1) (.Constant (.int 0) k4 r2) r3) (.Subscript (.Name x r4) (.Constant (.int 1) k5 r5) r6) r7) (some (.Name y r8)) r9.line (env0 c.g.sc) = pure false := by kernel_rfl) :
    DS c (.If (.BoolOp .And [.Compare (.Subscript (.Name x q1) (.Constant (.int 2) k1 q2) q3) [.Eq] [.Constant (.int 0) k2 q4] q5, .Compare (.Subscript (.Name x q6) (.Constant (.int 1) k3 q7) q8) [.Lt] [.Call (.Name "len" q9) [.Subscript (.Name x s1) (.Constant (.int 0) k6 s2) s3] [] p1] p2] p3)
      (.Assign [.Name y r8] (.Subscript (.Subscript (.Name x r1) (.Constant (.int 0) k4 r2) r3) (.Subscript (.Name x r4) (.Constant (.int 1) k5 r5) r6) r7) r9 :: rest) [] pos) ρ E :=
  DS.of fun X hX => by
    have pv : ∀ p, PE X (.Name x p) (tVar j) := fun p => pe_var (hX.name hN) (hX.vis hv) (okN1 ho) (okN2 ho)
    refine ⟨_, ps_if ((pw_and (pt_cmpR op_eq (pe_ix ix_list (pv _) pe_int fun _ _ => rfl) pe_int (nomark _)) (pw_and1 (pt_cmpR op_lt (pe_ix ix_list (pv _) pe_int fun _ _ => rfl) (pe_callB call_len_seq (hX.gl' hg) (hX.mgn hm) PySem.boot_len (pa_cons (pe_ix ix_list (pv _) pe_int fun _ _ => rfl) pa_nil) (by decide) (by decide) rfl rfl) (nomark _)))).pt)
      (pss_cons (ps_set (by rw [hX.N]; exact hX.nd) (hX.name hNy) (hX.loc hl) (pe_ix ix_list (pe_ix ix_list (pv _) pe_int fun _ _ => rfl) (pe_ix ix_list (pv _) pe_int fun _ _ => rfl) fun _ _ => rfl) (hX.sw2 hsw) (hX.fnl hfn)) (hX.pss rest)) pss_nil, fun cps σ H env T kk => ?_⟩
    obtain ⟨p, h1, hp, cc, ns, i, a, b, d, g1, g2, g3⟩ := env.hnd hj
    have nx : T.nx σ H := kk.nx σ H ρ env hf
    have g1' : SqL X.K H p [.ref cc, .int i, .int a, .int b, .int d] := SqL.of g1
    refine ⟨.ref p, h1, p, _, _, _, rfl, rfl, g1', atI_nat (j := 2) rfl, rfl, ?_⟩
    refine ⟨_, rfl, ?_⟩
    refine bothB (fun _ => ?_) (fun _ => ?_)
    · refine ⟨.ref p, h1, p, _, _, _, rfl, rfl, g1', atI_nat (j := 1) rfl, ?_⟩
      refine ⟨.ref p, h1, p, _, _, _, rfl, rfl, g1', atI_nat (j := 0) rfl, ?_⟩
      refine ⟨cc, ns.map V.int, rfl, .inl (hX.sql g2.sql), ?_⟩
      refine ⟨_, _, rfl, rfl, _, rfl, ?_⟩
      refine bothB (fun hlt => ?_) (fun _ => ?_)
      · have hlt' : i < ((ns.map V.int).length : Int) := of_decide_eq_true hlt
        obtain ⟨n, rfl⟩ := Int.eq_ofNat_of_zero_le g3
        have hn : n < ns.length := by rw [List.length_map] at hlt'; exact Int.ofNat_lt.mp hlt'
        refine ⟨.ref p, h1, p, _, _, _, rfl, rfl, g1', atI_nat (j := 0) rfl, ?_⟩
        refine ⟨.ref p, h1, p, _, _, _, rfl, rfl, g1', atI_nat (j := 1) rfl, ?_⟩
        refine ⟨cc, ns.map V.int, _, .int ns[n], rfl, rfl, hX.sql g2.sql, atI_nat (by rw [List.getElem?_map, List.getElem?_eq_getElem hn]; rfl), ?_⟩
        exact (ht ns[n]).run cps _ H (env.set (.int _)) T kk
      · exact nx
    · exact nx
end
end Dl
/-! Tx: the text by places, its facts. -/
namespace Op
open PySem PySem.Spec PyProof.Rows L2 Dl
/-- what the top has left: names that stay built-in, constants, the class -/
structure Txt (gl : Glob) : Prop where
  len : gl.mg "len" = none
  min : gl.mg "min" = none
  max : gl.mg "max" = none
  sorted : gl.mg "sorted" = none
  all : gl.mg "all" = none
  any : gl.mg "any" = none
  tuple : gl.mg "tuple" = none
  list : gl.mg "list" = none
  range : gl.mg "range" = none
  enumerate : gl.mg "enumerate" = none
  zip : gl.mg "zip" = none
  isinstance : gl.mg "isinstance" = none
  set : gl.mg "set" = none
  abs : gl.mg "abs" = none
  int : gl.mg "int" = none
  bool : gl.mg "bool" = none
  str : gl.mg "str" = none
  dict : gl.mg "dict" = none
  MOST_HANDS : GlIs gl "MOST_HANDS" (.int 5)
  MOST_VALUE : GlIs gl "MOST_VALUE" (.int 1000)
  MOST_ROUNDS : GlIs gl "MOST_ROUNDS" (.int 6)
  LEVELS : GlIs gl "LEVELS" (.str "levels")
  NAMES : GlIs gl "NAMES" (.str "names")
  NEAR : GlIs gl "NEAR" (.str "near")
  CHAIN : GlIs gl "CHAIN" (.str "chain")
  MANNERS : GlIs gl "MANNERS" (.tup [.str "sweep", .str "twice", .str "borrow"])
  PUT : GlIs gl "PUT" (.str "put")
  SEE : GlIs gl "SEE" (.str "see")
  play : PlayCls gl
theorem ifT {A B : Prop} {k : Bool} (h : k = true) (a : A) : if k = true then A else B := by rw [if_pos h]; exact a
theorem ifF {A B : Prop} {k : Bool} (h : k = false) (b : B) : if k = true then A else B := by rw [if_neg (by rw [h]; exact Bool.false_ne_true)]; exact b
theorem ifB {A B : Prop} {k : Bool} (a : k = true → A) (b : k = false → B) : if k = true then A else B := by
  cases k with
  | true => rw [if_pos rfl]; exact a rfl
  | false => rw [if_neg Bool.false_ne_true]; exact b rfl
theorem ifp {A B : Prop} {p : Prop} [Decidable p] (a : p → A) (b : ¬ p → B) : if p then A else B := by
  by_cases h : p
  · rw [if_pos h]; exact a h
  · rw [if_neg h]; exact b h
end Op
/-! Mm: the machine of near values in plain Lean. -/
namespace Op
/-- least, greatest of a list -/
def lmin : List Int → Int
  | [] => 0
  | x :: r => r.foldl min x
def lmax : List Int → Int
  | [] => 0
  | x :: r => r.foldl max x
theorem foldl_min : ∀ (r : List Int) (x : Int), (r.foldl min x = x ∨ r.foldl min x ∈ r) ∧ r.foldl min x ≤ x ∧ ∀ y ∈ r, r.foldl min x ≤ y
  | [], x => ⟨.inl rfl, Int.le_refl _, fun _ h => nomatch h⟩
  | z :: r, x => by
    obtain ⟨h1, h2, h3⟩ := foldl_min r (min x z)
    rw [List.foldl_cons]
    refine ⟨?_, by omega, fun y hy => ?_⟩
    · rcases h1 with h1 | h1
      · rw [h1]
        by_cases h : x ≤ z
        · exact .inl (by omega)
        · exact .inr (List.mem_cons.mpr (.inl (by omega)))
      · exact .inr (List.mem_cons_of_mem _ h1)
    · rcases List.mem_cons.mp hy with h | h
      · subst h; omega
      · exact h3 y h
theorem foldl_max : ∀ (r : List Int) (x : Int), (r.foldl max x = x ∨ r.foldl max x ∈ r) ∧ x ≤ r.foldl max x ∧ ∀ y ∈ r, y ≤ r.foldl max x
  | [], x => ⟨.inl rfl, Int.le_refl _, fun _ h => nomatch h⟩
  | z :: r, x => by
    obtain ⟨h1, h2, h3⟩ := foldl_max r (max x z)
    rw [List.foldl_cons]
    refine ⟨?_, by omega, fun y hy => ?_⟩
    · rcases h1 with h1 | h1
      · rw [h1]
        by_cases h : x ≤ z
        · exact .inr (List.mem_cons.mpr (.inl (by omega)))
        · exact .inl (by omega)
      · exact .inr (List.mem_cons_of_mem _ h1)
    · rcases List.mem_cons.mp hy with h | h
      · subst h; omega
      · exact h3 y h
theorem lmin_mem {l : List Int} (h : l ≠ []) : lmin l ∈ l := by
  cases l with
  | nil => exact absurd rfl h
  | cons x r =>
    rcases (foldl_min r x).1 with q | q
    · exact List.mem_cons.mpr (.inl q)
    · exact List.mem_cons_of_mem _ q
theorem lmin_le {l : List Int} {y : Int} (h : y ∈ l) : lmin l ≤ y := by
  cases l with
  | nil => cases h
  | cons x r =>
    rcases List.mem_cons.mp h with q | q
    · subst q; exact (foldl_min r y).2.1
    · exact (foldl_min r x).2.2 y q
theorem lmax_mem {l : List Int} (h : l ≠ []) : lmax l ∈ l := by
  cases l with
  | nil => exact absurd rfl h
  | cons x r =>
    rcases (foldl_max r x).1 with q | q
    · exact List.mem_cons.mpr (.inl q)
    · exact List.mem_cons_of_mem _ q
theorem lmax_le {l : List Int} {y : Int} (h : y ∈ l) : y ≤ lmax l := by
  cases l with
  | nil => cases h
  | cons x r =>
    rcases List.mem_cons.mp h with q | q
    · subst q; exact (foldl_max r y).2.1
    · exact (foldl_max r x).2.2 y q
theorem lmin_eq {l : List Int} {m : Int} (h : m ∈ l) (hle : ∀ y, y ∈ l → m ≤ y) : m = lmin l := by
  have h1 := lmin_le h
  have h2 := hle _ (lmin_mem (l := l) (fun e => by subst e; cases h))
  omega
theorem lmax_eq {l : List Int} {m : Int} (h : m ∈ l) (hle : ∀ y, y ∈ l → y ≤ m) : m = lmax l := by
  have h1 := lmax_le h
  have h2 := hle _ (lmax_mem (l := l) (fun e => by subst e; cases h))
  omega

/-- a hand's state: none if it is over, else (round, top, whether it is put) -/
abbrev HSt := Option (Nat × Int × Bool)
structure Sg where
  cells : List (List Int)
  st : List HSt
  told : List (List Int)
def topsOf (cells : List (List Int)) (r : Nat) : List Int := cells.filterMap fun c => c[r]?
def initS (rows : List Int) : Sg := ⟨rows.map fun _ => [], rows.map fun v => some (0, v, false), rows.map fun _ => []⟩
def nextTop (cells : List (List Int)) (r : Nat) : Int := lmin (topsOf cells r) + lmax (topsOf cells r)
def stepS (R : Nat) (S : Sg) (h : Nat) : Sg :=
  match S.st[h]? with
  | some (some (r, t, false)) => ⟨S.cells.set h (S.cells.getD h [] ++ [t]), S.st.set h (some (r, t, true)), S.told⟩
  | some (some (r, _, true)) => if r + 1 = R then ⟨S.cells, S.st.set h none, S.told.set h (S.told.getD h [] ++ [nextTop S.cells r])⟩ else ⟨S.cells, S.st.set h (some (r + 1, nextTop S.cells r, false)), S.told⟩
  | _ => S
/-- who is not over -/
def isOn : HSt → Bool
  | some _ => true
  | none => false
def canS (S : Sg) : List Nat := (List.range S.st.length).filter fun h => isOn (S.st.getD h none)
/-- well formed: n hands, R rounds -/
structure Wf (R n : Nat) (S : Sg) : Prop where
  lc : S.cells.length = n
  ls : S.st.length = n
  lt : S.told.length = n
  on : ∀ (h r : Nat) (t : Int) (b : Bool), S.st[h]? = some (some (r, t, b)) → r < R ∧ S.told[h]? = some [] ∧ ∃ c : List Int, S.cells[h]? = some c ∧ c.length = r + b.toNat
  off : ∀ h : Nat, S.st[h]? = some none → (∃ t : Int, S.told[h]? = some [t]) ∧ ∃ c : List Int, S.cells[h]? = some c ∧ c.length = R
theorem wf_init {R : Nat} (hR : 0 < R) (rows : List Int) : Wf R rows.length (initS rows) where
  lc := by simp [initS]
  ls := by simp [initS]
  lt := by simp [initS]
  on := fun h r t b e => by
    simp only [initS, List.getElem?_map] at e ⊢
    cases q : rows[h]? with
    | none => rw [q] at e; cases e
    | some v =>
      rw [q] at e
      cases e
      exact ⟨hR, rfl, [], rfl, rfl⟩
  off := fun h e => by
    simp only [initS, List.getElem?_map] at e
    cases q : rows[h]? with
    | none => rw [q] at e; cases e
    | some v => rw [q] at e; cases e
theorem get_setN {α : Type} {l : List α} {i j : Nat} {x y : α} (h : (l.set i x)[j]? = some y) : (j = i ∧ y = x ∧ i < l.length) ∨ (j ≠ i ∧ l[j]? = some y) := by
  by_cases hj : i = j
  · subst hj
    left
    rw [List.getElem?_set] at h
    simp at h
    exact ⟨rfl, h.2.symm, h.1⟩
  · right
    rw [List.getElem?_set_ne hj] at h
    exact ⟨fun e => hj e.symm, h⟩
theorem topsOf_ne {cells : List (List Int)} {h r : Nat} {c : List Int} (e : cells[h]? = some c) (hr : r < c.length) : topsOf cells r ≠ [] := by
  intro z
  have : c[r] ∈ topsOf cells r := List.mem_filterMap.mpr ⟨c, List.mem_of_getElem? e, List.getElem?_eq_getElem hr⟩
  rw [z] at this
  cases this
theorem wf_step {R n : Nat} {S : Sg} (w : Wf R n S) (h : Nat) : Wf R n (stepS R S h) := by
  unfold stepS
  cases e : S.st[h]? with
  | none => exact w
  | some o =>
    cases o with
    | none => exact w
    | some p =>
      obtain ⟨r, t, b⟩ := p
      have hn : h < S.st.length := (List.getElem?_eq_some_iff.mp e).1
      obtain ⟨hr, ht, c, hc, hl⟩ := w.on h r t b e
      have hcd : S.cells.getD h [] = c := by rw [List.getD_eq_getElem?_getD, hc]; rfl
      have htd : S.told.getD h [] = [] := by rw [List.getD_eq_getElem?_getD, ht]; rfl
      cases b with
      | false =>
        show Wf R n ⟨S.cells.set h (S.cells.getD h [] ++ [t]), S.st.set h (some (r, t, true)), S.told⟩
        rw [hcd]
        refine ⟨by simp [w.lc], by simp [w.ls], w.lt, fun j r' t' b' q => ?_, fun j q => ?_⟩
        · rcases get_setN q with ⟨rfl, q1, _⟩ | ⟨hj, q1⟩
          · cases q1
            refine ⟨hr, ht, c ++ [t], ?_, by simp at hl ⊢; omega⟩
            rw [List.getElem?_set_self (by rw [w.lc, ← w.ls]; exact hn)]
          · obtain ⟨a1, a2, c', a3, a4⟩ := w.on j r' t' b' q1
            exact ⟨a1, a2, c', by rw [List.getElem?_set_ne (Ne.symm hj)]; exact a3, a4⟩
        · rcases get_setN q with ⟨_, q1, _⟩ | ⟨hj, q1⟩
          · cases q1
          · obtain ⟨a2, c', a3, a4⟩ := w.off j q1
            exact ⟨a2, c', by rw [List.getElem?_set_ne (Ne.symm hj)]; exact a3, a4⟩
      | true =>
        show Wf R n (if r + 1 = R then ⟨S.cells, S.st.set h none, S.told.set h (S.told.getD h [] ++ [nextTop S.cells r])⟩ else ⟨S.cells, S.st.set h (some (r + 1, nextTop S.cells r, false)), S.told⟩)
        by_cases hR : r + 1 = R
        · rw [if_pos hR, htd]
          refine ⟨w.lc, by simp [w.ls], by simp [w.lt], fun j r' t' b' q => ?_, fun j q => ?_⟩
          · rcases get_setN q with ⟨_, q1, _⟩ | ⟨hj, q1⟩
            · cases q1
            · obtain ⟨a1, a2, c', a3, a4⟩ := w.on j r' t' b' q1
              exact ⟨a1, by rw [List.getElem?_set_ne (Ne.symm hj)]; exact a2, c', a3, a4⟩
          · rcases get_setN q with ⟨rfl, q1, _⟩ | ⟨hj, q1⟩
            · refine ⟨⟨nextTop S.cells r, ?_⟩, c, hc, by simp at hl; omega⟩
              rw [List.getElem?_set_self (by rw [w.lt, ← w.ls]; exact hn)]
              rfl
            · obtain ⟨⟨t', a2⟩, c', a3, a4⟩ := w.off j q1
              exact ⟨⟨t', by rw [List.getElem?_set_ne (Ne.symm hj)]; exact a2⟩, c', a3, a4⟩
        · rw [if_neg hR]
          refine ⟨w.lc, by simp [w.ls], w.lt, fun j r' t' b' q => ?_, fun j q => ?_⟩
          · rcases get_setN q with ⟨rfl, q1, _⟩ | ⟨hj, q1⟩
            · cases q1
              exact ⟨by omega, ht, c, hc, by simp at hl ⊢; omega⟩
            · exact w.on j r' t' b' q1
          · rcases get_setN q with ⟨_, q1, _⟩ | ⟨hj, q1⟩
            · cases q1
            · exact w.off j q1
/-- behind a weaving -/
def runS (R : Nat) (S : Sg) (w : List Nat) : Sg := w.foldl (stepS R) S
/-- each step is of a hand that is not over -/
def okW (R : Nat) : Sg → List Nat → Prop
  | _, [] => True
  | S, h :: w => (∃ p, S.st[h]? = some (some p)) ∧ okW R (stepS R S h) w
theorem runS_append (R : Nat) (S : Sg) (v w : List Nat) : runS R S (v ++ w) = runS R (runS R S v) w := List.foldl_append ..
theorem okW_append {R : Nat} : ∀ {v w : List Nat} {S : Sg}, okW R S (v ++ w) ↔ okW R S v ∧ okW R (runS R S v) w
  | [], w, S => by simp [okW, runS]
  | h :: v, w, S => by
    have ih := @okW_append R v w (stepS R S h)
    show (_ ∧ okW R (stepS R S h) (v ++ w)) ↔ (_ ∧ okW R (stepS R S h) v) ∧ okW R (runS R (stepS R S h) v) w
    rw [ih, and_assoc]
theorem wf_run {R n : Nat} : ∀ (w : List Nat) {S : Sg}, Wf R n S → Wf R n (runS R S w)
  | [], _, h => h
  | x :: w, _, h => wf_run w (wf_step h x)
end Op
/-! Md: the machine's standings as data; what each def does. -/
namespace Op
open PySem PySem.Spec PyProof.Rows L2 Dl
def dCell (c : List Int) : D := .tup (c.map D.int)
def dSt : HSt → D
  | none => .non
  | some (r, t, b) => .tup [.int (r : Int), .int t, .bl b]
def dItem (R : Nat) (t : Int) : D := .tup [.int t, .int (R : Int)]
def dTold (R : Nat) (l : List Int) : D := .tup (l.map (dItem R))
def dTolds (R : Nat) (l : List (List Int)) : D := .tup (l.map (dTold R))
def dSg (R : Nat) (S : Sg) : D := .tup [.tup (S.cells.map dCell), .tup (S.st.map dSt), dTolds R S.told]
def dRows (rows : List Int) : D := .tup (rows.map D.int)
def dIn (R : Nat) (rows : List Int) : D := .tup [.int (R : Int), dRows rows]
def dPlay (R : Nat) (rows : List Int) : D := .play (dIn R rows) (dRows rows)
def nI (w : List Nat) : List Int := w.map fun h : Nat => (h : Int)
def wD (w : List Nat) : List D := (nI w).map D.int
structure Okp (R : Nat) (rows : List Int) : Prop where
  r0 : 1 ≤ R
  r6 : R ≤ 6
  n0 : 1 ≤ rows.length
  n5 : rows.length ≤ 5
  v : ∀ x ∈ rows, -1000 ≤ x ∧ x ≤ 1000
def dWord (b : Bool) : D := .tup [.str (if b then "see" else "put")]
def afterD (R : Nat) (S : Sg) (h r : Nat) (t : Int) : Bool → D
  | false => .tup [dCell (S.cells.getD h [] ++ [t]), dSt (some (r, t, true)), .non]
  | true => if r + 1 = R then .tup [.non, .non, dItem R (nextTop S.cells r)] else .tup [.non, dSt (some (r + 1, nextTop S.cells r, false)), .non]
/-- the standings behind each part of a weaving -/
def stood (R : Nat) (S : Sg) (w : List Nat) : List Sg := (List.range (w.length + 1)).map fun j => runS R S (w.take j)
/-- the least hand first, until none is left -/
def outF (R : Nat) : Nat → Sg → List Nat
  | 0, _ => []
  | k + 1, S => match canS S with
    | [] => []
    | h :: _ => h :: outF R k (stepS R S h)
structure Fine (R : Nat) (rows : List Int) (came : List Nat) (told : List (List Int)) : Prop where
  ok : Okp R rows
  cl : came.length ≤ 1000
  up : came.Pairwise (· < ·)
  lt : ∀ h ∈ came, h < rows.length
  len : told.length = rows.length
  one : ∀ l ∈ told, l.length ≤ 1
  own : ∀ (h : Nat) (l : List Int), told[h]? = some l → l ≠ [] → h ∈ came
  lo : ∀ t ∈ told.flatten, lmin (came.map fun h => rows.getD h 0) * 2 ^ R ≤ t
  hi : ∀ t ∈ told.flatten, t ≤ lmax (came.map fun h => rows.getD h 0) * 2 ^ R
  far : ∀ t ∈ told.flatten, ∀ u ∈ told.flatten, t - u ≤ lmax (came.map fun h => rows.getD h 0) - lmin (came.map fun h => rows.getD h 0)

def sp_is_integer : DSp := fun ds Q => ∃ i : Int, ds = [.int i] ∧ Q (.bl true)
def sp_is_within : DSp := fun ds Q => ∃ i a b : Int, ds = [.int i, .int a, .int b] ∧ Q (.bl (decide (a ≤ i ∧ i ≤ b)))
def sp_is_below : DSp := fun ds Q => ∃ i n : Int, ds = [.int i, .int n] ∧ Q (.bl (decide (0 ≤ i ∧ i < n)))
def sp_is_sized : DSp := fun ds Q => ∃ (l : List D) (a b : Int), ds = [.tup l, .int a, .int b] ∧ Q (.bl (decide (a ≤ (l.length : Int) ∧ (l.length : Int) ≤ b)))
def sp_is_pair : DSp := fun ds Q => ∃ x y : D, ds = [.tup [x, y]] ∧ Q (.bl true)
def sp_is_listed : DSp := fun ds Q => ∃ l : List D, (ds = [.tup l] ∨ ds = [.lst l]) ∧ Q (.bl true)
def sp_replaced : DSp := fun ds Q => ∃ (l : List D) (n : Nat) (x : D), ds = [.tup l, .int (n : Int), x] ∧ n < l.length ∧ l.length ≤ 1000 ∧ Q (.tup (l.set n x))
def sp_is_near_value : DSp := fun ds Q => ∃ i : Int, ds = [.int i] ∧ -1000 ≤ i ∧ i ≤ 1000 ∧ Q (.bl true)
def sp_is_row_of (a : Addr) : DSp := fun ds Q => ∃ l : List Int, ds = [.fnc a, dRows l] ∧ 1 ≤ l.length ∧ l.length ≤ 5 ∧ (∀ x ∈ l, -1000 ≤ x ∧ x ≤ 1000) ∧ Q (.bl true)
def sp_are_inputs : DSp := fun ds Q => ∃ (R : Nat) (rows : List Int), ds = [.str "near", dIn R rows] ∧ Okp R rows ∧ Q (.bl true)
def sp_is_hand : DSp := fun ds Q => ∃ (R : Nat) (rows : List Int) (i : Int), ds = [dPlay R rows, .int i] ∧ Q (.bl (decide (0 ≤ i ∧ i < (rows.length : Int))))
def sp_check_hand : DSp := fun ds Q => ∃ (R : Nat) (rows : List Int) (i : Nat), ds = [dPlay R rows, .int (i : Int)] ∧ i < rows.length ∧ Q .non
def sp_cell : DSp := fun ds Q => ∃ (R : Nat) (rows : List Int) (h : D), ds = [dPlay R rows, h] ∧ Q (.tup [])
def sp_state : DSp := fun ds Q => ∃ (R : Nat) (rows : List Int) (h : Nat) (v : Int), ds = [dPlay R rows, .int (h : Int)] ∧ rows[h]? = some v ∧ Q (dSt (some (0, v, false)))
def sp_next : DSp := fun ds Q => ∃ (R : Nat) (rows : List Int) (h : D) (r : Nat) (t : Int) (b : Bool), ds = [dPlay R rows, h, dSt (some (r, t, b))] ∧ Q (dWord b)
def sp_after : DSp := fun ds Q => ∃ (R : Nat) (rows : List Int) (S : Sg) (h r : Nat) (t : Int) (b : Bool), ds = [dPlay R rows, .int (h : Int), .tup (S.cells.map dCell), dSt (some (r, t, b))] ∧ Okp R rows ∧ Wf R rows.length S ∧ S.st[h]? = some (some (r, t, b)) ∧ Q (afterD R S h r t b)
def sp_begun : DSp := fun ds Q => ∃ (R : Nat) (rows : List Int), ds = [dPlay R rows] ∧ Okp R rows ∧ Q (dSg R (initS rows))
def sp_movers : DSp := fun ds Q => ∃ (R : Nat) (S : Sg), ds = [dSg R S] ∧ S.st.length ≤ 1000 ∧ Q (.tup (wD (canS S)))
def sp_can_step : DSp := fun ds Q => ∃ (p : D) (R : Nat) (S : Sg), ds = [p, dSg R S] ∧ S.st.length ≤ 1000 ∧ Q (.tup (wD (canS S)))
def sp_step : DSp := fun ds Q => ∃ (R : Nat) (rows : List Int) (S : Sg) (h : Nat) (p : Nat × Int × Bool), ds = [dPlay R rows, dSg R S, .int (h : Int)] ∧ Okp R rows ∧ Wf R rows.length S ∧ S.st[h]? = some (some p) ∧ Q (dSg R (stepS R S h))
def sp_check_step : DSp := fun ds Q => ∃ (R : Nat) (rows : List Int) (S : Sg) (h : Nat) (p : Nat × Int × Bool), ds = [dPlay R rows, dSg R S, .int (h : Int)] ∧ Okp R rows ∧ Wf R rows.length S ∧ S.st[h]? = some (some p) ∧ Q .non
def sp_next_step : DSp := fun ds Q => ∃ (R : Nat) (rows : List Int) (S : Sg) (h r : Nat) (t : Int) (b : Bool), ds = [dPlay R rows, dSg R S, .int (h : Int)] ∧ Okp R rows ∧ Wf R rows.length S ∧ S.st[h]? = some (some (r, t, b)) ∧ Q (dWord b)
def sp_standings : DSp := fun ds Q => ∃ (R : Nat) (rows : List Int) (w : List Nat), (ds = [dPlay R rows, .tup (wD w)] ∨ ds = [dPlay R rows, .lst (wD w)]) ∧ Okp R rows ∧ okW R (initS rows) w ∧ w.length ≤ 1000 ∧ Q (.lst ((stood R (initS rows) w).map (dSg R)))
def sp_run : DSp := fun ds Q => ∃ (R : Nat) (rows : List Int) (w : List Nat), (ds = [dPlay R rows, .tup (wD w)] ∨ ds = [dPlay R rows, .lst (wD w)]) ∧ Okp R rows ∧ okW R (initS rows) w ∧ w.length ≤ 1000 ∧ Q (dSg R (runS R (initS rows) w))
def sp_run_out : DSp := fun ds Q => ∃ (R : Nat) (rows : List Int) (w : List Nat), (ds = [dPlay R rows, .tup (wD w)] ∨ ds = [dPlay R rows, .lst (wD w)]) ∧ Okp R rows ∧ okW R (initS rows) w ∧ w.length ≤ 1000 ∧ Q (.tup (wD (w ++ outF R 60 (runS R (initS rows) w))))
def sp_is_came : DSp := fun ds Q => ∃ (R : Nat) (rows : List Int) (w : List Nat), ds = [dPlay R rows, .tup (wD w)] ∧ w.length ≤ 1000 ∧ (∀ h ∈ w, h < rows.length) ∧ w.Pairwise (· < ·) ∧ Q (.bl true)
def sp_is_item : DSp := fun ds Q => ∃ (R : Nat) (rows : List Int) (t : Int), ds = [dPlay R rows, dItem R t] ∧ Q (.bl true)
def sp_most_told : DSp := fun ds Q => ∃ (R : Nat) (rows : List Int) (h : D), ds = [dPlay R rows, h] ∧ Q (.int 1)
def sp_is_told : DSp := fun ds Q => ∃ (R : Nat) (rows : List Int) (told : List (List Int)), ds = [dPlay R rows, dTolds R told] ∧ told.length = rows.length ∧ rows.length ≤ 5 ∧ (∀ l ∈ told, l.length ≤ 1) ∧ Q (.bl true)
def sp_flat : DSp := fun ds Q => ∃ (R : Nat) (told : List (List Int)), ds = [dTolds R told] ∧ told.length ≤ 1000 ∧ (∀ l ∈ told, l.length ≤ 1) ∧ Q (.lst (told.flatten.map (dItem R)))
def sp_fault : DSp := fun ds Q => ∃ (R : Nat) (rows : List Int) (came : List Nat) (told : List (List Int)), ds = [dPlay R rows, .tup (wD came), dTolds R told] ∧ Fine R rows came told ∧ Q .non
def sp_law_near_fault : DSp := fun ds Q => ∃ (R : Nat) (rows : List Int) (came : List Nat) (told : List (List Int)), ds = [dRows rows, .int (R : Int), .tup (wD came), dTolds R told] ∧ Fine R rows came told ∧ Q .non
def sp_law_fault : DSp := fun ds Q => ∃ (R : Nat) (rows : List Int) (came : List Nat) (told : List (List Int)), ds = [.str "near", dRows rows, .int (R : Int), .tup (wD came), dTolds R told] ∧ Fine R rows came told ∧ Q .non
def sp_law_draw : DSp := fun ds Q => ∃ m : Int, ds = [.hnd, .int m] ∧ 0 < m ∧ m ≤ 1000000 ∧ ∀ d : Int, 0 ≤ d → d < m → Q (.int d)
def sp_law_some : DSp := fun ds Q => ∃ l : List D, ds = [.hnd, .lst l] ∧ l ≠ [] ∧ l.length ≤ 1000000 ∧ ∀ x ∈ l, Q x
/-- plain data, nested at most m deep -/
def plainD : Nat → D → Prop
  | _, .non => True
  | _, .bl _ => True
  | _, .int _ => True
  | _, .str _ => True
  | 0, _ => False
  | m + 1, .tup l => l.length ≤ 1000 ∧ ∀ x ∈ l, plainD m x
  | m + 1, .lst l => l.length ≤ 1000 ∧ ∀ x ∈ l, plainD m x
  | _ + 1, _ => False
def sp_law_is (m : Nat) : DSp := fun ds Q => ∃ x : D, ds = [x, x] ∧ plainD m x ∧ Q (.bl true)
def sp_law_inputs : DSp := fun ds Q => ds = [.hnd, .str "near"] ∧ ∀ (R : Nat) (rows : List Int), Okp R rows → Q (.tup [dIn R rows, dRows rows, .int (R : Int)])
def sp_law_begin : DSp := fun ds Q => ∃ (R : Nat) (rows : List Int), ds = [.str "near", dRows rows] ∧ Okp R rows ∧ Q (dSg R (initS rows))
def sp_law_next : DSp := fun ds Q => ∃ (r : Nat) (t : Int) (b : Bool), ds = [.str "near", dSt (some (r, t, b))] ∧ Q (dWord b)
def sp_law_near : DSp := fun ds Q => ∃ (R : Nat) (rows : List Int) (S : Sg) (h r : Nat) (t : Int) (b : Bool), ds = [dRows rows, .int (R : Int), .tup (S.cells.map dCell), .int (h : Int), dSt (some (r, t, b))] ∧ Okp R rows ∧ Wf R rows.length S ∧ S.st[h]? = some (some (r, t, b)) ∧ Q (afterD R S h r t b)
def sp_law_moved : DSp := fun ds Q => ∃ (R : Nat) (rows : List Int) (S : Sg) (h : Nat) (p : Nat × Int × Bool), ds = [.str "near", dRows rows, .int (R : Int), dSg R S, .int (h : Int)] ∧ Okp R rows ∧ Wf R rows.length S ∧ S.st[h]? = some (some p) ∧ Q (dSg R (stepS R S h))
def sp_law_woven : DSp := fun ds Q => ∃ (R : Nat) (rows : List Int) (m : Nat), ds = [.hnd, .str "near", dRows rows, .int (R : Int), .int (m : Int)] ∧ Okp R rows ∧ m ≤ 1000 ∧ ∀ w : List Nat, okW R (initS rows) w → w.length ≤ m → Q (.tup [.lst (wD w), .lst ((stood R (initS rows) w).map (dSg R))])
def sp_law_whole : DSp := fun ds Q => ∃ (R : Nat) (rows : List Int) (w : List Nat), ds = [.str "near", dRows rows, .int (R : Int), .lst (wD w), dSg R (runS R (initS rows) w)] ∧ Okp R rows ∧ okW R (initS rows) w ∧ w.length ≤ 1000 ∧ Q (.tup [.tup (wD (w ++ outF R 60 (runS R (initS rows) w))), dSg R (runS R (initS rows) (w ++ outF R 60 (runS R (initS rows) w)))])
def sp_law_came : DSp := fun ds Q => ∃ w : List Nat, (ds = [.tup (wD w)] ∨ ds = [.lst (wD w)]) ∧ w.length ≤ 1000 ∧ (∀ h ∈ w, h < 60) ∧ ∀ c : List Nat, c.Pairwise (· < ·) → (∀ k, k ∈ c ↔ k ∈ w) → Q (.tup (wD c))
def sp_law_led_right : DSp := fun ds Q => ∃ (R : Nat) (rows : List Int) (m : Nat), ds = [.hnd, .str "near", dRows rows, .int (R : Int), dPlay R rows, .int (m : Int)] ∧ Okp R rows ∧ m ≤ 1000 ∧ ∀ S : Sg, Wf R rows.length S → (∀ h < rows.length, S.st[h]? = some none) → Q (dSg R S)
/-! small facts -/
theorem wD_len (w : List Nat) : (wD w).length = w.length := by simp [wD, nI]
theorem wD_get {w : List Nat} {j h : Nat} (e : w[j]? = some h) : (wD w)[j]? = some (.int (h : Int)) := by simp [wD, nI, e]
theorem wD_at {w : List Nat} {j : Nat} {d : D} (e : (wD w)[j]? = some d) : ∃ h, w[j]? = some h ∧ d = .int (h : Int) := by
  simp only [wD, nI, List.getElem?_map] at e
  cases q : w[j]? with
  | none => rw [q] at e; cases e
  | some h => rw [q] at e; exact ⟨h, rfl, (Option.some.inj e).symm⟩
theorem wD_append (v w : List Nat) : wD (v ++ w) = wD v ++ wD w := by simp [wD, nI]
theorem mapAt {α β : Type} {l : List α} {f : α → β} {j : Nat} {d : β} (e : (l.map f)[j]? = some d) : ∃ x, l[j]? = some x ∧ d = f x := by
  rw [List.getElem?_map] at e
  cases q : l[j]? with
  | none => rw [q] at e; cases e
  | some h => rw [q] at e; exact ⟨h, rfl, (Option.some.inj e).symm⟩
theorem mapGet {α β : Type} {l : List α} {f : α → β} {j : Nat} {x : α} (e : l[j]? = some x) : (l.map f)[j]? = some (f x) := by
  rw [List.getElem?_map, e]; rfl
theorem atMap {α : Type} {l : List α} {f : α → D} {n : Nat} {x : α} (h : l[n]? = some x) : atI (l.map f) (n : Int) = some (f x) := atI_nat (mapGet h)
theorem ds_expr {c : Cf} {e : Expr} {ρ : List Sl} {E : EndsD} {pos : Pos} (h : DE c e ρ fun _ => E.nx ρ) (hsw : ∀ env, swapsWith e none pos.line env = pure false := by intro _; rfl) : DS c (.Expr e pos) ρ E :=
  DS.of fun X hX => ⟨_, ps_expr (hX.pe e) (hsw _), fun cps σ H env T k => h.run cps σ H env _ fun v H1 d env1 k1 r1 q => k.nx σ H1 ρ env1 q⟩
end Op
/-! Mx: what the comprehensions of the text give. -/
namespace Op
open PySem PySem.Spec PyProof.Rows L2 Dl
def gTop (r : Nat) : D → Option D
  | .tup l => l[r]?
  | _ => none
theorem gTop_map (cells : List (List Int)) (r : Nat) : (cells.map dCell).filterMap (gTop r) = (topsOf cells r).map D.int := by
  induction cells with
  | nil => rfl
  | cons c cs ih =>
    rw [List.map_cons, List.filterMap_cons, ih]
    unfold topsOf
    rw [List.filterMap_cons]
    have e : gTop r (dCell c) = (c[r]?).map D.int := List.getElem?_map
    rw [e]
    cases c[r]? <;> rfl
theorem gTop_some {c : List Int} {r : Nat} (h : r < c.length) : gTop r (dCell c) = some (.int c[r]) := mapGet (List.getElem?_eq_getElem h)
theorem gTop_none {c : List Int} {r : Nat} (h : ¬ r < c.length) : gTop r (dCell c) = none := by
  show (c.map D.int)[r]? = none
  rw [List.getElem?_map, List.getElem?_eq_none (by omega)]
  rfl
def gOn : D → Option D
  | .tup [x, d] => if isNon d then none else some x
  | _ => none
theorem gOn_some {x d : D} (h : isNon d = false) : gOn (.tup [x, d]) = some x := by
  unfold gOn; simp [h]
theorem gOn_none {x d : D} (h : isNon d = true) : gOn (.tup [x, d]) = none := by
  unfold gOn; simp [h]
theorem enumD_range (l : List HSt) : enumD (l.map dSt) = (List.range l.length).map fun i : Nat => D.tup [.int (i : Int), dSt (l.getD i none)] := by
  refine List.ext_getElem? fun i => ?_
  by_cases h : i < l.length
  · rw [enumD_get (mapGet (List.getElem?_eq_getElem h)), List.getElem?_map, List.getElem?_range h]
    simp [List.getD_eq_getElem?_getD, List.getElem?_eq_getElem h]
  · rw [List.getElem?_eq_none (by rw [enumD_len, List.length_map]; omega), List.getElem?_eq_none (by rw [List.length_map, List.length_range]; omega)]
theorem isNon_dSt (o : HSt) : isNon (dSt o) = !isOn o := by
  cases o with
  | none => rfl
  | some p => obtain ⟨r, t, b⟩ := p; rfl
theorem filt_range {α : Type} (p : Nat → Bool) (f : Nat → α) : ∀ l : List Nat, (l.filterMap fun i => if p i then some (f i) else none) = (l.filter p).map f
  | [] => rfl
  | x :: l => by
    rw [List.filterMap_cons, filt_range p f l, List.filter_cons]
    cases p x <;> rfl
theorem gOn_map (S : Sg) : (enumD (S.st.map dSt)).filterMap gOn = wD (canS S) := by
  rw [enumD_range, List.filterMap_map]
  unfold wD nI canS
  rw [List.map_map, ← filt_range]
  congr 1
  funext i
  show (if isNon (dSt (S.st.getD i none)) then none else some (D.int (i : Int))) = _
  rw [isNon_dSt]
  cases isOn (S.st.getD i none) <;> rfl
theorem range_getD (rows : List Int) (f : Int → D) : ((List.range rows.length).map fun i => f (rows.getD i 0)) = rows.map f := by
  refine List.ext_getElem? fun i => ?_
  by_cases h : i < rows.length
  · rw [List.getElem?_map, List.getElem?_range h, List.getElem?_map, List.getElem?_eq_getElem h]
    simp [List.getD_eq_getElem?_getD, List.getElem?_eq_getElem h]
  · rw [List.getElem?_eq_none (by simp; omega), List.getElem?_eq_none (by simp; omega)]
theorem getD_some {rows : List Int} {i : Nat} (h : i < rows.length) : rows[i]? = some (rows.getD i 0) := by
  rw [List.getD_eq_getElem?_getD, List.getElem?_eq_getElem h]; rfl
section
variable {R h r : Nat} {S : Sg} {t : Int}
theorem stepA (e : S.st[h]? = some (some (r, t, false))) : stepS R S h = ⟨S.cells.set h (S.cells.getD h [] ++ [t]), S.st.set h (some (r, t, true)), S.told⟩ := by
  unfold stepS; rw [e]
theorem stepB (e : S.st[h]? = some (some (r, t, true))) (hR : r + 1 = R) : stepS R S h = ⟨S.cells, S.st.set h none, S.told.set h (S.told.getD h [] ++ [nextTop S.cells r])⟩ := by
  unfold stepS; rw [e]; exact if_pos hR
theorem stepC (e : S.st[h]? = some (some (r, t, true))) (hR : r + 1 ≠ R) : stepS R S h = ⟨S.cells, S.st.set h (some (r + 1, nextTop S.cells r, false)), S.told⟩ := by
  unfold stepS; rw [e]; exact if_neg hR
end
theorem cases3 (b : Bool) (r R : Nat) : b = false ∨ (b = true ∧ r + 1 = R) ∨ (b = true ∧ r + 1 ≠ R) := by
  cases b with
  | false => exact .inl rfl
  | true => by_cases h : r + 1 = R
            · exact .inr (.inl ⟨rfl, h⟩)
            · exact .inr (.inr ⟨rfl, h⟩)
theorem stood_last (R : Nat) (S : Sg) (w : List Nat) : stood R S w = ((List.range w.length).map fun j => runS R S (w.take j)) ++ [runS R S w] := by
  unfold stood
  rw [List.range_succ, List.map_append]
  simp
theorem stood_snoc (R : Nat) (S : Sg) (w : List Nat) (h : Nat) : stood R S (w ++ [h]) = stood R S w ++ [runS R S (w ++ [h])] := by
  rw [stood_last R S (w ++ [h])]
  congr 1
  unfold stood
  rw [List.length_append]
  refine List.map_congr_left fun j hj => ?_
  rw [List.take_append_of_le_length (by simpa using Nat.le_of_lt_succ (List.mem_range.mp hj))]
theorem stood_take {R : Nat} {S : Sg} {w : List Nat} {j h : Nat} (e : w[j]? = some h) : stood R S (w.take (j + 1)) = stood R S (w.take j) ++ [stepS R (runS R S (w.take j)) h] := by
  rw [List.take_add_one, e]
  show stood R S (w.take j ++ [h]) = _
  rw [stood_snoc, runS_append]
  rfl
theorem stood_len (R : Nat) (S : Sg) (w : List Nat) : (stood R S w).length = w.length + 1 := by simp [stood]
theorem stood_zero (R : Nat) (S : Sg) : stood R S [] = [S] := rfl
theorem stood_at {R : Nat} {S : Sg} {w : List Nat} {j : Nat} (h : j ≤ w.length) : (stood R S w)[j]? = some (runS R S (w.take j)) := by
  unfold stood
  rw [List.getElem?_map, List.getElem?_range (by omega)]
  rfl
theorem lastAt {R : Nat} {S : Sg} {w : List Nat} : atI ((stood R S w).map (dSg R)) (-1) = some (dSg R (runS R S w)) := by
  rw [stood_last, List.map_append]
  exact atI_last _ _
theorem okW_take {R : Nat} {S : Sg} {w : List Nat} {j h : Nat} (ok : okW R S w) (e : w[j]? = some h) : ∃ p, (runS R S (w.take j)).st[h]? = some (some p) := by
  have hj := (List.getElem?_eq_some_iff.mp e).1
  have e2 : w = w.take j ++ (w[j] :: w.drop (j + 1)) := by rw [← List.drop_eq_getElem_cons hj, List.take_append_drop]
  rw [e2] at ok
  have := (okW_append.mp ok).2.1
  rw [← List.getElem?_eq_some_iff.mp e |>.2]
  exact this
theorem st_lt {R n h : Nat} {S : Sg} {p : Nat × Int × Bool} (w : Wf R n S) (e : S.st[h]? = some (some p)) : h < n := by
  have := (List.getElem?_eq_some_iff.mp e).1
  rw [w.ls] at this
  exact this
end Op
/-! Mo: the way to the end: who is on, how many steps are left. -/
namespace Op
theorem mem_canS {S : Sg} {h : Nat} : h ∈ canS S ↔ ∃ p, S.st[h]? = some (some p) := by
  unfold canS
  rw [List.mem_filter, List.mem_range, List.getD_eq_getElem?_getD]
  constructor
  · rintro ⟨h1, h2⟩
    rw [List.getElem?_eq_getElem h1] at h2 ⊢
    cases q : S.st[h] with
    | none => rw [q] at h2; cases h2
    | some p => exact ⟨p, rfl⟩
  · rintro ⟨p, hp⟩
    rw [hp]
    exact ⟨(List.getElem?_eq_some_iff.mp hp).1, rfl⟩
/-- the steps that a hand has left -/
def left1 (R : Nat) : HSt → Nat
  | none => 0
  | some (r, _, b) => 2 * (R - r) - b.toNat
def mu (R : Nat) (S : Sg) : Nat := (S.st.map (left1 R)).sum
theorem sum_set : ∀ {l : List Nat} {h a b : Nat}, l[h]? = some a → (l.set h b).sum + a = l.sum + b
  | x :: l, 0, a, b, e => by
    have : x = a := by simpa using e
    subst this
    simp; omega
  | x :: l, h + 1, a, b, e => by
    have := sum_set (l := l) (h := h) (a := a) (b := b) (by simpa using e)
    simp; omega
  | [], h, a, b, e => by simp at e
theorem mu_step {R n h : Nat} {S : Sg} {p : Nat × Int × Bool} (w : Wf R n S) (e : S.st[h]? = some (some p)) : mu R (stepS R S h) + 1 = mu R S := by
  obtain ⟨r, t, b⟩ := p
  obtain ⟨hr, _⟩ := w.on h r t b e
  have key : ∀ o : HSt, (S.st.set h o).map (left1 R) = (S.st.map (left1 R)).set h (left1 R o) := fun o => by rw [List.map_set]
  have k2 : (S.st.map (left1 R))[h]? = some (left1 R (some (r, t, b))) := by rw [List.getElem?_map, e]; rfl
  rcases cases3 b r R with rfl | ⟨rfl, hR⟩ | ⟨rfl, hR⟩
  · rw [stepA e]
    unfold mu
    rw [key]
    have := sum_set (b := left1 R (some (r, t, true))) k2
    simp [left1] at this ⊢
    omega
  · rw [stepB e hR]
    unfold mu
    rw [key]
    have := sum_set (b := left1 R none) k2
    simp [left1] at this ⊢
    omega
  · rw [stepC e hR]
    unfold mu
    rw [key]
    have := sum_set (b := left1 R (some (r + 1, nextTop S.cells r, false))) k2
    simp [left1] at this ⊢
    omega
theorem mu_init (R : Nat) (rows : List Int) : mu R (initS rows) = 2 * R * rows.length := by
  unfold mu initS
  simp only [List.map_map]
  induction rows with
  | nil => rfl
  | cons x l ih => rw [List.map_cons, List.sum_cons, ih, List.length_cons]; simp [left1]; rw [Nat.mul_add]; omega
theorem mu_run {R n : Nat} : ∀ (w : List Nat) {S : Sg}, Wf R n S → okW R S w → mu R (runS R S w) + w.length = mu R S
  | [], _, _, _ => rfl
  | h :: w, S, wf, ⟨⟨p, e⟩, ok⟩ => by
    have h1 := mu_step wf e
    have h2 := mu_run w (wf_step wf h) ok
    show mu R (runS R (stepS R S h) w) + (w.length + 1) = _
    omega
theorem outF_ok {R n : Nat} : ∀ (k : Nat) {S : Sg}, okW R S (outF R k S)
  | 0, _ => trivial
  | k + 1, S => by
    unfold outF
    cases q : canS S with
    | nil => trivial
    | cons h l => exact ⟨mem_canS.mp (by rw [q]; exact List.mem_cons_self), outF_ok (n := n) k⟩
theorem outF_len {R : Nat} : ∀ (k : Nat) {S : Sg}, (outF R k S).length ≤ k
  | 0, _ => Nat.le_refl _
  | k + 1, S => by
    unfold outF
    cases q : canS S with
    | nil => exact Nat.zero_le _
    | cons h l => exact Nat.succ_le_succ (outF_len k)
theorem mu_zero {R n : Nat} {S : Sg} (w : Wf R n S) (h : mu R S = 0) : canS S = [] := by
  cases q : canS S with
  | nil => rfl
  | cons x l =>
    obtain ⟨p, e⟩ := mem_canS.mp (show x ∈ canS S by rw [q]; exact List.mem_cons_self)
    have := mu_step w e
    omega
theorem outF_nil {R : Nat} {S : Sg} (h : canS S = []) : ∀ k, outF R k S = []
  | 0 => rfl
  | k + 1 => by unfold outF; rw [h]
theorem outF_cons {R h : Nat} {S : Sg} {l : List Nat} (q : canS S = h :: l) (k : Nat) : outF R (k + 1) S = h :: outF R k (stepS R S h) := by
  rw [outF]; rw [q]
theorem outF_more {R n : Nat} : ∀ (k m : Nat) {S : Sg}, Wf R n S → mu R S ≤ k → mu R S ≤ m → outF R m S = outF R k S
  | 0, m, S, w, h, _ => by rw [outF_nil (mu_zero w (by omega)), outF_nil (mu_zero w (by omega))]
  | k + 1, 0, S, w, _, h => by rw [outF_nil (mu_zero w (by omega)), outF_nil (mu_zero w (by omega))]
  | k + 1, m + 1, S, w, h, h2 => by
    cases q : canS S with
    | nil => rw [outF_nil q, outF_nil q]
    | cons x l =>
      obtain ⟨p, e⟩ := mem_canS.mp (show x ∈ canS S by rw [q]; exact List.mem_cons_self)
      have := mu_step w e
      rw [outF_cons q, outF_cons q, outF_more k m (wf_step w x) (by omega) (by omega)]
theorem outF_end {R n : Nat} : ∀ (k : Nat) {S : Sg}, Wf R n S → mu R S ≤ k → canS (runS R S (outF R k S)) = []
  | 0, S, w, h => show canS S = [] from mu_zero w (Nat.le_zero.mp h)
  | k + 1, S, w, h => by
    cases q : canS S with
    | nil => rw [outF_nil q]; exact q
    | cons x l =>
      obtain ⟨p, e⟩ := mem_canS.mp (show x ∈ canS S by rw [q]; exact List.mem_cons_self)
      have := mu_step w e
      rw [outF_cons q]
      exact outF_end k (wf_step w x) (by omega)
theorem outF_succ {R : Nat} : ∀ (k : Nat) (S : Sg), outF R (k + 1) S = outF R k S ++ (match canS (runS R S (outF R k S)) with | [] => [] | h :: _ => [h])
  | 0, S => by
    cases q : canS S with
    | nil => rw [outF_nil q, outF_nil q]; show [] = [] ++ (match canS S with | [] => [] | h :: _ => [h]); rw [q]; rfl
    | cons x l => rw [outF_cons q]; show _ = [] ++ (match canS S with | [] => [] | h :: _ => [h]); rw [q]; rfl
  | k + 1, S => by
    cases q : canS S with
    | nil => rw [outF_nil q, outF_nil q]; show [] = [] ++ (match canS S with | [] => [] | h :: _ => [h]); rw [q]; rfl
    | cons x l =>
      rw [outF_cons q, outF_succ k, outF_cons q k]
      rfl
theorem mu_60 {R : Nat} {rows : List Int} {w : List Nat} (o : Okp R rows) (ok : okW R (initS rows) w) : mu R (runS R (initS rows) w) + w.length ≤ 60 := by
  have h1 := mu_run w (wf_init (by have := o.r0; omega) rows) ok
  rw [mu_init] at h1
  have h2 : 2 * R * rows.length ≤ 12 * 5 := Nat.mul_le_mul (by have := o.r6; omega) o.n5
  omega
theorem wf_of {R : Nat} {rows : List Int} (o : Okp R rows) (w : List Nat) : Wf R rows.length (runS R (initS rows) w) := wf_run w (wf_init (by have := o.r0; omega) rows)
end Op
/-! Mn: near values in plain Lean. -/
namespace Op
def XX (R : Nat) (S : Sg) (r : Nat) (x : Int) : Prop := (∃ c ∈ S.cells, c[r]? = some x) ∨ (∃ (h : Nat) (b : Bool), S.st[h]? = some (some (r, x, b))) ∨ (r = R ∧ ∃ l ∈ S.told, x ∈ l)
structure Nr (R : Nat) (rows : List Int) (w : List Nat) (S : Sg) : Prop where
  c0 : ∀ (h : Nat) (c : List Int) (v : Int), S.cells[h]? = some c → c[0]? = some v → rows[h]? = some v ∧ h ∈ w
  s0 : ∀ (h : Nat) (x : Int) (b : Bool), S.st[h]? = some (some (0, x, b)) → rows[h]? = some x
  un : ∀ h : Nat, h ∉ w → h < rows.length → ∃ x : Int, S.st[h]? = some (some (0, x, false))
  sum : ∀ (r : Nat) (x : Int), XX R S (r + 1) x → ∃ a b, a ∈ topsOf S.cells r ∧ b ∈ topsOf S.cells r ∧ x = a + b
  dif : ∀ (r : Nat) (x y : Int), XX R S (r + 1) x → XX R S (r + 1) y → ∃ p q, p ∈ topsOf S.cells r ∧ q ∈ topsOf S.cells r ∧ x - y ≤ p - q
theorem mem_tops {cells : List (List Int)} {r : Nat} {x : Int} : x ∈ topsOf cells r ↔ ∃ c ∈ cells, c[r]? = some x := List.mem_filterMap
theorem nr_init {R : Nat} (hR : 0 < R) (rows : List Int) : Nr R rows [] (initS rows) where
  c0 := fun h c v e1 e2 => by
    obtain ⟨y, _, rfl⟩ := mapAt e1
    cases e2
  s0 := fun h x b e => by
    obtain ⟨y, e1, e2⟩ := mapAt e
    cases e2
    exact e1
  un := fun h _ hl => ⟨rows[h], mapGet (f := fun v => some (0, v, false)) (List.getElem?_eq_getElem hl)⟩
  sum := fun r x h => by
    exfalso
    rcases h with ⟨c, hc, e⟩ | ⟨h, b, e⟩ | ⟨_, l, hl, e⟩
    · obtain ⟨_, _, rfl⟩ := List.mem_map.mp hc
      cases e
    · obtain ⟨y, e1, e2⟩ := mapAt e
      cases e2
    · obtain ⟨_, _, rfl⟩ := List.mem_map.mp hl
      cases e
  dif := fun r x y h _ => by
    exfalso
    rcases h with ⟨c, hc, e⟩ | ⟨h, b, e⟩ | ⟨_, l, hl, e⟩
    · obtain ⟨_, _, rfl⟩ := List.mem_map.mp hc
      cases e
    · obtain ⟨y, e1, e2⟩ := mapAt e
      cases e2
    · obtain ⟨_, _, rfl⟩ := List.mem_map.mp hl
      cases e
theorem nr_put {R n : Nat} {rows : List Int} {v : List Nat} {S : Sg} {h r : Nat} {t : Int} (w : Wf R n S) (hn : n = rows.length) (nr : Nr R rows v S) (e : S.st[h]? = some (some (r, t, false))) :
    Nr R rows (v ++ [h]) ⟨S.cells.set h (S.cells.getD h [] ++ [t]), S.st.set h (some (r, t, true)), S.told⟩ := by
  obtain ⟨hr, ht, c, hc, hl⟩ := w.on h r t false e
  have hl : c.length = r := hl
  have hcd : S.cells.getD h [] = c := by rw [List.getD_eq_getElem?_getD, hc]; rfl
  rw [hcd]
  have hlt : h < S.cells.length := (List.getElem?_eq_some_iff.mp hc).1
  have up : ∀ (k : Nat) (x : Int), x ∈ topsOf S.cells k → x ∈ topsOf (S.cells.set h (c ++ [t])) k := fun k x hx => by
    obtain ⟨c', h1, h2⟩ := mem_tops.mp hx
    obtain ⟨j, hj⟩ := List.getElem?_of_mem h1
    by_cases q : h = j
    · subst q
      rw [hc] at hj
      cases hj
      refine mem_tops.mpr ⟨c ++ [t], List.mem_of_getElem? (List.getElem?_set_self hlt), ?_⟩
      rw [List.getElem?_append_left (List.getElem?_eq_some_iff.mp h2).1]
      exact h2
    · exact mem_tops.mpr ⟨c', List.mem_of_getElem? (by rw [List.getElem?_set_ne q]; exact hj), h2⟩
  have dn : ∀ (k : Nat) (x : Int), XX R ⟨S.cells.set h (c ++ [t]), S.st.set h (some (r, t, true)), S.told⟩ k x → XX R S k x := fun k x hx => by
    rcases hx with ⟨c', h1, h2⟩ | ⟨j, b, h1⟩ | h1
    · obtain ⟨j, hj⟩ := List.getElem?_of_mem h1
      rcases get_setN hj with ⟨rfl, rfl, _⟩ | ⟨_, hj⟩
      · by_cases q : k < c.length
        · rw [List.getElem?_append_left q] at h2
          exact .inl ⟨c, List.mem_of_getElem? hc, h2⟩
        · have : k = c.length ∧ x = t := by
            rw [List.getElem?_append_right (by omega)] at h2
            have h3 := (List.getElem?_eq_some_iff.mp h2).1
            simp at h3
            have h4 : k - c.length = 0 := by omega
            rw [h4] at h2
            exact ⟨by omega, by simpa using h2.symm⟩
          obtain ⟨rfl, rfl⟩ := this
          rw [hl]
          exact .inr (.inl ⟨j, false, e⟩)
      · exact .inl ⟨c', List.mem_of_getElem? hj, h2⟩
    · rcases get_setN h1 with ⟨rfl, q, _⟩ | ⟨_, q⟩
      · cases q
        exact .inr (.inl ⟨j, false, e⟩)
      · exact .inr (.inl ⟨j, b, q⟩)
    · exact .inr (.inr h1)
  refine ⟨fun j c' x h1 h2 => ?_, fun j x b h1 => ?_, fun j h1 h2 => ?_, fun k x hx => ?_, fun k x y hx hy => ?_⟩
  · rcases get_setN h1 with ⟨rfl, rfl, _⟩ | ⟨_, q⟩
    · refine ⟨?_, List.mem_append_right _ List.mem_cons_self⟩
      by_cases q : 0 < c.length
      · rw [List.getElem?_append_left q] at h2
        exact (nr.c0 j c x hc h2).1
      · have hc0 : c = [] := List.length_eq_zero_iff.mp (by omega)
        subst hc0
        have : t = x := by simpa using h2
        subst this
        have : r = 0 := by simpa using hl.symm
        subst this
        exact nr.s0 j t false e
    · obtain ⟨a, b⟩ := nr.c0 j c' x q h2
      exact ⟨a, List.mem_append_left _ b⟩
  · rcases get_setN h1 with ⟨rfl, q, _⟩ | ⟨_, q⟩
    · cases q
      exact nr.s0 j t false e
    · exact nr.s0 j x b q
  · have h3 : j ∉ v := fun z => h1 (List.mem_append_left _ z)
    have h4 : h ≠ j := fun z => h1 (z ▸ List.mem_append_right _ List.mem_cons_self)
    obtain ⟨x, hx⟩ := nr.un j h3 h2
    exact ⟨x, by rw [List.getElem?_set_ne h4]; exact hx⟩
  · obtain ⟨a, b, h1, h2, h3⟩ := nr.sum k x (dn _ _ hx)
    exact ⟨a, b, up _ _ h1, up _ _ h2, h3⟩
  · obtain ⟨a, b, h1, h2, h3⟩ := nr.dif k x y (dn _ _ hx) (dn _ _ hy)
    exact ⟨a, b, up _ _ h1, up _ _ h2, h3⟩
theorem nr_see {R n : Nat} {rows : List Int} {v : List Nat} {S S' : Sg} {h r : Nat} {t : Int} (w : Wf R n S) (hn : n = rows.length) (nr : Nr R rows v S) (e : S.st[h]? = some (some (r, t, true)))
    (e1 : S'.cells = S.cells) (e2 : ∃ o : HSt, S'.st = S.st.set h o ∧ (∀ k x b, o = some (k, x, b) → k = r + 1 ∧ x = nextTop S.cells r)) (e3 : ∀ l ∈ S'.told, l ∈ S.told ∨ (r + 1 = R ∧ l = [nextTop S.cells r])) :
    Nr R rows (v ++ [h]) S' := by
  obtain ⟨hr, ht, c, hc, hl⟩ := w.on h r t true e
  have hl : c.length = r + 1 := hl
  obtain ⟨o, e2, ho⟩ := e2
  have ne := topsOf_ne hc (show r < c.length by omega)
  have dn : ∀ (k : Nat) (x : Int), XX R S' k x → XX R S k x ∨ (k = r + 1 ∧ x = nextTop S.cells r) := fun k x hx => by
    rcases hx with ⟨c', h1, h2⟩ | ⟨j, b, h1⟩ | ⟨hk, l, h1, h2⟩
    · rw [e1] at h1
      exact .inl (.inl ⟨c', h1, h2⟩)
    · rw [e2] at h1
      rcases get_setN h1 with ⟨rfl, q, _⟩ | ⟨_, q⟩
      · exact .inr (ho k x b q.symm)
      · exact .inl (.inr (.inl ⟨j, b, q⟩))
    · rcases e3 l h1 with q | ⟨q, rfl⟩
      · exact .inl (.inr (.inr ⟨hk, l, q, h2⟩))
      · exact .inr ⟨by omega, by simpa using h2⟩
  have mm : lmin (topsOf S.cells r) ∈ topsOf S.cells r := lmin_mem ne
  have mM : lmax (topsOf S.cells r) ∈ topsOf S.cells r := lmax_mem ne
  refine ⟨fun j c' x h1 h2 => ?_, fun j x b h1 => ?_, fun j h1 h2 => ?_, fun k x hx => ?_, fun k x y hx hy => ?_⟩
  · rw [e1] at h1
    obtain ⟨a, b⟩ := nr.c0 j c' x h1 h2
    exact ⟨a, List.mem_append_left _ b⟩
  · rw [e2] at h1
    rcases get_setN h1 with ⟨rfl, q, _⟩ | ⟨_, q⟩
    · have := (ho 0 x b q.symm).1
      omega
    · exact nr.s0 j x b q
  · have h3 : j ∉ v := fun z => h1 (List.mem_append_left _ z)
    have h4 : h ≠ j := fun z => h1 (z ▸ List.mem_append_right _ List.mem_cons_self)
    obtain ⟨x, hx⟩ := nr.un j h3 h2
    exact ⟨x, by rw [e2, List.getElem?_set_ne h4]; exact hx⟩
  · rw [e1]
    rcases dn _ _ hx with q | ⟨q, rfl⟩
    · exact nr.sum k x q
    · have : k = r := by omega
      subst this
      exact ⟨_, _, mm, mM, rfl⟩
  · rw [e1]
    rcases dn _ _ hx with q | ⟨q, rfl⟩ <;> rcases dn _ _ hy with q' | ⟨q', rfl⟩
    · exact nr.dif k x y q q'
    · have : k = r := by omega
      subst this
      obtain ⟨a, b, h1, h2, rfl⟩ := nr.sum k x q
      have := lmax_le h2
      exact ⟨a, _, h1, mm, by unfold nextTop; omega⟩
    · have : k = r := by omega
      subst this
      obtain ⟨a, b, h1, h2, rfl⟩ := nr.sum k y q'
      have := lmin_le h1
      exact ⟨_, b, mM, h2, by unfold nextTop; omega⟩
    · have : k = r := by omega
      subst this
      exact ⟨_, _, mm, mm, by omega⟩
theorem nr_step {R : Nat} {rows : List Int} {v : List Nat} {S : Sg} {h : Nat} {p : Nat × Int × Bool} (w : Wf R rows.length S) (nr : Nr R rows v S) (e : S.st[h]? = some (some p)) : Nr R rows (v ++ [h]) (stepS R S h) := by
  obtain ⟨r, t, b⟩ := p
  rcases cases3 b r R with rfl | ⟨rfl, hR⟩ | ⟨rfl, hR⟩
  · rw [stepA e]
    exact nr_put w rfl nr e
  · rw [stepB e hR]
    have ht := (w.on h r t true e).2.1
    have htd : S.told.getD h [] = [] := by rw [List.getD_eq_getElem?_getD, ht]; rfl
    refine nr_see w rfl nr e rfl ⟨none, rfl, fun k x b z => by cases z⟩ fun l hl => ?_
    obtain ⟨j, hj⟩ := List.getElem?_of_mem hl
    rcases get_setN hj with ⟨_, rfl, _⟩ | ⟨_, q⟩
    · exact .inr ⟨hR, by rw [htd]; rfl⟩
    · exact .inl (List.mem_of_getElem? q)
  · rw [stepC e hR]
    exact nr_see w rfl nr e rfl ⟨_, rfl, fun k x b z => by cases z; exact ⟨rfl, rfl⟩⟩ fun l hl => .inl hl
theorem nr_run {R : Nat} {rows : List Int} : ∀ (w : List Nat) {v : List Nat} {S : Sg}, Wf R rows.length S → Nr R rows v S → okW R S w → Nr R rows (v ++ w) (runS R S w)
  | [], v, S, _, nr, _ => by rw [List.append_nil]; exact nr
  | h :: w, v, S, wf, nr, ⟨⟨p, e⟩, ok⟩ => by
    have := nr_run w (wf_step wf h) (nr_step wf nr e) ok
    rw [List.append_assoc] at this
    exact this
/-- the tops of round r -/
theorem tops_in {R : Nat} {rows : List Int} {w came : List Nat} {S : Sg} (nr : Nr R rows w S) (hc : ∀ h ∈ w, h ∈ came) : ∀ (r : Nat),
    (∀ x ∈ topsOf S.cells r, lmin (came.map fun h => rows.getD h 0) * 2 ^ r ≤ x ∧ x ≤ lmax (came.map fun h => rows.getD h 0) * 2 ^ r) ∧ ∀ x ∈ topsOf S.cells r, ∀ y ∈ topsOf S.cells r, x - y ≤ lmax (came.map fun h => rows.getD h 0) - lmin (came.map fun h => rows.getD h 0)
  | 0 => by
    have key : ∀ x ∈ topsOf S.cells 0, x ∈ came.map fun h => rows.getD h 0 := fun x hx => by
      obtain ⟨c, h1, h2⟩ := mem_tops.mp hx
      obtain ⟨j, hj⟩ := List.getElem?_of_mem h1
      obtain ⟨a, b⟩ := nr.c0 j c x hj h2
      exact List.mem_map.mpr ⟨j, hc j b, by rw [List.getD_eq_getElem?_getD, a]; rfl⟩
    refine ⟨fun x hx => ?_, fun x hx y hy => ?_⟩
    · have h1 := lmin_le (key x hx)
      have h2 := lmax_le (key x hx)
      rw [Int.pow_zero, Int.mul_one, Int.mul_one]; exact ⟨h1, h2⟩
    · have h1 := lmin_le (key y hy)
      have h2 := lmax_le (key x hx)
      omega
  | r + 1 => by
    obtain ⟨ih1, ih2⟩ := tops_in nr hc r
    have inX : ∀ x ∈ topsOf S.cells (r + 1), XX R S (r + 1) x := fun x hx => .inl (mem_tops.mp hx)
    refine ⟨fun x hx => ?_, fun x hx y hy => ?_⟩
    · obtain ⟨a, b, h1, h2, rfl⟩ := nr.sum r x (inX x hx)
      have h3 := ih1 a h1
      have h4 := ih1 b h2
      rw [Int.pow_succ, ← Int.mul_assoc, ← Int.mul_assoc]
      omega
    · obtain ⟨a, b, h1, h2, h3⟩ := nr.dif r x y (inX x hx) (inX y hy)
      have := ih2 a h1 b h2
      omega
theorem sorted_len {n : Nat} {l : List Nat} (up : l.Pairwise (· < ·)) (h : ∀ x ∈ l, x < n) : l.length ≤ n := by
  have key : ∀ i (hi : i < l.length), i ≤ l[i] := fun i => by
    induction i with
    | zero => intro _; exact Nat.zero_le _
    | succ i ih =>
      intro hi
      have h1 := ih (by omega)
      have h2 := List.pairwise_iff_getElem.mp up i (i + 1) (by omega) hi (by omega)
      omega
  cases q : l.length with
  | zero => exact Nat.zero_le _
  | succ m =>
    have h1 := key m (by omega)
    have h2 := h _ (List.getElem_mem (l := l) (n := m) (by omega))
    omega
theorem fine_run {R : Nat} {rows : List Int} {w came : List Nat} (o : Okp R rows) (ok : okW R (initS rows) w) (up : came.Pairwise (· < ·)) (hc : ∀ k, k ∈ came ↔ k ∈ w) : Fine R rows came (runS R (initS rows) w).told := by
  have hR := o.r0
  have wf := wf_of o w
  have nr := nr_run w (wf_init (by omega) rows) (nr_init (by omega) rows) ok
  rw [List.nil_append] at nr
  have hlt : ∀ h ∈ w, h < rows.length := fun h hh => by
    obtain ⟨j, hj⟩ := List.getElem?_of_mem hh
    obtain ⟨p, hp⟩ := okW_take ok hj
    exact st_lt (wf_of o _) hp
  have one : ∀ (h : Nat) (l : List Int), (runS R (initS rows) w).told[h]? = some l → l.length ≤ 1 := fun h l e => by
    have hl : h < (runS R (initS rows) w).st.length := by
      have := (List.getElem?_eq_some_iff.mp e).1
      rw [wf.lt] at this
      rw [wf.ls]; exact this
    cases q : (runS R (initS rows) w).st[h] with
    | none =>
      obtain ⟨⟨t, ht⟩, _⟩ := wf.off h (by rw [List.getElem?_eq_getElem hl, q])
      rw [e] at ht
      cases ht
      exact Nat.le_refl _
    | some p =>
      obtain ⟨r, t, b⟩ := p
      obtain ⟨_, ht, _⟩ := wf.on h r t b (by rw [List.getElem?_eq_getElem hl, q])
      rw [e] at ht
      cases ht
      exact Nat.zero_le _
  obtain ⟨R', rfl⟩ : ∃ R', R = R' + 1 := ⟨R - 1, by omega⟩
  have inX : ∀ t ∈ (runS (R' + 1) (initS rows) w).told.flatten, XX (R' + 1) (runS (R' + 1) (initS rows) w) (R' + 1) t := fun t ht => by
    obtain ⟨l, h1, h2⟩ := List.mem_flatten.mp ht
    exact .inr (.inr ⟨rfl, l, h1, h2⟩)
  obtain ⟨b1, b2⟩ := tops_in (came := came) nr (fun h => (hc h).mpr) R'
  refine ⟨o, Nat.le_trans (sorted_len up fun h hh => hlt h ((hc h).mp hh)) (by have := o.n5; omega), up, fun h hh => hlt h ((hc h).mp hh), wf.lt, fun l hl => ?_, fun h l e ne => ?_, fun t ht => ?_, fun t ht => ?_, fun t ht u hu => ?_⟩
  · obtain ⟨j, hj⟩ := List.getElem?_of_mem hl
    exact one j l hj
  · refine (hc h).mpr (Classical.byContradiction fun hn => ?_)
    have hl : h < rows.length := by
      have := (List.getElem?_eq_some_iff.mp e).1
      rw [wf.lt] at this; exact this
    obtain ⟨x, hx⟩ := nr.un h hn hl
    have := (wf.on h 0 x false hx).2.1
    rw [e] at this
    cases this
    exact ne rfl
  · obtain ⟨a, b, h1, h2, rfl⟩ := nr.sum R' t (inX t ht)
    have h3 := b1 a h1
    have h4 := b1 b h2
    rw [Int.pow_succ, ← Int.mul_assoc]
    omega
  · obtain ⟨a, b, h1, h2, rfl⟩ := nr.sum R' t (inX t ht)
    have h3 := b1 a h1
    have h4 := b1 b h2
    rw [Int.pow_succ, ← Int.mul_assoc]
    omega
  · obtain ⟨a, b, h1, h2, h3⟩ := nr.dif R' t u (inX t ht) (inX u hu)
    have := b2 a h1 b h2
    omega
end Op
/-! Mq: small laws that the walks use. -/
namespace Op
open PySem PySem.Spec PyProof.Rows L2 Dl
theorem came_lt {w : List Nat} {j h h' : Nat} (up : w.Pairwise (· < ·)) (e : w[j]? = some h) (e' : w[(1 : Int).toNat + j]? = some h') : h < h' := by
  obtain ⟨h1, rfl⟩ := List.getElem?_eq_some_iff.mp e
  obtain ⟨h2, rfl⟩ := List.getElem?_eq_some_iff.mp e'
  exact List.pairwise_iff_getElem.mp up _ _ h1 h2 (by show j < 1 + j; omega)
theorem flat_len : ∀ {told : List (List Int)}, (∀ l ∈ told, l.length ≤ 1) → told.flatten.length ≤ told.length
  | [], _ => Nat.le_refl _
  | x :: l, h => by
    have h1 := flat_len fun y hy => h y (List.mem_cons_of_mem _ hy)
    have h2 := h x List.mem_cons_self
    rw [List.flatten_cons, List.length_append, List.length_cons]
    omega
theorem flat_take_len {told : List (List Int)} (h : ∀ l ∈ told, l.length ≤ 1) (j : Nat) : (told.take j).flatten.length ≤ told.length :=
  Nat.le_trans (flat_len fun l hl => h l (List.mem_of_mem_take hl)) (by rw [List.length_take]; omega)
theorem take_flat {β : Type} {told : List (List Int)} {f : Int → β} {j : Nat} {l : List Int} (e : told[j]? = some l) : (told.take (j + 1)).flatten.map f = (told.take j).flatten.map f ++ l.map f := by
  rw [List.take_add_one, e]
  simp
theorem mem_nI {h : Nat} {w : List Nat} : (h : Int) ∈ nI w ↔ h ∈ w := by
  unfold nI
  rw [List.mem_map]
  constructor
  · rintro ⟨x, h1, h2⟩
    have : x = h := Int.ofNat.inj h2
    exact this ▸ h1
  · exact fun h1 => ⟨h, h1, rfl⟩
theorem head_canS {S : Sg} (h : 0 < (canS S).length) : ∃ x l, canS S = x :: l ∧ ∃ p, S.st[x]? = some (some p) := by
  cases q : canS S with
  | nil => rw [q] at h; exact absurd h (Nat.lt_irrefl _)
  | cons x l => exact ⟨x, l, rfl, mem_canS.mp (by rw [q]; exact List.mem_cons_self)⟩
theorem nil_canS {S : Sg} (h : ¬ 0 < (canS S).length) : canS S = [] := List.length_eq_zero_iff.mp (by omega)
theorem run_snoc (R : Nat) (S : Sg) (w : List Nat) (h : Nat) : runS R S (w ++ [h]) = stepS R (runS R S w) h := by rw [runS_append]; rfl
theorem out_step {R : Nat} {rows : List Int} {w u l : List Nat} {h m : Nat} {p : Nat × Int × Bool} (op : Okp R rows) (hu : okW R (runS R (initS rows) w) u) (hm : mu R (runS R (initS rows) (w ++ u)) = m)
    (ho : outF R 60 (runS R (initS rows) w) = u ++ outF R m (runS R (initS rows) (w ++ u))) (hcs : canS (runS R (initS rows) (w ++ u)) = h :: l) (hp : (runS R (initS rows) (w ++ u)).st[h]? = some (some p)) :
    mu R (stepS R (runS R (initS rows) (w ++ u)) h) < m ∧ okW R (runS R (initS rows) w) (u ++ [h]) ∧ outF R 60 (runS R (initS rows) w) = (u ++ [h]) ++ outF R (mu R (stepS R (runS R (initS rows) (w ++ u)) h)) (stepS R (runS R (initS rows) (w ++ u)) h) := by
  have h1 := mu_step (wf_of op (w ++ u)) hp
  refine ⟨by omega, okW_append.mpr ⟨hu, ⟨p, by rw [← runS_append]; exact hp⟩, trivial⟩, ?_⟩
  rw [ho, ← hm, ← h1, outF_cons hcs, List.append_assoc]
  rfl
theorem pow_cm {R : Nat} (h : R ≤ 6) : -(2 ^ 64) < (2 : Int) ^ R ∧ (2 : Int) ^ R < 2 ^ 64 := by
  have : R = 0 ∨ R = 1 ∨ R = 2 ∨ R = 3 ∨ R = 4 ∨ R = 5 ∨ R = 6 := by omega
  rcases this with rfl | rfl | rfl | rfl | rfl | rfl | rfl <;> decide
theorem fine_ne {R : Nat} {rows : List Int} {came : List Nat} {told : List (List Int)} (fi : Fine R rows came told) (h : told.flatten ≠ []) : 0 < (came.map fun h => rows.getD h 0).length := by
  rw [List.length_map]
  obtain ⟨t, ht⟩ := List.exists_mem_of_ne_nil _ h
  obtain ⟨l, h1, h2⟩ := List.mem_flatten.mp ht
  obtain ⟨j, hj⟩ := List.getElem?_of_mem h1
  exact List.length_pos_of_mem (fi.own j l hj (List.ne_nil_of_mem h2))
theorem ifpT {A B p : Prop} [Decidable p] (h : p) (a : A) : if p then A else B := by rw [if_pos h]; exact a
theorem ifpF {A B p : Prop} [Decidable p] (h : ¬ p) (a : B) : if p then A else B := by rw [if_neg h]; exact a
theorem atIn {l : List D} {d : Int} (h0 : 0 ≤ d) (h1 : d < (l.length : Int)) : ∃ x, x ∈ l ∧ atI l d = some x := by
  obtain ⟨n, rfl⟩ := Int.eq_ofNat_of_zero_le h0
  have h : n < l.length := Int.ofNat_lt.mp h1
  exact ⟨l[n], List.getElem_mem h, atI_nat (List.getElem?_eq_getElem h)⟩
theorem cut_set {l : List D} {n : Nat} {x : D} (h : n < l.length) : l.take (n : Int).toNat ++ [x] ++ l.drop ((n : Int) + 1).toNat = l.set n x := by
  rw [show ((n : Int) + 1).toNat = n + 1 by omega, show ((n : Nat) : Int).toNat = n from rfl, List.set_eq_take_append_cons_drop, if_pos h, List.append_assoc]
  rfl
theorem sorted_min {ns ms : List Int} (p : ms.Perm ns) (s : ms.Pairwise (· ≤ ·)) (h : ns ≠ []) : atI (ms.map D.int) 0 = some (.int (lmin ns)) := by
  cases ms with
  | nil => exact absurd (List.nil_perm.mp p) h
  | cons x l =>
    have e : x = lmin ns := lmin_eq (p.mem_iff.mp List.mem_cons_self) fun y hy => by
      rcases List.mem_cons.mp (p.mem_iff.mpr hy) with q | q
      · rw [q]; exact Int.le_refl _
      · exact (List.pairwise_cons.mp s).1 y q
    rw [← e]
    exact atI_nat (j := 0) rfl
theorem sorted_max {ns ms : List Int} (p : ms.Perm ns) (s : ms.Pairwise (· ≤ ·)) (h : ns ≠ []) : atI (ms.map D.int) (-1) = some (.int (lmax ns)) := by
  have hm : ms ≠ [] := fun z => by subst z; exact h (List.nil_perm.mp p)
  obtain ⟨l, x, rfl⟩ : ∃ l x, ms = l ++ [x] := ⟨_, _, (List.dropLast_concat_getLast hm).symm⟩
  have e : x = lmax ns := lmax_eq (p.mem_iff.mp (List.mem_append_right _ List.mem_cons_self)) fun y hy => by
    rcases List.mem_append.mp (p.mem_iff.mpr hy) with q | q
    · exact (List.pairwise_append.mp s).2.2 y q x List.mem_cons_self
    · rw [List.mem_singleton.mp q]; exact Int.le_refl _
  rw [← e, List.map_append]
  exact atI_last _ _
def gLeft (S : Sg) : D → Option D
  | .int i => if isOn (S.st.getD i.toNat none) then some (.int i) else none
  | _ => none
theorem gLeft_map (S : Sg) {n : Nat} (h : n = S.st.length) : (rangeD n).filterMap (gLeft S) = wD (canS S) := by
  subst h
  unfold rangeD wD nI canS
  rw [List.filterMap_map, List.map_map, ← filt_range]
  rfl
theorem gLeft_some {S : Sg} {j : Nat} (hj : j < S.st.length) (h : isNon (dSt S.st[j]) = false) : gLeft S (.int (j : Int)) = some (.int (j : Int)) := by
  show (if isOn (S.st.getD j none) then some (D.int (j : Int)) else none) = _
  rw [isNon_dSt] at h
  rw [List.getD_eq_getElem?_getD, List.getElem?_eq_getElem hj]
  exact if_pos (by simpa using h)
theorem gLeft_none {S : Sg} {j : Nat} (hj : j < S.st.length) (h : isNon (dSt S.st[j]) = true) : gLeft S (.int (j : Int)) = none := by
  show (if isOn (S.st.getD j none) then some (D.int (j : Int)) else none) = _
  rw [isNon_dSt] at h
  rw [List.getD_eq_getElem?_getD, List.getElem?_eq_getElem hj]
  exact if_neg (by simpa using h)
theorem nat_of {w : List Nat} {ms : List Int} (up : ms.Pairwise (· < ·)) (h : ∀ k, k ∈ ms ↔ k ∈ nI w) : ∃ c : List Nat, ms = nI c ∧ c.Pairwise (· < ·) ∧ ∀ k, k ∈ c ↔ k ∈ w := by
  have e : ms = nI (ms.map Int.toNat) := by
    unfold nI
    rw [List.map_map]
    refine (List.map_id _).symm.trans (List.map_congr_left fun x hx => ?_)
    obtain ⟨n, _, rfl⟩ := List.mem_map.mp ((h x).mp hx)
    rfl
  refine ⟨ms.map Int.toNat, e, ?_, fun k => ?_⟩
  · rw [e] at up
    exact (List.pairwise_map.mp up).imp fun q => Int.ofNat_lt.mp q
  · rw [← mem_nI, ← e, h, mem_nI]
theorem tops_len (cells : List (List Int)) (r : Nat) : (topsOf cells r).length ≤ cells.length := List.length_filterMap_le ..
end Op
/-! Mp: what the law's own defs lean on. -/
namespace Op
open PySem PySem.Spec PyProof.Rows L2 Dl
theorem many_of {x : D} (h : x ∈ [D.int 1, .int 2, .int 2, .int 3, .int 3, .int 3, .int 4, .int 5]) : ∃ n : Nat, 1 ≤ n ∧ n ≤ 5 ∧ x = .int (n : Int) := by
  simp only [List.mem_cons, List.not_mem_nil, or_false] at h
  rcases h with rfl | rfl | rfl | rfl | rfl | rfl | rfl | rfl
  · exact ⟨1, by decide, by decide, rfl⟩
  · exact ⟨2, by decide, by decide, rfl⟩
  · exact ⟨2, by decide, by decide, rfl⟩
  · exact ⟨3, by decide, by decide, rfl⟩
  · exact ⟨3, by decide, by decide, rfl⟩
  · exact ⟨3, by decide, by decide, rfl⟩
  · exact ⟨4, by decide, by decide, rfl⟩
  · exact ⟨5, by decide, by decide, rfl⟩
theorem value_of {x : D} {d : Int} (h0 : 0 ≤ d) (h1 : d < 1000) (h : x ∈ [D.int 0, .int 1, .int (-1), .int 1000, .int (-1000), .int (500 - d)]) : ∃ v : Int, x = .int v ∧ -1000 ≤ v ∧ v ≤ 1000 := by
  simp only [List.mem_cons, List.not_mem_nil, or_false] at h
  rcases h with rfl | rfl | rfl | rfl | rfl | rfl
  · exact ⟨0, rfl, by decide, by decide⟩
  · exact ⟨1, rfl, by decide, by decide⟩
  · exact ⟨-1, rfl, by decide, by decide⟩
  · exact ⟨1000, rfl, by decide, by decide⟩
  · exact ⟨-1000, rfl, by decide, by decide⟩
  · exact ⟨500 - d, rfl, by omega, by omega⟩
theorem mem_snoc {α : Type} {P : α → Prop} {l : List α} {y : α} (h : ∀ x ∈ l, P x) (hy : P y) : ∀ x ∈ l ++ [y], P x := fun x hx => by
  rcases List.mem_append.mp hx with z | z
  · exact h x z
  · rw [List.mem_singleton.mp z]; exact hy
theorem canS_len (S : Sg) : (canS S).length ≤ S.st.length := by
  unfold canS
  exact Nat.le_trans (List.length_filter_le ..) (by rw [List.length_range]; exact Nat.le_refl _)
theorem head_at {l : List Int} (h : 0 < l.length) : ∃ v, v ∈ l ∧ atI (l.map D.int) 0 = some (.int v) := by
  cases l with
  | nil => exact absurd h (Nat.lt_irrefl _)
  | cons x l => exact ⟨x, List.mem_cons_self, atI_nat (j := 0) rfl⟩
theorem map_ne {l : List Int} (h : 0 < l.length) : l.map D.int ≠ [] := fun z => by
  rw [List.map_eq_nil_iff.mp z] at h
  exact absurd h (Nat.lt_irrefl _)
theorem three_at {k n1 n2 j : Nat} {d : D} (e : [D.int (k : Int), .int (n1 : Int), .int (n2 : Int)][j]? = some d) (h1 : n1 ≤ k) (h2 : n2 ≤ k) : ∃ n : Nat, d = .int (n : Int) ∧ n ≤ k := by
  have h := List.mem_of_getElem? e
  simp only [List.mem_cons, List.not_mem_nil, or_false] at h
  rcases h with rfl | rfl | rfl
  · exact ⟨k, rfl, Nat.le_refl _⟩
  · exact ⟨n1, rfl, h1⟩
  · exact ⟨n2, rfl, h2⟩
theorem wD_take (w : List Nat) (n : Nat) : wD (w.take n) = (wD w).take n := by simp [wD, nI]
theorem take_of {w : List Nat} {n : Nat} {y : D} (h : y ∈ [D.lst ((wD w).take (n : Int).toNat), .tup ((wD w).take (n : Int).toNat)]) : y = .tup (wD (w.take n)) ∨ y = .lst (wD (w.take n)) := by
  simp only [List.mem_cons, List.not_mem_nil, or_false] at h
  rw [wD_take]
  exact h.symm
theorem okW_prefix {R : Nat} {S : Sg} {w : List Nat} (ok : okW R S w) (n : Nat) : okW R S (w.take n) := by
  rw [← List.take_append_drop n w] at ok
  exact (okW_append.mp ok).1
theorem ok_lt {R : Nat} {rows : List Int} {w : List Nat} (o : Okp R rows) (ok : okW R (initS rows) w) : ∀ h ∈ w, h < rows.length := fun h hh => by
  obtain ⟨j, hj⟩ := List.getElem?_of_mem hh
  obtain ⟨p, hp⟩ := okW_take ok hj
  exact st_lt (wf_of o _) hp
theorem over_of {R n : Nat} {S : Sg} (w : Wf R n S) (h : canS S = []) : ∀ k < n, S.st[k]? = some none := fun k hk => by
  have hk' : k < S.st.length := by rw [w.ls]; exact hk
  cases q : S.st[k] with
  | none => rw [List.getElem?_eq_getElem hk', q]
  | some p =>
    have : k ∈ canS S := mem_canS.mpr ⟨p, by rw [List.getElem?_eq_getElem hk', q]⟩
    rw [h] at this
    cases this
theorem ble_self : ∀ n, Nat.ble n n = true
  | 0 => rfl
  | n + 1 => ble_self n
theorem plain_int (m : Nat) (i : Int) : plainD m (.int i) := by cases m <;> trivial
theorem plain_ints (m : Nat) {l : List Int} (h : l.length ≤ 1000) : plainD (m + 1) (.tup (l.map D.int)) := by
  refine ⟨by rw [List.length_map]; exact h, fun x hx => ?_⟩
  obtain ⟨i, _, rfl⟩ := List.mem_map.mp hx
  exact plain_int m i
theorem plain_wD (m : Nat) {w : List Nat} (h : w.length ≤ 1000) : plainD (m + 1) (.tup (wD w)) := plain_ints m (by unfold nI; rw [List.length_map]; exact h)
theorem plain_st (m : Nat) (o : HSt) : plainD (m + 1) (dSt o) := by
  cases o with
  | none => trivial
  | some p =>
    obtain ⟨r, t, b⟩ := p
    refine ⟨Nat.le_of_ble_eq_true rfl, fun x hx => ?_⟩
    simp only [List.mem_cons, List.not_mem_nil, or_false] at hx
    rcases hx with rfl | rfl | rfl
    · exact plain_int m _
    · exact plain_int m _
    · cases m <;> trivial
theorem plain_told (m R : Nat) {l : List Int} (h : l.length ≤ 1000) : plainD (m + 2) (dTold R l) := by
  refine ⟨by rw [List.length_map]; exact h, fun x hx => ?_⟩
  obtain ⟨t, _, rfl⟩ := List.mem_map.mp hx
  refine ⟨Nat.le_of_ble_eq_true rfl, fun x hx => ?_⟩
  simp only [List.mem_cons, List.not_mem_nil, or_false] at hx
  rcases hx with rfl | rfl
  · exact plain_int m _
  · exact plain_int m _
theorem wf_at {R n : Nat} {S : Sg} (w : Wf R n S) {h : Nat} (hh : h < n) : ∃ c l, S.cells[h]? = some c ∧ S.told[h]? = some l ∧ c.length ≤ R ∧ l.length ≤ 1 := by
  have hk' : h < S.st.length := by rw [w.ls]; exact hh
  cases q : S.st[h] with
  | none =>
    obtain ⟨⟨t, ht⟩, c, hc, hl⟩ := w.off h (by rw [List.getElem?_eq_getElem hk', q])
    exact ⟨c, [t], hc, ht, by omega, Nat.le_refl _⟩
  | some p =>
    obtain ⟨r, t, b⟩ := p
    obtain ⟨hr, ht, c, hc, hl⟩ := w.on h r t b (by rw [List.getElem?_eq_getElem hk', q])
    exact ⟨c, [], hc, ht, by have := Bool.toNat_le b; omega, Nat.zero_le _⟩
theorem plain_sg (m : Nat) {R n : Nat} {S : Sg} (w : Wf R n S) (hR : R ≤ 6) (hn : n ≤ 5) : plainD (m + 4) (dSg R S) := by
  have e1 := w.lc
  have e2 := w.ls
  have e3 := w.lt
  refine ⟨Nat.le_of_ble_eq_true rfl, fun x hx => ?_⟩
  simp only [List.mem_cons, List.not_mem_nil, or_false] at hx
  rcases hx with rfl | rfl | rfl
  · refine ⟨by rw [List.length_map]; omega, fun x hx => ?_⟩
    obtain ⟨c, hc, rfl⟩ := List.mem_map.mp hx
    obtain ⟨j, hj⟩ := List.getElem?_of_mem hc
    obtain ⟨c', l', h1, _, h3, _⟩ := wf_at w (h := j) (by have := (List.getElem?_eq_some_iff.mp hj).1; omega)
    rw [hj] at h1
    cases h1
    exact plain_ints (m + 1) (by omega)
  · refine ⟨by rw [List.length_map]; omega, fun x hx => ?_⟩
    obtain ⟨o, _, rfl⟩ := List.mem_map.mp hx
    exact plain_st (m + 1) o
  · refine ⟨by rw [List.length_map]; omega, fun x hx => ?_⟩
    obtain ⟨c, hc, rfl⟩ := List.mem_map.mp hx
    obtain ⟨j, hj⟩ := List.getElem?_of_mem hc
    obtain ⟨c', l', _, h1, _, h3⟩ := wf_at w (h := j) (by have := (List.getElem?_eq_some_iff.mp hj).1; omega)
    rw [hj] at h1
    cases h1
    exact plain_told m R (by omega)
theorem plain_word (m : Nat) (b : Bool) : plainD (m + 1) (dWord b) := by
  refine ⟨Nat.le_of_ble_eq_true rfl, fun x hx => ?_⟩
  rw [List.mem_singleton.mp hx]
  cases m <;> trivial
theorem plain_l1 {m : Nat} {x : D} (h : plainD m x) : plainD (m + 1) (.lst [x]) := ⟨by show 1 ≤ 1000; decide, fun y hy => by rw [List.mem_singleton.mp hy]; exact h⟩
theorem plain_l2 {m : Nat} {x y : D} (h : plainD m x) (h2 : plainD m y) : plainD (m + 1) (.lst [x, y]) := ⟨by show 2 ≤ 1000; decide, fun z hz => by
  simp only [List.mem_cons, List.not_mem_nil, or_false] at hz
  rcases hz with rfl | rfl
  · exact h
  · exact h2⟩
theorem plain_cases {m : Nat} {x : D} (h : plainD m x) : x = .non ∨ (∃ b, x = .bl b) ∨ (∃ i, x = .int i) ∨ (∃ s, x = .str s) ∨ (∃ m' l, m = m' + 1 ∧ x = .tup l ∧ l.length ≤ 1000 ∧ ∀ y ∈ l, plainD m' y) ∨ (∃ m' l, m = m' + 1 ∧ x = .lst l ∧ l.length ≤ 1000 ∧ ∀ y ∈ l, plainD m' y) := by
  cases x with
  | non => exact .inl rfl
  | bl b => exact .inr (.inl ⟨b, rfl⟩)
  | int i => exact .inr (.inr (.inl ⟨i, rfl⟩))
  | str s => exact .inr (.inr (.inr (.inl ⟨s, rfl⟩)))
  | tup l => cases m with
    | zero => exact h.elim
    | succ m' => exact .inr (.inr (.inr (.inr (.inl ⟨m', l, rfl, rfl, h.1, h.2⟩))))
  | lst l => cases m with
    | zero => exact h.elim
    | succ m' => exact .inr (.inr (.inr (.inr (.inr ⟨m', l, rfl, rfl, h.1, h.2⟩))))
  | hnd => cases m <;> exact h.elim
  | fnc a => cases m <;> exact h.elim
  | play i r => cases m <;> exact h.elim
end Op
/-! Mc: how often each hand steps. -/
namespace Op
open PySem PySem.Spec PyProof.Rows L2 Dl
def lf (R : Nat) (S : Sg) (j : Nat) : Nat := left1 R (S.st.getD j none)
theorem getD_set_ne {l : List HSt} {h j : Nat} {o : HSt} (n : h ≠ j) : (l.set h o).getD j none = l.getD j none := by
  rw [List.getD_eq_getElem?_getD, List.getD_eq_getElem?_getD, List.getElem?_set_ne n]
theorem getD_set_eq {l : List HSt} {h : Nat} {o : HSt} (n : h < l.length) : (l.set h o).getD h none = o := by
  rw [List.getD_eq_getElem?_getD, List.getElem?_set_self n]; rfl
theorem lf_step {R n h : Nat} {S : Sg} {p : Nat × Int × Bool} (w : Wf R n S) (e : S.st[h]? = some (some p)) : lf R (stepS R S h) h + 1 = lf R S h ∧ ∀ j, h ≠ j → lf R (stepS R S h) j = lf R S j := by
  obtain ⟨r, t, b⟩ := p
  obtain ⟨hr, _⟩ := w.on h r t b e
  have hl := (List.getElem?_eq_some_iff.mp e).1
  have e0 : S.st.getD h none = some (r, t, b) := by rw [List.getD_eq_getElem?_getD, e]; rfl
  unfold lf
  rw [e0]
  rcases cases3 b r R with rfl | ⟨rfl, hR⟩ | ⟨rfl, hR⟩
  · rw [stepA e]
    exact ⟨by rw [getD_set_eq hl]; simp [left1]; omega, fun j hj => by rw [getD_set_ne hj]⟩
  · rw [stepB e hR]
    exact ⟨by rw [getD_set_eq hl]; simp [left1]; omega, fun j hj => by rw [getD_set_ne hj]⟩
  · rw [stepC e hR]
    exact ⟨by rw [getD_set_eq hl]; simp [left1]; omega, fun j hj => by rw [getD_set_ne hj]⟩
theorem lf_run {R n : Nat} (j : Nat) : ∀ (w : List Nat) {S : Sg}, Wf R n S → okW R S w → lf R (runS R S w) j + w.count j = lf R S j
  | [], _, _, _ => rfl
  | h :: w, S, wf, ⟨⟨p, e⟩, ok⟩ => by
    have ih := lf_run j w (wf_step wf h) ok
    obtain ⟨h1, h2⟩ := lf_step wf e
    show lf R (runS R (stepS R S h) w) j + (h :: w).count j = _
    by_cases q : h = j
    · subst q
      rw [List.count_cons_self]
      omega
    · rw [List.count_cons_of_ne q, ih, h2 j q]
theorem cnt_le {R : Nat} {rows : List Int} {w : List Nat} (o : Okp R rows) (ok : okW R (initS rows) w) (j : Nat) : w.count j ≤ 2 * R ∧ (j < rows.length → (w.count j < 2 * R ↔ isOn ((runS R (initS rows) w).st.getD j none) = true)) := by
  have h := lf_run j w (wf_init (by have := o.r0; omega) rows) ok
  have wf := wf_of o w
  have h0 : lf R (initS rows) j ≤ 2 * R ∧ (j < rows.length → lf R (initS rows) j = 2 * R) := by
    unfold lf initS
    rw [List.getD_eq_getElem?_getD]
    by_cases q : j < rows.length
    · rw [mapGet (f := fun v => (some (0, v, false) : HSt)) (List.getElem?_eq_getElem q)]
      simp [left1]
    · rw [List.getElem?_eq_none (by simp; omega)]
      exact ⟨by simp [left1], fun z => absurd z q⟩
  refine ⟨by omega, fun q => ?_⟩
  have h1 := h0.2 q
  have hj : j < (runS R (initS rows) w).st.length := by rw [wf.ls]; exact q
  have hr : lf R (runS R (initS rows) w) j = left1 R ((runS R (initS rows) w).st.getD j none) := rfl
  rw [h1, hr] at h
  cases e : (runS R (initS rows) w).st.getD j none with
  | none =>
    rw [e] at h
    have e0 : left1 R none = 0 := rfl
    exact ⟨fun z => by omega, fun z => by cases z⟩
  | some p =>
    obtain ⟨r, t, b⟩ := p
    rw [e] at h
    rw [List.getD_eq_getElem?_getD, List.getElem?_eq_getElem hj] at e
    obtain ⟨hr, _⟩ := wf.on j r t b (by rw [List.getElem?_eq_getElem hj]; exact congrArg some e)
    have := Bool.toNat_le b
    have e0 : left1 R (some (r, t, b)) = 2 * (R - r) - b.toNat := rfl
    exact ⟨fun z => rfl, fun z => by omega⟩
theorem fm_congr {α β : Type} {f g : α → Option β} : ∀ {l : List α}, (∀ x ∈ l, f x = g x) → l.filterMap f = l.filterMap g
  | [], _ => rfl
  | x :: l, h => by rw [List.filterMap_cons, List.filterMap_cons, h x List.mem_cons_self, fm_congr fun y hy => h y (List.mem_cons_of_mem _ hy)]
def gEq (i : Int) : D → Option D
  | .int v => if v = i then some (.int v) else none
  | _ => none
theorem gEq_len (w : List Nat) (i : Nat) : ((wD w).filterMap (gEq i)).length = w.count i := by
  induction w with
  | nil => rfl
  | cons h w ih =>
    have e : wD (h :: w) = .int (h : Int) :: wD w := rfl
    rw [e, List.filterMap_cons]
    by_cases q : h = i
    · subst q
      rw [show gEq (h : Int) (.int (h : Int)) = some (.int (h : Int)) from if_pos rfl, List.count_cons_self]
      simp [ih]
    · rw [show gEq (i : Int) (.int (h : Int)) = none from if_neg (by omega), List.count_cons_of_ne q]
      exact ih
def gOver (R : Nat) (w : List Nat) : D → Option D
  | .int v => if w.count v.toNat < 2 * R then some (.int v) else none
  | _ => none
theorem gOver_map {R : Nat} {rows : List Int} {w : List Nat} (o : Okp R rows) (ok : okW R (initS rows) w) : (rangeD (rows.map D.int).length).filterMap (gOver R w) = wD (canS (runS R (initS rows) w)) := by
  rw [← gLeft_map (runS R (initS rows) w) (n := (rows.map D.int).length) (by rw [List.length_map, (wf_of o w).ls])]
  unfold rangeD
  rw [List.filterMap_map, List.filterMap_map]
  refine fm_congr fun j hj => ?_
  have hj2 : j < rows.length := by simpa using List.mem_range.mp hj
  have h := (cnt_le o ok j).2 hj2
  show (if w.count j < 2 * R then some (D.int (j : Int)) else none) = if isOn ((runS R (initS rows) w).st.getD j none) then some (D.int (j : Int)) else none
  by_cases q : w.count j < 2 * R
  · rw [if_pos q, if_pos (h.mp q)]
  · rw [if_neg q, if_neg (fun z => q (h.mpr z))]
theorem told_one {R n : Nat} {S : Sg} (w : Wf R n S) (over : ∀ h < n, S.st[h]? = some none) {j : Nat} {l : List Int} (e : S.told[j]? = some l) : ∃ t, l = [t] := by
  have hj : j < n := by
    have := (List.getElem?_eq_some_iff.mp e).1
    rw [w.lt] at this; exact this
  obtain ⟨⟨t, ht⟩, _⟩ := w.off j (over j hj)
  rw [e] at ht
  cases ht
  exact ⟨t, rfl⟩
end Op
/-! Pl: the play is made. -/
namespace Op
open PySem PySem.Spec PyProof.Rows L2 Dl
def initSt : Stmt := match topS 39 with
  | .ClassDef _ _ _ (s :: _) _ _ _ _ _ _ _ => s
  | s => s
theorem sc_init : FnScope ["self", "kind", "inputs"] ["self", "kind", "inputs"] (defScope initSt) := ⟨rfl, rfl, rfl, by decide +kernel, rfl, by decide +kernel, by decide +kernel⟩
section
variable {gl : Glob} {f : Addr} {fd : FuncData}
/-- the play's object is made of: H1 is the heap ahead of it -/
def spInit (gl : Glob) : Sp := fun vs H Q _ => ∃ (W : Option Addr) (A0 : Addr → Prop) (R : Nat) (rows : List Int) (x dx : Addr) (H1 : Hp) (vk vi : V), vs = [.ref x, vk, vi] ∧ H1 x = none ∧ H1 dx = none ∧ dx ≠ x ∧ H = upd (upd H1 dx (.own x)) x (.ins gl.C dx []) ∧
  Rep gl.K gl.C W A0 H1 vk (.str "near") ∧ Rep gl.K gl.C W A0 H1 vi (dIn R rows) ∧ (∀ b, A0 b → ∃ o, H1 b = some o) ∧ (∀ p, W = some p → HandAt gl.K A0 H1 p) ∧ Okp R rows ∧
  ∀ H', Kp W H1 H' → Rep gl.K gl.C W A0 H' (.ref x) (dPlay R rows) → (∀ p, W = some p → HandAt gl.K A0 H' p) → Q .non H'
theorem HandAt.ins {K : PySem.W.Frag} {A0 : Addr → Prop} {H : Hp} {x p C dx : Addr} {fs fs' : List (Str × V)} (h : HandAt K A0 H p) (hx : H x = some (.ins C dx fs)) : HandAt K A0 (upd H x (.ins C dx fs')) p := by
  obtain ⟨c, ns, i, a, b, d, h1, h2, h3⟩ := h
  have hp : p ≠ x := fun z => by rw [z, hx] at h1; cases h1
  refine ⟨c, ns, i, a, b, d, by rw [upd_ne hp]; exact h1, ?_, h3⟩
  rcases h2 with ⟨h2, n1, n2⟩ | h2
  · refine .inl ⟨?_, n1, n2⟩
    rcases h2 with h2 | ⟨o, h2⟩
    · have hc : c ≠ x := fun z => by rw [z, hx] at h2; cases h2
      exact .inl (by rw [upd_ne hc]; exact h2)
    · have hc : c ≠ x := fun z => by rw [z, hx] at h2; cases h2
      exact .inr ⟨o, by rw [upd_ne hc]; exact h2⟩
  · exact .inr h2
theorem Kp.ins {W : Option Addr} {H1 H : Hp} {x : Addr} {o : HO} (k : Kp W H1 H) (hx : H1 x = none) : Kp W H1 (upd H x o) := fun b u e => by
  have hb : b ≠ x := fun z => by rw [z, hx] at e; cases e
  rw [upd_ne hb]
  exact k b u e
theorem kp_ins {W : Option Addr} {H H' : Hp} {x C dx : Addr} {fs : List (Str × V)} (k : Kp W H H') (hx : H x = some (.ins C dx fs)) : H' x = some (.ins C dx fs) := by
  rcases k x _ hx with z | ⟨_, ⟨xs, z⟩, _⟩
  · exact z
  · cases z
theorem rows_ins {K : PySem.W.Frag} {C0 : Addr} {W : Option Addr} {av av' : Addr → Prop} {H : Hp} {x C dx : Addr} {fs : List (Str × V)} {o : HO} {v : V} {l : List Int} (hx : H x = some (.ins C dx fs)) (r : Rep K C0 W av H v (dRows l)) : Rep K C0 W av' (upd H x o) v (dRows l) := by
  have intsR : ∀ (l : List Int) (vs : List V), RepAll K C0 W av H vs (l.map D.int) → RepAll K C0 W av' (upd H x o) vs (l.map D.int) := by
    intro l
    induction l with
    | nil => intro vs r; cases r; exact .nil
    | cons i l ih =>
      intro vs r
      cases r with
      | cons r1 rs =>
        cases r1
        exact .cons (.int i) (ih _ rs)
  cases r with
  | tup t rs =>
    refine .tup ?_ (intsR _ _ rs)
    rcases t with t | t
    · refine .inl ?_
      rcases t with t | ⟨q, t⟩
      · exact .inl (by rw [upd_ne (fun z => by rw [z, hx] at t; cases t)]; exact t)
      · exact .inr ⟨q, by rw [upd_ne (fun z => by rw [z, hx] at t; cases t)]; exact t⟩
    · exact .inr t
theorem ok_init (F : FunD gl.K "__init__" "Play.__init__" (defArgs initSt) (defBody initSt) (defScope initSt) [] [] f fd) (T : Txt gl) (C_are_inputs : Cal gl 5 "are_inputs" 2 sp_are_inputs) : FnOk gl.P gl.w gl.K gl.mg gl.base CX0 7 f fd ["self", "kind", "inputs"] (spInit gl) := by
  refine F.ok sc_init (fun vs H Q E h => ?_) (fun cdv A outer s H vs Q E hr h => ?_)
  · obtain ⟨W, A0, R, rows, x, dx, H1, vk, vi, rfl, _⟩ := h
    rfl
  · obtain ⟨W, A0, R, rows, x, dx, H1, vk, vi, rfl, hx, hdx, hdn, rfl, rk, ri, ha, hh, op, q⟩ := h
    have hX := in_cx (gl := gl) (qual := "Play.__init__") (f := f) (cdv := cdv) (A := A) (outer := outer) (s := s) (H := upd (upd H1 dx (.own x)) x (.ins gl.C dx [])) (E := E) (k := 6) sc_init.nd hr
    have pv : ∀ (i : Nat) (y : Str) (p : Pos), (["self", "kind", "inputs"] : List Str)[i]? = some y → visB (defScope initSt) y = true → okN y = true → PE (cxOf CX0 gl.P gl.w gl.K gl.mg gl.base _ "Play.__init__" (defScope initSt) f cdv A outer s (upd (upd H1 dx (.own x)) x (.ins gl.C dx [])) E).nox (.Name y p) (tVar i) := fun i y p e1 e2 e3 => pe_var (hX.name (i := i) e1) (hX.vis e2) (okN1 e3) (okN2 e3)
    have hs1 : Same H1 (upd (upd H1 dx (.own x)) x (.ins gl.C dx [])) := fun b o e => by
      have n1 : b ≠ x := fun z => by rw [z, hx] at e; cases e
      have n2 : b ≠ dx := fun z => by rw [z, hdx] at e; cases e
      rw [upd_ne n1, upd_ne n2]; exact e
    have k0 : Kp W H1 (upd (upd H1 dx (.own x)) x (.ins gl.C dx [])) := Kq.of_same hs1
    have mk : ∀ H', Kp W H1 H' → (∀ p, W = some p → HandAt gl.K A0 H' p) → EnvOk (cfg gl ["self", "kind", "inputs"] (defScope initSt) 6 W A0) [(H', fun _ => False)] (start ["self", "kind", "inputs"] [.ref x, vk, vi]) H' (startD ["self", "kind", "inputs"] [.fnc x, .str "near", dIn R rows]) := fun H' k h => by
      refine start_env (.cons (.fnc x) (.cons (Rep.kq (Kq.of_kp k) _ _ rk) (.cons (Rep.kq (Kq.of_kp k) _ _ ri) .nil))) (fun b hb => ?_) h
      obtain ⟨o, e⟩ := ha b hb
      exact Kq.there k e
    have av0 : ∀ b, (cfg gl ["self", "kind", "inputs"] (defScope initSt) 6 W A0).av (startD ["self", "kind", "inputs"] [.fnc x, .str "near", dIn R rows]) b → A0 b := fun b hb => by
      rcases hb with hb | hb
      · exact hb
      · obtain ⟨i, l, e⟩ := ows_at hb
        have := List.mem_of_getElem? e
        simp [startD] at this
    have unav : ∀ {H' : Hp} {p : Addr}, HandAt gl.K ((cfg gl ["self", "kind", "inputs"] (defScope initSt) 6 W A0).av (startD ["self", "kind", "inputs"] [.fnc x, .str "near", dIn R rows])) H' p → HandAt gl.K A0 H' p := fun h => h.avs fun b hb => .inl (.inl hb)
    refine ⟨_, PSs.nox (pss_cons (ps_if (hX.pt _) (hX.pss _) pss_nil) (pss_cons (ps_if (hX.pt _) (hX.pss _) pss_nil) (pss_cons (ps_fld (pv 0 _ _ (by kernel_rfl) (by kernel_rfl) (by kernel_rfl)) (pv 1 _ _ (by kernel_rfl) (by kernel_rfl) (by kernel_rfl)) (hX.sw2 (by kernel_rfl))) (pss_cons (ps_fld (pv 0 _ _ (by kernel_rfl) (by kernel_rfl) (by kernel_rfl)) (pv 2 _ _ (by kernel_rfl) (by kernel_rfl) (by kernel_rfl)) (hX.sw2 (by kernel_rfl))) (pss_one (ps_fld (pv 0 _ _ (by kernel_rfl) (by kernel_rfl) (by kernel_rfl)) (hX.pe _) (hX.sw2 (by kernel_rfl)))))))), ?_⟩
    refine DT.run (Q := fun b => b = false) (c := cfg gl ["self", "kind", "inputs"] (defScope initSt) 6 W A0) (ρ := startD ["self", "kind", "inputs"] [.fnc x, .str "near", dIn R rows]) ?t1 _ _ _ (mk _ k0 fun p hp => (hh p hp).kq hs1) _ fun b H2 env2 kp2 hb => ?_
    case t1 =>
      refine dt_or2 ?_
      refine dt_not ?_
      refine dt_val ?_
      refine de_isi (T := "str") T.isinstance T.str (by decide +kernel) ?_
      refine de_v 1 rfl ?_
      refine ⟨_, true, rfl, by decide +kernel, ?_⟩
      refine ifF rfl ?_
      refine dt_cmp ?_
      refine dc_notIn ?_
      refine de_v 1 rfl ?_
      refine de_cat ?_
      refine de_g T.MANNERS ?_
      refine de_tup ?_
      refine da_cons ?_
      refine de_g T.LEVELS ?_
      refine da_cons ?_
      refine de_g T.NAMES ?_
      refine da_cons ?_
      refine de_g T.NEAR ?_
      refine da_cons ?_
      refine de_g T.CHAIN ?_
      refine da_nil ?_
      refine ⟨Nat.le_of_ble_eq_true rfl, ?_⟩
      refine ⟨Nat.le_of_ble_eq_true rfl, ?_⟩
      refine ⟨_, .inr ⟨_, ["sweep", "twice", "borrow", "levels", "names", "near", "chain"], rfl, .inl rfl, rfl⟩, ?_⟩
      decide +kernel
    subst hb
    have x2 := kp_ins kp2 upd_same
    refine DT.run (Q := fun b => b = false) (c := cfg gl ["self", "kind", "inputs"] (defScope initSt) 6 W A0) (ρ := startD ["self", "kind", "inputs"] [.fnc x, .str "near", dIn R rows]) ?t2 _ _ _ env2 _ fun b H3 env3 kp3 hb => ?_
    case t2 =>
      refine dt_not ?_
      refine dt_val ?_
      refine de_call C_are_inputs ?_
      refine da_cons ?_
      refine de_v 1 rfl ?_
      refine da_cons ?_
      refine de_v 2 rfl ?_
      refine da_nil ?_
      exact ⟨rfl, R, rows, rfl, op, rfl⟩
    subst hb
    have x3 := kp_ins kp3 x2
    have k3 : Kp W H1 H3 := (k0.trans kp2).trans kp3
    have h3 : ∀ p, W = some p → HandAt gl.K A0 H3 p := fun p hp => unav (env3.hand p hp)
    have evk : vk = .str "near" := by cases rk; rfl
    subst evk
    refine ⟨_, rfl, _, rfl, x, gl.C, dx, [], rfl, x3, T.play.cl, T.play.kind, by decide, ?_⟩
    have k4 := Kp.ins (o := .ins gl.C dx (putF "kind" (.str "near") [])) k3 hx
    have h4 : ∀ p, W = some p → HandAt gl.K A0 (upd H3 x (.ins gl.C dx (putF "kind" (.str "near") []))) p := fun p hp => HandAt.ins (h3 p hp) x3
    refine ⟨_, rfl, _, rfl, x, gl.C, dx, putF "kind" (.str "near") [], rfl, upd_same, T.play.cl, T.play.inputs, by decide, ?_⟩
    have k5 := Kp.ins (o := .ins gl.C dx (putF "inputs" vi (putF "kind" (.str "near") []))) k4 hx
    have h5 : ∀ p, W = some p → HandAt gl.K A0 _ p := fun p hp => HandAt.ins (h4 p hp) (fs' := putF "inputs" vi (putF "kind" (.str "near") [])) upd_same
    refine DE.run (Q := fun d => d = dRows rows) (c := cfg gl ["self", "kind", "inputs"] (defScope initSt) 6 W A0) (ρ := startD ["self", "kind", "inputs"] [.fnc x, .str "near", dIn R rows]) ?t3 _ _ _ (mk _ k5 h5) _ fun v H6 d env6 kp6 r6 hd => ?_
    case t3 =>
      refine de_if ?_
      refine dt_cmp ?_
      refine dc_eq ?_
      refine de_v 1 rfl ?_
      refine de_g T.NEAR ?_
      refine ⟨_, rfl, ?_⟩
      refine ifT rfl ?_
      refine de_ix ?_
      refine de_v 2 rfl ?_
      refine de_int ?_
      exact ⟨_, rfl, rfl⟩
    subst hd
    have x6 := kp_ins kp6 upd_same
    refine ⟨_, rfl, x, gl.C, dx, _, rfl, x6, T.play.cl, T.play.rows, by show 2 < 1000; decide, ?_⟩
    have k6 : Kp W H1 H6 := k5.trans kp6
    have k7 := Kp.ins (o := .ins gl.C dx (putF "rows" v (putF "inputs" vi (putF "kind" (.str "near") [])))) k6 hx
    exact q _ k7 (.play upd_same (Rep.kq (Kq.of_kp k7) _ _ ri) (rows_ins x6 r6)) fun p hp => HandAt.ins (unav (env6.hand p hp)) x6
end
theorem de_make {c : Cf} {ρ : List Sl} {Q : D → Prop} {e : Expr} {es : List Expr} {p1 pos : Pos} {fi : Addr} {fdi : FuncData} (M : Mk c.g.gl.K c.g.gl.C fi) (F : FnOk c.g.gl.P c.g.gl.w c.g.gl.K c.g.gl.mg c.g.gl.base CX0 7 fi fdi ["self", "kind", "inputs"] (spInit c.g.gl)) (hm : c.g.gl.mg "Play" = some (.ref c.g.gl.C)) (hb : Binds c.g.gl.K fdi ["self", "kind", "inputs"] [])
    (h : DA c (e :: es) ρ fun ds => ∃ (R : Nat) (rows : List Int), ds = [.str "near", dIn R rows] ∧ Okp R rows ∧ Q (dPlay R rows)) (hj : Nat.ble 8 c.g.k = true := by rfl) (hv : glB c.g.sc "Play" = true := by kernel_rfl)
    (he : ∀ env, starEach (e :: es) env = (false, eval e env) :: starEach es env := by intro _; rfl) (hpl : ∀ env, (backTo pos (starEach es env)).any (·.1) = false := by intro _; rfl) : DE c (.Call (.Name "Play" p1) (e :: es) [] pos) ρ Q :=
  DE.of fun X hX => ⟨_, pe_make (by rw [hX.K]; exact M) (hX.fn' F) (hX.room.mono (Nat.le_of_ble_eq_true hj)) (hX.gl' hv) (hX.mgn hm) (by rw [hX.K]; exact hb) .nil Passes0 (hX.pa (e :: es)) (by decide) (he _) (hpl _), fun cps σ H env Q' k => h.run cps σ H env _ fun vs H1 ds env1 k1 r1 ⟨R, rows, e1, op, q⟩ x dx hx hdx hn => by
    subst e1
    cases r1 with
    | cons rk rs =>
      cases rs with
      | cons ri rs =>
        cases rs
        exact ⟨c.W, c.av ρ, R, rows, x, dx, H1, _, _, rfl, hx, hdx, hn, rfl, rk, ri, env1.avt, env1.hand, op, fun H' kk rep hh => ⟨rfl, k _ H' _ (env1.kp' kk hh) (k1.trans kk) rep q⟩⟩⟩
end Op
/-! Lh: the law's hand is made. -/
namespace Op
open PySem PySem.Spec PyProof.Rows L2 Dl
section
variable {gl : Glob} {f : Addr} {fd : FuncData}
abbrev s_law_hand : Stmt := topS 112
theorem sc_law_hand : FnScope ["_law_script", "_law_cells", "_law_cell"] ["_law_script"] (defScope s_law_hand) := ⟨rfl, rfl, rfl, by decide +kernel, rfl, by decide +kernel, by decide +kernel⟩
def spLawHand (gl : Glob) : Sp := fun vs H Q _ => ∃ (a : Addr) (ns : List Int), vs = [.ref a] ∧ SqL gl.K H a (ns.map V.int) ∧ ∀ H' p, Same H H' → HandAt gl.K (fun _ => False) H' p → Q (.ref p) H'
theorem repAll_ints {K : PySem.W.Frag} {C : Addr} {W : Option Addr} {av : Addr → Prop} {H : Hp} : ∀ (l : List Int), RepAll K C W av H (l.map V.int) (l.map D.int)
  | [] => .nil
  | i :: l => .cons (.int i) (repAll_ints l)
theorem ints_repAll {K : PySem.W.Frag} {C : Addr} {W : Option Addr} {av : Addr → Prop} {H : Hp} : ∀ {l : List Int} {vs : List V}, RepAll K C W av H vs (l.map D.int) → vs = l.map V.int
  | [], _, r => by cases r; rfl
  | i :: l, _, r => by
    cases r with
    | cons r1 rs =>
      cases r1
      rw [ints_repAll rs]
      rfl
theorem same_of {av : Addr → Prop} {H H' : Hp} (k : Kq none (fun _ => False) H H') : Same H H' := fun b o e => by
  rcases k b o e with z | ⟨z | z, _⟩
  · exact z
  · cases z
  · exact z.elim
theorem rep_lst {K : PySem.W.Frag} {C : Addr} {W : Option Addr} {av : Addr → Prop} {H : Hp} {v : V} {l : List Int} (r : Rep K C W av H v (.lst (l.map D.int))) : ∃ c, v = .ref c ∧ LsAt K W av H c (l.map V.int) := by
  cases r with
  | lst hl hr =>
    have e := ints_repAll hr
    subst e
    exact ⟨_, rfl, hl⟩
theorem five {K : PySem.W.Frag} {C : Addr} {W : Option Addr} {av : Addr → Prop} {H : Hp} {vs : List V} {l : List Int} {a b c d : Int} (rs : RepAll K C W av H vs [.lst (l.map D.int), .int a, .int b, .int c, .int d]) : ∃ p, vs = [.ref p, .int a, .int b, .int c, .int d] ∧ LsAt K W av H p (l.map V.int) := by
  cases rs with
  | cons r1 rs =>
    obtain ⟨p, rfl, hl⟩ := rep_lst r1
    cases rs with
    | cons r2 rs =>
      cases r2
      cases rs with
      | cons r3 rs =>
        cases r3
        cases rs with
        | cons r4 rs =>
          cases r4
          cases rs with
          | cons r5 rs =>
            cases r5
            cases rs
            exact ⟨p, rfl, hl⟩
theorem ok_law_hand (F : FnP gl.K "_law_hand" "_law_hand" s_law_hand f fd) (T : Txt gl) : FnOk gl.P gl.w gl.K gl.mg gl.base CX0 1 f fd ["_law_script"] (spLawHand gl) := by
  refine F.ok sc_law_hand (fun vs H Q E h => ?_) (fun cdv A outer s H vs Q E hr h => ?_)
  · obtain ⟨a, ns, rfl, _⟩ := h
    rfl
  · obtain ⟨a, ns, rfl, hS, q⟩ := h
    have hX := in_cx (gl := gl) (qual := "_law_hand") (f := f) (cdv := cdv) (A := A) (outer := outer) (s := s) (H := H) (E := E) (k := 0) sc_law_hand.nd hr
    have r0 : Rep gl.K gl.C none (fun _ => False) H (.ref a) (.lst (ns.map D.int)) := .lst (by
      rcases hS with hS | hS
      · exact .inl ⟨hS, (fun z => by cases z), fun z => z⟩
      · exact .inr hS) (repAll_ints ns)
    have env0 := start_env (gl := gl) (N := ["_law_script", "_law_cells", "_law_cell"]) (sc := defScope s_law_hand) (k := 0) (.cons r0 .nil) (fun b z => z.elim) (fun p z => by cases z)
    refine ⟨_, PSs.nox (pss_cons (hX.ps _) (pss_one (ps_ret (pe_lst (hX.pa _))))), ?_⟩
    refine DS.run (E := { nx := fun ρ => ∃ ms : List Int, ρ = [.dat (.lst (ns.map D.int)), .dat (.lst (ms.map D.int)), .non], rt := fun _ => False }) (c := cfg gl ["_law_script", "_law_cells", "_law_cell"] (defScope s_law_hand) 0 none (fun _ => False)) (ρ := startD ["_law_script", "_law_cells", "_law_cell"] [.lst (ns.map D.int)]) ?s1 _ _ _ env0 _ ⟨fun σ2 H2 ρ2 env2 hρ => ?_, fun _ _ _ _ z => z.elim, fun _ _ _ _ z => z.elim, fun _ _ _ _ z => z.elim⟩
    case s1 =>
      refine ds_setLc 1 2 ?_
      refine di_lst ?_
      refine de_toL ?_
      refine de_v 0 rfl ?_
      refine de_int ?_
      refine ⟨by decide, ?_⟩
      refine ⟨by rw [List.length_take]; exact Nat.le_trans (Nat.min_le_left _ _) (Nat.le_of_ble_eq_true rfl), fun j acc => ∃ l : List Int, acc = l.map D.int, ⟨[], rfl⟩, fun A j acc d hI hd => ?_, fun acc hI => ?_⟩
      · obtain ⟨l, rfl⟩ := hI
        rw [← List.map_take] at hd
        obtain ⟨x, _, rfl⟩ := mapAt hd
        refine df_nil ?_
        refine ifT rfl ?_
        refine de_absOf T.abs ?_
        refine de_intOf T.int ?_
        refine de_v 2 rfl ?_
        exact fun z => ⟨l ++ [z], by rw [List.map_append]; rfl⟩
      · obtain ⟨l, rfl⟩ := hI
        exact ⟨l, rfl⟩
    obtain ⟨ms, rfl⟩ := hρ
    refine DA.run (Q := fun ds => ds = [.lst (ms.map D.int), .int 0, .int 0, .int (1 + ((ms.map D.int).length : Int)), .int 0]) (c := cfg gl ["_law_script", "_law_cells", "_law_cell"] (defScope s_law_hand) 0 none (fun _ => False)) (ρ := [.dat (.lst (ns.map D.int)), .dat (.lst (ms.map D.int)), .non]) ?s2 _ _ _ env2 _ fun vs H3 ds env3 kp3 rs hds => ?_
    case s2 =>
      refine da_cons ?_
      refine de_v 1 rfl ?_
      refine da_cons ?_
      refine de_int ?_
      refine da_cons ?_
      refine de_int ?_
      refine da_cons ?_
      refine de_add ?_
      refine de_int ?_
      refine de_len T.len ?_
      refine de_v 1 rfl ?_
      refine da_cons ?_
      refine de_int ?_
      refine da_nil ?_
      rfl
    subst hds
    obtain ⟨c, e, hl⟩ := five rs
    subst e
    · refine ⟨by show 5 ≤ sizeLine; decide, fun p hp => ?_⟩
      have k3 := env3.kp _ List.mem_cons_self
      have s3 : Same H H3 := same_of (av := fun _ => False) k3
      refine q _ p (fun b o e => by
        have := s3 b o e
        rw [upd_ne (fun z => by rw [z, hp] at this; cases this)]; exact this) ⟨c, ms, 0, 0, _, 0, upd_same, ?_, Int.le_refl _⟩
      rcases hl with ⟨h1, _, _⟩ | h1
      · have hc : c ≠ p := fun z => by
          rcases h1 with h1 | ⟨o, h1⟩
          · rw [z, hp] at h1; cases h1
          · rw [z, hp] at h1; cases h1
        refine .inl ⟨?_, fun z => hc (Option.some.inj z).symm, fun z => z⟩
        rcases h1 with h1 | ⟨o, h1⟩
        · exact .inl (by rw [upd_ne hc]; exact h1)
        · exact .inr ⟨o, by rw [upd_ne hc]; exact h1⟩
      · exact .inr h1
end
end Op
namespace Op
open PySem PySem.Spec PyProof.Rows L2 Dl
section
variable {gl : Glob} {f : Addr} {fd : FuncData}
abbrev s_is_integer : Stmt := topS 9
theorem sc_is_integer : FnScope ["thing"] ["thing"] (defScope s_is_integer) := ⟨rfl, rfl, rfl, by decide +kernel, rfl, by decide +kernel, by decide +kernel⟩
theorem c_is_integer (F : FnP gl.K "is_integer" "is_integer" s_is_integer f fd) (hm : gl.mg "is_integer" = some (.ref f)) (T : Txt gl) : Cal gl 1 "is_integer" 1 sp_is_integer := by
  refine cal_d F hm sc_is_integer rfl (fun _ _ _ _ _ _ us hl => match us, hl with | [_], _ => rfl) fun W A0 ds post hl hs => ?_
  obtain ⟨i, rfl, q⟩ := hs
  refine dss_cons ?_
  refine ds_ret ?_
  refine de_and ?_
  refine de_isi (T := "int") T.isinstance T.int (by decide +kernel) ?_
  refine de_v 0 rfl ?_  -- thing
  refine ⟨_, true, rfl, by decide +kernel, ?_⟩
  refine ifT rfl ?_
  refine de_one ?_
  refine de_not ?_
  refine de_isi (T := "bool") T.isinstance T.bool (by decide +kernel) ?_
  refine de_v 0 rfl ?_  -- thing
  exact ⟨_, false, rfl, by decide +kernel, q⟩
abbrev s_is_within : Stmt := topS 10
theorem sc_is_within : FnScope ["thing", "least", "most"] ["thing", "least", "most"] (defScope s_is_within) := ⟨rfl, rfl, rfl, by decide +kernel, rfl, by decide +kernel, by decide +kernel⟩
theorem c_is_within (F : FnP gl.K "is_within" "is_within" s_is_within f fd) (hm : gl.mg "is_within" = some (.ref f)) (C_is_integer : Cal gl 1 "is_integer" 1 sp_is_integer) : Cal gl 2 "is_within" 3 sp_is_within := by
  refine cal_d F hm sc_is_within rfl (fun _ _ _ _ _ _ us hl => match us, hl with | [_, _, _], _ => rfl) fun W A0 ds post hl hs => ?_
  obtain ⟨i, a, b, rfl, q⟩ := hs
  refine dss_cons ?_
  refine ds_ret ?_
  refine de_and ?_
  refine de_call C_is_integer ?_
  refine da_cons ?_
  refine de_v 0 rfl ?_  -- thing
  refine da_nil ?_
  refine ⟨rfl, _, rfl, ?_⟩
  refine ifT rfl ?_
  refine de_one ?_
  refine de_chain ?_
  refine de_v 1 rfl ?_  -- least
  refine de_v 0 rfl ?_  -- thing
  refine ifp (fun h => ?_) (fun h => ?_)
  · refine de_v 2 rfl ?_  -- most
    show post _
    rw [show decide (i ≤ b) = decide (a ≤ i ∧ i ≤ b) by simp [h]]
    exact q
  · show post _
    rw [show false = decide (a ≤ i ∧ i ≤ b) by simp [h]]
    exact q
end
end Op
namespace Op
open PySem PySem.Spec PyProof.Rows L2 Dl
section
variable {gl : Glob} {f : Addr} {fd : FuncData}
abbrev s_is_below : Stmt := topS 11
theorem sc_is_below : FnScope ["thing", "many"] ["thing", "many"] (defScope s_is_below) := ⟨rfl, rfl, rfl, by decide +kernel, rfl, by decide +kernel, by decide +kernel⟩
theorem c_is_below (F : FnP gl.K "is_below" "is_below" s_is_below f fd) (hm : gl.mg "is_below" = some (.ref f)) (T : Txt gl) (C_is_within : Cal gl 2 "is_within" 3 (sp_is_within)) : Cal gl 3 "is_below" 2 (sp_is_below) := by
  refine cal_d F hm sc_is_below rfl (fun _ _ _ _ _ _ us hl => match us, hl with | [_, _], _ => rfl) fun W A0 ds post hl hs => ?_
  obtain ⟨i, n, rfl, q⟩ := hs
  refine dss_cons ?_
  refine ds_ret ?_
  refine de_call C_is_within ?_
  refine da_cons ?_
  refine de_v 0 rfl ?_  -- thing
  refine da_cons ?_
  refine de_int ?_  -- 0
  refine da_cons ?_
  refine de_sub ?_
  refine de_v 1 rfl ?_  -- many
  refine de_int ?_  -- 1
  refine da_nil ?_
  refine ⟨rfl, i, 0, n - 1, rfl, ?_⟩
  rw [show decide ((0 : Int) ≤ i ∧ i ≤ n - 1) = decide (0 ≤ i ∧ i < n) from decide_eq_decide.mpr (by omega)]
  exact q
abbrev s_is_sized : Stmt := topS 12
theorem sc_is_sized : FnScope ["thing", "least", "most"] ["thing", "least", "most"] (defScope s_is_sized) := ⟨rfl, rfl, rfl, by decide +kernel, rfl, by decide +kernel, by decide +kernel⟩
theorem c_is_sized (F : FnP gl.K "is_sized" "is_sized" s_is_sized f fd) (hm : gl.mg "is_sized" = some (.ref f)) (T : Txt gl) : Cal gl 1 "is_sized" 3 (sp_is_sized) := by
  refine cal_d F hm sc_is_sized rfl (fun _ _ _ _ _ _ us hl => match us, hl with | [_, _, _], _ => rfl) fun W A0 ds post hl hs => ?_
  obtain ⟨l, a, b, rfl, q⟩ := hs
  refine dss_cons ?_
  refine ds_ret ?_
  refine de_and ?_
  refine de_isi (T := "tuple") T.isinstance T.tuple (by decide +kernel) ?_
  refine de_v 0 rfl ?_  -- thing
  refine ⟨_, true, rfl, by decide +kernel, ?_⟩
  refine ifT (rfl) ?_
  refine de_one ?_
  refine de_chain ?_
  refine de_v 1 rfl ?_  -- least
  refine de_len T.len ?_
  refine de_v 0 rfl ?_  -- thing
  refine ifp (fun h => ?_) (fun h => ?_)
  · refine de_v 2 rfl ?_  -- most
    show post _
    rw [show decide ((l.length : Int) ≤ b) = decide (a ≤ (l.length : Int) ∧ (l.length : Int) ≤ b) by simp [h]]
    exact q
  · show post _
    rw [show false = decide (a ≤ (l.length : Int) ∧ (l.length : Int) ≤ b) by simp [h]]
    exact q
abbrev s_is_pair : Stmt := topS 13
theorem sc_is_pair : FnScope ["thing"] ["thing"] (defScope s_is_pair) := ⟨rfl, rfl, rfl, by decide +kernel, rfl, by decide +kernel, by decide +kernel⟩
theorem c_is_pair (F : FnP gl.K "is_pair" "is_pair" s_is_pair f fd) (hm : gl.mg "is_pair" = some (.ref f)) (T : Txt gl) (C_is_sized : Cal gl 1 "is_sized" 3 (sp_is_sized)) : Cal gl 2 "is_pair" 1 (sp_is_pair) := by
  refine cal_d F hm sc_is_pair rfl (fun _ _ _ _ _ _ us hl => match us, hl with | [_], _ => rfl) fun W A0 ds post hl hs => ?_
  obtain ⟨x, y, rfl, q⟩ := hs
  refine dss_cons ?_
  refine ds_ret ?_
  refine de_call C_is_sized ?_
  refine da_cons ?_
  refine de_v 0 rfl ?_  -- thing
  refine da_cons ?_
  refine de_int ?_  -- 2
  refine da_cons ?_
  refine de_int ?_  -- 2
  refine da_nil ?_
  refine ⟨rfl, [x, y], 2, 2, rfl, ?_⟩
  exact q
abbrev s_replaced : Stmt := topS 15
theorem sc_replaced : FnScope ["items", "number", "item"] ["items", "number", "item"] (defScope s_replaced) := ⟨rfl, rfl, rfl, by decide +kernel, rfl, by decide +kernel, by decide +kernel⟩
theorem c_replaced (F : FnP gl.K "replaced" "replaced" s_replaced f fd) (hm : gl.mg "replaced" = some (.ref f)) (T : Txt gl) : Cal gl 1 "replaced" 3 (sp_replaced) := by
  refine cal_d F hm sc_replaced rfl (fun _ _ _ _ _ _ us hl => match us, hl with | [_, _, _], _ => rfl) fun W A0 ds post hl hs => ?_
  obtain ⟨l, n, x, rfl, h1, h2, q⟩ := hs
  refine dss_cons ?_
  refine ds_ret ?_
  refine de_cat ?_
  refine de_cat ?_
  refine de_toT ?_
  refine de_v 0 rfl ?_  -- items
  refine de_v 1 rfl ?_  -- number
  refine ⟨Int.natCast_nonneg n, ?_⟩
  refine de_tup ?_
  refine da_cons ?_
  refine de_v 2 rfl ?_  -- item
  refine da_nil ?_
  refine ⟨Nat.le_of_ble_eq_true rfl, ?_⟩
  refine ⟨by simp; omega, ?_⟩
  refine de_fromT ?_
  refine de_v 0 rfl ?_  -- items
  refine de_add ?_
  refine de_v 1 rfl ?_  -- number
  refine de_int ?_  -- 1
  refine ⟨by omega, ?_⟩
  refine ⟨by simp; omega, ?_⟩
  show post _
  rw [show ((n : Int) + 1).toNat = n + 1 by omega, show ((n : Nat) : Int).toNat = n from rfl, show List.take n l ++ [x] ++ List.drop (n + 1) l = l.set n x by rw [List.set_eq_take_append_cons_drop, if_pos h1, List.append_assoc]; rfl]
  exact q
abbrev s_is_near_value : Stmt := topS 35
theorem sc_is_near_value : FnScope ["thing"] ["thing"] (defScope s_is_near_value) := ⟨rfl, rfl, rfl, by decide +kernel, rfl, by decide +kernel, by decide +kernel⟩
theorem c_is_near_value (F : FnP gl.K "is_near_value" "is_near_value" s_is_near_value f fd) (hm : gl.mg "is_near_value" = some (.ref f)) (T : Txt gl) (C_is_within : Cal gl 2 "is_within" 3 (sp_is_within)) : Cal gl 3 "is_near_value" 1 (sp_is_near_value) := by
  refine cal_d F hm sc_is_near_value rfl (fun _ _ _ _ _ _ us hl => match us, hl with | [_], _ => rfl) fun W A0 ds post hl hs => ?_
  obtain ⟨i, rfl, h1, h2, q⟩ := hs
  refine dss_cons ?_
  refine ds_ret ?_
  refine de_call C_is_within ?_
  refine da_cons ?_
  refine de_v 0 rfl ?_  -- thing
  refine da_cons ?_
  refine de_neg ?_
  refine de_g T.MOST_VALUE ?_
  refine da_cons ?_
  refine de_g T.MOST_VALUE ?_
  refine da_nil ?_
  refine ⟨rfl, i, -1000, 1000, rfl, ?_⟩
  rw [show decide ((-1000 : Int) ≤ i ∧ i ≤ 1000) = true by simp [h1, h2]]
  exact q
abbrev s_is_hand : Stmt := topS 40
theorem sc_is_hand : FnScope ["play", "thing"] ["play", "thing"] (defScope s_is_hand) := ⟨rfl, rfl, rfl, by decide +kernel, rfl, by decide +kernel, by decide +kernel⟩
theorem c_is_hand (F : FnP gl.K "is_hand" "is_hand" s_is_hand f fd) (hm : gl.mg "is_hand" = some (.ref f)) (T : Txt gl) (C_is_below : Cal gl 3 "is_below" 2 (sp_is_below)) : Cal gl 4 "is_hand" 2 (sp_is_hand) := by
  refine cal_d F hm sc_is_hand rfl (fun _ _ _ _ _ _ us hl => match us, hl with | [_, _], _ => rfl) fun W A0 ds post hl hs => ?_
  obtain ⟨R, rows, i, rfl, q⟩ := hs
  refine dss_cons ?_
  refine ds_ret ?_
  refine de_call C_is_below ?_
  refine da_cons ?_
  refine de_v 1 rfl ?_  -- thing
  refine da_cons ?_
  refine de_len T.len ?_
  refine de_rows T.play ?_
  refine de_v 0 rfl ?_  -- play
  refine ⟨_, _, rfl, ?_⟩
  refine da_nil ?_
  refine ⟨rfl, i, (rows.map D.int).length, rfl, ?_⟩
  rw [List.length_map]
  exact q
abbrev s_check_hand : Stmt := topS 41
theorem sc_check_hand : FnScope ["play", "thing"] ["play", "thing"] (defScope s_check_hand) := ⟨rfl, rfl, rfl, by decide +kernel, rfl, by decide +kernel, by decide +kernel⟩
theorem c_check_hand (F : FnP gl.K "check_hand" "check_hand" s_check_hand f fd) (hm : gl.mg "check_hand" = some (.ref f)) (T : Txt gl) (C_is_hand : Cal gl 4 "is_hand" 2 (sp_is_hand)) : Cal gl 5 "check_hand" 2 (sp_check_hand) := by
  refine cal_d F hm sc_check_hand rfl (fun _ _ _ _ _ _ us hl => match us, hl with | [_, _], _ => rfl) fun W A0 ds post hl hs => ?_
  obtain ⟨R, rows, i, rfl, hi, q⟩ := hs
  refine dss_cons ?_
  refine ds_if ?_
  refine dt_not ?_
  refine dt_val ?_
  refine de_call C_is_hand ?_
  refine da_cons ?_
  refine de_v 0 rfl ?_  -- play
  refine da_cons ?_
  refine de_v 1 rfl ?_  -- thing
  refine da_nil ?_
  refine ⟨rfl, R, rows, i, rfl, ?_⟩
  refine ifF (by simp [hi]) ?_
  refine dss_nil ?_
  refine dss_nil ?_
  exact q
abbrev s_top_cell : Stmt := topS 63
theorem sc_top_cell : FnScope ["play", "hand"] ["play", "hand"] (defScope s_top_cell) := ⟨rfl, rfl, rfl, by decide +kernel, rfl, by decide +kernel, by decide +kernel⟩
theorem c_top_cell (F : FnP gl.K "top_cell" "top_cell" s_top_cell f fd) (hm : gl.mg "top_cell" = some (.ref f)) (T : Txt gl) : Cal gl 1 "top_cell" 2 (sp_cell) := by
  refine cal_d F hm sc_top_cell rfl (fun _ _ _ _ _ _ us hl => match us, hl with | [_, _], _ => rfl) fun W A0 ds post hl hs => ?_
  obtain ⟨R, rows, h, rfl, q⟩ := hs
  refine dss_cons ?_
  refine ds_ret ?_
  refine de_if ?_
  refine dt_cmp ?_
  refine dc_eq ?_
  refine de_kind T.play ?_
  refine de_v 0 rfl ?_  -- play
  refine ⟨_, _, rfl, ?_⟩
  refine de_g T.NEAR ?_
  refine ⟨_, rfl, ?_⟩
  refine ifT (rfl) ?_
  refine de_tup ?_
  refine da_nil ?_
  refine ⟨Nat.le_of_ble_eq_true rfl, ?_⟩
  exact q
abbrev s_top_next : Stmt := topS 65
theorem sc_top_next : FnScope ["play", "hand", "state"] ["play", "hand", "state"] (defScope s_top_next) := ⟨rfl, rfl, rfl, by decide +kernel, rfl, by decide +kernel, by decide +kernel⟩
theorem c_top_next (F : FnP gl.K "top_next" "top_next" s_top_next f fd) (hm : gl.mg "top_next" = some (.ref f)) (T : Txt gl) : Cal gl 1 "top_next" 3 (sp_next) := by
  refine cal_d F hm sc_top_next rfl (fun _ _ _ _ _ _ us hl => match us, hl with | [_, _, _], _ => rfl) fun W A0 ds post hl hs => ?_
  obtain ⟨R, rows, h, r, t, b, rfl, q⟩ := hs
  refine dss_cons ?_
  refine ds_ret ?_
  refine de_if ?_
  refine dt_val ?_
  refine de_ix ?_
  refine de_v 2 rfl ?_  -- state
  refine de_neg ?_
  refine de_int ?_  -- 1
  refine ⟨_, atI_last [D.int _, D.int _] _, ?_⟩
  refine ifB (fun h => ?_) (fun h => ?_)
  · refine de_tup ?_
    refine da_cons ?_
    refine de_g T.SEE ?_
    refine da_nil ?_
    refine ⟨Nat.le_of_ble_eq_true rfl, ?_⟩
    subst h
    exact q
  · refine de_tup ?_
    refine da_cons ?_
    refine de_g T.PUT ?_
    refine da_nil ?_
    refine ⟨Nat.le_of_ble_eq_true rfl, ?_⟩
    subst h
    exact q
abbrev s_top_state : Stmt := topS 64
theorem sc_top_state : FnScope ["play", "hand"] ["play", "hand"] (defScope s_top_state) := ⟨rfl, rfl, rfl, by decide +kernel, rfl, by decide +kernel, by decide +kernel⟩
theorem c_top_state (F : FnP gl.K "top_state" "top_state" s_top_state f fd) (hm : gl.mg "top_state" = some (.ref f)) (T : Txt gl) : Cal gl 1 "top_state" 2 (sp_state) := by
  refine cal_d F hm sc_top_state rfl (fun _ _ _ _ _ _ us hl => match us, hl with | [_, _], _ => rfl) fun W A0 ds post hl hs => ?_
  obtain ⟨R, rows, h, v, rfl, e, q⟩ := hs
  refine dss_cons ?_
  refine ds_if ?_
  refine dt_cmp ?_
  refine dc_eq ?_
  refine de_kind T.play ?_
  refine de_v 0 rfl ?_  -- play
  refine ⟨_, _, rfl, ?_⟩
  refine de_g T.NAMES ?_
  refine ⟨_, rfl, ?_⟩
  refine ifF (rfl) ?_
  refine dss_nil ?_
  refine dss_cons ?_
  refine ds_ret ?_
  refine de_if ?_
  refine dt_cmp ?_
  refine dc_eq ?_
  refine de_kind T.play ?_
  refine de_v 0 rfl ?_  -- play
  refine ⟨_, _, rfl, ?_⟩
  refine de_g T.NEAR ?_
  refine ⟨_, rfl, ?_⟩
  refine ifT (rfl) ?_
  refine de_tup ?_
  refine da_cons ?_
  refine de_int ?_  -- 0
  refine da_cons ?_
  refine de_ix ?_
  refine de_rows T.play ?_
  refine de_v 0 rfl ?_  -- play
  refine ⟨_, _, rfl, ?_⟩
  refine de_v 1 rfl ?_  -- hand
  refine ⟨_, atMap e, ?_⟩
  refine da_cons ?_
  refine de_bl ?_  -- False
  refine da_nil ?_
  refine ⟨Nat.le_of_ble_eq_true rfl, ?_⟩
  exact q
end
end Op
namespace Op
open PySem PySem.Spec PyProof.Rows L2 Dl
section
variable {gl : Glob} {f : Addr} {fd : FuncData}
abbrev s_is_row_of : Stmt := topS 37
theorem sc_is_row_of : FnScope ["is_one", "thing", "item"] ["is_one", "thing"] (defScope s_is_row_of) := ⟨rfl, rfl, rfl, by decide +kernel, rfl, by decide +kernel, by decide +kernel⟩
theorem c_is_row_of (F : FnP gl.K "is_row_of" "is_row_of" s_is_row_of f fd) (hm : gl.mg "is_row_of" = some (.ref f)) (T : Txt gl) {a : Addr} (V : CalA gl 3 a 1 sp_is_near_value) (C_is_sized : Cal gl 1 "is_sized" 3 (sp_is_sized)) : Cal gl 4 "is_row_of" 2 (sp_is_row_of a) := by
  refine cal_d F hm sc_is_row_of rfl (fun _ _ _ _ _ _ us hl => match us, hl with | [_, _], _ => rfl) fun W A0 ds post hl hs => ?_
  obtain ⟨l, rfl, h1, h2, h3, q⟩ := hs
  refine dss_cons ?_
  refine ds_ret ?_
  refine de_and ?_
  refine de_call C_is_sized ?_
  refine da_cons ?_
  refine de_v 1 rfl ?_  -- thing
  refine da_cons ?_
  refine de_int ?_  -- 1
  refine da_cons ?_
  refine de_g T.MOST_HANDS ?_
  refine da_nil ?_
  refine ⟨rfl, l.map D.int, 1, 5, rfl, ?_⟩
  refine ifT (by simp; omega) ?_
  refine de_one ?_
  refine de_all T.all ?_
  refine de_lcM 2 ?_
  refine di_tup ?_
  refine de_v 1 rfl ?_  -- thing
  refine ⟨by simp; omega, l.map fun _ => D.bl true, by simp, fun A j d hd => ?_, ?_⟩
  · obtain ⟨x, hx, rfl⟩ := mapAt hd
    refine de_callV 0 V rfl ?_
    refine da_cons ?_
    refine de_v 2 rfl ?_  -- item
    refine da_nil ?_
    refine ⟨rfl, x, rfl, (h3 x (List.mem_of_getElem? hx)).1, (h3 x (List.mem_of_getElem? hx)).2, ?_⟩
    exact mapGet hx
  · refine ⟨l.map fun _ => true, by simp, ?_⟩
    rw [show ((l.map fun _ => true).all id) = true by simp]
    exact q
abbrev s_are_inputs : Stmt := topS 38
theorem sc_are_inputs : FnScope ["kind", "thing"] ["kind", "thing"] (defScope s_are_inputs) := ⟨rfl, rfl, rfl, by decide +kernel, rfl, by decide +kernel, by decide +kernel⟩
theorem c_are_inputs (F : FnP gl.K "are_inputs" "are_inputs" s_are_inputs f fd) (hm : gl.mg "are_inputs" = some (.ref f)) (T : Txt gl) {a : Addr} (G_is_near_value : GlIs gl "is_near_value" (.fnc a)) (C_is_pair : Cal gl 2 "is_pair" 1 (sp_is_pair)) (C_is_within : Cal gl 2 "is_within" 3 (sp_is_within)) (C_is_row_of : Cal gl 4 "is_row_of" 2 (sp_is_row_of a)) : Cal gl 5 "are_inputs" 2 (sp_are_inputs) := by
  refine cal_d F hm sc_are_inputs rfl (fun _ _ _ _ _ _ us hl => match us, hl with | [_, _], _ => rfl) fun W A0 ds post hl hs => ?_
  obtain ⟨R, rows, rfl, o, q⟩ := hs
  refine dss_cons ?_
  refine ds_if ?_
  refine dt_cmp ?_
  refine dc_in ?_
  refine de_v 0 rfl ?_  -- kind
  refine de_g T.MANNERS ?_
  refine ⟨_, .inr ⟨_, ["sweep", "twice", "borrow"], rfl, .inl rfl, rfl⟩, ?_⟩
  refine ifF (by decide +kernel) ?_
  refine dss_nil ?_
  refine dss_cons ?_
  refine ds_if ?_
  refine dt_cmp ?_
  refine dc_eq ?_
  refine de_v 0 rfl ?_  -- kind
  refine de_g T.LEVELS ?_
  refine ⟨_, rfl, ?_⟩
  refine ifF (rfl) ?_
  refine dss_nil ?_
  refine dss_cons ?_
  refine ds_if ?_
  refine dt_cmp ?_
  refine dc_eq ?_
  refine de_v 0 rfl ?_  -- kind
  refine de_g T.NAMES ?_
  refine ⟨_, rfl, ?_⟩
  refine ifF (rfl) ?_
  refine dss_nil ?_
  refine dss_cons ?_
  refine ds_if ?_
  refine dt_cmp ?_
  refine dc_eq ?_
  refine de_v 0 rfl ?_  -- kind
  refine de_g T.CHAIN ?_
  refine ⟨_, rfl, ?_⟩
  refine ifF (rfl) ?_
  refine dss_nil ?_
  refine dss_cons ?_
  refine ds_ret ?_
  refine de_and ?_
  refine de_call C_is_pair ?_
  refine da_cons ?_
  refine de_v 1 rfl ?_  -- thing
  refine da_nil ?_
  refine ⟨rfl, _, _, rfl, ?_⟩
  refine ifT (rfl) ?_
  refine de_and ?_
  refine de_call C_is_within ?_
  refine da_cons ?_
  refine de_ix ?_
  refine de_v 1 rfl ?_  -- thing
  refine de_int ?_  -- 0
  refine ⟨_, rfl, ?_⟩
  refine da_cons ?_
  refine de_int ?_  -- 1
  refine da_cons ?_
  refine de_g T.MOST_ROUNDS ?_
  refine da_nil ?_
  refine ⟨rfl, R, 1, 6, rfl, ?_⟩
  refine ifT (by have := o.r0; have := o.r6; simp; omega) ?_
  refine de_one ?_
  refine de_call C_is_row_of ?_
  refine da_cons ?_
  refine de_g G_is_near_value ?_
  refine da_cons ?_
  refine de_ix ?_
  refine de_v 1 rfl ?_  -- thing
  refine de_int ?_  -- 1
  refine ⟨_, rfl, ?_⟩
  refine da_nil ?_
  refine ⟨rfl, rows, rfl, o.n0, o.n5, o.v, ?_⟩
  exact q
abbrev s_after_near : Stmt := topS 68
theorem sc_after_near : FnScope ["play", "hand", "cells", "state", "tops", "later", "number", "top", "is_put", "cell"] ["play", "hand", "cells", "state"] (defScope s_after_near) := ⟨rfl, rfl, rfl, by decide +kernel, rfl, by decide +kernel, by decide +kernel⟩
theorem c_after_near (F : FnP gl.K "after_near" "after_near" s_after_near f fd) (hm : gl.mg "after_near" = some (.ref f)) (T : Txt gl) : Cal gl 1 "after_near" 4 (sp_after) := by
  refine cal_d F hm sc_after_near rfl (fun _ _ _ _ _ _ us hl => match us, hl with | [_, _, _, _], _ => rfl) fun W A0 ds post hl hs => ?_
  obtain ⟨R, rows, S, h, r, t, b, rfl, o, w, e, q⟩ := hs
  obtain ⟨hr, ht, c, hc, hl⟩ := w.on h r t b e
  have hcd : S.cells.getD h [] = c := by rw [List.getD_eq_getElem?_getD, hc]; rfl
  have hn : S.cells.length ≤ 5 := by rw [w.lc]; exact o.n5
  have h6 := o.r6
  rcases cases3 b r R with rfl | ⟨rfl, hR⟩ | ⟨rfl, hR⟩
  · have hl1 : c.length = r := hl
    refine dss_cons ?_
    refine ds_tup3 6 7 8 ?_
    refine de_v 3 rfl ?_  -- state
    refine ⟨_, _, _, rfl, ?_⟩
    refine dss_cons ?_
    refine ds_if ?_
    refine dt_not ?_
    refine dt_val ?_
    refine de_v 8 rfl ?_  -- is_put
    refine ifT (rfl) ?_
    refine dss_cons ?_
    refine ds_ret ?_
    refine de_tup ?_
    refine da_cons ?_
    refine de_cat ?_
    refine de_ix ?_
    refine de_v 2 rfl ?_  -- cells
    refine de_v 1 rfl ?_  -- hand
    refine ⟨_, atMap hc, ?_⟩
    refine de_tup ?_
    refine da_cons ?_
    refine de_v 7 rfl ?_  -- top
    refine da_nil ?_
    refine ⟨Nat.le_of_ble_eq_true rfl, ?_⟩
    refine ⟨by simp; omega, ?_⟩
    refine da_cons ?_
    refine de_tup ?_
    refine da_cons ?_
    refine de_v 6 rfl ?_  -- number
    refine da_cons ?_
    refine de_v 7 rfl ?_  -- top
    refine da_cons ?_
    refine de_bl ?_  -- True
    refine da_nil ?_
    refine ⟨Nat.le_of_ble_eq_true rfl, ?_⟩
    refine da_cons ?_
    refine de_non ?_  -- None
    refine da_nil ?_
    refine ⟨Nat.le_of_ble_eq_true rfl, ?_⟩
    rw [afterD, hcd] at q
    rw [show c.map D.int ++ [D.int t] = (c ++ [t]).map D.int by simp]
    exact q
  · have hl1 : c.length = r + 1 := hl
    refine dss_cons ?_
    refine ds_tup3 6 7 8 ?_
    refine de_v 3 rfl ?_  -- state
    refine ⟨_, _, _, rfl, ?_⟩
    refine dss_cons ?_
    refine ds_if ?_
    refine dt_not ?_
    refine dt_val ?_
    refine de_v 8 rfl ?_  -- is_put
    refine ifF (rfl) ?_
    refine dss_nil ?_
    refine dss_cons ?_
    refine ds_setLcF 4 9 (gTop r) ?_
    refine di_tup ?_
    refine de_v 2 rfl ?_  -- cells
    refine ⟨by simp; omega, fun A j d hd => ?_, ?_⟩
    · obtain ⟨c', hc', rfl⟩ := mapAt hd
      refine df_one ?_
      refine dt_cmp ?_
      refine dc_gt ?_
      refine de_len T.len ?_
      refine de_v 9 rfl ?_  -- cell
      refine de_v 6 rfl ?_  -- number
      refine ifB (fun hk => ?_) (fun hk => ?_)
      · refine de_ix ?_
        refine de_v 9 rfl ?_  -- cell
        refine de_v 6 rfl ?_  -- number
        refine ⟨_, atMap (List.getElem?_eq_getElem (show r < c'.length by simpa using hk)), ?_⟩
        exact gTop_some (by simpa using hk)
      · exact gTop_none (by simpa using hk)
    · refine dss_cons ?_
      refine ds_set 5 ?_  -- later
      refine de_add ?_
      refine de_min T.min ?_
      refine de_v 4 rfl ?_  -- tops
      refine ⟨topsOf S.cells r, congrArg D.lst (gTop_map S.cells r), List.length_pos_iff.mpr (topsOf_ne hc (by omega)), fun m1 hm1 hle1 => ?_⟩
      refine de_max T.max ?_
      refine de_v 4 rfl ?_  -- tops
      refine ⟨topsOf S.cells r, congrArg D.lst (gTop_map S.cells r), List.length_pos_iff.mpr (topsOf_ne hc (by omega)), fun m2 hm2 hle2 => ?_⟩
      refine dss_cons ?_
      refine ds_if ?_
      refine dt_cmp ?_
      refine dc_eq ?_
      refine de_add ?_
      refine de_v 6 rfl ?_  -- number
      refine de_int ?_  -- 1
      refine de_ix ?_
      refine de_inputs T.play ?_
      refine de_v 0 rfl ?_  -- play
      refine ⟨_, _, rfl, ?_⟩
      refine de_int ?_  -- 0
      refine ⟨_, rfl, ?_⟩
      refine ⟨_, rfl, ?_⟩
      refine ifT (by subst hR; exact decide_eq_true rfl) ?_
      refine dss_cons ?_
      refine ds_ret ?_
      refine de_tup ?_
      refine da_cons ?_
      refine de_non ?_  -- None
      refine da_cons ?_
      refine de_non ?_  -- None
      refine da_cons ?_
      refine de_tup ?_
      refine da_cons ?_
      refine de_v 5 rfl ?_  -- later
      refine da_cons ?_
      refine de_add ?_
      refine de_v 6 rfl ?_  -- number
      refine de_int ?_  -- 1
      refine da_nil ?_
      refine ⟨Nat.le_of_ble_eq_true rfl, ?_⟩
      refine da_nil ?_
      refine ⟨Nat.le_of_ble_eq_true rfl, ?_⟩
      rw [afterD, if_pos hR] at q
      rw [lmin_eq hm1 hle1, lmax_eq hm2 hle2]
      subst hR
      exact q
  · have hl1 : c.length = r + 1 := hl
    refine dss_cons ?_
    refine ds_tup3 6 7 8 ?_
    refine de_v 3 rfl ?_  -- state
    refine ⟨_, _, _, rfl, ?_⟩
    refine dss_cons ?_
    refine ds_if ?_
    refine dt_not ?_
    refine dt_val ?_
    refine de_v 8 rfl ?_  -- is_put
    refine ifF (rfl) ?_
    refine dss_nil ?_
    refine dss_cons ?_
    refine ds_setLcF 4 9 (gTop r) ?_
    refine di_tup ?_
    refine de_v 2 rfl ?_  -- cells
    refine ⟨by simp; omega, fun A j d hd => ?_, ?_⟩
    · obtain ⟨c', hc', rfl⟩ := mapAt hd
      refine df_one ?_
      refine dt_cmp ?_
      refine dc_gt ?_
      refine de_len T.len ?_
      refine de_v 9 rfl ?_  -- cell
      refine de_v 6 rfl ?_  -- number
      refine ifB (fun hk => ?_) (fun hk => ?_)
      · refine de_ix ?_
        refine de_v 9 rfl ?_  -- cell
        refine de_v 6 rfl ?_  -- number
        refine ⟨_, atMap (List.getElem?_eq_getElem (show r < c'.length by simpa using hk)), ?_⟩
        exact gTop_some (by simpa using hk)
      · exact gTop_none (by simpa using hk)
    · refine dss_cons ?_
      refine ds_set 5 ?_  -- later
      refine de_add ?_
      refine de_min T.min ?_
      refine de_v 4 rfl ?_  -- tops
      refine ⟨topsOf S.cells r, congrArg D.lst (gTop_map S.cells r), List.length_pos_iff.mpr (topsOf_ne hc (by omega)), fun m1 hm1 hle1 => ?_⟩
      refine de_max T.max ?_
      refine de_v 4 rfl ?_  -- tops
      refine ⟨topsOf S.cells r, congrArg D.lst (gTop_map S.cells r), List.length_pos_iff.mpr (topsOf_ne hc (by omega)), fun m2 hm2 hle2 => ?_⟩
      refine dss_cons ?_
      refine ds_if ?_
      refine dt_cmp ?_
      refine dc_eq ?_
      refine de_add ?_
      refine de_v 6 rfl ?_  -- number
      refine de_int ?_  -- 1
      refine de_ix ?_
      refine de_inputs T.play ?_
      refine de_v 0 rfl ?_  -- play
      refine ⟨_, _, rfl, ?_⟩
      refine de_int ?_  -- 0
      refine ⟨_, rfl, ?_⟩
      refine ⟨_, rfl, ?_⟩
      refine ifF (by simp; omega) ?_
      refine dss_nil ?_
      refine dss_cons ?_
      refine ds_ret ?_
      refine de_tup ?_
      refine da_cons ?_
      refine de_non ?_  -- None
      refine da_cons ?_
      refine de_tup ?_
      refine da_cons ?_
      refine de_add ?_
      refine de_v 6 rfl ?_  -- number
      refine de_int ?_  -- 1
      refine da_cons ?_
      refine de_v 5 rfl ?_  -- later
      refine da_cons ?_
      refine de_bl ?_  -- False
      refine da_nil ?_
      refine ⟨Nat.le_of_ble_eq_true rfl, ?_⟩
      refine da_cons ?_
      refine de_non ?_  -- None
      refine da_nil ?_
      refine ⟨Nat.le_of_ble_eq_true rfl, ?_⟩
      rw [afterD, if_neg hR] at q
      rw [lmin_eq hm1 hle1, lmax_eq hm2 hle2]
      exact q
abbrev s_top_after : Stmt := topS 70
theorem sc_top_after : FnScope ["play", "hand", "cells", "state"] ["play", "hand", "cells", "state"] (defScope s_top_after) := ⟨rfl, rfl, rfl, by decide +kernel, rfl, by decide +kernel, by decide +kernel⟩
theorem c_top_after (F : FnP gl.K "top_after" "top_after" s_top_after f fd) (hm : gl.mg "top_after" = some (.ref f)) (T : Txt gl) (C_after_near : Cal gl 1 "after_near" 4 (sp_after)) : Cal gl 2 "top_after" 4 (sp_after) := by
  refine cal_d F hm sc_top_after rfl (fun _ _ _ _ _ _ us hl => match us, hl with | [_, _, _, _], _ => rfl) fun W A0 ds post hl hs => ?_
  obtain ⟨R, rows, S, h, r, t, b, rfl, o, w, e, q⟩ := hs
  refine dss_cons ?_
  refine ds_if ?_
  refine dt_cmp ?_
  refine dc_eq ?_
  refine de_kind T.play ?_
  refine de_v 0 rfl ?_  -- play
  refine ⟨_, _, rfl, ?_⟩
  refine de_g T.NAMES ?_
  refine ⟨_, rfl, ?_⟩
  refine ifF (rfl) ?_
  refine dss_nil ?_
  refine dss_cons ?_
  refine ds_ret ?_
  refine de_if ?_
  refine dt_cmp ?_
  refine dc_eq ?_
  refine de_kind T.play ?_
  refine de_v 0 rfl ?_  -- play
  refine ⟨_, _, rfl, ?_⟩
  refine de_g T.CHAIN ?_
  refine ⟨_, rfl, ?_⟩
  refine ifF (rfl) ?_
  refine de_call C_after_near ?_
  refine da_cons ?_
  refine de_v 0 rfl ?_  -- play
  refine da_cons ?_
  refine de_v 1 rfl ?_  -- hand
  refine da_cons ?_
  refine de_v 2 rfl ?_  -- cells
  refine da_cons ?_
  refine de_v 3 rfl ?_  -- state
  refine da_nil ?_
  refine ⟨rfl, R, rows, S, h, r, t, b, rfl, o, w, e, ?_⟩
  exact q
abbrev s_cell_of : Stmt := topS 72
theorem sc_cell_of : FnScope ["play", "hand"] ["play", "hand"] (defScope s_cell_of) := ⟨rfl, rfl, rfl, by decide +kernel, rfl, by decide +kernel, by decide +kernel⟩
theorem c_cell_of (F : FnP gl.K "cell_of" "cell_of" s_cell_of f fd) (hm : gl.mg "cell_of" = some (.ref f)) (T : Txt gl) (C_top_cell : Cal gl 1 "top_cell" 2 (sp_cell)) : Cal gl 2 "cell_of" 2 (sp_cell) := by
  refine cal_d F hm sc_cell_of rfl (fun _ _ _ _ _ _ us hl => match us, hl with | [_, _], _ => rfl) fun W A0 ds post hl hs => ?_
  obtain ⟨R, rows, h, rfl, q⟩ := hs
  refine dss_cons ?_
  refine ds_if ?_
  refine dt_cmp ?_
  refine dc_in ?_
  refine de_kind T.play ?_
  refine de_v 0 rfl ?_  -- play
  refine ⟨_, _, rfl, ?_⟩
  refine de_g T.MANNERS ?_
  refine ⟨_, .inr ⟨_, ["sweep", "twice", "borrow"], rfl, .inl rfl, rfl⟩, ?_⟩
  refine ifF (by decide +kernel) ?_
  refine dss_nil ?_
  refine dss_cons ?_
  refine ds_ret ?_
  refine de_if ?_
  refine dt_cmp ?_
  refine dc_eq ?_
  refine de_kind T.play ?_
  refine de_v 0 rfl ?_  -- play
  refine ⟨_, _, rfl, ?_⟩
  refine de_g T.LEVELS ?_
  refine ⟨_, rfl, ?_⟩
  refine ifF (rfl) ?_
  refine de_call C_top_cell ?_
  refine da_cons ?_
  refine de_v 0 rfl ?_  -- play
  refine da_cons ?_
  refine de_v 1 rfl ?_  -- hand
  refine da_nil ?_
  refine ⟨rfl, R, rows, h, rfl, ?_⟩
  exact q
abbrev s_state_of : Stmt := topS 73
theorem sc_state_of : FnScope ["play", "hand"] ["play", "hand"] (defScope s_state_of) := ⟨rfl, rfl, rfl, by decide +kernel, rfl, by decide +kernel, by decide +kernel⟩
theorem c_state_of (F : FnP gl.K "state_of" "state_of" s_state_of f fd) (hm : gl.mg "state_of" = some (.ref f)) (T : Txt gl) (C_top_state : Cal gl 1 "top_state" 2 (sp_state)) : Cal gl 2 "state_of" 2 (sp_state) := by
  refine cal_d F hm sc_state_of rfl (fun _ _ _ _ _ _ us hl => match us, hl with | [_, _], _ => rfl) fun W A0 ds post hl hs => ?_
  obtain ⟨R, rows, h, v, rfl, e, q⟩ := hs
  refine dss_cons ?_
  refine ds_if ?_
  refine dt_cmp ?_
  refine dc_in ?_
  refine de_kind T.play ?_
  refine de_v 0 rfl ?_  -- play
  refine ⟨_, _, rfl, ?_⟩
  refine de_g T.MANNERS ?_
  refine ⟨_, .inr ⟨_, ["sweep", "twice", "borrow"], rfl, .inl rfl, rfl⟩, ?_⟩
  refine ifF (by decide +kernel) ?_
  refine dss_nil ?_
  refine dss_cons ?_
  refine ds_ret ?_
  refine de_if ?_
  refine dt_cmp ?_
  refine dc_eq ?_
  refine de_kind T.play ?_
  refine de_v 0 rfl ?_  -- play
  refine ⟨_, _, rfl, ?_⟩
  refine de_g T.LEVELS ?_
  refine ⟨_, rfl, ?_⟩
  refine ifF (rfl) ?_
  refine de_call C_top_state ?_
  refine da_cons ?_
  refine de_v 0 rfl ?_  -- play
  refine da_cons ?_
  refine de_v 1 rfl ?_  -- hand
  refine da_nil ?_
  refine ⟨rfl, R, rows, h, v, rfl, e, ?_⟩
  exact q
abbrev s_next_of : Stmt := topS 74
theorem sc_next_of : FnScope ["play", "hand", "state"] ["play", "hand", "state"] (defScope s_next_of) := ⟨rfl, rfl, rfl, by decide +kernel, rfl, by decide +kernel, by decide +kernel⟩
theorem c_next_of (F : FnP gl.K "next_of" "next_of" s_next_of f fd) (hm : gl.mg "next_of" = some (.ref f)) (T : Txt gl) (C_top_next : Cal gl 1 "top_next" 3 (sp_next)) : Cal gl 2 "next_of" 3 (sp_next) := by
  refine cal_d F hm sc_next_of rfl (fun _ _ _ _ _ _ us hl => match us, hl with | [_, _, _], _ => rfl) fun W A0 ds post hl hs => ?_
  obtain ⟨R, rows, h, r, t, b, rfl, q⟩ := hs
  refine dss_cons ?_
  refine ds_if ?_
  refine dt_cmp ?_
  refine dc_in ?_
  refine de_kind T.play ?_
  refine de_v 0 rfl ?_  -- play
  refine ⟨_, _, rfl, ?_⟩
  refine de_g T.MANNERS ?_
  refine ⟨_, .inr ⟨_, ["sweep", "twice", "borrow"], rfl, .inl rfl, rfl⟩, ?_⟩
  refine ifF (by decide +kernel) ?_
  refine dss_nil ?_
  refine dss_cons ?_
  refine ds_ret ?_
  refine de_if ?_
  refine dt_cmp ?_
  refine dc_eq ?_
  refine de_kind T.play ?_
  refine de_v 0 rfl ?_  -- play
  refine ⟨_, _, rfl, ?_⟩
  refine de_g T.LEVELS ?_
  refine ⟨_, rfl, ?_⟩
  refine ifF (rfl) ?_
  refine de_call C_top_next ?_
  refine da_cons ?_
  refine de_v 0 rfl ?_  -- play
  refine da_cons ?_
  refine de_v 1 rfl ?_  -- hand
  refine da_cons ?_
  refine de_v 2 rfl ?_  -- state
  refine da_nil ?_
  refine ⟨rfl, R, rows, h, r, t, b, rfl, ?_⟩
  exact q
abbrev s_after_of : Stmt := topS 75
theorem sc_after_of : FnScope ["play", "hand", "cells", "state"] ["play", "hand", "cells", "state"] (defScope s_after_of) := ⟨rfl, rfl, rfl, by decide +kernel, rfl, by decide +kernel, by decide +kernel⟩
theorem c_after_of (F : FnP gl.K "after_of" "after_of" s_after_of f fd) (hm : gl.mg "after_of" = some (.ref f)) (T : Txt gl) (C_top_after : Cal gl 2 "top_after" 4 (sp_after)) : Cal gl 3 "after_of" 4 (sp_after) := by
  refine cal_d F hm sc_after_of rfl (fun _ _ _ _ _ _ us hl => match us, hl with | [_, _, _, _], _ => rfl) fun W A0 ds post hl hs => ?_
  obtain ⟨R, rows, S, h, r, t, b, rfl, o, w, e, q⟩ := hs
  refine dss_cons ?_
  refine ds_if ?_
  refine dt_cmp ?_
  refine dc_in ?_
  refine de_kind T.play ?_
  refine de_v 0 rfl ?_  -- play
  refine ⟨_, _, rfl, ?_⟩
  refine de_g T.MANNERS ?_
  refine ⟨_, .inr ⟨_, ["sweep", "twice", "borrow"], rfl, .inl rfl, rfl⟩, ?_⟩
  refine ifF (by decide +kernel) ?_
  refine dss_nil ?_
  refine dss_cons ?_
  refine ds_ret ?_
  refine de_if ?_
  refine dt_cmp ?_
  refine dc_eq ?_
  refine de_kind T.play ?_
  refine de_v 0 rfl ?_  -- play
  refine ⟨_, _, rfl, ?_⟩
  refine de_g T.LEVELS ?_
  refine ⟨_, rfl, ?_⟩
  refine ifF (rfl) ?_
  refine de_call C_top_after ?_
  refine da_cons ?_
  refine de_v 0 rfl ?_  -- play
  refine da_cons ?_
  refine de_v 1 rfl ?_  -- hand
  refine da_cons ?_
  refine de_v 2 rfl ?_  -- cells
  refine da_cons ?_
  refine de_v 3 rfl ?_  -- state
  refine da_nil ?_
  refine ⟨rfl, R, rows, S, h, r, t, b, rfl, o, w, e, ?_⟩
  exact q
end
end Op
namespace Op
open PySem PySem.Spec PyProof.Rows L2 Dl
section
variable {gl : Glob} {f : Addr} {fd : FuncData}
abbrev s_begun : Stmt := topS 76
theorem sc_begun : FnScope ["play", "hands", "cells", "hand"] ["play"] (defScope s_begun) := ⟨rfl, rfl, rfl, by decide +kernel, rfl, by decide +kernel, by decide +kernel⟩
theorem c_begun (F : FnP gl.K "begun" "begun" s_begun f fd) (hm : gl.mg "begun" = some (.ref f)) (T : Txt gl) (C_cell_of : Cal gl 2 "cell_of" 2 (sp_cell)) (C_state_of : Cal gl 2 "state_of" 2 (sp_state)) : Cal gl 3 "begun" 1 (sp_begun) := by
  refine cal_d F hm sc_begun rfl (fun _ _ _ _ _ _ us hl => match us, hl with | [_], _ => rfl) fun W A0 ds post hl hs => ?_
  obtain ⟨R, rows, rfl, o, q⟩ := hs
  have hn := o.n5
  have hn0 := o.n0
  have hlen : (rows.map D.int).length = rows.length := List.length_map ..
  refine dss_cons ?_
  refine ds_set 1 ?_  -- hands
  refine de_listRange T.list T.range ?_
  refine de_len T.len ?_
  refine de_rows T.play ?_
  refine de_v 0 rfl ?_  -- play
  refine ⟨_, _, rfl, ?_⟩
  refine ⟨_, rfl, by rw [hlen]; omega, ?_⟩
  refine dss_cons ?_
  refine ds_set 2 ?_  -- cells
  refine de_tupleOf T.tuple ?_
  refine de_lcM 3 ?_
  refine di_lst ?_
  refine de_v 1 rfl ?_  -- hands
  refine ⟨by simp; omega, (List.range (rows.map D.int).length).map fun _ => D.tup [], by simp, fun A j d hd => ?_, ?_⟩
  · obtain ⟨x, hx, rfl⟩ := mapAt hd
    refine de_call C_cell_of ?_
    refine da_cons ?_
    refine de_v 0 rfl ?_  -- play
    refine da_cons ?_
    refine de_v 3 rfl ?_  -- hand
    refine da_nil ?_
    refine ⟨rfl, R, rows, _, rfl, ?_⟩
    exact mapGet hx
  · refine dss_cons ?_
    refine ds_ret ?_
    refine de_tup ?_
    refine da_cons ?_
    refine de_v 2 rfl ?_  -- cells
    refine da_cons ?_
    refine de_tupleOf T.tuple ?_
    refine de_lcM 3 ?_
    refine di_lst ?_
    refine de_v 1 rfl ?_  -- hands
    refine ⟨by simp; omega, (List.range (rows.map D.int).length).map fun i => dSt (some (0, rows.getD i 0, false)), by simp, fun A j d hd => ?_, ?_⟩
    · obtain ⟨x, hx, rfl⟩ := mapAt hd
      refine de_call C_state_of ?_
      refine da_cons ?_
      refine de_v 0 rfl ?_  -- play
      refine da_cons ?_
      refine de_v 3 rfl ?_  -- hand
      refine da_nil ?_
      refine ⟨rfl, R, rows, x, rows.getD x 0, rfl, getD_some (by have := (List.getElem?_eq_some_iff.mp hx); simp at this; omega), ?_⟩
      exact mapGet hx
    · refine da_cons ?_
      refine de_repT ?_
      refine de_tup ?_
      refine da_nil ?_
      refine ⟨Nat.le_of_ble_eq_true rfl, ?_⟩
      refine de_len T.len ?_
      refine de_v 1 rfl ?_  -- hands
      refine ⟨by simp; omega, by simp; omega, ?_⟩
      refine da_nil ?_
      refine ⟨Nat.le_of_ble_eq_true rfl, ?_⟩
      rw [hlen, range_getD rows fun _ => D.tup [], range_getD rows fun v => dSt (some (0, v, false))]
      refine cast (congrArg post ?_) q
      simp [dSg, initS, dTolds, dCell, dTold, List.map_const']
abbrev s_first_standing : Stmt := topS 77
theorem sc_first_standing : FnScope ["play"] ["play"] (defScope s_first_standing) := ⟨rfl, rfl, rfl, by decide +kernel, rfl, by decide +kernel, by decide +kernel⟩
theorem c_first_standing (F : FnP gl.K "first_standing" "first_standing" s_first_standing f fd) (hm : gl.mg "first_standing" = some (.ref f)) (T : Txt gl) (C_begun : Cal gl 3 "begun" 1 (sp_begun)) : Cal gl 4 "first_standing" 1 (sp_begun) := by
  refine cal_d F hm sc_first_standing rfl (fun _ _ _ _ _ _ us hl => match us, hl with | [_], _ => rfl) fun W A0 ds post hl hs => ?_
  obtain ⟨R, rows, rfl, o, q⟩ := hs
  refine dss_cons ?_
  refine ds_ret ?_
  refine de_call C_begun ?_
  refine da_cons ?_
  refine de_v 0 rfl ?_  -- play
  refine da_nil ?_
  refine ⟨rfl, R, rows, rfl, o, ?_⟩
  exact q
abbrev s_movers : Stmt := topS 78
theorem sc_movers : FnScope ["standing", "hand", "state"] ["standing"] (defScope s_movers) := ⟨rfl, rfl, rfl, by decide +kernel, rfl, by decide +kernel, by decide +kernel⟩
theorem c_movers (F : FnP gl.K "movers" "movers" s_movers f fd) (hm : gl.mg "movers" = some (.ref f)) (T : Txt gl) : Cal gl 1 "movers" 1 (sp_movers) := by
  refine cal_d F hm sc_movers rfl (fun _ _ _ _ _ _ us hl => match us, hl with | [_], _ => rfl) fun W A0 ds post hl hs => ?_
  obtain ⟨R, S, rfl, hl, q⟩ := hs
  refine dss_cons ?_
  refine ds_ret ?_
  refine de_tupleOf T.tuple ?_
  refine de_lc2F 1 2 gOn ?_
  refine di_enumT T.enumerate ?_
  refine de_ix ?_
  refine de_v 0 rfl ?_  -- standing
  refine de_int ?_  -- 1
  refine ⟨_, rfl, ?_⟩
  refine ⟨by rw [enumD_len]; simp; omega, fun A j d hd => ?_, ?_⟩
  · obtain ⟨x, hx, rfl⟩ := enumD_at hd
    refine ⟨_, _, rfl, ?_⟩
    refine df_one ?_
    refine dt_cmp ?_
    refine dc_notN ?_
    refine de_v 2 rfl ?_  -- state
    refine ifB (fun hk => ?_) (fun hk => ?_)
    · refine de_v 1 rfl ?_  -- hand
      exact gOn_some (by simpa using hk)
    · exact gOn_none (by simpa using hk)
  · rw [gOn_map]
    exact q
abbrev s_can_step : Stmt := topS 79
theorem sc_can_step : FnScope ["play", "standing"] ["play", "standing"] (defScope s_can_step) := ⟨rfl, rfl, rfl, by decide +kernel, rfl, by decide +kernel, by decide +kernel⟩
theorem c_can_step (F : FnP gl.K "can_step" "can_step" s_can_step f fd) (hm : gl.mg "can_step" = some (.ref f)) (T : Txt gl) (C_movers : Cal gl 1 "movers" 1 (sp_movers)) : Cal gl 2 "can_step" 2 (sp_can_step) := by
  refine cal_d F hm sc_can_step rfl (fun _ _ _ _ _ _ us hl => match us, hl with | [_, _], _ => rfl) fun W A0 ds post hl hs => ?_
  obtain ⟨p, R, S, rfl, hl, q⟩ := hs
  refine dss_cons ?_
  refine ds_ret ?_
  refine de_call C_movers ?_
  refine da_cons ?_
  refine de_v 1 rfl ?_  -- standing
  refine da_nil ?_
  refine ⟨rfl, R, S, rfl, hl, ?_⟩
  exact q
abbrev s_after_step : Stmt := topS 80
theorem sc_after_step : FnScope ["play", "standing", "hand", "cells", "states", "told", "cell", "state", "item"] ["play", "standing", "hand"] (defScope s_after_step) := ⟨rfl, rfl, rfl, by decide +kernel, rfl, by decide +kernel, by decide +kernel⟩
theorem c_after_step (F : FnP gl.K "after_step" "after_step" s_after_step f fd) (hm : gl.mg "after_step" = some (.ref f)) (T : Txt gl) (C_after_of : Cal gl 3 "after_of" 4 (sp_after)) (C_next_of : Cal gl 2 "next_of" 3 (sp_next)) (C_replaced : Cal gl 1 "replaced" 3 (sp_replaced)) : Cal gl 4 "after_step" 3 (sp_step) := by
  refine cal_d F hm sc_after_step rfl (fun _ _ _ _ _ _ us hl => match us, hl with | [_, _, _], _ => rfl) fun W A0 ds post hl hs => ?_
  obtain ⟨R, rows, S, h, ⟨r, t, b⟩, rfl, o, w, e, q⟩ := hs
  obtain ⟨hr, ht, c, hc, hl⟩ := w.on h r t b e
  have hlt := st_lt w e
  have htd : S.told.getD h [] = [] := by rw [List.getD_eq_getElem?_getD, ht]; rfl
  have h5 := o.n5
  have e1 := w.lc
  have e2 := w.ls
  have e3 := w.lt
  rcases cases3 b r R with rfl | ⟨rfl, hR⟩ | ⟨rfl, hR⟩
  · refine dss_cons ?_
    refine ds_tup3 3 4 5 ?_
    refine de_v 1 rfl ?_  -- standing
    refine ⟨_, _, _, rfl, ?_⟩
    refine dss_cons ?_
    refine ds_tup3 6 7 8 ?_
    refine de_call C_after_of ?_
    refine da_cons ?_
    refine de_v 0 rfl ?_  -- play
    refine da_cons ?_
    refine de_v 2 rfl ?_  -- hand
    refine da_cons ?_
    refine de_v 3 rfl ?_  -- cells
    refine da_cons ?_
    refine de_ix ?_
    refine de_v 4 rfl ?_  -- states
    refine de_v 2 rfl ?_  -- hand
    refine ⟨_, atMap e, ?_⟩
    refine da_nil ?_
    refine ⟨rfl, R, rows, S, h, r, t, false, rfl, o, w, e, ?_⟩
    refine ⟨_, _, _, rfl, ?_⟩
    refine dss_cons ?_
    refine ds_if ?_
    refine dt_cmp ?_
    refine dc_eqT1 ?_
    refine de_call C_next_of ?_
    refine da_cons ?_
    refine de_v 0 rfl ?_  -- play
    refine da_cons ?_
    refine de_v 2 rfl ?_  -- hand
    refine da_cons ?_
    refine de_ix ?_
    refine de_v 4 rfl ?_  -- states
    refine de_v 2 rfl ?_  -- hand
    refine ⟨_, atMap e, ?_⟩
    refine da_nil ?_
    refine ⟨rfl, R, rows, _, r, t, false, rfl, ?_⟩
    refine ⟨_, rfl, by kernel_rfl, ?_⟩
    refine de_tup ?_
    refine da_cons ?_
    refine de_g T.PUT ?_
    refine da_nil ?_
    refine ⟨Nat.le_of_ble_eq_true rfl, ?_⟩
    refine ⟨_, rfl, by kernel_rfl, ?_⟩
    refine ifT (rfl) ?_
    refine dss_cons ?_
    refine ds_set 3 ?_  -- cells
    refine de_call C_replaced ?_
    refine da_cons ?_
    refine de_v 3 rfl ?_  -- cells
    refine da_cons ?_
    refine de_v 2 rfl ?_  -- hand
    refine da_cons ?_
    refine de_v 6 rfl ?_  -- cell
    refine da_nil ?_
    refine ⟨rfl, _, h, _, rfl, by simp; omega, by simp; omega, ?_⟩
    refine dss_nil ?_
    refine dss_cons ?_
    refine ds_if ?_
    refine dt_cmp ?_
    refine dc_notN ?_
    refine de_v 8 rfl ?_  -- item
    refine ifF (rfl) ?_
    refine dss_nil ?_
    refine dss_cons ?_
    refine ds_ret ?_
    refine de_tup ?_
    refine da_cons ?_
    refine de_v 3 rfl ?_  -- cells
    refine da_cons ?_
    refine de_call C_replaced ?_
    refine da_cons ?_
    refine de_v 4 rfl ?_  -- states
    refine da_cons ?_
    refine de_v 2 rfl ?_  -- hand
    refine da_cons ?_
    refine de_v 7 rfl ?_  -- state
    refine da_nil ?_
    refine ⟨rfl, _, h, _, rfl, by simp; omega, by simp; omega, ?_⟩
    refine da_cons ?_
    refine de_v 5 rfl ?_  -- told
    refine da_nil ?_
    refine ⟨Nat.le_of_ble_eq_true rfl, ?_⟩
    rw [stepA e] at q
    rw [dSg, List.map_set, List.map_set] at q
    exact q
  · refine dss_cons ?_
    refine ds_tup3 3 4 5 ?_
    refine de_v 1 rfl ?_  -- standing
    refine ⟨_, _, _, rfl, ?_⟩
    refine dss_cons ?_
    refine ds_tup3 6 7 8 ?_
    refine de_call C_after_of ?_
    refine da_cons ?_
    refine de_v 0 rfl ?_  -- play
    refine da_cons ?_
    refine de_v 2 rfl ?_  -- hand
    refine da_cons ?_
    refine de_v 3 rfl ?_  -- cells
    refine da_cons ?_
    refine de_ix ?_
    refine de_v 4 rfl ?_  -- states
    refine de_v 2 rfl ?_  -- hand
    refine ⟨_, atMap e, ?_⟩
    refine da_nil ?_
    refine ⟨rfl, R, rows, S, h, r, t, true, rfl, o, w, e, ?_⟩
    refine ⟨_, _, _, if_pos hR, ?_⟩
    refine dss_cons ?_
    refine ds_if ?_
    refine dt_cmp ?_
    refine dc_eqT1 ?_
    refine de_call C_next_of ?_
    refine da_cons ?_
    refine de_v 0 rfl ?_  -- play
    refine da_cons ?_
    refine de_v 2 rfl ?_  -- hand
    refine da_cons ?_
    refine de_ix ?_
    refine de_v 4 rfl ?_  -- states
    refine de_v 2 rfl ?_  -- hand
    refine ⟨_, atMap e, ?_⟩
    refine da_nil ?_
    refine ⟨rfl, R, rows, _, r, t, true, rfl, ?_⟩
    refine ⟨_, rfl, by kernel_rfl, ?_⟩
    refine de_tup ?_
    refine da_cons ?_
    refine de_g T.PUT ?_
    refine da_nil ?_
    refine ⟨Nat.le_of_ble_eq_true rfl, ?_⟩
    refine ⟨_, rfl, by kernel_rfl, ?_⟩
    refine ifF (rfl) ?_
    refine dss_nil ?_
    refine dss_cons ?_
    refine ds_if ?_
    refine dt_cmp ?_
    refine dc_notN ?_
    refine de_v 8 rfl ?_  -- item
    refine ifT (rfl) ?_
    refine dss_cons ?_
    refine ds_set 5 ?_  -- told
    refine de_call C_replaced ?_
    refine da_cons ?_
    refine de_v 5 rfl ?_  -- told
    refine da_cons ?_
    refine de_v 2 rfl ?_  -- hand
    refine da_cons ?_
    refine de_cat ?_
    refine de_ix ?_
    refine de_v 5 rfl ?_  -- told
    refine de_v 2 rfl ?_  -- hand
    refine ⟨_, atMap ht, ?_⟩
    refine de_tup ?_
    refine da_cons ?_
    refine de_v 8 rfl ?_  -- item
    refine da_nil ?_
    refine ⟨Nat.le_of_ble_eq_true rfl, ?_⟩
    refine ⟨by simp, ?_⟩
    refine da_nil ?_
    refine ⟨rfl, _, h, _, rfl, by simp; omega, by simp; omega, ?_⟩
    refine dss_nil ?_
    refine dss_cons ?_
    refine ds_ret ?_
    refine de_tup ?_
    refine da_cons ?_
    refine de_v 3 rfl ?_  -- cells
    refine da_cons ?_
    refine de_call C_replaced ?_
    refine da_cons ?_
    refine de_v 4 rfl ?_  -- states
    refine da_cons ?_
    refine de_v 2 rfl ?_  -- hand
    refine da_cons ?_
    refine de_v 7 rfl ?_  -- state
    refine da_nil ?_
    refine ⟨rfl, _, h, _, rfl, by simp; omega, by simp; omega, ?_⟩
    refine da_cons ?_
    refine de_v 5 rfl ?_  -- told
    refine da_nil ?_
    refine ⟨Nat.le_of_ble_eq_true rfl, ?_⟩
    rw [stepB e hR, htd] at q
    rw [dSg, dTolds, List.map_set, List.map_set] at q
    exact q
  · refine dss_cons ?_
    refine ds_tup3 3 4 5 ?_
    refine de_v 1 rfl ?_  -- standing
    refine ⟨_, _, _, rfl, ?_⟩
    refine dss_cons ?_
    refine ds_tup3 6 7 8 ?_
    refine de_call C_after_of ?_
    refine da_cons ?_
    refine de_v 0 rfl ?_  -- play
    refine da_cons ?_
    refine de_v 2 rfl ?_  -- hand
    refine da_cons ?_
    refine de_v 3 rfl ?_  -- cells
    refine da_cons ?_
    refine de_ix ?_
    refine de_v 4 rfl ?_  -- states
    refine de_v 2 rfl ?_  -- hand
    refine ⟨_, atMap e, ?_⟩
    refine da_nil ?_
    refine ⟨rfl, R, rows, S, h, r, t, true, rfl, o, w, e, ?_⟩
    refine ⟨_, _, _, if_neg hR, ?_⟩
    refine dss_cons ?_
    refine ds_if ?_
    refine dt_cmp ?_
    refine dc_eqT1 ?_
    refine de_call C_next_of ?_
    refine da_cons ?_
    refine de_v 0 rfl ?_  -- play
    refine da_cons ?_
    refine de_v 2 rfl ?_  -- hand
    refine da_cons ?_
    refine de_ix ?_
    refine de_v 4 rfl ?_  -- states
    refine de_v 2 rfl ?_  -- hand
    refine ⟨_, atMap e, ?_⟩
    refine da_nil ?_
    refine ⟨rfl, R, rows, _, r, t, true, rfl, ?_⟩
    refine ⟨_, rfl, by kernel_rfl, ?_⟩
    refine de_tup ?_
    refine da_cons ?_
    refine de_g T.PUT ?_
    refine da_nil ?_
    refine ⟨Nat.le_of_ble_eq_true rfl, ?_⟩
    refine ⟨_, rfl, by kernel_rfl, ?_⟩
    refine ifF (rfl) ?_
    refine dss_nil ?_
    refine dss_cons ?_
    refine ds_if ?_
    refine dt_cmp ?_
    refine dc_notN ?_
    refine de_v 8 rfl ?_  -- item
    refine ifF (rfl) ?_
    refine dss_nil ?_
    refine dss_cons ?_
    refine ds_ret ?_
    refine de_tup ?_
    refine da_cons ?_
    refine de_v 3 rfl ?_  -- cells
    refine da_cons ?_
    refine de_call C_replaced ?_
    refine da_cons ?_
    refine de_v 4 rfl ?_  -- states
    refine da_cons ?_
    refine de_v 2 rfl ?_  -- hand
    refine da_cons ?_
    refine de_v 7 rfl ?_  -- state
    refine da_nil ?_
    refine ⟨rfl, _, h, _, rfl, by simp; omega, by simp; omega, ?_⟩
    refine da_cons ?_
    refine de_v 5 rfl ?_  -- told
    refine da_nil ?_
    refine ⟨Nat.le_of_ble_eq_true rfl, ?_⟩
    rw [stepC e hR] at q
    rw [dSg, List.map_set] at q
    exact q
abbrev s_check_step : Stmt := topS 81
theorem sc_check_step : FnScope ["play", "standing", "hand"] ["play", "standing", "hand"] (defScope s_check_step) := ⟨rfl, rfl, rfl, by decide +kernel, rfl, by decide +kernel, by decide +kernel⟩
theorem c_check_step (F : FnP gl.K "check_step" "check_step" s_check_step f fd) (hm : gl.mg "check_step" = some (.ref f)) (T : Txt gl) (C_check_hand : Cal gl 5 "check_hand" 2 (sp_check_hand)) : Cal gl 6 "check_step" 3 (sp_check_step) := by
  refine cal_d F hm sc_check_step rfl (fun _ _ _ _ _ _ us hl => match us, hl with | [_, _, _], _ => rfl) fun W A0 ds post hl hs => ?_
  obtain ⟨R, rows, S, h, ⟨r, t, b⟩, rfl, o, w, e, q⟩ := hs
  refine dss_cons ?_
  refine ds_expr ?_
  refine de_call C_check_hand ?_
  refine da_cons ?_
  refine de_v 0 rfl ?_  -- play
  refine da_cons ?_
  refine de_v 2 rfl ?_  -- hand
  refine da_nil ?_
  refine ⟨rfl, R, rows, h, rfl, st_lt w e, ?_⟩
  refine dss_cons ?_
  refine ds_if ?_
  refine dt_cmp ?_
  refine dc_isN ?_
  refine de_ix ?_
  refine de_ix ?_
  refine de_v 1 rfl ?_  -- standing
  refine de_int ?_  -- 1
  refine ⟨_, rfl, ?_⟩
  refine de_v 2 rfl ?_  -- hand
  refine ⟨_, atMap e, ?_⟩
  refine ifF (rfl) ?_
  refine dss_nil ?_
  refine dss_nil ?_
  exact q
abbrev s_step : Stmt := topS 82
theorem sc_step : FnScope ["play", "standing", "hand"] ["play", "standing", "hand"] (defScope s_step) := ⟨rfl, rfl, rfl, by decide +kernel, rfl, by decide +kernel, by decide +kernel⟩
theorem c_step (F : FnP gl.K "step" "step" s_step f fd) (hm : gl.mg "step" = some (.ref f)) (T : Txt gl) (C_check_step : Cal gl 6 "check_step" 3 (sp_check_step)) (C_after_step : Cal gl 4 "after_step" 3 (sp_step)) : Cal gl 7 "step" 3 (sp_step) := by
  refine cal_d F hm sc_step rfl (fun _ _ _ _ _ _ us hl => match us, hl with | [_, _, _], _ => rfl) fun W A0 ds post hl hs => ?_
  obtain ⟨R, rows, S, h, p, rfl, o, w, e, q⟩ := hs
  refine dss_cons ?_
  refine ds_expr ?_
  refine de_call C_check_step ?_
  refine da_cons ?_
  refine de_v 0 rfl ?_  -- play
  refine da_cons ?_
  refine de_v 1 rfl ?_  -- standing
  refine da_cons ?_
  refine de_v 2 rfl ?_  -- hand
  refine da_nil ?_
  refine ⟨rfl, R, rows, S, h, p, rfl, o, w, e, ?_⟩
  refine dss_cons ?_
  refine ds_ret ?_
  refine de_call C_after_step ?_
  refine da_cons ?_
  refine de_v 0 rfl ?_  -- play
  refine da_cons ?_
  refine de_v 1 rfl ?_  -- standing
  refine da_cons ?_
  refine de_v 2 rfl ?_  -- hand
  refine da_nil ?_
  refine ⟨rfl, R, rows, S, h, p, rfl, o, w, e, ?_⟩
  exact q
abbrev s_next_step : Stmt := topS 83
theorem sc_next_step : FnScope ["play", "standing", "hand"] ["play", "standing", "hand"] (defScope s_next_step) := ⟨rfl, rfl, rfl, by decide +kernel, rfl, by decide +kernel, by decide +kernel⟩
theorem c_next_step (F : FnP gl.K "next_step" "next_step" s_next_step f fd) (hm : gl.mg "next_step" = some (.ref f)) (T : Txt gl) (C_check_step : Cal gl 6 "check_step" 3 (sp_check_step)) (C_next_of : Cal gl 2 "next_of" 3 (sp_next)) : Cal gl 7 "next_step" 3 (sp_next_step) := by
  refine cal_d F hm sc_next_step rfl (fun _ _ _ _ _ _ us hl => match us, hl with | [_, _, _], _ => rfl) fun W A0 ds post hl hs => ?_
  obtain ⟨R, rows, S, h, r, t, b, rfl, o, w, e, q⟩ := hs
  refine dss_cons ?_
  refine ds_expr ?_
  refine de_call C_check_step ?_
  refine da_cons ?_
  refine de_v 0 rfl ?_  -- play
  refine da_cons ?_
  refine de_v 1 rfl ?_  -- standing
  refine da_cons ?_
  refine de_v 2 rfl ?_  -- hand
  refine da_nil ?_
  refine ⟨rfl, R, rows, S, h, (r, t, b), rfl, o, w, e, ?_⟩
  refine dss_cons ?_
  refine ds_ret ?_
  refine de_call C_next_of ?_
  refine da_cons ?_
  refine de_v 0 rfl ?_  -- play
  refine da_cons ?_
  refine de_v 2 rfl ?_  -- hand
  refine da_cons ?_
  refine de_ix ?_
  refine de_ix ?_
  refine de_v 1 rfl ?_  -- standing
  refine de_int ?_  -- 1
  refine ⟨_, rfl, ?_⟩
  refine de_v 2 rfl ?_  -- hand
  refine ⟨_, atMap e, ?_⟩
  refine da_nil ?_
  refine ⟨rfl, R, rows, _, r, t, b, rfl, ?_⟩
  exact q
abbrev s_is_item : Stmt := topS 93
theorem sc_is_item : FnScope ["play", "thing"] ["play", "thing"] (defScope s_is_item) := ⟨rfl, rfl, rfl, by decide +kernel, rfl, by decide +kernel, by decide +kernel⟩
theorem c_is_item (F : FnP gl.K "is_item" "is_item" s_is_item f fd) (hm : gl.mg "is_item" = some (.ref f)) (T : Txt gl) (C_is_pair : Cal gl 2 "is_pair" 1 (sp_is_pair)) (C_is_integer : Cal gl 1 "is_integer" 1 (sp_is_integer)) : Cal gl 3 "is_item" 2 (sp_is_item) := by
  refine cal_d F hm sc_is_item rfl (fun _ _ _ _ _ _ us hl => match us, hl with | [_, _], _ => rfl) fun W A0 ds post hl hs => ?_
  obtain ⟨R, rows, t, rfl, q⟩ := hs
  refine dss_cons ?_
  refine ds_if ?_
  refine dt_cmp ?_
  refine dc_in ?_
  refine de_kind T.play ?_
  refine de_v 0 rfl ?_  -- play
  refine ⟨_, _, rfl, ?_⟩
  refine de_g T.MANNERS ?_
  refine ⟨_, .inr ⟨_, ["sweep", "twice", "borrow"], rfl, .inl rfl, rfl⟩, ?_⟩
  refine ifF (by decide +kernel) ?_
  refine dss_nil ?_
  refine dss_cons ?_
  refine ds_if ?_
  refine dt_cmp ?_
  refine dc_eq ?_
  refine de_kind T.play ?_
  refine de_v 0 rfl ?_  -- play
  refine ⟨_, _, rfl, ?_⟩
  refine de_g T.LEVELS ?_
  refine ⟨_, rfl, ?_⟩
  refine ifF (rfl) ?_
  refine dss_nil ?_
  refine dss_cons ?_
  refine ds_if ?_
  refine dt_cmp ?_
  refine dc_eq ?_
  refine de_kind T.play ?_
  refine de_v 0 rfl ?_  -- play
  refine ⟨_, _, rfl, ?_⟩
  refine de_g T.NAMES ?_
  refine ⟨_, rfl, ?_⟩
  refine ifF (rfl) ?_
  refine dss_nil ?_
  refine dss_cons ?_
  refine ds_if ?_
  refine dt_cmp ?_
  refine dc_eq ?_
  refine de_kind T.play ?_
  refine de_v 0 rfl ?_  -- play
  refine ⟨_, _, rfl, ?_⟩
  refine de_g T.NEAR ?_
  refine ⟨_, rfl, ?_⟩
  refine ifT (rfl) ?_
  refine dss_cons ?_
  refine ds_ret ?_
  refine de_and ?_
  refine de_call C_is_pair ?_
  refine da_cons ?_
  refine de_v 1 rfl ?_  -- thing
  refine da_nil ?_
  refine ⟨rfl, _, _, rfl, ?_⟩
  refine ifT (rfl) ?_
  refine de_and ?_
  refine de_call C_is_integer ?_
  refine da_cons ?_
  refine de_ix ?_
  refine de_v 1 rfl ?_  -- thing
  refine de_int ?_  -- 0
  refine ⟨_, rfl, ?_⟩
  refine da_nil ?_
  refine ⟨rfl, _, rfl, ?_⟩
  refine ifT (rfl) ?_
  refine de_and ?_
  refine de_call C_is_integer ?_
  refine da_cons ?_
  refine de_ix ?_
  refine de_v 1 rfl ?_  -- thing
  refine de_int ?_  -- 1
  refine ⟨_, rfl, ?_⟩
  refine da_nil ?_
  refine ⟨rfl, _, rfl, ?_⟩
  refine ifT (rfl) ?_
  refine de_one ?_
  refine de_cmp ?_
  refine dc_eq ?_
  refine de_ix ?_
  refine de_v 1 rfl ?_  -- thing
  refine de_int ?_  -- 1
  refine ⟨_, rfl, ?_⟩
  refine de_ix ?_
  refine de_inputs T.play ?_
  refine de_v 0 rfl ?_  -- play
  refine ⟨_, _, rfl, ?_⟩
  refine de_int ?_  -- 0
  refine ⟨_, rfl, ?_⟩
  refine ⟨_, rfl, ?_⟩
  rw [decide_eq_true rfl]
  exact q
abbrev s_most_told : Stmt := topS 94
theorem sc_most_told : FnScope ["play", "hand", "deed"] ["play", "hand"] (defScope s_most_told) := ⟨rfl, rfl, rfl, by decide +kernel, rfl, by decide +kernel, by decide +kernel⟩
theorem c_most_told (F : FnP gl.K "most_told" "most_told" s_most_told f fd) (hm : gl.mg "most_told" = some (.ref f)) (T : Txt gl) : Cal gl 1 "most_told" 2 (sp_most_told) := by
  refine cal_d F hm sc_most_told rfl (fun _ _ _ _ _ _ us hl => match us, hl with | [_, _], _ => rfl) fun W A0 ds post hl hs => ?_
  obtain ⟨R, rows, h, rfl, q⟩ := hs
  refine dss_cons ?_
  refine ds_if ?_
  refine dt_cmp ?_
  refine dc_notIn ?_
  refine de_kind T.play ?_
  refine de_v 0 rfl ?_  -- play
  refine ⟨_, _, rfl, ?_⟩
  refine de_g T.MANNERS ?_
  refine ⟨_, .inr ⟨_, ["sweep", "twice", "borrow"], rfl, .inl rfl, rfl⟩, ?_⟩
  refine ifT (by decide +kernel) ?_
  refine dss_cons ?_
  refine ds_ret ?_
  refine de_int ?_  -- 1
  exact q
end
end Op
namespace Op
open PySem PySem.Spec PyProof.Rows L2 Dl
section
variable {gl : Glob} {f : Addr} {fd : FuncData}
abbrev s_standings_of : Stmt := topS 84
theorem sc_standings_of : FnScope ["play", "weaving", "found", "index", "hand"] ["play", "weaving"] (defScope s_standings_of) := ⟨rfl, rfl, rfl, by decide +kernel, rfl, by decide +kernel, by decide +kernel⟩
theorem c_standings_of (F : FnP gl.K "standings_of" "standings_of" s_standings_of f fd) (hm : gl.mg "standings_of" = some (.ref f)) (T : Txt gl) (C_is_listed : Cal gl 1 "is_listed" 1 (sp_is_listed)) (C_begun : Cal gl 3 "begun" 1 (sp_begun)) (C_is_hand : Cal gl 4 "is_hand" 2 (sp_is_hand)) (C_after_step : Cal gl 4 "after_step" 3 (sp_step)) : Cal gl 5 "standings_of" 2 (sp_standings) := by
  refine cal_d F hm sc_standings_of rfl (fun _ _ _ _ _ _ us hl => match us, hl with | [_, _], _ => rfl) fun W A0 ds post hl hs => ?_
  obtain ⟨R, rows, w, hds, op, ok, hw, q⟩ := hs
  rcases hds with rfl | rfl
  · refine dss_cons ?_
    refine ds_if ?_
    refine dt_not ?_
    refine dt_val ?_
    refine de_call C_is_listed ?_
    refine da_cons ?_
    refine de_v 1 rfl ?_  -- weaving
    refine da_nil ?_
    refine ⟨rfl, wD w, .inl rfl, ?_⟩
    refine ifF (rfl) ?_
    refine dss_nil ?_
    refine dss_cons ?_
    refine ds_new 2 ?_
    refine da_cons ?_
    refine de_call C_begun ?_
    refine da_cons ?_
    refine de_v 0 rfl ?_  -- play
    refine da_nil ?_
    refine ⟨rfl, R, rows, rfl, op, ?_⟩
    refine da_nil ?_
    refine ⟨Nat.le_of_ble_eq_true rfl, fun o => ?_⟩
    refine dss_cons ?_
    refine ds_for2 3 4 ?_
    refine di_enumT T.enumerate ?_
    refine de_v 1 rfl ?_  -- weaving
    refine ⟨fun j ρ' => ∃ a b : Sl, a.adr = none ∧ b.adr = none ∧ ρ' = [.dat (dPlay R rows), .dat (.tup (wD w)), .own o ((stood R (initS rows) (w.take j)).map (dSg R)), a, b], ⟨.non, .non, rfl, rfl, rfl⟩, fun j ρ' hI => by obtain ⟨a, b, ha, hb, rfl⟩ := hI; show [none, none, some o, a.adr, b.adr] = _; rw [ha, hb]; rfl, fun j ρ d hI hd => ?_, fun ρ hI => ?_⟩
    · obtain ⟨a, b, ha, hb, rfl⟩ := hI
      obtain ⟨d1, hw1, rfl⟩ := enumD_at hd
      obtain ⟨h, hh, rfl⟩ := wD_at hw1
      obtain ⟨⟨r, t, b2⟩, hp⟩ := okW_take ok hh
      have hlt := st_lt (wf_of op _) hp
      refine ⟨_, _, rfl, ?_⟩
      refine dss_cons ?_
      refine ds_if ?_
      refine dt_or2 ?_
      refine dt_not ?_
      refine dt_val ?_
      refine de_call C_is_hand ?_
      refine da_cons ?_
      refine de_v 0 rfl ?_  -- play
      refine da_cons ?_
      refine de_v 4 rfl ?_  -- hand
      refine da_nil ?_
      refine ⟨rfl, R, rows, h, rfl, ?_⟩
      refine ifF (by simp [hlt]) ?_
      refine dt_cmp ?_
      refine dc_isN ?_
      refine de_ix ?_
      refine de_ix ?_
      refine de_ixOwn 2 rfl ?_
      refine de_neg ?_
      refine de_int ?_  -- 1
      refine ⟨_, lastAt, ?_⟩
      refine de_int ?_  -- 1
      refine ⟨_, rfl, ?_⟩
      refine de_v 4 rfl ?_  -- hand
      refine ⟨_, atMap hp, ?_⟩
      refine ifF (rfl) ?_
      refine dss_nil ?_
      refine dss_cons ?_
      refine ds_append 2 rfl ?_
      refine de_call C_after_step ?_
      refine da_cons ?_
      refine de_v 0 rfl ?_  -- play
      refine da_cons ?_
      refine de_ixOwn 2 rfl ?_
      refine de_neg ?_
      refine de_int ?_  -- 1
      refine ⟨_, lastAt, ?_⟩
      refine da_cons ?_
      refine de_v 4 rfl ?_  -- hand
      refine da_nil ?_
      refine ⟨rfl, R, rows, _, h, (r, t, b2), rfl, op, wf_of op _, hp, ?_⟩
      refine ⟨by rw [List.length_map, stood_len, List.length_take]; omega, ?_⟩
      refine dss_nil ?_
      refine ⟨.dat (.int (j : Int)), .dat (.int (h : Int)), rfl, rfl, ?_⟩
      rw [stood_take hh, List.map_append]
      rfl
    · obtain ⟨a, b, ha, hb, rfl⟩ := hI
      rw [show w.take (enumD (wD w)).length = w from List.take_of_length_le (by rw [enumD_len, wD_len]; exact Nat.le_refl _)]
      refine dss_cons ?_
      refine ds_retOwn 2 rfl ?_
      exact q
  · refine dss_cons ?_
    refine ds_if ?_
    refine dt_not ?_
    refine dt_val ?_
    refine de_call C_is_listed ?_
    refine da_cons ?_
    refine de_v 1 rfl ?_  -- weaving
    refine da_nil ?_
    refine ⟨rfl, wD w, .inr rfl, ?_⟩
    refine ifF (rfl) ?_
    refine dss_nil ?_
    refine dss_cons ?_
    refine ds_new 2 ?_
    refine da_cons ?_
    refine de_call C_begun ?_
    refine da_cons ?_
    refine de_v 0 rfl ?_  -- play
    refine da_nil ?_
    refine ⟨rfl, R, rows, rfl, op, ?_⟩
    refine da_nil ?_
    refine ⟨Nat.le_of_ble_eq_true rfl, fun o => ?_⟩
    refine dss_cons ?_
    refine ds_for2 3 4 ?_
    refine di_enumL T.enumerate ?_
    refine de_v 1 rfl ?_  -- weaving
    refine ⟨fun j ρ' => ∃ a b : Sl, a.adr = none ∧ b.adr = none ∧ ρ' = [.dat (dPlay R rows), .dat (.lst (wD w)), .own o ((stood R (initS rows) (w.take j)).map (dSg R)), a, b], ⟨.non, .non, rfl, rfl, rfl⟩, fun j ρ' hI => by obtain ⟨a, b, ha, hb, rfl⟩ := hI; show [none, none, some o, a.adr, b.adr] = _; rw [ha, hb]; rfl, fun j ρ d hI hd => ?_, fun ρ hI => ?_⟩
    · obtain ⟨a, b, ha, hb, rfl⟩ := hI
      obtain ⟨d1, hw1, rfl⟩ := enumD_at hd
      obtain ⟨h, hh, rfl⟩ := wD_at hw1
      obtain ⟨⟨r, t, b2⟩, hp⟩ := okW_take ok hh
      have hlt := st_lt (wf_of op _) hp
      refine ⟨_, _, rfl, ?_⟩
      refine dss_cons ?_
      refine ds_if ?_
      refine dt_or2 ?_
      refine dt_not ?_
      refine dt_val ?_
      refine de_call C_is_hand ?_
      refine da_cons ?_
      refine de_v 0 rfl ?_  -- play
      refine da_cons ?_
      refine de_v 4 rfl ?_  -- hand
      refine da_nil ?_
      refine ⟨rfl, R, rows, h, rfl, ?_⟩
      refine ifF (by simp [hlt]) ?_
      refine dt_cmp ?_
      refine dc_isN ?_
      refine de_ix ?_
      refine de_ix ?_
      refine de_ixOwn 2 rfl ?_
      refine de_neg ?_
      refine de_int ?_  -- 1
      refine ⟨_, lastAt, ?_⟩
      refine de_int ?_  -- 1
      refine ⟨_, rfl, ?_⟩
      refine de_v 4 rfl ?_  -- hand
      refine ⟨_, atMap hp, ?_⟩
      refine ifF (rfl) ?_
      refine dss_nil ?_
      refine dss_cons ?_
      refine ds_append 2 rfl ?_
      refine de_call C_after_step ?_
      refine da_cons ?_
      refine de_v 0 rfl ?_  -- play
      refine da_cons ?_
      refine de_ixOwn 2 rfl ?_
      refine de_neg ?_
      refine de_int ?_  -- 1
      refine ⟨_, lastAt, ?_⟩
      refine da_cons ?_
      refine de_v 4 rfl ?_  -- hand
      refine da_nil ?_
      refine ⟨rfl, R, rows, _, h, (r, t, b2), rfl, op, wf_of op _, hp, ?_⟩
      refine ⟨by rw [List.length_map, stood_len, List.length_take]; omega, ?_⟩
      refine dss_nil ?_
      refine ⟨.dat (.int (j : Int)), .dat (.int (h : Int)), rfl, rfl, ?_⟩
      rw [stood_take hh, List.map_append]
      rfl
    · obtain ⟨a, b, ha, hb, rfl⟩ := hI
      rw [show w.take (enumD (wD w)).length = w from List.take_of_length_le (by rw [enumD_len, wD_len]; exact Nat.le_refl _)]
      refine dss_cons ?_
      refine ds_retOwn 2 rfl ?_
      exact q
abbrev s_run : Stmt := topS 85
theorem sc_run : FnScope ["play", "weaving"] ["play", "weaving"] (defScope s_run) := ⟨rfl, rfl, rfl, by decide +kernel, rfl, by decide +kernel, by decide +kernel⟩
theorem c_run (F : FnP gl.K "run" "run" s_run f fd) (hm : gl.mg "run" = some (.ref f)) (T : Txt gl) (C_standings_of : Cal gl 5 "standings_of" 2 (sp_standings)) : Cal gl 6 "run" 2 (sp_run) := by
  refine cal_d F hm sc_run rfl (fun _ _ _ _ _ _ us hl => match us, hl with | [_, _], _ => rfl) fun W A0 ds post hl hs => ?_
  obtain ⟨R, rows, w, hds, op, ok, hw, q⟩ := hs
  rcases hds with rfl | rfl
  · refine dss_cons ?_
    refine ds_ret ?_
    refine de_ix ?_
    refine de_call C_standings_of ?_
    refine da_cons ?_
    refine de_v 0 rfl ?_  -- play
    refine da_cons ?_
    refine de_v 1 rfl ?_  -- weaving
    refine da_nil ?_
    refine ⟨rfl, R, rows, w, .inl rfl, op, ok, hw, ?_⟩
    refine de_neg ?_
    refine de_int ?_  -- 1
    refine ⟨_, lastAt, ?_⟩
    exact q
  · refine dss_cons ?_
    refine ds_ret ?_
    refine de_ix ?_
    refine de_call C_standings_of ?_
    refine da_cons ?_
    refine de_v 0 rfl ?_  -- play
    refine da_cons ?_
    refine de_v 1 rfl ?_  -- weaving
    refine da_nil ?_
    refine ⟨rfl, R, rows, w, .inr rfl, op, ok, hw, ?_⟩
    refine de_neg ?_
    refine de_int ?_  -- 1
    refine ⟨_, lastAt, ?_⟩
    exact q
abbrev s_run_out : Stmt := topS 86
theorem sc_run_out : FnScope ["play", "weaving", "here", "found", "left"] ["play", "weaving"] (defScope s_run_out) := ⟨rfl, rfl, rfl, by decide +kernel, rfl, by decide +kernel, by decide +kernel⟩
theorem c_run_out (F : FnP gl.K "run_out" "run_out" s_run_out f fd) (hm : gl.mg "run_out" = some (.ref f)) (T : Txt gl) (C_run : Cal gl 6 "run" 2 (sp_run)) (C_movers : Cal gl 1 "movers" 1 (sp_movers)) (C_after_step : Cal gl 4 "after_step" 3 (sp_step)) : Cal gl 7 "run_out" 2 (sp_run_out) := by
  refine cal_d F hm sc_run_out rfl (fun _ _ _ _ _ _ us hl => match us, hl with | [_, _], _ => rfl) fun W A0 ds post hl hs => ?_
  obtain ⟨R, rows, w, hds, op, ok, hw, q⟩ := hs
  have hmu := mu_60 op ok
  have hl5 : ∀ v, (runS R (initS rows) v).st.length ≤ 1000 := fun v => by rw [(wf_of op v).ls]; have := op.n5; omega
  rcases hds with rfl | rfl
  · refine dss_cons ?_
    refine ds_set 2 ?_  -- here
    refine de_call C_run ?_
    refine da_cons ?_
    refine de_v 0 rfl ?_  -- play
    refine da_cons ?_
    refine de_v 1 rfl ?_  -- weaving
    refine da_nil ?_
    refine ⟨rfl, R, rows, w, .inl rfl, op, ok, hw, ?_⟩
    refine dss_cons ?_
    refine ds_newListOf 3 T.list ?_
    refine de_v 1 rfl ?_  -- weaving
    intro o
    refine dss_cons ?_
    refine ds_set 4 ?_  -- left
    refine de_call C_movers ?_
    refine da_cons ?_
    refine de_v 2 rfl ?_  -- here
    refine da_nil ?_
    refine ⟨rfl, R, _, rfl, hl5 w, ?_⟩
    refine dss_cons ?_
    refine ds_while (fun m ρ' => ∃ u, okW R (runS R (initS rows) w) u ∧ mu R (runS R (initS rows) (w ++ u)) = m ∧ outF R 60 (runS R (initS rows) w) = u ++ outF R m (runS R (initS rows) (w ++ u)) ∧ ρ' = [.dat (dPlay R rows), .dat (.tup (wD w)), .dat (dSg R (runS R (initS rows) (w ++ u))), .own o (wD (w ++ u)), .dat (.tup (wD (canS (runS R (initS rows) (w ++ u)))))]) ⟨_, [], trivial, rfl, by rw [List.append_nil]; exact outF_more _ _ (wf_of op w) (Nat.le_refl _) (by omega), by rw [List.append_nil]; rfl⟩ fun m ρ hI => ?_
    obtain ⟨u, hu, hm, ho, rfl⟩ := hI
    refine dt_cmp ?_
    refine dc_gt ?_
    refine de_len T.len ?_
    refine de_v 4 rfl ?_  -- left
    refine de_int ?_  -- 0
    refine ifB (fun hk => ?_) (fun hk => ?_)
    · obtain ⟨h, l, hcs, p, hp⟩ := head_canS (S := runS R (initS rows) (w ++ u)) (by simpa [wD_len] using hk)
      obtain ⟨k1, k2, k3⟩ := out_step op hu hm ho hcs hp
      have hul := mu_run u (wf_of op w) hu
      refine dss_cons ?_
      refine ds_set 2 ?_  -- here
      refine de_call C_after_step ?_
      refine da_cons ?_
      refine de_v 0 rfl ?_  -- play
      refine da_cons ?_
      refine de_v 2 rfl ?_  -- here
      refine da_cons ?_
      refine de_ix ?_
      refine de_v 4 rfl ?_  -- left
      refine de_int ?_  -- 0
      refine ⟨_, atI_nat (j := 0) (by rw [hcs]; rfl), ?_⟩
      refine da_nil ?_
      refine ⟨rfl, R, rows, _, h, p, rfl, op, wf_of op _, hp, ?_⟩
      refine dss_cons ?_
      refine ds_append 3 rfl ?_
      refine de_ix ?_
      refine de_v 4 rfl ?_  -- left
      refine de_int ?_  -- 0
      refine ⟨_, atI_nat (j := 0) (by rw [hcs]; rfl), ?_⟩
      refine ⟨by rw [wD_len, List.length_append]; omega, ?_⟩
      refine dss_cons ?_
      refine ds_set 4 ?_  -- left
      refine de_call C_movers ?_
      refine da_cons ?_
      refine de_v 2 rfl ?_  -- here
      refine da_nil ?_
      refine ⟨rfl, R, stepS R (runS R (initS rows) (w ++ u)) h, rfl, by rw [← run_snoc]; exact hl5 _, ?_⟩
      refine dss_nil ?_
      refine ⟨_, k1, u ++ [h], k2, by rw [← List.append_assoc, run_snoc], by rw [← List.append_assoc, run_snoc]; exact k3, ?_⟩
      rw [← List.append_assoc, run_snoc, wD_append (w ++ u) [h]]
      rfl
    · have hcs := nil_canS (S := runS R (initS rows) (w ++ u)) (by simpa [wD_len] using hk)
      skip
      refine dss_cons ?_
      refine ds_ret ?_
      refine de_tupleOwn 3 T.tuple rfl ?_
      rw [ho, outF_nil hcs, List.append_nil] at q
      exact q
  · refine dss_cons ?_
    refine ds_set 2 ?_  -- here
    refine de_call C_run ?_
    refine da_cons ?_
    refine de_v 0 rfl ?_  -- play
    refine da_cons ?_
    refine de_v 1 rfl ?_  -- weaving
    refine da_nil ?_
    refine ⟨rfl, R, rows, w, .inr rfl, op, ok, hw, ?_⟩
    refine dss_cons ?_
    refine ds_newListOf 3 T.list ?_
    refine de_v 1 rfl ?_  -- weaving
    intro o
    refine dss_cons ?_
    refine ds_set 4 ?_  -- left
    refine de_call C_movers ?_
    refine da_cons ?_
    refine de_v 2 rfl ?_  -- here
    refine da_nil ?_
    refine ⟨rfl, R, _, rfl, hl5 w, ?_⟩
    refine dss_cons ?_
    refine ds_while (fun m ρ' => ∃ u, okW R (runS R (initS rows) w) u ∧ mu R (runS R (initS rows) (w ++ u)) = m ∧ outF R 60 (runS R (initS rows) w) = u ++ outF R m (runS R (initS rows) (w ++ u)) ∧ ρ' = [.dat (dPlay R rows), .dat (.lst (wD w)), .dat (dSg R (runS R (initS rows) (w ++ u))), .own o (wD (w ++ u)), .dat (.tup (wD (canS (runS R (initS rows) (w ++ u)))))]) ⟨_, [], trivial, rfl, by rw [List.append_nil]; exact outF_more _ _ (wf_of op w) (Nat.le_refl _) (by omega), by rw [List.append_nil]; rfl⟩ fun m ρ hI => ?_
    obtain ⟨u, hu, hm, ho, rfl⟩ := hI
    refine dt_cmp ?_
    refine dc_gt ?_
    refine de_len T.len ?_
    refine de_v 4 rfl ?_  -- left
    refine de_int ?_  -- 0
    refine ifB (fun hk => ?_) (fun hk => ?_)
    · obtain ⟨h, l, hcs, p, hp⟩ := head_canS (S := runS R (initS rows) (w ++ u)) (by simpa [wD_len] using hk)
      obtain ⟨k1, k2, k3⟩ := out_step op hu hm ho hcs hp
      have hul := mu_run u (wf_of op w) hu
      refine dss_cons ?_
      refine ds_set 2 ?_  -- here
      refine de_call C_after_step ?_
      refine da_cons ?_
      refine de_v 0 rfl ?_  -- play
      refine da_cons ?_
      refine de_v 2 rfl ?_  -- here
      refine da_cons ?_
      refine de_ix ?_
      refine de_v 4 rfl ?_  -- left
      refine de_int ?_  -- 0
      refine ⟨_, atI_nat (j := 0) (by rw [hcs]; rfl), ?_⟩
      refine da_nil ?_
      refine ⟨rfl, R, rows, _, h, p, rfl, op, wf_of op _, hp, ?_⟩
      refine dss_cons ?_
      refine ds_append 3 rfl ?_
      refine de_ix ?_
      refine de_v 4 rfl ?_  -- left
      refine de_int ?_  -- 0
      refine ⟨_, atI_nat (j := 0) (by rw [hcs]; rfl), ?_⟩
      refine ⟨by rw [wD_len, List.length_append]; omega, ?_⟩
      refine dss_cons ?_
      refine ds_set 4 ?_  -- left
      refine de_call C_movers ?_
      refine da_cons ?_
      refine de_v 2 rfl ?_  -- here
      refine da_nil ?_
      refine ⟨rfl, R, stepS R (runS R (initS rows) (w ++ u)) h, rfl, by rw [← run_snoc]; exact hl5 _, ?_⟩
      refine dss_nil ?_
      refine ⟨_, k1, u ++ [h], k2, by rw [← List.append_assoc, run_snoc], by rw [← List.append_assoc, run_snoc]; exact k3, ?_⟩
      rw [← List.append_assoc, run_snoc, wD_append (w ++ u) [h]]
      rfl
    · have hcs := nil_canS (S := runS R (initS rows) (w ++ u)) (by simpa [wD_len] using hk)
      skip
      refine dss_cons ?_
      refine ds_ret ?_
      refine de_tupleOwn 3 T.tuple rfl ?_
      rw [ho, outF_nil hcs, List.append_nil] at q
      exact q
abbrev s_is_came : Stmt := topS 89
theorem sc_is_came : FnScope ["play", "thing", "one", "other", "item"] ["play", "thing"] (defScope s_is_came) := ⟨rfl, rfl, rfl, by decide +kernel, rfl, by decide +kernel, by decide +kernel⟩
theorem c_is_came (F : FnP gl.K "is_came" "is_came" s_is_came f fd) (hm : gl.mg "is_came" = some (.ref f)) (T : Txt gl) (C_is_hand : Cal gl 4 "is_hand" 2 (sp_is_hand)) : Cal gl 5 "is_came" 2 (sp_is_came) := by
  refine cal_d F hm sc_is_came rfl (fun _ _ _ _ _ _ us hl => match us, hl with | [_, _], _ => rfl) fun W A0 ds post hl hs => ?_
  obtain ⟨R, rows, w, rfl, hw, hlt, up, q⟩ := hs
  refine dss_cons ?_
  refine ds_if ?_
  refine dt_or2 ?_
  refine dt_not ?_
  refine dt_val ?_
  refine de_isi (T := "tuple") T.isinstance T.tuple (by decide +kernel) ?_
  refine de_v 1 rfl ?_  -- thing
  refine ⟨_, true, rfl, by decide +kernel, ?_⟩
  refine ifF (rfl) ?_
  refine dt_not ?_
  refine dt_val ?_
  refine de_all T.all ?_
  refine de_lcM 4 ?_
  refine di_tup ?_
  refine de_v 1 rfl ?_  -- thing
  refine ⟨by rw [wD_len]; omega, w.map fun _ => D.bl true, by simp [wD_len], fun A j d hd => ?_, ?_⟩
  · obtain ⟨h, hh, rfl⟩ := wD_at hd
    refine de_call C_is_hand ?_
    refine da_cons ?_
    refine de_v 0 rfl ?_  -- play
    refine da_cons ?_
    refine de_v 4 rfl ?_  -- item
    refine da_nil ?_
    refine ⟨rfl, R, rows, h, rfl, ?_⟩
    rw [show decide ((0 : Int) ≤ (h : Int) ∧ (h : Int) < (rows.length : Int)) = true by have := hlt h (List.mem_of_getElem? hh); simp [this]]
    exact mapGet hh
  · refine ⟨w.map fun _ => true, by simp, ?_⟩
    refine ifF (by simp) ?_
    refine dss_nil ?_
    refine dss_cons ?_
    refine ds_ret ?_
    refine de_all T.all ?_
    refine de_lc2M 2 3 ?_
    refine di_zipT T.zip ?_
    refine de_v 1 rfl ?_  -- thing
    refine de_fromT ?_
    refine de_v 1 rfl ?_  -- thing
    refine de_int ?_  -- 1
    refine ⟨by decide, ?_⟩
    refine ⟨by rw [zipD_len, wD_len]; omega, (zipD (wD w) ((wD w).drop (1 : Int).toNat)).map fun _ => D.bl true, by rw [List.length_map], fun A j d hd => ?_, ?_⟩
    · have hd0 := hd
      obtain ⟨x, y, hx, hy, rfl⟩ := zipD_at hd
      rw [List.getElem?_drop] at hy
      obtain ⟨h, hh, rfl⟩ := wD_at hx
      obtain ⟨h', hh', rfl⟩ := wD_at hy
      refine ⟨_, _, rfl, ?_⟩
      refine de_cmp ?_
      refine dc_lt ?_
      refine de_v 2 rfl ?_  -- one
      refine de_v 3 rfl ?_  -- other
      show (List.map (fun x => D.bl true) _)[j]? = some (D.bl (decide ((h : Int) < (h' : Int))))
      rw [decide_eq_true (Int.ofNat_lt.mpr (came_lt up hh hh'))]
      exact mapGet (f := fun _ => D.bl true) hd0
    · refine ⟨(zipD (wD w) ((wD w).drop (1 : Int).toNat)).map fun _ => true, by simp, ?_⟩
      rw [show (((zipD (wD w) ((wD w).drop (1 : Int).toNat)).map fun _ => true).all id) = true by simp]
      exact q
abbrev s_is_told : Stmt := topS 95
theorem sc_is_told : FnScope ["play", "thing", "many", "hand", "items", "item"] ["play", "thing"] (defScope s_is_told) := ⟨rfl, rfl, rfl, by decide +kernel, rfl, by decide +kernel, by decide +kernel⟩
theorem c_is_told (F : FnP gl.K "is_told" "is_told" s_is_told f fd) (hm : gl.mg "is_told" = some (.ref f)) (T : Txt gl) (C_is_sized : Cal gl 1 "is_sized" 3 (sp_is_sized)) (C_most_told : Cal gl 1 "most_told" 2 (sp_most_told)) (C_is_item : Cal gl 3 "is_item" 2 (sp_is_item)) : Cal gl 4 "is_told" 2 (sp_is_told) := by
  refine cal_d F hm sc_is_told rfl (fun _ _ _ _ _ _ us hl => match us, hl with | [_, _], _ => rfl) fun W A0 ds post hl hs => ?_
  obtain ⟨R, rows, told, rfl, hl, h5, h1, q⟩ := hs
  refine dss_cons ?_
  refine ds_set 2 ?_  -- many
  refine de_len T.len ?_
  refine de_rows T.play ?_
  refine de_v 0 rfl ?_  -- play
  refine ⟨_, _, rfl, ?_⟩
  refine dss_cons ?_
  refine ds_if ?_
  refine dt_not ?_
  refine dt_val ?_
  refine de_call C_is_sized ?_
  refine da_cons ?_
  refine de_v 1 rfl ?_  -- thing
  refine da_cons ?_
  refine de_v 2 rfl ?_  -- many
  refine da_cons ?_
  refine de_v 2 rfl ?_  -- many
  refine da_nil ?_
  refine ⟨rfl, _, _, _, rfl, ?_⟩
  refine ifF (by simp [hl]) ?_
  refine dss_nil ?_
  refine dss_cons ?_
  refine ds_for2 3 4 ?_
  refine di_enumT T.enumerate ?_
  refine de_v 1 rfl ?_  -- thing
  refine ⟨fun j ρ' => ∃ a b : Sl, a.adr = none ∧ b.adr = none ∧ ρ' = [.dat (dPlay R rows), .dat (dTolds R told), .dat (.int ((rows.map D.int).length : Int)), a, b, .non], ⟨.non, .non, rfl, rfl, rfl⟩, fun j ρ' hI => by obtain ⟨a, b, ha, hb, rfl⟩ := hI; show [none, none, none, a.adr, b.adr, none] = _; rw [ha, hb]; rfl, fun j ρ d hI hd => ?_, fun ρ hI => ?_⟩
  · obtain ⟨a, b, ha, hb, rfl⟩ := hI
    obtain ⟨x, hx, rfl⟩ := enumD_at hd
    obtain ⟨l, hl2, rfl⟩ := mapAt hx
    have hl1 := h1 l (List.mem_of_getElem? hl2)
    refine ⟨_, _, rfl, ?_⟩
    refine dss_cons ?_
    refine ds_if ?_
    refine dt_or2 ?_
    refine dt_not ?_
    refine dt_val ?_
    refine de_call C_is_sized ?_
    refine da_cons ?_
    refine de_v 4 rfl ?_  -- items
    refine da_cons ?_
    refine de_int ?_  -- 0
    refine da_cons ?_
    refine de_call C_most_told ?_
    refine da_cons ?_
    refine de_v 0 rfl ?_  -- play
    refine da_cons ?_
    refine de_v 3 rfl ?_  -- hand
    refine da_nil ?_
    refine ⟨rfl, R, rows, _, rfl, ?_⟩
    refine da_nil ?_
    refine ⟨rfl, _, _, _, rfl, ?_⟩
    refine ifF (by simp; omega) ?_
    refine dt_not ?_
    refine dt_val ?_
    refine de_all T.all ?_
    refine de_lcM 5 ?_
    refine di_tup ?_
    refine de_v 4 rfl ?_  -- items
    refine ⟨by simp; omega, l.map fun _ => D.bl true, by simp, fun A j d hd => ?_, ?_⟩
    · obtain ⟨t, ht, rfl⟩ := mapAt hd
      refine de_call C_is_item ?_
      refine da_cons ?_
      refine de_v 0 rfl ?_  -- play
      refine da_cons ?_
      refine de_v 5 rfl ?_  -- item
      refine da_nil ?_
      refine ⟨rfl, R, rows, t, rfl, ?_⟩
      exact mapGet ht
    · refine ⟨l.map fun _ => true, by simp, ?_⟩
      refine ifF (by simp) ?_
      refine dss_nil ?_
      refine dss_nil ?_
      exact ⟨.dat _, .dat _, rfl, rfl, rfl⟩
  · obtain ⟨a, b, ha, hb, rfl⟩ := hI
    refine dss_cons ?_
    refine ds_ret ?_
    refine de_bl ?_  -- True
    exact q
abbrev s_flat : Stmt := topS 96
theorem sc_flat : FnScope ["told", "found", "items"] ["told"] (defScope s_flat) := ⟨rfl, rfl, rfl, by decide +kernel, rfl, by decide +kernel, by decide +kernel⟩
theorem c_flat (F : FnP gl.K "flat" "flat" s_flat f fd) (hm : gl.mg "flat" = some (.ref f)) (T : Txt gl) : Cal gl 1 "flat" 1 (sp_flat) := by
  refine cal_d F hm sc_flat rfl (fun _ _ _ _ _ _ us hl => match us, hl with | [_], _ => rfl) fun W A0 ds post hl hs => ?_
  obtain ⟨R, told, rfl, hl, h1, q⟩ := hs
  refine dss_cons ?_
  refine ds_new 1 ?_
  refine da_nil ?_
  refine ⟨Nat.le_of_ble_eq_true rfl, fun o => ?_⟩
  refine dss_cons ?_
  refine ds_for 2 ?_
  refine di_tup ?_
  refine de_v 0 rfl ?_  -- told
  refine ⟨fun j ρ' => ∃ a : Sl, a.adr = none ∧ ρ' = [.dat (dTolds R told), .own o ((told.take j).flatten.map (dItem R)), a], ⟨.non, rfl, rfl⟩, fun j ρ' hI => by obtain ⟨a, ha, rfl⟩ := hI; show [none, some o, a.adr] = _; rw [ha]; rfl, fun j ρ d hI hd => ?_, fun ρ hI => ?_⟩
  · obtain ⟨a, ha, rfl⟩ := hI
    obtain ⟨l, hl2, rfl⟩ := mapAt hd
    refine dss_cons ?_
    refine ds_extendT 1 rfl ?_
    refine de_v 2 rfl ?_  -- items
    refine ⟨by have k1 := flat_take_len h1 j; have k2 := h1 l (List.mem_of_getElem? hl2); rw [List.length_map, List.length_map]; omega, ?_⟩
    refine dss_nil ?_
    refine ⟨.dat (dTold R l), rfl, ?_⟩
    rw [take_flat hl2]
    rfl
  · obtain ⟨a, ha, rfl⟩ := hI
    rw [show told.take (told.map (dTold R)).length = told from List.take_of_length_le (by rw [List.length_map]; exact Nat.le_refl _)]
    refine dss_cons ?_
    refine ds_retOwn 1 rfl ?_
    exact q
end
end Op
namespace Op
open PySem PySem.Spec PyProof.Rows L2 Dl
section
variable {gl : Glob} {f : Addr} {fd : FuncData}
abbrev s_near_fault : Stmt := topS 107
theorem sc_near_fault : FnScope ["play", "came", "told", "tops", "worth", "turn", "values", "item", "hand"] ["play", "came", "told"] (defScope s_near_fault) := ⟨rfl, rfl, rfl, by decide +kernel, rfl, by decide +kernel, by decide +kernel⟩
theorem c_near_fault (F : FnP gl.K "near_fault" "near_fault" s_near_fault f fd) (hm : gl.mg "near_fault" = some (.ref f)) (T : Txt gl) (C_flat : Cal gl 1 "flat" 1 (sp_flat)) : Cal gl 2 "near_fault" 3 (sp_fault) := by
  refine cal_d F hm sc_near_fault rfl (fun _ _ _ _ _ _ us hl => match us, hl with | [_, _, _], _ => rfl) fun W A0 ds post hl hs => ?_
  obtain ⟨R, rows, came, told, rfl, fi, q⟩ := hs
  have op := fi.ok
  have h5 := op.n5
  have h6 := op.r6
  have hfl := flat_len fi.one
  have e1 := fi.len
  refine dss_cons ?_
  refine ds_setLcM 3 7 ?_
  refine di_lst ?_
  refine de_call C_flat ?_
  refine da_cons ?_
  refine de_v 2 rfl ?_  -- told
  refine da_nil ?_
  refine ⟨rfl, R, told, rfl, by omega, fi.one, ?_⟩
  refine ⟨by rw [List.length_map]; omega, told.flatten.map D.int, by rw [List.length_map, List.length_map], fun A j d hd => ?_, ?_⟩
  · obtain ⟨t, ht, rfl⟩ := mapAt hd
    refine de_ix ?_
    refine de_v 7 rfl ?_  -- item
    refine de_int ?_  -- 0
    refine ⟨_, rfl, ?_⟩
    exact mapGet ht
  · refine dss_cons ?_
    refine ds_if ?_
    refine dt_cmp ?_
    refine dc_eq ?_
    refine de_len T.len ?_
    refine de_v 3 rfl ?_  -- tops
    refine de_int ?_  -- 0
    refine ⟨_, rfl, ?_⟩
    refine ifB (fun hk => ?_) (fun hk => ?_)
    · refine dss_cons ?_
      refine ds_ret ?_
      refine de_non ?_  -- None
      exact q
    · have hne : told.flatten ≠ [] := fun z => of_decide_eq_false hk (by rw [z]; rfl)
      refine dss_nil ?_
      refine dss_cons ?_
      refine ds_set 4 ?_  -- worth
      refine de_int ?_  -- 1
      refine dss_cons ?_
      refine ds_for 5 ?_
      refine di_range T.range ?_
      refine de_ix ?_
      refine de_inputs T.play ?_
      refine de_v 0 rfl ?_  -- play
      refine ⟨_, _, rfl, ?_⟩
      refine de_int ?_  -- 0
      refine ⟨_, rfl, ?_⟩
      refine ⟨_, rfl, by omega, ?_⟩
      refine ⟨fun j ρ' => ∃ a : Sl, a.adr = none ∧ ρ' = [.dat (dPlay R rows), .dat (.tup (wD came)), .dat (dTolds R told), .dat (.lst (told.flatten.map D.int)), .dat (.int (2 ^ j)), a, .non, .non, .non], ⟨.non, rfl, rfl⟩, fun j ρ' hI => by obtain ⟨a, ha, rfl⟩ := hI; show [none, none, none, none, none, a.adr, none, none, none] = _; rw [ha]; rfl, fun j ρ d hI hd => ?_, fun ρ hI => ?_⟩
      · obtain ⟨a, ha, rfl⟩ := hI
        obtain ⟨hj, rfl⟩ := rangeD_at hd
        refine dss_cons ?_
        refine ds_set 4 ?_  -- worth
        refine de_mul ?_
        refine de_int ?_  -- 2
        refine de_v 4 rfl ?_  -- worth
        refine ⟨.inl ⟨by decide, by decide⟩, ?_⟩
        refine dss_nil ?_
        refine ⟨.dat (.int (j : Int)), rfl, ?_⟩
        rw [show (2 : Int) ^ (j + 1) = 2 * 2 ^ j by rw [Int.pow_succ, Int.mul_comm]]
        rfl
      · obtain ⟨a, ha, rfl⟩ := hI
        rw [rangeD_len]
        refine dss_cons ?_
        refine ds_setLcM 6 8 ?_
        refine di_tup ?_
        refine de_v 1 rfl ?_  -- came
        refine ⟨by rw [wD_len]; have := fi.cl; omega, (came.map fun h => rows.getD h 0).map D.int, by simp [wD_len], fun A j d hd => ?_, ?_⟩
        · obtain ⟨h, hh, rfl⟩ := wD_at hd
          refine de_ix ?_
          refine de_rows T.play ?_
          refine de_v 0 rfl ?_  -- play
          refine ⟨_, _, rfl, ?_⟩
          refine de_v 8 rfl ?_  -- hand
          refine ⟨_, atMap (getD_some (fi.lt h (List.mem_of_getElem? hh))), ?_⟩
          exact mapGet (mapGet hh)
        · refine dss_cons ?_
          refine ds_if ?_
          refine dt_or2 ?_
          refine dt_cmp ?_
          refine dc_lt ?_
          refine de_min T.min ?_
          refine de_v 3 rfl ?_  -- tops
          refine ⟨told.flatten, rfl, List.length_pos_iff.mpr hne, fun m1 hm1 hl1 => ?_⟩
          refine de_mul ?_
          refine de_min T.min ?_
          refine de_v 6 rfl ?_  -- values
          refine ⟨came.map fun h => rows.getD h 0, rfl, fine_ne fi hne, fun m2 hm2 hl2 => ?_⟩
          refine de_v 4 rfl ?_  -- worth
          refine ⟨.inr (pow_cm h6), ?_⟩
          refine ifF (by rw [lmin_eq hm2 hl2]; exact decide_eq_false (Int.not_lt.mpr (fi.lo m1 hm1))) ?_
          refine dt_cmp ?_
          refine dc_gt ?_
          refine de_max T.max ?_
          refine de_v 3 rfl ?_  -- tops
          refine ⟨told.flatten, rfl, List.length_pos_iff.mpr hne, fun m3 hm3 hl3 => ?_⟩
          refine de_mul ?_
          refine de_max T.max ?_
          refine de_v 6 rfl ?_  -- values
          refine ⟨came.map fun h => rows.getD h 0, rfl, fine_ne fi hne, fun m4 hm4 hl4 => ?_⟩
          refine de_v 4 rfl ?_  -- worth
          refine ⟨.inr (pow_cm h6), ?_⟩
          refine ifF (by rw [lmax_eq hm4 hl4]; exact decide_eq_false (Int.not_lt.mpr (fi.hi m3 hm3))) ?_
          refine dss_nil ?_
          refine dss_cons ?_
          refine ds_ret ?_
          refine de_if ?_
          refine dt_cmp ?_
          refine dc_gt ?_
          refine de_sub ?_
          refine de_max T.max ?_
          refine de_v 3 rfl ?_  -- tops
          refine ⟨told.flatten, rfl, List.length_pos_iff.mpr hne, fun m5 hm5 hl5 => ?_⟩
          refine de_min T.min ?_
          refine de_v 3 rfl ?_  -- tops
          refine ⟨told.flatten, rfl, List.length_pos_iff.mpr hne, fun m6 hm6 hl6 => ?_⟩
          refine de_sub ?_
          refine de_max T.max ?_
          refine de_v 6 rfl ?_  -- values
          refine ⟨came.map fun h => rows.getD h 0, rfl, fine_ne fi hne, fun m7 hm7 hl7 => ?_⟩
          refine de_min T.min ?_
          refine de_v 6 rfl ?_  -- values
          refine ⟨came.map fun h => rows.getD h 0, rfl, fine_ne fi hne, fun m8 hm8 hl8 => ?_⟩
          refine ifF (by rw [lmax_eq hm7 hl7, lmin_eq hm8 hl8]; exact decide_eq_false (Int.not_lt.mpr (fi.far m5 hm5 m6 hm6))) ?_
          refine de_non ?_  -- None
          exact q
abbrev s_raw_fault : Stmt := topS 109
theorem sc_raw_fault : FnScope ["play", "came", "told", "hand", "items"] ["play", "came", "told"] (defScope s_raw_fault) := ⟨rfl, rfl, rfl, by decide +kernel, rfl, by decide +kernel, by decide +kernel⟩
theorem c_raw_fault (F : FnP gl.K "raw_fault" "raw_fault" s_raw_fault f fd) (hm : gl.mg "raw_fault" = some (.ref f)) (T : Txt gl) (C_near_fault : Cal gl 2 "near_fault" 3 (sp_fault)) : Cal gl 3 "raw_fault" 3 (sp_fault) := by
  refine cal_d F hm sc_raw_fault rfl (fun _ _ _ _ _ _ us hl => match us, hl with | [_, _, _], _ => rfl) fun W A0 ds post hl hs => ?_
  obtain ⟨R, rows, came, told, rfl, fi, q⟩ := hs
  have op := fi.ok
  have h5 := op.n5
  have e1 := fi.len
  refine dss_cons ?_
  refine ds_if ?_
  refine dt_val ?_
  refine de_any T.any ?_
  refine de_lc2M 3 4 ?_
  refine di_enumT T.enumerate ?_
  refine de_v 2 rfl ?_  -- told
  refine ⟨by rw [enumD_len, List.length_map]; omega, told.map fun _ => D.bl false, by rw [enumD_len, List.length_map, List.length_map], fun A j d hd => ?_, ?_⟩
  · obtain ⟨x, hx, rfl⟩ := enumD_at hd
    obtain ⟨l, hl, rfl⟩ := mapAt hx
    refine ⟨_, _, rfl, ?_⟩
    refine de_and ?_
    refine de_cmp ?_
    refine dc_gt ?_
    refine de_len T.len ?_
    refine de_v 4 rfl ?_  -- items
    refine de_int ?_  -- 0
    refine ifB (fun hk => ?_) (fun hk => ?_)
    · refine de_one ?_
      refine de_cmp ?_
      refine dc_notIn ?_
      refine de_v 3 rfl ?_  -- hand
      refine de_v 1 rfl ?_  -- came
      refine ⟨_, .inl ⟨_, nI came, rfl, .inl rfl, rfl⟩, ?_⟩
      rw [show decide ((j : Int) ∈ nI came) = true from decide_eq_true (mem_nI.mpr (fi.own j l hl fun z => by simp [z] at hk))]
      exact mapGet hl
    · exact mapGet hl
  · refine ⟨told.map fun _ => false, by simp, ?_⟩
    refine ifF (by simp) ?_
    refine dss_nil ?_
    refine dss_cons ?_
    refine ds_if ?_
    refine dt_cmp ?_
    refine dc_in ?_
    refine de_kind T.play ?_
    refine de_v 0 rfl ?_  -- play
    refine ⟨_, _, rfl, ?_⟩
    refine de_g T.MANNERS ?_
    refine ⟨_, .inr ⟨_, ["sweep", "twice", "borrow"], rfl, .inl rfl, rfl⟩, ?_⟩
    refine ifF (by decide +kernel) ?_
    refine dss_nil ?_
    refine dss_cons ?_
    refine ds_if ?_
    refine dt_cmp ?_
    refine dc_eq ?_
    refine de_kind T.play ?_
    refine de_v 0 rfl ?_  -- play
    refine ⟨_, _, rfl, ?_⟩
    refine de_g T.LEVELS ?_
    refine ⟨_, rfl, ?_⟩
    refine ifF (rfl) ?_
    refine dss_nil ?_
    refine dss_cons ?_
    refine ds_if ?_
    refine dt_cmp ?_
    refine dc_eq ?_
    refine de_kind T.play ?_
    refine de_v 0 rfl ?_  -- play
    refine ⟨_, _, rfl, ?_⟩
    refine de_g T.NAMES ?_
    refine ⟨_, rfl, ?_⟩
    refine ifF (rfl) ?_
    refine dss_nil ?_
    refine dss_cons ?_
    refine ds_ret ?_
    refine de_if ?_
    refine dt_cmp ?_
    refine dc_eq ?_
    refine de_kind T.play ?_
    refine de_v 0 rfl ?_  -- play
    refine ⟨_, _, rfl, ?_⟩
    refine de_g T.NEAR ?_
    refine ⟨_, rfl, ?_⟩
    refine ifT (rfl) ?_
    refine de_call C_near_fault ?_
    refine da_cons ?_
    refine de_v 0 rfl ?_  -- play
    refine da_cons ?_
    refine de_v 1 rfl ?_  -- came
    refine da_cons ?_
    refine de_v 2 rfl ?_  -- told
    refine da_nil ?_
    refine ⟨rfl, R, rows, came, told, rfl, fi, ?_⟩
    exact q
abbrev s_fault : Stmt := topS 110
theorem sc_fault : FnScope ["play", "came", "told"] ["play", "came", "told"] (defScope s_fault) := ⟨rfl, rfl, rfl, by decide +kernel, rfl, by decide +kernel, by decide +kernel⟩
theorem c_fault (F : FnP gl.K "fault" "fault" s_fault f fd) (hm : gl.mg "fault" = some (.ref f)) (T : Txt gl) (C_is_came : Cal gl 5 "is_came" 2 (sp_is_came)) (C_is_told : Cal gl 4 "is_told" 2 (sp_is_told)) (C_raw_fault : Cal gl 3 "raw_fault" 3 (sp_fault)) : Cal gl 6 "fault" 3 (sp_fault) := by
  refine cal_d F hm sc_fault rfl (fun _ _ _ _ _ _ us hl => match us, hl with | [_, _, _], _ => rfl) fun W A0 ds post hl hs => ?_
  obtain ⟨R, rows, came, told, rfl, fi, q⟩ := hs
  refine dss_cons ?_
  refine ds_if ?_
  refine dt_not ?_
  refine dt_val ?_
  refine de_call C_is_came ?_
  refine da_cons ?_
  refine de_v 0 rfl ?_  -- play
  refine da_cons ?_
  refine de_v 1 rfl ?_  -- came
  refine da_nil ?_
  refine ⟨rfl, R, rows, came, rfl, fi.cl, fi.lt, fi.up, ?_⟩
  refine ifF (rfl) ?_
  refine dss_nil ?_
  refine dss_cons ?_
  refine ds_if ?_
  refine dt_not ?_
  refine dt_val ?_
  refine de_call C_is_told ?_
  refine da_cons ?_
  refine de_v 0 rfl ?_  -- play
  refine da_cons ?_
  refine de_v 2 rfl ?_  -- told
  refine da_nil ?_
  refine ⟨rfl, R, rows, told, rfl, fi.len, fi.ok.n5, fi.one, ?_⟩
  refine ifF (rfl) ?_
  refine dss_nil ?_
  refine dss_cons ?_
  refine ds_ret ?_
  refine de_call C_raw_fault ?_
  refine da_cons ?_
  refine de_v 0 rfl ?_  -- play
  refine da_cons ?_
  refine de_v 1 rfl ?_  -- came
  refine da_cons ?_
  refine de_v 2 rfl ?_  -- told
  refine da_nil ?_
  refine ⟨rfl, R, rows, came, told, rfl, fi, ?_⟩
  exact q
end
end Op
namespace Op
open PySem PySem.Spec PyProof.Rows L2 Dl
section
variable {gl : Glob} {f : Addr} {fd : FuncData}
abbrev s_law_some : Stmt := topS 114
theorem sc_law_some : FnScope ["_law_hand_here", "_law_things"] ["_law_hand_here", "_law_things"] (defScope s_law_some) := ⟨rfl, rfl, rfl, by decide +kernel, rfl, by decide +kernel, by decide +kernel⟩
theorem c_law_some (F : FnP gl.K "_law_some" "_law_some" s_law_some f fd) (hm : gl.mg "_law_some" = some (.ref f)) (T : Txt gl) (C_law_draw : Cal gl 1 "_law_draw" 2 (sp_law_draw)) : Cal gl 2 "_law_some" 2 (sp_law_some) := by
  refine cal_d F hm sc_law_some rfl (fun _ _ _ _ _ _ us hl => match us, hl with | [_, _], _ => rfl) fun W A0 ds post hl hs => ?_
  obtain ⟨l, rfl, hne, hl, q⟩ := hs
  refine dss_cons ?_
  refine ds_ret ?_
  refine de_ix ?_
  refine de_v 1 rfl ?_  -- _law_things
  refine de_call C_law_draw ?_
  refine da_cons ?_
  refine de_v 0 rfl ?_  -- _law_hand_here
  refine da_cons ?_
  refine de_len T.len ?_
  refine de_v 1 rfl ?_  -- _law_things
  refine da_nil ?_
  refine ⟨rfl, _, rfl, by have := List.length_pos_iff.mpr hne; omega, by omega, fun d h0 h1 => ?_⟩
  refine ⟨_, (atIn h0 h1).choose_spec.2, ?_⟩
  exact q _ (atIn h0 h1).choose_spec.1
abbrev s_law_begin : Stmt := topS 118
theorem sc_law_begin : FnScope ["_law_kind", "_law_rows", "_law_many", "_law_cells", "_law_states", "_law_value"] ["_law_kind", "_law_rows"] (defScope s_law_begin) := ⟨rfl, rfl, rfl, by decide +kernel, rfl, by decide +kernel, by decide +kernel⟩
theorem c_law_begin (F : FnP gl.K "_law_begin" "_law_begin" s_law_begin f fd) (hm : gl.mg "_law_begin" = some (.ref f)) (T : Txt gl) : Cal gl 1 "_law_begin" 2 (sp_law_begin) := by
  refine cal_d F hm sc_law_begin rfl (fun _ _ _ _ _ _ us hl => match us, hl with | [_, _], _ => rfl) fun W A0 ds post hl hs => ?_
  obtain ⟨R, rows, rfl, op, q⟩ := hs
  have hn := op.n5
  have hn0 := op.n0
  have hlen : (rows.map D.int).length = rows.length := List.length_map ..
  refine dss_cons ?_
  refine ds_set 2 ?_  -- _law_many
  refine de_len T.len ?_
  refine de_v 1 rfl ?_  -- _law_rows
  refine dss_cons ?_
  refine ds_par2 3 4 ?_
  refine de_repL ?_
  refine de_non ?_  -- None
  refine de_v 2 rfl ?_  -- _law_many
  refine ⟨by omega, by omega, ?_⟩
  refine de_repL ?_
  refine de_tup ?_
  refine da_cons ?_
  refine de_bl ?_  -- False
  refine da_nil ?_
  refine ⟨Nat.le_of_ble_eq_true rfl, ?_⟩
  refine de_v 2 rfl ?_  -- _law_many
  refine ⟨by omega, by omega, ?_⟩
  refine dss_cons ?_
  refine ds_if ?_
  refine dt_cmp ?_
  refine dc_eq ?_
  refine de_v 0 rfl ?_  -- _law_kind
  refine de_str ?_  -- 'levels'
  refine ⟨_, rfl, ?_⟩
  refine ifF (rfl) ?_
  refine dss_cons ?_
  refine ds_if ?_
  refine dt_cmp ?_
  refine dc_eq ?_
  refine de_v 0 rfl ?_  -- _law_kind
  refine de_str ?_  -- 'names'
  refine ⟨_, rfl, ?_⟩
  refine ifF (rfl) ?_
  refine dss_cons ?_
  refine ds_if ?_
  refine dt_cmp ?_
  refine dc_eq ?_
  refine de_v 0 rfl ?_  -- _law_kind
  refine de_str ?_  -- 'near'
  refine ⟨_, rfl, ?_⟩
  refine ifT (rfl) ?_
  refine dss_cons ?_
  refine ds_par2 3 4 ?_
  refine de_repL ?_
  refine de_tup ?_
  refine da_nil ?_
  refine ⟨Nat.le_of_ble_eq_true rfl, ?_⟩
  refine de_v 2 rfl ?_  -- _law_many
  refine ⟨by omega, by omega, ?_⟩
  refine de_lcM 5 ?_
  refine di_tup ?_
  refine de_v 1 rfl ?_  -- _law_rows
  refine ⟨by omega, rows.map fun v => dSt (some (0, v, false)), by simp, fun A j d hd => ?_, ?_⟩
  · obtain ⟨v, hv, rfl⟩ := mapAt hd
    refine de_tup ?_
    refine da_cons ?_
    refine de_int ?_  -- 0
    refine da_cons ?_
    refine de_v 5 rfl ?_  -- _law_value
    refine da_cons ?_
    refine de_bl ?_  -- False
    refine da_nil ?_
    refine ⟨Nat.le_of_ble_eq_true rfl, ?_⟩
    exact mapGet hv
  · refine dss_nil ?_
    refine dss_nil ?_
    refine dss_nil ?_
    refine dss_cons ?_
    refine ds_ret ?_
    refine de_tup ?_
    refine da_cons ?_
    refine de_tupleOf T.tuple ?_
    refine de_v 3 rfl ?_  -- _law_cells
    refine da_cons ?_
    refine de_tupleOf T.tuple ?_
    refine de_v 4 rfl ?_  -- _law_states
    refine da_cons ?_
    refine de_repT ?_
    refine de_tup ?_
    refine da_nil ?_
    refine ⟨Nat.le_of_ble_eq_true rfl, ?_⟩
    refine de_v 2 rfl ?_  -- _law_many
    refine ⟨by omega, by omega, ?_⟩
    refine da_nil ?_
    refine ⟨Nat.le_of_ble_eq_true rfl, ?_⟩
    refine cast (congrArg post ?_) q
    simp [dSg, initS, dTolds, dCell, dTold, List.map_const', hlen]
abbrev s_law_next : Stmt := topS 119
theorem sc_law_next : FnScope ["_law_kind", "_law_state"] ["_law_kind", "_law_state"] (defScope s_law_next) := ⟨rfl, rfl, rfl, by decide +kernel, rfl, by decide +kernel, by decide +kernel⟩
theorem c_law_next (F : FnP gl.K "_law_next" "_law_next" s_law_next f fd) (hm : gl.mg "_law_next" = some (.ref f)) (T : Txt gl) : Cal gl 1 "_law_next" 2 (sp_law_next) := by
  refine cal_d F hm sc_law_next rfl (fun _ _ _ _ _ _ us hl => match us, hl with | [_, _], _ => rfl) fun W A0 ds post hl hs => ?_
  obtain ⟨r, t, b, rfl, q⟩ := hs
  refine dss_cons ?_
  refine ds_if ?_
  refine dt_cmp ?_
  refine dc_eq ?_
  refine de_v 0 rfl ?_  -- _law_kind
  refine de_str ?_  -- 'levels'
  refine ⟨_, rfl, ?_⟩
  refine ifF (rfl) ?_
  refine dss_nil ?_
  refine dss_cons ?_
  refine ds_ret ?_
  refine de_if ?_
  refine dt_val ?_
  refine de_ix ?_
  refine de_v 1 rfl ?_  -- _law_state
  refine de_neg ?_
  refine de_int ?_  -- 1
  refine ⟨_, atI_last [D.int _, D.int _] _, ?_⟩
  refine ifB (fun h => ?_) (fun h => ?_)
  · refine de_tup ?_
    refine da_cons ?_
    refine de_str ?_  -- 'see'
    refine da_nil ?_
    refine ⟨Nat.le_of_ble_eq_true rfl, ?_⟩
    subst h
    exact q
  · refine de_tup ?_
    refine da_cons ?_
    refine de_str ?_  -- 'put'
    refine da_nil ?_
    refine ⟨Nat.le_of_ble_eq_true rfl, ?_⟩
    subst h
    exact q
abbrev s_law_near : Stmt := topS 122
theorem sc_law_near : FnScope ["_law_rows", "_law_rounds", "_law_cells", "_law_hand_here", "_law_state", "_law_tops", "_law_top", "_law_number", "_law_is_put", "_law_cell"] ["_law_rows", "_law_rounds", "_law_cells", "_law_hand_here", "_law_state"] (defScope s_law_near) := ⟨rfl, rfl, rfl, by decide +kernel, rfl, by decide +kernel, by decide +kernel⟩
theorem c_law_near (F : FnP gl.K "_law_near" "_law_near" s_law_near f fd) (hm : gl.mg "_law_near" = some (.ref f)) (T : Txt gl) : Cal gl 1 "_law_near" 5 (sp_law_near) := by
  refine cal_d F hm sc_law_near rfl (fun _ _ _ _ _ _ us hl => match us, hl with | [_, _, _, _, _], _ => rfl) fun W A0 ds post hl hs => ?_
  obtain ⟨R, rows, S, h, r, t, b, rfl, o, w, e, q⟩ := hs
  obtain ⟨hr, ht, c, hc, hl⟩ := w.on h r t b e
  have hcd : S.cells.getD h [] = c := by rw [List.getD_eq_getElem?_getD, hc]; rfl
  have hn : S.cells.length ≤ 5 := by rw [w.lc]; exact o.n5
  have h6 := o.r6
  rcases cases3 b r R with rfl | ⟨rfl, hR⟩ | ⟨rfl, hR⟩
  · have hl1 : c.length = r := hl
    refine dss_cons ?_
    refine ds_tup3 7 6 8 ?_
    refine de_v 4 rfl ?_  -- _law_state
    refine ⟨_, _, _, rfl, ?_⟩
    refine dss_cons ?_
    refine ds_if ?_
    refine dt_not ?_
    refine dt_val ?_
    refine de_v 8 rfl ?_  -- _law_is_put
    refine ifT (rfl) ?_
    refine dss_cons ?_
    refine ds_ret ?_
    refine de_tup ?_
    refine da_cons ?_
    refine de_cat ?_
    refine de_ix ?_
    refine de_v 2 rfl ?_  -- _law_cells
    refine de_v 3 rfl ?_  -- _law_hand_here
    refine ⟨_, atMap hc, ?_⟩
    refine de_tup ?_
    refine da_cons ?_
    refine de_v 6 rfl ?_  -- _law_top
    refine da_nil ?_
    refine ⟨Nat.le_of_ble_eq_true rfl, ?_⟩
    refine ⟨by simp; omega, ?_⟩
    refine da_cons ?_
    refine de_tup ?_
    refine da_cons ?_
    refine de_v 7 rfl ?_  -- _law_number
    refine da_cons ?_
    refine de_v 6 rfl ?_  -- _law_top
    refine da_cons ?_
    refine de_bl ?_  -- True
    refine da_nil ?_
    refine ⟨Nat.le_of_ble_eq_true rfl, ?_⟩
    refine da_cons ?_
    refine de_non ?_  -- None
    refine da_nil ?_
    refine ⟨Nat.le_of_ble_eq_true rfl, ?_⟩
    rw [afterD, hcd] at q
    rw [show c.map D.int ++ [D.int t] = (c ++ [t]).map D.int by simp]
    exact q
  · have hl1 : c.length = r + 1 := hl
    refine dss_cons ?_
    refine ds_tup3 7 6 8 ?_
    refine de_v 4 rfl ?_  -- _law_state
    refine ⟨_, _, _, rfl, ?_⟩
    refine dss_cons ?_
    refine ds_if ?_
    refine dt_not ?_
    refine dt_val ?_
    refine de_v 8 rfl ?_  -- _law_is_put
    refine ifF (rfl) ?_
    refine dss_nil ?_
    refine dss_cons ?_
    refine ds_set 5 ?_  -- _law_tops
    refine de_sorted T.sorted ?_
    refine de_lcF 9 (gTop r) ?_
    refine di_tup ?_
    refine de_v 2 rfl ?_  -- _law_cells
    refine ⟨by simp; omega, fun A j d hd => ?_, ?_⟩
    · obtain ⟨c', hc', rfl⟩ := mapAt hd
      refine df_one ?_
      refine dt_cmp ?_
      refine dc_gt ?_
      refine de_len T.len ?_
      refine de_v 9 rfl ?_  -- _law_cell
      refine de_v 7 rfl ?_  -- _law_number
      refine ifB (fun hk => ?_) (fun hk => ?_)
      · refine de_ix ?_
        refine de_v 9 rfl ?_  -- _law_cell
        refine de_v 7 rfl ?_  -- _law_number
        refine ⟨_, atMap (List.getElem?_eq_getElem (show r < c'.length by simpa using hk)), ?_⟩
        exact gTop_some (by simpa using hk)
      · exact gTop_none (by simpa using hk)
    · refine ⟨topsOf S.cells r, congrArg D.lst (gTop_map S.cells r), by have := tops_len S.cells r; omega, fun ms hp hms => ?_⟩
      refine dss_cons ?_
      refine ds_set 6 ?_  -- _law_top
      refine de_add ?_
      refine de_ix ?_
      refine de_v 5 rfl ?_  -- _law_tops
      refine de_int ?_  -- 0
      refine ⟨_, sorted_min hp hms (topsOf_ne hc (by omega)), ?_⟩
      refine de_ix ?_
      refine de_v 5 rfl ?_  -- _law_tops
      refine de_neg ?_
      refine de_int ?_  -- 1
      refine ⟨_, sorted_max hp hms (topsOf_ne hc (by omega)), ?_⟩
      refine dss_cons ?_
      refine ds_ret ?_
      refine de_if ?_
      refine dt_cmp ?_
      refine dc_eq ?_
      refine de_add ?_
      refine de_v 7 rfl ?_  -- _law_number
      refine de_int ?_  -- 1
      refine de_v 1 rfl ?_  -- _law_rounds
      refine ⟨_, rfl, ?_⟩
      refine ifT (by subst hR; exact decide_eq_true rfl) ?_
      refine de_tup ?_
      refine da_cons ?_
      refine de_non ?_  -- None
      refine da_cons ?_
      refine de_non ?_  -- None
      refine da_cons ?_
      refine de_tup ?_
      refine da_cons ?_
      refine de_v 6 rfl ?_  -- _law_top
      refine da_cons ?_
      refine de_v 1 rfl ?_  -- _law_rounds
      refine da_nil ?_
      refine ⟨Nat.le_of_ble_eq_true rfl, ?_⟩
      refine da_nil ?_
      refine ⟨Nat.le_of_ble_eq_true rfl, ?_⟩
      rw [afterD, if_pos hR] at q
      exact q
  · have hl1 : c.length = r + 1 := hl
    refine dss_cons ?_
    refine ds_tup3 7 6 8 ?_
    refine de_v 4 rfl ?_  -- _law_state
    refine ⟨_, _, _, rfl, ?_⟩
    refine dss_cons ?_
    refine ds_if ?_
    refine dt_not ?_
    refine dt_val ?_
    refine de_v 8 rfl ?_  -- _law_is_put
    refine ifF (rfl) ?_
    refine dss_nil ?_
    refine dss_cons ?_
    refine ds_set 5 ?_  -- _law_tops
    refine de_sorted T.sorted ?_
    refine de_lcF 9 (gTop r) ?_
    refine di_tup ?_
    refine de_v 2 rfl ?_  -- _law_cells
    refine ⟨by simp; omega, fun A j d hd => ?_, ?_⟩
    · obtain ⟨c', hc', rfl⟩ := mapAt hd
      refine df_one ?_
      refine dt_cmp ?_
      refine dc_gt ?_
      refine de_len T.len ?_
      refine de_v 9 rfl ?_  -- _law_cell
      refine de_v 7 rfl ?_  -- _law_number
      refine ifB (fun hk => ?_) (fun hk => ?_)
      · refine de_ix ?_
        refine de_v 9 rfl ?_  -- _law_cell
        refine de_v 7 rfl ?_  -- _law_number
        refine ⟨_, atMap (List.getElem?_eq_getElem (show r < c'.length by simpa using hk)), ?_⟩
        exact gTop_some (by simpa using hk)
      · exact gTop_none (by simpa using hk)
    · refine ⟨topsOf S.cells r, congrArg D.lst (gTop_map S.cells r), by have := tops_len S.cells r; omega, fun ms hp hms => ?_⟩
      refine dss_cons ?_
      refine ds_set 6 ?_  -- _law_top
      refine de_add ?_
      refine de_ix ?_
      refine de_v 5 rfl ?_  -- _law_tops
      refine de_int ?_  -- 0
      refine ⟨_, sorted_min hp hms (topsOf_ne hc (by omega)), ?_⟩
      refine de_ix ?_
      refine de_v 5 rfl ?_  -- _law_tops
      refine de_neg ?_
      refine de_int ?_  -- 1
      refine ⟨_, sorted_max hp hms (topsOf_ne hc (by omega)), ?_⟩
      refine dss_cons ?_
      refine ds_ret ?_
      refine de_if ?_
      refine dt_cmp ?_
      refine dc_eq ?_
      refine de_add ?_
      refine de_v 7 rfl ?_  -- _law_number
      refine de_int ?_  -- 1
      refine de_v 1 rfl ?_  -- _law_rounds
      refine ⟨_, rfl, ?_⟩
      refine ifF (by simp; omega) ?_
      refine de_tup ?_
      refine da_cons ?_
      refine de_non ?_  -- None
      refine da_cons ?_
      refine de_tup ?_
      refine da_cons ?_
      refine de_add ?_
      refine de_v 7 rfl ?_  -- _law_number
      refine de_int ?_  -- 1
      refine da_cons ?_
      refine de_v 6 rfl ?_  -- _law_top
      refine da_cons ?_
      refine de_bl ?_  -- False
      refine da_nil ?_
      refine ⟨Nat.le_of_ble_eq_true rfl, ?_⟩
      refine da_cons ?_
      refine de_non ?_  -- None
      refine da_nil ?_
      refine ⟨Nat.le_of_ble_eq_true rfl, ?_⟩
      rw [afterD, if_neg hR] at q
      exact q
abbrev s_law_moved : Stmt := topS 124
theorem sc_law_moved : FnScope ["_law_kind", "_law_rows", "_law_rounds", "_law_standing", "_law_hand_here", "_law_cells", "_law_states", "_law_told", "_law_cell", "_law_state", "_law_item"] ["_law_kind", "_law_rows", "_law_rounds", "_law_standing", "_law_hand_here"] (defScope s_law_moved) := ⟨rfl, rfl, rfl, by decide +kernel, rfl, by decide +kernel, by decide +kernel⟩
theorem c_law_moved (F : FnP gl.K "_law_moved" "_law_moved" s_law_moved f fd) (hm : gl.mg "_law_moved" = some (.ref f)) (T : Txt gl) (C_law_near : Cal gl 1 "_law_near" 5 (sp_law_near)) (C_law_next : Cal gl 1 "_law_next" 2 (sp_law_next)) : Cal gl 2 "_law_moved" 5 (sp_law_moved) := by
  refine cal_d F hm sc_law_moved rfl (fun _ _ _ _ _ _ us hl => match us, hl with | [_, _, _, _, _], _ => rfl) fun W A0 ds post hl hs => ?_
  obtain ⟨R, rows, S, h, ⟨r, t, b⟩, rfl, o, w, e, q⟩ := hs
  obtain ⟨hr, ht, c, hc, hl⟩ := w.on h r t b e
  have hlt := st_lt w e
  have htd : S.told.getD h [] = [] := by rw [List.getD_eq_getElem?_getD, ht]; rfl
  have h5 := o.n5
  have e1 := w.lc
  have e2 := w.ls
  have e3 := w.lt
  have k1 : h < (S.cells.map dCell).length := by simp; omega
  have k2 : h < (S.st.map dSt).length := by simp; omega
  have k3 : h < (S.told.map (dTold R)).length := by simp; omega
  rcases cases3 b r R with rfl | ⟨rfl, hR⟩ | ⟨rfl, hR⟩
  · refine dss_cons ?_
    refine ds_tup3 5 6 7 ?_
    refine de_v 3 rfl ?_  -- _law_standing
    refine ⟨_, _, _, rfl, ?_⟩
    refine dss_cons ?_
    refine ds_if ?_
    refine dt_cmp ?_
    refine dc_eq ?_
    refine de_v 0 rfl ?_  -- _law_kind
    refine de_str ?_  -- 'levels'
    refine ⟨_, rfl, ?_⟩
    refine ifF (rfl) ?_
    refine dss_cons ?_
    refine ds_if ?_
    refine dt_cmp ?_
    refine dc_eq ?_
    refine de_v 0 rfl ?_  -- _law_kind
    refine de_str ?_  -- 'names'
    refine ⟨_, rfl, ?_⟩
    refine ifF (rfl) ?_
    refine dss_cons ?_
    refine ds_if ?_
    refine dt_cmp ?_
    refine dc_eq ?_
    refine de_v 0 rfl ?_  -- _law_kind
    refine de_str ?_  -- 'near'
    refine ⟨_, rfl, ?_⟩
    refine ifT (rfl) ?_
    refine dss_cons ?_
    refine ds_tup3 8 9 10 ?_
    refine de_call C_law_near ?_
    refine da_cons ?_
    refine de_v 1 rfl ?_  -- _law_rows
    refine da_cons ?_
    refine de_v 2 rfl ?_  -- _law_rounds
    refine da_cons ?_
    refine de_v 5 rfl ?_  -- _law_cells
    refine da_cons ?_
    refine de_v 4 rfl ?_  -- _law_hand_here
    refine da_cons ?_
    refine de_ix ?_
    refine de_v 6 rfl ?_  -- _law_states
    refine de_v 4 rfl ?_  -- _law_hand_here
    refine ⟨_, atMap e, ?_⟩
    refine da_nil ?_
    refine ⟨rfl, R, rows, S, h, r, t, false, rfl, o, w, e, ?_⟩
    refine ⟨_, _, _, rfl, ?_⟩
    refine dss_nil ?_
    refine dss_nil ?_
    refine dss_nil ?_
    refine dss_cons ?_
    refine ds_if ?_
    refine dt_cmp ?_
    refine dc_eqT1 ?_
    refine de_call C_law_next ?_
    refine da_cons ?_
    refine de_v 0 rfl ?_  -- _law_kind
    refine da_cons ?_
    refine de_ix ?_
    refine de_v 6 rfl ?_  -- _law_states
    refine de_v 4 rfl ?_  -- _law_hand_here
    refine ⟨_, atMap e, ?_⟩
    refine da_nil ?_
    refine ⟨rfl, r, t, false, rfl, ?_⟩
    refine ⟨_, rfl, by kernel_rfl, ?_⟩
    refine de_tup ?_
    refine da_cons ?_
    refine de_str ?_  -- 'put'
    refine da_nil ?_
    refine ⟨Nat.le_of_ble_eq_true rfl, ?_⟩
    refine ⟨_, rfl, by kernel_rfl, ?_⟩
    refine ifT (rfl) ?_
    refine dss_cons ?_
    refine ds_set 5 ?_  -- _law_cells
    refine de_cat ?_
    refine de_cat ?_
    refine de_toT ?_
    refine de_v 5 rfl ?_  -- _law_cells
    refine de_v 4 rfl ?_  -- _law_hand_here
    refine ⟨Int.natCast_nonneg h, ?_⟩
    refine de_tup ?_
    refine da_cons ?_
    refine de_v 8 rfl ?_  -- _law_cell
    refine da_nil ?_
    refine ⟨Nat.le_of_ble_eq_true rfl, ?_⟩
    refine ⟨by simp; omega, ?_⟩
    refine de_fromT ?_
    refine de_v 5 rfl ?_  -- _law_cells
    refine de_add ?_
    refine de_v 4 rfl ?_  -- _law_hand_here
    refine de_int ?_  -- 1
    refine ⟨by omega, ?_⟩
    refine ⟨by simp; omega, ?_⟩
    refine dss_nil ?_
    refine dss_cons ?_
    refine ds_if ?_
    refine dt_cmp ?_
    refine dc_notN ?_
    refine de_v 10 rfl ?_  -- _law_item
    refine ifF (rfl) ?_
    refine dss_nil ?_
    refine dss_cons ?_
    refine ds_ret ?_
    refine de_tup ?_
    refine da_cons ?_
    refine de_v 5 rfl ?_  -- _law_cells
    refine da_cons ?_
    refine de_cat ?_
    refine de_cat ?_
    refine de_toT ?_
    refine de_v 6 rfl ?_  -- _law_states
    refine de_v 4 rfl ?_  -- _law_hand_here
    refine ⟨Int.natCast_nonneg h, ?_⟩
    refine de_tup ?_
    refine da_cons ?_
    refine de_v 9 rfl ?_  -- _law_state
    refine da_nil ?_
    refine ⟨Nat.le_of_ble_eq_true rfl, ?_⟩
    refine ⟨by simp; omega, ?_⟩
    refine de_fromT ?_
    refine de_v 6 rfl ?_  -- _law_states
    refine de_add ?_
    refine de_v 4 rfl ?_  -- _law_hand_here
    refine de_int ?_  -- 1
    refine ⟨by omega, ?_⟩
    refine ⟨by simp; omega, ?_⟩
    refine da_cons ?_
    refine de_v 7 rfl ?_  -- _law_told
    refine da_nil ?_
    refine ⟨Nat.le_of_ble_eq_true rfl, ?_⟩
    rw [stepA e] at q
    rw [dSg, List.map_set, List.map_set] at q
    rw [cut_set k1, cut_set k2]
    exact q
  · refine dss_cons ?_
    refine ds_tup3 5 6 7 ?_
    refine de_v 3 rfl ?_  -- _law_standing
    refine ⟨_, _, _, rfl, ?_⟩
    refine dss_cons ?_
    refine ds_if ?_
    refine dt_cmp ?_
    refine dc_eq ?_
    refine de_v 0 rfl ?_  -- _law_kind
    refine de_str ?_  -- 'levels'
    refine ⟨_, rfl, ?_⟩
    refine ifF (rfl) ?_
    refine dss_cons ?_
    refine ds_if ?_
    refine dt_cmp ?_
    refine dc_eq ?_
    refine de_v 0 rfl ?_  -- _law_kind
    refine de_str ?_  -- 'names'
    refine ⟨_, rfl, ?_⟩
    refine ifF (rfl) ?_
    refine dss_cons ?_
    refine ds_if ?_
    refine dt_cmp ?_
    refine dc_eq ?_
    refine de_v 0 rfl ?_  -- _law_kind
    refine de_str ?_  -- 'near'
    refine ⟨_, rfl, ?_⟩
    refine ifT (rfl) ?_
    refine dss_cons ?_
    refine ds_tup3 8 9 10 ?_
    refine de_call C_law_near ?_
    refine da_cons ?_
    refine de_v 1 rfl ?_  -- _law_rows
    refine da_cons ?_
    refine de_v 2 rfl ?_  -- _law_rounds
    refine da_cons ?_
    refine de_v 5 rfl ?_  -- _law_cells
    refine da_cons ?_
    refine de_v 4 rfl ?_  -- _law_hand_here
    refine da_cons ?_
    refine de_ix ?_
    refine de_v 6 rfl ?_  -- _law_states
    refine de_v 4 rfl ?_  -- _law_hand_here
    refine ⟨_, atMap e, ?_⟩
    refine da_nil ?_
    refine ⟨rfl, R, rows, S, h, r, t, true, rfl, o, w, e, ?_⟩
    refine ⟨_, _, _, if_pos hR, ?_⟩
    refine dss_nil ?_
    refine dss_nil ?_
    refine dss_nil ?_
    refine dss_cons ?_
    refine ds_if ?_
    refine dt_cmp ?_
    refine dc_eqT1 ?_
    refine de_call C_law_next ?_
    refine da_cons ?_
    refine de_v 0 rfl ?_  -- _law_kind
    refine da_cons ?_
    refine de_ix ?_
    refine de_v 6 rfl ?_  -- _law_states
    refine de_v 4 rfl ?_  -- _law_hand_here
    refine ⟨_, atMap e, ?_⟩
    refine da_nil ?_
    refine ⟨rfl, r, t, true, rfl, ?_⟩
    refine ⟨_, rfl, by kernel_rfl, ?_⟩
    refine de_tup ?_
    refine da_cons ?_
    refine de_str ?_  -- 'put'
    refine da_nil ?_
    refine ⟨Nat.le_of_ble_eq_true rfl, ?_⟩
    refine ⟨_, rfl, by kernel_rfl, ?_⟩
    refine ifF (rfl) ?_
    refine dss_nil ?_
    refine dss_cons ?_
    refine ds_if ?_
    refine dt_cmp ?_
    refine dc_notN ?_
    refine de_v 10 rfl ?_  -- _law_item
    refine ifT (rfl) ?_
    refine dss_cons ?_
    refine ds_set 7 ?_  -- _law_told
    refine de_cat ?_
    refine de_cat ?_
    refine de_toT ?_
    refine de_v 7 rfl ?_  -- _law_told
    refine de_v 4 rfl ?_  -- _law_hand_here
    refine ⟨Int.natCast_nonneg h, ?_⟩
    refine de_tup ?_
    refine da_cons ?_
    refine de_cat ?_
    refine de_ix ?_
    refine de_v 7 rfl ?_  -- _law_told
    refine de_v 4 rfl ?_  -- _law_hand_here
    refine ⟨_, atMap ht, ?_⟩
    refine de_tup ?_
    refine da_cons ?_
    refine de_v 10 rfl ?_  -- _law_item
    refine da_nil ?_
    refine ⟨Nat.le_of_ble_eq_true rfl, ?_⟩
    refine ⟨by simp, ?_⟩
    refine da_nil ?_
    refine ⟨Nat.le_of_ble_eq_true rfl, ?_⟩
    refine ⟨by simp; omega, ?_⟩
    refine de_fromT ?_
    refine de_v 7 rfl ?_  -- _law_told
    refine de_add ?_
    refine de_v 4 rfl ?_  -- _law_hand_here
    refine de_int ?_  -- 1
    refine ⟨by omega, ?_⟩
    refine ⟨by simp; omega, ?_⟩
    refine dss_nil ?_
    refine dss_cons ?_
    refine ds_ret ?_
    refine de_tup ?_
    refine da_cons ?_
    refine de_v 5 rfl ?_  -- _law_cells
    refine da_cons ?_
    refine de_cat ?_
    refine de_cat ?_
    refine de_toT ?_
    refine de_v 6 rfl ?_  -- _law_states
    refine de_v 4 rfl ?_  -- _law_hand_here
    refine ⟨Int.natCast_nonneg h, ?_⟩
    refine de_tup ?_
    refine da_cons ?_
    refine de_v 9 rfl ?_  -- _law_state
    refine da_nil ?_
    refine ⟨Nat.le_of_ble_eq_true rfl, ?_⟩
    refine ⟨by simp; omega, ?_⟩
    refine de_fromT ?_
    refine de_v 6 rfl ?_  -- _law_states
    refine de_add ?_
    refine de_v 4 rfl ?_  -- _law_hand_here
    refine de_int ?_  -- 1
    refine ⟨by omega, ?_⟩
    refine ⟨by simp; omega, ?_⟩
    refine da_cons ?_
    refine de_v 7 rfl ?_  -- _law_told
    refine da_nil ?_
    refine ⟨Nat.le_of_ble_eq_true rfl, ?_⟩
    rw [stepB e hR, htd] at q
    rw [dSg, dTolds, List.map_set, List.map_set] at q
    rw [cut_set k2, cut_set k3]
    exact q
  · refine dss_cons ?_
    refine ds_tup3 5 6 7 ?_
    refine de_v 3 rfl ?_  -- _law_standing
    refine ⟨_, _, _, rfl, ?_⟩
    refine dss_cons ?_
    refine ds_if ?_
    refine dt_cmp ?_
    refine dc_eq ?_
    refine de_v 0 rfl ?_  -- _law_kind
    refine de_str ?_  -- 'levels'
    refine ⟨_, rfl, ?_⟩
    refine ifF (rfl) ?_
    refine dss_cons ?_
    refine ds_if ?_
    refine dt_cmp ?_
    refine dc_eq ?_
    refine de_v 0 rfl ?_  -- _law_kind
    refine de_str ?_  -- 'names'
    refine ⟨_, rfl, ?_⟩
    refine ifF (rfl) ?_
    refine dss_cons ?_
    refine ds_if ?_
    refine dt_cmp ?_
    refine dc_eq ?_
    refine de_v 0 rfl ?_  -- _law_kind
    refine de_str ?_  -- 'near'
    refine ⟨_, rfl, ?_⟩
    refine ifT (rfl) ?_
    refine dss_cons ?_
    refine ds_tup3 8 9 10 ?_
    refine de_call C_law_near ?_
    refine da_cons ?_
    refine de_v 1 rfl ?_  -- _law_rows
    refine da_cons ?_
    refine de_v 2 rfl ?_  -- _law_rounds
    refine da_cons ?_
    refine de_v 5 rfl ?_  -- _law_cells
    refine da_cons ?_
    refine de_v 4 rfl ?_  -- _law_hand_here
    refine da_cons ?_
    refine de_ix ?_
    refine de_v 6 rfl ?_  -- _law_states
    refine de_v 4 rfl ?_  -- _law_hand_here
    refine ⟨_, atMap e, ?_⟩
    refine da_nil ?_
    refine ⟨rfl, R, rows, S, h, r, t, true, rfl, o, w, e, ?_⟩
    refine ⟨_, _, _, if_neg hR, ?_⟩
    refine dss_nil ?_
    refine dss_nil ?_
    refine dss_nil ?_
    refine dss_cons ?_
    refine ds_if ?_
    refine dt_cmp ?_
    refine dc_eqT1 ?_
    refine de_call C_law_next ?_
    refine da_cons ?_
    refine de_v 0 rfl ?_  -- _law_kind
    refine da_cons ?_
    refine de_ix ?_
    refine de_v 6 rfl ?_  -- _law_states
    refine de_v 4 rfl ?_  -- _law_hand_here
    refine ⟨_, atMap e, ?_⟩
    refine da_nil ?_
    refine ⟨rfl, r, t, true, rfl, ?_⟩
    refine ⟨_, rfl, by kernel_rfl, ?_⟩
    refine de_tup ?_
    refine da_cons ?_
    refine de_str ?_  -- 'put'
    refine da_nil ?_
    refine ⟨Nat.le_of_ble_eq_true rfl, ?_⟩
    refine ⟨_, rfl, by kernel_rfl, ?_⟩
    refine ifF (rfl) ?_
    refine dss_nil ?_
    refine dss_cons ?_
    refine ds_if ?_
    refine dt_cmp ?_
    refine dc_notN ?_
    refine de_v 10 rfl ?_  -- _law_item
    refine ifF (rfl) ?_
    refine dss_nil ?_
    refine dss_cons ?_
    refine ds_ret ?_
    refine de_tup ?_
    refine da_cons ?_
    refine de_v 5 rfl ?_  -- _law_cells
    refine da_cons ?_
    refine de_cat ?_
    refine de_cat ?_
    refine de_toT ?_
    refine de_v 6 rfl ?_  -- _law_states
    refine de_v 4 rfl ?_  -- _law_hand_here
    refine ⟨Int.natCast_nonneg h, ?_⟩
    refine de_tup ?_
    refine da_cons ?_
    refine de_v 9 rfl ?_  -- _law_state
    refine da_nil ?_
    refine ⟨Nat.le_of_ble_eq_true rfl, ?_⟩
    refine ⟨by simp; omega, ?_⟩
    refine de_fromT ?_
    refine de_v 6 rfl ?_  -- _law_states
    refine de_add ?_
    refine de_v 4 rfl ?_  -- _law_hand_here
    refine de_int ?_  -- 1
    refine ⟨by omega, ?_⟩
    refine ⟨by simp; omega, ?_⟩
    refine da_cons ?_
    refine de_v 7 rfl ?_  -- _law_told
    refine da_nil ?_
    refine ⟨Nat.le_of_ble_eq_true rfl, ?_⟩
    rw [stepC e hR] at q
    rw [dSg, List.map_set] at q
    rw [cut_set k2]
    exact q
abbrev s_law_left : Stmt := topS 125
theorem sc_law_left : FnScope ["_law_standing", "_law_one"] ["_law_standing"] (defScope s_law_left) := ⟨rfl, rfl, rfl, by decide +kernel, rfl, by decide +kernel, by decide +kernel⟩
theorem c_law_left (F : FnP gl.K "_law_left" "_law_left" s_law_left f fd) (hm : gl.mg "_law_left" = some (.ref f)) (T : Txt gl) : Cal gl 1 "_law_left" 1 (sp_movers) := by
  refine cal_d F hm sc_law_left rfl (fun _ _ _ _ _ _ us hl => match us, hl with | [_], _ => rfl) fun W A0 ds post hl hs => ?_
  obtain ⟨R, S, rfl, hl, q⟩ := hs
  have e1 : (S.st.map dSt).length = S.st.length := List.length_map ..
  refine dss_cons ?_
  refine ds_ret ?_
  refine de_tupleOf T.tuple ?_
  refine de_lcF 1 (gLeft S) ?_
  refine di_range T.range ?_
  refine de_len T.len ?_
  refine de_ix ?_
  refine de_v 0 rfl ?_  -- _law_standing
  refine de_int ?_  -- 1
  refine ⟨_, rfl, ?_⟩
  refine ⟨_, rfl, by omega, ?_⟩
  refine ⟨by rw [rangeD_len]; omega, fun A j d hd => ?_, ?_⟩
  · obtain ⟨hj, rfl⟩ := rangeD_at hd
    rw [e1] at hj
    refine df_one ?_
    refine dt_cmp ?_
    refine dc_notN ?_
    refine de_ix ?_
    refine de_ix ?_
    refine de_v 0 rfl ?_  -- _law_standing
    refine de_int ?_  -- 1
    refine ⟨_, rfl, ?_⟩
    refine de_v 1 rfl ?_  -- _law_one
    refine ⟨_, atMap (List.getElem?_eq_getElem hj), ?_⟩
    refine ifB (fun hk => ?_) (fun hk => ?_)
    · refine de_v 1 rfl ?_  -- _law_one
      exact gLeft_some hj (by simpa using hk)
    · exact gLeft_none hj (by simpa using hk)
  · rw [gLeft_map S e1]
    exact q
abbrev s_law_came : Stmt := topS 128
theorem sc_law_came : FnScope ["_law_weaving"] ["_law_weaving"] (defScope s_law_came) := ⟨rfl, rfl, rfl, by decide +kernel, rfl, by decide +kernel, by decide +kernel⟩
theorem c_law_came (F : FnP gl.K "_law_came" "_law_came" s_law_came f fd) (hm : gl.mg "_law_came" = some (.ref f)) (T : Txt gl) : Cal gl 1 "_law_came" 1 (sp_law_came) := by
  refine cal_d F hm sc_law_came rfl (fun _ _ _ _ _ _ us hl => match us, hl with | [_], _ => rfl) fun W A0 ds post hl hs => ?_
  obtain ⟨w, hds, hw, hb, q⟩ := hs
  have hb2 : ∀ k ∈ nI w, 0 ≤ k ∧ k < 60 := fun k hk => by obtain ⟨x, hx, rfl⟩ := List.mem_map.mp hk; have := hb x hx; omega
  have hw2 : (nI w).length ≤ 1000 := by unfold nI; rw [List.length_map]; exact hw
  rcases hds with rfl | rfl
  · refine dss_cons ?_
    refine ds_ret ?_
    refine de_tupleOf T.tuple ?_
    refine de_sortedSet T.sorted T.set ?_
    refine de_v 0 rfl ?_  -- _law_weaving
    refine ⟨nI w, .inr rfl, hw2, hb2, fun ms ho hm => ?_⟩
    obtain ⟨c, rfl, h1, h2⟩ := nat_of ho hm
    exact q c h1 h2
  · refine dss_cons ?_
    refine ds_ret ?_
    refine de_tupleOf T.tuple ?_
    refine de_sortedSet T.sorted T.set ?_
    refine de_v 0 rfl ?_  -- _law_weaving
    refine ⟨nI w, .inl rfl, hw2, hb2, fun ms ho hm => ?_⟩
    obtain ⟨c, rfl, h1, h2⟩ := nat_of ho hm
    exact q c h1 h2
abbrev s_law_all : Stmt := topS 131
theorem sc_law_all : FnScope ["_law_told", "_law_found", "_law_items"] ["_law_told"] (defScope s_law_all) := ⟨rfl, rfl, rfl, by decide +kernel, rfl, by decide +kernel, by decide +kernel⟩
theorem c_law_all (F : FnP gl.K "_law_all" "_law_all" s_law_all f fd) (hm : gl.mg "_law_all" = some (.ref f)) (T : Txt gl) : Cal gl 1 "_law_all" 1 (sp_flat) := by
  refine cal_d F hm sc_law_all rfl (fun _ _ _ _ _ _ us hl => match us, hl with | [_], _ => rfl) fun W A0 ds post hl hs => ?_
  obtain ⟨R, told, rfl, hl, h1, q⟩ := hs
  refine dss_cons ?_
  refine ds_new 1 ?_
  refine da_nil ?_
  refine ⟨Nat.le_of_ble_eq_true rfl, fun o => ?_⟩
  refine dss_cons ?_
  refine ds_for 2 ?_
  refine di_tup ?_
  refine de_v 0 rfl ?_  -- _law_told
  refine ⟨fun j ρ' => ∃ a : Sl, a.adr = none ∧ ρ' = [.dat (dTolds R told), .own o ((told.take j).flatten.map (dItem R)), a], ⟨.non, rfl, rfl⟩, fun j ρ' hI => by obtain ⟨a, ha, rfl⟩ := hI; show [none, some o, a.adr] = _; rw [ha]; rfl, fun j ρ d hI hd => ?_, fun ρ hI => ?_⟩
  · obtain ⟨a, ha, rfl⟩ := hI
    obtain ⟨l, hl2, rfl⟩ := mapAt hd
    refine dss_cons ?_
    refine ds_extendL 1 T.list rfl ?_
    refine de_v 2 rfl ?_  -- _law_items
    refine ⟨by have k1 := flat_take_len h1 j; have k2 := h1 l (List.mem_of_getElem? hl2); rw [List.length_map, List.length_map]; omega, ?_⟩
    refine dss_nil ?_
    refine ⟨.dat (dTold R l), rfl, ?_⟩
    rw [take_flat hl2]
    rfl
  · obtain ⟨a, ha, rfl⟩ := hI
    rw [show told.take (told.map (dTold R)).length = told from List.take_of_length_le (by rw [List.length_map]; exact Nat.le_refl _)]
    refine dss_cons ?_
    refine ds_retOwn 1 rfl ?_
    exact q
end
end Op
namespace Op
open PySem PySem.Spec PyProof.Rows L2 Dl
section
variable {gl : Glob} {f : Addr} {fd : FuncData}
abbrev s_law_near_fault : Stmt := topS 133
theorem sc_law_near_fault : FnScope ["_law_rows", "_law_rounds", "_law_came_here", "_law_told", "_law_turn", "_law_far", "_law_tops", "_law_values", "_law_worth", "_law_item", "_law_one", "_law_top", "_law_other"] ["_law_rows", "_law_rounds", "_law_came_here", "_law_told"] (defScope s_law_near_fault) := ⟨rfl, rfl, rfl, by decide +kernel, rfl, by decide +kernel, by decide +kernel⟩
theorem c_law_near_fault (F : FnP gl.K "_law_near_fault" "_law_near_fault" s_law_near_fault f fd) (hm : gl.mg "_law_near_fault" = some (.ref f)) (T : Txt gl) (C_law_all : Cal gl 1 "_law_all" 1 (sp_flat)) : Cal gl 2 "_law_near_fault" 4 (sp_law_near_fault) := by
  refine cal_d F hm sc_law_near_fault rfl (fun _ _ _ _ _ _ us hl => match us, hl with | [_, _, _, _], _ => rfl) fun W A0 ds post hl hs => ?_
  obtain ⟨R, rows, came, told, rfl, fi, q⟩ := hs
  have op := fi.ok
  have h5 := op.n5
  have h6 := op.r6
  have hfl := flat_len fi.one
  have e1 := fi.len
  have hcl := fi.cl
  refine dss_cons ?_
  refine ds_tup3 6 7 8 ?_
  refine de_tup ?_
  refine da_cons ?_
  refine de_lcM 9 ?_
  refine di_lst ?_
  refine de_call C_law_all ?_
  refine da_cons ?_
  refine de_v 3 rfl ?_  -- _law_told
  refine da_nil ?_
  refine ⟨rfl, R, told, rfl, by omega, fi.one, ?_⟩
  refine ⟨by rw [List.length_map]; omega, told.flatten.map D.int, by rw [List.length_map, List.length_map], fun A j d hd => ?_, ?_⟩
  · obtain ⟨t, ht, rfl⟩ := mapAt hd
    refine de_ix ?_
    refine de_v 9 rfl ?_  -- _law_item
    refine de_int ?_  -- 0
    refine ⟨_, rfl, ?_⟩
    exact mapGet ht
  · refine da_cons ?_
    refine de_lcM 10 ?_
    refine di_tup ?_
    refine de_v 2 rfl ?_  -- _law_came_here
    refine ⟨by rw [wD_len]; omega, (came.map fun h => rows.getD h 0).map D.int, by simp [wD_len], fun A j d hd => ?_, ?_⟩
    · obtain ⟨h, hh, rfl⟩ := wD_at hd
      refine de_ix ?_
      refine de_v 0 rfl ?_  -- _law_rows
      refine de_v 10 rfl ?_  -- _law_one
      refine ⟨_, atMap (getD_some (fi.lt h (List.mem_of_getElem? hh))), ?_⟩
      exact mapGet (mapGet hh)
    · refine da_cons ?_
      refine de_int ?_  -- 1
      refine da_nil ?_
      refine ⟨Nat.le_of_ble_eq_true rfl, ?_⟩
      refine ⟨_, _, _, rfl, ?_⟩
      refine dss_cons ?_
      refine ds_for 4 ?_
      refine di_range T.range ?_
      refine de_v 1 rfl ?_  -- _law_rounds
      refine ⟨_, rfl, by omega, ?_⟩
      refine ⟨fun j ρ' => ∃ a : Sl, a.adr = none ∧ ρ' = [.dat (dRows rows), .dat (.int (R : Int)), .dat (.tup (wD came)), .dat (dTolds R told), a, .non, .dat (.lst (told.flatten.map D.int)), .dat (.lst ((came.map fun h => rows.getD h 0).map D.int)), .dat (.int (2 ^ j)), .non, .non, .non, .non], ⟨.non, rfl, rfl⟩, fun j ρ' hI => by obtain ⟨a, ha, rfl⟩ := hI; show [none, none, none, none, a.adr, none, none, none, none, none, none, none, none] = _; rw [ha]; rfl, fun j ρ d hI hd => ?_, fun ρ hI => ?_⟩
      · obtain ⟨a, ha, rfl⟩ := hI
        obtain ⟨hj, rfl⟩ := rangeD_at hd
        refine dss_cons ?_
        refine ds_set 8 ?_  -- _law_worth
        refine de_mul ?_
        refine de_v 8 rfl ?_  -- _law_worth
        refine de_int ?_  -- 2
        refine ⟨.inr ⟨by decide, by decide⟩, ?_⟩
        refine dss_nil ?_
        refine ⟨.dat (.int (j : Int)), rfl, ?_⟩
        rw [Int.pow_succ]
        rfl
      · obtain ⟨a, ha, rfl⟩ := hI
        rw [rangeD_len]
        refine dss_cons ?_
        refine ds_if ?_
        refine dt_val ?_
        refine de_any T.any ?_
        refine de_lcM 11 ?_
        refine di_lst ?_
        refine de_v 6 rfl ?_  -- _law_tops
        refine ⟨by rw [List.length_map]; omega, told.flatten.map fun _ => D.bl false, by rw [List.length_map, List.length_map], fun A j d hd => ?_, ?_⟩
        · obtain ⟨t, ht, rfl⟩ := mapAt hd
          have hmem := List.mem_of_getElem? ht
          have hne := List.ne_nil_of_mem hmem
          refine de_not ?_
          refine de_chain ?_
          refine de_mul ?_
          refine de_min T.min ?_
          refine de_v 7 rfl ?_  -- _law_values
          refine ⟨came.map fun h => rows.getD h 0, rfl, fine_ne fi hne, fun m2 hm2 hl2 => ?_⟩
          refine de_v 8 rfl ?_  -- _law_worth
          refine ⟨.inr (pow_cm h6), ?_⟩
          refine de_v 11 rfl ?_  -- _law_top
          refine ifpT (by rw [lmin_eq hm2 hl2]; exact fi.lo t hmem) ?_
          refine de_mul ?_
          refine de_max T.max ?_
          refine de_v 7 rfl ?_  -- _law_values
          refine ⟨came.map fun h => rows.getD h 0, rfl, fine_ne fi hne, fun m4 hm4 hl4 => ?_⟩
          refine de_v 8 rfl ?_  -- _law_worth
          refine ⟨.inr (pow_cm h6), ?_⟩
          show (told.flatten.map fun _ => D.bl false)[j]? = some (.bl (!decide (t ≤ m4 * 2 ^ R)))
          rw [show decide (t ≤ m4 * 2 ^ R) = true by rw [lmax_eq hm4 hl4]; exact decide_eq_true (fi.hi t hmem)]
          exact mapGet ht
        · refine ⟨told.flatten.map fun _ => false, by rw [List.map_map]; rfl, ?_⟩
          refine ifF (by simp) ?_
          refine dss_nil ?_
          refine dss_cons ?_
          refine ds_set 5 ?_  -- _law_far
          refine de_any T.any ?_
          refine de_lcM 12 ?_
          refine di_lst ?_
          refine de_v 6 rfl ?_  -- _law_tops
          refine ⟨by rw [List.length_map]; omega, told.flatten.map fun _ => D.bl false, by rw [List.length_map, List.length_map], fun A j d hd => ?_, ?_⟩
          · obtain ⟨u, hu, rfl⟩ := mapAt hd
            have hmemu := List.mem_of_getElem? hu
            refine de_any T.any ?_
            refine de_lcM 10 ?_
            refine di_lst ?_
            refine de_v 6 rfl ?_  -- _law_tops
            refine ⟨by rw [List.length_map]; omega, told.flatten.map fun _ => D.bl false, by rw [List.length_map, List.length_map], fun A j d hd => ?_, ?_⟩
            · obtain ⟨t, ht, rfl⟩ := mapAt hd
              have hmem := List.mem_of_getElem? ht
              have hne := List.ne_nil_of_mem hmem
              refine de_cmp ?_
              refine dc_gt ?_
              refine de_sub ?_
              refine de_v 10 rfl ?_  -- _law_one
              refine de_v 12 rfl ?_  -- _law_other
              refine de_sub ?_
              refine de_max T.max ?_
              refine de_v 7 rfl ?_  -- _law_values
              refine ⟨came.map fun h => rows.getD h 0, rfl, fine_ne fi hne, fun m7 hm7 hl7 => ?_⟩
              refine de_min T.min ?_
              refine de_v 7 rfl ?_  -- _law_values
              refine ⟨came.map fun h => rows.getD h 0, rfl, fine_ne fi hne, fun m8 hm8 hl8 => ?_⟩
              show (told.flatten.map fun _ => D.bl false)[j]? = some (.bl (decide (m7 - m8 < t - u)))
              rw [show decide (m7 - m8 < t - u) = false by rw [lmax_eq hm7 hl7, lmin_eq hm8 hl8]; exact decide_eq_false (Int.not_lt.mpr (fi.far t hmem u hmemu))]
              exact mapGet ht
            · refine ⟨told.flatten.map fun _ => false, by rw [List.map_map]; rfl, ?_⟩
              rw [show ((told.flatten.map fun _ => false).any id) = false by simp]
              exact mapGet hu
          · refine ⟨told.flatten.map fun _ => false, by rw [List.map_map]; rfl, ?_⟩
            refine dss_cons ?_
            refine ds_ret ?_
            refine de_if ?_
            refine dt_val ?_
            refine de_v 5 rfl ?_  -- _law_far
            refine ifF (by simp) ?_
            refine de_non ?_  -- None
            exact q
abbrev s_law_fault : Stmt := topS 135
theorem sc_law_fault : FnScope ["_law_kind", "_law_rows", "_law_rounds", "_law_came_here", "_law_told", "_law_items", "_law_one", "_law_item"] ["_law_kind", "_law_rows", "_law_rounds", "_law_came_here", "_law_told"] (defScope s_law_fault) := ⟨rfl, rfl, rfl, by decide +kernel, rfl, by decide +kernel, by decide +kernel⟩
theorem c_law_fault (F : FnP gl.K "_law_fault" "_law_fault" s_law_fault f fd) (hm : gl.mg "_law_fault" = some (.ref f)) (T : Txt gl) (C_law_all : Cal gl 1 "_law_all" 1 (sp_flat)) (C_law_near_fault : Cal gl 2 "_law_near_fault" 4 (sp_law_near_fault)) : Cal gl 3 "_law_fault" 5 (sp_law_fault) := by
  refine cal_d F hm sc_law_fault rfl (fun _ _ _ _ _ _ us hl => match us, hl with | [_, _, _, _, _], _ => rfl) fun W A0 ds post hl hs => ?_
  obtain ⟨R, rows, came, told, rfl, fi, q⟩ := hs
  have op := fi.ok
  have h5 := op.n5
  have e1 := fi.len
  have e2 : (rows.map D.int).length = rows.length := List.length_map ..
  refine dss_cons ?_
  refine ds_set 5 ?_  -- _law_items
  refine de_call C_law_all ?_
  refine da_cons ?_
  refine de_v 4 rfl ?_  -- _law_told
  refine da_nil ?_
  refine ⟨rfl, R, told, rfl, by omega, fi.one, ?_⟩
  refine dss_cons ?_
  refine ds_if ?_
  refine dt_val ?_
  refine de_any T.any ?_
  refine de_lcM 6 ?_
  refine di_range T.range ?_
  refine de_len T.len ?_
  refine de_v 1 rfl ?_  -- _law_rows
  refine ⟨_, rfl, by omega, ?_⟩
  refine ⟨by rw [rangeD_len]; omega, told.map fun _ => D.bl false, by rw [rangeD_len, List.length_map]; omega, fun A j d hd => ?_, ?_⟩
  · obtain ⟨hj, rfl⟩ := rangeD_at hd
    obtain ⟨l, hl⟩ : ∃ l, told[j]? = some l := ⟨_, List.getElem?_eq_getElem (by omega)⟩
    refine de_and ?_
    refine de_cmp ?_
    refine dc_gt ?_
    refine de_len T.len ?_
    refine de_ix ?_
    refine de_v 4 rfl ?_  -- _law_told
    refine de_v 6 rfl ?_  -- _law_one
    refine ⟨_, atMap hl, ?_⟩
    refine de_int ?_  -- 0
    refine ifB (fun hk => ?_) (fun hk => ?_)
    · refine de_one ?_
      refine de_cmp ?_
      refine dc_notIn ?_
      refine de_v 6 rfl ?_  -- _law_one
      refine de_v 3 rfl ?_  -- _law_came_here
      refine ⟨_, .inl ⟨_, nI came, rfl, .inl rfl, rfl⟩, ?_⟩
      rw [show decide ((j : Int) ∈ nI came) = true from decide_eq_true (mem_nI.mpr (fi.own j l hl fun z => by simp [z] at hk))]
      exact mapGet hl
    · exact mapGet hl
  · refine ⟨told.map fun _ => false, by simp, ?_⟩
    refine ifF (by simp) ?_
    refine dss_nil ?_
    refine dss_cons ?_
    refine ds_if ?_
    refine dt_cmp ?_
    refine dc_eq ?_
    refine de_v 0 rfl ?_  -- _law_kind
    refine de_str ?_  -- 'levels'
    refine ⟨_, rfl, ?_⟩
    refine ifF (rfl) ?_
    refine dss_nil ?_
    refine dss_cons ?_
    refine ds_if ?_
    refine dt_cmp ?_
    refine dc_eq ?_
    refine de_v 0 rfl ?_  -- _law_kind
    refine de_str ?_  -- 'names'
    refine ⟨_, rfl, ?_⟩
    refine ifF (rfl) ?_
    refine dss_nil ?_
    refine dss_cons ?_
    refine ds_ret ?_
    refine de_if ?_
    refine dt_cmp ?_
    refine dc_eq ?_
    refine de_v 0 rfl ?_  -- _law_kind
    refine de_str ?_  -- 'near'
    refine ⟨_, rfl, ?_⟩
    refine ifT (rfl) ?_
    refine de_call C_law_near_fault ?_
    refine da_cons ?_
    refine de_v 1 rfl ?_  -- _law_rows
    refine da_cons ?_
    refine de_v 2 rfl ?_  -- _law_rounds
    refine da_cons ?_
    refine de_v 3 rfl ?_  -- _law_came_here
    refine da_cons ?_
    refine de_v 4 rfl ?_  -- _law_told
    refine da_nil ?_
    refine ⟨rfl, R, rows, came, told, rfl, fi, ?_⟩
    exact q
abbrev s_law_whole : Stmt := topS 127
theorem sc_law_whole : FnScope ["_law_kind", "_law_rows", "_law_rounds", "_law_weaving", "_law_standing", "_law_found", "_law_turn", "_law_left_here"] ["_law_kind", "_law_rows", "_law_rounds", "_law_weaving", "_law_standing"] (defScope s_law_whole) := ⟨rfl, rfl, rfl, by decide +kernel, rfl, by decide +kernel, by decide +kernel⟩
theorem c_law_whole (F : FnP gl.K "_law_whole" "_law_whole" s_law_whole f fd) (hm : gl.mg "_law_whole" = some (.ref f)) (T : Txt gl) (C_law_left : Cal gl 1 "_law_left" 1 (sp_movers)) (C_law_moved : Cal gl 2 "_law_moved" 5 (sp_law_moved)) : Cal gl 3 "_law_whole" 5 (sp_law_whole) := by
  refine cal_d F hm sc_law_whole rfl (fun _ _ _ _ _ _ us hl => match us, hl with | [_, _, _, _, _], _ => rfl) fun W A0 ds post hl hs => ?_
  obtain ⟨R, rows, w, rfl, op, ok, hw, q⟩ := hs
  have hmu := mu_60 op ok
  have hl5 : ∀ v, (runS R (initS rows) v).st.length ≤ 1000 := fun v => by rw [(wf_of op v).ls]; have := op.n5; omega
  refine dss_cons ?_
  refine ds_newListOf 5 T.list ?_
  refine de_v 3 rfl ?_  -- _law_weaving
  intro o
  refine dss_cons ?_
  refine ds_for 6 ?_
  refine di_range T.range ?_
  refine de_int ?_  -- 2000
  refine ⟨_, rfl, by decide, ?_⟩
  refine ⟨fun j ρ' => ∃ a b : Sl, a.adr = none ∧ b.adr = none ∧ ρ' = [.dat (.str "near"), .dat (dRows rows), .dat (.int (R : Int)), .dat (.lst (wD w)), .dat (dSg R (runS R (initS rows) (w ++ outF R j (runS R (initS rows) w)))), .own o (wD (w ++ outF R j (runS R (initS rows) w))), a, b], ⟨.non, .non, rfl, rfl, by rw [show outF R 0 (runS R (initS rows) w) = [] from rfl, List.append_nil]; rfl⟩, fun j ρ' hI => by obtain ⟨a, b, ha, hb, rfl⟩ := hI; show [none, none, none, none, none, some o, a.adr, b.adr] = _; rw [ha, hb]; rfl, fun j ρ d hI hd => ?_, fun ρ hI => ?_⟩
  · obtain ⟨a, b, ha, hb, rfl⟩ := hI
    obtain ⟨hj, rfl⟩ := rangeD_at hd
    have hj2 : j < 2000 := hj
    have hs1 := outF_succ (R := R) j (runS R (initS rows) w)
    rw [← runS_append] at hs1
    refine dss_cons ?_
    refine ds_set 7 ?_  -- _law_left_here
    refine de_call C_law_left ?_
    refine da_cons ?_
    refine de_v 4 rfl ?_  -- _law_standing
    refine da_nil ?_
    refine ⟨rfl, R, _, rfl, hl5 _, ?_⟩
    refine dss_cons ?_
    refine ds_if ?_
    refine dt_cmp ?_
    refine dc_gt ?_
    refine de_len T.len ?_
    refine de_v 7 rfl ?_  -- _law_left_here
    refine de_int ?_  -- 0
    refine ifB (fun hk => ?_) (fun hk => ?_)
    · obtain ⟨h, l, hcs, p, hp⟩ := head_canS (S := runS R (initS rows) (w ++ outF R j (runS R (initS rows) w))) (by simpa [wD_len] using hk)
      rw [hcs] at hs1
      have hs2 : outF R (j + 1) (runS R (initS rows) w) = outF R j (runS R (initS rows) w) ++ [h] := hs1
      have hul := outF_len (R := R) j (S := runS R (initS rows) w)
      refine dss_cons ?_
      refine ds_append 5 rfl ?_
      refine de_ix ?_
      refine de_v 7 rfl ?_  -- _law_left_here
      refine de_int ?_  -- 0
      refine ⟨_, atI_nat (j := 0) (by rw [hcs]; rfl), ?_⟩
      refine ⟨by rw [wD_len, List.length_append]; omega, ?_⟩
      refine dss_cons ?_
      refine ds_set 4 ?_  -- _law_standing
      refine de_call C_law_moved ?_
      refine da_cons ?_
      refine de_v 0 rfl ?_  -- _law_kind
      refine da_cons ?_
      refine de_v 1 rfl ?_  -- _law_rows
      refine da_cons ?_
      refine de_v 2 rfl ?_  -- _law_rounds
      refine da_cons ?_
      refine de_v 4 rfl ?_  -- _law_standing
      refine da_cons ?_
      refine de_ix ?_
      refine de_v 7 rfl ?_  -- _law_left_here
      refine de_int ?_  -- 0
      refine ⟨_, atI_nat (j := 0) (by rw [hcs]; rfl), ?_⟩
      refine da_nil ?_
      refine ⟨rfl, R, rows, _, h, p, rfl, op, wf_of op _, hp, ?_⟩
      refine dss_nil ?_
      refine dss_nil ?_
      refine ⟨.dat (.int (j : Int)), .dat (.tup (wD (canS (runS R (initS rows) (w ++ outF R j (runS R (initS rows) w)))))), rfl, rfl, ?_⟩
      rw [hs2, ← List.append_assoc, run_snoc, wD_append (w ++ outF R j (runS R (initS rows) w)) [h]]
      rfl
    · have hcs := nil_canS (S := runS R (initS rows) (w ++ outF R j (runS R (initS rows) w))) (by simpa [wD_len] using hk)
      rw [hcs] at hs1
      have hs2 : outF R (j + 1) (runS R (initS rows) w) = outF R j (runS R (initS rows) w) := hs1.trans (List.append_nil _)
      refine dss_nil ?_
      refine dss_nil ?_
      refine ⟨.dat (.int (j : Int)), .dat (.tup (wD (canS (runS R (initS rows) (w ++ outF R j (runS R (initS rows) w)))))), rfl, rfl, ?_⟩
      rw [hs2]
      rfl
  · obtain ⟨a, b, ha, hb, rfl⟩ := hI
    rw [rangeD_len, outF_more 60 2000 (wf_of op w) (by omega) (by omega)]
    refine dss_cons ?_
    refine ds_ret ?_
    refine de_tup ?_
    refine da_cons ?_
    refine de_tupleOwn 5 T.tuple rfl ?_
    refine da_cons ?_
    refine de_v 4 rfl ?_  -- _law_standing
    refine da_nil ?_
    refine ⟨Nat.le_of_ble_eq_true rfl, ?_⟩
    exact q
end
end Op
namespace Op
open PySem PySem.Spec PyProof.Rows L2 Dl
section
variable {gl : Glob} {f : Addr} {fd : FuncData}
abbrev s_law_is : Stmt := topS 116
theorem sc_law_is : FnScope ["_law_told", "_law_due", "_law_k", "_law_key"] ["_law_told", "_law_due"] (defScope s_law_is) := ⟨rfl, rfl, rfl, by decide +kernel, rfl, by decide +kernel, by decide +kernel⟩
theorem c_law_is (F : FnP gl.K "_law_is" "_law_is" s_law_is f fd) (hm : gl.mg "_law_is" = some (.ref f)) (T : Txt gl) {m : Nat} (C : ∀ m', m = m' + 1 → Cal gl m "_law_is" 2 (sp_law_is m')) : Cal gl (m + 1) "_law_is" 2 (sp_law_is m) := by
  refine cal_d F hm sc_law_is rfl (fun _ _ _ _ _ _ us hl => match us, hl with | [_, _], _ => rfl) fun W A0 ds post hl hs => ?_
  obtain ⟨x, rfl, hx, q⟩ := hs
  rcases plain_cases hx with rfl | ⟨b, rfl⟩ | ⟨i, rfl⟩ | ⟨s, rfl⟩ | ⟨m', l, rfl, rfl, hl, hx⟩ | ⟨m', l, rfl, rfl, hl, hx⟩
  · refine dss_cons ?_
    refine ds_if ?_
    refine dt_val ?_
    refine de_isi2 (T := "tuple") (U := "list") T.isinstance T.tuple T.list (by decide +kernel) (by decide +kernel) ?_
    refine de_v 1 rfl ?_  -- _law_due
    refine ⟨_, false, false, rfl, by decide +kernel, by decide +kernel, ?_⟩
    refine ifF (rfl) ?_
    refine dss_nil ?_
    refine dss_cons ?_
    refine ds_if ?_
    refine dt_val ?_
    refine de_isi (T := "dict") T.isinstance T.dict (by decide +kernel) ?_
    refine de_v 1 rfl ?_  -- _law_due
    refine ⟨_, false, rfl, by decide +kernel, ?_⟩
    refine ifF (rfl) ?_
    refine dss_nil ?_
    refine dss_cons ?_
    refine ds_ret ?_
    refine de_and ?_
    refine de_cmp ?_
    refine dc_eq ?_
    refine de_isi (T := "bool") T.isinstance T.bool (by decide +kernel) ?_
    refine de_v 0 rfl ?_  -- _law_told
    refine ⟨_, false, rfl, by decide +kernel, ?_⟩
    refine de_isi (T := "bool") T.isinstance T.bool (by decide +kernel) ?_
    refine de_v 1 rfl ?_  -- _law_due
    refine ⟨_, false, rfl, by decide +kernel, ?_⟩
    refine ⟨_, rfl, ?_⟩
    refine ifT (rfl) ?_
    refine de_one ?_
    refine de_cmp ?_
    refine dc_eq ?_
    refine de_v 0 rfl ?_  -- _law_told
    refine de_v 1 rfl ?_  -- _law_due
    refine ⟨_, rfl, ?_⟩
    exact q
  · refine dss_cons ?_
    refine ds_if ?_
    refine dt_val ?_
    refine de_isi2 (T := "tuple") (U := "list") T.isinstance T.tuple T.list (by decide +kernel) (by decide +kernel) ?_
    refine de_v 1 rfl ?_  -- _law_due
    refine ⟨_, false, false, rfl, by decide +kernel, by decide +kernel, ?_⟩
    refine ifF (rfl) ?_
    refine dss_nil ?_
    refine dss_cons ?_
    refine ds_if ?_
    refine dt_val ?_
    refine de_isi (T := "dict") T.isinstance T.dict (by decide +kernel) ?_
    refine de_v 1 rfl ?_  -- _law_due
    refine ⟨_, false, rfl, by decide +kernel, ?_⟩
    refine ifF (rfl) ?_
    refine dss_nil ?_
    refine dss_cons ?_
    refine ds_ret ?_
    refine de_and ?_
    refine de_cmp ?_
    refine dc_eq ?_
    refine de_isi (T := "bool") T.isinstance T.bool (by decide +kernel) ?_
    refine de_v 0 rfl ?_  -- _law_told
    refine ⟨_, true, rfl, by decide +kernel, ?_⟩
    refine de_isi (T := "bool") T.isinstance T.bool (by decide +kernel) ?_
    refine de_v 1 rfl ?_  -- _law_due
    refine ⟨_, true, rfl, by decide +kernel, ?_⟩
    refine ⟨_, rfl, ?_⟩
    refine ifT (rfl) ?_
    refine de_one ?_
    refine de_cmp ?_
    refine dc_eq ?_
    refine de_v 0 rfl ?_  -- _law_told
    refine de_v 1 rfl ?_  -- _law_due
    refine ⟨_, rfl, ?_⟩
    rw [decide_eq_true rfl]
    exact q
  · refine dss_cons ?_
    refine ds_if ?_
    refine dt_val ?_
    refine de_isi2 (T := "tuple") (U := "list") T.isinstance T.tuple T.list (by decide +kernel) (by decide +kernel) ?_
    refine de_v 1 rfl ?_  -- _law_due
    refine ⟨_, false, false, rfl, by decide +kernel, by decide +kernel, ?_⟩
    refine ifF (rfl) ?_
    refine dss_nil ?_
    refine dss_cons ?_
    refine ds_if ?_
    refine dt_val ?_
    refine de_isi (T := "dict") T.isinstance T.dict (by decide +kernel) ?_
    refine de_v 1 rfl ?_  -- _law_due
    refine ⟨_, false, rfl, by decide +kernel, ?_⟩
    refine ifF (rfl) ?_
    refine dss_nil ?_
    refine dss_cons ?_
    refine ds_ret ?_
    refine de_and ?_
    refine de_cmp ?_
    refine dc_eq ?_
    refine de_isi (T := "bool") T.isinstance T.bool (by decide +kernel) ?_
    refine de_v 0 rfl ?_  -- _law_told
    refine ⟨_, false, rfl, by decide +kernel, ?_⟩
    refine de_isi (T := "bool") T.isinstance T.bool (by decide +kernel) ?_
    refine de_v 1 rfl ?_  -- _law_due
    refine ⟨_, false, rfl, by decide +kernel, ?_⟩
    refine ⟨_, rfl, ?_⟩
    refine ifT (rfl) ?_
    refine de_one ?_
    refine de_cmp ?_
    refine dc_eq ?_
    refine de_v 0 rfl ?_  -- _law_told
    refine de_v 1 rfl ?_  -- _law_due
    refine ⟨_, rfl, ?_⟩
    rw [decide_eq_true rfl]
    exact q
  · refine dss_cons ?_
    refine ds_if ?_
    refine dt_val ?_
    refine de_isi2 (T := "tuple") (U := "list") T.isinstance T.tuple T.list (by decide +kernel) (by decide +kernel) ?_
    refine de_v 1 rfl ?_  -- _law_due
    refine ⟨_, false, false, rfl, by decide +kernel, by decide +kernel, ?_⟩
    refine ifF (rfl) ?_
    refine dss_nil ?_
    refine dss_cons ?_
    refine ds_if ?_
    refine dt_val ?_
    refine de_isi (T := "dict") T.isinstance T.dict (by decide +kernel) ?_
    refine de_v 1 rfl ?_  -- _law_due
    refine ⟨_, false, rfl, by decide +kernel, ?_⟩
    refine ifF (rfl) ?_
    refine dss_nil ?_
    refine dss_cons ?_
    refine ds_ret ?_
    refine de_and ?_
    refine de_cmp ?_
    refine dc_eq ?_
    refine de_isi (T := "bool") T.isinstance T.bool (by decide +kernel) ?_
    refine de_v 0 rfl ?_  -- _law_told
    refine ⟨_, false, rfl, by decide +kernel, ?_⟩
    refine de_isi (T := "bool") T.isinstance T.bool (by decide +kernel) ?_
    refine de_v 1 rfl ?_  -- _law_due
    refine ⟨_, false, rfl, by decide +kernel, ?_⟩
    refine ⟨_, rfl, ?_⟩
    refine ifT (rfl) ?_
    refine de_one ?_
    refine de_cmp ?_
    refine dc_eq ?_
    refine de_v 0 rfl ?_  -- _law_told
    refine de_v 1 rfl ?_  -- _law_due
    refine ⟨_, rfl, ?_⟩
    rw [decide_eq_true rfl]
    exact q
  · refine dss_cons ?_
    refine ds_if ?_
    refine dt_val ?_
    refine de_isi2 (T := "tuple") (U := "list") T.isinstance T.tuple T.list (by decide +kernel) (by decide +kernel) ?_
    refine de_v 1 rfl ?_  -- _law_due
    refine ⟨_, true, false, rfl, by decide +kernel, by decide +kernel, ?_⟩
    refine ifT (rfl) ?_
    refine dss_cons ?_
    refine ds_if ?_
    refine dt_or2 ?_
    refine dt_cmp ?_
    refine dc_ne ?_
    refine de_isi (T := "tuple") T.isinstance T.tuple (by decide +kernel) ?_
    refine de_v 0 rfl ?_  -- _law_told
    refine ⟨_, true, rfl, by decide +kernel, ?_⟩
    refine de_isi (T := "tuple") T.isinstance T.tuple (by decide +kernel) ?_
    refine de_v 1 rfl ?_  -- _law_due
    refine ⟨_, true, rfl, by decide +kernel, ?_⟩
    refine ⟨_, rfl, ?_⟩
    refine ifF (rfl) ?_
    refine dt_cmp ?_
    refine dc_ne ?_
    refine de_isi (T := "list") T.isinstance T.list (by decide +kernel) ?_
    refine de_v 0 rfl ?_  -- _law_told
    refine ⟨_, false, rfl, by decide +kernel, ?_⟩
    refine de_isi (T := "list") T.isinstance T.list (by decide +kernel) ?_
    refine de_v 1 rfl ?_  -- _law_due
    refine ⟨_, false, rfl, by decide +kernel, ?_⟩
    refine ⟨_, rfl, ?_⟩
    refine ifF (rfl) ?_
    refine dss_nil ?_
    refine dss_cons ?_
    refine ds_ret ?_
    refine de_and ?_
    refine de_cmp ?_
    refine dc_eq ?_
    refine de_len T.len ?_
    refine de_v 0 rfl ?_  -- _law_told
    refine de_len T.len ?_
    refine de_v 1 rfl ?_  -- _law_due
    refine ⟨_, rfl, ?_⟩
    refine ifT (decide_eq_true rfl) ?_
    refine de_one ?_
    refine de_all T.all ?_
    refine de_lcM 2 ?_
    refine di_range T.range ?_
    refine de_len T.len ?_
    refine de_v 1 rfl ?_  -- _law_due
    refine ⟨_, rfl, by omega, ?_⟩
    refine ⟨by rw [rangeD_len]; omega, l.map fun _ => D.bl true, by rw [rangeD_len, List.length_map], fun A j d hd => ?_, ?_⟩
    · obtain ⟨hj, rfl⟩ := rangeD_at hd
      refine de_call (hj := ble_self _) (C _ rfl) ?_
      refine da_cons ?_
      refine de_ix ?_
      refine de_v 0 rfl ?_  -- _law_told
      refine de_v 2 rfl ?_  -- _law_k
      refine ⟨_, atI_nat (List.getElem?_eq_getElem hj), ?_⟩
      refine da_cons ?_
      refine de_ix ?_
      refine de_v 1 rfl ?_  -- _law_due
      refine de_v 2 rfl ?_  -- _law_k
      refine ⟨_, atI_nat (List.getElem?_eq_getElem hj), ?_⟩
      refine da_nil ?_
      refine ⟨rfl, _, rfl, hx _ (List.getElem_mem hj), ?_⟩
      exact mapGet (List.getElem?_eq_getElem hj)
    · refine ⟨l.map fun _ => true, by rw [List.map_map]; rfl, ?_⟩
      rw [show ((l.map fun _ => true).all id) = true by simp]
      exact q
  · refine dss_cons ?_
    refine ds_if ?_
    refine dt_val ?_
    refine de_isi2 (T := "tuple") (U := "list") T.isinstance T.tuple T.list (by decide +kernel) (by decide +kernel) ?_
    refine de_v 1 rfl ?_  -- _law_due
    refine ⟨_, false, true, rfl, by decide +kernel, by decide +kernel, ?_⟩
    refine ifT (rfl) ?_
    refine dss_cons ?_
    refine ds_if ?_
    refine dt_or2 ?_
    refine dt_cmp ?_
    refine dc_ne ?_
    refine de_isi (T := "tuple") T.isinstance T.tuple (by decide +kernel) ?_
    refine de_v 0 rfl ?_  -- _law_told
    refine ⟨_, false, rfl, by decide +kernel, ?_⟩
    refine de_isi (T := "tuple") T.isinstance T.tuple (by decide +kernel) ?_
    refine de_v 1 rfl ?_  -- _law_due
    refine ⟨_, false, rfl, by decide +kernel, ?_⟩
    refine ⟨_, rfl, ?_⟩
    refine ifF (rfl) ?_
    refine dt_cmp ?_
    refine dc_ne ?_
    refine de_isi (T := "list") T.isinstance T.list (by decide +kernel) ?_
    refine de_v 0 rfl ?_  -- _law_told
    refine ⟨_, true, rfl, by decide +kernel, ?_⟩
    refine de_isi (T := "list") T.isinstance T.list (by decide +kernel) ?_
    refine de_v 1 rfl ?_  -- _law_due
    refine ⟨_, true, rfl, by decide +kernel, ?_⟩
    refine ⟨_, rfl, ?_⟩
    refine ifF (rfl) ?_
    refine dss_nil ?_
    refine dss_cons ?_
    refine ds_ret ?_
    refine de_and ?_
    refine de_cmp ?_
    refine dc_eq ?_
    refine de_len T.len ?_
    refine de_v 0 rfl ?_  -- _law_told
    refine de_len T.len ?_
    refine de_v 1 rfl ?_  -- _law_due
    refine ⟨_, rfl, ?_⟩
    refine ifT (decide_eq_true rfl) ?_
    refine de_one ?_
    refine de_all T.all ?_
    refine de_lcM 2 ?_
    refine di_range T.range ?_
    refine de_len T.len ?_
    refine de_v 1 rfl ?_  -- _law_due
    refine ⟨_, rfl, by omega, ?_⟩
    refine ⟨by rw [rangeD_len]; omega, l.map fun _ => D.bl true, by rw [rangeD_len, List.length_map], fun A j d hd => ?_, ?_⟩
    · obtain ⟨hj, rfl⟩ := rangeD_at hd
      refine de_call (hj := ble_self _) (C _ rfl) ?_
      refine da_cons ?_
      refine de_ix ?_
      refine de_v 0 rfl ?_  -- _law_told
      refine de_v 2 rfl ?_  -- _law_k
      refine ⟨_, atI_nat (List.getElem?_eq_getElem hj), ?_⟩
      refine da_cons ?_
      refine de_ix ?_
      refine de_v 1 rfl ?_  -- _law_due
      refine de_v 2 rfl ?_  -- _law_k
      refine ⟨_, atI_nat (List.getElem?_eq_getElem hj), ?_⟩
      refine da_nil ?_
      refine ⟨rfl, _, rfl, hx _ (List.getElem_mem hj), ?_⟩
      exact mapGet (List.getElem?_eq_getElem hj)
    · refine ⟨l.map fun _ => true, by rw [List.map_map]; rfl, ?_⟩
      rw [show ((l.map fun _ => true).all id) = true by simp]
      exact q
abbrev s_law_inputs : Stmt := topS 117
theorem sc_law_inputs : FnScope ["_law_hand_here", "_law_kind", "_law_many", "_law_rounds", "_law_rows", "_law_one"] ["_law_hand_here", "_law_kind"] (defScope s_law_inputs) := ⟨rfl, rfl, rfl, by decide +kernel, rfl, by decide +kernel, by decide +kernel⟩
theorem c_law_inputs (F : FnP gl.K "_law_inputs" "_law_inputs" s_law_inputs f fd) (hm : gl.mg "_law_inputs" = some (.ref f)) (T : Txt gl) (C_law_some : Cal gl 2 "_law_some" 2 (sp_law_some)) (C_law_draw : Cal gl 1 "_law_draw" 2 (sp_law_draw)) : Cal gl 3 "_law_inputs" 2 (sp_law_inputs) := by
  refine cal_d F hm sc_law_inputs rfl (fun _ _ _ _ _ _ us hl => match us, hl with | [_, _], _ => rfl) fun W A0 ds post hl hs => ?_
  obtain ⟨rfl, q⟩ := hs
  refine dss_cons ?_
  refine ds_set 2 ?_  -- _law_many
  refine de_call C_law_some ?_
  refine da_cons ?_
  refine de_v 0 rfl ?_  -- _law_hand_here
  refine da_cons ?_
  refine de_lst ?_
  refine da_cons ?_
  refine de_int ?_  -- 1
  refine da_cons ?_
  refine de_int ?_  -- 2
  refine da_cons ?_
  refine de_int ?_  -- 2
  refine da_cons ?_
  refine de_int ?_  -- 3
  refine da_cons ?_
  refine de_int ?_  -- 3
  refine da_cons ?_
  refine de_int ?_  -- 3
  refine da_cons ?_
  refine de_int ?_  -- 4
  refine da_cons ?_
  refine de_int ?_  -- 5
  refine da_nil ?_
  refine ⟨Nat.le_of_ble_eq_true rfl, ?_⟩
  refine da_nil ?_
  refine ⟨rfl, _, rfl, by simp, by simp, fun x hx => ?_⟩
  obtain ⟨n, hn1, hn5, rfl⟩ := many_of hx
  refine dss_cons ?_
  refine ds_if ?_
  refine dt_cmp ?_
  refine dc_eq ?_
  refine de_v 1 rfl ?_  -- _law_kind
  refine de_str ?_  -- 'levels'
  refine ⟨_, rfl, ?_⟩
  refine ifF (rfl) ?_
  refine dss_cons ?_
  refine ds_if ?_
  refine dt_cmp ?_
  refine dc_eq ?_
  refine de_v 1 rfl ?_  -- _law_kind
  refine de_str ?_  -- 'names'
  refine ⟨_, rfl, ?_⟩
  refine ifF (rfl) ?_
  refine dss_cons ?_
  refine ds_if ?_
  refine dt_cmp ?_
  refine dc_eq ?_
  refine de_v 1 rfl ?_  -- _law_kind
  refine de_str ?_  -- 'near'
  refine ⟨_, rfl, ?_⟩
  refine ifT (rfl) ?_
  refine dss_cons ?_
  refine ds_set 4 ?_  -- _law_rows
  refine de_tupleOf T.tuple ?_
  refine de_lc 5 ?_
  refine di_range T.range ?_
  refine de_v 2 rfl ?_  -- _law_many
  refine ⟨_, rfl, by omega, ?_⟩
  refine ⟨by rw [rangeD_len]; omega, fun j acc => ∃ l : List Int, l.length = j ∧ acc = l.map D.int ∧ ∀ x ∈ l, -1000 ≤ x ∧ x ≤ 1000, ⟨[], rfl, rfl, fun _ h => nomatch h⟩, fun A j acc d hI hd => ?_, fun acc hI => ?_⟩
  · obtain ⟨hj, rfl⟩ := rangeD_at hd
    refine df_nil ?_
    refine ifT rfl ?_
    refine de_call C_law_some ?_
    refine da_cons ?_
    refine de_v 0 rfl ?_  -- _law_hand_here
    refine da_cons ?_
    refine de_lst ?_
    refine da_cons ?_
    refine de_int ?_  -- 0
    refine da_cons ?_
    refine de_int ?_  -- 1
    refine da_cons ?_
    refine de_neg ?_
    refine de_int ?_  -- 1
    refine da_cons ?_
    refine de_int ?_  -- 1000
    refine da_cons ?_
    refine de_neg ?_
    refine de_int ?_  -- 1000
    refine da_cons ?_
    refine de_sub ?_
    refine de_int ?_  -- 500
    refine de_call C_law_draw ?_
    refine da_cons ?_
    refine de_v 0 rfl ?_  -- _law_hand_here
    refine da_cons ?_
    refine de_int ?_  -- 1000
    refine da_nil ?_
    refine ⟨rfl, _, rfl, by decide, by decide, fun d h0 h1 => ?_⟩
    refine da_nil ?_
    refine ⟨Nat.le_of_ble_eq_true rfl, ?_⟩
    refine da_nil ?_
    refine ⟨rfl, _, rfl, by simp, by simp, fun y hy => ?_⟩
    obtain ⟨l, hl, rfl, hb⟩ := hI
    obtain ⟨v, rfl, hv⟩ := value_of h0 h1 hy
    exact ⟨l ++ [v], by rw [List.length_append, hl]; rfl, by rw [List.map_append]; rfl, mem_snoc hb hv⟩
  · obtain ⟨l, hl, rfl, hb⟩ := hI
    rw [rangeD_len] at hl
    refine dss_nil ?_
    refine dss_nil ?_
    refine dss_nil ?_
    refine dss_cons ?_
    refine ds_set 3 ?_  -- _law_rounds
    refine de_if ?_
    refine dt_cmp ?_
    refine dc_eq ?_
    refine de_v 1 rfl ?_  -- _law_kind
    refine de_str ?_  -- 'near'
    refine ⟨_, rfl, ?_⟩
    refine ifT (rfl) ?_
    refine de_add ?_
    refine de_int ?_  -- 1
    refine de_call C_law_draw ?_
    refine da_cons ?_
    refine de_v 0 rfl ?_  -- _law_hand_here
    refine da_cons ?_
    refine de_int ?_  -- 6
    refine da_nil ?_
    refine ⟨rfl, _, rfl, by decide, by decide, fun d h0 h1 => ?_⟩
    obtain ⟨r, rfl⟩ := Int.eq_ofNat_of_zero_le h0
    refine dss_cons ?_
    refine ds_ret ?_
    refine de_tup ?_
    refine da_cons ?_
    refine de_if ?_
    refine dt_cmp ?_
    refine dc_eq ?_
    refine de_v 1 rfl ?_  -- _law_kind
    refine de_str ?_  -- 'near'
    refine ⟨_, rfl, ?_⟩
    refine ifT (rfl) ?_
    refine de_tup ?_
    refine da_cons ?_
    refine de_v 3 rfl ?_  -- _law_rounds
    refine da_cons ?_
    refine de_v 4 rfl ?_  -- _law_rows
    refine da_nil ?_
    refine ⟨Nat.le_of_ble_eq_true rfl, ?_⟩
    refine da_cons ?_
    refine de_v 4 rfl ?_  -- _law_rows
    refine da_cons ?_
    refine de_v 3 rfl ?_  -- _law_rounds
    refine da_nil ?_
    refine ⟨Nat.le_of_ble_eq_true rfl, ?_⟩
    exact q (1 + r) l ⟨by omega, by omega, by omega, by omega, hb⟩
abbrev s_law_woven : Stmt := topS 126
theorem sc_law_woven : FnScope ["_law_hand_here", "_law_kind", "_law_rows", "_law_rounds", "_law_most", "_law_turn", "_law_found", "_law_stood", "_law_way", "_law_stops", "_law_one", "_law_left_here", "_law_behind", "_law_other"] ["_law_hand_here", "_law_kind", "_law_rows", "_law_rounds", "_law_most"] (defScope s_law_woven) := ⟨rfl, rfl, rfl, by decide +kernel, rfl, by decide +kernel, by decide +kernel⟩
theorem c_law_woven (F : FnP gl.K "_law_woven" "_law_woven" s_law_woven f fd) (hm : gl.mg "_law_woven" = some (.ref f)) (T : Txt gl) (C_law_begin : Cal gl 1 "_law_begin" 2 (sp_law_begin)) (C_law_draw : Cal gl 1 "_law_draw" 2 (sp_law_draw)) (C_law_left : Cal gl 1 "_law_left" 1 (sp_movers)) (C_law_moved : Cal gl 2 "_law_moved" 5 (sp_law_moved)) (C_law_some : Cal gl 2 "_law_some" 2 (sp_law_some)) : Cal gl 3 "_law_woven" 5 (sp_law_woven) := by
  refine cal_d F hm sc_law_woven rfl (fun _ _ _ _ _ _ us hl => match us, hl with | [_, _, _, _, _], _ => rfl) fun W A0 ds post hl hs => ?_
  obtain ⟨R, rows, m, rfl, op, hm, q⟩ := hs
  have hn := op.n5
  have hlen : (rows.map D.int).length = rows.length := List.length_map ..
  have hl5 : ∀ v, (runS R (initS rows) v).st.length ≤ 5 := fun v => by rw [(wf_of op v).ls]; exact hn
  refine dss_cons ?_
  refine ds_own3 6 7 8 (by decide) ?_
  intro A1
  refine de_call C_law_begin ?_
  refine da_cons ?_
  refine de_v 1 rfl ?_  -- _law_kind
  refine da_cons ?_
  refine de_v 2 rfl ?_  -- _law_rows
  refine da_nil ?_
  refine ⟨rfl, R, rows, rfl, op, ?_⟩
  intro A2
  refine de_call C_law_draw ?_
  refine da_cons ?_
  refine de_v 0 rfl ?_  -- _law_hand_here
  refine da_cons ?_
  refine de_int ?_  -- 4
  refine da_nil ?_
  refine ⟨rfl, _, rfl, by decide, by decide, fun way w0 w1 => ?_⟩
  intro o o'
  refine dss_cons ?_
  refine ds_tup2 9 10 ?_
  refine de_tup ?_
  refine da_cons ?_
  refine de_lc 13 ?_
  refine di_range T.range ?_
  refine de_len T.len ?_
  refine de_v 2 rfl ?_  -- _law_rows
  refine ⟨_, rfl, by omega, ?_⟩
  refine ⟨by rw [rangeD_len]; omega, fun j acc => ∃ l : List Int, acc = l.map D.int, ⟨[], rfl⟩, fun A j acc d hI hd => ?_, fun acc hI => ?_⟩
  · obtain ⟨hj, rfl⟩ := rangeD_at hd
    obtain ⟨l, rfl⟩ := hI
    refine df_one ?_
    refine dt_and2 ?_
    refine dt_cmp ?_
    refine dc_gt ?_
    refine de_v 8 rfl ?_  -- _law_way
    refine de_int ?_  -- 1
    refine ifB (fun hk1 => ?_) (fun hk1 => ?_)
    · refine dt_cmp ?_
      refine dc_eq ?_
      refine de_call C_law_draw ?_
      refine da_cons ?_
      refine de_v 0 rfl ?_  -- _law_hand_here
      refine da_cons ?_
      refine de_int ?_  -- 4
      refine da_nil ?_
      refine ⟨rfl, _, rfl, by decide, by decide, fun d d0 d1 => ?_⟩
      refine de_int ?_  -- 0
      refine ⟨_, rfl, ?_⟩
      refine ifB (fun hk2 => ?_) (fun hk2 => ?_)
      · refine de_v 13 rfl ?_  -- _law_other
        exact ⟨l ++ [(j : Int)], by rw [List.map_append]; rfl⟩
      · exact ⟨l, rfl⟩
    · refine ifF (rfl) ?_
      exact ⟨l, rfl⟩
  · obtain ⟨stops, rfl⟩ := hI
    refine da_cons ?_
    refine de_int ?_  -- 0
    refine da_nil ?_
    refine ⟨Nat.le_of_ble_eq_true rfl, ?_⟩
    refine ⟨_, _, rfl, ?_⟩
    refine dss_cons ?_
    refine ds_for 5 ?_
    refine di_range T.range ?_
    refine de_v 4 rfl ?_  -- _law_most
    refine ⟨_, rfl, by omega, ?_⟩
    refine ⟨fun j ρ' => ∃ (w : List Nat) (o1 : Int) (a b e : Sl), okW R (initS rows) w ∧ w.length ≤ j ∧ a.adr = none ∧ b.adr = none ∧ e.adr = none ∧ ρ' = [.dat .hnd, .dat (.str "near"), .dat (dRows rows), .dat (.int (R : Int)), .dat (.int (m : Int)), a, .own o (wD w), .own o' ((stood R (initS rows) w).map (dSg R)), .dat (.int way), .dat (.lst (stops.map D.int)), .dat (.int o1), b, e, .non], ⟨[], 0, .non, .non, .non, trivial, Nat.le_refl _, rfl, rfl, rfl, rfl⟩, fun j ρ' hI => by obtain ⟨w, o1, a, b, e, ok, hw, ha, hb, he, rfl⟩ := hI; show [none, none, none, none, none, a.adr, some o, some o', none, none, none, b.adr, e.adr, none] = _; rw [ha, hb, he]; rfl, fun j ρ d hI hd => ?_, fun ρ hI => ?_⟩
    · obtain ⟨w, o1, a, b, e, ok, hw, ha, hb, he, rfl⟩ := hI
      obtain ⟨hj, rfl⟩ := rangeD_at hd
      have wf := wf_of op w
      have hjm : j < m := hj
      have hc5 := canS_len (runS R (initS rows) w)
      have hs5 := hl5 w
      refine dss_cons ?_
      refine ds_setLc 11 13 ?_
      refine di_tup ?_
      refine de_call C_law_left ?_
      refine da_cons ?_
      refine de_ixOwn 7 rfl ?_
      refine de_neg ?_
      refine de_int ?_  -- 1
      refine ⟨_, lastAt, ?_⟩
      refine da_nil ?_
      refine ⟨rfl, R, _, rfl, by omega, ?_⟩
      refine ⟨by rw [wD_len]; omega, fun j acc => ∃ l : List Int, acc = l.map D.int ∧ l.length ≤ j ∧ ∀ x ∈ l, ∃ h : Nat, x = (h : Int) ∧ h ∈ canS (runS R (initS rows) w), ⟨[], rfl, Nat.le_refl _, fun _ z => nomatch z⟩, fun A j acc d hI hd => ?_, fun acc hI => ?_⟩
      · obtain ⟨h, hh, rfl⟩ := wD_at hd
        obtain ⟨l, rfl, hl, hP⟩ := hI
        refine df_one ?_
        refine dt_or2 ?_
        refine dt_cmp ?_
        refine dc_notIn ?_
        refine de_v 13 rfl ?_  -- _law_other
        refine de_v 9 rfl ?_  -- _law_stops
        refine ⟨_, .inl ⟨_, stops, rfl, .inr rfl, rfl⟩, ?_⟩
        refine ifB (fun hk1 => ?_) (fun hk1 => ?_)
        · refine ifT (rfl) ?_
          refine de_v 13 rfl ?_  -- _law_other
          exact ⟨l ++ [(h : Int)], by rw [List.map_append]; rfl, by rw [List.length_append]; exact Nat.succ_le_succ hl, mem_snoc hP ⟨h, rfl, List.mem_of_getElem? hh⟩⟩
        · refine dt_cmp ?_
          refine dc_lt ?_
          refine de_v 5 rfl ?_  -- _law_turn
          refine de_int ?_  -- 4
          refine ifB (fun hk2 => ?_) (fun hk2 => ?_)
          · refine de_v 13 rfl ?_  -- _law_other
            exact ⟨l ++ [(h : Int)], by rw [List.map_append]; rfl, by rw [List.length_append]; exact Nat.succ_le_succ hl, mem_snoc hP ⟨h, rfl, List.mem_of_getElem? hh⟩⟩
          · exact ⟨l, rfl, Nat.le_succ_of_le hl, hP⟩
      · obtain ⟨ls, rfl, hll, hP⟩ := hI
        rw [wD_len] at hll
        refine dss_cons ?_
        refine ds_if ?_
        refine dt_cmp ?_
        refine dc_gt ?_
        refine de_len T.len ?_
        refine de_v 11 rfl ?_  -- _law_left_here
        refine de_int ?_  -- 0
        refine ifB (fun hk3 => ?_) (fun hk3 => ?_)
        · have hls : 0 < ls.length := by simpa using hk3
          refine dss_cons ?_
          refine ds_setLc 12 13 ?_
          refine di_lst ?_
          refine de_v 11 rfl ?_  -- _law_left_here
          refine ⟨by rw [List.length_map]; omega, fun j acc => ∃ l : List Int, acc = l.map D.int ∧ ∀ x ∈ l, ∃ h : Nat, x = (h : Int) ∧ h ∈ canS (runS R (initS rows) w), ⟨[], rfl, fun _ z => nomatch z⟩, fun A j acc d hI hd => ?_, fun acc hI => ?_⟩
          · obtain ⟨v, hv, rfl⟩ := mapAt hd
            obtain ⟨l, rfl, hPl⟩ := hI
            refine df_one ?_
            refine dt_cmp ?_
            refine dc_gt ?_
            refine de_v 13 rfl ?_  -- _law_other
            refine de_v 10 rfl ?_  -- _law_one
            refine ifB (fun hk4 => ?_) (fun hk4 => ?_)
            · refine de_v 13 rfl ?_  -- _law_other
              exact ⟨l ++ [v], by rw [List.map_append]; rfl, mem_snoc hPl (hP v (List.mem_of_getElem? hv))⟩
            · exact ⟨l, rfl, hPl⟩
          · obtain ⟨bs, rfl, hPb⟩ := hI
            refine dss_cons ?_
            refine ds_if ?_
            refine dt_cmp ?_
            refine dc_eq ?_
            refine de_v 8 rfl ?_  -- _law_way
            refine de_int ?_  -- 0
            refine ⟨_, rfl, ?_⟩
            refine ifB (fun hk5 => ?_) (fun hk5 => ?_)
            · refine dss_cons ?_
              refine ds_set 10 ?_  -- _law_one
              refine de_if ?_
              refine dt_cmp ?_
              refine dc_gt ?_
              refine de_len T.len ?_
              refine de_v 12 rfl ?_  -- _law_behind
              refine de_int ?_  -- 0
              refine ifB (fun hk6 => ?_) (fun hk6 => ?_)
              · obtain ⟨v, hv, hat⟩ := head_at (l := bs) (by simpa using hk6)
                obtain ⟨h, rfl, hh⟩ := hPb v hv
                obtain ⟨p, hp⟩ := mem_canS.mp hh
                refine de_ix ?_
                refine de_v 12 rfl ?_  -- _law_behind
                refine de_int ?_  -- 0
                refine ⟨_, hat, ?_⟩
                refine dss_nil ?_
                refine dss_cons ?_
                refine ds_append 6 rfl ?_
                refine de_v 10 rfl ?_  -- _law_one
                refine ⟨by rw [wD_len]; omega, ?_⟩
                refine dss_cons ?_
                refine ds_append 7 rfl ?_
                refine de_call C_law_moved ?_
                refine da_cons ?_
                refine de_v 1 rfl ?_  -- _law_kind
                refine da_cons ?_
                refine de_v 2 rfl ?_  -- _law_rows
                refine da_cons ?_
                refine de_v 3 rfl ?_  -- _law_rounds
                refine da_cons ?_
                refine de_ixOwn 7 rfl ?_
                refine de_neg ?_
                refine de_int ?_  -- 1
                refine ⟨_, lastAt, ?_⟩
                refine da_cons ?_
                refine de_v 10 rfl ?_  -- _law_one
                refine da_nil ?_
                refine ⟨rfl, R, rows, _, h, p, rfl, op, wf, hp, ?_⟩
                refine ⟨by rw [List.length_map, stood_len]; omega, ?_⟩
                refine dss_nil ?_
                refine dss_nil ?_
                refine ⟨w ++ [h], (h : Int), .dat (.int (j : Int)), .dat (.lst (ls.map D.int)), .dat (.lst (bs.map D.int)), okW_append.mpr ⟨ok, ⟨p, hp⟩, trivial⟩, by rw [List.length_append]; exact Nat.succ_le_succ hw, rfl, rfl, rfl, ?_⟩
                rw [wD_append, stood_snoc, List.map_append, run_snoc]
                rfl
              · obtain ⟨v, hv, hat⟩ := head_at (l := ls) hls
                obtain ⟨h, rfl, hh⟩ := hP v hv
                obtain ⟨p, hp⟩ := mem_canS.mp hh
                refine de_ix ?_
                refine de_v 11 rfl ?_  -- _law_left_here
                refine de_int ?_  -- 0
                refine ⟨_, hat, ?_⟩
                refine dss_nil ?_
                refine dss_cons ?_
                refine ds_append 6 rfl ?_
                refine de_v 10 rfl ?_  -- _law_one
                refine ⟨by rw [wD_len]; omega, ?_⟩
                refine dss_cons ?_
                refine ds_append 7 rfl ?_
                refine de_call C_law_moved ?_
                refine da_cons ?_
                refine de_v 1 rfl ?_  -- _law_kind
                refine da_cons ?_
                refine de_v 2 rfl ?_  -- _law_rows
                refine da_cons ?_
                refine de_v 3 rfl ?_  -- _law_rounds
                refine da_cons ?_
                refine de_ixOwn 7 rfl ?_
                refine de_neg ?_
                refine de_int ?_  -- 1
                refine ⟨_, lastAt, ?_⟩
                refine da_cons ?_
                refine de_v 10 rfl ?_  -- _law_one
                refine da_nil ?_
                refine ⟨rfl, R, rows, _, h, p, rfl, op, wf, hp, ?_⟩
                refine ⟨by rw [List.length_map, stood_len]; omega, ?_⟩
                refine dss_nil ?_
                refine dss_nil ?_
                refine ⟨w ++ [h], (h : Int), .dat (.int (j : Int)), .dat (.lst (ls.map D.int)), .dat (.lst (bs.map D.int)), okW_append.mpr ⟨ok, ⟨p, hp⟩, trivial⟩, by rw [List.length_append]; exact Nat.succ_le_succ hw, rfl, rfl, rfl, ?_⟩
                rw [wD_append, stood_snoc, List.map_append, run_snoc]
                rfl
            · refine dss_cons ?_
              refine ds_if ?_
              refine dt_or3 ?_
              refine dt_cmp ?_
              refine dc_eq ?_
              refine de_v 8 rfl ?_  -- _law_way
              refine de_int ?_  -- 1
              refine ⟨_, rfl, ?_⟩
              refine ifB (fun hk7 => ?_) (fun hk7 => ?_)
              · refine ifT (rfl) ?_
                refine dss_cons ?_
                refine ds_set 10 ?_  -- _law_one
                refine de_call C_law_some ?_
                refine da_cons ?_
                refine de_v 0 rfl ?_  -- _law_hand_here
                refine da_cons ?_
                refine de_v 11 rfl ?_  -- _law_left_here
                refine da_nil ?_
                refine ⟨rfl, _, rfl, map_ne hls, by rw [List.length_map]; omega, fun y hy => ?_⟩
                obtain ⟨v, hv, rfl⟩ := List.mem_map.mp hy
                obtain ⟨h, rfl, hh⟩ := hP v hv
                obtain ⟨p, hp⟩ := mem_canS.mp hh
                refine dss_nil ?_
                refine dss_nil ?_
                refine dss_cons ?_
                refine ds_append 6 rfl ?_
                refine de_v 10 rfl ?_  -- _law_one
                refine ⟨by rw [wD_len]; omega, ?_⟩
                refine dss_cons ?_
                refine ds_append 7 rfl ?_
                refine de_call C_law_moved ?_
                refine da_cons ?_
                refine de_v 1 rfl ?_  -- _law_kind
                refine da_cons ?_
                refine de_v 2 rfl ?_  -- _law_rows
                refine da_cons ?_
                refine de_v 3 rfl ?_  -- _law_rounds
                refine da_cons ?_
                refine de_ixOwn 7 rfl ?_
                refine de_neg ?_
                refine de_int ?_  -- 1
                refine ⟨_, lastAt, ?_⟩
                refine da_cons ?_
                refine de_v 10 rfl ?_  -- _law_one
                refine da_nil ?_
                refine ⟨rfl, R, rows, _, h, p, rfl, op, wf, hp, ?_⟩
                refine ⟨by rw [List.length_map, stood_len]; omega, ?_⟩
                refine dss_nil ?_
                refine dss_nil ?_
                refine ⟨w ++ [h], (h : Int), .dat (.int (j : Int)), .dat (.lst (ls.map D.int)), .dat (.lst (bs.map D.int)), okW_append.mpr ⟨ok, ⟨p, hp⟩, trivial⟩, by rw [List.length_append]; exact Nat.succ_le_succ hw, rfl, rfl, rfl, ?_⟩
                rw [wD_append, stood_snoc, List.map_append, run_snoc]
                rfl
              · refine dt_cmp ?_
                refine dc_notIn ?_
                refine de_v 10 rfl ?_  -- _law_one
                refine de_v 11 rfl ?_  -- _law_left_here
                refine ⟨_, .inl ⟨_, ls, rfl, .inr rfl, rfl⟩, ?_⟩
                refine ifB (fun hk8 => ?_) (fun hk8 => ?_)
                · refine ifT (rfl) ?_
                  refine dss_cons ?_
                  refine ds_set 10 ?_  -- _law_one
                  refine de_call C_law_some ?_
                  refine da_cons ?_
                  refine de_v 0 rfl ?_  -- _law_hand_here
                  refine da_cons ?_
                  refine de_v 11 rfl ?_  -- _law_left_here
                  refine da_nil ?_
                  refine ⟨rfl, _, rfl, map_ne hls, by rw [List.length_map]; omega, fun y hy => ?_⟩
                  obtain ⟨v, hv, rfl⟩ := List.mem_map.mp hy
                  obtain ⟨h, rfl, hh⟩ := hP v hv
                  obtain ⟨p, hp⟩ := mem_canS.mp hh
                  refine dss_nil ?_
                  refine dss_nil ?_
                  refine dss_cons ?_
                  refine ds_append 6 rfl ?_
                  refine de_v 10 rfl ?_  -- _law_one
                  refine ⟨by rw [wD_len]; omega, ?_⟩
                  refine dss_cons ?_
                  refine ds_append 7 rfl ?_
                  refine de_call C_law_moved ?_
                  refine da_cons ?_
                  refine de_v 1 rfl ?_  -- _law_kind
                  refine da_cons ?_
                  refine de_v 2 rfl ?_  -- _law_rows
                  refine da_cons ?_
                  refine de_v 3 rfl ?_  -- _law_rounds
                  refine da_cons ?_
                  refine de_ixOwn 7 rfl ?_
                  refine de_neg ?_
                  refine de_int ?_  -- 1
                  refine ⟨_, lastAt, ?_⟩
                  refine da_cons ?_
                  refine de_v 10 rfl ?_  -- _law_one
                  refine da_nil ?_
                  refine ⟨rfl, R, rows, _, h, p, rfl, op, wf, hp, ?_⟩
                  refine ⟨by rw [List.length_map, stood_len]; omega, ?_⟩
                  refine dss_nil ?_
                  refine dss_nil ?_
                  refine ⟨w ++ [h], (h : Int), .dat (.int (j : Int)), .dat (.lst (ls.map D.int)), .dat (.lst (bs.map D.int)), okW_append.mpr ⟨ok, ⟨p, hp⟩, trivial⟩, by rw [List.length_append]; exact Nat.succ_le_succ hw, rfl, rfl, rfl, ?_⟩
                  rw [wD_append, stood_snoc, List.map_append, run_snoc]
                  rfl
                · refine dt_cmp ?_
                  refine dc_eq ?_
                  refine de_call C_law_draw ?_
                  refine da_cons ?_
                  refine de_v 0 rfl ?_  -- _law_hand_here
                  refine da_cons ?_
                  refine de_int ?_  -- 4
                  refine da_nil ?_
                  refine ⟨rfl, _, rfl, by decide, by decide, fun d d0 d1 => ?_⟩
                  refine de_int ?_  -- 0
                  refine ⟨_, rfl, ?_⟩
                  refine ifB (fun hk9 => ?_) (fun hk9 => ?_)
                  · refine dss_cons ?_
                    refine ds_set 10 ?_  -- _law_one
                    refine de_call C_law_some ?_
                    refine da_cons ?_
                    refine de_v 0 rfl ?_  -- _law_hand_here
                    refine da_cons ?_
                    refine de_v 11 rfl ?_  -- _law_left_here
                    refine da_nil ?_
                    refine ⟨rfl, _, rfl, map_ne hls, by rw [List.length_map]; omega, fun y hy => ?_⟩
                    obtain ⟨v, hv, rfl⟩ := List.mem_map.mp hy
                    obtain ⟨h, rfl, hh⟩ := hP v hv
                    obtain ⟨p, hp⟩ := mem_canS.mp hh
                    refine dss_nil ?_
                    refine dss_nil ?_
                    refine dss_cons ?_
                    refine ds_append 6 rfl ?_
                    refine de_v 10 rfl ?_  -- _law_one
                    refine ⟨by rw [wD_len]; omega, ?_⟩
                    refine dss_cons ?_
                    refine ds_append 7 rfl ?_
                    refine de_call C_law_moved ?_
                    refine da_cons ?_
                    refine de_v 1 rfl ?_  -- _law_kind
                    refine da_cons ?_
                    refine de_v 2 rfl ?_  -- _law_rows
                    refine da_cons ?_
                    refine de_v 3 rfl ?_  -- _law_rounds
                    refine da_cons ?_
                    refine de_ixOwn 7 rfl ?_
                    refine de_neg ?_
                    refine de_int ?_  -- 1
                    refine ⟨_, lastAt, ?_⟩
                    refine da_cons ?_
                    refine de_v 10 rfl ?_  -- _law_one
                    refine da_nil ?_
                    refine ⟨rfl, R, rows, _, h, p, rfl, op, wf, hp, ?_⟩
                    refine ⟨by rw [List.length_map, stood_len]; omega, ?_⟩
                    refine dss_nil ?_
                    refine dss_nil ?_
                    refine ⟨w ++ [h], (h : Int), .dat (.int (j : Int)), .dat (.lst (ls.map D.int)), .dat (.lst (bs.map D.int)), okW_append.mpr ⟨ok, ⟨p, hp⟩, trivial⟩, by rw [List.length_append]; exact Nat.succ_le_succ hw, rfl, rfl, rfl, ?_⟩
                    rw [wD_append, stood_snoc, List.map_append, run_snoc]
                    rfl
                  · obtain ⟨h, rfl, hh⟩ := hP o1 (by simpa using hk8)
                    obtain ⟨p, hp⟩ := mem_canS.mp hh
                    refine dss_nil ?_
                    refine dss_nil ?_
                    refine dss_cons ?_
                    refine ds_append 6 rfl ?_
                    refine de_v 10 rfl ?_  -- _law_one
                    refine ⟨by rw [wD_len]; omega, ?_⟩
                    refine dss_cons ?_
                    refine ds_append 7 rfl ?_
                    refine de_call C_law_moved ?_
                    refine da_cons ?_
                    refine de_v 1 rfl ?_  -- _law_kind
                    refine da_cons ?_
                    refine de_v 2 rfl ?_  -- _law_rows
                    refine da_cons ?_
                    refine de_v 3 rfl ?_  -- _law_rounds
                    refine da_cons ?_
                    refine de_ixOwn 7 rfl ?_
                    refine de_neg ?_
                    refine de_int ?_  -- 1
                    refine ⟨_, lastAt, ?_⟩
                    refine da_cons ?_
                    refine de_v 10 rfl ?_  -- _law_one
                    refine da_nil ?_
                    refine ⟨rfl, R, rows, _, h, p, rfl, op, wf, hp, ?_⟩
                    refine ⟨by rw [List.length_map, stood_len]; omega, ?_⟩
                    refine dss_nil ?_
                    refine dss_nil ?_
                    refine ⟨w ++ [h], (h : Int), .dat (.int (j : Int)), .dat (.lst (ls.map D.int)), .dat (.lst (bs.map D.int)), okW_append.mpr ⟨ok, ⟨p, hp⟩, trivial⟩, by rw [List.length_append]; exact Nat.succ_le_succ hw, rfl, rfl, rfl, ?_⟩
                    rw [wD_append, stood_snoc, List.map_append, run_snoc]
                    rfl
        · refine dss_nil ?_
          refine dss_nil ?_
          refine ⟨w, o1, .dat (.int (j : Int)), .dat (.lst (ls.map D.int)), e, ok, Nat.le_succ_of_le hw, rfl, rfl, he, rfl⟩
    · obtain ⟨w, o1, a, b, e, ok, hw, ha, hb, he, rfl⟩ := hI
      rw [rangeD_len] at hw
      refine dss_cons ?_
      refine ds_retOwn2 6 7 rfl rfl ?_
      exact q w ok hw
end
end Op
namespace Op
open PySem PySem.Spec PyProof.Rows L2 Dl
section
variable {gl : Glob} {f : Addr} {fd : FuncData}
abbrev s_law_led_right : Stmt := topS 136
theorem sc_law_led_right : FnScope ["_law_hand_here", "_law_kind", "_law_rows", "_law_rounds", "_law_play", "_law_most", "_law_at", "_law_weaving", "_law_stood", "_law_one", "_law_whole_here", "_law_last", "_law_here", "_law_ahead"] ["_law_hand_here", "_law_kind", "_law_rows", "_law_rounds", "_law_play", "_law_most"] (defScope s_law_led_right) := ⟨rfl, rfl, rfl, by decide +kernel, rfl, by decide +kernel, by decide +kernel⟩
theorem c_law_led_right (F : FnP gl.K "_law_led_right" "_law_led_right" s_law_led_right f fd) (hm : gl.mg "_law_led_right" = some (.ref f)) (T : Txt gl) (C_law_woven : Cal gl 3 "_law_woven" 5 (sp_law_woven)) (C_law_is : Cal gl 8 "_law_is" 2 (sp_law_is 7)) (C_first_standing : Cal gl 4 "first_standing" 1 (sp_begun)) (C_law_draw : Cal gl 1 "_law_draw" 2 (sp_law_draw)) (C_law_some : Cal gl 2 "_law_some" 2 (sp_law_some)) (C_run : Cal gl 6 "run" 2 (sp_run)) (C_can_step : Cal gl 2 "can_step" 2 (sp_can_step)) (C_law_left : Cal gl 1 "_law_left" 1 (sp_movers)) (C_fault : Cal gl 6 "fault" 3 (sp_fault)) (C_law_came : Cal gl 1 "_law_came" 1 (sp_law_came)) (C_law_fault : Cal gl 3 "_law_fault" 5 (sp_law_fault)) (C_next_step : Cal gl 7 "next_step" 3 (sp_next_step)) (C_law_next : Cal gl 1 "_law_next" 2 (sp_law_next)) (C_step : Cal gl 7 "step" 3 (sp_step)) (C_law_moved : Cal gl 2 "_law_moved" 5 (sp_law_moved)) (C_law_whole : Cal gl 3 "_law_whole" 5 (sp_law_whole)) (C_run_out : Cal gl 7 "run_out" 2 (sp_run_out)) : Cal gl 9 "_law_led_right" 6 (sp_law_led_right) := by
  refine cal_d F hm sc_law_led_right rfl (fun _ _ _ _ _ _ us hl => match us, hl with | [_, _, _, _, _, _], _ => rfl) fun W A0 ds post hl hs => ?_
  obtain ⟨R, rows, m, rfl, op, hm, q⟩ := hs
  have h6 := op.r6
  have hn5 := op.n5
  have hl5 : ∀ v, (runS R (initS rows) v).st.length ≤ 1000 := fun v => by rw [(wf_of op v).ls]; omega
  have hpl : ∀ v k, plainD (k + 4) (dSg R (runS R (initS rows) v)) := fun v k => plain_sg k (wf_of op v) h6 hn5
  have hcan : ∀ v, (canS (runS R (initS rows) v)).length ≤ 1000 := fun v => Nat.le_trans (canS_len _) (hl5 v)
  refine dss_cons ?_
  refine ds_tup2 7 8 ?_
  refine de_call C_law_woven ?_
  refine da_cons ?_
  refine de_v 0 rfl ?_  -- _law_hand_here
  refine da_cons ?_
  refine de_v 1 rfl ?_  -- _law_kind
  refine da_cons ?_
  refine de_v 2 rfl ?_  -- _law_rows
  refine da_cons ?_
  refine de_v 3 rfl ?_  -- _law_rounds
  refine da_cons ?_
  refine de_v 5 rfl ?_  -- _law_most
  refine da_nil ?_
  refine ⟨rfl, R, rows, m, rfl, op, hm, fun w ok hw => ?_⟩
  have hwl := wD_len w
  refine ⟨_, _, rfl, ?_⟩
  refine dss_cons ?_
  refine ds_if ?_
  refine dt_not ?_
  refine dt_val ?_
  refine de_call C_law_is ?_
  refine da_cons ?_
  refine de_call C_first_standing ?_
  refine da_cons ?_
  refine de_v 4 rfl ?_  -- _law_play
  refine da_nil ?_
  refine ⟨rfl, R, rows, rfl, op, ?_⟩
  refine da_cons ?_
  refine de_ix ?_
  refine de_v 8 rfl ?_  -- _law_stood
  refine de_int ?_  -- 0
  refine ⟨_, atMap (n := 0) (stood_at (j := 0) (Nat.zero_le _)), ?_⟩
  refine da_nil ?_
  refine ⟨rfl, _, rfl, hpl [] 3, ?_⟩
  refine ifF (rfl) ?_
  refine dss_nil ?_
  refine dss_cons ?_
  refine ds_for 6 ?_
  refine di_lst ?_
  refine de_lst ?_
  refine da_cons ?_
  refine de_len T.len ?_
  refine de_v 7 rfl ?_  -- _law_weaving
  refine da_cons ?_
  refine de_call C_law_draw ?_
  refine da_cons ?_
  refine de_v 0 rfl ?_  -- _law_hand_here
  refine da_cons ?_
  refine de_add ?_
  refine de_len T.len ?_
  refine de_v 7 rfl ?_  -- _law_weaving
  refine de_int ?_  -- 1
  refine da_nil ?_
  refine ⟨rfl, _, rfl, by omega, by omega, fun d1 d10 d11 => ?_⟩
  obtain ⟨n1, rfl⟩ := Int.eq_ofNat_of_zero_le d10
  refine da_cons ?_
  refine de_call C_law_draw ?_
  refine da_cons ?_
  refine de_v 0 rfl ?_  -- _law_hand_here
  refine da_cons ?_
  refine de_add ?_
  refine de_len T.len ?_
  refine de_v 7 rfl ?_  -- _law_weaving
  refine de_int ?_  -- 1
  refine da_nil ?_
  refine ⟨rfl, _, rfl, by omega, by omega, fun d2 d20 d21 => ?_⟩
  obtain ⟨n2, rfl⟩ := Int.eq_ofNat_of_zero_le d20
  refine da_nil ?_
  refine ⟨Nat.le_of_ble_eq_true rfl, ?_⟩
  refine ⟨fun j ρ' => ∃ a b c e : Sl, a.adr = none ∧ b.adr = none ∧ c.adr = none ∧ e.adr = none ∧ ρ' = [.dat .hnd, .dat (.str "near"), .dat (dRows rows), .dat (.int (R : Int)), .dat (dPlay R rows), .dat (.int (m : Int)), a, .dat (.lst (wD w)), .dat (.lst ((stood R (initS rows) w).map (dSg R))), b, .non, .non, c, e], ⟨.non, .non, .non, .non, rfl, rfl, rfl, rfl, rfl⟩, fun j ρ' hI => by obtain ⟨a, b, c, e, ha, hb, hc, he, rfl⟩ := hI; show [none, none, none, none, none, none, a.adr, none, none, b.adr, none, none, c.adr, e.adr] = _; rw [ha, hb, hc, he]; rfl, fun j ρ d hI hd => ?_, fun ρ hI => ?_⟩
  · obtain ⟨a, b, c, e, ha, hb, hc, he, rfl⟩ := hI
    obtain ⟨n, rfl, hnk⟩ := three_at (k := (wD w).length) hd (by omega) (by omega)
    have hnw : n ≤ w.length := by omega
    have okn := okW_prefix ok n
    have hlt := ok_lt op okn
    have hll : (w.take n).length ≤ 1000 := by rw [List.length_take]; omega
    refine dss_cons ?_
    refine ds_par2 12 13 ?_
    refine de_ix ?_
    refine de_v 8 rfl ?_  -- _law_stood
    refine de_v 6 rfl ?_  -- _law_at
    refine ⟨_, atMap (stood_at hnw), ?_⟩
    refine de_call C_law_some ?_
    refine da_cons ?_
    refine de_v 0 rfl ?_  -- _law_hand_here
    refine da_cons ?_
    refine de_lst ?_
    refine da_cons ?_
    refine de_toL ?_
    refine de_v 7 rfl ?_  -- _law_weaving
    refine de_v 6 rfl ?_  -- _law_at
    refine ⟨Int.natCast_nonneg n, ?_⟩
    refine da_cons ?_
    refine de_tupleOf T.tuple ?_
    refine de_toL ?_
    refine de_v 7 rfl ?_  -- _law_weaving
    refine de_v 6 rfl ?_  -- _law_at
    refine ⟨Int.natCast_nonneg n, ?_⟩
    refine da_nil ?_
    refine ⟨Nat.le_of_ble_eq_true rfl, ?_⟩
    refine da_nil ?_
    refine ⟨rfl, _, rfl, by simp, by simp, fun y hy => ?_⟩
    have hy2 := take_of hy
    have hy3 : ([dPlay R rows, y] = [dPlay R rows, .tup (wD (w.take n))] ∨ [dPlay R rows, y] = [dPlay R rows, .lst (wD (w.take n))]) := hy2.imp (fun z => by rw [z]) (fun z => by rw [z])
    have hy1 : ([y] = [.tup (wD (w.take n))] ∨ [y] = [.lst (wD (w.take n))]) := hy2.imp (fun z => by rw [z]) (fun z => by rw [z])
    refine dss_cons ?_
    refine ds_if ?_
    refine dt_not ?_
    refine dt_val ?_
    refine de_call C_law_is ?_
    refine da_cons ?_
    refine de_lst ?_
    refine da_cons ?_
    refine de_call C_run ?_
    refine da_cons ?_
    refine de_v 4 rfl ?_  -- _law_play
    refine da_cons ?_
    refine de_v 13 rfl ?_  -- _law_ahead
    refine da_nil ?_
    refine ⟨rfl, R, rows, w.take n, hy3, op, okn, hll, ?_⟩
    refine da_cons ?_
    refine de_call C_can_step ?_
    refine da_cons ?_
    refine de_v 4 rfl ?_  -- _law_play
    refine da_cons ?_
    refine de_v 12 rfl ?_  -- _law_here
    refine da_nil ?_
    refine ⟨rfl, _, R, _, rfl, hl5 _, ?_⟩
    refine da_nil ?_
    refine ⟨Nat.le_of_ble_eq_true rfl, ?_⟩
    refine da_cons ?_
    refine de_lst ?_
    refine da_cons ?_
    refine de_v 12 rfl ?_  -- _law_here
    refine da_cons ?_
    refine de_call C_law_left ?_
    refine da_cons ?_
    refine de_v 12 rfl ?_  -- _law_here
    refine da_nil ?_
    refine ⟨rfl, R, _, rfl, hl5 _, ?_⟩
    refine da_nil ?_
    refine ⟨Nat.le_of_ble_eq_true rfl, ?_⟩
    refine da_nil ?_
    refine ⟨rfl, _, rfl, plain_l2 (hpl _ 2) (plain_wD 5 (hcan _)), ?_⟩
    refine ifF (rfl) ?_
    refine dss_nil ?_
    refine dss_cons ?_
    refine ds_if ?_
    refine dt_cmp ?_
    refine dc_notN ?_
    refine de_call C_fault ?_
    refine da_cons ?_
    refine de_v 4 rfl ?_  -- _law_play
    refine da_cons ?_
    refine de_call C_law_came ?_
    refine da_cons ?_
    refine de_v 13 rfl ?_  -- _law_ahead
    refine da_nil ?_
    refine ⟨rfl, w.take n, hy1, hll, fun h hh => by have := hlt h hh; omega, fun c1 u1 m1 => ?_⟩
    refine da_cons ?_
    refine de_ix ?_
    refine de_v 12 rfl ?_  -- _law_here
    refine de_int ?_  -- 2
    refine ⟨_, rfl, ?_⟩
    refine da_nil ?_
    refine ⟨rfl, R, rows, c1, _, rfl, fine_run op okn u1 m1, ?_⟩
    refine ifF (rfl) ?_
    refine dss_nil ?_
    refine dss_cons ?_
    refine ds_if ?_
    refine dt_cmp ?_
    refine dc_notN ?_
    refine de_call C_law_fault ?_
    refine da_cons ?_
    refine de_v 1 rfl ?_  -- _law_kind
    refine da_cons ?_
    refine de_v 2 rfl ?_  -- _law_rows
    refine da_cons ?_
    refine de_v 3 rfl ?_  -- _law_rounds
    refine da_cons ?_
    refine de_call C_law_came ?_
    refine da_cons ?_
    refine de_v 13 rfl ?_  -- _law_ahead
    refine da_nil ?_
    refine ⟨rfl, w.take n, hy1, hll, fun h hh => by have := hlt h hh; omega, fun c2 u2 m2 => ?_⟩
    refine da_cons ?_
    refine de_ix ?_
    refine de_v 12 rfl ?_  -- _law_here
    refine de_int ?_  -- 2
    refine ⟨_, rfl, ?_⟩
    refine da_nil ?_
    refine ⟨rfl, R, rows, c2, _, rfl, fine_run op okn u2 m2, ?_⟩
    refine ifF (rfl) ?_
    refine dss_nil ?_
    refine dss_cons ?_
    refine ds_for 9 ?_
    refine di_tup ?_
    refine de_call C_law_left ?_
    refine da_cons ?_
    refine de_v 12 rfl ?_  -- _law_here
    refine da_nil ?_
    refine ⟨rfl, R, _, rfl, hl5 _, ?_⟩
    refine ⟨fun j ρ' => ∃ b2 : Sl, b2.adr = none ∧ ρ' = [.dat .hnd, .dat (.str "near"), .dat (dRows rows), .dat (.int (R : Int)), .dat (dPlay R rows), .dat (.int (m : Int)), .dat (.int (n : Int)), .dat (.lst (wD w)), .dat (.lst ((stood R (initS rows) w).map (dSg R))), b2, .non, .non, .dat (dSg R (runS R (initS rows) (w.take n))), .dat y], ⟨b, hb, rfl⟩, fun j ρ' hI => by obtain ⟨b2, hb2, rfl⟩ := hI; show [none, none, none, none, none, none, none, none, none, b2.adr, none, none, none, none] = [none, none, none, none, none, none, none, none, none, b.adr, none, none, none, none]; rw [hb2, hb], fun j ρ d hI hd => ?_, fun ρ hI => ?_⟩
    · obtain ⟨b2, hb2, rfl⟩ := hI
      obtain ⟨h, hh, rfl⟩ := wD_at hd
      obtain ⟨⟨r, t, bb⟩, hp⟩ := mem_canS.mp (List.mem_of_getElem? hh)
      refine dss_cons ?_
      refine ds_if ?_
      refine dt_not ?_
      refine dt_val ?_
      refine de_call C_law_is ?_
      refine da_cons ?_
      refine de_lst ?_
      refine da_cons ?_
      refine de_call C_next_step ?_
      refine da_cons ?_
      refine de_v 4 rfl ?_  -- _law_play
      refine da_cons ?_
      refine de_v 12 rfl ?_  -- _law_here
      refine da_cons ?_
      refine de_v 9 rfl ?_  -- _law_one
      refine da_nil ?_
      refine ⟨rfl, R, rows, _, h, r, t, bb, rfl, op, wf_of op _, hp, ?_⟩
      refine da_nil ?_
      refine ⟨Nat.le_of_ble_eq_true rfl, ?_⟩
      refine da_cons ?_
      refine de_lst ?_
      refine da_cons ?_
      refine de_call C_law_next ?_
      refine da_cons ?_
      refine de_v 1 rfl ?_  -- _law_kind
      refine da_cons ?_
      refine de_ix ?_
      refine de_ix ?_
      refine de_v 12 rfl ?_  -- _law_here
      refine de_int ?_  -- 1
      refine ⟨_, rfl, ?_⟩
      refine de_v 9 rfl ?_  -- _law_one
      refine ⟨_, atMap hp, ?_⟩
      refine da_nil ?_
      refine ⟨rfl, r, t, bb, rfl, ?_⟩
      refine da_nil ?_
      refine ⟨Nat.le_of_ble_eq_true rfl, ?_⟩
      refine da_nil ?_
      refine ⟨rfl, _, rfl, plain_l1 (plain_word 5 bb), ?_⟩
      refine ifF (rfl) ?_
      refine dss_nil ?_
      refine dss_cons ?_
      refine ds_if ?_
      refine dt_not ?_
      refine dt_val ?_
      refine de_call C_law_is ?_
      refine da_cons ?_
      refine de_call C_step ?_
      refine da_cons ?_
      refine de_v 4 rfl ?_  -- _law_play
      refine da_cons ?_
      refine de_v 12 rfl ?_  -- _law_here
      refine da_cons ?_
      refine de_v 9 rfl ?_  -- _law_one
      refine da_nil ?_
      refine ⟨rfl, R, rows, _, h, _, rfl, op, wf_of op _, hp, ?_⟩
      refine da_cons ?_
      refine de_call C_law_moved ?_
      refine da_cons ?_
      refine de_v 1 rfl ?_  -- _law_kind
      refine da_cons ?_
      refine de_v 2 rfl ?_  -- _law_rows
      refine da_cons ?_
      refine de_v 3 rfl ?_  -- _law_rounds
      refine da_cons ?_
      refine de_v 12 rfl ?_  -- _law_here
      refine da_cons ?_
      refine de_v 9 rfl ?_  -- _law_one
      refine da_nil ?_
      refine ⟨rfl, R, rows, _, h, _, rfl, op, wf_of op _, hp, ?_⟩
      refine da_nil ?_
      refine ⟨rfl, _, rfl, plain_sg 3 (wf_step (wf_of op _) h) h6 hn5, ?_⟩
      refine ifF (rfl) ?_
      refine dss_nil ?_
      refine dss_nil ?_
      exact ⟨.dat (.int (h : Int)), rfl, rfl⟩
    · obtain ⟨b2, hb2, rfl⟩ := hI
      refine dss_nil ?_
      exact ⟨.dat (.int (n : Int)), b2, .dat (dSg R (runS R (initS rows) (w.take n))), .dat y, rfl, hb2, rfl, rfl, rfl⟩
  · obtain ⟨a, b, c, e, ha, hb, hc, he, rfl⟩ := hI
    have okall : okW R (initS rows) (w ++ outF R 60 (runS R (initS rows) w)) := okW_append.mpr ⟨ok, outF_ok (n := rows.length) 60⟩
    have hmu := mu_60 op okall
    have hmu2 := mu_60 op ok
    have hwall : (w ++ outF R 60 (runS R (initS rows) w)).length ≤ 1000 := by omega
    have hw1 : w.length ≤ 1000 := by omega
    refine dss_cons ?_
    refine ds_tup2 10 11 ?_
    refine de_call C_law_whole ?_
    refine da_cons ?_
    refine de_v 1 rfl ?_  -- _law_kind
    refine da_cons ?_
    refine de_v 2 rfl ?_  -- _law_rows
    refine da_cons ?_
    refine de_v 3 rfl ?_  -- _law_rounds
    refine da_cons ?_
    refine de_v 7 rfl ?_  -- _law_weaving
    refine da_cons ?_
    refine de_ix ?_
    refine de_v 8 rfl ?_  -- _law_stood
    refine de_neg ?_
    refine de_int ?_  -- 1
    refine ⟨_, lastAt, ?_⟩
    refine da_nil ?_
    refine ⟨rfl, R, rows, w, rfl, op, ok, hw1, ?_⟩
    refine ⟨_, _, rfl, ?_⟩
    refine dss_cons ?_
    refine ds_if ?_
    refine dt_or2 ?_
    refine dt_not ?_
    refine dt_val ?_
    refine de_call C_law_is ?_
    refine da_cons ?_
    refine de_call C_run_out ?_
    refine da_cons ?_
    refine de_v 4 rfl ?_  -- _law_play
    refine da_cons ?_
    refine de_v 7 rfl ?_  -- _law_weaving
    refine da_nil ?_
    refine ⟨rfl, R, rows, w, .inr rfl, op, ok, hw1, ?_⟩
    refine da_cons ?_
    refine de_v 10 rfl ?_  -- _law_whole_here
    refine da_nil ?_
    refine ⟨rfl, _, rfl, plain_wD 6 hwall, ?_⟩
    refine ifF (rfl) ?_
    refine dt_not ?_
    refine dt_val ?_
    refine de_call C_law_is ?_
    refine da_cons ?_
    refine de_call C_run ?_
    refine da_cons ?_
    refine de_v 4 rfl ?_  -- _law_play
    refine da_cons ?_
    refine de_v 10 rfl ?_  -- _law_whole_here
    refine da_nil ?_
    refine ⟨rfl, R, rows, _, .inl rfl, op, okall, hwall, ?_⟩
    refine da_cons ?_
    refine de_v 11 rfl ?_  -- _law_last
    refine da_nil ?_
    refine ⟨rfl, _, rfl, hpl _ 3, ?_⟩
    refine ifF (rfl) ?_
    refine dss_nil ?_
    refine dss_cons ?_
    refine ds_ret ?_
    refine de_if ?_
    refine dt_cmp ?_
    refine dc_isN ?_
    refine de_call C_law_fault ?_
    refine da_cons ?_
    refine de_v 1 rfl ?_  -- _law_kind
    refine da_cons ?_
    refine de_v 2 rfl ?_  -- _law_rows
    refine da_cons ?_
    refine de_v 3 rfl ?_  -- _law_rounds
    refine da_cons ?_
    refine de_call C_law_came ?_
    refine da_cons ?_
    refine de_v 10 rfl ?_  -- _law_whole_here
    refine da_nil ?_
    refine ⟨rfl, _, .inl rfl, hwall, fun h hh => by have := ok_lt op okall h hh; omega, fun c3 u3 m3 => ?_⟩
    refine da_cons ?_
    refine de_ix ?_
    refine de_v 11 rfl ?_  -- _law_last
    refine de_int ?_  -- 2
    refine ⟨_, rfl, ?_⟩
    refine da_nil ?_
    refine ⟨rfl, R, rows, c3, _, rfl, fine_run op okall u3 m3, ?_⟩
    refine ifT (rfl) ?_
    refine de_v 11 rfl ?_  -- _law_last
    exact q _ (wf_of op _) (over_of (wf_of op _) (by rw [runS_append]; exact outF_end 60 (wf_of op w) (by omega)))
end
end Op
namespace Op
open PySem PySem.Spec PyProof.Rows L2 Dl
section
variable {gl : Glob} {f : Addr} {fd : FuncData}
theorem mod_bd {m : Int} (h : 0 < m) (h2 : m ≤ 2 ^ 64) (x : Int) : -(2 ^ 64) < x % m ∧ x % m < 2 ^ 64 := ⟨Int.lt_of_lt_of_le (by decide) (Int.emod_nonneg x (by omega)), Int.lt_of_lt_of_le (Int.emod_lt_of_pos x h) h2⟩
abbrev s_law_draw : Stmt := topS 113
theorem sc_law_draw : FnScope ["_law_hand_here", "_law_many", "_law_number", "_law_cell", "_law_digit"] ["_law_hand_here", "_law_many"] (defScope s_law_draw) := ⟨rfl, rfl, rfl, by decide +kernel, rfl, by decide +kernel, by decide +kernel⟩
theorem c_law_draw (F : FnP gl.K "_law_draw" "_law_draw" s_law_draw f fd) (hm : gl.mg "_law_draw" = some (.ref f)) (T : Txt gl) : Cal gl 1 "_law_draw" 2 (sp_law_draw) := by
  refine cal_d F hm sc_law_draw rfl (fun _ _ _ _ _ _ us hl => match us, hl with | [_, _], _ => rfl) fun W A0 ds post hl hs => ?_
  obtain ⟨m, rfl, m0, m1, q⟩ := hs
  refine dss_cons ?_
  refine ds_hcut 0 3 rfl T.len (fun cell => ?_) ?_
  · refine dss_cons ?_
    refine ds_hnd 0 (k := 1) rfl (by decide) ?_
    refine de_add ?_
    refine de_hnd 0 (k := 1) rfl (by decide) (fun i hi => ?_)
    refine de_int ?_  -- 1
    refine ⟨fun _ => by have := hi rfl; omega, ?_⟩
    refine dss_cons ?_
    refine ds_hnd 0 (k := 3) rfl (by decide) ?_
    refine de_mod ?_
    refine de_intOf T.int ?_
    refine de_add ?_
    refine de_add ?_
    refine de_mul ?_
    refine de_hnd 0 (k := 3) rfl (by decide) (fun i hi => ?_)
    refine de_int ?_  -- 69621
    refine ⟨.inr ⟨by decide, by decide⟩, ?_⟩
    refine de_v 3 rfl ?_  -- _law_cell
    refine de_int ?_  -- 11
    refine de_int ?_  -- 2147483629
    refine ⟨by decide, ?_⟩
    refine ⟨(fun z => by cases z), ?_⟩
    refine dss_cons ?_
    refine ds_if ?_
    refine dt_cmp ?_
    refine dc_ge ?_
    refine de_v 3 rfl ?_  -- _law_cell
    refine de_pow ?_
    refine de_int ?_  -- 10
    refine de_int ?_  -- 18
    refine ⟨⟨by decide, by decide, by decide⟩, ?_⟩
    refine ifB (fun hk => ?_) (fun hk => ?_)
    · refine dss_cons ?_
      refine ds_hnd 0 (k := 2) rfl (by decide) ?_
      refine de_v 3 rfl ?_  -- _law_cell
      refine ⟨(fun z => by cases z), ?_⟩
      refine dss_nil ?_
      refine dss_nil ?_
      refine dss_cons ?_
      refine ds_if ?_
      refine dt_cmp ?_
      refine dc_gt ?_
      refine de_hnd 0 (k := 2) rfl (by decide) (fun i hi => ?_)
      refine de_int ?_  -- 0
      refine ifB (fun hk2 => ?_) (fun hk2 => ?_)
      · refine dss_cons ?_
        refine ds_set 4 ?_  -- _law_digit
        refine de_mod ?_
        refine de_intOf T.int ?_
        refine de_hnd 0 (k := 2) rfl (by decide) (fun i hi => ?_)
        refine de_v 1 rfl ?_  -- _law_many
        refine ⟨m0, ?_⟩
        refine dss_cons ?_
        refine ds_hnd 0 (k := 2) rfl (by decide) ?_
        refine de_fdiv ?_
        refine de_hnd 0 (k := 2) rfl (by decide) (fun i hi => ?_)
        refine de_v 1 rfl ?_  -- _law_many
        refine ⟨⟨m0, by omega⟩, ?_⟩
        refine ⟨(fun z => by cases z), ?_⟩
        refine dss_cons ?_
        refine ds_ret ?_
        refine de_v 4 rfl ?_  -- _law_digit
        exact q _ (Int.emod_nonneg _ (by omega)) (Int.emod_lt_of_pos _ m0)
      · refine dss_nil ?_
        refine dss_cons ?_
        refine ds_hnd 0 (k := 4) rfl (by decide) ?_
        refine de_add ?_
        refine de_hnd 0 (k := 4) rfl (by decide) (fun i hi => ?_)
        refine de_int ?_  -- 1
        refine ⟨(fun z => by cases z), ?_⟩
        refine dss_cons ?_
        refine ds_set 2 ?_  -- _law_number
        refine de_mod ?_
        refine de_intOf T.int ?_
        refine de_mul ?_
        refine de_intOf T.int ?_
        refine de_add ?_
        refine de_hnd 0 (k := 3) rfl (by decide) (fun i hi => ?_)
        refine de_mul ?_
        refine de_int ?_  -- 7919
        refine de_hnd 0 (k := 4) rfl (by decide) (fun i hi => ?_)
        refine ⟨.inl ⟨by decide, by decide⟩, ?_⟩
        refine de_int ?_  -- 48271
        refine ⟨.inr ⟨by decide, by decide⟩, ?_⟩
        refine de_int ?_  -- 2147483647
        refine ⟨by decide, ?_⟩
        refine dss_cons ?_
        refine ds_set 2 ?_  -- _law_number
        refine de_mod ?_
        refine de_intOf T.int ?_
        refine de_mul ?_
        refine de_v 2 rfl ?_  -- _law_number
        refine de_add ?_
        refine de_fdiv ?_
        refine de_v 2 rfl ?_  -- _law_number
        refine de_int ?_  -- 1009
        refine ⟨⟨by decide, by decide⟩, ?_⟩
        refine de_int ?_  -- 69621
        refine ⟨.inl (mod_bd (by decide) (by decide) _), ?_⟩
        refine de_int ?_  -- 2147483647
        refine ⟨by decide, ?_⟩
        refine dss_cons ?_
        refine ds_set 2 ?_  -- _law_number
        refine de_mod ?_
        refine de_intOf T.int ?_
        refine de_mul ?_
        refine de_v 2 rfl ?_  -- _law_number
        refine de_add ?_
        refine de_fdiv ?_
        refine de_v 2 rfl ?_  -- _law_number
        refine de_int ?_  -- 2003
        refine ⟨⟨by decide, by decide⟩, ?_⟩
        refine de_int ?_  -- 40692
        refine ⟨.inl (mod_bd (by decide) (by decide) _), ?_⟩
        refine de_int ?_  -- 2147483399
        refine ⟨by decide, ?_⟩
        refine dss_cons ?_
        refine ds_ret ?_
        refine de_mod ?_
        refine de_intOf T.int ?_
        refine de_fdiv ?_
        refine de_v 2 rfl ?_  -- _law_number
        refine de_int ?_  -- 16
        refine ⟨⟨by decide, by decide⟩, ?_⟩
        refine de_v 1 rfl ?_  -- _law_many
        refine ⟨m0, ?_⟩
        exact q _ (Int.emod_nonneg _ (by omega)) (Int.emod_lt_of_pos _ m0)
    · refine dss_nil ?_
      refine dss_nil ?_
      refine dss_cons ?_
      refine ds_if ?_
      refine dt_cmp ?_
      refine dc_gt ?_
      refine de_hnd 0 (k := 2) rfl (by decide) (fun i hi => ?_)
      refine de_int ?_  -- 0
      refine ifB (fun hk2 => ?_) (fun hk2 => ?_)
      · refine dss_cons ?_
        refine ds_set 4 ?_  -- _law_digit
        refine de_mod ?_
        refine de_intOf T.int ?_
        refine de_hnd 0 (k := 2) rfl (by decide) (fun i hi => ?_)
        refine de_v 1 rfl ?_  -- _law_many
        refine ⟨m0, ?_⟩
        refine dss_cons ?_
        refine ds_hnd 0 (k := 2) rfl (by decide) ?_
        refine de_fdiv ?_
        refine de_hnd 0 (k := 2) rfl (by decide) (fun i hi => ?_)
        refine de_v 1 rfl ?_  -- _law_many
        refine ⟨⟨m0, by omega⟩, ?_⟩
        refine ⟨(fun z => by cases z), ?_⟩
        refine dss_cons ?_
        refine ds_ret ?_
        refine de_v 4 rfl ?_  -- _law_digit
        exact q _ (Int.emod_nonneg _ (by omega)) (Int.emod_lt_of_pos _ m0)
      · refine dss_nil ?_
        refine dss_cons ?_
        refine ds_hnd 0 (k := 4) rfl (by decide) ?_
        refine de_add ?_
        refine de_hnd 0 (k := 4) rfl (by decide) (fun i hi => ?_)
        refine de_int ?_  -- 1
        refine ⟨(fun z => by cases z), ?_⟩
        refine dss_cons ?_
        refine ds_set 2 ?_  -- _law_number
        refine de_mod ?_
        refine de_intOf T.int ?_
        refine de_mul ?_
        refine de_intOf T.int ?_
        refine de_add ?_
        refine de_hnd 0 (k := 3) rfl (by decide) (fun i hi => ?_)
        refine de_mul ?_
        refine de_int ?_  -- 7919
        refine de_hnd 0 (k := 4) rfl (by decide) (fun i hi => ?_)
        refine ⟨.inl ⟨by decide, by decide⟩, ?_⟩
        refine de_int ?_  -- 48271
        refine ⟨.inr ⟨by decide, by decide⟩, ?_⟩
        refine de_int ?_  -- 2147483647
        refine ⟨by decide, ?_⟩
        refine dss_cons ?_
        refine ds_set 2 ?_  -- _law_number
        refine de_mod ?_
        refine de_intOf T.int ?_
        refine de_mul ?_
        refine de_v 2 rfl ?_  -- _law_number
        refine de_add ?_
        refine de_fdiv ?_
        refine de_v 2 rfl ?_  -- _law_number
        refine de_int ?_  -- 1009
        refine ⟨⟨by decide, by decide⟩, ?_⟩
        refine de_int ?_  -- 69621
        refine ⟨.inl (mod_bd (by decide) (by decide) _), ?_⟩
        refine de_int ?_  -- 2147483647
        refine ⟨by decide, ?_⟩
        refine dss_cons ?_
        refine ds_set 2 ?_  -- _law_number
        refine de_mod ?_
        refine de_intOf T.int ?_
        refine de_mul ?_
        refine de_v 2 rfl ?_  -- _law_number
        refine de_add ?_
        refine de_fdiv ?_
        refine de_v 2 rfl ?_  -- _law_number
        refine de_int ?_  -- 2003
        refine ⟨⟨by decide, by decide⟩, ?_⟩
        refine de_int ?_  -- 40692
        refine ⟨.inl (mod_bd (by decide) (by decide) _), ?_⟩
        refine de_int ?_  -- 2147483399
        refine ⟨by decide, ?_⟩
        refine dss_cons ?_
        refine ds_ret ?_
        refine de_mod ?_
        refine de_intOf T.int ?_
        refine de_fdiv ?_
        refine de_v 2 rfl ?_  -- _law_number
        refine de_int ?_  -- 16
        refine ⟨⟨by decide, by decide⟩, ?_⟩
        refine de_v 1 rfl ?_  -- _law_many
        refine ⟨m0, ?_⟩
        exact q _ (Int.emod_nonneg _ (by omega)) (Int.emod_lt_of_pos _ m0)
  · refine dss_cons ?_
    refine ds_if ?_
    refine dt_cmp ?_
    refine dc_gt ?_
    refine de_hnd 0 (k := 2) rfl (by decide) (fun i hi => ?_)
    refine de_int ?_  -- 0
    refine ifB (fun hk2 => ?_) (fun hk2 => ?_)
    · refine dss_cons ?_
      refine ds_set 4 ?_  -- _law_digit
      refine de_mod ?_
      refine de_intOf T.int ?_
      refine de_hnd 0 (k := 2) rfl (by decide) (fun i hi => ?_)
      refine de_v 1 rfl ?_  -- _law_many
      refine ⟨m0, ?_⟩
      refine dss_cons ?_
      refine ds_hnd 0 (k := 2) rfl (by decide) ?_
      refine de_fdiv ?_
      refine de_hnd 0 (k := 2) rfl (by decide) (fun i hi => ?_)
      refine de_v 1 rfl ?_  -- _law_many
      refine ⟨⟨m0, by omega⟩, ?_⟩
      refine ⟨(fun z => by cases z), ?_⟩
      refine dss_cons ?_
      refine ds_ret ?_
      refine de_v 4 rfl ?_  -- _law_digit
      exact q _ (Int.emod_nonneg _ (by omega)) (Int.emod_lt_of_pos _ m0)
    · refine dss_nil ?_
      refine dss_cons ?_
      refine ds_hnd 0 (k := 4) rfl (by decide) ?_
      refine de_add ?_
      refine de_hnd 0 (k := 4) rfl (by decide) (fun i hi => ?_)
      refine de_int ?_  -- 1
      refine ⟨(fun z => by cases z), ?_⟩
      refine dss_cons ?_
      refine ds_set 2 ?_  -- _law_number
      refine de_mod ?_
      refine de_intOf T.int ?_
      refine de_mul ?_
      refine de_intOf T.int ?_
      refine de_add ?_
      refine de_hnd 0 (k := 3) rfl (by decide) (fun i hi => ?_)
      refine de_mul ?_
      refine de_int ?_  -- 7919
      refine de_hnd 0 (k := 4) rfl (by decide) (fun i hi => ?_)
      refine ⟨.inl ⟨by decide, by decide⟩, ?_⟩
      refine de_int ?_  -- 48271
      refine ⟨.inr ⟨by decide, by decide⟩, ?_⟩
      refine de_int ?_  -- 2147483647
      refine ⟨by decide, ?_⟩
      refine dss_cons ?_
      refine ds_set 2 ?_  -- _law_number
      refine de_mod ?_
      refine de_intOf T.int ?_
      refine de_mul ?_
      refine de_v 2 rfl ?_  -- _law_number
      refine de_add ?_
      refine de_fdiv ?_
      refine de_v 2 rfl ?_  -- _law_number
      refine de_int ?_  -- 1009
      refine ⟨⟨by decide, by decide⟩, ?_⟩
      refine de_int ?_  -- 69621
      refine ⟨.inl (mod_bd (by decide) (by decide) _), ?_⟩
      refine de_int ?_  -- 2147483647
      refine ⟨by decide, ?_⟩
      refine dss_cons ?_
      refine ds_set 2 ?_  -- _law_number
      refine de_mod ?_
      refine de_intOf T.int ?_
      refine de_mul ?_
      refine de_v 2 rfl ?_  -- _law_number
      refine de_add ?_
      refine de_fdiv ?_
      refine de_v 2 rfl ?_  -- _law_number
      refine de_int ?_  -- 2003
      refine ⟨⟨by decide, by decide⟩, ?_⟩
      refine de_int ?_  -- 40692
      refine ⟨.inl (mod_bd (by decide) (by decide) _), ?_⟩
      refine de_int ?_  -- 2147483399
      refine ⟨by decide, ?_⟩
      refine dss_cons ?_
      refine ds_ret ?_
      refine de_mod ?_
      refine de_intOf T.int ?_
      refine de_fdiv ?_
      refine de_v 2 rfl ?_  -- _law_number
      refine de_int ?_  -- 16
      refine ⟨⟨by decide, by decide⟩, ?_⟩
      refine de_v 1 rfl ?_  -- _law_many
      refine ⟨m0, ?_⟩
      exact q _ (Int.emod_nonneg _ (by omega)) (Int.emod_lt_of_pos _ m0)
end
end Op
namespace Op
open PySem PySem.Spec PyProof.Rows L2 Dl
section
variable {gl : Glob} {f : Addr} {fd : FuncData}
abbrev s_law : Stmt := topS 137
theorem sc_law : FnScope ["_law_script", "_law_hand_here", "_law_turn", "_law_play", "_law_last", "_law_counts", "_law_over", "_law_inputs_here", "_law_rows", "_law_rounds", "_law_weaving", "_law_stood", "_law_one", "_law_other", "_law_items"] ["_law_script"] (defScope s_law) := ⟨rfl, rfl, rfl, by decide +kernel, rfl, by decide +kernel, by decide +kernel⟩
theorem d_law (T : Txt gl) {p fi : Addr} {fdi : FuncData} (M : Mk gl.K gl.C fi) (FI : FnOk gl.P gl.w gl.K gl.mg gl.base CX0 7 fi fdi ["self", "kind", "inputs"] (spInit gl)) (hP : gl.mg "Play" = some (.ref gl.C)) (hbI : Binds gl.K fdi ["self", "kind", "inputs"] []) (C_law_inputs : Cal gl 3 "_law_inputs" 2 (sp_law_inputs)) (C_law_led_right : Cal gl 9 "_law_led_right" 6 (sp_law_led_right)) (C_law_draw : Cal gl 1 "_law_draw" 2 (sp_law_draw)) (C_law_woven : Cal gl 3 "_law_woven" 5 (sp_law_woven)) (C_law_is : Cal gl 8 "_law_is" 2 (sp_law_is 7)) (C_can_step : Cal gl 2 "can_step" 2 (sp_can_step)) (C_run : Cal gl 6 "run" 2 (sp_run)) : DSs (cfg gl ["_law_script", "_law_hand_here", "_law_turn", "_law_play", "_law_last", "_law_counts", "_law_over", "_law_inputs_here", "_law_rows", "_law_rounds", "_law_weaving", "_law_stood", "_law_one", "_law_other", "_law_items"] (defScope s_law) 9 (some p) (fun _ => False)) ((defBody s_law).drop 1) [.non, .dat .hnd, .non, .non, .non, .non, .non, .non, .non, .non, .non, .non, .non, .non, .non] { nx := fun _ => False, rt := fun d => d = .bl true } := by
  refine dss_cons ?_
  refine ds_for 2 ?_
  refine di_range T.range ?_
  refine de_int ?_  -- 3
  refine ⟨_, rfl, by decide, ?_⟩
  refine ⟨fun j ρ' => ∃ a2 a3 a4 a5 a6 a7 a8 a9 a10 a11 : Sl, a2.adr = none ∧ a3.adr = none ∧ a4.adr = none ∧ a5.adr = none ∧ a6.adr = none ∧ a7.adr = none ∧ a8.adr = none ∧ a9.adr = none ∧ a10.adr = none ∧ a11.adr = none ∧ ρ' = [.non, .dat .hnd, a2, a3, a4, a5, a6, a7, a8, a9, a10, a11, .non, .non, .non], ⟨.non, .non, .non, .non, .non, .non, .non, .non, .non, .non, rfl, rfl, rfl, rfl, rfl, rfl, rfl, rfl, rfl, rfl, rfl⟩, fun j ρ' hI => by obtain ⟨a2, a3, a4, a5, a6, a7, a8, a9, a10, a11, h2, h3, h4, h5, h6, h7, h8, h9, h10, h11, rfl⟩ := hI; show [none, none, a2.adr, a3.adr, a4.adr, a5.adr, a6.adr, a7.adr, a8.adr, a9.adr, a10.adr, a11.adr, none, none, none] = _; rw [h2, h3, h4, h5, h6, h7, h8, h9, h10, h11]; rfl, fun j ρ d hI hd => ?_, fun ρ hI => ?_⟩
  · obtain ⟨a2, a3, a4, a5, a6, a7, a8, a9, a10, a11, h2, h3, h4, h5, h6, h7, h8, h9, h10, h11, rfl⟩ := hI
    refine dss_cons ?_
    refine ds_tup3 7 8 9 ?_
    refine de_call C_law_inputs ?_
    refine da_cons ?_
    refine de_v 1 rfl ?_  -- _law_hand_here
    refine da_cons ?_
    refine de_str ?_  -- 'near'
    refine da_nil ?_
    refine ⟨rfl, rfl, fun R rows op => ?_⟩
    refine ⟨_, _, _, rfl, ?_⟩
    refine dss_cons ?_
    refine ds_set 3 ?_  -- _law_play
    refine de_make M FI hP hbI ?_
    refine da_cons ?_
    refine de_str ?_  -- 'near'
    refine da_cons ?_
    refine de_v 7 rfl ?_  -- _law_inputs_here
    refine da_nil ?_
    refine ⟨R, rows, rfl, op, ?_⟩
    refine dss_cons ?_
    refine ds_set 4 ?_  -- _law_last
    refine de_call C_law_led_right ?_
    refine da_cons ?_
    refine de_v 1 rfl ?_  -- _law_hand_here
    refine da_cons ?_
    refine de_str ?_  -- 'near'
    refine da_cons ?_
    refine de_v 8 rfl ?_  -- _law_rows
    refine da_cons ?_
    refine de_v 9 rfl ?_  -- _law_rounds
    refine da_cons ?_
    refine de_v 3 rfl ?_  -- _law_play
    refine da_cons ?_
    refine de_call C_law_draw ?_
    refine da_cons ?_
    refine de_v 1 rfl ?_  -- _law_hand_here
    refine da_cons ?_
    refine de_int ?_  -- 81
    refine da_nil ?_
    refine ⟨rfl, _, rfl, by decide, by decide, fun d d0 d1 => ?_⟩
    obtain ⟨m, rfl⟩ := Int.eq_ofNat_of_zero_le d0
    refine da_nil ?_
    refine ⟨rfl, R, rows, m, rfl, op, by omega, fun S wf over => ?_⟩
    have hn5 := op.n5
    have htl := wf.lt
    refine dss_cons ?_
    refine ds_if ?_
    refine dt_or2 ?_
    refine dt_cmp ?_
    refine dc_isN ?_
    refine de_v 4 rfl ?_  -- _law_last
    refine ifF (rfl) ?_
    refine dt_not ?_
    refine dt_val ?_
    refine de_all T.all ?_
    refine de_lcM 14 ?_
    refine di_tup ?_
    refine de_ix ?_
    refine de_v 4 rfl ?_  -- _law_last
    refine de_int ?_  -- 2
    refine ⟨_, rfl, ?_⟩
    refine ⟨by rw [List.length_map]; omega, S.told.map fun _ => D.bl true, by rw [List.length_map, List.length_map], fun A j d hd => ?_, ?_⟩
    · obtain ⟨l, hl, rfl⟩ := mapAt hd
      obtain ⟨t, rfl⟩ := told_one wf over hl
      refine de_and ?_
      refine de_cmp ?_
      refine dc_eq ?_
      refine de_len T.len ?_
      refine de_v 14 rfl ?_  -- _law_items
      refine de_int ?_  -- 1
      refine ⟨_, rfl, ?_⟩
      refine ifT (rfl) ?_
      refine de_one ?_
      refine de_cmp ?_
      refine dc_eq ?_
      refine de_ix ?_
      refine de_ix ?_
      refine de_v 14 rfl ?_  -- _law_items
      refine de_int ?_  -- 0
      refine ⟨_, rfl, ?_⟩
      refine de_int ?_  -- 1
      refine ⟨_, rfl, ?_⟩
      refine de_v 9 rfl ?_  -- _law_rounds
      refine ⟨_, rfl, ?_⟩
      rw [decide_eq_true rfl]
      exact mapGet hl
    · refine ⟨S.told.map fun _ => true, by rw [List.map_map]; rfl, ?_⟩
      refine ifF (by simp) ?_
      refine dss_nil ?_
      refine dss_cons ?_
      refine ds_tup2 10 11 ?_
      refine de_call C_law_woven ?_
      refine da_cons ?_
      refine de_v 1 rfl ?_  -- _law_hand_here
      refine da_cons ?_
      refine de_str ?_  -- 'near'
      refine da_cons ?_
      refine de_v 8 rfl ?_  -- _law_rows
      refine da_cons ?_
      refine de_v 9 rfl ?_  -- _law_rounds
      refine da_cons ?_
      refine de_int ?_  -- 70
      refine da_nil ?_
      refine ⟨rfl, R, rows, 70, rfl, op, by decide, fun w ok hw => ?_⟩
      have hlen : (rows.map D.int).length = rows.length := List.length_map ..
      have hn1 := op.n0
      have h6 := op.r6
      have hl5 : (runS R (initS rows) w).st.length ≤ 1000 := by rw [(wf_of op w).ls]; omega
      refine ⟨_, _, rfl, ?_⟩
      refine dss_cons ?_
      refine ds_set 5 ?_  -- _law_counts
      refine de_lcM 12 ?_
      refine di_range T.range ?_
      refine de_len T.len ?_
      refine de_v 8 rfl ?_  -- _law_rows
      refine ⟨_, rfl, by omega, ?_⟩
      refine ⟨by rw [rangeD_len]; omega, ((List.range (rows.map D.int).length).map fun i => ((w.count i : Nat) : Int)).map D.int, by rw [rangeD_len]; simp, fun A j d hd => ?_, ?_⟩
      · obtain ⟨hj, rfl⟩ := rangeD_at hd
        refine de_len T.len ?_
        refine de_lcF 13 (gEq (j : Int)) ?_
        refine di_lst ?_
        refine de_v 10 rfl ?_  -- _law_weaving
        refine ⟨by rw [wD_len]; omega, fun A j d hd => ?_, ?_⟩
        · obtain ⟨h, hh, rfl⟩ := wD_at hd
          refine df_one ?_
          refine dt_cmp ?_
          refine dc_eq ?_
          refine de_v 13 rfl ?_  -- _law_other
          refine de_v 12 rfl ?_  -- _law_one
          refine ⟨_, rfl, ?_⟩
          refine ifB (fun hk => ?_) (fun hk => ?_)
          · refine de_v 13 rfl ?_  -- _law_other
            exact if_pos (of_decide_eq_true hk)
          · exact if_neg (of_decide_eq_false hk)
        · show _ = some (D.int ((((wD w).filterMap (gEq (j : Int))).length : Nat) : Int))
          rw [gEq_len]
          exact mapGet (mapGet (f := fun i => ((w.count i : Nat) : Int)) (List.getElem?_range hj))
      · refine dss_cons ?_
        refine ds_set 6 ?_  -- _law_over
        refine de_tupleOf T.tuple ?_
        refine de_lcF 12 (gOver R w) ?_
        refine di_range T.range ?_
        refine de_len T.len ?_
        refine de_v 8 rfl ?_  -- _law_rows
        refine ⟨_, rfl, by omega, ?_⟩
        refine ⟨by rw [rangeD_len]; omega, fun A j d hd => ?_, ?_⟩
        · obtain ⟨hj, rfl⟩ := rangeD_at hd
          refine df_one ?_
          refine dt_cmp ?_
          refine dc_lt ?_
          refine de_ix ?_
          refine de_v 5 rfl ?_  -- _law_counts
          refine de_v 12 rfl ?_  -- _law_one
          refine ⟨_, atMap (mapGet (f := fun i => ((w.count i : Nat) : Int)) (List.getElem?_range hj)), ?_⟩
          refine de_mul ?_
          refine de_int ?_  -- 2
          refine de_v 9 rfl ?_  -- _law_rounds
          refine ⟨.inl ⟨by decide, by decide⟩, ?_⟩
          refine ifB (fun hk => ?_) (fun hk => ?_)
          · refine de_v 12 rfl ?_  -- _law_one
            exact if_pos (by have := of_decide_eq_true hk; show w.count j < 2 * R; omega)
          · exact if_neg (by have := of_decide_eq_false hk; show ¬ w.count j < 2 * R; omega)
        · refine dss_cons ?_
          refine ds_if ?_
          refine dt_or2 ?_
          refine dt_cmp ?_
          refine dc_gt ?_
          refine de_max T.max ?_
          refine de_v 5 rfl ?_  -- _law_counts
          refine ⟨(List.range (rows.map D.int).length).map fun i => ((w.count i : Nat) : Int), rfl, by simp; omega, fun mx hmx hle => ?_⟩
          refine de_mul ?_
          refine de_int ?_  -- 2
          refine de_v 9 rfl ?_  -- _law_rounds
          refine ⟨.inl ⟨by decide, by decide⟩, ?_⟩
          refine ifF (by obtain ⟨i, _, rfl⟩ := List.mem_map.mp hmx; have := (cnt_le op ok i).1; exact decide_eq_false (by omega)) ?_
          refine dt_not ?_
          refine dt_val ?_
          refine de_call C_law_is ?_
          refine da_cons ?_
          refine de_call C_can_step ?_
          refine da_cons ?_
          refine de_v 3 rfl ?_  -- _law_play
          refine da_cons ?_
          refine de_call C_run ?_
          refine da_cons ?_
          refine de_v 3 rfl ?_  -- _law_play
          refine da_cons ?_
          refine de_v 10 rfl ?_  -- _law_weaving
          refine da_nil ?_
          refine ⟨rfl, R, rows, w, .inr rfl, op, ok, by omega, ?_⟩
          refine da_nil ?_
          refine ⟨rfl, _, R, _, rfl, hl5, ?_⟩
          refine da_cons ?_
          refine de_v 6 rfl ?_  -- _law_over
          refine da_nil ?_
          refine ⟨rfl, .tup (wD (canS (runS R (initS rows) w))), by rw [gOver_map op ok], plain_wD 6 (Nat.le_trans (canS_len _) hl5), ?_⟩
          refine ifF (rfl) ?_
          refine dss_nil ?_
          refine dss_nil ?_
          exact ⟨.dat _, .dat _, .dat _, .dat _, .dat _, .dat _, .dat _, .dat _, .dat _, .dat _, rfl, rfl, rfl, rfl, rfl, rfl, rfl, rfl, rfl, rfl, rfl⟩
  · obtain ⟨a2, a3, a4, a5, a6, a7, a8, a9, a10, a11, h2, h3, h4, h5, h6, h7, h8, h9, h10, h11, rfl⟩ := hI
    refine dss_cons ?_
    refine ds_ret ?_
    refine de_bl ?_  -- True
    exact rfl
end
end Op
namespace Op
open PySem PySem.Spec PyProof.Rows L2 Dl
section
variable {gl : Glob} {f : Addr} {fd : FuncData}
abbrev s_is_listed : Stmt := topS 14
theorem sc_is_listed : FnScope ["thing"] ["thing"] (defScope s_is_listed) := ⟨rfl, rfl, rfl, by decide +kernel, rfl, by decide +kernel, by decide +kernel⟩
theorem c_is_listed (F : FnP gl.K "is_listed" "is_listed" s_is_listed f fd) (hm : gl.mg "is_listed" = some (.ref f)) (T : Txt gl) : Cal gl 1 "is_listed" 1 (sp_is_listed) := by
  refine cal_d F hm sc_is_listed rfl (fun _ _ _ _ _ _ us hl => match us, hl with | [_], _ => rfl) fun W A0 ds post hl hs => ?_
  obtain ⟨l, hds, q⟩ := hs
  rcases hds with rfl | rfl
  · refine dss_cons ?_
    refine ds_ret ?_
    refine de_isi2 (T := "list") (U := "tuple") T.isinstance T.list T.tuple (by decide +kernel) (by decide +kernel) ?_
    refine de_v 0 rfl ?_  -- thing
    refine ⟨_, false, true, rfl, by decide +kernel, by decide +kernel, ?_⟩
    exact q
  · refine dss_cons ?_
    refine ds_ret ?_
    refine de_isi2 (T := "list") (U := "tuple") T.isinstance T.list T.tuple (by decide +kernel) (by decide +kernel) ?_
    refine de_v 0 rfl ?_  -- thing
    refine ⟨_, true, false, rfl, by decide +kernel, by decide +kernel, ?_⟩
    exact q
end
end Op
/-! Fin: all joined. -/
namespace Op
open PySem PySem.Spec PyProof.Rows L2 Dl
theorem Cal.calA {gl : Glob} {j n : Nat} {x : Str} {sp : DSp} {a : Addr} (C : Cal gl j x n sp) (h : gl.mg x = some (.ref a)) : CalA gl j a n sp := by
  obtain ⟨f, fd, ps, h1, h2, h3, h4, h5⟩ := C
  rw [h] at h3
  cases h3
  exact ⟨fd, ps, h1, h2, h4, h5⟩
theorem law_is_all {gl : Glob} {f : Addr} {fd : FuncData} (F : FnP gl.K "_law_is" "_law_is" s_law_is f fd) (hm : gl.mg "_law_is" = some (.ref f)) (T : Txt gl) : ∀ m, Cal gl (m + 1) "_law_is" 2 (sp_law_is m)
  | 0 => c_law_is F hm T fun m' e => by cases e
  | m + 1 => c_law_is F hm T fun m' e => by
    cases e
    exact law_is_all F hm T m
def spLaw (K : PySem.W.Frag) : Sp := fun vs H Q _ => ∃ (a : Addr) (ns : List Int), vs = [.ref a] ∧ SqL K H a (ns.map V.int) ∧ ∀ H', Q (.bl true) H'
abbrev lawN : List Str := ["_law_script", "_law_hand_here", "_law_turn", "_law_play", "_law_last", "_law_counts", "_law_over", "_law_inputs_here", "_law_rows", "_law_rounds", "_law_weaving", "_law_stood", "_law_one", "_law_other", "_law_items"]
theorem ok_law {gl : Glob} {f fH : Addr} {fd fdH : FuncData} (F : FnP gl.K "law" "law" s_law f fd) (FH : FnOk gl.P gl.w gl.K gl.mg gl.base CX0 1 fH fdH ["_law_script"] (spLawHand gl)) (hmH : gl.mg "_law_hand" = some (.ref fH)) (kpH : PySem.W.keepIn gl.K (.ref fH) = true) (bH : Binds gl.K fdH ["_law_script"] [])
    (D : ∀ p : Addr, DSs (cfg gl lawN (defScope s_law) 9 (some p) (fun _ => False)) ((defBody s_law).drop 1) [.non, .dat .hnd, .non, .non, .non, .non, .non, .non, .non, .non, .non, .non, .non, .non, .non] { nx := fun _ => False, rt := fun d => d = .bl true }) :
    FnOk gl.P gl.w gl.K gl.mg gl.base CX0 10 f fd ["_law_script"] (spLaw gl.K) := by
  refine F.ok sc_law (fun vs H Q E h => ?_) (fun cdv A outer s H vs Q E hr h => ?_)
  · obtain ⟨a, ns, rfl, _⟩ := h
    rfl
  · obtain ⟨a, ns, rfl, hS, q⟩ := h
    have hX := in_cx (gl := gl) (qual := "law") (f := f) (cdv := cdv) (A := A) (outer := outer) (s := s) (H := H) (E := E) (k := 9) sc_law.nd hr
    refine ⟨_, PSs.nox (pss_cons (ps_set (i := 1) sc_law.nd (hX.name (i := 1) (by kernel_rfl)) (hX.loc (by kernel_rfl)) (pe_call (hX.fn' FH) (hX.room.mono (Nat.le_of_ble_eq_true rfl)) (hX.gl' (by kernel_rfl)) (hX.mgn hmH) (by rw [hX.K]; exact kpH) (by rw [hX.K]; exact bH) .nil Passes0 (pa_cons (pe_var (hX.name (i := 0) (by kernel_rfl)) (hX.vis (by kernel_rfl)) (okN1 (by kernel_rfl)) (okN2 (by kernel_rfl))) pa_nil) (okN1 (by kernel_rfl)) rfl rfl) (hX.sw2 (by kernel_rfl)) (hX.fnl (by kernel_rfl))) (hX.pss _)), ?_⟩
    refine ⟨.ref a, rfl, a, ns, rfl, hS, fun H' p same hh => ?_⟩
    refine (D p).run [] _ H' ⟨fun _ z => (nomatch z), rfl, fun i d e => ?_, fun i b l e => ?_, fun i j b l l' e _ => ?_, fun b z => z.elim, fun p' e => ?_⟩ _ ⟨fun _ _ _ _ z => z.elim, fun v H2 d e z => ?_, fun _ _ _ _ z => z.elim, fun _ _ _ _ z => z.elim⟩
    · rcases i with _ | _ | i
      · cases e
      · cases e
        exact ⟨.ref p, rfl, .hnd rfl⟩
      · have z := List.mem_of_getElem? (show ([.non, .non, .non, .non, .non, .non, .non, .non, .non, .non, .non, .non, .non] : List Sl)[i]? = some (.dat d) from e)
        simp at z
    · have z := List.mem_of_getElem? e
      simp at z
    · have z := List.mem_of_getElem? e
      simp at z
    · cases e
      exact hh.avs fun b z => by
        rcases z with z | z
        · exact .inl z
        · obtain ⟨i, l, e⟩ := ows_at z
          have z := List.mem_of_getElem? e
          simp at z
    · subst z
      have r := e.rep
      cases r
      exact q H2

theorem txt {P : Program} {w : World} {K : PySem.W.Frag} {h base : Heap} {mg : Str → Option Value} (X : K.In h) (G : h.Ns mainGlobals mg) (c : SaysX K) : Txt ⟨P, w, K, mg, base, He.ga K "Play"⟩ := by
  have gi : ∀ {x : Str} {i : Int}, (He.Fa.int x i).ok K = true → GlIs ⟨P, w, K, mg, base, He.ga K "Play"⟩ x (.int i) := fun e => by
    obtain ⟨t, e⟩ := He.int_ok X G e
    exact ⟨_, V.int _, e, ⟨t, rfl⟩, fun _ _ _ => .int _⟩
  have gs : ∀ {x z : Str}, (He.Fa.str x z).ok K = true → GlIs ⟨P, w, K, mg, base, He.ga K "Play"⟩ x (.str z) := fun e => by
    obtain ⟨t, e⟩ := He.str_ok X G e
    exact ⟨_, V.str _, e, ⟨t, rfl⟩, fun _ _ _ => .str _⟩
  have mm : He.tupB K "MANNERS" [.str "sweep", .str "twice", .str "borrow"] = true := (He.ba c.both.2).1
  refine {
    len := He.free_ok X G (c.fact 58 (f := .free "len") rfl)
    min := He.free_ok X G (c.fact 59 (f := .free "min") rfl)
    max := He.free_ok X G (c.fact 60 (f := .free "max") rfl)
    sorted := He.free_ok X G (c.fact 61 (f := .free "sorted") rfl)
    all := He.free_ok X G (c.fact 62 (f := .free "all") rfl)
    any := He.free_ok X G (c.fact 63 (f := .free "any") rfl)
    tuple := He.free_ok X G (c.fact 64 (f := .free "tuple") rfl)
    list := He.free_ok X G (c.fact 65 (f := .free "list") rfl)
    range := He.free_ok X G (c.fact 66 (f := .free "range") rfl)
    enumerate := He.free_ok X G (c.fact 67 (f := .free "enumerate") rfl)
    zip := He.free_ok X G (c.fact 68 (f := .free "zip") rfl)
    isinstance := He.free_ok X G (c.fact 69 (f := .free "isinstance") rfl)
    set := He.free_ok X G (c.fact 70 (f := .free "set") rfl)
    abs := He.free_ok X G (c.fact 71 (f := .free "abs") rfl)
    int := He.free_ok X G (c.fact 72 (f := .free "int") rfl)
    bool := He.free_ok X G (c.fact 73 (f := .free "bool") rfl)
    str := He.free_ok X G (c.fact 74 (f := .free "str") rfl)
    dict := He.free_ok X G (c.fact 75 (f := .free "dict") rfl)
    MOST_HANDS := gi (c.fact 76 (f := .int "MOST_HANDS" 5) rfl)
    MOST_VALUE := gi (c.fact 77 (f := .int "MOST_VALUE" 1000) rfl)
    MOST_ROUNDS := gi (c.fact 78 (f := .int "MOST_ROUNDS" 6) rfl)
    LEVELS := gs (c.fact 79 (f := .str "LEVELS" "levels") rfl)
    NAMES := gs (c.fact 80 (f := .str "NAMES" "names") rfl)
    NEAR := gs (c.fact 81 (f := .str "NEAR" "near") rfl)
    CHAIN := gs (c.fact 82 (f := .str "CHAIN" "chain") rfl)
    PUT := gs (c.fact 83 (f := .str "PUT" "put") rfl)
    SEE := gs (c.fact 84 (f := .str "SEE" "see") rfl)
    MANNERS := ⟨_, V.ref _, He.glo_ok X G (c.fact 91 (f := .glo "MANNERS") rfl), rfl, fun W av H => .tup (He.tupB_ok mm H) (.cons (.str _) (.cons (.str _) (.cons (.str _) .nil)))⟩
    play := ⟨He.cls_ok (c.fact 85 (f := .cls "Play") rfl), He.noat_ok (c.fact 86 (f := .noat "Play" "kind") rfl), He.noat_ok (c.fact 87 (f := .noat "Play" "inputs") rfl), He.noat_ok (c.fact 88 (f := .noat "Play" "rows") rfl)⟩ }
theorem facts {P : Program} {w : World} {K : PySem.W.Frag} {h : Heap} {mg : Str → Option Value} {fa : Addr} (X : K.In h) (G : h.Ns mainGlobals mg) (hfa : mg ("law" : Str) = some (.ref fa)) (c : SaysX K) :
    ∃ fd : FuncData, (∀ (s : Shared) (v : Value), BindsTo s fd ⟨[v], []⟩ [("_law_script", v)]) ∧ ∀ base : Heap, K.In base → base.Ns mainGlobals mg → FnOk P w K mg base CX0 10 fa fd ["_law_script"] (spLaw K) := by
  obtain ⟨fd_is_integer, F_is_integer⟩ := c.def_ 0 (d := dOf "is_integer" 9) rfl
  obtain ⟨fd_is_within, F_is_within⟩ := c.def_ 1 (d := dOf "is_within" 10) rfl
  obtain ⟨fd_is_below, F_is_below⟩ := c.def_ 2 (d := dOf "is_below" 11) rfl
  obtain ⟨fd_is_sized, F_is_sized⟩ := c.def_ 3 (d := dOf "is_sized" 12) rfl
  obtain ⟨fd_is_pair, F_is_pair⟩ := c.def_ 4 (d := dOf "is_pair" 13) rfl
  obtain ⟨fd_is_listed, F_is_listed⟩ := c.def_ 5 (d := dOf "is_listed" 14) rfl
  obtain ⟨fd_replaced, F_replaced⟩ := c.def_ 6 (d := dOf "replaced" 15) rfl
  obtain ⟨fd_is_near_value, F_is_near_value⟩ := c.def_ 7 (d := dOf "is_near_value" 35) rfl
  obtain ⟨fd_is_row_of, F_is_row_of⟩ := c.def_ 8 (d := dOf "is_row_of" 37) rfl
  obtain ⟨fd_are_inputs, F_are_inputs⟩ := c.def_ 9 (d := dOf "are_inputs" 38) rfl
  obtain ⟨fd_is_hand, F_is_hand⟩ := c.def_ 10 (d := dOf "is_hand" 40) rfl
  obtain ⟨fd_check_hand, F_check_hand⟩ := c.def_ 11 (d := dOf "check_hand" 41) rfl
  obtain ⟨fd_top_cell, F_top_cell⟩ := c.def_ 12 (d := dOf "top_cell" 63) rfl
  obtain ⟨fd_top_state, F_top_state⟩ := c.def_ 13 (d := dOf "top_state" 64) rfl
  obtain ⟨fd_top_next, F_top_next⟩ := c.def_ 14 (d := dOf "top_next" 65) rfl
  obtain ⟨fd_after_near, F_after_near⟩ := c.def_ 15 (d := dOf "after_near" 68) rfl
  obtain ⟨fd_top_after, F_top_after⟩ := c.def_ 16 (d := dOf "top_after" 70) rfl
  obtain ⟨fd_cell_of, F_cell_of⟩ := c.def_ 17 (d := dOf "cell_of" 72) rfl
  obtain ⟨fd_state_of, F_state_of⟩ := c.def_ 18 (d := dOf "state_of" 73) rfl
  obtain ⟨fd_next_of, F_next_of⟩ := c.def_ 19 (d := dOf "next_of" 74) rfl
  obtain ⟨fd_after_of, F_after_of⟩ := c.def_ 20 (d := dOf "after_of" 75) rfl
  obtain ⟨fd_begun, F_begun⟩ := c.def_ 21 (d := dOf "begun" 76) rfl
  obtain ⟨fd_first_standing, F_first_standing⟩ := c.def_ 22 (d := dOf "first_standing" 77) rfl
  obtain ⟨fd_movers, F_movers⟩ := c.def_ 23 (d := dOf "movers" 78) rfl
  obtain ⟨fd_can_step, F_can_step⟩ := c.def_ 24 (d := dOf "can_step" 79) rfl
  obtain ⟨fd_after_step, F_after_step⟩ := c.def_ 25 (d := dOf "after_step" 80) rfl
  obtain ⟨fd_check_step, F_check_step⟩ := c.def_ 26 (d := dOf "check_step" 81) rfl
  obtain ⟨fd_step, F_step⟩ := c.def_ 27 (d := dOf "step" 82) rfl
  obtain ⟨fd_next_step, F_next_step⟩ := c.def_ 28 (d := dOf "next_step" 83) rfl
  obtain ⟨fd_standings_of, F_standings_of⟩ := c.def_ 29 (d := dOf "standings_of" 84) rfl
  obtain ⟨fd_run, F_run⟩ := c.def_ 30 (d := dOf "run" 85) rfl
  obtain ⟨fd_run_out, F_run_out⟩ := c.def_ 31 (d := dOf "run_out" 86) rfl
  obtain ⟨fd_is_came, F_is_came⟩ := c.def_ 32 (d := dOf "is_came" 89) rfl
  obtain ⟨fd_is_item, F_is_item⟩ := c.def_ 33 (d := dOf "is_item" 93) rfl
  obtain ⟨fd_most_told, F_most_told⟩ := c.def_ 34 (d := dOf "most_told" 94) rfl
  obtain ⟨fd_is_told, F_is_told⟩ := c.def_ 35 (d := dOf "is_told" 95) rfl
  obtain ⟨fd_flat, F_flat⟩ := c.def_ 36 (d := dOf "flat" 96) rfl
  obtain ⟨fd_near_fault, F_near_fault⟩ := c.def_ 37 (d := dOf "near_fault" 107) rfl
  obtain ⟨fd_raw_fault, F_raw_fault⟩ := c.def_ 38 (d := dOf "raw_fault" 109) rfl
  obtain ⟨fd_fault, F_fault⟩ := c.def_ 39 (d := dOf "fault" 110) rfl
  obtain ⟨fd_law_hand, F_law_hand⟩ := c.def_ 40 (d := dOf "_law_hand" 112) rfl
  obtain ⟨fd_law_draw, F_law_draw⟩ := c.def_ 41 (d := dOf "_law_draw" 113) rfl
  obtain ⟨fd_law_some, F_law_some⟩ := c.def_ 42 (d := dOf "_law_some" 114) rfl
  obtain ⟨fd_law_is, F_law_is⟩ := c.def_ 43 (d := dOf "_law_is" 116) rfl
  obtain ⟨fd_law_inputs, F_law_inputs⟩ := c.def_ 44 (d := dOf "_law_inputs" 117) rfl
  obtain ⟨fd_law_begin, F_law_begin⟩ := c.def_ 45 (d := dOf "_law_begin" 118) rfl
  obtain ⟨fd_law_next, F_law_next⟩ := c.def_ 46 (d := dOf "_law_next" 119) rfl
  obtain ⟨fd_law_near, F_law_near⟩ := c.def_ 47 (d := dOf "_law_near" 122) rfl
  obtain ⟨fd_law_moved, F_law_moved⟩ := c.def_ 48 (d := dOf "_law_moved" 124) rfl
  obtain ⟨fd_law_left, F_law_left⟩ := c.def_ 49 (d := dOf "_law_left" 125) rfl
  obtain ⟨fd_law_woven, F_law_woven⟩ := c.def_ 50 (d := dOf "_law_woven" 126) rfl
  obtain ⟨fd_law_whole, F_law_whole⟩ := c.def_ 51 (d := dOf "_law_whole" 127) rfl
  obtain ⟨fd_law_came, F_law_came⟩ := c.def_ 52 (d := dOf "_law_came" 128) rfl
  obtain ⟨fd_law_all, F_law_all⟩ := c.def_ 53 (d := dOf "_law_all" 131) rfl
  obtain ⟨fd_law_near_fault, F_law_near_fault⟩ := c.def_ 54 (d := dOf "_law_near_fault" 133) rfl
  obtain ⟨fd_law_fault, F_law_fault⟩ := c.def_ 55 (d := dOf "_law_fault" 135) rfl
  obtain ⟨fd_law_led_right, F_law_led_right⟩ := c.def_ 56 (d := dOf "_law_led_right" 136) rfl
  obtain ⟨fd_law, F_law⟩ := c.def_ 57 (d := dOf "law" 137) rfl
  obtain ⟨fd_init, F_init⟩ := c.def_ 58 (d := ⟨("Play", some "__init__"), "__init__", "Play.__init__", defArgs initS0, defBody initS0, defScope initS0, [], []⟩) rfl
  have g_is_integer := He.glo_ok X G (c.fact 0 (f := .glo "is_integer") rfl)
  have g_is_within := He.glo_ok X G (c.fact 1 (f := .glo "is_within") rfl)
  have g_is_below := He.glo_ok X G (c.fact 2 (f := .glo "is_below") rfl)
  have g_is_sized := He.glo_ok X G (c.fact 3 (f := .glo "is_sized") rfl)
  have g_is_pair := He.glo_ok X G (c.fact 4 (f := .glo "is_pair") rfl)
  have g_is_listed := He.glo_ok X G (c.fact 5 (f := .glo "is_listed") rfl)
  have g_replaced := He.glo_ok X G (c.fact 6 (f := .glo "replaced") rfl)
  have g_is_near_value := He.glo_ok X G (c.fact 7 (f := .glo "is_near_value") rfl)
  have g_is_row_of := He.glo_ok X G (c.fact 8 (f := .glo "is_row_of") rfl)
  have g_are_inputs := He.glo_ok X G (c.fact 9 (f := .glo "are_inputs") rfl)
  have g_is_hand := He.glo_ok X G (c.fact 10 (f := .glo "is_hand") rfl)
  have g_check_hand := He.glo_ok X G (c.fact 11 (f := .glo "check_hand") rfl)
  have g_top_cell := He.glo_ok X G (c.fact 12 (f := .glo "top_cell") rfl)
  have g_top_state := He.glo_ok X G (c.fact 13 (f := .glo "top_state") rfl)
  have g_top_next := He.glo_ok X G (c.fact 14 (f := .glo "top_next") rfl)
  have g_after_near := He.glo_ok X G (c.fact 15 (f := .glo "after_near") rfl)
  have g_top_after := He.glo_ok X G (c.fact 16 (f := .glo "top_after") rfl)
  have g_cell_of := He.glo_ok X G (c.fact 17 (f := .glo "cell_of") rfl)
  have g_state_of := He.glo_ok X G (c.fact 18 (f := .glo "state_of") rfl)
  have g_next_of := He.glo_ok X G (c.fact 19 (f := .glo "next_of") rfl)
  have g_after_of := He.glo_ok X G (c.fact 20 (f := .glo "after_of") rfl)
  have g_begun := He.glo_ok X G (c.fact 21 (f := .glo "begun") rfl)
  have g_first_standing := He.glo_ok X G (c.fact 22 (f := .glo "first_standing") rfl)
  have g_movers := He.glo_ok X G (c.fact 23 (f := .glo "movers") rfl)
  have g_can_step := He.glo_ok X G (c.fact 24 (f := .glo "can_step") rfl)
  have g_after_step := He.glo_ok X G (c.fact 25 (f := .glo "after_step") rfl)
  have g_check_step := He.glo_ok X G (c.fact 26 (f := .glo "check_step") rfl)
  have g_step := He.glo_ok X G (c.fact 27 (f := .glo "step") rfl)
  have g_next_step := He.glo_ok X G (c.fact 28 (f := .glo "next_step") rfl)
  have g_standings_of := He.glo_ok X G (c.fact 29 (f := .glo "standings_of") rfl)
  have g_run := He.glo_ok X G (c.fact 30 (f := .glo "run") rfl)
  have g_run_out := He.glo_ok X G (c.fact 31 (f := .glo "run_out") rfl)
  have g_is_came := He.glo_ok X G (c.fact 32 (f := .glo "is_came") rfl)
  have g_is_item := He.glo_ok X G (c.fact 33 (f := .glo "is_item") rfl)
  have g_most_told := He.glo_ok X G (c.fact 34 (f := .glo "most_told") rfl)
  have g_is_told := He.glo_ok X G (c.fact 35 (f := .glo "is_told") rfl)
  have g_flat := He.glo_ok X G (c.fact 36 (f := .glo "flat") rfl)
  have g_near_fault := He.glo_ok X G (c.fact 37 (f := .glo "near_fault") rfl)
  have g_raw_fault := He.glo_ok X G (c.fact 38 (f := .glo "raw_fault") rfl)
  have g_fault := He.glo_ok X G (c.fact 39 (f := .glo "fault") rfl)
  have g_law_hand := He.glo_ok X G (c.fact 40 (f := .glo "_law_hand") rfl)
  have g_law_draw := He.glo_ok X G (c.fact 41 (f := .glo "_law_draw") rfl)
  have g_law_some := He.glo_ok X G (c.fact 42 (f := .glo "_law_some") rfl)
  have g_law_is := He.glo_ok X G (c.fact 43 (f := .glo "_law_is") rfl)
  have g_law_inputs := He.glo_ok X G (c.fact 44 (f := .glo "_law_inputs") rfl)
  have g_law_begin := He.glo_ok X G (c.fact 45 (f := .glo "_law_begin") rfl)
  have g_law_next := He.glo_ok X G (c.fact 46 (f := .glo "_law_next") rfl)
  have g_law_near := He.glo_ok X G (c.fact 47 (f := .glo "_law_near") rfl)
  have g_law_moved := He.glo_ok X G (c.fact 48 (f := .glo "_law_moved") rfl)
  have g_law_left := He.glo_ok X G (c.fact 49 (f := .glo "_law_left") rfl)
  have g_law_woven := He.glo_ok X G (c.fact 50 (f := .glo "_law_woven") rfl)
  have g_law_whole := He.glo_ok X G (c.fact 51 (f := .glo "_law_whole") rfl)
  have g_law_came := He.glo_ok X G (c.fact 52 (f := .glo "_law_came") rfl)
  have g_law_all := He.glo_ok X G (c.fact 53 (f := .glo "_law_all") rfl)
  have g_law_near_fault := He.glo_ok X G (c.fact 54 (f := .glo "_law_near_fault") rfl)
  have g_law_fault := He.glo_ok X G (c.fact 55 (f := .glo "_law_fault") rfl)
  have g_law_led_right := He.glo_ok X G (c.fact 56 (f := .glo "_law_led_right") rfl)
  have g_law := He.glo_ok X G (c.fact 57 (f := .glo "law") rfl)
  have e := hfa.symm.trans g_law
  cases e
  have b := FunD.bindsA (ps := ["_law_script"]) F_law fun _ _ _ _ _ _ us hl => match us, hl with | [_], _ => rfl
  refine ⟨fd_law, fun s v => b s [v] rfl, fun base _ _ => ?_⟩
  have T : Txt ⟨P, w, K, mg, base, He.ga K "Play"⟩ := txt X G c
  have C_is_integer := c_is_integer (gl := ⟨P, w, K, mg, base, He.ga K "Play"⟩) (F := F_is_integer) (hm := g_is_integer) (T := T)
  have C_is_within := c_is_within (gl := ⟨P, w, K, mg, base, He.ga K "Play"⟩) (F := F_is_within) (hm := g_is_within) (C_is_integer := C_is_integer)
  have C_is_below := c_is_below (gl := ⟨P, w, K, mg, base, He.ga K "Play"⟩) (F := F_is_below) (hm := g_is_below) (T := T) (C_is_within := C_is_within)
  have C_is_sized := c_is_sized (gl := ⟨P, w, K, mg, base, He.ga K "Play"⟩) (F := F_is_sized) (hm := g_is_sized) (T := T)
  have C_is_pair := c_is_pair (gl := ⟨P, w, K, mg, base, He.ga K "Play"⟩) (F := F_is_pair) (hm := g_is_pair) (T := T) (C_is_sized := C_is_sized)
  have C_is_listed := c_is_listed (gl := ⟨P, w, K, mg, base, He.ga K "Play"⟩) (F := F_is_listed) (hm := g_is_listed) (T := T)
  have C_replaced := c_replaced (gl := ⟨P, w, K, mg, base, He.ga K "Play"⟩) (F := F_replaced) (hm := g_replaced) (T := T)
  have C_is_near_value := c_is_near_value (gl := ⟨P, w, K, mg, base, He.ga K "Play"⟩) (F := F_is_near_value) (hm := g_is_near_value) (T := T) (C_is_within := C_is_within)
  have C_is_row_of := c_is_row_of (gl := ⟨P, w, K, mg, base, He.ga K "Play"⟩) (F := F_is_row_of) (hm := g_is_row_of) (T := T) (C_is_sized := C_is_sized) (V := Cal.calA C_is_near_value g_is_near_value)
  have C_are_inputs := c_are_inputs (gl := ⟨P, w, K, mg, base, He.ga K "Play"⟩) (F := F_are_inputs) (hm := g_are_inputs) (T := T) (C_is_pair := C_is_pair) (C_is_within := C_is_within) (C_is_row_of := C_is_row_of) (G_is_near_value := ⟨_, V.ref _, g_is_near_value, rfl, fun _ _ _ => .fnc _⟩)
  have C_is_hand := c_is_hand (gl := ⟨P, w, K, mg, base, He.ga K "Play"⟩) (F := F_is_hand) (hm := g_is_hand) (T := T) (C_is_below := C_is_below)
  have C_check_hand := c_check_hand (gl := ⟨P, w, K, mg, base, He.ga K "Play"⟩) (F := F_check_hand) (hm := g_check_hand) (T := T) (C_is_hand := C_is_hand)
  have C_top_cell := c_top_cell (gl := ⟨P, w, K, mg, base, He.ga K "Play"⟩) (F := F_top_cell) (hm := g_top_cell) (T := T)
  have C_top_state := c_top_state (gl := ⟨P, w, K, mg, base, He.ga K "Play"⟩) (F := F_top_state) (hm := g_top_state) (T := T)
  have C_top_next := c_top_next (gl := ⟨P, w, K, mg, base, He.ga K "Play"⟩) (F := F_top_next) (hm := g_top_next) (T := T)
  have C_after_near := c_after_near (gl := ⟨P, w, K, mg, base, He.ga K "Play"⟩) (F := F_after_near) (hm := g_after_near) (T := T)
  have C_top_after := c_top_after (gl := ⟨P, w, K, mg, base, He.ga K "Play"⟩) (F := F_top_after) (hm := g_top_after) (T := T) (C_after_near := C_after_near)
  have C_cell_of := c_cell_of (gl := ⟨P, w, K, mg, base, He.ga K "Play"⟩) (F := F_cell_of) (hm := g_cell_of) (T := T) (C_top_cell := C_top_cell)
  have C_state_of := c_state_of (gl := ⟨P, w, K, mg, base, He.ga K "Play"⟩) (F := F_state_of) (hm := g_state_of) (T := T) (C_top_state := C_top_state)
  have C_next_of := c_next_of (gl := ⟨P, w, K, mg, base, He.ga K "Play"⟩) (F := F_next_of) (hm := g_next_of) (T := T) (C_top_next := C_top_next)
  have C_after_of := c_after_of (gl := ⟨P, w, K, mg, base, He.ga K "Play"⟩) (F := F_after_of) (hm := g_after_of) (T := T) (C_top_after := C_top_after)
  have C_begun := c_begun (gl := ⟨P, w, K, mg, base, He.ga K "Play"⟩) (F := F_begun) (hm := g_begun) (T := T) (C_cell_of := C_cell_of) (C_state_of := C_state_of)
  have C_first_standing := c_first_standing (gl := ⟨P, w, K, mg, base, He.ga K "Play"⟩) (F := F_first_standing) (hm := g_first_standing) (T := T) (C_begun := C_begun)
  have C_movers := c_movers (gl := ⟨P, w, K, mg, base, He.ga K "Play"⟩) (F := F_movers) (hm := g_movers) (T := T)
  have C_can_step := c_can_step (gl := ⟨P, w, K, mg, base, He.ga K "Play"⟩) (F := F_can_step) (hm := g_can_step) (T := T) (C_movers := C_movers)
  have C_after_step := c_after_step (gl := ⟨P, w, K, mg, base, He.ga K "Play"⟩) (F := F_after_step) (hm := g_after_step) (T := T) (C_after_of := C_after_of) (C_next_of := C_next_of) (C_replaced := C_replaced)
  have C_check_step := c_check_step (gl := ⟨P, w, K, mg, base, He.ga K "Play"⟩) (F := F_check_step) (hm := g_check_step) (T := T) (C_check_hand := C_check_hand)
  have C_step := c_step (gl := ⟨P, w, K, mg, base, He.ga K "Play"⟩) (F := F_step) (hm := g_step) (T := T) (C_check_step := C_check_step) (C_after_step := C_after_step)
  have C_next_step := c_next_step (gl := ⟨P, w, K, mg, base, He.ga K "Play"⟩) (F := F_next_step) (hm := g_next_step) (T := T) (C_check_step := C_check_step) (C_next_of := C_next_of)
  have C_standings_of := c_standings_of (gl := ⟨P, w, K, mg, base, He.ga K "Play"⟩) (F := F_standings_of) (hm := g_standings_of) (T := T) (C_is_listed := C_is_listed) (C_begun := C_begun) (C_is_hand := C_is_hand) (C_after_step := C_after_step)
  have C_run := c_run (gl := ⟨P, w, K, mg, base, He.ga K "Play"⟩) (F := F_run) (hm := g_run) (T := T) (C_standings_of := C_standings_of)
  have C_run_out := c_run_out (gl := ⟨P, w, K, mg, base, He.ga K "Play"⟩) (F := F_run_out) (hm := g_run_out) (T := T) (C_run := C_run) (C_movers := C_movers) (C_after_step := C_after_step)
  have C_is_came := c_is_came (gl := ⟨P, w, K, mg, base, He.ga K "Play"⟩) (F := F_is_came) (hm := g_is_came) (T := T) (C_is_hand := C_is_hand)
  have C_is_item := c_is_item (gl := ⟨P, w, K, mg, base, He.ga K "Play"⟩) (F := F_is_item) (hm := g_is_item) (T := T) (C_is_pair := C_is_pair) (C_is_integer := C_is_integer)
  have C_most_told := c_most_told (gl := ⟨P, w, K, mg, base, He.ga K "Play"⟩) (F := F_most_told) (hm := g_most_told) (T := T)
  have C_is_told := c_is_told (gl := ⟨P, w, K, mg, base, He.ga K "Play"⟩) (F := F_is_told) (hm := g_is_told) (T := T) (C_is_sized := C_is_sized) (C_most_told := C_most_told) (C_is_item := C_is_item)
  have C_flat := c_flat (gl := ⟨P, w, K, mg, base, He.ga K "Play"⟩) (F := F_flat) (hm := g_flat) (T := T)
  have C_near_fault := c_near_fault (gl := ⟨P, w, K, mg, base, He.ga K "Play"⟩) (F := F_near_fault) (hm := g_near_fault) (T := T) (C_flat := C_flat)
  have C_raw_fault := c_raw_fault (gl := ⟨P, w, K, mg, base, He.ga K "Play"⟩) (F := F_raw_fault) (hm := g_raw_fault) (T := T) (C_near_fault := C_near_fault)
  have C_fault := c_fault (gl := ⟨P, w, K, mg, base, He.ga K "Play"⟩) (F := F_fault) (hm := g_fault) (T := T) (C_is_came := C_is_came) (C_is_told := C_is_told) (C_raw_fault := C_raw_fault)
  have C_law_draw := c_law_draw (gl := ⟨P, w, K, mg, base, He.ga K "Play"⟩) (F := F_law_draw) (hm := g_law_draw) (T := T)
  have C_law_some := c_law_some (gl := ⟨P, w, K, mg, base, He.ga K "Play"⟩) (F := F_law_some) (hm := g_law_some) (T := T) (C_law_draw := C_law_draw)
  have C_law_is := law_is_all (gl := ⟨P, w, K, mg, base, He.ga K "Play"⟩) F_law_is g_law_is T 7
  have C_law_inputs := c_law_inputs (gl := ⟨P, w, K, mg, base, He.ga K "Play"⟩) (F := F_law_inputs) (hm := g_law_inputs) (T := T) (C_law_some := C_law_some) (C_law_draw := C_law_draw)
  have C_law_begin := c_law_begin (gl := ⟨P, w, K, mg, base, He.ga K "Play"⟩) (F := F_law_begin) (hm := g_law_begin) (T := T)
  have C_law_next := c_law_next (gl := ⟨P, w, K, mg, base, He.ga K "Play"⟩) (F := F_law_next) (hm := g_law_next) (T := T)
  have C_law_near := c_law_near (gl := ⟨P, w, K, mg, base, He.ga K "Play"⟩) (F := F_law_near) (hm := g_law_near) (T := T)
  have C_law_moved := c_law_moved (gl := ⟨P, w, K, mg, base, He.ga K "Play"⟩) (F := F_law_moved) (hm := g_law_moved) (T := T) (C_law_near := C_law_near) (C_law_next := C_law_next)
  have C_law_left := c_law_left (gl := ⟨P, w, K, mg, base, He.ga K "Play"⟩) (F := F_law_left) (hm := g_law_left) (T := T)
  have C_law_woven := c_law_woven (gl := ⟨P, w, K, mg, base, He.ga K "Play"⟩) (F := F_law_woven) (hm := g_law_woven) (T := T) (C_law_begin := C_law_begin) (C_law_draw := C_law_draw) (C_law_left := C_law_left) (C_law_moved := C_law_moved) (C_law_some := C_law_some)
  have C_law_whole := c_law_whole (gl := ⟨P, w, K, mg, base, He.ga K "Play"⟩) (F := F_law_whole) (hm := g_law_whole) (T := T) (C_law_left := C_law_left) (C_law_moved := C_law_moved)
  have C_law_came := c_law_came (gl := ⟨P, w, K, mg, base, He.ga K "Play"⟩) (F := F_law_came) (hm := g_law_came) (T := T)
  have C_law_all := c_law_all (gl := ⟨P, w, K, mg, base, He.ga K "Play"⟩) (F := F_law_all) (hm := g_law_all) (T := T)
  have C_law_near_fault := c_law_near_fault (gl := ⟨P, w, K, mg, base, He.ga K "Play"⟩) (F := F_law_near_fault) (hm := g_law_near_fault) (T := T) (C_law_all := C_law_all)
  have C_law_fault := c_law_fault (gl := ⟨P, w, K, mg, base, He.ga K "Play"⟩) (F := F_law_fault) (hm := g_law_fault) (T := T) (C_law_all := C_law_all) (C_law_near_fault := C_law_near_fault)
  have C_law_led_right := c_law_led_right (gl := ⟨P, w, K, mg, base, He.ga K "Play"⟩) (F := F_law_led_right) (hm := g_law_led_right) (T := T) (C_law_woven := C_law_woven) (C_law_is := C_law_is) (C_first_standing := C_first_standing) (C_law_draw := C_law_draw) (C_law_some := C_law_some) (C_run := C_run) (C_can_step := C_can_step) (C_law_left := C_law_left) (C_fault := C_fault) (C_law_came := C_law_came) (C_law_fault := C_law_fault) (C_next_step := C_next_step) (C_law_next := C_law_next) (C_step := C_step) (C_law_moved := C_law_moved) (C_law_whole := C_law_whole) (C_run_out := C_run_out)
  have bI : Binds K fd_init ["self", "kind", "inputs"] [] := F_init.bindsN fun _ _ _ _ _ _ us hl => match us, hl with | [_, _, _], _ => rfl
  have FI := ok_init (gl := ⟨P, w, K, mg, base, He.ga K "Play"⟩) F_init T C_are_inputs
  have bH : Binds K fd_law_hand ["_law_script"] [] := F_law_hand.bindsN fun _ _ _ _ _ _ us hl => match us, hl with | [_], _ => rfl
  exact ok_law (gl := ⟨P, w, K, mg, base, He.ga K "Play"⟩) F_law (ok_law_hand F_law_hand T) g_law_hand F_law_hand.kp bH fun p => d_law T (He.mkr_ok (c.fact 89 (f := .mkr "Play") rfl)) FI (He.glo_ok X G (c.fact 90 (f := .glo "Play") rfl)) bI (C_law_inputs := C_law_inputs) (C_law_led_right := C_law_led_right) (C_law_draw := C_law_draw) (C_law_woven := C_law_woven) (C_law_is := C_law_is) (C_can_step := C_can_step) (C_run := C_run)
end Op
open PySem PySem.W PySem.Calls PyProof.Rows
theorem PySem.Challenge.cw_onepicture_k14_whole_near_values_holds : PySem.Challenge.rw_onepicture_k14_whole_near_values.Holds := by
  w_on; o_law
  refine HandSHeadRun.head_any (r := OpenLaw.row PySem.Challenge.rw_onepicture_k14_whole_near_values) (q := view (OpenLaw.row PySem.Challenge.rw_onepicture_k14_whole_near_values).prog [137]) (H := Op.hookX) (ob := Op.obX) (M := 6000) (loose := Op.looseL) (d := HandSHeadRun.topDef (OpenLaw.row PySem.Challenge.rw_onepicture_k14_whole_near_values).prog 137) (kwd := []) Op.obX_eq
    (by kernel_rfl) (fun s => by kernel_rfl) Op.runX (by kernel_rfl) (by kernel_rfl) (by kernel_rfl) (by rfl) (by first | assumption | decide +kernel) (by decide +kernel) ⟨rfl, rfl, rfl, rfl, rfl, by decide +kernel⟩ ?hw ?hc
  case hw => w_witness2
  case hc =>
    refine L2.walk_ofE (l := PySem.Challenge.rw_onepicture_k14_whole_near_values) (n := 63) (k := 10) (x := "_law_script") (CX := L2.CX0) rfl (by decide) (by kernel_rfl) ⟨rfl, by decide, by decide⟩ ?F (fun _ _ _ _ z => z)
    intro w mg fa h Y G hmg0
    obtain ⟨K, KX, c⟩ := Y
    have hmg : mg ("law" : PySem.Str) = some (.ref fa) := by
      have e : (HandSHeadRun.topDef (OpenLaw.row PySem.Challenge.rw_onepicture_k14_whole_near_values).prog 137).name = ("law" : PySem.Str) := by kernel_rfl
      rw [← e]
      exact hmg0
    obtain ⟨fd, hb, hF⟩ := Op.facts (P := (PySem.Challenge.rw_onepicture_k14_whole_near_values).prog) (w := w) KX G hmg c
    exact ⟨K, fd, Op.spLaw K, KX, hb, fun H a ns hl _ hS => ⟨a, ns, rfl, hS, fun _ => rfl⟩, hF⟩
