import PyProof.Rows.All
import HandS.Head0
import HandS.Head1
import HandS.Head2
import Wide.All
import OpenK.AllK
import Wide.FinOn
import HandS.Comp
import HandS.Exc
import HandS.WordsList
import HandS.Dict
import HandS.TryMany
import HandS.Lambda
import HandS.ExcField
import HandS.ExcCtx
import HandS.SuiteRaise
import HandS.RaiseFrom
import HandS.ExcInitHot
import HandS.Wide
import HandS.TupAny
import HandS.Text
import HandS.WordsDict
import HandS.Iter
import PyProof.LongRange
import HandS.Style
import HandS.ExcInit
import HandS.WordsExc
import HandS.IsInst
import HandS.SortInts
import HandS.SortRule
import HandS.Deep
import HandS.SortKw
import KE.KMinBuiltin
import KE.DataFind
import HandS.EndTab
import KE.KExcIs
import HandS.SetFor
import HandS.Strs
import HandS.Conv
import HandS.More
import HandS.Zip
import KE.SortData
import KE.DataCmp
import HandS.RaiseMore
import HandS.FStr
import PyProof.ListRange
import HandS.HeadHook3
import KE.GoesNew
import HandS.ListItems
import PyProof.StrBlock2
import KE.KDictZip
import KE.SortKeyHeap
import HandS.ReplaceLit
import KE.GoesRaise
import PySem.Challenge.RW_creelway_k46_nothing_handed_in_or_told_i
set_option Elab.async false
set_option linter.all false
set_option maxRecDepth 100000
set_option maxHeartbeats 4000000

def CW.looseN : List PySem.Str := ([PySem.Str.ofString "_wall", PySem.Str.ofString "CreelError", PySem.Str.ofString "TooMany", PySem.Str.ofString "BadCreel", PySem.Str.ofString "TooNear", PySem.Str.ofString "Bare", PySem.Str.ofString "BadName", PySem.Str.ofString "Taken", PySem.Str.ofString "Full", PySem.Str.ofString "NoRoad", PySem.Str.ofString "Laid", PySem.Str.ofString "NoStone", PySem.Str.ofString "NoEntry", PySem.Str.ofString "NothingLeft", PySem.Str.ofString "BadRow", PySem.Str.ofString "Clash", PySem.Str.ofString "MOST_STONES", PySem.Str.ofString "look_row", PySem.Str.ofString "mirrored", PySem.Str.ofString "look_creel"] : List PySem.Str) ++ ([PySem.Str.ofString "share", PySem.Str.ofString "mark", PySem.Str.ofString "longest_ripe", PySem.Str.ofString "grown", PySem.Str.ofString "list_of", PySem.Str.ofString "next_place", PySem.Str.ofString "shortest_ripe", PySem.Str.ofString "shrunk", PySem.Str.ofString "stones_of", PySem.Str.ofString "look_walks", PySem.Str.ofString "by_walks", PySem.Str.ofString "added_to", PySem.Str.ofString "far", PySem.Str.ofString "laid_behind", PySem.Str.ofString "put_in", PySem.Str.ofString "taken_out", PySem.Str.ofString "behind_entry", PySem.Str.ofString "gone_over", PySem.Str.ofString "Road", PySem.Str.ofString "LETTERS"] : List PySem.Str) ++ ([PySem.Str.ofString "MOST_SIGNS", PySem.Str.ofString "MOST_ROADS", PySem.Str.ofString "is_name", PySem.Str.ofString "House", PySem.Str.ofString "_law_numbers", PySem.Str.ofString "_law_same", PySem.Str.ofString "_law_row", PySem.Str.ofString "_law_long_row", PySem.Str.ofString "_law_behind", PySem.Str.ofString "_law_view", PySem.Str.ofString "_law_spoil"] : List PySem.Str)
set_option hygiene false in
local macro_rules
  | `(tactic| o_head ($_ $_ $_ $_)) => `(tactic| exact x.elim)
  | `(tactic| o_head ($_ $_ $_ $_ $_)) => `(tactic| exact x.elim)
set_option maxRecDepth 100000 in
set_option maxHeartbeats 0 in
theorem CW.pre (x : False) : PySem.Challenge.rw_creelway_k46_nothing_handed_in_or_told_i.Holds := by
  w_on; o_law; k_head
def CW.par0 : PySem.Params := { strHash := fun _ => 0, shareClass := fun _ => 0, mergeTok := fun t => t, idOf := fun _ => 0, idOfShared := fun _ _ => 0, followText := fun _ => false, idOfImm := fun _ => 0 }
noncomputable def CW.asL : List PySem.Addr := (CW.pre.heap_39 CW.par0).map (fun p => p.1)
theorem CW.asE : ∀ P, CW.asL = (CW.pre.heap_39 P).map (fun p => p.1) := fun _ => by kernel_rfl
set_option maxRecDepth 100000 in
set_option maxHeartbeats 0 in
theorem CW.kRunF (w : PySem.World) : HandSHeadRun.RunEq (PySem.W.OpenLaw.row PySem.Challenge.rw_creelway_k46_nothing_handed_in_or_told_i) (PySem.W.view (PySem.W.OpenLaw.row PySem.Challenge.rw_creelway_k46_nothing_handed_in_or_told_i).prog [60]) (PySem.W.kHook CW.pre.heap_39 CW.asL CW.asE) (fun s => List.map (HandSHeadRun.getT s) CW.asL) 30000 CW.looseN (PySem.World.withFollow w "special-get-raises" false) := by
  intro os
  kernel_rfl
set_option maxRecDepth 100000 in
set_option maxHeartbeats 0 in
theorem CW.kRunT (w : PySem.World) : HandSHeadRun.RunEq (PySem.W.OpenLaw.row PySem.Challenge.rw_creelway_k46_nothing_handed_in_or_told_i) (PySem.W.view (PySem.W.OpenLaw.row PySem.Challenge.rw_creelway_k46_nothing_handed_in_or_told_i).prog [60]) (PySem.W.kHook CW.pre.heap_39 CW.asL CW.asE) (fun s => List.map (HandSHeadRun.getT s) CW.asL) 30000 CW.looseN (PySem.World.withFollow w "special-get-raises" true) := by
  intro os
  kernel_rfl
theorem CW.kRun : ∀ w : PySem.World, HandSHeadRun.RunEq (PySem.W.OpenLaw.row PySem.Challenge.rw_creelway_k46_nothing_handed_in_or_told_i) (PySem.W.view (PySem.W.OpenLaw.row PySem.Challenge.rw_creelway_k46_nothing_handed_in_or_told_i).prog [60]) (PySem.W.kHook CW.pre.heap_39 CW.asL CW.asE) (fun s => List.map (HandSHeadRun.getT s) CW.asL) 30000 CW.looseN w := PySem.W.byRow2 "special-get-raises" (P := fun w => HandSHeadRun.RunEq (PySem.W.OpenLaw.row PySem.Challenge.rw_creelway_k46_nothing_handed_in_or_told_i) (PySem.W.view (PySem.W.OpenLaw.row PySem.Challenge.rw_creelway_k46_nothing_handed_in_or_told_i).prog [60]) (PySem.W.kHook CW.pre.heap_39 CW.asL CW.asE) (fun s => List.map (HandSHeadRun.getT s) CW.asL) 30000 CW.looseN w) CW.kRunF CW.kRunT

namespace VL
open PySem PySem.Spec PyProof.Rows L2

def NT (o : HO) : Prop := ∀ ps, o ≠ .tbl ps
structure Same (H H' : Hp) : Prop where
  k : ∀ b o, H b = some o → NT o ∨ H' b = none → H' b = some o
theorem Same.at {H H' : Hp} (e : Same H H') (b : Addr) (o : HO) (h : H b = some o) (nt : NT o := by intro _ z; cases z) : H' b = some o := e.k b o h (.inl nt)
theorem Same.refl (H : Hp) : Same H H := ⟨fun _ _ h _ => h⟩
theorem Same.free {H H' : Hp} (e : Same H H') {l : Addr} (h : H' l = none) : H l = none := by
  cases q : H l with
  | none => rfl
  | some o =>
    have z := e.k l o q (.inr h)
    rw [h] at z
    cases z
/-- a dict that lies open, or locked -/
theorem Same.rd {H H' : Hp} (e : Same H H') {a : Addr} {xs : List (Key × V)} (h : Rd H a (.dK xs)) : Rd H' a (.dK xs) := by
  rcases h with h | ⟨o, h⟩
  · exact .inl (e.at _ _ h)
  · exact .inr ⟨o, e.at _ _ h⟩
theorem Same.trans {H H1 H2 : Hp} (a : Same H H1) (b : Same H1 H2) : Same H H2 := ⟨fun c o h nt => by
  rcases nt with nt | nt
  · exact b.k c o (a.k c o h (.inl nt)) (.inl nt)
  · have z := a.k c o h (.inr (b.free nt))
    rw [b.free nt] at z
    cases z⟩
theorem Same.of {H H' : Hp} (e : L2.Same H H') : Same H H' := ⟨fun b o h _ => e b o h⟩
theorem Same.seq {K : PySem.W.Frag} {H H' : Hp} {a : Addr} {xs : List V} (e : Same H H') (h : SqL K H a xs) : SqL K H' a xs := by
  rcases h with (h | ⟨o, h⟩) | h
  · exact .inl (.inl (e.at _ _ h))
  · exact .inl (.inr ⟨o, e.at _ _ h⟩)
  · exact .inr h
/-- the name of a law's lambda -/
def lamQ : Str := "law.<locals>.<lambda>"

inductive D where
  | non
  | bl (b : Bool)
  | int (i : Int)
  | str (x : Str)
  | lst (xs : List D)
  | tup (xs : List D)
  | dct (kvs : List (Key × D))
  | obj (C : Str) (fs : List (Str × D))
  | scr (ns : List Int)
/-- the own classes by name; the written part -/
structure Cl where
  f : Str → Option Addr
  K : PySem.W.Frag
  o : Str → Option Addr

mutual
inductive Rep (cl : Cl) (H : Hp) : D → V → Prop
  | non : Rep cl H .non .non
  | bl (b : Bool) : Rep cl H (.bl b) (.bl b)
  | int (i : Int) : Rep cl H (.int i) (.int i)
  | str (x : Str) : Rep cl H (.str x) (.str x)
  | lst {a : Addr} {ds : List D} {xs : List V} : H a = some (.lst xs) → RepL cl H ds xs → Rep cl H (.lst ds) (.ref a)
  | tup {a : Addr} {ds : List D} {xs : List V} : H a = some (.tup xs) → RepL cl H ds xs → Rep cl H (.tup ds) (.ref a)
  | dct {a : Addr} {ds : List (Key × D)} {xs : List (Key × V)} : Rd H a (.dK xs) → RepK cl H ds xs → Rep cl H (.dct ds) (.ref a)
  | obj {a c dx : Addr} {C : Str} {ds : List (Str × D)} {xs : List (Str × V)} : cl.o C = some c → H a = some (.ins c dx xs) → RepF cl H ds xs → Rep cl H (.obj C ds) (.ref a)
  | scr {a : Addr} {ns : List Int} : SqL cl.K H a (ns.map V.int) → Rep cl H (.scr ns) (.ref a)
inductive RepL (cl : Cl) (H : Hp) : List D → List V → Prop
  | nil : RepL cl H [] []
  | cons {d : D} {ds : List D} {v : V} {vs : List V} : Rep cl H d v → RepL cl H ds vs → RepL cl H (d :: ds) (v :: vs)
inductive RepK (cl : Cl) (H : Hp) : List (Key × D) → List (Key × V) → Prop
  | nil : RepK cl H [] []
  | cons {k : Key} {d : D} {ds : List (Key × D)} {v : V} {vs : List (Key × V)} : Rep cl H d v → RepK cl H ds vs → RepK cl H ((k, d) :: ds) ((k, v) :: vs)
inductive RepF (cl : Cl) (H : Hp) : List (Str × D) → List (Str × V) → Prop
  | nil : RepF cl H [] []
  | cons {k : Str} {d : D} {ds : List (Str × D)} {v : V} {vs : List (Str × V)} : Rep cl H d v → RepF cl H ds vs → RepF cl H ((k, d) :: ds) ((k, v) :: vs)
end

section
variable {cl : Cl} {H H' : Hp}
mutual
theorem Rep.same (e : Same H H') : ∀ (d : D) (v : V), Rep cl H d v → Rep cl H' d v
  | .non, _, h => by cases h; exact .non
  | .bl b, _, h => by cases h; exact .bl b
  | .int i, _, h => by cases h; exact .int i
  | .str x, _, h => by cases h; exact .str x
  | .lst ds, _, h => by
    cases h with
    | lst h1 h2 => exact .lst (e.at _ _ h1) (RepL.same e ds _ h2)
  | .tup ds, _, h => by
    cases h with
    | tup h1 h2 => exact .tup (e.at _ _ h1) (RepL.same e ds _ h2)
  | .dct ds, _, h => by
    cases h with
    | dct h1 h2 => exact .dct (e.rd h1) (RepK.same e ds _ h2)
  | .obj C ds, _, h => by
    cases h with
    | obj h0 h1 h2 => exact .obj h0 (e.at _ _ h1) (RepF.same e ds _ h2)
  | .scr ns, _, h => by
    cases h with
    | scr h1 => exact .scr (e.seq h1)
theorem RepL.same (e : Same H H') : ∀ (ds : List D) (vs : List V), RepL cl H ds vs → RepL cl H' ds vs
  | [], _, h => by cases h; exact .nil
  | d :: ds, _, h => by
    cases h with
    | cons h1 h2 => exact .cons (Rep.same e d _ h1) (RepL.same e ds _ h2)
theorem RepK.same (e : Same H H') : ∀ (ds : List (Key × D)) (vs : List (Key × V)), RepK cl H ds vs → RepK cl H' ds vs
  | [], _, h => by cases h; exact .nil
  | (k, d) :: ds, _, h => by
    cases h with
    | cons h1 h2 => exact .cons (Rep.same e d _ h1) (RepK.same e ds _ h2)
theorem RepF.same (e : Same H H') : ∀ (ds : List (Str × D)) (vs : List (Str × V)), RepF cl H ds vs → RepF cl H' ds vs
  | [], _, h => by cases h; exact .nil
  | (k, d) :: ds, _, h => by
    cases h with
    | cons h1 h2 => exact .cons (Rep.same e d _ h1) (RepF.same e ds _ h2)
end
theorem RepL.length : ∀ {ds : List D} {vs : List V}, RepL cl H ds vs → vs.length = ds.length
  | [], _, h => by cases h; rfl
  | d :: ds, _, h => by
    cases h with
    | cons h1 h2 => rw [List.length_cons, List.length_cons, RepL.length h2]
theorem RepL.get : ∀ {ds : List D} {vs : List V} {i : Nat} {d : D}, RepL cl H ds vs → ds[i]? = some d → ∃ v, vs[i]? = some v ∧ Rep cl H d v
  | [], _, _, _, _, e => by simp at e
  | d :: ds, _, 0, _, h, e => by
    cases h with
    | cons h1 h2 =>
      simp at e
      subst e
      exact ⟨_, rfl, h1⟩
  | d :: ds, _, i + 1, _, h, e => by
    cases h with
    | cons h1 h2 =>
      obtain ⟨v, q, r⟩ := RepL.get (i := i) h2 (by simpa using e)
      exact ⟨v, by simpa using q, r⟩
theorem RepL.app : ∀ {ds ds' : List D} {vs vs' : List V}, RepL cl H ds vs → RepL cl H ds' vs' → RepL cl H (ds ++ ds') (vs ++ vs')
  | [], _, _, _, h, h' => by cases h; exact h'
  | d :: ds, _, _, _, h, h' => by
    cases h with
    | cons h1 h2 => exact .cons h1 (RepL.app h2 h')
theorem RepL.take : ∀ {ds : List D} {vs : List V} (n : Nat), RepL cl H ds vs → RepL cl H (ds.take n) (vs.take n)
  | _, _, 0, _ => .nil
  | [], _, _ + 1, h => by cases h; exact .nil
  | d :: ds, _, n + 1, h => by
    cases h with
    | cons h1 h2 => exact .cons h1 (RepL.take n h2)
theorem RepL.drop : ∀ {ds : List D} {vs : List V} (n : Nat), RepL cl H ds vs → RepL cl H (ds.drop n) (vs.drop n)
  | _, _, 0, h => h
  | [], _, _ + 1, h => by cases h; exact .nil
  | d :: ds, _, n + 1, h => by
    cases h with
    | cons h1 h2 => exact RepL.drop n h2
theorem RepL.rev {ds : List D} {vs : List V} (h : RepL cl H ds vs) : RepL cl H ds.reverse vs.reverse := by
  have key : ∀ (ds : List D) (vs : List V) (es : List D) (us : List V), RepL cl H ds vs → RepL cl H es us → RepL cl H (ds.reverseAux es) (vs.reverseAux us) := by
    intro ds
    induction ds with
    | nil =>
      intro vs es us h1 h2
      cases h1
      exact h2
    | cons d ds ih =>
      intro vs es us h1 h2
      cases h1 with
      | cons a b =>
        have q := ih _ _ _ b (.cons a h2)
        exact q
  exact key ds vs [] [] h .nil
theorem RepL.set : ∀ {ds : List D} {vs : List V} {d : D} {v : V} (i : Nat), RepL cl H ds vs → Rep cl H d v → RepL cl H (ds.set i d) (vs.set i v)
  | [], _, _, _, _, h, _ => by cases h; exact .nil
  | d :: ds, _, _, _, 0, h, r => by
    cases h with
    | cons h1 h2 => exact .cons r h2
  | d :: ds, _, _, _, i + 1, h, r => by
    cases h with
    | cons h1 h2 => exact .cons h1 (RepL.set i h2 r)
theorem RepL.dropLast : ∀ {ds : List D} {vs : List V}, RepL cl H ds vs → RepL cl H ds.dropLast vs.dropLast := fun {ds vs} h => by
  rw [List.dropLast_eq_take, List.dropLast_eq_take, h.length]
  exact h.take _
theorem RepL.ints {ns : List Int} : ∀ {vs : List V}, RepL cl H (ns.map D.int) vs → vs = ns.map V.int := by
  induction ns with
  | nil =>
    intro vs h
    cases h
    rfl
  | cons n ns ih =>
    intro vs h
    cases h with
    | cons h1 h2 =>
      cases h1
      rw [ih h2]
      rfl
theorem RepL.ofInts (ns : List Int) : RepL cl H (ns.map D.int) (ns.map V.int) := by
  induction ns with
  | nil => exact .nil
  | cons n ns ih => exact .cons (.int n) ih
end

/-- numbers, texts, truths, None -/
def D.bare : D → Bool
  | .non => true
  | .bl _ => true
  | .int _ => true
  | .str _ => true
  | _ => false
/-- no list, dict, object: what never changes -/
def D.plain : D → Bool
  | .lst _ => false
  | .dct _ => false
  | .obj _ _ => false
  | _ => true
mutual
inductive RB (cl : Cl) (Hs H : Hp) : D → V → Prop
  | val {d : D} {v : V} : Rep cl Hs d v → RB cl Hs H d v
  | lst {a : Addr} {ds : List D} {xs : List V} : H a = some (.lst xs) → RepL cl Hs ds xs → RB cl Hs H (.lst ds) (.ref a)
  | dct {a : Addr} {ds : List (Key × D)} {xs : List (Key × V)} : Rd H a (.dK xs) → RepK cl Hs ds xs → RB cl Hs H (.dct ds) (.ref a)
  | obj {a c dx : Addr} {C : Str} {ds : List (Str × D)} {xs : List (Str × V)} : cl.o C = some c → H a = some (.ins c dx xs) → RBF cl Hs H ds xs → RB cl Hs H (.obj C ds) (.ref a)
inductive RBF (cl : Cl) (Hs H : Hp) : List (Str × D) → List (Str × V) → Prop
  | nil : RBF cl Hs H [] []
  | cons {k : Str} {d : D} {ds : List (Str × D)} {v : V} {vs : List (Str × V)} : RB cl Hs H d v → RBF cl Hs H ds vs → RBF cl Hs H ((k, d) :: ds) ((k, v) :: vs)
end
section
variable {cl : Cl} {Hs Hs' H H' : Hp}
mutual
theorem RB.same (e : Same Hs Hs') (h : Same H H') : ∀ {d : D} {v : V}, RB cl Hs H d v → RB cl Hs' H' d v
  | _, _, .val r => .val (Rep.same e _ _ r)
  | _, _, .lst h1 h2 => .lst (h.at _ _ h1) (RepL.same e _ _ h2)
  | _, _, .dct h1 h2 => .dct (h.rd h1) (RepK.same e _ _ h2)
  | _, _, .obj h0 h1 h2 => .obj h0 (h.at _ _ h1) (RBF.same e h h2)
theorem RBF.same (e : Same Hs Hs') (h : Same H H') : ∀ {ds : List (Str × D)} {vs : List (Str × V)}, RBF cl Hs H ds vs → RBF cl Hs' H' ds vs
  | _, _, .nil => .nil
  | _, _, .cons a b => .cons (RB.same e h a) (RBF.same e h b)
end
end
inductive Kd where
  | val
  | bor
  | own (n : Option Addr)
  | obj (n : Option Addr) (ks : List (Str × Kd))
  | adr (a : Addr)
  | lls (n : Option Addr) (k : Kd)

mutual
/-- d lies at v: cl the classes, N what is new, B what was borrowed at the entry, Hs what stays as it is, H all; As: what may be changed -/
inductive ORep (cl : Cl) (N : Addr → Prop) (B Hs H : Hp) : Kd → D → V → List Addr → Prop
  | val {d : D} {v : V} : Rep cl Hs d v → ORep cl N B Hs H .val d v []
  | borV {d : D} {v : V} : Rep cl Hs d v → ORep cl N B Hs H .bor d v []
  | borL {a : Addr} {ds : List D} {xs : List V} : B a = some (.lst xs) → RepL cl Hs ds xs → ORep cl N B Hs H .bor (.lst ds) (.ref a) []
  | borK {a : Addr} {ds : List (Key × D)} {xs : List (Key × V)} : Rd B a (.dK xs) → RepK cl Hs ds xs → ORep cl N B Hs H .bor (.dct ds) (.ref a) []
  | borO {a c dx : Addr} {C : Str} {ds : List (Str × D)} {xs : List (Str × V)} : cl.o C = some c → B a = some (.ins c dx xs) → RBF cl Hs B ds xs → ORep cl N B Hs H .bor (.obj C ds) (.ref a) []
  | ownL {n : Option Addr} {a : Addr} {ds : List D} {xs : List V} : (N a ∧ ∀ b, n = some b → b = a) → H a = some (.lst xs) → RepL cl Hs ds xs → ORep cl N B Hs H (.own n) (.lst ds) (.ref a) [a]
  | ownK {n : Option Addr} {a : Addr} {ds : List (Key × D)} {xs : List (Key × V)} : (N a ∧ ∀ b, n = some b → b = a) → H a = some (.dK xs) → RepK cl Hs ds xs → ORep cl N B Hs H (.own n) (.dct ds) (.ref a) [a]
  | ownV {d : D} {v : V} : d.plain = true → Rep cl Hs d v → ORep cl N B Hs H (.own none) d v []
  | obj {n : Option Addr} {ks : List (Str × Kd)} {a c dx : Addr} {C : Str} {ds : List (Str × D)} {xs : List (Str × V)} {As : List Addr} :
      (N a ∧ ∀ b, n = some b → b = a) → cl.o C = some c → H a = some (.ins c dx xs) → OFs cl N B Hs H ks ds xs As → ORep cl N B Hs H (.obj n ks) (.obj C ds) (.ref a) (a :: As)
  | adr {a : Addr} : ORep cl N B Hs H (.adr a) .non (.ref a) []
  | lls {n : Option Addr} {k : Kd} {a : Addr} {ds : List D} {xs : List V} {As : List Addr} : (N a ∧ ∀ b, n = some b → b = a) → H a = some (.lst xs) → OLs cl N B Hs H k ds xs As → ORep cl N B Hs H (.lls n k) (.lst ds) (.ref a) (a :: As)
  | llT {n : Option Addr} {k : Kd} {a : Addr} {ds : List D} {xs : List V} {As : List Addr} : (N a ∧ ∀ b, n = some b → b = a) → H a = some (.tup xs) → OLs cl N B Hs H k ds xs As → ORep cl N B Hs H (.lls n k) (.tup ds) (.ref a) (a :: As)
  | llV {k : Kd} {d : D} {v : V} : d.bare = true → Rep cl Hs d v → ORep cl N B Hs H (.lls none k) d v []
inductive OFs (cl : Cl) (N : Addr → Prop) (B Hs H : Hp) : List (Str × Kd) → List (Str × D) → List (Str × V) → List Addr → Prop
  | nil : OFs cl N B Hs H [] [] [] []
  | cons {f : Str} {k : Kd} {d : D} {v : V} {A As : List Addr} {ks : List (Str × Kd)} {ds : List (Str × D)} {xs : List (Str × V)} :
      ORep cl N B Hs H k d v A → OFs cl N B Hs H ks ds xs As → OFs cl N B Hs H ((f, k) :: ks) ((f, d) :: ds) ((f, v) :: xs) (A ++ As)
/-- a list's items, each of kind k -/
inductive OLs (cl : Cl) (N : Addr → Prop) (B Hs H : Hp) : Kd → List D → List V → List Addr → Prop
  | nil {k : Kd} : OLs cl N B Hs H k [] [] []
  | cons {k : Kd} {d : D} {v : V} {A As : List Addr} {ds : List D} {xs : List V} : ORep cl N B Hs H k d v A → OLs cl N B Hs H k ds xs As → OLs cl N B Hs H k (d :: ds) (v :: xs) (A ++ As)
end

section
variable {cl : Cl} {N N' : Addr → Prop} {B B' Hs Hs' H H' : Hp}
theorem OLs.imp {k : Kd} (T : List Addr → Prop) (t1 : ∀ A As, T (A ++ As) → T A) (t2 : ∀ A As, T (A ++ As) → T As) (f : ∀ d v A, T A → ORep cl N B Hs H k d v A → ORep cl N' B' Hs' H' k d v A) : ∀ {ds : List D} {xs : List V} {As : List Addr}, T As → OLs cl N B Hs H k ds xs As → OLs cl N' B' Hs' H' k ds xs As
  | [], _, _, _, h => by cases h; exact .nil
  | d :: ds, _, _, t, h => by
    cases h with
    | cons h1 h2 => exact .cons (f _ _ _ (t1 _ _ t) h1) (OLs.imp T t1 t2 f (t2 _ _ t) h2)
theorem OLs.all {k : Kd} {P : Addr → Prop} (f : ∀ d v A, ORep cl N B Hs H k d v A → ∀ a ∈ A, P a) : ∀ {ds : List D} {xs : List V} {As : List Addr}, OLs cl N B Hs H k ds xs As → ∀ a ∈ As, P a
  | [], _, _, h => by cases h; intro a z; cases z
  | d :: ds, _, _, h => by
    cases h with
    | cons h1 h2 =>
      intro a z
      rcases List.mem_append.mp z with z | z
      · exact f _ _ _ h1 a z
      · exact OLs.all f h2 a z
theorem OLs.length {k : Kd} : ∀ {ds : List D} {xs : List V} {As : List Addr}, OLs cl N B Hs H k ds xs As → xs.length = ds.length
  | [], _, _, h => by cases h; rfl
  | d :: ds, _, _, h => by
    cases h with
    | cons h1 h2 => rw [List.length_cons, List.length_cons, OLs.length h2]
mutual
theorem ORep.mono (e : Same Hs Hs') (b : Same B B') (nn : ∀ a, N a → N' a) : ∀ (k : Kd) (d : D) (v : V) (A : List Addr), (∀ a ∈ A, H' a = H a) → ORep cl N B Hs H k d v A → ORep cl N' B' Hs' H' k d v A
  | .val, d, v, _, _, h => by
    cases h with
    | val h1 => exact .val (Rep.same e _ _ h1)
  | .bor, d, v, _, _, h => by
    cases h with
    | borV h1 => exact .borV (Rep.same e _ _ h1)
    | borL h1 h2 => exact .borL (b.at _ _ h1) (RepL.same e _ _ h2)
    | borK h1 h2 => exact .borK (b.rd h1) (RepK.same e _ _ h2)
    | borO h0 h1 h2 => exact .borO h0 (b.at _ _ h1) (RBF.same e b h2)
  | .own n, d, v, _, k, h => by
    cases h with
    | ownL h0 h1 h2 => exact .ownL ⟨nn _ h0.1, h0.2⟩ ((k _ List.mem_cons_self).trans h1) (RepL.same e _ _ h2)
    | ownK h0 h1 h2 => exact .ownK ⟨nn _ h0.1, h0.2⟩ ((k _ List.mem_cons_self).trans h1) (RepK.same e _ _ h2)
    | ownV h0 h1 => exact .ownV h0 (Rep.same e _ _ h1)
  | .obj n ks, d, v, _, k, h => by
    cases h with
    | obj h0 h1 h2 h3 => exact .obj ⟨nn _ h0.1, h0.2⟩ h1 ((k _ List.mem_cons_self).trans h2) (OFs.mono e b nn ks _ _ _ (fun a ha => k a (List.mem_cons_of_mem _ ha)) h3)
  | .adr a, d, v, _, _, h => by
    cases h with
    | adr => exact .adr
  | .lls n kd, d, v, _, k, h => by
    cases h with
    | lls h0 h1 h2 => exact .lls ⟨nn _ h0.1, h0.2⟩ ((k _ List.mem_cons_self).trans h1) (OLs.imp (fun A => ∀ a ∈ A, H' a = H a) (fun _ _ t a ha => t a (List.mem_append_left _ ha)) (fun _ _ t a ha => t a (List.mem_append_right _ ha)) (fun d v A t o => ORep.mono e b nn kd d v A t o) (fun a ha => k a (List.mem_cons_of_mem _ ha)) h2)
    | llT h0 h1 h2 => exact .llT ⟨nn _ h0.1, h0.2⟩ ((k _ List.mem_cons_self).trans h1) (OLs.imp (fun A => ∀ a ∈ A, H' a = H a) (fun _ _ t a ha => t a (List.mem_append_left _ ha)) (fun _ _ t a ha => t a (List.mem_append_right _ ha)) (fun d v A t o => ORep.mono e b nn kd d v A t o) (fun a ha => k a (List.mem_cons_of_mem _ ha)) h2)
    | llV h0 h1 => exact .llV h0 (Rep.same e _ _ h1)
theorem OFs.mono (e : Same Hs Hs') (b : Same B B') (nn : ∀ a, N a → N' a) : ∀ (ks : List (Str × Kd)) (ds : List (Str × D)) (xs : List (Str × V)) (A : List Addr), (∀ a ∈ A, H' a = H a) → OFs cl N B Hs H ks ds xs A → OFs cl N' B' Hs' H' ks ds xs A
  | [], _, _, _, _, h => by cases h; exact .nil
  | (f, kd) :: ks, _, _, _, k, h => by
    cases h with
    | cons h1 h2 => exact .cons (ORep.mono e b nn kd _ _ _ (fun a ha => k a (List.mem_append_left _ ha)) h1) (OFs.mono e b nn ks _ _ _ (fun a ha => k a (List.mem_append_right _ ha)) h2)
end
end
end VL

namespace VL
open PySem PySem.Spec PyProof.Rows L2

/-- an exception: its class's name, its field -/
structure Exc where
  cls : Str
  at_ : Option D
inductive R (α : Type) where
  | stuck
  | exc (x : Exc)
  | ok (a : α)
@[reducible] def R.bind {α β : Type} (r : R α) (k : α → R β) : R β := match r with
  | .stuck => .stuck
  | .exc x => .exc x
  | .ok a => k a
instance : Monad R where
  pure := R.ok
  bind := R.bind
@[simp] theorem R.ok_bind {α β : Type} (a : α) (k : α → R β) : (R.ok a >>= k) = k a := rfl
@[simp] theorem R.stuck_bind {α β : Type} (k : α → R β) : ((R.stuck : R α) >>= k) = .stuck := rfl
@[simp] theorem R.exc_bind {α β : Type} (x : Exc) (k : α → R β) : ((R.exc x : R α) >>= k) = .exc x := rfl
@[simp] theorem R.pure_eq {α : Type} (a : α) : (pure a : R α) = .ok a := rfl
abbrev Sl := List (Option D)
/-- a statement's end -/
inductive O where
  | stuck
  | nx (r : Sl)
  | rt (d : D) (r : Sl)
  | exc (x : Exc) (r : Sl)

structure Grow (Hs H Hs' H' : Hp) : Prop where
  s : Same Hs Hs'
  h : Same H H'
  n : ∀ a, Hs' a ≠ none → Hs a ≠ none ∨ H a = none
  sub : Same Hs' H'
  t : ∀ P, LamX.TabS H P lamQ → LamX.TabS H' P lamQ
theorem Grow.refl {Hs H : Hp} (e : Same Hs H) : Grow Hs H Hs H := ⟨Same.refl _, Same.refl _, fun _ z => .inl z, e, fun _ z => z⟩
theorem tab_upd {H : Hp} {p : Addr} {o : HO} (hp : H p = none) (P : Addr) (z : LamX.TabS H P lamQ) : LamX.TabS (upd H p o) P lamQ := z.ext fun b u q => by
  rw [upd_ne (ne_of_none q hp)]
  exact q
theorem Grow.trans {Hs H H1s H1 H2s H2 : Hp} (a : Grow Hs H H1s H1) (b : Grow H1s H1 H2s H2) : Grow Hs H H2s H2 where
  s := a.s.trans b.s
  h := a.h.trans b.h
  n := fun c z => by
    rcases b.n c z with q | q
    · exact a.n c q
    · exact .inr (a.h.free q)
  sub := b.sub
  t := fun P z => b.t P (a.t P z)
theorem Same.updNew {H : Hp} {p : Addr} {o : HO} (hp : H p = none) : Same H (upd H p o) := ⟨fun b u q _ => by
  rw [upd_ne (ne_of_none q hp)]
  exact q⟩
theorem Same.updBoth {Hs H : Hp} (e : Same Hs H) {p : Addr} {o : HO} : Same (upd Hs p o) (upd H p o) := ⟨fun b u q nt => by
  by_cases h : b = p
  · rw [h, upd_same] at q
    rw [h, upd_same]
    exact q
  · rw [upd_ne h] at q nt
    rw [upd_ne h]
    exact e.k _ _ q nt⟩
theorem tab_mut {H : Hp} {D : Addr} {o o' : HO} (hD : H D = some o) (P : Addr) (z : LamX.TabS H P lamQ) (n1 : NT o := by intro _ z; cases z) (n2 : ∀ c q, o ≠ LamX.CodeO c q := by intro _ _ z; unfold LamX.CodeO at z; cases z) : LamX.TabS (upd H D o') P lamQ := by
  obtain ⟨ps, h1, h2, h3⟩ := z
  have e : ∀ b u, H b = some u → u ≠ o → upd H D o' b = some u := fun b u q n => by
    rw [upd_ne fun w => n (by rw [w, hD] at q; exact (Option.some.inj q).symm)]
    exact q
  refine ⟨ps, e _ _ h1 fun w => n1 ps w.symm, h2, fun pos cv hc => ?_⟩
  obtain ⟨c, e1, e2⟩ := h3 pos cv hc
  exact ⟨c, e1, e _ _ e2 fun w => n2 c lamQ w.symm⟩
/-- a new stable object -/
theorem Grow.new {Hs H : Hp} (e : Same Hs H) {p : Addr} {o : HO} (hp : H p = none) : Grow Hs H (upd Hs p o) (upd H p o) where
  s := Same.updNew (e.free hp)
  h := Same.updNew hp
  n := fun a z => by
    by_cases h : a = p
    · exact .inr (h ▸ hp)
    · rw [upd_ne h] at z
      exact .inl z
  sub := Same.updBoth e
  t := tab_upd hp
/-- a new object that may yet be changed -/
theorem Grow.fresh {Hs H : Hp} (e : Same Hs H) {p : Addr} {o : HO} (hp : H p = none) : Grow Hs H Hs (upd H p o) where
  s := Same.refl _
  h := Same.updNew hp
  n := fun a z => .inl z
  sub := e.trans (Same.updNew hp)
  t := tab_upd hp
theorem Grow.same {Hs H H' : Hp} (e : Same Hs H) (k : Same H H') (tt : ∀ P, LamX.TabS H P lamQ → LamX.TabS H' P lamQ) : Grow Hs H Hs H' where
  s := Same.refl _
  h := k
  n := fun _ z => .inl z
  sub := e.trans k
  t := tt

/-- the entry of a def: the classes, the heap, what stays as it is, what may be read -/
structure En where
  cl : Cl
  h : Hp
  s : Hp
  b : Hp
def En.N (E : En) (a : Addr) : Prop := E.h a = none
inductive Slots (E : En) (Hs H : Hp) : List Kd → Sl → L2.St → List Addr → Prop
  | nil : Slots E Hs H [] [] [] []
  | skip {k : Kd} {x : Option V} {ks : List Kd} {r : Sl} {t : L2.St} {As : List Addr} : Slots E Hs H ks r t As → Slots E Hs H (k :: ks) (none :: r) (x :: t) As
  | cons {k : Kd} {d : D} {v : V} {A : List Addr} {ks : List Kd} {r : Sl} {t : L2.St} {As : List Addr} : ORep E.cl E.N E.b Hs H k d v A → Slots E Hs H ks r t As → Slots E Hs H (k :: ks) (some d :: r) (some v :: t) (A ++ As)
structure StOk (E : En) (Hs H : Hp) (ks : List Kd) (r : Sl) (t : L2.St) (As : List Addr) : Prop where
  sl : Slots E Hs H ks r t As
  nd : As.Nodup
  dis : ∀ a ∈ As, Hs a = none ∧ E.b a = none
  es : Same E.s Hs
  sub : Same Hs H
  eb : Same E.b H
  new : ∀ a, Hs a ≠ none → E.s a ≠ none ∨ E.h a = none
  dom : ∀ a, H a = none → E.h a = none
  tb : ∀ P, LamX.TabS E.h P lamQ → LamX.TabS H P lamQ
def StRel (E : En) (Hs H : Hp) (ks : List Kd) (r : Sl) (t : L2.St) : Prop := ∃ As, StOk E Hs H ks r t As

section
variable {E : En} {Hs H Hs' H' : Hp} {ks : List Kd} {r : Sl} {t : L2.St} {As : List Addr}
theorem Slots.mono (e : Same Hs Hs') : ∀ {ks : List Kd} {r : Sl} {t : L2.St} {As : List Addr}, (∀ a ∈ As, H' a = H a) → Slots E Hs H ks r t As → Slots E Hs' H' ks r t As
  | _, _, _, _, _, .nil => .nil
  | _, _, _, _, k, .skip h => .skip (Slots.mono e k h)
  | _, _, _, _, k, .cons h1 h2 => .cons (ORep.mono e (Same.refl _) (fun _ z => z) _ _ _ _ (fun a ha => k a (List.mem_append_left _ ha)) h1) (Slots.mono e (fun a ha => k a (List.mem_append_right _ ha)) h2)
mutual
theorem ORep.here {cl : Cl} {N : Addr → Prop} {B Hs H : Hp} : ∀ (k : Kd) (d : D) (v : V) (A : List Addr), ORep cl N B Hs H k d v A → ∀ a ∈ A, ∃ o, H a = some o ∧ NT o
  | .val, _, _, _, h => by cases h; intro a z; cases z
  | .bor, _, _, _, h => by cases h <;> (intro a z; cases z)
  | .own n, _, _, _, h => by
    cases h with
    | ownL _ h1 _ => intro a z; simp at z; subst z; exact ⟨_, h1, by intro _ z; cases z⟩
    | ownK _ h1 _ => intro a z; simp at z; subst z; exact ⟨_, h1, by intro _ z; cases z⟩
    | ownV _ _ => intro a z; cases z
  | .obj n ks, _, _, _, h => by
    cases h with
    | obj _ _ h2 h3 =>
      intro a z
      rcases List.mem_cons.mp z with e | z
      · rw [e]; exact ⟨_, h2, by intro _ z; cases z⟩
      · exact OFs.here ks _ _ _ h3 a z
  | .adr _, _, _, _, h => by cases h; intro a z; cases z
  | .lls n k, _, _, _, h => by
    cases h with
    | lls _ h1 h2 =>
      intro a z
      rcases List.mem_cons.mp z with e | z
      · rw [e]; exact ⟨_, h1, by intro _ z; cases z⟩
      · exact OLs.all (fun d v A o => ORep.here k d v A o) h2 a z
    | llT _ h1 h2 =>
      intro a z
      rcases List.mem_cons.mp z with e | z
      · rw [e]; exact ⟨_, h1, by intro _ z; cases z⟩
      · exact OLs.all (fun d v A o => ORep.here k d v A o) h2 a z
    | llV _ _ => intro a z; cases z
theorem OFs.here {cl : Cl} {N : Addr → Prop} {B Hs H : Hp} : ∀ (ks : List (Str × Kd)) (ds : List (Str × D)) (xs : List (Str × V)) (A : List Addr), OFs cl N B Hs H ks ds xs A → ∀ a ∈ A, ∃ o, H a = some o ∧ NT o
  | [], _, _, _, h => by cases h; intro a z; cases z
  | (f, k) :: ks, _, _, _, h => by
    cases h with
    | cons h1 h2 =>
      intro a z
      rcases List.mem_append.mp z with z | z
      · exact ORep.here k _ _ _ h1 a z
      · exact OFs.here ks _ _ _ h2 a z
end
theorem Slots.here : ∀ {ks : List Kd} {r : Sl} {t : L2.St} {As : List Addr}, Slots E Hs H ks r t As → ∀ a ∈ As, ∃ o, H a = some o ∧ NT o
  | _, _, _, _, .nil, a, z => by cases z
  | _, _, _, _, .skip h, a, z => Slots.here h a z
  | _, _, _, _, .cons h1 h2, a, z => by
    rcases List.mem_append.mp z with z | z
    · exact ORep.here _ _ _ _ h1 a z
    · exact Slots.here h2 a z
theorem Slots.len : ∀ {ks : List Kd} {r : Sl} {t : L2.St} {As : List Addr}, Slots E Hs H ks r t As → r.length = ks.length ∧ t.length = ks.length
  | _, _, _, _, .nil => ⟨rfl, rfl⟩
  | _, _, _, _, .skip h => by simp [Slots.len h]
  | _, _, _, _, .cons _ h => by simp [Slots.len h]
theorem StOk.grow (S : StOk E Hs H ks r t As) (g : Grow Hs H Hs' H') : StOk E Hs' H' ks r t As := by
  have hh := S.sl.here
  refine ⟨S.sl.mono g.s fun a ha => ?_, S.nd, fun a ha => ⟨?_, (S.dis a ha).2⟩, S.es.trans g.s, g.sub, S.eb.trans g.h, fun a z => ?_, fun a z => S.dom a (g.h.free z), fun P z => g.t P (S.tb P z)⟩
  · obtain ⟨o, e, nt⟩ := hh a ha
    rw [e]
    exact g.h.at _ _ e nt
  · cases q : Hs' a with
    | none => rfl
    | some u =>
      rcases g.n a (by rw [q]; simp) with z | z
      · exact absurd (S.dis a ha).1 z
      · obtain ⟨o, e, _⟩ := hh a ha
        rw [e] at z
        cases z
  · rcases g.n a z with q | q
    · exact S.new a q
    · exact .inr (S.dom a q)
theorem StRel.grow (S : StRel E Hs H ks r t) (g : Grow Hs H Hs' H') : StRel E Hs' H' ks r t := let ⟨As, q⟩ := S; ⟨As, q.grow g⟩
theorem StRel.sub (S : StRel E Hs H ks r t) : Same Hs H := let ⟨_, q⟩ := S; q.sub
/-- the place i of the state -/
theorem Slots.at_ : ∀ {ks : List Kd} {r : Sl} {t : L2.St} {As : List Addr} (i : Nat) {k : Kd}, Slots E Hs H ks r t As → ks[i]? = some k →
    ∃ (pre A post : List Addr), As = pre ++ (A ++ post) ∧ (∀ d, r[i]? = some (some d) → ∃ v, t[i]? = some (some v) ∧ ORep E.cl E.N E.b Hs H k d v A) ∧
      (∀ k' d v A', ORep E.cl E.N E.b Hs H k' d v A' → Slots E Hs H (ks.set i k') (r.set i (some d)) (t.set i (some v)) (pre ++ (A' ++ post))) ∧
      (∀ k' x, Slots E Hs H (ks.set i k') (r.set i none) (t.set i x) (pre ++ post)) ∧
      (∀ Hs' H', Same Hs Hs' → (∀ a ∈ pre ++ post, H' a = H a) → ∀ k' d v A', ORep E.cl E.N E.b Hs' H' k' d v A' → Slots E Hs' H' (ks.set i k') (r.set i (some d)) (t.set i (some v)) (pre ++ (A' ++ post)))
  | _, _, _, _, i, k, .nil, e => by simp at e
  | _, _, _, _, 0, k, .skip (k := k0) (r := r) (t := t) (As := As) h, e => by
    refine ⟨[], [], As, rfl, fun d z => ?_, fun k' d v A' o => .cons (A := A') (As := As) o h, fun k' x => .skip h, fun Hs' H' s q k' d v A' o => .cons (A := A') (As := As) o (h.mono s q)⟩
    have z' : (some none : Option (Option D)) = some (some d) := z
    cases z'
  | _, _, _, _, 0, k, .cons (k := k0) (d := d0) (v := v0) (A := A0) (As := As) o h, e => by
    have e' : k0 = k := by simpa using e
    subst e'
    refine ⟨[], A0, As, rfl, fun d z => ?_, fun k' d v A' o' => .cons (A := A') (As := As) o' h, fun k' x => .skip h, fun Hs' H' s q k' d v A' o => .cons (A := A') (As := As) o (h.mono s q)⟩
    have z' : (some (some d0) : Option (Option D)) = some (some d) := z
    cases z'
    exact ⟨v0, rfl, o⟩
  | _, _, _, _, i + 1, k, .skip h, e => by
    obtain ⟨pre, A, post, e1, e2, e3, e4, e5⟩ := Slots.at_ i h (by simpa using e)
    exact ⟨pre, A, post, e1, fun d z => e2 d (by simpa using z), fun k' d v A' o => .skip (e3 k' d v A' o), fun k' x => .skip (e4 k' x), fun Hs' H' s q k' d v A' o => .skip (e5 Hs' H' s q k' d v A' o)⟩
  | _, _, _, _, i + 1, k, .cons (A := A0) o h, e => by
    obtain ⟨pre, A, post, e1, e2, e3, e4, e5⟩ := Slots.at_ i h (by simpa using e)
    refine ⟨A0 ++ pre, A, post, by rw [e1, List.append_assoc], fun d z => e2 d (by simpa using z), fun k' d v A' o' => ?_, fun k' x => ?_, fun Hs' H' s q k' d v A' o' => ?_⟩
    · rw [List.append_assoc]
      exact .cons o (e3 k' d v A' o')
    · rw [List.append_assoc]
      exact .cons o (e4 k' x)
    · rw [List.append_assoc]
      exact .cons (ORep.mono s (Same.refl _) (fun _ z => z) _ _ _ _ (fun a ha => q a (List.mem_append_left _ (List.mem_append_left _ ha))) o)
        (e5 Hs' H' s (fun a ha => q a (by
          rcases List.mem_append.mp ha with z | z
          · exact List.mem_append_left _ (List.mem_append_right _ z)
          · exact List.mem_append_right _ z)) k' d v A' o')
end
end VL

namespace VL
open PySem PySem.Spec PyProof.Rows L2

class Md where
  n : Bool
@[reducible] def mZ : Md := ⟨false⟩
namespace ModeZ
scoped instance mZi : Md := mZ
end ModeZ
@[reducible] def mN : Md := ⟨true⟩
variable {md : Md}
def Takes [md : Md] (X : Cx) (W : WX) : Prop := match md.n with
  | true => L2N.Takes X W
  | false => L2.Takes X W
def CXM [md : Md] (P : Program) (w : World) : CXT := match md.n with
  | true => L2N.CX P w
  | false => L2.CX P w
theorem passAt {X : Cx} {W : WX} (tk : Takes X W) (σ : L2.St) : PassesAt (CXM X.prog X.w) X σ (WE W σ) := by
  cases md with
  | mk n => cases n with
    | false => exact L2.passAt tk σ
    | true => exact L2N.passAt tk σ
theorem takes_of {X : Cx} {E : XK} (hs : X.stack = X.env :: X.outer) (hf : X.env.frame = some X.env.locals) (hex : X.ex = []) {E₁ : Value → Shared → Prop}
    (hx : X.xe = fun e s' => wpAny (model X.prog X.w) X.A (leaving X.env e) (fun _ s'' => CXM X.prog X.w X.outer X.H_0 X.s_0 E e s'') E₁ s') : Takes X (fun cls d _ H => E cls d H) := by
  cases md with
  | mk n => cases n with
    | false => exact L2.takes_of hs hf hex hx
    | true => exact L2N.takes_of hs hf hex hx
theorem takesF {X : Cx} : Takes X (fun _ _ _ _ => False) := by
  obtain ⟨n⟩ := md
  cases n
  · intro _ _ x
    obtain ⟨_, _, _, _, _, _, _, _, _, _, _, _, _, _, _, _, z⟩ := x
    exact z.elim
  · intro _ _ x
    obtain ⟨_, _, _, _, _, _, _, _, _, _, _, _, _, _, _, _, z⟩ := x
    exact z.elim
def WEx (X : Cx) (e : Expr) : TE := fun σ H Q => ∀ (pins : List (Addr × Obj)) (s : Shared), Inv X pins σ H s → wpAny (model X.prog X.w) X.A (eval e X.env) (EP X pins σ Q) X.xe s
theorem pe_we {X : Cx} {e : Expr} : PE X e (WEx X e) := ⟨fun pins s _ _ _ I h => h pins s I⟩
theorem we_of {X : Cx} {e : Expr} {t : TE} {σ : L2.St} {H : Hp} {Q : VK} (p : PE X e t) (h : t σ H Q) : WEx X e σ H Q := fun pins s I => p.run pins s σ H Q I h
def WTx (X : Cx) (e : Expr) : TT := fun σ H Q => ∀ (pins : List (Addr × Obj)) (s : Shared), Inv X pins σ H s → wpAny (model X.prog X.w) X.A (isTrue e X.env (eval e X.env)) (TP X pins σ Q) X.xe s
theorem pt_wt {X : Cx} {e : Expr} : PT X e (WTx X e) := ⟨fun pins s _ _ _ I h => h pins s I⟩
theorem wt_of {X : Cx} {e : Expr} {t : TT} {σ : L2.St} {H : Hp} {Q : Bool → Hp → Prop} (p : PT X e t) (h : t σ H Q) : WTx X e σ H Q := fun pins s I => p.run pins s σ H Q I h
def WAx (X : Cx) (es : List Expr) : TA := fun σ H Q => ∀ (pos : Pos) (pins : List (Addr × Obj)) (s : Shared), Inv X pins σ H s → wpAny (model X.prog X.w) X.A (spliced (backTo pos (starEach es X.env))) (AP X pins σ Q) X.xe s
theorem pa_wa {X : Cx} {es : List Expr} : PA X es (WAx X es) := ⟨fun pos pins s _ _ _ I h => h pos pins s I⟩
theorem wa_of {X : Cx} {es : List Expr} {t : TA} {σ : L2.St} {H : Hp} {Q : List V → Hp → Prop} (p : PA X es t) (h : t σ H Q) : WAx X es σ H Q := fun pos pins s I => p.run pos pins s σ H Q I h
def WSx (X : Cx) (st : Stmt) : TS := fun Dn σ H => ∀ (pins : List (Addr × Obj)) (s : Shared), Inv X pins σ H s → wpAny (model X.prog X.w) X.A (exec st X.env) (SP X pins Dn) X.xe s
theorem ps_ws {X : Cx} {st : Stmt} : PS X st (WSx X st) := ⟨fun pins s _ _ _ I h => h pins s I⟩
theorem ws_of {X : Cx} {st : Stmt} {t : TS} {σ : L2.St} {H : Hp} {Dn : Ends} (p : PS X st t) (h : t Dn σ H) : WSx X st Dn σ H := fun pins s I => p.run pins s σ H Dn I h
def WSs (X : Cx) (st : List Stmt) : TS := fun Dn σ H => ∀ (pins : List (Addr × Obj)) (s : Shared), Inv X pins σ H s → wpAny (model X.prog X.w) X.A (execs st X.env) (SP X pins Dn) X.xe s
theorem pss_ws {X : Cx} {st : List Stmt} : PSs X st (WSs X st) := ⟨fun pins s _ _ _ I h => h pins s I⟩
theorem wss_of {X : Cx} {st : List Stmt} {t : TS} {σ : L2.St} {H : Hp} {Dn : Ends} (p : PSs X st t) (h : t Dn σ H) : WSs X st Dn σ H := fun pins s I => p.run pins s σ H Dn I h

/-- d lies at v behind a step from the heap H0 -/
def RK (cl : Cl) (k : Kd) (H0 Hs H : Hp) (d : D) (v : V) : Prop :=
  ∃ A, ORep cl (fun a => H0 a = none) H Hs H k d v A ∧ A.Nodup ∧ ∀ a ∈ A, Hs a = none ∧ H0 a = none
def XRep (cl : Cl) (Hs H : Hp) (x : Exc) (c : Value) (dd : Option Addr) : Prop :=
  ∃ a, cl.f x.cls = some a ∧ c = .ref a ∧ match x.at_ with
    | none => dd = none
    | some d => ∃ p v, dd = some p ∧ Hs p = some (.xd [("at", v)]) ∧ Rep cl Hs d v
abbrev WX0 := Value → Option Addr → Hp → Prop
def Post (cl : Cl) (k : Kd) (Hs H : Hp) (Q : VK) (W : WX0) : R D → Prop
  | .stuck => False
  | .exc x => ∀ c dd Hs' H', Grow Hs H Hs' H' → XRep cl Hs' H' x c dd → W c dd H'
  | .ok d => ∀ v Hs' H', Grow Hs H Hs' H' → RK cl k H Hs' H' d v → Q v H'
section
variable {cl : Cl} {k k1 k2 : Kd} {Hs H Hs' H' : Hp} {Q Q1 : VK} {W : WX0}
theorem Post.grow {r : R D} (P : Post cl k Hs H Q W r) (g : Grow Hs H Hs' H') : Post cl k Hs' H' Q W r := by
  cases r with
  | stuck => exact P
  | exc x => exact fun c dd Hs2 H2 g2 x2 => P c dd Hs2 H2 (g.trans g2) x2
  | ok d =>
    intro v Hs2 H2 g2 ⟨A, o, nd, z⟩
    exact P v Hs2 H2 (g.trans g2) ⟨A, ORep.mono (Same.refl _) (Same.refl _) (fun a q => g.h.free q) _ _ _ _ (fun _ _ => rfl) o, nd, fun a ha => ⟨(z a ha).1, g.h.free (z a ha).2⟩⟩
theorem Post.imp {r : R D} {F : D → R D} (P : Post cl k2 Hs H Q W (r >>= F))
    (h : ∀ d v Hs' H', r = .ok d → Grow Hs H Hs' H' → RK cl k1 H Hs' H' d v → Post cl k2 Hs' H' Q W (F d) → Q1 v H') : Post cl k1 Hs H Q1 W r := by
  cases r with
  | stuck => exact P
  | exc x => exact P
  | ok d => exact fun v Hs' H' g rk => h d v Hs' H' rfl g rk (Post.grow (r := F d) P g)
/-- what was owned may be frozen -/
def Kd.fine : Kd → Bool
  | .bor => false
  | .adr _ => false
  | .obj _ ks => fines ks
  | .lls _ k => Kd.fine k
  | _ => true
where
  fines : List (Str × Kd) → Bool
    | [] => true
    | (_, k) :: r => Kd.fine k && fines r
theorem OLs.reps {N : Addr → Prop} {B Hs H T : Hp} {k : Kd} (Q : List Addr → Prop) (t1 : ∀ A As, Q (A ++ As) → Q A) (t2 : ∀ A As, Q (A ++ As) → Q As) (f : ∀ d v A, Q A → ORep cl N B Hs H k d v A → Rep cl T d v) : ∀ {ds : List D} {xs : List V} {As : List Addr}, Q As → OLs cl N B Hs H k ds xs As → RepL cl T ds xs
  | [], _, _, _, h => by cases h; exact .nil
  | d :: ds, _, _, t, h => by
    cases h with
    | cons h1 h2 => exact .cons (f _ _ _ (t1 _ _ t) h1) (OLs.reps Q t1 t2 f (t2 _ _ t) h2)
mutual
theorem ORep.freeze {N : Addr → Prop} {B T : Hp} (e : Same Hs T) : ∀ (k : Kd) (d : D) (v : V) (A : List Addr), k.fine = true → (∀ a ∈ A, T a = H a) → ORep cl N B Hs H k d v A → Rep cl T d v
  | .val, _, _, _, _, _, h => by
    cases h with
    | val h1 => exact Rep.same e _ _ h1
  | .bor, _, _, _, z, _, _ => by cases z
  | .own n, _, _, _, _, t, h => by
    cases h with
    | ownL _ h1 h2 => exact .lst ((t _ List.mem_cons_self).trans h1) (RepL.same e _ _ h2)
    | ownK _ h1 h2 => exact .dct (.inl ((t _ List.mem_cons_self).trans h1)) (RepK.same e _ _ h2)
    | ownV _ h1 => exact Rep.same e _ _ h1
  | .obj n ks, _, _, _, z, t, h => by
    cases h with
    | obj _ h1 h2 h3 => exact .obj h1 ((t _ List.mem_cons_self).trans h2) (OFs.freeze e ks _ _ _ (by simpa [Kd.fine] using z) (fun a ha => t a (List.mem_cons_of_mem _ ha)) h3)
  | .adr _, _, _, _, z, _, _ => by cases z
  | .lls n k, _, _, _, z, t, h => by
    cases h with
    | lls _ h1 h2 => exact .lst ((t _ List.mem_cons_self).trans h1) (OLs.reps (fun A => ∀ a ∈ A, T a = H a) (fun _ _ t a ha => t a (List.mem_append_left _ ha)) (fun _ _ t a ha => t a (List.mem_append_right _ ha)) (fun d v A t o => ORep.freeze e k d v A z t o) (fun a ha => t a (List.mem_cons_of_mem _ ha)) h2)
    | llT _ h1 h2 => exact .tup ((t _ List.mem_cons_self).trans h1) (OLs.reps (fun A => ∀ a ∈ A, T a = H a) (fun _ _ t a ha => t a (List.mem_append_left _ ha)) (fun _ _ t a ha => t a (List.mem_append_right _ ha)) (fun d v A t o => ORep.freeze e k d v A z t o) (fun a ha => t a (List.mem_cons_of_mem _ ha)) h2)
    | llV _ h1 => exact Rep.same e _ _ h1
theorem OFs.freeze {N : Addr → Prop} {B T : Hp} (e : Same Hs T) : ∀ (ks : List (Str × Kd)) (ds : List (Str × D)) (xs : List (Str × V)) (A : List Addr), Kd.fine.fines ks = true → (∀ a ∈ A, T a = H a) → OFs cl N B Hs H ks ds xs A → RepF cl T ds xs
  | [], _, _, _, _, _, h => by cases h; exact .nil
  | (f, k) :: ks, _, _, _, z, t, h => by
    have z' : k.fine = true ∧ Kd.fine.fines ks = true := by simpa [Kd.fine.fines] using z
    cases h with
    | cons h1 h2 => exact .cons (ORep.freeze e k _ _ _ z'.1 (fun a ha => t a (List.mem_append_left _ ha)) h1) (OFs.freeze e ks _ _ _ z'.2 (fun a ha => t a (List.mem_append_right _ ha)) h2)
end
/-- the stable heap with A -/
def plus (Hs H : Hp) (A : List Addr) : Hp := fun a => if a ∈ A then H a else Hs a
theorem plus_same {A : List Addr} (z : ∀ a ∈ A, Hs a = none) : Same Hs (plus Hs H A) := ⟨fun b o q _ => by
  unfold plus
  rw [if_neg fun h => by rw [z b h] at q; cases q]
  exact q⟩
theorem plus_sub {A : List Addr} (e : Same Hs H) : Same (plus Hs H A) H := ⟨fun b o q nt => by
  unfold plus at q
  split at q
  · exact q
  · exact e.k _ _ q nt⟩
theorem RK.freeze {H0 : Hp} {d : D} {v : V} (g : Grow Hs H Hs' H') (f : k.fine = true) (h : RK cl k H Hs' H' d v) : ∃ Hs2, Grow Hs H Hs2 H' ∧ RK cl .val H Hs2 H' d v := by
  obtain ⟨A, o, nd, z⟩ := h
  have e := plus_same (H := H') fun a ha => (z a ha).1
  refine ⟨plus Hs' H' A, ⟨g.s.trans e, g.h, fun a q => ?_, plus_sub g.sub, g.t⟩, [], .val (ORep.freeze e k _ _ A f (fun a ha => by unfold plus; rw [if_pos ha]) o), List.nodup_nil, fun a ha => nomatch ha⟩
  unfold plus at q
  split at q
  · rename_i ha
    exact .inr (z a ha).2
  · exact g.n a q
theorem RK.val {H0 : Hp} {d : D} {v : V} (h : Rep cl Hs d v) : RK cl .val H0 Hs H d v := ⟨[], .val h, List.nodup_nil, fun a ha => nomatch ha⟩
theorem RK.bor {H0 : Hp} {d : D} {v : V} (h : Rep cl Hs d v) : RK cl .bor H0 Hs H d v := ⟨[], .borV h, List.nodup_nil, fun a ha => nomatch ha⟩
theorem RK.rep {H0 : Hp} {d : D} {v : V} (h : RK cl .val H0 Hs H d v) : Rep cl Hs d v := by
  obtain ⟨A, o, _⟩ := h
  cases o with
  | val r => exact r
theorem RK.rb {H0 : Hp} {d : D} {v : V} (h : RK cl .bor H0 Hs H d v) : RB cl Hs H d v := by
  obtain ⟨A, o, _⟩ := h
  cases o with
  | borV r => exact .val r
  | borL h1 h2 => exact .lst h1 h2
  | borK h1 h2 => exact .dct h1 h2
  | borO h0 h1 h2 => exact .obj h0 h1 h2
theorem RB.grow {d : D} {v : V} (h : RB cl Hs H d v) (g : Grow Hs H Hs' H') : RB cl Hs' H' d v := by
  cases h with
  | val r => exact .val (Rep.same g.s _ _ r)
  | lst h1 h2 => exact .lst (g.h.at _ _ h1) (RepL.same g.s _ _ h2)
  | dct h1 h2 => exact .dct (g.h.rd h1) (RepK.same g.s _ _ h2)
  | obj h0 h1 h2 => exact .obj h0 (g.h.at _ _ h1) (RBF.same g.s g.h h2)
theorem RB.rk {H0 : Hp} {d : D} {v : V} (h : RB cl Hs H d v) : RK cl .bor H0 Hs H d v := by
  refine ⟨[], ?_, List.nodup_nil, fun a ha => nomatch ha⟩
  cases h with
  | val r => exact .borV r
  | lst h1 h2 => exact .borL h1 h2
  | dct h1 h2 => exact .borK h1 h2
  | obj h0 h1 h2 => exact .borO h0 h1 h2
/-- a borrowed list -/
theorem RB.lstInv {ds : List D} {v : V} (h : RB cl Hs H (.lst ds) v) (e : Same Hs H) : ∃ a xs, v = .ref a ∧ H a = some (.lst xs) ∧ RepL cl Hs ds xs := by
  cases h with
  | val r =>
    cases r with
    | lst h1 h2 => exact ⟨_, _, rfl, e.at _ _ h1, h2⟩
  | lst h1 h2 => exact ⟨_, _, rfl, h1, h2⟩
theorem RB.tupInv {ds : List D} {v : V} (h : RB cl Hs H (.tup ds) v) (e : Same Hs H) : ∃ a xs, v = .ref a ∧ H a = some (.tup xs) ∧ RepL cl Hs ds xs := by
  cases h with
  | val r =>
    cases r with
    | tup h1 h2 => exact ⟨_, _, rfl, e.at _ _ h1, h2⟩
theorem RB.dctInv {ds : List (Key × D)} {v : V} (h : RB cl Hs H (.dct ds) v) (e : Same Hs H) : ∃ a xs, v = .ref a ∧ Rd H a (.dK xs) ∧ RepK cl Hs ds xs := by
  cases h with
  | val r =>
    cases r with
    | dct h1 h2 => exact ⟨_, _, rfl, e.rd h1, h2⟩
  | dct h1 h2 => exact ⟨_, _, rfl, h1, h2⟩
theorem RB.intInv {i : Int} {v : V} (h : RB cl Hs H (.int i) v) : v = .int i := by
  cases h with
  | val r => cases r; rfl
theorem RB.blInv {i : Bool} {v : V} (h : RB cl Hs H (.bl i) v) : v = .bl i := by
  cases h with
  | val r => cases r; rfl
theorem RB.strInv {i : Str} {v : V} (h : RB cl Hs H (.str i) v) : v = .str i := by
  cases h with
  | val r => cases r; rfl
theorem RB.nonInv {v : V} (h : RB cl Hs H .non v) : v = .non := by
  cases h with
  | val r => cases r; rfl
/-- a new list, not yet stable -/
theorem RK.ownNew {ds : List D} {xs : List V} {p : Addr} (e : Same Hs H) (hp : H p = none) (r : RepL cl Hs ds xs) : RK cl (.own none) H Hs (upd H p (.lst xs)) (.lst ds) (.ref p) :=
  ⟨[p], .ownL ⟨hp, fun _ z => nomatch z⟩ upd_same r, by simp, fun a ha => by
    have q : a = p := by simpa using ha
    subst q
    exact ⟨e.free hp, hp⟩⟩
theorem RK.ownPlain {H0 : Hp} {d : D} {v : V} (p : d.plain = true) (r : Rep cl Hs d v) : RK cl (.own none) H0 Hs H d v := ⟨[], .ownV p r, List.nodup_nil, fun a ha => nomatch ha⟩
/-- the end of a value that is plain -/
theorem Post.fin {d : D} {v : V} (P : Post cl (.own none) Hs H Q W (.ok d)) (e : Same Hs H) (p : d.plain = true) (r : Rep cl Hs d v) : Q v H := P v Hs H (Grow.refl e) (RK.ownPlain p r)
theorem Post.finV {d : D} {v : V} (P : Post cl .val Hs H Q W (.ok d)) (e : Same Hs H) (r : Rep cl Hs d v) : Q v H := P v Hs H (Grow.refl e) (RK.val r)
theorem Post.finL {ds : List D} {xs : List V} {p : Addr} (P : Post cl (.own none) Hs H Q W (.ok (.lst ds))) (e : Same Hs H) (hp : H p = none) (r : RepL cl Hs ds xs) : Q (.ref p) (upd H p (.lst xs)) :=
  P _ Hs _ (Grow.fresh e hp) (RK.ownNew e hp r)
end

structure SE [md : Md] (X : Cx) (E : En) (ks : List Kd) (k : Kd) (e : Expr) (g : Sl → R D) : Prop where
  run : ∀ (Hs H : Hp) (r : Sl) (σ : L2.St) (W : WX) (Q : VK), Takes X W → StRel E Hs H ks r σ → Post E.cl k Hs H Q (fun c dd H' => W c dd σ H') (g r) → WEx X e σ H Q
section
variable {X : Cx} {E : En} {ks : List Kd} {e : Expr} {g : Sl → R D}
theorem SE.toVal {k : Kd} (h : SE X E ks k e g) (f : k.fine = true := by rfl) : SE X E ks .val e g := by
  refine ⟨fun Hs H r σ W Q tk S P => ?_⟩
  refine h.run Hs H r σ W Q tk S ?_
  cases q : g r with
  | stuck => rw [q] at P; exact P
  | exc x => rw [q] at P; exact P
  | ok d =>
    rw [q] at P
    intro v Hs' H' gr rk
    obtain ⟨Hs2, g2, rk2⟩ := rk.freeze (H0 := H) gr f
    exact P v Hs2 H' g2 rk2
theorem SE.valBor (h : SE X E ks .val e g) : SE X E ks .bor e g := by
  refine ⟨fun Hs H r σ W Q tk S P => ?_⟩
  refine h.run Hs H r σ W Q tk S ?_
  cases q : g r with
  | stuck => rw [q] at P; exact P
  | exc x => rw [q] at P; exact P
  | ok d =>
    rw [q] at P
    intro v Hs' H' gr rk
    exact P v Hs' H' gr (RK.bor rk.rep)
theorem SE.toBor {k : Kd} (h : SE X E ks k e g) (f : k.fine = true := by rfl) : SE X E ks .bor e g := (h.toVal f).valBor
end
end VL

noncomputable section
namespace VL
open PySem PySem.Spec PyProof.Rows L2
variable {md : Md}

def NmOk (x : Str) : Prop := (x == ("__debug__" : Str)) = false ∧ (x == ("__classdict__" : Str)) = false
@[simp] def gVar (i : Nat) : Sl → R D := fun r => match r[i]? with
  | some (some d) => .ok d
  | _ => .stuck
@[simp] def gC (d : D) : Sl → R D := fun _ => .ok d
/-- a kind that may be borrowed -/
def Kd.lends : Kd → Bool
  | .obj _ ks => lendf ks
  | .adr _ => false
  | .lls _ _ => false
  | _ => true
where
  lendf : List (Str × Kd) → Bool
    | [] => true
    | (_, k) :: r => Kd.lends k && lendf r
section
variable {cl : Cl} {N : Addr → Prop} {B Hs H : Hp}
mutual
theorem ORep.rb (eb : Same B H) : ∀ (k : Kd) (d : D) (v : V) (A : List Addr), k.lends = true → ORep cl N B Hs H k d v A → RB cl Hs H d v
  | .val, _, _, _, _, h => by cases h with | val rp => exact .val rp
  | .bor, _, _, _, _, h => by
    cases h with
    | borV rp => exact .val rp
    | borL h1 h2 => exact .lst (eb.at _ _ h1) h2
    | borK h1 h2 => exact .dct (eb.rd h1) h2
    | borO h0 h1 h2 => exact .obj h0 (eb.at _ _ h1) (RBF.same (Same.refl _) eb h2)
  | .own n, _, _, _, _, h => by
    cases h with
    | ownL h0 h1 h2 => exact .lst h1 h2
    | ownK h0 h1 h2 => exact .dct (.inl h1) h2
    | ownV h0 h1 => exact .val h1
  | .obj n ks, _, _, _, l, h => by
    cases h with
    | obj h0 h1 h2 h3 => exact .obj h1 h2 (OFs.rb eb ks _ _ _ (by simpa [Kd.lends] using l) h3)
  | .adr a, _, _, _, l, _ => by cases l
  | .lls n k, _, _, _, l, _ => by cases l
theorem OFs.rb (eb : Same B H) : ∀ (ks : List (Str × Kd)) (ds : List (Str × D)) (xs : List (Str × V)) (A : List Addr), Kd.lends.lendf ks = true → OFs cl N B Hs H ks ds xs A → RBF cl Hs H ds xs
  | [], _, _, _, _, h => by cases h; exact .nil
  | (f, k) :: ks, _, _, _, l, h => by
    have l' : k.lends = true ∧ Kd.lends.lendf ks = true := by simpa [Kd.lends.lendf] using l
    cases h with
    | cons h1 h2 => exact .cons (ORep.rb eb k _ _ _ l'.1 h1) (OFs.rb eb ks _ _ _ l'.2 h2)
end
end
section
variable {X : Cx} {E : En} {ks : List Kd}
theorem StRel.get {Hs H : Hp} {r : Sl} {σ : L2.St} {i : Nat} {k : Kd} {d : D} (S : StRel E Hs H ks r σ) (hk : ks[i]? = some k) (hd : r[i]? = some (some d)) : ∃ v A, σ[i]? = some (some v) ∧ ORep E.cl E.N E.b Hs H k d v A := by
  obtain ⟨As, s⟩ := S
  obtain ⟨pre, A, post, _, h, _⟩ := s.sl.at_ i hk
  obtain ⟨v, e, o⟩ := h d hd
  exact ⟨v, A, e, o⟩
theorem gVar_ok {i : Nat} {r : Sl} {d : D} (h : gVar i r = .ok d) : r[i]? = some (some d) := by
  unfold gVar at h
  split at h
  · rename_i d' e
    cases h
    exact e
  · cases h
theorem gVar_exc {i : Nat} {r : Sl} {x : Exc} (h : gVar i r = .exc x) : False := by
  unfold gVar at h
  split at h <;> cases h
theorem se_var {i : Nat} {x : Str} {pos : Pos} (hk : ks[i]? = some .val := by rfl) (hN : X.N[i]? = some x := by rfl) (hv : Vis X.env.scope x := by first | exact Or.inl rfl | exact Or.inr (Or.inl rfl) | exact Or.inr (Or.inr rfl))
    (hq : NmOk x) : SE X E ks .val (.Name x pos) (gVar i) := by
  refine ⟨fun Hs H r σ W Q tk S P => ?_⟩
  refine we_of (pe_var hN hv hq.1 hq.2) ?_
  cases q : gVar i r with
  | stuck => rw [q] at P; exact P.elim
  | exc x => exact (gVar_exc q).elim
  | ok d =>
    rw [q] at P
    obtain ⟨v, A, e, o⟩ := S.get hk (gVar_ok q)
    cases o with
    | val rp => exact ⟨v, e, P.finV S.sub rp⟩
theorem se_varB {i : Nat} {k : Kd} {x : Str} {pos : Pos} (hk : ks[i]? = some k := by rfl) (hl : k.lends = true := by rfl) (hN : X.N[i]? = some x := by rfl) (hv : Vis X.env.scope x := by first | exact Or.inl rfl | exact Or.inr (Or.inl rfl) | exact Or.inr (Or.inr rfl))
    (hq : NmOk x) : SE X E ks .bor (.Name x pos) (gVar i) := by
  refine ⟨fun Hs H r σ W Q tk S P => ?_⟩
  refine we_of (pe_var hN hv hq.1 hq.2) ?_
  cases q : gVar i r with
  | stuck => rw [q] at P; exact P.elim
  | exc x => exact (gVar_exc q).elim
  | ok d =>
    rw [q] at P
    obtain ⟨v, A, e, o⟩ := S.get hk (gVar_ok q)
    have eb : Same E.b H := let ⟨_, s⟩ := S; s.eb
    exact ⟨v, e, P v Hs H (Grow.refl S.sub) (RB.rk (ORep.rb eb k _ _ _ hl o))⟩
theorem se_int {i : Int} {j : Nat} {pos : Pos} : SE X E ks .val (.Constant (.int i) j pos) (gC (.int i)) := ⟨fun Hs H r σ W Q tk S P => we_of pe_int (P.finV S.sub (.int i))⟩
theorem se_bl {b : Bool} {j : Nat} {pos : Pos} : SE X E ks .val (.Constant (.bool b) j pos) (gC (.bl b)) := ⟨fun Hs H r σ W Q tk S P => we_of pe_bl (P.finV S.sub (.bl b))⟩
theorem se_non {j : Nat} {pos : Pos} : SE X E ks .val (.Constant .none j pos) (gC .non) := ⟨fun Hs H r σ W Q tk S P => we_of pe_non (P.finV S.sub .non)⟩
theorem se_str {x : Str} {j : Nat} {pos : Pos} : SE X E ks .val (.Constant (.str x) j pos) (gC (.str x)) := ⟨fun Hs H r σ W Q tk S P => we_of pe_str (P.finV S.sub (.str x))⟩
/-- a module's constant: a number, a text -/
theorem se_globI {x : Str} {i : Int} {t : Tok} {pos : Pos} (hm : X.mg x = some (.int i t)) (hq : NmOk x) (hg : Gl X x := by rfl) : SE X E ks .val (.Name x pos) (gC (.int i)) :=
  ⟨fun Hs H r σ W Q tk S P => we_of (pe_glob (v := .int i) hg hm ⟨t, rfl⟩ hq.1) (P.finV S.sub (.int i))⟩
theorem se_globS {x y : Str} {t : Tok} {pos : Pos} (hm : X.mg x = some (.str y t)) (hq : NmOk x) (hg : Gl X x := by rfl) : SE X E ks .val (.Name x pos) (gC (.str y)) :=
  ⟨fun Hs H r σ W Q tk S P => we_of (pe_glob (v := .str y) hg hm ⟨t, rfl⟩ hq.1) (P.finV S.sub (.str y))⟩
end

def OpV (K : PySem.W.Frag) (rr : R2) (k : Kd) (f : D → D → R D) : Prop :=
  ∀ (cl : Cl) (Hs H : Hp) (d1 d2 : D) (v1 v2 : V) (Q : VK) (W : WX0), Same Hs H → RB cl Hs H d1 v1 → RB cl Hs H d2 v2 → Post cl k Hs H Q W (f d1 d2) → (∀ x, f d1 d2 ≠ .exc x) → rr v1 v2 H Q
@[simp] def gBin (f : D → D → R D) (ga gb : Sl → R D) : Sl → R D := fun r => do
  let a ← ga r
  let b ← gb r
  f a b
def NoX (f : D → D → R D) : Prop := ∀ a b x, f a b ≠ .exc x
section
variable {X : Cx} {E : En} {ks : List Kd} {k : Kd} {a b : Expr} {ga gb : Sl → R D} {f : D → D → R D} {pos : Pos}
theorem bin_read {rr : R2} (hv : OpV X.K rr k f) (nx : NoX f) (ha : SE X E ks .bor a ga) (hb : SE X E ks .bor b gb) {Hs H : Hp} {r : Sl} {σ : L2.St} {W : WX} {Q : VK} (tk : Takes X W) (S : StRel E Hs H ks r σ)
    (P : Post E.cl k Hs H Q (fun c dd H' => W c dd σ H') (gBin f ga gb r)) : WEx X a σ H fun x H1 => WEx X b σ H1 fun y H2 => rr x y H2 Q := by
  refine ha.run _ _ _ _ _ _ tk S (P.imp fun d1 v1 Hs1 H1 e1 g1 k1 P1 => ?_)
  refine hb.run _ _ _ _ _ _ tk (S.grow g1) (P1.imp fun d2 v2 Hs2 H2 e2 g2 k2 P2 => ?_)
  exact hv _ _ _ _ _ _ _ _ _ g2.sub (k1.rb.grow g2) k2.rb P2 (nx _ _)
theorem se_bin {op : Operator} {rr : R2} (ho : OpR X (binaryOp op) rr) (hv : OpV X.K rr k f) (nx : NoX f) (ha : SE X E ks .bor a ga) (hb : SE X E ks .bor b gb) : SE X E ks k (.BinOp a op b pos) (gBin f ga gb) :=
  ⟨fun Hs H r σ W Q tk S P => we_of (pe_op ho pe_we pe_we) (bin_read hv nx ha hb tk S P)⟩
theorem se_cmp {op : CmpOp} {rr : R2} (ho : OpR X (compareOp op) rr) (hv : OpV X.K rr k f) (nx : NoX f) (ha : SE X E ks .bor a ga) (hb : SE X E ks .bor b gb) (hm : behindInMarks op b = false := by rfl) : SE X E ks k (.Compare a [op] [b] pos) (gBin f ga gb) :=
  ⟨fun Hs H r σ W Q tk S P => we_of (pe_cmpR ho pe_we pe_we hm) (bin_read hv nx ha hb tk S P)⟩
end

theorem oN_ex (n : Nat) : ∃ m : Nat, m = n := ⟨n, rfl⟩
theorem oI_ex (n : Int) : ∃ m : Int, m = n := ⟨n, rfl⟩
def szL : Nat := Classical.choose (oN_ex 16777216)
theorem szL_val : szL = 16777216 := Classical.choose_spec (oN_ex 16777216)
def i63 : Int := Classical.choose (oI_ex (2 ^ 63))
theorem i63_val : i63 = 2 ^ 63 := Classical.choose_spec (oI_ex (2 ^ 63))
def i64 : Int := Classical.choose (oI_ex (2 ^ 64))
theorem i64_val : i64 = 2 ^ 64 := Classical.choose_spec (oI_ex (2 ^ 64))
def n64 : Nat := Classical.choose (oN_ex (2 ^ 64))
theorem n64_val : n64 = 2 ^ 64 := Classical.choose_spec (oN_ex (2 ^ 64))
def n30 : Nat := Classical.choose (oN_ex 1073741824)
theorem n30_val : n30 = 1073741824 := Classical.choose_spec (oN_ex 1073741824)
def iMil : Int := Classical.choose (oI_ex 1000000)
theorem iMil_val : iMil = 1000000 := Classical.choose_spec (oI_ex 1000000)
theorem szL_eq : (sizeLine : Nat) = szL := by rw [sizeLine_eq, szL_val]
theorem le_szL {n : Nat} (h : n ≤ 16777216) : n ≤ szL := by rw [szL_val]; exact h
theorem lt_szL {n : Nat} (h : n < 16777216) : n < szL := by rw [szL_val]; exact h
@[simp] def dAdd : D → D → R D
  | .int i, .int j => .ok (.int (i + j))
  | .str x, .str y => if x.length + y.length ≤ szL then .ok (.str (x ++ y)) else .stuck
  | .lst xs, .lst ys => if xs.length + ys.length ≤ szL then .ok (.lst (xs ++ ys)) else .stuck
  | .tup xs, .tup ys => if xs ≠ [] ∧ xs.length + ys.length ≤ szL then .ok (.tup (xs ++ ys)) else .stuck
  | _, _ => .stuck

theorem RepL.nilInv {cl : Cl} {H : Hp} {ds : List D} {xs : List V} (r : RepL cl H ds xs) : xs = [] ↔ ds = [] := by
  cases r with
  | nil => simp
  | cons _ _ => simp
theorem opv_add {X : Cx} : OpV X.K (fun x y H Q => (rI0 (fun i j => .int (i + j)) x y H Q ∨ (∃ i j, x = .str i ∧ y = .str j ∧ i.length + j.length ≤ sizeLine ∧ Q (.str (i ++ j)) H)) ∨ (rCat x y H Q ∨ rCatT X.K x y H Q)) (.own none) dAdd := by
  intro cl Hs H d1 d2 v1 v2 Q W e b1 b2 P nx
  cases d1 <;> cases d2 <;> first | exact P.elim | skip
  · cases b1.intInv
    cases b2.intInv
    exact .inl (.inl ⟨_, _, rfl, rfl, P.fin e rfl (.int _)⟩)
  · cases b1.strInv
    cases b2.strInv
    dsimp only [dAdd] at P
    split at P
    · rename_i h
      exact .inl (.inr ⟨_, _, rfl, rfl, by rw [szL_eq]; exact h, P.fin e rfl (.str _)⟩)
    · exact P.elim
  · dsimp only [dAdd] at P
    split at P
    · rename_i h
      obtain ⟨a, xs, rfl, h1, r1⟩ := b1.lstInv e
      obtain ⟨b, ys, rfl, h2, r2⟩ := b2.lstInv e
      exact .inr (.inl ⟨a, b, xs, ys, rfl, rfl, h1, h2, by rw [szL_eq, r1.length, r2.length]; exact h, fun p hp => P.finL e hp (r1.app r2)⟩)
    · exact P.elim
  · dsimp only [dAdd] at P
    split at P
    · rename_i h
      obtain ⟨n1, h⟩ := h
      have b1' := b1
      obtain ⟨a, xs, rfl, h1, r1⟩ := b1.tupInv e
      obtain ⟨b, ys, rfl, h2, r2⟩ := b2.tupInv e
      refine .inr (.inr ⟨a, b, xs, ys, rfl, rfl, SqT.of h1, SqT.of h2, fun z => n1 (r1.nilInv.mp z), by rw [szL_eq, r1.length, r2.length]; exact h, fun z => ?_, fun _ p hp => ?_⟩)
      · rw [r2.nilInv.mp z, List.append_nil] at P
        cases b1' with
        | val rr => exact P.fin e rfl rr
      · exact P _ _ _ (Grow.new e hp) (RK.ownPlain rfl (.tup upd_same (RepL.same (Same.updNew (e.free hp)) _ _ (r1.app r2))))
    · exact P.elim
@[simp] def dSub : D → D → R D
  | .int i, .int j => .ok (.int (i - j))
  | _, _ => .stuck
/-- a product that the model reckons -/
def w600 : Nat := Classical.choose (oN_ex (2 ^ 2000))
theorem w600_val : w600 = 2 ^ 2000 := Classical.choose_spec (oN_ex (2 ^ 2000))
def wideOk (i j : Int) : Bool := decide (i.natAbs < w600) && decide (j.natAbs < w600)
def mulOk (i j : Int) : Bool := ((decide (-i64 < i) && decide (i < i64)) || (decide (-i64 < j) && decide (j < i64))) || wideOk i j
@[simp] def dMul : D → D → R D
  | .int i, .int j => if mulOk i j then .ok (.int (i * j)) else .stuck
  | .lst xs, .int k => if -i63 ≤ k ∧ k < i63 ∧ xs.length * k.toNat ≤ szL then .ok (.lst (List.replicate k.toNat xs).flatten) else .stuck
  | _, _ => .stuck
@[simp] def dFdiv : D → D → R D
  | .int i, .int j => if (j ≠ 0 ∧ j.natAbs < n30) ∨ (0 < j ∧ j.natAbs < w600) then .ok (.int (i.fdiv j)) else .stuck
  | _, _ => .stuck
@[simp] def dMod : D → D → R D
  | .int i, .int j => if j ≠ 0 then .ok (.int (i.fmod j)) else .stuck
  | _, _ => .stuck
def dPow : D → D → R D
  | .int i, .int j => if 0 ≤ j ∧ j ≤ iMil ∧ i.natAbs < n64 then .ok (.int (i ^ j.toNat)) else .stuck
  | _, _ => .stuck
@[simp] def dNeg : D → R D
  | .int i => .ok (.int (-i))
  | _ => .stuck
theorem opv_int2 {K : PySem.W.Frag} {f : D → D → R D} {C : Int → Int → Prop} {g : Int → Int → Int} (h : ∀ d1 d2, f d1 d2 ≠ .stuck → ∃ i j, d1 = .int i ∧ d2 = .int j ∧ C i j ∧ f d1 d2 = .ok (.int (g i j))) : OpV K (rI C fun i j => .int (g i j)) .val f := by
  intro cl Hs H d1 d2 v1 v2 Q W e b1 b2 P nx
  have ns : f d1 d2 ≠ .stuck := fun z => by rw [z] at P; exact P
  obtain ⟨i, j, rfl, rfl, c, q⟩ := h _ _ ns
  cases b1.intInv
  cases b2.intInv
  rw [q] at P
  exact ⟨i, j, rfl, rfl, c, P.finV e (.int _)⟩
theorem opv_int0 {K : PySem.W.Frag} {f : D → D → R D} {g : Int → Int → V} {gd : Int → Int → D} (h : ∀ d1 d2, f d1 d2 ≠ .stuck → ∃ i j, d1 = .int i ∧ d2 = .int j ∧ f d1 d2 = .ok (gd i j)) (hr : ∀ cl H i j, Rep cl H (gd i j) (g i j)) : OpV K (rI0 g) .val f := by
  intro cl Hs H d1 d2 v1 v2 Q W e b1 b2 P nx
  have ns : f d1 d2 ≠ .stuck := fun z => by rw [z] at P; exact P
  obtain ⟨i, j, rfl, rfl, q⟩ := h _ _ ns
  cases b1.intInv
  cases b2.intInv
  rw [q] at P
  exact ⟨i, j, rfl, rfl, P.finV e (hr _ _ _ _)⟩
theorem opv_sub {X : Cx} : OpV X.K (rI0 fun i j => .int (i - j)) .val dSub := opv_int0 (gd := fun i j => .int (i - j)) (fun d1 d2 ns => by
  cases d1 <;> cases d2 <;> first | exact (ns rfl).elim | exact ⟨_, _, rfl, rfl, rfl⟩) fun _ _ _ _ => .int _
theorem opv_fdiv {X : Cx} : OpV X.K (fun x y H Q => rI CDivN (fun i j => .int (i.fdiv j)) x y H Q ∨ rI CDivW (fun i j => .int (i / j)) x y H Q) .val dFdiv := by
  intro cl Hs H d1 d2 v1 v2 Q W e b1 b2 P nx
  cases d1 <;> cases d2 <;> first | exact P.elim | skip
  cases b1.intInv
  cases b2.intInv
  rename_i i j
  dsimp only [dFdiv] at P
  split at P
  · rename_i h
    by_cases c : j ≠ 0 ∧ j.natAbs < n30
    · exact .inl ⟨_, _, rfl, rfl, by have z := c; rw [n30_val] at z; exact z, P.finV e (.int _)⟩
    · have h2 := h.resolve_left c
      rw [Int.fdiv_eq_ediv_of_nonneg i (by omega)] at P
      exact .inr ⟨_, _, rfl, rfl, wide_div (b := 2000) h2.1 (by have z := h2.2; rw [w600_val] at z; exact z) (by decide) (by decide), P.finV e (.int _)⟩
  · exact P.elim
theorem opv_mod {X : Cx} : OpV X.K (rI (fun _ j => j ≠ 0) fun i j => .int (i.fmod j)) .val dMod := opv_int2 fun d1 d2 ns => by
  cases d1 <;> cases d2 <;> first | exact (ns rfl).elim | skip
  dsimp only [dMod] at ns ⊢
  split at ns
  · rename_i h
    exact ⟨_, _, rfl, rfl, h, by rw [if_pos h]⟩
  · exact (ns rfl).elim
theorem opv_pow {X : Cx} : OpV X.K (rI CPow fun i j => .int (i ^ j.toNat)) .val dPow := opv_int2 fun d1 d2 ns => by
  cases d1 <;> cases d2 <;> first | exact (ns rfl).elim | skip
  dsimp only [dPow] at ns ⊢
  split at ns
  · rename_i h
    exact ⟨_, _, rfl, rfl, by have z := h; rw [iMil_val, n64_val] at z; exact z, by rw [if_pos h]⟩
  · exact (ns rfl).elim
theorem mulOk_iff {i j : Int} (h : mulOk i j = true) : CMul i j ∨ CMulW i j := by
  unfold mulOk wideOk at h
  simp only [Bool.or_eq_true, Bool.and_eq_true, decide_eq_true_eq, i64_val, w600_val] at h
  rcases h with h | h
  · exact .inl h
  · exact .inr (wide_mul (a := 2000) (b := 2000) h.1 h.2 (by decide) (by decide) (by decide))
theorem RepL.rep {cl : Cl} {H : Hp} {ds : List D} {vs : List V} (h : RepL cl H ds vs) : ∀ k : Nat, RepL cl H (List.replicate k ds).flatten (List.replicate k vs).flatten
  | 0 => .nil
  | k + 1 => by
    rw [List.replicate_succ, List.replicate_succ, List.flatten_cons, List.flatten_cons]
    exact h.app (RepL.rep h k)
theorem opv_mul {X : Cx} : OpV X.K (fun x y H Q => (rI CMul (fun i j => .int (i * j)) x y H Q ∨ rI CMulW (fun i j => .int (i * j)) x y H Q) ∨ rRep x y H Q) (.own none) dMul := by
  intro cl Hs H d1 d2 v1 v2 Q W e b1 b2 P nx
  cases d1 <;> cases d2 <;> first | exact P.elim | skip
  · cases b1.intInv
    cases b2.intInv
    dsimp only [dMul] at P
    split at P
    · rename_i h
      rcases mulOk_iff h with h | h
      · exact .inl (.inl ⟨_, _, rfl, rfl, h, P.fin e rfl (.int _)⟩)
      · exact .inl (.inr ⟨_, _, rfl, rfl, h, P.fin e rfl (.int _)⟩)
    · exact P.elim
  · cases b2.intInv
    dsimp only [dMul] at P
    split at P
    · rename_i h
      obtain ⟨a, xs, rfl, h1, r1⟩ := b1.lstInv e
      refine .inr ⟨a, _, xs, rfl, rfl, h1, by have := h.1; rw [i63_val] at this; exact this, by have := h.2.1; rw [i63_val] at this; exact this, by rw [szL_eq, r1.length]; exact h.2.2, fun p hp => P.finL e hp (r1.rep _)⟩
    · exact P.elim
theorem nox_add : NoX dAdd := fun a b x h => by
  cases a <;> cases b <;> dsimp only [dAdd] at h <;> first | (split at h <;> cases h) | cases h
theorem nox_sub : NoX dSub := fun a b x h => by cases a <;> cases b <;> exact (nomatch h)
theorem nox_mul : NoX dMul := fun a b x h => by
  cases a <;> cases b <;> dsimp only [dMul] at h <;> first | (split at h <;> cases h) | cases h
theorem nox_fdiv : NoX dFdiv := fun a b x h => by
  cases a <;> cases b <;> dsimp only [dFdiv] at h <;> first | (split at h <;> cases h) | cases h
theorem nox_mod : NoX dMod := fun a b x h => by
  cases a <;> cases b <;> dsimp only [dMod] at h <;> first | (split at h <;> cases h) | cases h
theorem nox_pow : NoX dPow := fun a b x h => by
  cases a <;> cases b <;> dsimp only [dPow] at h <;> first | (split at h <;> cases h) | cases h
section
variable {X : Cx} {E : En} {ks : List Kd} {a b : Expr} {ga gb : Sl → R D} {pos : Pos}
theorem se_add (ha : SE X E ks .bor a ga) (hb : SE X E ks .bor b gb) : SE X E ks (.own none) (.BinOp a .Add b pos) (gBin dAdd ga gb) :=
  se_bin ((op_add.or op_add_str).or (op_cat.or op_catT)) opv_add nox_add ha hb
theorem se_sub (ha : SE X E ks .bor a ga) (hb : SE X E ks .bor b gb) : SE X E ks .val (.BinOp a .Sub b pos) (gBin dSub ga gb) := se_bin op_sub opv_sub nox_sub ha hb
theorem se_mul (ha : SE X E ks .bor a ga) (hb : SE X E ks .bor b gb) : SE X E ks (.own none) (.BinOp a .Mult b pos) (gBin dMul ga gb) := se_bin ((op_mul.or op_mulW).or op_rep) opv_mul nox_mul ha hb
theorem se_fdiv (ha : SE X E ks .bor a ga) (hb : SE X E ks .bor b gb) : SE X E ks .val (.BinOp a .FloorDiv b pos) (gBin dFdiv ga gb) := se_bin (op_fdivN.or op_fdivW) opv_fdiv nox_fdiv ha hb
theorem se_mod (ha : SE X E ks .bor a ga) (hb : SE X E ks .bor b gb) : SE X E ks .val (.BinOp a .Mod b pos) (gBin dMod ga gb) := se_bin op_modN opv_mod nox_mod ha hb
theorem se_pow (ha : SE X E ks .bor a ga) (hb : SE X E ks .bor b gb) : SE X E ks .val (.BinOp a .Pow b pos) (gBin dPow ga gb) := se_bin op_pow opv_pow nox_pow ha hb
@[simp] def gUn (f : D → R D) (ga : Sl → R D) : Sl → R D := fun r => do
  let a ← ga r
  f a
theorem se_neg (ha : SE X E ks .bor a ga) : SE X E ks .val (.UnaryOp .USub a pos) (gUn dNeg ga) := by
  refine ⟨fun Hs H r σ W Q tk S P => ?_⟩
  refine we_of (pe_un un_neg pe_we) ?_
  refine ha.run _ _ _ _ _ _ tk S (P.imp fun d v Hs1 H1 e1 g1 k1 P1 => ?_)
  cases d <;> first | exact P1.elim | skip
  cases k1.rb.intInv
  exact ⟨_, rfl, P1.finV g1.sub (.int _)⟩
end

mutual
def toPy : D → PyData
  | .non => .none
  | .bl b => .bool b
  | .int i => .int i
  | .str x => .str x
  | .lst xs => .list (toPys xs)
  | .tup xs => .tuple (toPys xs)
  | .dct _ => .dict []
  | .obj _ _ => .dict []
  | .scr _ => .dict []
def toPys : List D → List PyData
  | [] => []
  | d :: ds => toPy d :: toPys ds
end
section
variable {cl : Cl} {K : PySem.W.Frag} {H : Hp}
mutual
theorem Rep.dp : ∀ (d : D) (v : V), (toPy d).canLay0 = true → Rep cl H d v → Dp K H v (toPy d)
  | .non, _, _, h => by cases h; exact .non
  | .bl b, _, _, h => by cases h; exact .bl b
  | .int i, _, _, h => by cases h; exact .int i
  | .str x, _, _, h => by cases h; exact .str x
  | .lst ds, _, c, h => by
    cases h with
    | lst h1 h2 => exact .lst (SqL.of h1) (RepL.dp ds _ c h2)
  | .tup ds, _, c, h => by
    cases h with
    | tup h1 h2 => exact .tup (SqT.of h1) (RepL.dp ds _ c h2)
  | .dct ds, _, c, h => by cases c
  | .obj C ds, _, c, h => by cases c
  | .scr ns, _, c, h => by cases c
theorem RepL.dp : ∀ (ds : List D) (vs : List V), PyData.canLayAll0 (toPys ds) = true → RepL cl H ds vs → DpAll K H vs (toPys ds)
  | [], _, _, h => by cases h; exact .nil
  | d :: ds, _, c, h => by
    have c' : (toPy d).canLay0 = true ∧ PyData.canLayAll0 (toPys ds) = true := by
      have q : ((toPy d).canLay0 && PyData.canLayAll0 (toPys ds)) = true := c
      simpa using q
    cases h with
    | cons h1 h2 => exact .cons (Rep.dp d _ c'.1 h1) (RepL.dp ds _ c'.2 h2)
end
theorem RB.dp {Hs : Hp} {d : D} {v : V} (e : Same Hs H) (c : (toPy d).canLay0 = true) (h : RB cl Hs H d v) : Dp K H v (toPy d) := by
  cases h with
  | val r => exact Rep.dp _ _ c (Rep.same e _ _ r)
  | lst h1 h2 => exact .lst (SqL.of h1) (RepL.dp _ _ c (RepL.same e _ _ h2))
  | dct _ _ => cases c
  | obj _ _ _ => cases c
end
def dEqB (a b : D) : Bool := PyData.eqv (toPy a) (toPy b)
def shp (a : D) : Bool := SeqAt.shaped (toPy a)
def dEq : D → D → R D := fun a b => if shp a && shp b then .ok (.bl (dEqB a b)) else .stuck
def dNe : D → D → R D := fun a b => if shp a && shp b then .ok (.bl (!dEqB a b)) else .stuck
theorem nox_eq : NoX dEq := fun a b x h => by unfold dEq at h; split at h <;> cases h
theorem nox_ne : NoX dNe := fun a b x h => by unfold dNe at h; split at h <;> cases h
theorem opv_eq {X : Cx} : OpV X.K (rEqD X.K) .val dEq := by
  intro cl Hs H d1 d2 v1 v2 Q W e b1 b2 P nx
  unfold dEq at P
  split at P
  · rename_i h
    have h' : shp d1 = true ∧ shp d2 = true := by simpa using h
    exact ⟨toPy d1, toPy d2, b1.dp e (SeqAt.canLay_of_shaped h'.1), b2.dp e (SeqAt.canLay_of_shaped h'.2), h'.1, h'.2, P.finV e (.bl _)⟩
  · exact P.elim
theorem opv_ne {X : Cx} : OpV X.K (rNeD X.K) .val dNe := by
  intro cl Hs H d1 d2 v1 v2 Q W e b1 b2 P nx
  unfold dNe at P
  split at P
  · rename_i h
    have h' : shp d1 = true ∧ shp d2 = true := by simpa using h
    exact ⟨toPy d1, toPy d2, b1.dp e (SeqAt.canLay_of_shaped h'.1), b2.dp e (SeqAt.canLay_of_shaped h'.2), h'.1, h'.2, P.finV e (.bl _)⟩
  · exact P.elim
@[simp] def dLt : D → D → R D
  | .int i, .int j => .ok (.bl (decide (i < j)))
  | _, _ => .stuck
@[simp] def dLe : D → D → R D
  | .int i, .int j => .ok (.bl (decide (i ≤ j)))
  | _, _ => .stuck
@[simp] def dGt : D → D → R D
  | .int i, .int j => .ok (.bl (decide (j < i)))
  | _, _ => .stuck
@[simp] def dGe : D → D → R D
  | .int i, .int j => .ok (.bl (decide (j ≤ i)))
  | _, _ => .stuck
theorem nox_lt : NoX dLt := fun a b x h => by cases a <;> cases b <;> exact (nomatch h)
theorem nox_le : NoX dLe := fun a b x h => by cases a <;> cases b <;> exact (nomatch h)
theorem nox_gt : NoX dGt := fun a b x h => by cases a <;> cases b <;> exact (nomatch h)
theorem nox_ge : NoX dGe := fun a b x h => by cases a <;> cases b <;> exact (nomatch h)
theorem opv_lt {X : Cx} : OpV X.K (rI0 fun i j => .bl (decide (i < j))) .val dLt := opv_int0 (gd := fun i j => .bl (decide (i < j))) (fun d1 d2 ns => by
  cases d1 <;> cases d2 <;> first | exact (ns rfl).elim | exact ⟨_, _, rfl, rfl, rfl⟩) fun _ _ _ _ => .bl _
theorem opv_le {X : Cx} : OpV X.K (rI0 fun i j => .bl (decide (i ≤ j))) .val dLe := opv_int0 (gd := fun i j => .bl (decide (i ≤ j))) (fun d1 d2 ns => by
  cases d1 <;> cases d2 <;> first | exact (ns rfl).elim | exact ⟨_, _, rfl, rfl, rfl⟩) fun _ _ _ _ => .bl _
theorem opv_gt {X : Cx} : OpV X.K (rI0 fun i j => .bl (decide (j < i))) .val dGt := opv_int0 (gd := fun i j => .bl (decide (j < i))) (fun d1 d2 ns => by
  cases d1 <;> cases d2 <;> first | exact (ns rfl).elim | exact ⟨_, _, rfl, rfl, rfl⟩) fun _ _ _ _ => .bl _
theorem opv_ge {X : Cx} : OpV X.K (rI0 fun i j => .bl (decide (j ≤ i))) .val dGe := opv_int0 (gd := fun i j => .bl (decide (j ≤ i))) (fun d1 d2 ns => by
  cases d1 <;> cases d2 <;> first | exact (ns rfl).elim | exact ⟨_, _, rfl, rfl, rfl⟩) fun _ _ _ _ => .bl _
section
variable {X : Cx} {E : En} {ks : List Kd} {a b : Expr} {ga gb : Sl → R D} {pos : Pos}
end
end VL
end

noncomputable section
namespace VL
open PySem PySem.Spec PyProof.Rows L2
variable {md : Md}

def PostT (cl : Cl) (Hs H : Hp) (Q : Bool → Hp → Prop) (W : WX0) : R Bool → Prop
  | .stuck => False
  | .exc x => ∀ c dd Hs' H', Grow Hs H Hs' H' → XRep cl Hs' H' x c dd → W c dd H'
  | .ok b => ∀ Hs' H', Grow Hs H Hs' H' → Q b H'
theorem PostT.grow {cl : Cl} {Hs H Hs' H' : Hp} {Q : Bool → Hp → Prop} {W : WX0} {r : R Bool} (P : PostT cl Hs H Q W r) (g : Grow Hs H Hs' H') : PostT cl Hs' H' Q W r := by
  cases r with
  | stuck => exact P
  | exc x => exact fun c dd Hs2 H2 g2 x2 => P c dd Hs2 H2 (g.trans g2) x2
  | ok d => exact fun Hs2 H2 g2 => P Hs2 H2 (g.trans g2)
structure ST [md : Md] (X : Cx) (E : En) (ks : List Kd) (e : Expr) (g : Sl → R Bool) : Prop where
  run : ∀ (Hs H : Hp) (r : Sl) (σ : L2.St) (W : WX) (Q : Bool → Hp → Prop), Takes X W → StRel E Hs H ks r σ → PostT E.cl Hs H Q (fun c dd H' => W c dd σ H') (g r) → WTx X e σ H Q
def WWx (X : Cx) (e : Expr) : TT := fun σ H Q => ∀ (whole : Sem Value) (pins : List (Addr × Obj)) (s : Shared), Inv X pins σ H s → wpAny (model X.prog X.w) X.A (isTrue e X.env whole) (TP X pins σ Q) X.xe s
theorem pw_ww {X : Cx} {e : Expr} : PW X e (WWx X e) := ⟨fun whole pins s _ _ _ I h => h whole pins s I⟩
theorem ww_of {X : Cx} {e : Expr} {t : TT} {σ : L2.St} {H : Hp} {Q : Bool → Hp → Prop} (p : PW X e t) (h : t σ H Q) : WWx X e σ H Q := fun whole pins s I => p.run whole pins s σ H Q I h
structure SW [md : Md] (X : Cx) (E : En) (ks : List Kd) (e : Expr) (g : Sl → R Bool) : Prop where
  run : ∀ (Hs H : Hp) (r : Sl) (σ : L2.St) (W : WX) (Q : Bool → Hp → Prop), Takes X W → StRel E Hs H ks r σ → PostT E.cl Hs H Q (fun c dd H' => W c dd σ H') (g r) → WWx X e σ H Q
/-- a bool -/
@[simp] def asB : D → R Bool
  | .bl b => .ok b
  | _ => .stuck
@[simp] def gTest (g : Sl → R D) : Sl → R Bool := fun r => do
  let d ← g r
  asB d
section
variable {X : Cx} {E : En} {ks : List Kd} {a b c e : Expr} {ga gb g : Sl → R D} {ta tb tc : Sl → R Bool} {rest : List Expr} {pos : Pos}
theorem Post.ofT {cl : Cl} {k : Kd} {Hs H : Hp} {Q : Bool → Hp → Prop} {W : WX0} {r : R D} {f : D → R Bool} (P : PostT cl Hs H Q W (r >>= f)) {Q1 : VK}
    (h : ∀ d v Hs' H', r = .ok d → Grow Hs H Hs' H' → RK cl k H Hs' H' d v → PostT cl Hs' H' Q W (f d) → Q1 v H') : Post cl k Hs H Q1 W r := by
  cases r with
  | stuck => exact P
  | exc x => exact P
  | ok d => exact fun v Hs' H' g rk => h d v Hs' H' rfl g rk (PostT.grow (r := f d) P g)
theorem PostT.imp {cl : Cl} {Hs H : Hp} {Q Q1 : Bool → Hp → Prop} {W : WX0} {r : R Bool} {f : Bool → R Bool} (P : PostT cl Hs H Q W (r >>= f))
    (h : ∀ b Hs' H', r = .ok b → Grow Hs H Hs' H' → PostT cl Hs' H' Q W (f b) → Q1 b H') : PostT cl Hs H Q1 W r := by
  cases r with
  | stuck => exact P
  | exc x => exact P
  | ok d => exact fun Hs' H' g => h d Hs' H' rfl g (PostT.grow (r := f d) P g)
theorem PostT.to {cl : Cl} {k : Kd} {Hs H : Hp} {Q1 : Bool → Hp → Prop} {Q : VK} {W : WX0} {r : R Bool} {f : Bool → R D} (P : Post cl k Hs H Q W (r >>= f))
    (h : ∀ b Hs' H', r = .ok b → Grow Hs H Hs' H' → Post cl k Hs' H' Q W (f b) → Q1 b H') : PostT cl Hs H Q1 W r := by
  cases r with
  | stuck => exact P
  | exc x => exact P
  | ok d => exact fun Hs' H' g => h d Hs' H' rfl g (Post.grow (r := f d) P g)
/-- an expression that gives a bool, as a test -/
theorem st_val (h : SE X E ks .bor e g) (he : ∀ whole, isTrue e X.env whole = (do let v ← whole; standAt e.pos; holding [v] (truthy v)) := by intro _; rfl) : ST X E ks e (gTest g) := by
  refine ⟨fun Hs H r σ W Q tk S P => ?_⟩
  refine wt_of (pt_val pe_we he) ?_
  refine h.run _ _ _ _ _ _ tk S (Post.ofT P fun d v Hs' H' e1 g1 k1 P1 => ?_)
  cases d <;> first | exact P1.elim | skip
  cases k1.rb.blInv
  exact ⟨_, rfl, P1 Hs' H' (Grow.refl g1.sub)⟩
/-- a comparison as a test -/
theorem st_cmp {op : CmpOp} {rr : R2} {f : D → D → R D} (ho : OpR X (compareOp op) rr) (hv : OpV X.K rr .val f) (nx : NoX f) (ha : SE X E ks .bor a ga) (hb : SE X E ks .bor b gb) (hm : behindInMarks op b = false := by rfl) : ST X E ks (.Compare a [op] [b] pos) (gTest (gBin f ga gb)) := by
  refine ⟨fun Hs H r σ W Q tk S P => ?_⟩
  refine wt_of (pt_cmpR ho pe_we pe_we hm) ?_
  refine bin_read hv nx ha hb tk S (Post.ofT P fun d v Hs' H' e1 g1 k1 P1 => ?_)
  cases d <;> first | exact P1.elim | skip
  have rp := k1.rep
  cases rp
  exact ⟨_, rfl, P1 Hs' H' (Grow.refl g1.sub)⟩
theorem st_of (h : SW X E ks e ta) : ST X E ks e ta := ⟨fun Hs H r σ W Q tk S P => wt_of pw_ww.pt (h.run _ _ _ _ _ _ tk S P)⟩
@[simp] def gAnd (ta tb : Sl → R Bool) : Sl → R Bool := fun r => do
  let b ← ta r
  if b then tb r else .ok false
@[simp] def gOr (ta tb : Sl → R Bool) : Sl → R Bool := fun r => do
  let b ← ta r
  if b then .ok true else tb r
@[simp] def gNot (ta : Sl → R Bool) : Sl → R Bool := fun r => do
  let b ← ta r
  .ok (!b)
theorem sw_and1 (ha : ST X E ks a ta) : SW X E ks (.BoolOp .And [a] pos) ta := ⟨fun Hs H r σ W Q tk S P => ww_of (pw_and1 pt_wt) (ha.run _ _ _ _ _ _ tk S P)⟩
theorem sw_or1 (ha : ST X E ks a ta) : SW X E ks (.BoolOp .Or [a] pos) ta := ⟨fun Hs H r σ W Q tk S P => ww_of (pw_or1 pt_wt) (ha.run _ _ _ _ _ _ tk S P)⟩
theorem sw_and (ha : ST X E ks a ta) (hb : SW X E ks (.BoolOp .And (b :: rest) pos) tb) : SW X E ks (.BoolOp .And (a :: b :: rest) pos) (gAnd ta tb) := by
  refine ⟨fun Hs H r σ W Q tk S P => ?_⟩
  refine ww_of (pw_and pt_wt pw_ww) ?_
  refine ha.run _ _ _ _ _ _ tk S (PostT.imp P fun x Hs' H' e1 g1 P1 => ?_)
  cases x with
  | true => exact hb.run _ _ _ _ _ _ tk (S.grow g1) P1
  | false => exact P1 Hs' H' (Grow.refl g1.sub)
theorem sw_or (ha : ST X E ks a ta) (hb : SW X E ks (.BoolOp .Or (b :: rest) pos) tb) : SW X E ks (.BoolOp .Or (a :: b :: rest) pos) (gOr ta tb) := by
  refine ⟨fun Hs H r σ W Q tk S P => ?_⟩
  refine ww_of (pw_or pt_wt pw_ww) ?_
  refine ha.run _ _ _ _ _ _ tk S (PostT.imp P fun x Hs' H' e1 g1 P1 => ?_)
  cases x with
  | false => exact hb.run _ _ _ _ _ _ tk (S.grow g1) P1
  | true => exact P1 Hs' H' (Grow.refl g1.sub)
theorem st_not (ha : ST X E ks a ta) : ST X E ks (.UnaryOp .Not a pos) (gNot ta) := by
  refine ⟨fun Hs H r σ W Q tk S P => ?_⟩
  refine wt_of (pt_not pt_wt) ?_
  exact ha.run _ _ _ _ _ _ tk S (PostT.imp P fun x Hs' H' e1 g1 P1 => P1 Hs' H' (Grow.refl g1.sub))
@[simp] def vAnd (ga gb : Sl → R D) : Sl → R D := fun r => do
  let d ← ga r
  let b ← asB d
  if b then gb r else .ok (.bl false)
theorem se_one {op : PySem.BoolOp} (ha : SE X E ks .val a ga) : SE X E ks .val (.BoolOp op [a] pos) ga := ⟨fun Hs H r σ W Q tk S P => we_of (pe_one pe_we) (ha.run _ _ _ _ _ _ tk S P)⟩
theorem se_and (ha : SE X E ks .val a ga) (hb : SE X E ks .val (.BoolOp .And (b :: rest) pos) gb) : SE X E ks .val (.BoolOp .And (a :: b :: rest) pos) (vAnd ga gb) := by
  refine ⟨fun Hs H r σ W Q tk S P => ?_⟩
  refine we_of (pe_and pe_we pe_we) ?_
  refine ha.run _ _ _ _ _ _ tk S (Post.imp (F := fun d => asB d >>= fun b => if b then gb r else .ok (.bl false)) P fun d v Hs' H' e1 g1 k1 P1 => ?_)
  cases d <;> first | exact P1.elim | skip
  have rp := k1.rep
  cases rp
  rename_i q
  refine ⟨q, rfl, ?_⟩
  cases q with
  | true => exact iteT (hb.run _ _ _ _ _ _ tk (S.grow g1) P1)
  | false => exact iteF (Post.finV P1 g1.sub (.bl false))
@[simp] def gIf (tc : Sl → R Bool) (ga gb : Sl → R D) : Sl → R D := fun r => do
  let b ← tc r
  if b then ga r else gb r
theorem se_if {k : Kd} (hc : ST X E ks c tc) (ha : SE X E ks k a ga) (hb : SE X E ks k b gb) : SE X E ks k (.IfExp c a b pos) (gIf tc ga gb) := by
  refine ⟨fun Hs H r σ W Q tk S P => ?_⟩
  refine we_of (pe_ifExp pt_wt pe_we pe_we) ?_
  refine hc.run _ _ _ _ _ _ tk S (PostT.to P fun x Hs' H' e1 g1 P1 => ?_)
  have fin : ∀ {k : Kd}, Post E.cl k Hs' H' Q (fun c dd H' => W c dd σ H') (if x then ga r else gb r) → Post E.cl k Hs' H' Q (fun c dd H' => W c dd σ H') (if x then ga r else gb r) := fun z => z
  cases x with
  | true => exact iteT (ha.run _ _ _ _ _ _ tk (S.grow g1) P1)
  | false => exact iteF (hb.run _ _ _ _ _ _ tk (S.grow g1) P1)
end

@[simp] def dIsN : D → R D
  | .non => .ok (.bl true)
  | _ => .ok (.bl false)
section
variable {X : Cx} {E : En} {ks : List Kd} {a : Expr} {ga : Sl → R D} {pos pos' : Pos} {j : Nat}
theorem RB.isN {cl : Cl} {Hs H : Hp} {d : D} {v : V} (h : RB cl Hs H d v) : decide (v = V.non) = (match d with | .non => true | _ => false) := by
  cases h with
  | val r => cases r <;> rfl
  | lst _ _ => rfl
  | dct _ _ => rfl
  | obj _ _ _ => rfl
theorem se_isN (ha : SE X E ks .bor a ga) : SE X E ks .val (.Compare a [.Is] [.Constant .none j pos'] pos) (gUn dIsN ga) := by
  refine ⟨fun Hs H r σ W Q tk S P => ?_⟩
  refine we_of (pe_cmp (pc_isN pe_we) rfl) ?_
  refine ha.run _ _ _ _ _ _ tk S (P.imp fun d v Hs1 H1 e1 g1 k1 P1 => ?_)
  show Q (V.bl (decide (v = .non))) H1
  rw [k1.rb.isN]
  cases d <;> exact P1.finV g1.sub (.bl _)
theorem st_isN (ha : SE X E ks .bor a ga) : ST X E ks (.Compare a [.Is] [.Constant .none j pos'] pos) (gTest (gUn dIsN ga)) := by
  refine ⟨fun Hs H r σ W Q tk S P => ?_⟩
  refine wt_of (pt_cmp (pc_isN pe_we) rfl) ?_
  have P' : PostT E.cl Hs H Q (fun c dd H' => W c dd σ H') (ga r >>= fun d => dIsN d >>= asB) := by
    unfold gTest gUn at P
    cases q : ga r <;> rw [q] at P <;> exact P
  refine ha.run _ _ _ _ _ _ tk S (Post.ofT P' fun d v Hs1 H1 e1 g1 k1 P1 => ?_)
  refine ⟨_, rfl, ?_⟩
  rw [k1.rb.isN]
  cases d <;> exact P1 Hs1 H1 (Grow.refl g1.sub)
end

theorem atI_rep {cl : Cl} {H : Hp} {ds : List D} {vs : List V} {i : Int} {d : D} (r : RepL cl H ds vs) (h : atI ds i = some d) : ∃ v, atI vs i = some v ∧ Rep cl H d v := by
  unfold atI at h ⊢
  rw [r.length]
  cases q : ixN ds.length i with
  | none => rw [q] at h; cases h
  | some j =>
    rw [q] at h
    have h' : ds[j]? = some d := h
    obtain ⟨v, e, rp⟩ := r.get h'
    exact ⟨v, e, rp⟩
@[simp] def dIdx : D → D → R D
  | .lst ds, .int i => match atI ds i with
    | some d => .ok d
    | none => .stuck
  | .tup ds, .int i => match atI ds i with
    | some d => .ok d
    | none => .stuck
  | .str z, .int i => if z.length ≤ szL then (match atI z.cps.toList i with
    | some c => .ok (.str ⟨#[c]⟩)
    | none => .stuck) else .stuck
  | _, _ => .stuck
theorem nox_idx : NoX dIdx := fun a b x h => by
  cases a <;> cases b <;> dsimp only [dIdx] at h <;> first | (split at h <;> first | cases h | (split at h <;> cases h)) | cases h
theorem opv_idx {X : Cx} : OpV X.K (rIx X.K) .val dIdx := by
  intro cl Hs H d1 d2 v1 v2 Q W e b1 b2 P nx
  cases d1 <;> cases d2 <;> first | exact P.elim | skip
  · cases b1.strInv
    cases b2.intInv
    dsimp only [dIdx] at P
    split at P
    · rename_i h
      split at P
      · rename_i c q
        exact .inr (.inr ⟨_, _, c, rfl, rfl, by rw [szL_eq]; exact h, q, P.finV e (.str _)⟩)
      · exact P.elim
    · exact P.elim
  · cases b2.intInv
    dsimp only [dIdx] at P
    split at P
    · rename_i d q
      obtain ⟨l, xs, rfl, h1, r1⟩ := b1.lstInv e
      obtain ⟨v, e2, rp⟩ := atI_rep r1 q
      exact .inl ⟨l, xs, _, v, rfl, rfl, SqL.of h1, e2, P.finV e rp⟩
    · exact P.elim
  · cases b2.intInv
    dsimp only [dIdx] at P
    split at P
    · rename_i d q
      obtain ⟨l, xs, rfl, h1, r1⟩ := b1.tupInv e
      obtain ⟨v, e2, rp⟩ := atI_rep r1 q
      exact .inr (.inl ⟨l, xs, _, v, rfl, rfl, SqT.of h1, e2, P.finV e rp⟩)
    · exact P.elim
theorem se_ix {X : Cx} {E : En} {ks : List Kd} {a b : Expr} {ga gb : Sl → R D} {pos : Pos} (ha : SE X E ks .bor a ga) (hb : SE X E ks .bor b gb) (hs : PlainIx b := by exact fun _ _ => rfl) : SE X E ks .val (.Subscript a b pos) (gBin dIdx ga gb) :=
  ⟨fun Hs H r σ W Q tk S P => we_of (pe_ix ix_seq pe_we pe_we hs) (bin_read opv_idx nox_idx ha hb tk S P)⟩

def cutL {α : Type} (xs : List α) (lo hi : Option Int) : List α := (xs.drop (HT.sIx xs.length 0 lo)).take (HT.sIx xs.length xs.length hi - HT.sIx xs.length 0 lo)
theorem cut_rep {cl : Cl} {H : Hp} {ds : List D} {vs : List V} {lo hi : Option Int} (r : RepL cl H ds vs) : RepL cl H (cutL ds lo hi) (cutV vs lo hi) := by
  unfold cutL cutV
  rw [r.length]
  exact (r.drop _).take _
/-- an end of a slice -/
def PostO (cl : Cl) (Hs H : Hp) (Q : Option Int → Hp → Prop) (W : WX0) : R (Option Int) → Prop
  | .stuck => False
  | .exc x => ∀ c dd Hs' H', Grow Hs H Hs' H' → XRep cl Hs' H' x c dd → W c dd H'
  | .ok b => ∀ Hs' H', Grow Hs H Hs' H' → Q b H'
theorem PostO.grow {cl : Cl} {Hs H Hs' H' : Hp} {Q : Option Int → Hp → Prop} {W : WX0} {r : R (Option Int)} (P : PostO cl Hs H Q W r) (g : Grow Hs H Hs' H') : PostO cl Hs' H' Q W r := by
  cases r with
  | stuck => exact P
  | exc x => exact fun c dd Hs2 H2 g2 x2 => P c dd Hs2 H2 (g.trans g2) x2
  | ok d => exact fun Hs2 H2 g2 => P Hs2 H2 (g.trans g2)
def WOx (X : Cx) (e : Option Expr) : TO := fun σ H Q => ∃ t, PO X e t ∧ t σ H Q
theorem po_wo {X : Cx} {e : Option Expr} : PO X e (WOx X e) := ⟨fun pins s σ H Q I ⟨t, p, h⟩ => p.run pins s σ H Q I h⟩
structure SO [md : Md] (X : Cx) (E : En) (ks : List Kd) (e : Option Expr) (g : Sl → R (Option Int)) : Prop where
  run : ∀ (Hs H : Hp) (r : Sl) (σ : L2.St) (W : WX) (Q : Option Int → Hp → Prop), Takes X W → StRel E Hs H ks r σ → PostO E.cl Hs H Q (fun c dd H' => W c dd σ H') (g r) → WOx X e σ H Q
@[simp] def gNoPart : Sl → R (Option Int) := fun _ => .ok none
@[simp] def dPart : D → R (Option Int)
  | .int i => .ok (some i)
  | _ => .stuck
@[simp] def gPart (g : Sl → R D) : Sl → R (Option Int) := fun r => do
  let d ← g r
  dPart d
section
variable {X : Cx} {E : En} {ks : List Kd} {a e : Expr} {ga g : Sl → R D} {pos p2 : Pos} {lo hi : Option Expr} {gl gh : Sl → R (Option Int)}
theorem so_none : SO X E ks none gNoPart := ⟨fun Hs H r σ W Q tk S P => ⟨_, po_none, P Hs H (Grow.refl S.sub)⟩⟩
theorem so_some (h : SE X E ks .bor e g) : SO X E ks (some e) (gPart g) := by
  refine ⟨fun Hs H r σ W Q tk S P => ?_⟩
  refine ⟨_, po_some pe_we, ?_⟩
  refine h.run _ _ _ _ _ _ tk S ?_
  unfold gPart at P
  cases q : g r with
  | stuck => rw [q] at P; exact P
  | exc x => rw [q] at P; exact P
  | ok d =>
    rw [q] at P
    intro v Hs' H' g1 k1
    cases d <;> first | exact False.elim P | skip
    cases k1.rb.intInv
    exact ⟨_, rfl, P Hs' H' g1⟩
@[simp] def dSlL (d : D) (lo hi : Option Int) : R D := match d with
  | .lst ds => .ok (.lst (cutL ds lo hi))
  | .tup ds => .ok (.tup (cutL ds lo hi))
  | .str x => if x.length ≤ szL then .ok (.str (cutS x lo hi)) else .stuck
  | _ => .stuck
theorem cutL_whole {α : Type} {xs : List α} {lo hi : Option Int} (h : HT.sIx xs.length 0 lo = 0 ∧ HT.sIx xs.length xs.length hi = xs.length) : cutL xs lo hi = xs := by
  unfold cutL
  rw [h.1, h.2, List.drop_zero, Nat.sub_zero, List.take_length]
@[simp] def gSl (ga : Sl → R D) (gl gh : Sl → R (Option Int)) : Sl → R D := fun r => do
  let d ← ga r
  let l ← gl r
  let h ← gh r
  dSlL d l h
theorem se_slL (ha : SE X E ks .bor a ga) (hl : SO X E ks lo gl) (hh : SO X E ks hi gh) : SE X E ks (.own none) (.Subscript a (.Slice lo hi none p2) pos) (gSl ga gl gh) := by
  refine ⟨fun Hs H r σ W Q tk S P => ?_⟩
  refine we_of (pe_slice ((sl_list.or sl_tupA).or sl_str) pe_we po_wo po_wo) ?_
  refine ha.run _ _ _ _ _ _ tk S (Post.imp (F := fun d => gl r >>= fun l => gh r >>= fun h => dSlL d l h) P fun d v Hs1 H1 e1 g1 k1 P1 => ?_)
  refine hl.run _ _ _ _ _ _ tk (S.grow g1) ?_
  cases q : gl r with
  | stuck => rw [q] at P1; exact P1
  | exc x => rw [q] at P1; exact P1
  | ok l =>
    rw [q] at P1
    intro Hs2 H2 g2
    refine hh.run _ _ _ _ _ _ tk ((S.grow g1).grow g2) ?_
    have P2 : Post E.cl (.own none) Hs2 H2 Q (fun c dd H' => W c dd σ H') (gh r >>= fun h => dSlL d l h) := Post.grow (r := gh r >>= fun h => dSlL d l h) P1 g2
    cases q2 : gh r with
    | stuck => rw [q2] at P2; exact P2
    | exc x => rw [q2] at P2; exact P2
    | ok h =>
      rw [q2] at P2
      intro Hs3 H3 g3
      have P3 : Post E.cl (.own none) Hs3 H3 Q (fun c dd H' => W c dd σ H') (dSlL d l h) := Post.grow (r := dSlL d l h) P2 g3
      cases d <;> first | exact P3.elim | skip
      · cases ((k1.rb.grow g2).grow g3).strInv
        dsimp only [dSlL] at P3
        split at P3
        · rename_i hz
          exact .inr ⟨_, rfl, by rw [szL_eq]; exact hz, P3.fin g3.sub rfl (.str _)⟩
        · exact P3.elim
      · obtain ⟨p, xs, rfl, h1, r1⟩ := ((k1.rb.grow g2).grow g3).lstInv g3.sub
        exact .inl (.inl ⟨p, xs, rfl, SqL.of h1, fun q hq => P3.finL g3.sub hq (cut_rep r1)⟩)
      · have b1 := (k1.rb.grow g2).grow g3
        have b1' := b1
        obtain ⟨p, xs, rfl, h1, r1⟩ := b1.tupInv g3.sub
        refine .inl (.inr ⟨p, xs, rfl, SqT.of h1, fun z => ?_, fun _ q hq => ?_⟩)
        · rw [r1.length] at z
          dsimp only [dSlL] at P3
          rw [cutL_whole z] at P3
          cases b1' with
          | val rr => exact P3.fin g3.sub rfl rr
        · exact P3 _ _ _ (Grow.new g3.sub hq) (RK.ownPlain rfl (.tup upd_same (RepL.same (Same.updNew (g3.sub.free hq)) _ _ (cut_rep r1))))
end
end VL
end

noncomputable section
namespace VL
open PySem PySem.Spec PyProof.Rows L2
variable {md : Md}

/-- how an argument lies: stable, or borrowed -/
inductive RAs (cl : Cl) (Hs H : Hp) : List Bool → List D → List V → Prop
  | nil : RAs cl Hs H [] [] []
  | val {d : D} {v : V} {bs : List Bool} {ds : List D} {vs : List V} : Rep cl Hs d v → RAs cl Hs H bs ds vs → RAs cl Hs H (true :: bs) (d :: ds) (v :: vs)
  | bor {d : D} {v : V} {bs : List Bool} {ds : List D} {vs : List V} : RB cl Hs H d v → RAs cl Hs H bs ds vs → RAs cl Hs H (false :: bs) (d :: ds) (v :: vs)
theorem RAs.grow {cl : Cl} {Hs H Hs' H' : Hp} (g : Grow Hs H Hs' H') : ∀ {bs : List Bool} {ds : List D} {vs : List V}, RAs cl Hs H bs ds vs → RAs cl Hs' H' bs ds vs
  | _, _, _, .nil => .nil
  | _, _, _, .val r t => .val (Rep.same g.s _ _ r) (RAs.grow g t)
  | _, _, _, .bor r t => .bor (r.grow g) (RAs.grow g t)
theorem RAs.len {cl : Cl} {Hs H : Hp} : ∀ {bs : List Bool} {ds : List D} {vs : List V}, RAs cl Hs H bs ds vs → vs.length = bs.length ∧ ds.length = bs.length
  | _, _, _, .nil => ⟨rfl, rfl⟩
  | _, _, _, .val r t => by simp [RAs.len t]
  | _, _, _, .bor r t => by simp [RAs.len t]
theorem RAs.reps {cl : Cl} {Hs H : Hp} : ∀ {n : Nat} {ds : List D} {vs : List V}, RAs cl Hs H (List.replicate n true) ds vs → RepL cl Hs ds vs
  | 0, _, _, h => by cases h; exact .nil
  | n + 1, _, _, h => by
    rw [List.replicate_succ] at h
    cases h with
    | val r t => exact .cons r (RAs.reps t)
def PostA (cl : Cl) (bs : List Bool) (Hs H : Hp) (Q : List V → Hp → Prop) (W : WX0) : R (List D) → Prop
  | .stuck => False
  | .exc x => ∀ c dd Hs' H', Grow Hs H Hs' H' → XRep cl Hs' H' x c dd → W c dd H'
  | .ok ds => ∀ vs Hs' H', Grow Hs H Hs' H' → RAs cl Hs' H' bs ds vs → Q vs H'
theorem PostA.grow {cl : Cl} {bs : List Bool} {Hs H Hs' H' : Hp} {Q : List V → Hp → Prop} {W : WX0} {r : R (List D)} (P : PostA cl bs Hs H Q W r) (g : Grow Hs H Hs' H') : PostA cl bs Hs' H' Q W r := by
  cases r with
  | stuck => exact P
  | exc x => exact fun c dd Hs2 H2 g2 x2 => P c dd Hs2 H2 (g.trans g2) x2
  | ok d => exact fun vs Hs2 H2 g2 => P vs Hs2 H2 (g.trans g2)
structure SA [md : Md] (X : Cx) (E : En) (ks : List Kd) (bs : List Bool) (es : List Expr) (g : Sl → R (List D)) : Prop where
  run : ∀ (Hs H : Hp) (r : Sl) (σ : L2.St) (W : WX) (Q : List V → Hp → Prop), Takes X W → StRel E Hs H ks r σ → PostA E.cl bs Hs H Q (fun c dd H' => W c dd σ H') (g r) → WAx X es σ H Q
@[simp] def gNil : Sl → R (List D) := fun _ => .ok []
@[simp] def gCons (g : Sl → R D) (t : Sl → R (List D)) : Sl → R (List D) := fun r => do
  let d ← g r
  let ds ← t r
  .ok (d :: ds)
/-- from an argument list to what is made of it -/
theorem PostA.of {cl : Cl} {k : Kd} {bs : List Bool} {Hs H : Hp} {Q : VK} {W : WX0} {r : R (List D)} {f : List D → R D} {Q1 : List V → Hp → Prop} (P : Post cl k Hs H Q W (r >>= f))
    (h : ∀ ds vs Hs' H', r = .ok ds → Grow Hs H Hs' H' → RAs cl Hs' H' bs ds vs → Post cl k Hs' H' Q W (f ds) → Q1 vs H') : PostA cl bs Hs H Q1 W r := by
  cases r with
  | stuck => exact P
  | exc x => exact P
  | ok ds => exact fun vs Hs' H' g a => h ds vs Hs' H' rfl g a (Post.grow (r := f ds) P g)
section
variable {X : Cx} {E : En} {ks : List Kd} {e : Expr} {es : List Expr} {g : Sl → R D} {t : Sl → R (List D)} {bs : List Bool} {pos : Pos}
theorem sa_nil : SA X E ks [] [] gNil := ⟨fun Hs H r σ W Q tk S P => wa_of pa_nil (P [] Hs H (Grow.refl S.sub) .nil)⟩
theorem sa_cons_core {k : Kd} {b : Bool} (he : SE X E ks k e g) (ht : SA X E ks bs es t) (hs : starEach (e :: es) X.env = (false, eval e X.env) :: starEach es X.env)
    (mk : ∀ {cl Hs H H0 d v ds vs}, RK cl k H0 Hs H d v → RAs cl Hs H bs ds vs → RAs cl Hs H (b :: bs) (d :: ds) (v :: vs))
    (gr : ∀ {cl : Cl} {Hs H Hs' H' H0 : Hp} {d : D} {v : V}, RK cl k H0 Hs H d v → Grow Hs H Hs' H' → RK cl k H0 Hs' H' d v) : SA X E ks (b :: bs) (e :: es) (gCons g t) := by
  refine ⟨fun Hs H r σ W Q tk S P => ?_⟩
  refine wa_of (pa_cons pe_we pa_wa hs) ?_
  refine he.run _ _ _ _ _ _ tk S ?_
  unfold gCons at P
  cases q : g r with
  | stuck => rw [q] at P; exact P
  | exc x => rw [q] at P; exact P
  | ok d =>
    rw [q] at P
    intro v Hs1 H1 g1 k1
    refine ht.run _ _ _ _ _ _ tk (S.grow g1) ?_
    have P1 := PostA.grow (r := t r >>= fun ds => R.ok (d :: ds)) P g1
    cases q2 : t r with
    | stuck => rw [q2] at P1; exact P1
    | exc x => rw [q2] at P1; exact P1
    | ok ds =>
      rw [q2] at P1
      exact fun vs Hs2 H2 g2 a2 => P1 _ Hs2 H2 g2 (mk (gr k1 g2) a2)
theorem sa_v (he : SE X E ks .val e g) (ht : SA X E ks bs es t) (hs : starEach (e :: es) X.env = (false, eval e X.env) :: starEach es X.env := by rfl) : SA X E ks (true :: bs) (e :: es) (gCons g t) :=
  sa_cons_core he ht hs (fun k a => .val k.rep a) fun k g => RK.val (Rep.same g.s _ _ k.rep)
theorem sa_b (he : SE X E ks .bor e g) (ht : SA X E ks bs es t) (hs : starEach (e :: es) X.env = (false, eval e X.env) :: starEach es X.env := by rfl) : SA X E ks (false :: bs) (e :: es) (gCons g t) :=
  sa_cons_core he ht hs (fun k a => .bor k.rb a) fun k g => (k.rb.grow g).rk

@[simp] def gLst (t : Sl → R (List D)) : Sl → R D := fun r => do
  let ds ← t r
  if ds.length ≤ szL then .ok (.lst ds) else .stuck
@[simp] def gTup (t : Sl → R (List D)) : Sl → R D := fun r => do
  let ds ← t r
  if ds.length ≤ szL then .ok (.tup ds) else .stuck
theorem se_lst {n : Nat} (h : SA X E ks (List.replicate n true) es t) : SE X E ks (.own none) (.List es pos) (gLst t) := by
  refine ⟨fun Hs H r σ W Q tk S P => ?_⟩
  refine we_of (pe_lst pa_wa) ?_
  refine h.run _ _ _ _ _ _ tk S (PostA.of P fun ds vs Hs' H' e1 g1 a P1 => ?_)
  have rp := a.reps
  split at P1
  · rename_i z
    exact ⟨by rw [szL_eq, rp.length]; exact z, fun p hp => P1.finL g1.sub hp rp⟩
  · exact P1.elim
theorem se_tup {n : Nat} {x1 : Nat} (h : SA X E ks (List.replicate n true) es t) : SE X E ks .val (.Tuple es x1 pos) (gTup t) := by
  refine ⟨fun Hs H r σ W Q tk S P => ?_⟩
  refine we_of (pe_tup pa_wa) ?_
  refine h.run _ _ _ _ _ _ tk S (PostA.of P fun ds vs Hs' H' e1 g1 a P1 => ?_)
  have rp := a.reps
  split at P1
  · rename_i z
    refine ⟨by rw [szL_eq, rp.length]; exact z, fun p hp => ?_⟩
    exact P1 _ _ _ (Grow.new g1.sub hp) (RK.val (.tup upd_same (RepL.same (Same.updNew (g1.sub.free hp)) _ _ rp)))
  · exact P1.elim

def CallV (K : PySem.W.Frag) (rr : List V → Hp → VK → Prop) (k : Kd) (bs : List Bool) (f : List D → R D) : Prop :=
  ∀ (cl : Cl) (Hs H : Hp) (ds : List D) (vs : List V) (Q : VK) (W : WX0), Same Hs H → RAs cl Hs H bs ds vs → Post cl k Hs H Q W (f ds) → rr vs H Q
@[simp] def gCall (f : List D → R D) (t : Sl → R (List D)) : Sl → R D := fun r => do
  let ds ← t r
  f ds
theorem se_callB {id : String} {x : Str} {p : Pos} {rr : List V → Hp → VK → Prop} {k : Kd} {f : List D → R D} (hc : CallR X (.builtin id) rr) (hv : CallV X.K rr k bs f) (hm : X.mg x = none) (hb : bootBuiltins x = some (.builtin id)) (ha : SA X E ks bs (e :: es) t)
    (hg : Gl X x := by rfl) (hn : x ≠ "__name__" := by decide) (hdb : (x == ("__debug__" : Str)) = false := by decide)
    (he : starEach (e :: es) X.env = (false, eval e X.env) :: starEach es X.env := by rfl) (hpl : (backTo pos (starEach es X.env)).any (·.1) = false := by rfl) : SE X E ks k (.Call (.Name x p) (e :: es) [] pos) (gCall f t) := by
  refine ⟨fun Hs H r σ W Q tk S P => ?_⟩
  refine we_of (pe_callB hc hg hm hb pa_wa hn hdb he hpl) ?_
  exact ha.run _ _ _ _ _ _ tk S (PostA.of P fun ds vs Hs' H' e1 g1 a P1 => hv _ _ _ _ _ _ _ g1.sub a P1)
theorem se_callTy {T : String} {x : Str} {p : Pos} {rr : List V → Hp → VK → Prop} {k : Kd} {f : List D → R D} (hc : CallR X (.type T) rr) (hv : CallV X.K rr k bs f) (hm : X.mg x = none) (hb : bootBuiltins x = some (.type T)) (ha : SA X E ks bs (e :: es) t)
    (hg : Gl X x := by rfl) (hn : x ≠ "__name__" := by decide) (hdb : (x == ("__debug__" : Str)) = false := by decide)
    (he : starEach (e :: es) X.env = (false, eval e X.env) :: starEach es X.env := by rfl) (hpl : (backTo pos (starEach es X.env)).any (·.1) = false := by rfl) : SE X E ks k (.Call (.Name x p) (e :: es) [] pos) (gCall f t) := by
  refine ⟨fun Hs H r σ W Q tk S P => ?_⟩
  refine we_of (pe_callTy hc hg hm hb pa_wa hn hdb he hpl) ?_
  exact ha.run _ _ _ _ _ _ tk S (PostA.of P fun ds vs Hs' H' e1 g1 a P1 => hv _ _ _ _ _ _ _ g1.sub a P1)
end

@[simp] def fLen : List D → R D
  | [.lst ds] => .ok (.int ds.length)
  | [.tup ds] => .ok (.int ds.length)
  | [.str x] => if x.length ≤ szL then .ok (.int x.length) else .stuck
  | [.dct ds] => .ok (.int ds.length)
  | _ => .stuck
theorem RAs.one {cl : Cl} {Hs H : Hp} {ds : List D} {vs : List V} (h : RAs cl Hs H [false] ds vs) : ∃ d v, ds = [d] ∧ vs = [v] ∧ RB cl Hs H d v := by
  cases h with
  | bor r t => cases t; exact ⟨_, _, rfl, rfl, r⟩
theorem RAs.two {cl : Cl} {Hs H : Hp} {ds : List D} {vs : List V} (h : RAs cl Hs H [false, false] ds vs) : ∃ d v d' v', ds = [d, d'] ∧ vs = [v, v'] ∧ RB cl Hs H d v ∧ RB cl Hs H d' v' := by
  cases h with
  | bor r t =>
    obtain ⟨d, v, rfl, rfl, r'⟩ := t.one
    exact ⟨_, _, _, _, rfl, rfl, r, r'⟩
theorem RepK.length {cl : Cl} {H : Hp} : ∀ {ds : List (Key × D)} {vs : List (Key × V)}, RepK cl H ds vs → vs.length = ds.length
  | [], _, h => by cases h; rfl
  | (k, d) :: ds, _, h => by
    cases h with
    | cons h1 h2 => rw [List.length_cons, List.length_cons, RepK.length h2]
theorem call_lenR {X : Cx} : CallR X (.builtin "len") (fun xs H Q => ∃ a kvs, xs = [V.ref a] ∧ Rd H a (.dK kvs) ∧ Q (.int kvs.length) H) := by
  intro pins s σ H xs us Q I r h
  obtain ⟨a, kvs, rfl, ha, q⟩ := h
  obtain ⟨u, rfl, ru⟩ := vals1 r
  cases ru
  exact d_len I ha fun t s' I' => ⟨.int kvs.length, H, I', ⟨t, rfl⟩, q⟩
theorem callv_len {X : Cx} : CallV X.K (fun xs H Q => (∃ x n, xs = [x] ∧ LenV X.K x H n ∧ Q (.int n) H) ∨ (∃ a kvs, xs = [V.ref a] ∧ Rd H a (.dK kvs) ∧ Q (.int kvs.length) H)) .val [false] fLen := by
  intro cl Hs H ds vs Q W e a P
  obtain ⟨d, v, rfl, rfl, r⟩ := a.one
  cases d <;> first | exact P.elim | skip
  · cases r.strInv
    dsimp only [fLen] at P
    split at P
    · rename_i h
      exact .inl ⟨_, _, rfl, ⟨by rw [szL_eq]; exact h, rfl⟩, P.finV e (.int _)⟩
    · exact P.elim
  · obtain ⟨p, xs, rfl, h1, r1⟩ := r.lstInv e
    refine .inl ⟨_, xs.length, rfl, .inl ⟨xs, SqL.of h1, rfl⟩, ?_⟩
    rw [r1.length]
    exact P.finV e (.int _)
  · obtain ⟨p, xs, rfl, h1, r1⟩ := r.tupInv e
    refine .inl ⟨_, xs.length, rfl, .inr ⟨xs, SqT.of h1, rfl⟩, ?_⟩
    rw [r1.length]
    exact P.finV e (.int _)
  · obtain ⟨p, xs, rfl, h1, r1⟩ := r.dctInv e
    refine .inr ⟨p, xs, rfl, h1, ?_⟩
    rw [r1.length]
    exact P.finV e (.int _)
@[simp] def fMin2 : List D → R D
  | [.int i, .int j] => .ok (.int (if j < i then j else i))
  | _ => .stuck
theorem callv_min2 {X : Cx} : CallV X.K (fun xs H Q => ∃ i j, xs = [.int i, .int j] ∧ Q (.int (if j < i then j else i)) H) .val [false, false] fMin2 := by
  intro cl Hs H ds vs Q W e a P
  obtain ⟨d, v, d', v', rfl, rfl, r, r'⟩ := a.two
  cases d <;> cases d' <;> first | exact P.elim | skip
  cases r.intInv
  cases r'.intInv
  exact ⟨_, _, rfl, P.finV e (.int _)⟩
/-- a list of whole numbers -/
def intsOf : List D → Option (List Int)
  | [] => some []
  | .int i :: r => (intsOf r).map (i :: ·)
  | _ :: _ => none
theorem intsOf_map (ns : List Int) : intsOf (ns.map D.int) = some ns := by
  induction ns with
  | nil => rfl
  | cons n ns ih => rw [List.map_cons, intsOf, ih]; rfl
theorem intsOf_eq : ∀ {ds : List D} {ns : List Int}, intsOf ds = some ns → ds = ns.map D.int
  | [], _, h => by cases h; rfl
  | d :: r, _, h => by
    cases d <;> first | cases h | skip
    rename_i i
    dsimp only [intsOf] at h
    cases q : intsOf r with
    | none => rw [q] at h; cases h
    | some ms =>
      rw [q] at h
      cases h
      rw [intsOf_eq q]
      rfl
def fSum : List D → R D
  | [.lst ds] => match intsOf ds with
    | some ns => .ok (.int ns.sum)
    | none => .stuck
  | _ => .stuck
def lmax : List Int → Int
  | [] => 0
  | [x] => x
  | x :: y :: r => max x (lmax (y :: r))
def lmin : List Int → Int
  | [] => 0
  | [x] => x
  | x :: y :: r => min x (lmin (y :: r))
theorem lmax_of : ∀ {ns : List Int} {m : Int}, m ∈ ns → (∀ y, y ∈ ns → y ≤ m) → m = lmax ns
  | [], _, h, _ => by cases h
  | [x], m, h, _ => by simpa [lmax] using h
  | x :: y :: r, m, h, k => by
    have hx : x ≤ m := k x (by simp)
    unfold lmax
    rcases List.mem_cons.mp h with e | h
    · subst e
      have : lmax (y :: r) ≤ m := by
        clear h
        have key : ∀ (l : List Int), l ≠ [] → (∀ z ∈ l, z ≤ m) → lmax l ≤ m := by
          intro l
          induction l with
          | nil => intro h; exact absurd rfl h
          | cons a t ih =>
            intro _ hz
            cases t with
            | nil => exact hz a (by simp)
            | cons b t =>
              unfold lmax
              have h1 := hz a (by simp)
              have h2 := ih (by simp) fun z hz' => hz z (List.mem_cons_of_mem _ hz')
              omega
        exact key _ (by simp) fun z hz => k z (List.mem_cons_of_mem _ hz)
      omega
    · have e := lmax_of h fun z hz => k z (List.mem_cons_of_mem _ hz)
      omega
theorem lmin_of : ∀ {ns : List Int} {m : Int}, m ∈ ns → (∀ y, y ∈ ns → m ≤ y) → m = lmin ns
  | [], _, h, _ => by cases h
  | [x], m, h, _ => by simpa [lmin] using h
  | x :: y :: r, m, h, k => by
    have hx : m ≤ x := k x (by simp)
    unfold lmin
    rcases List.mem_cons.mp h with e | h
    · subst e
      have : m ≤ lmin (y :: r) := by
        clear h
        have key : ∀ (l : List Int), l ≠ [] → (∀ z ∈ l, m ≤ z) → m ≤ lmin l := by
          intro l
          induction l with
          | nil => intro h; exact absurd rfl h
          | cons a t ih =>
            intro _ hz
            cases t with
            | nil => exact hz a (by simp)
            | cons b t =>
              unfold lmin
              have h1 := hz a (by simp)
              have h2 := ih (by simp) fun z hz' => hz z (List.mem_cons_of_mem _ hz')
              omega
        exact key _ (by simp) fun z hz => k z (List.mem_cons_of_mem _ hz)
      omega
    · have e := lmin_of h fun z hz => k z (List.mem_cons_of_mem _ hz)
      omega
def fMax1 : List D → R D
  | [.lst ds] => match intsOf ds with
    | some ns => if ns = [] then .stuck else .ok (.int (lmax ns))
    | none => .stuck
  | _ => .stuck
def fMin1 : List D → R D
  | [.lst ds] => match intsOf ds with
    | some ns => if ns = [] then .stuck else .ok (.int (lmin ns))
    | none => .stuck
  | _ => .stuck
theorem RB.intsInv {cl : Cl} {Hs H : Hp} {ds : List D} {ns : List Int} {v : V} (h : RB cl Hs H (.lst ds) v) (e : Same Hs H) (q : intsOf ds = some ns) : ∃ a, v = .ref a ∧ H a = some (.lst (ns.map V.int)) := by
  obtain ⟨p, xs, rfl, h1, r1⟩ := h.lstInv e
  rw [intsOf_eq q] at r1
  rw [r1.ints] at h1
  exact ⟨p, rfl, h1⟩
theorem callv_sum {X : Cx} : CallV X.K (rSum X.K) .val [false] fSum := by
  intro cl Hs H ds vs Q W e a P
  obtain ⟨d, v, rfl, rfl, r⟩ := a.one
  cases d <;> first | exact P.elim | skip
  dsimp only [fSum] at P
  split at P
  · rename_i ns q
    obtain ⟨p, rfl, h1⟩ := r.intsInv e q
    exact ⟨p, ns, rfl, SqL.of h1, P.finV e (.int _)⟩
  · exact P.elim
theorem callv_max1 {X : Cx} : CallV X.K (rMax X.K) .val [false] fMax1 := by
  intro cl Hs H ds vs Q W e a P
  obtain ⟨d, v, rfl, rfl, r⟩ := a.one
  cases d <;> first | exact P.elim | skip
  dsimp only [fMax1] at P
  split at P
  · rename_i ns q
    split at P
    · exact P.elim
    · rename_i hn
      obtain ⟨p, rfl, h1⟩ := r.intsInv e q
      refine ⟨p, ns, rfl, SqL.of h1, List.length_pos_iff.mpr hn, fun m hm hle => ?_⟩
      rw [lmax_of hm hle]
      exact P.finV e (.int _)
  · exact P.elim
theorem callv_min1 {X : Cx} : CallV X.K (rMin X.K) .val [false] fMin1 := by
  intro cl Hs H ds vs Q W e a P
  obtain ⟨d, v, rfl, rfl, r⟩ := a.one
  cases d <;> first | exact P.elim | skip
  dsimp only [fMin1] at P
  split at P
  · rename_i ns q
    split at P
    · exact P.elim
    · rename_i hn
      obtain ⟨p, rfl, h1⟩ := r.intsInv e q
      refine ⟨p, ns, rfl, SqL.of h1, List.length_pos_iff.mpr hn, fun m hm hle => ?_⟩
      rw [lmin_of hm hle]
      exact P.finV e (.int _)
  · exact P.elim
@[simp] def fList : List D → R D
  | [.lst ds] => .ok (.lst ds)
  | [.tup ds] => .ok (.lst ds)
  | _ => .stuck
@[simp] def fTuple : List D → R D
  | [.lst ds] => .ok (.tup ds)
  | [.tup ds] => .ok (.tup ds)
  | _ => .stuck
theorem callv_list {X : Cx} : CallV X.K (fun xs H Q => ∃ p ys, xs = [.ref p] ∧ (SqL X.K H p ys ∨ SqT X.K H p ys) ∧ ∀ l, H l = none → Q (.ref l) (upd H l (.lst ys))) (.own none) [false] fList := by
  intro cl Hs H ds vs Q W e a P
  obtain ⟨d, v, rfl, rfl, r⟩ := a.one
  cases d <;> first | exact P.elim | skip
  · obtain ⟨p, xs, rfl, h1, r1⟩ := r.lstInv e
    exact ⟨p, xs, rfl, .inl (SqL.of h1), fun l hl => P.finL e hl r1⟩
  · obtain ⟨p, xs, rfl, h1, r1⟩ := r.tupInv e
    exact ⟨p, xs, rfl, .inr (SqT.of h1), fun l hl => P.finL e hl r1⟩
theorem callv_tuple {X : Cx} : CallV X.K (fun xs H Q => ∃ p ys, xs = [.ref p] ∧ ((SqL X.K H p ys ∧ ∀ l, H l = none → Q (.ref l) (upd H l (.tup ys))) ∨ (SqT X.K H p ys ∧ Q (.ref p) H))) .val [false] fTuple := by
  intro cl Hs H ds vs Q W e a P
  obtain ⟨d, v, rfl, rfl, r⟩ := a.one
  cases d <;> first | exact P.elim | skip
  · obtain ⟨p, xs, rfl, h1, r1⟩ := r.lstInv e
    refine ⟨p, xs, rfl, .inl ⟨SqL.of h1, fun l hl => ?_⟩⟩
    exact P _ _ _ (Grow.new e hl) (RK.val (.tup upd_same (RepL.same (Same.updNew (e.free hl)) _ _ r1)))
  · cases r with
    | val r0 =>
      cases r0 with
      | tup h1 r1 => exact ⟨_, _, rfl, .inr ⟨SqT.of (e.at _ _ h1), P.finV e (.tup h1 r1)⟩⟩
end VL
end

noncomputable section
namespace VL
open PySem PySem.Spec PyProof.Rows L2
variable {md : Md}

theorem turn_longrange {P : Program} {w : World} {K : PySem.W.Frag} {tg : Expr} (it : Addr) (lo : Int) (n : Nat) : Turn P w K tg (Itr lo n) [it] it (fun i h => IsLongIter h it (lo + (i : Nat) * 1) ((n : Int) - (i : Nat)) 1) where
  mem := by simp
  obj := fun i h st b hb => by
    have e : b = it := by simpa using hb
    subst e
    exact ⟨_, st, fun v z => by
      have z' : Data.fields _ = Data.cell v := z
      cases z'⟩
  keep := fun i h h' st k => k it (by simp) _ st
  item := by
    intro X hP hw hK hc i pins s σ H E I hf st hg
    subst hP hw hK
    obtain ⟨f0, f1, f2, f3, f4, f5⟩ := hf it (by simp)
    have W := Walks.longrange (prog := X.prog) (w := X.w) (I.ok.hd hc) it lo 1 n
    refine W.item i s _ _ hg st fun v h' tk hv st' kk => ?_
    obtain ⟨t, rfl⟩ := hv
    have I1 : Inv X pins σ H { s with heap := h', toks := tk } := I.turned (fun b o hb e => kk b o (by simpa using hb) e) f0 f1 f3 f4 f5
    refine ⟨_, rfl, go_of (s := { s with heap := h', toks := tk }) (n := "longrange_iterator") st' rfl rfl (by decide) ⟨.int (lo + i), H, I1, ⟨t, ?_⟩, ⟨rfl, rfl⟩, st', fun b hb => (hf b hb).1⟩⟩
    rw [Int.mul_one]
  done := by
    intro X hP hw hK hc i pins s σ H E I hf st hg
    subst hP hw hK
    obtain ⟨f0, f1, f2, f3, f4, f5⟩ := hf it (by simp)
    exact wpAny_pyNext_long_end (I.ok.hd hc) st (by have : n ≤ i := hg; omega) fun h' eb => ⟨rfl, I.turned (t' := s.toks) (fun b o hb e => eb b o hb e) f0 f1 f3 f4 f5⟩
  self := fun _ _ _ _ _ st h => wpAny_pyIter_longiter st h
section
variable {X : Cx} {tg : Expr}
/-- a range object just made, walked, wherever its ends lie -/
theorem range_itA {pins : List (Addr × Obj)} {σ : L2.St} {H : Hp} {s : Shared} {R : It → Hp → Prop} {E : Value → Shared → Prop} {lo hi : Int} {t u v : Tok} {tk : Nat} (I : Inv X pins σ H s)
    (q : R (Itr lo (hi - lo).toNat) H) : wpAny (model X.prog X.w) X.A (pyIter (.ref s.heap.objs.size)) (PIE X pins σ tg R) E { s with heap := s.heap.push { cls := .type "range", data := .fields #[.int lo t, .int hi u, .int 1 v] }, toks := tk } := by
  have I1 : Inv X pins σ H { s with heap := s.heap.push { cls := .type "range", data := .fields #[.int lo t, .int hi u, .int 1 v] }, toks := tk } := I.kept fun b o e => Heap.get?_push_of_some _ e
  have e1 : lo + ((0 : Nat) : Int) * 1 = lo := by simp
  have e2 : (((hi - lo).toNat : Nat) : Int) - ((0 : Nat) : Int) = Builtin.Range.rangeSize lo hi 1 := by rw [rangeSize_one]; split <;> omega
  cases z : Builtin.Range.small lo hi 1 with
  | true =>
    refine wpAny_pyIter_range (IsRange.new ..) z ?_
    refine ⟨_, [_], _, _, H, rfl, I1.kept (t' := tk) fun b o e => Heap.get?_push_of_some _ e, turn_range _ lo (hi - lo).toNat, ?_, fun b hb => ?_, q⟩
    · show IsRangeIter _ _ (lo + ((0 : Nat) : Int) * 1) ((((hi - lo).toNat : Nat) : Int) - ((0 : Nat) : Int)) 1
      rw [e1, e2]
      exact Heap.get?_push_size _ rfl
    · have e := List.mem_singleton.mp hb
      subst e
      exact I1.fpOk (Nat.le_refl _) (I1.hok.fresh (Nat.le_refl _))
  | false =>
    refine wpAny_pyIter_longrange (IsRange.new ..) z ?_
    refine ⟨_, [_], _, _, H, rfl, I1.kept (t' := tk) fun b o e => Heap.get?_push_of_some _ e, turn_longrange _ lo (hi - lo).toNat, ?_, fun b hb => ?_, q⟩
    · show IsLongIter _ _ (lo + ((0 : Nat) : Int) * 1) ((((hi - lo).toNat : Nat) : Int) - ((0 : Nat) : Int)) 1
      rw [e1, e2]
      exact Heap.get?_push_size _ rfl
    · have e := List.mem_singleton.mp hb
      subst e
      exact I1.fpOk (Nat.le_refl _) (I1.hok.fresh (Nat.le_refl _))
def iRngA1 (ta : TA) : TI := fun σ H R => ta σ H fun vs H1 => ∃ j : Int, vs = [.int j] ∧ R (Itr 0 j.toNat) H1
def iRngA2 (ta : TA) : TI := fun σ H R => ta σ H fun vs H1 => ∃ i j : Int, vs = [.int i, .int j] ∧ R (Itr i (j - i).toNat) H1
theorem pi_rangeA1 {a : Expr} {ta : TA} {p pos : Pos} (hg : Gl X "range") (hm : X.mg "range" = none) (ha : PA X [a] ta) (hs : starEach [a] X.env = [(false, eval a X.env)] := by rfl) : PI X tg (.Call (.Name "range" p) [a] [] pos) (iRngA1 ta) := by
  refine ⟨fun pins s σ H R I h => ?_⟩
  refine Call_ (ld_blt I hg hm boot_range (PyProof.Rows.callWith_type1 (thn (ha.run pos pins s σ H _ I h) fun us s1 ⟨vs, H1, I1, r1, q1⟩ => ?_) hs rfl))
  obtain ⟨j, e, q⟩ := q1
  subst e
  cases r1 with
  | cons r rr =>
    cases rr
    obtain ⟨t, rfl⟩ := r
    exact call_range_1 (range_itA I1 (by simpa using q))
theorem pi_rangeA2 {a b : Expr} {ta : TA} {p pos : Pos} (hg : Gl X "range") (hm : X.mg "range" = none) (ha : PA X [a, b] ta) (hs : starEach [a, b] X.env = [(false, eval a X.env), (false, eval b X.env)] := by rfl) (hs2 : starEach [b] X.env = [(false, eval b X.env)] := by rfl) :
    PI X tg (.Call (.Name "range" p) [a, b] [] pos) (iRngA2 ta) := by
  refine ⟨fun pins s σ H R I h => ?_⟩
  refine Call_ (ld_blt I hg hm boot_range (PyProof.Rows.callWith_type1 (thn (ha.run pos pins s σ H _ I h) fun us s1 ⟨vs, H1, I1, r1, q1⟩ => ?_) (by rw [hs, hs2]) (by rw [hs2]; rfl)))
  obtain ⟨i, j, e, q⟩ := q1
  subst e
  cases r1 with
  | cons r rr =>
    cases rr with
    | cons r' rr =>
      cases rr
      obtain ⟨t, rfl⟩ := r
      obtain ⟨t', rfl⟩ := r'
      exact call_range_2 (range_itA I1 q)
end

def setV (σ : L2.St) : List Nat → List V → L2.St
  | i :: is, v :: vs => setV (σ.set i (some v)) is vs
  | _, _ => σ
@[simp] def setD (r : Sl) : List Nat → List D → Sl
  | i :: is, d :: ds => setD (r.set i (some d)) is ds
  | _, _ => r
def setK (ks : List Kd) : List Nat → List Kd
  | i :: is => setK (ks.set i .val) is
  | [] => ks
inductive Tg where
  | one (i : Nat)
  | tup (is : List Nat)
@[simp] def Tg.is : Tg → List Nat
  | .one i => [i]
  | .tup is => is
@[simp] def Tg.un : Tg → D → R (List D)
  | .one _, d => .ok [d]
  | .tup is, .tup ds => if ds.length = is.length then .ok ds else .stuck
  | .tup _, _ => .stuck
def WGx (X : Cx) (tg : Expr) : TG := fun v σ H Q => ∃ t, PG X tg t ∧ t v σ H Q
theorem pg_wg {X : Cx} {tg : Expr} : PG X tg (WGx X tg) := ⟨fun pins s σ H v u Q I r ⟨t, p, h⟩ => p.run pins s σ H v u Q I r h⟩
structure SG (X : Cx) (tg : Expr) (t : Tg) : Prop where
  run : ∀ (cl : Cl) (Hs H : Hp) (σ : L2.St) (d : D) (v : V) (ds : List D) (Q : L2.St → Hp → Prop), Same Hs H → Rep cl Hs d v → t.un d = .ok ds → (∀ vs, RepL cl Hs ds vs → Q (setV σ t.is vs) H) → WGx X tg v σ H Q
section
variable {X : Cx} {pos : Pos}
theorem sg_name {i : Nat} {x : Str} (hN : X.N.Nodup) (hi : X.N[i]? = some x := by rfl) (hx : Loc X.env.scope x := by first | exact Or.inl rfl | exact Or.inr rfl)
    (hf : X.fn x = true ∨ X.env.scope.names.lookup x = some .local := by first | exact .inl rfl | exact .inr rfl | assumption) : SG X (.Name x pos) (.one i) := by
  refine ⟨fun cl Hs H σ d v ds Q e r h q => ?_⟩
  cases h
  exact ⟨_, pg_name hN hi hx hf, q [v] (.cons r .nil)⟩
def gsN : List Nat → TGs
  | [] => L2.gNil
  | i :: is => L2.gCons (gName i) (gsN is)
theorem gsN_read : ∀ {is : List Nat} {vs : List V} {σ : L2.St} {H : Hp} {Q : L2.St → Hp → Prop}, vs.length = is.length → Q (setV σ is vs) H → gsN is vs σ H Q
  | [], [], _, _, _, _, q => ⟨rfl, q⟩
  | [], _ :: _, _, _, _, h, _ => by cases h
  | _ :: _, [], _, _, _, h, _ => by cases h
  | i :: is, v :: vs, σ, H, Q, h, q => ⟨v, vs, rfl, gsN_read (by simpa using h) q⟩
theorem sgs_nil : PGs X [] (gsN []) := pgs_nil
theorem sgs_cons {i : Nat} {x : Str} {es : List Expr} {is : List Nat} (hN : X.N.Nodup) (ht : PGs X es (gsN is)) (hi : X.N[i]? = some x := by rfl) (hx : Loc X.env.scope x := by first | exact Or.inl rfl | exact Or.inr rfl)
    (hf : X.fn x = true ∨ X.env.scope.names.lookup x = some .local := by first | exact .inl rfl | exact .inr rfl | assumption)
    (hs : (assignEach (.Name x pos :: es) X.env).map (·.2) = assign (.Name x pos) X.env :: (assignEach es X.env).map (·.2) := by rfl) : PGs X (.Name x pos :: es) (gsN (i :: is)) := pgs_cons (pg_name hN hi hx hf) ht hs
theorem sg_tup {es : List Expr} {is : List Nat} {k : Nat} (hc : X.calm = true) (h : PGs X es (gsN is)) (hn : (assignEach es X.env).length = is.length := by rfl) (hst : (assignEach es X.env).findIdx? (·.1) = none := by rfl) : SG X (.Tuple es k pos) (.tup is) := by
  refine ⟨fun cl Hs H σ d v ds Q e r hu q => ?_⟩
  cases d <;> first | (cases hu; done) | skip
  dsimp only [Tg.un] at hu
  split at hu
  · rename_i hl
    cases hu
    cases r with
    | tup h1 h2 => exact ⟨_, pg_tup hc h hn hst, _, _, rfl, SqT.of (e.at _ _ h1), by rw [h2.length]; exact hl, gsN_read (by rw [h2.length]; exact hl) (q _ h2)⟩
  · cases hu
end
section
variable {E : En} {Hs H : Hp} {ks : List Kd} {r : Sl} {σ : L2.St}
theorem StOk.put {As : List Addr} {i : Nat} {k : Kd} {d : D} {v : V} (S : StOk E Hs H ks r σ As) (hk : ks[i]? = some k) (rp : Rep E.cl Hs d v) : ∃ As', StOk E Hs H (ks.set i .val) (r.set i (some d)) (σ.set i (some v)) As' := by
  obtain ⟨pre, A, post, e, _, f, _, _⟩ := S.sl.at_ i hk
  have sub : (pre ++ ([] ++ post)).Sublist As := by
    rw [e]
    exact List.Sublist.append (List.Sublist.refl _) (by
      rw [List.nil_append]
      exact List.sublist_append_right _ _)
  exact ⟨_, f .val d v [] (.val rp), S.nd.sublist sub, fun a ha => S.dis a (sub.subset ha), S.es, S.sub, S.eb, S.new, S.dom, S.tb⟩
theorem StRel.put {i : Nat} {k : Kd} {d : D} {v : V} (S : StRel E Hs H ks r σ) (hk : ks[i]? = some k) (rp : Rep E.cl Hs d v) : StRel E Hs H (ks.set i .val) (r.set i (some d)) (σ.set i (some v)) :=
  let ⟨_, s⟩ := S
  s.put hk rp
theorem StRel.wipe1 {i : Nat} {k k' : Kd} (S : StRel E Hs H ks r σ) (hk : ks[i]? = some k) (x : Option V) : StRel E Hs H (ks.set i k') (r.set i none) (σ.set i x) := by
  obtain ⟨As, S⟩ := S
  obtain ⟨pre, A, post, e, _, _, f, _⟩ := S.sl.at_ i hk
  have sub : (pre ++ post).Sublist As := by
    rw [e]
    exact List.Sublist.append (List.Sublist.refl _) (List.sublist_append_right _ _)
  exact ⟨_, f k' x, S.nd.sublist sub, fun a ha => S.dis a (sub.subset ha), S.es, S.sub, S.eb, S.new, S.dom, S.tb⟩
theorem StRel.puts : ∀ {is : List Nat} {ks : List Kd} {r : Sl} {σ : L2.St} {ds : List D} {vs : List V}, StRel E Hs H ks r σ → (∀ i ∈ is, i < ks.length) → ds.length = is.length → RepL E.cl Hs ds vs → StRel E Hs H (setK ks is) (setD r is ds) (setV σ is vs)
  | [], _, _, _, [], _, S, _, _, rp => by cases rp; exact S
  | [], _, _, _, _ :: _, _, _, _, h, _ => by cases h
  | _ :: _, _, _, _, [], _, _, _, h, _ => by cases h
  | i :: is, ks, r, σ, d :: ds, _, S, hi, hl, rp => by
    cases rp with
    | cons r1 r2 =>
      have h0 := hi i List.mem_cons_self
      refine StRel.puts (is := is) (S.put (k := ks[i]) (by simp [h0]) r1) (fun j hj => ?_) (by simpa using hl) r2
      rw [List.length_set]
      exact hi j (List.mem_cons_of_mem _ hj)
end
theorem Tg.un_len {t : Tg} {d : D} {ds : List D} (h : t.un d = .ok ds) : ds.length = t.is.length := by
  cases t with
  | one i => cases h; rfl
  | tup is =>
    cases d <;> first | (cases h; done) | skip
    dsimp only [Tg.un] at h
    split at h
    · rename_i e
      cases h
      exact e
    · cases h

/-- all lists are within the line -/
def LenOk (H : Hp) : Prop := ∀ a xs, H a = some (.lst xs) → xs.length ≤ szL
def LenOkT (H : Hp) : Prop := ∀ a xs, H a = some (.tup xs) → xs.length ≤ szL
theorem Inv.lens {X : Cx} {pins : List (Addr × Obj)} {σ : L2.St} {H : Hp} {s : Shared} (I : Inv X pins σ H s) : LenOk H ∧ LenOkT H :=
  ⟨fun a xs e => by
    have q := (I.hok a _ e).1
    rw [szL_eq] at q
    exact q, fun a xs e => by
    have q := (I.hok a _ e).1
    rw [szL_eq] at q
    exact q⟩
theorem we_len {X : Cx} {e : Expr} {σ : L2.St} {H : Hp} {Q : VK} (h : WEx X e σ H fun v H' => LenOk H' ∧ LenOkT H' → Q v H') : WEx X e σ H Q := fun pins s I => thn (h pins s I) fun u s' ⟨v, H', I', r, q⟩ => ⟨v, H', I', r, q (VL.Inv.lens I')⟩
structure ItOk (cl : Cl) (J : It) (ds : List D) (Hs1 Bq : Hp) : Prop where
  len : ds.length ≤ szL
  go : ∀ Hs H, Same Hs1 Hs → Same Hs H → Same Bq H → ∀ i, i < ds.length → J.go i H
  stop : ∀ Hs H, Same Hs1 Hs → Same Hs H → Same Bq H → J.stop ds.length H
  yld : ∀ Hs H, Same Hs1 Hs → Same Hs H → Same Bq H → ∀ i d x H', ds[i]? = some d → J.yld i H x H' → ∃ Hs', Grow Hs H Hs' H' ∧ Rep cl Hs' d x
/-- what may be walked while others change: stable, or borrowed from the caller; md = false: while nothing is changed -/
inductive RQ (cl : Cl) (Hs Bq : Hp) : D → V → Prop
  | val {d : D} {v : V} : Rep cl Hs d v → RQ cl Hs Bq d v
  | lst {a : Addr} {ds : List D} {xs : List V} : Bq a = some (.lst xs) → RepL cl Hs ds xs → RQ cl Hs Bq (.lst ds) (.ref a)
  | dct {a : Addr} {ds : List (Key × D)} {xs : List (Key × V)} : Rd Bq a (.dK xs) → RepK cl Hs ds xs → RQ cl Hs Bq (.dct ds) (.ref a)
  | obj {C : Str} {ds : List (Str × D)} {v : V} : RQ cl Hs Bq (.obj C ds) v
def bq (E : En) (md : Bool) (H : Hp) : Hp := if md then E.b else H
def PostQ (E : En) (md : Bool) (Hs H : Hp) (Q : VK) (W : WX0) : R D → Prop
  | .stuck => False
  | .exc x => ∀ c dd Hs' H', Grow Hs H Hs' H' → XRep E.cl Hs' H' x c dd → W c dd H'
  | .ok d => ∀ v Hs' H', Grow Hs H Hs' H' → RQ E.cl Hs' (bq E md H') d v → Q v H'
theorem PostQ.grow {E : En} {md : Bool} {Hs H Hs' H' : Hp} {Q : VK} {W : WX0} {r : R D} (P : PostQ E md Hs H Q W r) (g : Grow Hs H Hs' H') : PostQ E md Hs' H' Q W r := by
  cases r with
  | stuck => exact P
  | exc x => exact fun c dd Hs2 H2 g2 x2 => P c dd Hs2 H2 (g.trans g2) x2
  | ok d => exact fun v Hs2 H2 g2 => P v Hs2 H2 (g.trans g2)
structure SQ [md : Md] (X : Cx) (E : En) (ks : List Kd) (md : Bool) (e : Expr) (g : Sl → R D) : Prop where
  run : ∀ (Hs H : Hp) (r : Sl) (σ : L2.St) (W : WX) (Q : VK), Takes X W → StRel E Hs H ks r σ → PostQ E md Hs H Q (fun c dd H' => W c dd σ H') (g r) → WEx X e σ H Q
section
variable {X : Cx} {E : En} {ks : List Kd} {md : Bool} {e : Expr} {g : Sl → R D} {pos : Pos}
theorem sq_val (h : SE X E ks .val e g) : SQ X E ks md e g := by
  refine ⟨fun Hs H r σ W Q tk S P => ?_⟩
  refine h.run _ _ _ _ _ _ tk S ?_
  cases q : g r with
  | stuck => rw [q] at P; exact P
  | exc x => rw [q] at P; exact P
  | ok d =>
    rw [q] at P
    exact fun v Hs' H' g1 k1 => P v Hs' H' g1 (.val k1.rep)
theorem sq_bor (h : SE X E ks .bor e g) : SQ X E ks false e g := by
  refine ⟨fun Hs H r σ W Q tk S P => ?_⟩
  refine h.run _ _ _ _ _ _ tk S ?_
  cases q : g r with
  | stuck => rw [q] at P; exact P
  | exc x => rw [q] at P; exact P
  | ok d =>
    rw [q] at P
    intro v Hs' H' g1 k1
    refine P v Hs' H' g1 ?_
    cases k1.rb with
    | val h1 => exact .val h1
    | lst h1 h2 => exact .lst h1 h2
    | dct h1 h2 => exact .dct h1 h2
    | obj _ _ _ => exact .obj
theorem sq_par {i : Nat} {x : Str} (hk : ks[i]? = some .bor := by rfl) (hN : X.N[i]? = some x := by rfl) (hv : Vis X.env.scope x := by first | exact Or.inl rfl | exact Or.inr (Or.inl rfl) | exact Or.inr (Or.inr rfl))
    (hq : NmOk x) : SQ X E ks true (.Name x pos) (gVar i) := by
  refine ⟨fun Hs H r σ W Q tk S P => ?_⟩
  refine we_of (pe_var hN hv hq.1 hq.2) ?_
  cases q : gVar i r with
  | stuck => rw [q] at P; exact P.elim
  | exc x => exact (gVar_exc q).elim
  | ok d =>
    rw [q] at P
    obtain ⟨v, A, e, o⟩ := S.get hk (gVar_ok q)
    refine ⟨v, e, P v Hs H (Grow.refl S.sub) ?_⟩
    cases o with
    | borV rp => exact .val rp
    | borL h1 h2 => exact .lst h1 h2
    | borK h1 h2 => exact .dct h1 h2
    | borO _ _ _ => exact .obj
end
def WIx (X : Cx) (tg iter : Expr) : TI := fun σ H R => ∃ wi, PI X tg iter wi ∧ wi σ H R
theorem pi_wi {X : Cx} {tg iter : Expr} : PI X tg iter (WIx X tg iter) := ⟨fun pins s σ H R I ⟨wi, p, h⟩ => p.run pins s σ H R I h⟩
def PostI (E : En) (md : Bool) (Hs H : Hp) (Rr : It → Hp → Prop) (W : WX0) : R (List D) → Prop
  | .stuck => False
  | .exc x => ∀ c dd Hs' H', Grow Hs H Hs' H' → XRep E.cl Hs' H' x c dd → W c dd H'
  | .ok ds => ∀ J Hs' H', Grow Hs H Hs' H' → ItOk E.cl J ds Hs' (bq E md H') → Rr J H'
theorem PostI.grow {E : En} {md : Bool} {Hs H Hs' H' : Hp} {Q : It → Hp → Prop} {W : WX0} {r : R (List D)} (P : PostI E md Hs H Q W r) (g : Grow Hs H Hs' H') : PostI E md Hs' H' Q W r := by
  cases r with
  | stuck => exact P
  | exc x => exact fun c dd Hs2 H2 g2 x2 => P c dd Hs2 H2 (g.trans g2) x2
  | ok d => exact fun v Hs2 H2 g2 => P v Hs2 H2 (g.trans g2)
structure SI [md : Md] (X : Cx) (E : En) (ks : List Kd) (md : Bool) (tg iter : Expr) (g : Sl → R (List D)) : Prop where
  run : ∀ (Hs H : Hp) (r : Sl) (σ : L2.St) (W : WX) (Q : It → Hp → Prop), Takes X W → StRel E Hs H ks r σ → PostI E md Hs H Q (fun c dd H' => W c dd σ H') (g r) → WIx X tg iter σ H Q
/-- what is walked of a value -/
@[simp] def dIter : D → R (List D)
  | .lst ds => .ok ds
  | .tup ds => .ok ds
  | .str x => if x.cps.size ≤ szL then .ok (x.cps.toList.map fun c => .str ⟨#[c]⟩) else .stuck
  | _ => .stuck
@[simp] def gIter (g : Sl → R D) : Sl → R (List D) := fun r => do
  let d ← g r
  dIter d
section
variable {X : Cx} {E : En} {ks : List Kd} {md : Bool} {tg e e2 : Expr} {g g2 : Sl → R D} {pos p : Pos}
theorem PostQ.ofI {Hs H : Hp} {Q : It → Hp → Prop} {W : WX0} {r : R D} {f : D → R (List D)} (P : PostI E md Hs H Q W (r >>= f)) {Q1 : VK}
    (h : ∀ d v Hs' H', r = .ok d → Grow Hs H Hs' H' → RQ E.cl Hs' (bq E md H') d v → PostI E md Hs' H' Q W (f d) → Q1 v H') : PostQ E md Hs H Q1 W r := by
  cases r with
  | stuck => exact P
  | exc x => exact P
  | ok d => exact fun v Hs' H' g rk => h d v Hs' H' rfl g rk (PostI.grow (r := f d) P g)
theorem RQ.root {cl : Cl} {Hs Bq H Hs' : Hp} {ds : List D} {v : V} (q : RQ cl Hs Bq (.lst ds) v) : ∃ a xs, v = .ref a ∧ RepL cl Hs ds xs ∧ ∀ Hs' H, Same Hs Hs' → Same Hs' H → Same Bq H → H a = some (.lst xs) := by
  cases q with
  | val r =>
    cases r with
    | lst h1 h2 => exact ⟨_, _, rfl, h2, fun Hs' H e1 e2 _ => e2.at _ _ (e1.at _ _ h1)⟩
  | lst h1 h2 => exact ⟨_, _, rfl, h2, fun Hs' H _ _ e3 => e3.at _ _ h1⟩
theorem bq_same {H : Hp} (hb : Same E.b H) : Same (bq E md H) H := by
  unfold bq
  split
  · exact hb
  · exact Same.refl _
theorem ItOk.lst {K : PySem.W.Frag} {cl : Cl} {a : Addr} {xs : List V} {ds : List D} {Hs Bq : Hp} (rp : RepL cl Hs ds xs) (rt : ∀ Hs' H, Same Hs Hs' → Same Hs' H → Same Bq H → H a = some (.lst xs)) (hz : xs.length ≤ szL) : ItOk cl (Itl K a) ds Hs Bq where
  len := by rw [← rp.length]; exact hz
  go := fun Hs' H e1 e2 e3 i hi => by
    obtain ⟨v, e, _⟩ := rp.get (d := ds[i]) (i := i) (by simp [hi])
    exact ⟨xs, v, SqL.of (rt Hs' H e1 e2 e3), e⟩
  stop := fun Hs' H e1 e2 e3 => ⟨xs, SqL.of (rt Hs' H e1 e2 e3), by rw [rp.length]; exact Nat.le_refl _⟩
  yld := fun Hs' H e1 e2 e3 i d x H' hd y => by
    obtain ⟨rfl, y⟩ := y
    obtain ⟨v, e, r⟩ := rp.get hd
    have q := y xs (SqL.of (rt Hs' _ e1 e2 e3))
    rw [e] at q
    cases q
    exact ⟨Hs', Grow.refl e2, Rep.same e1 _ _ r⟩
theorem ItOk.tup {K : PySem.W.Frag} {cl : Cl} {a : Addr} {xs : List V} {ds : List D} {Hs Bq : Hp} (rp : RepL cl Hs ds xs) (ha : Hs a = some (.tup xs)) (hz : xs.length ≤ szL) : ItOk cl (Itt K a) ds Hs Bq where
  len := by rw [← rp.length]; exact hz
  go := fun Hs' H e1 e2 e3 i hi => by
    obtain ⟨v, e, _⟩ := rp.get (d := ds[i]) (i := i) (by simp [hi])
    exact ⟨xs, v, SqT.of (e2.at _ _ (e1.at _ _ ha)), e⟩
  stop := fun Hs' H e1 e2 e3 => ⟨xs, SqT.of (e2.at _ _ (e1.at _ _ ha)), by rw [rp.length]; exact Nat.le_refl _⟩
  yld := fun Hs' H e1 e2 e3 i d x H' hd y => by
    obtain ⟨rfl, y⟩ := y
    obtain ⟨v, e, r⟩ := rp.get hd
    have q := y xs (SqT.of (e2.at _ _ (e1.at _ _ ha)))
    rw [e] at q
    cases q
    exact ⟨Hs', Grow.refl e2, Rep.same e1 _ _ r⟩
theorem ItOk.str {cl : Cl} {x : Str} {Hs Bq : Hp} (hz : x.cps.size ≤ szL) : ItOk cl (Its x) (x.cps.toList.map fun c => .str ⟨#[c]⟩) Hs Bq where
  len := by rw [List.length_map]; exact hz
  go := fun Hs' H e1 e2 e3 i hi => by
    rw [List.length_map] at hi
    exact hi
  stop := fun Hs' H e1 e2 e3 => by
    show x.cps.size ≤ _
    rw [List.length_map]
    exact Nat.le_refl _
  yld := fun Hs' H e1 e2 e3 i d v H' hd y => by
    obtain ⟨rfl, c, hc, rfl⟩ := y
    rw [List.getElem?_map, Array.getElem?_toList, hc] at hd
    cases hd
    exact ⟨Hs', Grow.refl e2, .str _⟩
theorem si_it (h : SQ X E ks md e g) : SI X E ks md tg e (gIter g) := by
  refine ⟨fun Hs H r σ W Q tk S P => ?_⟩
  have sb : Same E.b H := let ⟨_, s⟩ := S; s.eb
  unfold gIter at P
  have key : ∀ (wi : TI) (Q1 : VK), PI X tg e wi → (WEx X e σ H Q1 → wi σ H Q) → WEx X e σ H Q1 → WIx X tg e σ H Q := fun wi Q1 p f w => ⟨wi, p, f w⟩
  cases q : g r with
  | stuck => rw [q] at P; exact P.elim
  | exc x =>
    refine ⟨_, pi_list pe_we, ?_⟩
    refine h.run _ _ _ _ _ _ tk S ?_
    rw [q] at P ⊢
    exact P
  | ok d =>
    cases d with
    | lst ds =>
      refine ⟨_, pi_list pe_we, ?_⟩
      refine we_len (h.run _ _ _ _ _ _ tk S (PostQ.ofI P fun d v Hs1 H1 e1 g1 k1 P1 => ?_))
      rw [q] at e1
      cases e1
      obtain ⟨a, xs, rfl, rp, rt⟩ := k1.root (H := H1) (Hs' := Hs1)
      intro hl
      have e0 := rt Hs1 H1 (Same.refl _) g1.sub (bq_same (sb.trans g1.h))
      exact ⟨a, rfl, ⟨xs, SqL.of e0⟩, P1 _ Hs1 H1 (Grow.refl g1.sub) (ItOk.lst rp rt (hl.1 _ _ e0))⟩
    | tup ds =>
      refine ⟨_, pi_tup pe_we, ?_⟩
      refine we_len (h.run _ _ _ _ _ _ tk S (PostQ.ofI P fun d v Hs1 H1 e1 g1 k1 P1 => ?_))
      rw [q] at e1
      cases e1
      intro hl
      cases k1 with
      | val k =>
        cases k with
        | tup h1 h2 =>
          have e0 := g1.sub.at _ _ h1
          exact ⟨_, rfl, ⟨_, SqT.of e0⟩, P1 _ Hs1 H1 (Grow.refl g1.sub) (ItOk.tup h2 h1 (hl.2 _ _ e0))⟩
    | str x =>
      refine ⟨_, pi_str pe_we, ?_⟩
      refine h.run _ _ _ _ _ _ tk S (PostQ.ofI P fun d v Hs1 H1 e1 g1 k1 P1 => ?_)
      rw [q] at e1
      cases e1
      cases k1 with
      | val k =>
        cases k
        dsimp only [dIter] at P1
        split at P1
        · rename_i hz
          exact ⟨_, rfl, P1 _ Hs1 H1 (Grow.refl g1.sub) (ItOk.str hz)⟩
        · exact P1.elim
    | _ => rw [q] at P; exact P.elim
/-- lo, lo + 1, .. -/
def rangeD (lo : Int) (n : Nat) : List D := (List.range n).map fun (i : Nat) => D.int (lo + i)
theorem rangeD_len (lo : Int) (n : Nat) : (rangeD lo n).length = n := by simp [rangeD]
theorem ItOk.rng {cl : Cl} {lo : Int} {n : Nat} {Hs Bq : Hp} (hz : n ≤ szL) : ItOk cl (Itr lo n) (rangeD lo n) Hs Bq where
  len := by rw [rangeD_len]; exact hz
  go := fun Hs' H e1 e2 e3 i hi => by rw [rangeD_len] at hi; exact hi
  stop := fun Hs' H e1 e2 e3 => by rw [rangeD_len]; exact Nat.le_refl n
  yld := fun Hs' H e1 e2 e3 i d v H' hd y => by
    obtain ⟨rfl, rfl⟩ := y
    unfold rangeD at hd
    rw [List.getElem?_map] at hd
    by_cases hi : i < n
    · rw [List.getElem?_range hi] at hd
      cases hd
      exact ⟨Hs', Grow.refl e2, .int _⟩
    · rw [List.getElem?_eq_none (by simpa using hi)] at hd
      cases hd
def dRange1 : D → R (List D)
  | .int j => if j.toNat ≤ szL then .ok (rangeD 0 j.toNat) else .stuck
  | _ => .stuck
def dRange2 : D → D → R (List D)
  | .int i, .int j => if (j - i).toNat ≤ szL then .ok (rangeD i (j - i).toNat) else .stuck
  | _, _ => .stuck
@[simp] def gRange1 (g : Sl → R D) : Sl → R (List D) := fun r => do
  let d ← g r
  dRange1 d
@[simp] def gRange2 (g g2 : Sl → R D) : Sl → R (List D) := fun r => do
  let d ← g r
  let d2 ← g2 r
  dRange2 d d2
theorem Post.ofI {k : Kd} {Hs H : Hp} {Q : It → Hp → Prop} {W : WX0} {r : R D} {f : D → R (List D)} (P : PostI E md Hs H Q W (r >>= f)) {Q1 : VK}
    (h : ∀ d v Hs' H', r = .ok d → Grow Hs H Hs' H' → RK E.cl k H Hs' H' d v → PostI E md Hs' H' Q W (f d) → Q1 v H') : Post E.cl k Hs H Q1 W r := by
  cases r with
  | stuck => exact P
  | exc x => exact P
  | ok d => exact fun v Hs' H' g rk => h d v Hs' H' rfl g rk (PostI.grow (r := f d) P g)
theorem wa_one {σ : L2.St} {H : Hp} {Q : List V → Hp → Prop} (h : WEx X e σ H fun v H' => Q [v] H') (hs : starEach (e :: []) X.env = (false, eval e X.env) :: starEach [] X.env := by rfl) : WAx X [e] σ H Q := wa_of (pa_cons pe_we pa_nil hs) h
theorem wa_two {σ : L2.St} {H : Hp} {Q : List V → Hp → Prop} (h : WEx X e σ H fun v H' => WEx X e2 σ H' fun v2 H2 => Q [v, v2] H2) (hs : starEach (e :: [e2]) X.env = (false, eval e X.env) :: starEach [e2] X.env := by rfl) (hs2 : starEach (e2 :: []) X.env = (false, eval e2 X.env) :: starEach [] X.env := by rfl) : WAx X [e, e2] σ H Q :=
  wa_of (pa_cons pe_we (pa_cons pe_we pa_nil hs2) hs) h
theorem si_range1 (hm : X.mg "range" = none) (h : SE X E ks .bor e g) (hg : Gl X "range" := by rfl) (hs : starEach [e] X.env = [(false, eval e X.env)] := by rfl) : SI X E ks md tg (.Call (.Name "range" p) [e] [] pos) (gRange1 g) := by
  refine ⟨fun Hs H r σ W Q tk S P => ?_⟩
  refine ⟨_, pi_rangeA1 hg hm pa_wa hs, ?_⟩
  refine wa_one (h.run _ _ _ _ _ _ tk S (Post.ofI P fun d v Hs1 H1 e1 g1 k1 P1 => ?_)) hs
  cases d <;> first | exact P1.elim | skip
  cases k1.rb.intInv
  dsimp only [dRange1] at P1
  split at P1
  · rename_i z
    exact ⟨_, rfl, P1 _ Hs1 H1 (Grow.refl g1.sub) (ItOk.rng z)⟩
  · exact P1.elim
theorem si_range2 (hm : X.mg "range" = none) (h : SE X E ks .bor e g) (h2 : SE X E ks .bor e2 g2) (hg : Gl X "range" := by rfl) (hs : starEach [e, e2] X.env = [(false, eval e X.env), (false, eval e2 X.env)] := by rfl) (hs2 : starEach [e2] X.env = [(false, eval e2 X.env)] := by rfl) :
    SI X E ks md tg (.Call (.Name "range" p) [e, e2] [] pos) (gRange2 g g2) := by
  refine ⟨fun Hs H r σ W Q tk S P => ?_⟩
  refine ⟨_, pi_rangeA2 hg hm pa_wa hs hs2, ?_⟩
  refine wa_two (h.run _ _ _ _ _ _ tk S (Post.ofI (f := fun d => g2 r >>= fun d2 => dRange2 d d2) P fun d v Hs1 H1 e1 g1 k1 P1 => ?_)) (by rw [hs, hs2]) hs2
  refine h2.run _ _ _ _ _ _ tk (S.grow g1) (Post.ofI P1 fun d2 v2 Hs2 H2 e2 gg k2 P2 => ?_)
  cases d <;> cases d2 <;> first | exact P2.elim | skip
  cases k1.rb.intInv
  cases k2.rb.intInv
  dsimp only [dRange2] at P2
  split at P2
  · rename_i z
    exact ⟨_, _, rfl, P2 _ Hs2 H2 (Grow.refl gg.sub) (ItOk.rng z)⟩
  · exact P2.elim
end

def mapR {α β : Type} (f : α → R β) : List α → R (List β)
  | [] => .ok []
  | a :: l => do
    let b ← f a
    let bs ← mapR f l
    .ok (b :: bs)
theorem mapR_ok {α β : Type} {f : α → R β} : ∀ {l : List α} {bs : List β}, mapR f l = .ok bs → bs.length = l.length ∧ ∀ (i : Nat) a, l[i]? = some a → ∃ b, bs[i]? = some b ∧ f a = .ok b
  | [], bs, h => by
    cases h
    exact ⟨rfl, fun i a z => by simp at z⟩
  | a :: l, bs, h => by
    dsimp only [mapR] at h
    cases q : f a with
    | stuck => rw [q] at h; cases h
    | exc x => rw [q] at h; cases h
    | ok b =>
      rw [q] at h
      cases q2 : mapR f l with
      | stuck => rw [q2] at h; cases h
      | exc x => rw [q2] at h; cases h
      | ok bs' =>
        rw [q2] at h
        cases h
        obtain ⟨h1, h2⟩ := mapR_ok q2
        refine ⟨by simp [h1], fun i a' z => ?_⟩
        cases i with
        | zero =>
          simp at z
          subst z
          exact ⟨b, rfl, q⟩
        | succ i =>
          obtain ⟨b', e, e2⟩ := h2 i a' (by simpa using z)
          exact ⟨b', by simpa using e, e2⟩
def noX {α : Type} : R α → R α
  | .ok a => .ok a
  | _ => .stuck
theorem noX_ok {α : Type} {r : R α} {a : α} (h : noX r = .ok a) : r = .ok a := by
  cases r <;> first | cases h | skip
  rfl
@[simp] def wipeD (r : Sl) : List Nat → Sl
  | [] => r
  | v :: vs => (wipeD r vs).set v none
def wipeK (ks : List Kd) : List Nat → List Kd
  | [] => ks
  | v :: vs => (wipeK ks vs).set v .val
/-- one turn of a comprehension -/
def gTurn (t : Tg) (vs : List Nat) (tt : Sl → R Bool) (ge : Sl → R D) (r : Sl) (d : D) : R (Option D) := do
  let xs ← t.un d
  let b ← tt (setD (wipeD r vs) t.is xs)
  if b then (do
    let y ← ge (setD (wipeD r vs) t.is xs)
    .ok (some y)) else .ok none
def gComp (gi : Sl → R (List D)) (t : Tg) (vs : List Nat) (tt : Sl → R Bool) (ge : Sl → R D) : Sl → R D := fun r => do
  let ds ← gi r
  let os ← noX (mapR (gTurn t vs tt ge r) ds)
  .ok (.lst (os.filterMap id))

@[simp] def gYes : Sl → R Bool := fun _ => .ok true
def WPs (X : Cx) (ifs : List Expr) : TT := fun σ H Q => ∃ t, PTs X ifs t ∧ t σ H Q
theorem pts_wp {X : Cx} {ifs : List Expr} : PTs X ifs (WPs X ifs) := ⟨fun pins s σ H Q I ⟨t, p, h⟩ => p.run pins s σ H Q I h⟩
structure SP1 [md : Md] (X : Cx) (E : En) (ks : List Kd) (ifs : List Expr) (g : Sl → R Bool) : Prop where
  run : ∀ (Hs H : Hp) (r : Sl) (σ : L2.St) (W : WX) (Q : Bool → Hp → Prop), Takes X W → StRel E Hs H ks r σ → PostT E.cl Hs H Q (fun c dd H' => W c dd σ H') (g r) → WPs X ifs σ H Q
theorem sp_nil {X : Cx} {E : En} {ks : List Kd} : SP1 X E ks [] gYes := ⟨fun Hs H r σ W Q tk S P => ⟨_, pts_nil, P Hs H (Grow.refl S.sub)⟩⟩
theorem sp_one {X : Cx} {E : En} {ks : List Kd} {c : Expr} {g : Sl → R Bool} (h : ST X E ks c g) : SP1 X E ks [c] g := ⟨fun Hs H r σ W Q tk S P => ⟨_, pts_one pt_wt, h.run _ _ _ _ _ _ tk S P⟩⟩
theorem StRel.wipe {E : En} {Hs H : Hp} {r : Sl} {σ : L2.St} {ks : List Kd} (S : StRel E Hs H ks r σ) : ∀ (vs : List Nat), (∀ i ∈ vs, i < ks.length) → StRel E Hs H (wipeK ks vs) (wipeD r vs) (wipe σ vs) ∧ (wipeK ks vs).length = ks.length
  | [], _ => ⟨S, rfl⟩
  | v :: vs, h => by
    obtain ⟨q, l⟩ := StRel.wipe S vs fun i hi => h i (List.mem_cons_of_mem _ hi)
    have hv : v < (wipeK ks vs).length := by rw [l]; exact h v List.mem_cons_self
    refine ⟨q.wipe1 (k := (wipeK ks vs)[v]) (by simp [hv]) none, ?_⟩
    show ((wipeK ks vs).set v .val).length = _
    rw [List.length_set, l]
theorem wipe_set {σ : L2.St} {i : Nat} {x : V} : ∀ {vs : List Nat}, i ∈ vs → wipe (σ.set i (some x)) vs = wipe σ vs
  | [], h => by cases h
  | v :: vs, h => by
    by_cases hm : i ∈ vs
    · show (wipe (σ.set i (some x)) vs).set v none = (wipe σ vs).set v none
      rw [wipe_set hm]
    · have e : i = v := by
        rcases List.mem_cons.mp h with z | z
        · exact z
        · exact absurd z hm
      subst e
      have key : ∀ (vs : List Nat) (σ : L2.St), i ∉ vs → wipe (σ.set i (some x)) vs = (wipe σ vs).set i (some x) := by
        intro vs
        induction vs with
        | nil => intro σ _; rfl
        | cons w ws ih =>
          intro σ hn
          have h1 : i ≠ w := fun z => hn (z ▸ List.mem_cons_self)
          show (wipe (σ.set i (some x)) ws).set w none = ((wipe σ ws).set w none).set i (some x)
          rw [ih σ fun z => hn (List.mem_cons_of_mem _ z), List.set_comm _ _ h1]
      show (wipe (σ.set i (some x)) vs).set i none = (wipe σ vs).set i none
      rw [key vs σ hm, List.set_set]
theorem wipe_setV : ∀ {is : List Nat} {xs : List V} {σ : L2.St} {vs : List Nat}, (∀ i ∈ is, i ∈ vs) → wipe (setV σ is xs) vs = wipe σ vs
  | [], [], _, _, _ => rfl
  | [], _ :: _, _, _, _ => rfl
  | _ :: _, [], _, _, _ => rfl
  | i :: is, x :: xs, σ, vs, h => by
    show wipe (setV (σ.set i (some x)) is xs) vs = _
    rw [wipe_setV fun j hj => h j (List.mem_cons_of_mem _ hj), wipe_set (h i List.mem_cons_self)]
theorem wipe_idem {σ : L2.St} : ∀ (vs : List Nat), wipe (wipe σ vs) vs = wipe σ vs := fun vs => by
  have key : ∀ (ws : List Nat) (τ : L2.St), (∀ i ∈ ws, τ[i]? = some none ∨ τ[i]? = none) → wipe τ ws = τ := by
    intro ws
    induction ws with
    | nil => intro τ _; rfl
    | cons w ws ih =>
      intro τ h
      show (wipe τ ws).set w none = τ
      rw [ih τ fun i hi => h i (List.mem_cons_of_mem _ hi)]
      rcases h w List.mem_cons_self with e | e
      · obtain ⟨hw, e2⟩ := List.getElem?_eq_some_iff.mp e
        rw [← e2, List.set_getElem_self]
      · rw [List.set_eq_of_length_le (by simpa using e)]
  refine key vs _ fun i hi => ?_
  cases q : (wipe σ vs)[i]? with
  | none => exact .inr rfl
  | some o =>
    cases o with
    | none => exact .inl rfl
    | some x => exact absurd hi (wipe_some q).2
theorem filterMap_take {os : List (Option D)} {i : Nat} {o : Option D} (h : os[i]? = some o) : (os.take (i + 1)).filterMap id = (os.take i).filterMap id ++ o.toList := by
  rw [List.take_add_one, h, List.filterMap_append]
  cases o <;> rfl
def rdG (X : Cx) (scope : Scope) (tg : Expr) : TG := fun v σ H Q => ∀ (s : Shared) (H0 : Hp) (C : Addr) (cl : List (Str × Addr)) (fp : List Addr), WGx (X.blk s H0 scope (compEnvC scope cl C X.env) fp) tg v σ H Q
def rdT (X : Cx) (scope : Scope) (ifs : List Expr) : TT := fun σ H Q => ∀ (s : Shared) (H0 : Hp) (C : Addr) (cl : List (Str × Addr)) (fp : List Addr), WPs (X.blk s H0 scope (compEnvC scope cl C X.env) fp) ifs σ H Q
def rdE (X : Cx) (scope : Scope) (elt : Expr) : TE := fun σ H Q => ∀ (s : Shared) (H0 : Hp) (C : Addr) (cl : List (Str × Addr)) (fp : List Addr), WEx (X.blk s H0 scope (compEnvC scope cl C X.env) fp) elt σ H Q
theorem pg_rd {X : Cx} {scope : Scope} {tg : Expr} (s : Shared) (H : Hp) (C : Addr) (cl : List (Str × Addr)) (fp : List Addr) : PG (X.blk s H scope (compEnvC scope cl C X.env) fp) tg (rdG X scope tg) :=
  ⟨fun pins s' σ H' v u Q' I r h => pg_wg.run pins s' σ H' v u Q' I r (h s H C cl fp)⟩
theorem pts_rd {X : Cx} {scope : Scope} {ifs : List Expr} (s : Shared) (H : Hp) (C : Addr) (cl : List (Str × Addr)) (fp : List Addr) : PTs (X.blk s H scope (compEnvC scope cl C X.env) fp) ifs (rdT X scope ifs) :=
  ⟨fun pins s' σ H' Q' I h => pts_wp.run pins s' σ H' Q' I (h s H C cl fp)⟩
theorem pe_rd {X : Cx} {scope : Scope} {elt : Expr} (s : Shared) (H : Hp) (C : Addr) (cl : List (Str × Addr)) (fp : List Addr) : PE (X.blk s H scope (compEnvC scope cl C X.env) fp) elt (rdE X scope elt) :=
  ⟨fun pins s' σ H' Q' I h => h s H C cl fp pins s' I⟩
/-- the reading of a comprehension -/
theorem comp_read {X : Cx} {E : En} {ks : List Kd} {elt tg iter : Expr} {ifs : List Expr} {scope : Scope} {vs : List Nat} {t : Tg} {gi : Sl → R (List D)} {tt : Sl → R Bool} {ge : Sl → R D}
    (hi : SI X E ks false tg iter gi) (hv : ∀ i ∈ vs, i < ks.length) (hm : ∀ i ∈ t.is, i ∈ vs)
    (hg : ∀ (s : Shared) (H : Hp) (C : Addr) (cl : List (Str × Addr)) (fp : List Addr), SG (X.blk s H scope (compEnvC scope cl C X.env) fp) tg t)
    (ht : ∀ (s : Shared) (H : Hp) (C : Addr) (cl : List (Str × Addr)) (fp : List Addr), SP1 (X.blk s H scope (compEnvC scope cl C X.env) fp) E (setK (wipeK ks vs) t.is) ifs tt)
    (he : ∀ (s : Shared) (H : Hp) (C : Addr) (cl : List (Str × Addr)) (fp : List Addr), SE (X.blk s H scope (compEnvC scope cl C X.env) fp) E (setK (wipeK ks vs) t.is) .val elt ge)
    {Hs H : Hp} {r : Sl} {σ : L2.St} {W : WX} {Q : VK} (tk : Takes X W) (S : StRel E Hs H ks r σ) (P : Post E.cl (.own none) Hs H Q (fun c dd H' => W c dd σ H') (gComp gi t vs tt ge r)) :
    tLc (WIx X tg iter) (rdG X scope tg) (rdT X scope ifs) (rdE X scope elt) vs σ H Q := by
  refine hi.run _ _ _ _ _ _ tk S ?_
  unfold gComp at P
  cases q : gi r with
  | stuck => rw [q] at P; exact P
  | exc x => rw [q] at P; exact P
  | ok ds =>
    rw [q] at P
    intro J Hs1 H1 g1 J1 D hD
    have P1 := Post.grow (r := noX (mapR (gTurn t vs tt ge r) ds) >>= fun os => R.ok (VL.D.lst (os.filterMap id))) P g1
    cases q2 : noX (mapR (gTurn t vs tt ge r) ds) with
    | stuck => rw [q2] at P1; exact P1.elim
    | exc x =>
      cases q3 : mapR (gTurn t vs tt ge r) ds <;> rw [q3] at q2 <;> cases q2
    | ok os =>
      rw [q2] at P1
      obtain ⟨hlen, hturn⟩ := mapR_ok (noX_ok q2)
      have P1' : Post E.cl (.own none) Hs1 H1 Q (fun c dd H' => W c dd σ H') (R.ok (VL.D.lst (os.filterMap id))) := P1
      have S1 := S.grow g1
      refine ⟨fun i m H' => m = ds.length - i ∧ i ≤ ds.length ∧ ∃ Hs' acc, Grow Hs1 H1 Hs' H' ∧ H' D = some (.lst acc) ∧ Hs' D = none ∧ RepL E.cl Hs' ((os.take i).filterMap id) acc ∧ acc.length ≤ i,
        ⟨ds.length, by simp, Nat.zero_le _, Hs1, [], Grow.fresh g1.sub hD, upd_same, g1.sub.free hD, .nil, Nat.le_refl _⟩, ?_⟩
      rintro i m H' ⟨rfl, hi', Hs', acc, g2, eD, nD, rp, hacc⟩
      have sq : Same (bq E false H1) H' := g2.h
      by_cases hlt : i < ds.length
      · refine .inr ⟨J1.go Hs' H' g2.s g2.sub sq i hlt, fun H2 => ∃ Hs2 acc2, Grow Hs1 H1 Hs2 H2 ∧ H2 D = some (.lst acc2) ∧ Hs2 D = none ∧ RepL E.cl Hs2 ((os.take (i + 1)).filterMap id) acc2 ∧ acc2.length ≤ i + 1, ?_, ?_⟩
        · rintro H2 ⟨Hs2, acc2, z1, z2, z3, z4, z5⟩
          exact ⟨ds.length - (i + 1), by omega, rfl, hlt, Hs2, acc2, z1, z2, z3, z4, z5⟩
        · intro x H2 y s0 H0 C cl fp
          obtain ⟨d, hd⟩ : ∃ d, ds[i]? = some d := ⟨ds[i], by simp [hlt]⟩
          obtain ⟨Hs2, g3, rx⟩ := J1.yld Hs' H' g2.s g2.sub sq i d x H2 hd y
          obtain ⟨o, ho, hf⟩ := hturn i d hd
          unfold gTurn at hf
          cases q4 : t.un d with
          | stuck => rw [q4] at hf; cases hf
          | exc x => rw [q4] at hf; cases hf
          | ok xs =>
            rw [q4] at hf
            refine (hg s0 H0 C cl fp).run E.cl Hs2 H2 _ d x xs _ g3.sub rx q4 fun ys ry => ⟨by rw [wipe_setV hm, wipe_idem], fun s1 H01 C1 cl1 fp1 => ?_⟩
            have g23 := g2.trans g3
            obtain ⟨S2, hl2⟩ := StRel.wipe (S1.grow g23) vs hv
            have S3 : StRel E Hs2 H2 (setK (wipeK ks vs) t.is) (setD (wipeD r vs) t.is xs) (setV (wipe σ vs) t.is ys) :=
              StRel.puts S2 (fun j hj => by rw [hl2]; exact hv j (hm j hj)) (Tg.un_len q4) ry
            have eD2 : H2 D = some (.lst acc) := g3.h.at _ _ eD
            have nD2 : ∀ {Hsx Hx : Hp}, Grow Hs' H' Hsx Hx → Hsx D = none := fun {Hsx Hx} gx => by
              cases qq : Hsx D with
              | none => rfl
              | some u =>
                rcases gx.n D (by rw [qq]; simp) with z | z
                · exact absurd nD z
                · rw [eD] at z; cases z
            refine (ht s1 H01 C1 cl1 fp1).run _ _ _ _ (fun _ _ _ _ => False) _ takesF S3 ?_
            have hf' : (tt (setD (wipeD r vs) t.is xs) >>= fun b => if b then (ge (setD (wipeD r vs) t.is xs) >>= fun y => R.ok (some y)) else R.ok none) = R.ok o := hf
            cases q5 : tt (setD (wipeD r vs) t.is xs) with
            | stuck => rw [q5] at hf'; cases hf'
            | exc x => rw [q5] at hf'; cases hf'
            | ok b =>
              rw [q5] at hf'
              intro Hs3 H3 g4
              cases b with
              | false =>
                have e0 : (R.ok none : R (Option VL.D)) = R.ok o := hf'
                cases e0
                refine iteF ⟨Hs3, acc, g23.trans g4, g4.h.at _ _ eD2, nD2 (g3.trans g4), ?_, by omega⟩
                rw [filterMap_take ho]
                simpa using RepL.same (g3.trans g4).s _ _ rp
              | true =>
                refine iteT fun s2 H02 C2 cl2 fp2 => ?_
                refine (he s2 H02 C2 cl2 fp2).run _ _ _ _ (fun _ _ _ _ => False) _ takesF (S3.grow g4) ?_
                have hf2 : (ge (setD (wipeD r vs) t.is xs) >>= fun y => R.ok (some y)) = R.ok o := hf'
                cases q6 : ge (setD (wipeD r vs) t.is xs) with
                | stuck => rw [q6] at hf2; cases hf2
                | exc x => rw [q6] at hf2; cases hf2
                | ok y =>
                  rw [q6] at hf2
                  have e0 : (R.ok (some y) : R (Option VL.D)) = R.ok o := hf2
                  cases e0
                  intro v Hs4 H4 g5 k5
                  have g35 := (g3.trans g4).trans g5
                  have hD4 : H4 D = some (.lst acc) := g35.h.at _ _ eD
                  have hN4 := nD2 g35
                  have g25 := g2.trans g35
                  have hz : acc.length < sizeLine := by
                    rw [szL_eq]
                    have := J1.len
                    omega
                  refine ⟨acc, hD4, hz, Hs4, acc ++ [v], ⟨g25.s, ⟨fun b u e nt => ?_⟩, g25.n, ⟨fun b u e nt => ?_⟩, fun P z => tab_mut hD4 P (g25.t P z)⟩, upd_same, hN4, ?_, by simp; omega⟩
                  · rw [upd_ne (ne_of_none e hD)] at nt ⊢
                    exact g25.h.k _ _ e nt
                  · rw [upd_ne (ne_of_none e hN4)] at nt ⊢
                    exact g25.sub.k _ _ e nt
                  · rw [filterMap_take ho]
                    exact (RepL.same g35.s _ _ rp).app (.cons k5.rep .nil)
      · have e : i = ds.length := by omega
        subst e
        refine .inl ⟨J1.stop Hs' H' g2.s g2.sub sq, ?_⟩
        rw [← hlen, List.take_length] at rp
        refine P1' (.ref D) Hs' H' g2 ⟨[D], .ownL ⟨hD, fun _ z => nomatch z⟩ eD rp, by simp, fun a ha => ?_⟩
        have q : a = D := by simpa using ha
        subst q
        exact ⟨nD, hD⟩
theorem se_comp {X : Cx} {E : En} {ks : List Kd} {elt tg iter : Expr} {ifs : List Expr} {scope : Scope} {pos : Pos} {t : Tg} {gi : Sl → R (List D)} {tt : Sl → R Bool} {ge : Sl → R D}
    (own : List (Str × Nat)) (hc : X.calm = true) (hN : X.N.Nodup) (hi : SI X E ks false tg iter gi) (ok : BlkOk X.N X.env.scope scope own) (hv : ∀ i ∈ own.map (·.2), i < ks.length) (hm : ∀ i ∈ t.is, i ∈ own.map (·.2))
    (hg : ∀ (s : Shared) (H : Hp) (C : Addr) (cl : List (Str × Addr)) (fp : List Addr), SG (X.blk s H scope (compEnvC scope cl C X.env) fp) tg t)
    (ht : ∀ (s : Shared) (H : Hp) (C : Addr) (cl : List (Str × Addr)) (fp : List Addr), SP1 (X.blk s H scope (compEnvC scope cl C X.env) fp) E (setK (wipeK ks (own.map (·.2))) t.is) ifs tt)
    (he : ∀ (s : Shared) (H : Hp) (C : Addr) (cl : List (Str × Addr)) (fp : List Addr), SE (X.blk s H scope (compEnvC scope cl C X.env) fp) E (setK (wipeK ks (own.map (·.2))) t.is) .val elt ge)
    (hs : ∀ x, foldedSetIterable iter X.env x = pure x := by intro _; rfl) : SE X E ks (.own none) (.ListComp elt [⟨tg, iter, ifs, 0⟩] scope pos) (gComp gi t (own.map (·.2)) tt ge) := by
  refine ⟨fun Hs H r σ W Q tk S P => ?_⟩
  exact we_of (pe_lc hc hN pi_wi ok pg_rd pts_rd pe_rd hs) (comp_read hi hv hm hg ht he tk S P)
end VL
end

noncomputable section
namespace VL
open PySem PySem.Spec PyProof.Rows L2
variable {md : Md}

section
variable {cl : Cl}
mutual
theorem ORep.anyB {N : Addr → Prop} {B B' Hs H : Hp} : ∀ (k : Kd) (d : D) (v : V) (A : List Addr), k.fine = true → ORep cl N B Hs H k d v A → ORep cl N B' Hs H k d v A
  | .val, _, _, _, _, h => by
    cases h with
    | val h1 => exact .val h1
  | .bor, _, _, _, z, _ => by cases z
  | .own n, _, _, _, _, h => by
    cases h with
    | ownL h0 h1 h2 => exact .ownL h0 h1 h2
    | ownK h0 h1 h2 => exact .ownK h0 h1 h2
    | ownV h0 h1 => exact .ownV h0 h1
  | .obj n ks, _, _, _, z, h => by
    cases h with
    | obj h0 h1 h2 h3 => exact .obj h0 h1 h2 (OFs.anyB ks _ _ _ (by simpa [Kd.fine] using z) h3)
  | .lls n k, _, _, _, z, h => by
    cases h with
    | lls h0 h1 h2 => exact .lls h0 h1 (OLs.imp (fun _ => True) (fun _ _ _ => trivial) (fun _ _ _ => trivial) (fun d v A _ o => ORep.anyB k d v A z o) trivial h2)
    | llT h0 h1 h2 => exact .llT h0 h1 (OLs.imp (fun _ => True) (fun _ _ _ => trivial) (fun _ _ _ => trivial) (fun d v A _ o => ORep.anyB k d v A z o) trivial h2)
    | llV h0 h1 => exact .llV h0 h1
theorem OFs.anyB {N : Addr → Prop} {B B' Hs H : Hp} : ∀ (ks : List (Str × Kd)) (ds : List (Str × D)) (xs : List (Str × V)) (A : List Addr), Kd.fine.fines ks = true → OFs cl N B Hs H ks ds xs A → OFs cl N B' Hs H ks ds xs A
  | [], _, _, _, _, h => by cases h; exact .nil
  | (f, k) :: ks, _, _, _, z, h => by
    have z' : k.fine = true ∧ Kd.fine.fines ks = true := by simpa [Kd.fine.fines] using z
    cases h with
    | cons h1 h2 => exact .cons (ORep.anyB k _ _ _ z'.1 h1) (OFs.anyB ks _ _ _ z'.2 h2)
end
end

section
variable {E : En} {Hs H Hs' H' : Hp} {ks : List Kd} {r : Sl} {σ : L2.St}
theorem RK.new (S : StRel E Hs H ks r σ) (g : Grow Hs H Hs' H') {k : Kd} {d : D} {v : V} (f : k.fine = true) (rk : RK E.cl k H Hs' H' d v) :
    ∃ A, ORep E.cl E.N E.b Hs' H' k d v A ∧ A.Nodup ∧ (∀ a ∈ A, Hs' a = none ∧ E.b a = none ∧ H a = none) := by
  obtain ⟨As, S⟩ := S
  obtain ⟨A, o, nd, z⟩ := rk
  exact ⟨A, ORep.anyB k _ _ _ f (ORep.mono (Same.refl _) (Same.refl _) (fun a q => S.dom a q) k _ _ _ (fun _ _ => rfl) o), nd, fun a ha => ⟨(z a ha).1, S.eb.free (z a ha).2, (z a ha).2⟩⟩
theorem nodup_mid {α : Type} {pre A post A' : List α} (h : (pre ++ (A ++ post)).Nodup) (hA : A'.Nodup) (d : ∀ a ∈ A', a ∉ pre ++ post) : (pre ++ (A' ++ post)).Nodup := by
  have h1 : (pre ++ post).Nodup := h.sublist (List.Sublist.append (List.Sublist.refl _) (List.sublist_append_right _ _))
  have p : (pre ++ (A' ++ post)).Perm (A' ++ (pre ++ post)) := by
    rw [← List.append_assoc, ← List.append_assoc]
    exact List.Perm.append_right _ List.perm_append_comm
  exact p.nodup_iff.mpr (List.nodup_append.mpr ⟨hA, h1, fun a ha b hb z => d a ha (z ▸ hb)⟩)
theorem StRel.putK {i : Nat} {k0 k : Kd} {d : D} {v : V} (S : StRel E Hs H ks r σ) (g : Grow Hs H Hs' H') (hk : ks[i]? = some k0) (f : k.fine = true) (rk : RK E.cl k H Hs' H' d v) : StRel E Hs' H' (ks.set i k) (r.set i (some d)) (σ.set i (some v)) := by
  obtain ⟨A', o, nd, z⟩ := RK.new S g f rk
  obtain ⟨As, S0⟩ := S
  have hh := S0.sl.here
  have S1 := S0.grow g
  obtain ⟨pre, A, post, e, _, q, _, _⟩ := S1.sl.at_ i hk
  have d1 : ∀ a ∈ A', a ∉ pre ++ post := fun a ha hm => by
    have : a ∈ As := by
      rw [e]
      rcases List.mem_append.mp hm with w | w
      · exact List.mem_append_left _ w
      · exact List.mem_append_right _ (List.mem_append_right _ w)
    obtain ⟨u, hu, _⟩ := hh a this
    rw [(z a ha).2.2] at hu
    cases hu
  refine ⟨_, q k d v A' o, nodup_mid (e ▸ S1.nd) nd d1, fun a ha => ?_, S1.es, S1.sub, S1.eb, S1.new, S1.dom, S1.tb⟩
  rcases List.mem_append.mp ha with w | w
  · exact S1.dis a (by rw [e]; exact List.mem_append_left _ w)
  · rcases List.mem_append.mp w with w | w
    · exact ⟨(z a w).1, (z a w).2.1⟩
    · exact S1.dis a (by rw [e]; exact List.mem_append_right _ (List.mem_append_right _ w))
theorem StRel.push {k : Kd} {d : D} {v : V} (S : StRel E Hs H ks r σ) (g : Grow Hs H Hs' H') (f : k.fine = true) (rk : RK E.cl k H Hs' H' d v) : StRel E Hs' H' (k :: ks) (some d :: r) (some v :: σ) := by
  obtain ⟨A', o, nd, z⟩ := RK.new S g f rk
  obtain ⟨As, S0⟩ := S
  have hh := S0.sl.here
  have S1 := S0.grow g
  have d1 : ∀ a ∈ A', a ∉ As := fun a ha hm => by
    obtain ⟨u, hu, _⟩ := hh a hm
    rw [(z a ha).2.2] at hu
    cases hu
  refine ⟨_, .cons o S1.sl, List.nodup_append.mpr ⟨nd, S1.nd, fun a ha b hb z => d1 a ha (z ▸ hb)⟩, fun a ha => ?_, S1.es, S1.sub, S1.eb, S1.new, S1.dom, S1.tb⟩
  rcases List.mem_append.mp ha with w | w
  · exact ⟨(z a w).1, (z a w).2.1⟩
  · exact S1.dis a w
/-- the value of a slot leaves it -/
theorem StRel.take {i : Nat} {k : Kd} {d : D} (S : StRel E Hs H ks r σ) (hk : ks[i]? = some k) (hd : r[i]? = some (some d)) : ∃ v, σ[i]? = some (some v) ∧ StRel E Hs H (k :: ks) (some d :: r.set i none) (some v :: σ) := by
  obtain ⟨As, S⟩ := S
  obtain ⟨pre, A, post, e, q1, _, q2, _⟩ := S.sl.at_ i hk
  obtain ⟨v, ev, o⟩ := q1 d hd
  refine ⟨v, ev, _, .cons o (by
    have z := q2 k (some v)
    have e1 : ks.set i k = ks := by
      obtain ⟨h, e2⟩ := List.getElem?_eq_some_iff.mp hk
      rw [← e2, List.set_getElem_self]
    have e3 : σ.set i (some v) = σ := by
      obtain ⟨h, e2⟩ := List.getElem?_eq_some_iff.mp ev
      rw [← e2, List.set_getElem_self]
    rw [e1, e3] at z
    exact z), ?_, fun a ha => S.dis a ?_, S.es, S.sub, S.eb, S.new, S.dom, S.tb⟩
  · have p : (A ++ (pre ++ post)).Perm As := by
      rw [e, ← List.append_assoc, ← List.append_assoc]
      exact List.Perm.append_right _ List.perm_append_comm
    exact p.nodup_iff.mpr S.nd
  · rw [e]
    rcases List.mem_append.mp ha with w | w
    · exact List.mem_append_right _ (List.mem_append_left _ w)
    · rcases List.mem_append.mp w with w | w
      · exact List.mem_append_left _ w
      · exact List.mem_append_right _ (List.mem_append_right _ w)
/-- an owned list is changed where it lies -/
theorem StRel.mutL {i : Nat} {n : Option Addr} {ds : List D} (S : StRel E Hs H ks r σ) (hk : ks[i]? = some (.own n)) (hd : r[i]? = some (some (.lst ds))) :
    ∃ a xs, σ[i]? = some (some (.ref a)) ∧ H a = some (.lst xs) ∧ RepL E.cl Hs ds xs ∧ ∀ ds' xs', RepL E.cl Hs ds' xs' → StRel E Hs (upd H a (.lst xs')) ks (r.set i (some (.lst ds'))) σ := by
  obtain ⟨As, S⟩ := S
  obtain ⟨pre, A, post, e, q1, _, _, q3⟩ := S.sl.at_ i hk
  obtain ⟨v, ev, o⟩ := q1 _ hd
  cases o with
  | ownV h0 h1 => cases h0
  | ownL h0 h1 h2 =>
    rename_i a xs
    refine ⟨a, xs, ev, h1, h2, fun ds' xs' rp => ?_⟩
    have ha : a ∈ As := by rw [e]; exact List.mem_append_right _ (List.mem_append_left _ (by simp))
    have nd := S.nd
    rw [e] at nd
    have hn : ∀ b ∈ pre ++ post, b ≠ a := fun b hb z => by
      subst z
      rcases List.mem_append.mp hb with w | w
      · exact (List.nodup_append.mp nd).2.2 _ w _ (List.mem_append_left _ (by simp)) rfl
      · exact (List.nodup_append.mp (List.nodup_append.mp nd).2.1).2.2 _ (by simp) _ w rfl
    have z := q3 Hs (upd H a (.lst xs')) (Same.refl _) (fun b hb => upd_ne (hn b hb)) (.own n) (.lst ds') (.ref a) [a] (.ownL h0 upd_same rp)
    have e1 : ks.set i (.own n) = ks := by
      obtain ⟨h, e2⟩ := List.getElem?_eq_some_iff.mp hk
      rw [← e2, List.set_getElem_self]
    have e3 : σ.set i (some (.ref a)) = σ := by
      obtain ⟨h, e2⟩ := List.getElem?_eq_some_iff.mp ev
      rw [← e2, List.set_getElem_self]
    rw [e1, e3] at z
    have dz := S.dis a ha
    refine ⟨_, z, nd, fun b hb => S.dis b (by rw [e]; exact hb), S.es, ⟨fun b u q nt => ?_⟩, ⟨fun b u q nt => ?_⟩, S.new, fun b q => ?_, fun P z => tab_mut h1 P (S.tb P z)⟩
    · have : b ≠ a := fun w => by rw [w, dz.1] at q; cases q
      rw [upd_ne this] at nt ⊢
      exact S.sub.k _ _ q nt
    · have : b ≠ a := fun w => by rw [w, dz.2] at q; cases q
      rw [upd_ne this] at nt ⊢
      exact S.eb.k _ _ q nt
    · have : b ≠ a := fun w => by rw [w, upd_same] at q; cases q
      rw [upd_ne this] at q
      exact S.dom _ q
/-- an owned value is frozen where it lies -/
theorem StRel.freeze {i : Nat} {k : Kd} (S : StRel E Hs H ks r σ) (hk : ks[i]? = some k) (hf : k = .own none) : ∃ Hs2, StRel E Hs2 H (ks.set i .val) r σ := by
  subst hf
  obtain ⟨As, S⟩ := S
  cases hr : r[i]? with
  | none =>
    have l := S.sl.len
    have hi : i < ks.length := (List.getElem?_eq_some_iff.mp hk).1
    have : r.length ≤ i := List.getElem?_eq_none_iff.mp hr
    omega
  | some o =>
    obtain ⟨pre, A, post, e, q1, q2, q4, q3⟩ := S.sl.at_ i hk
    have e5 : r.set i o = r := by
      obtain ⟨h, e2⟩ := List.getElem?_eq_some_iff.mp hr
      rw [← e2, List.set_getElem_self]
    cases o with
    | none =>
      have l := S.sl.len
      have hi : i < σ.length := by rw [l.2]; exact (List.getElem?_eq_some_iff.mp hk).1
      have z := q4 .val σ[i]
      rw [e5, List.set_getElem_self] at z
      have sub : (pre ++ post).Sublist As := by
        rw [e]
        exact List.Sublist.append (List.Sublist.refl _) (List.sublist_append_right _ _)
      exact ⟨Hs, _, z, S.nd.sublist sub, fun a ha => S.dis a (sub.subset ha), S.es, S.sub, S.eb, S.new, S.dom, S.tb⟩
    | some d =>
      obtain ⟨v, ev, o⟩ := q1 d hr
      have e3 : σ.set i (some v) = σ := by
        obtain ⟨h, e2⟩ := List.getElem?_eq_some_iff.mp ev
        rw [← e2, List.set_getElem_self]
      have nd := S.nd
      rw [e] at nd
      have nA : ∀ a ∈ A, E.h a = none := by
        cases o with
        | ownL h0 h1 h2 => intro a ha; simp at ha; subst ha; exact h0.1
        | ownK h0 h1 h2 => intro a ha; simp at ha; subst ha; exact h0.1
        | ownV h0 h1 => intro a ha; cases ha
      have inA : ∀ a ∈ A, a ∈ As := fun a ha => by rw [e]; exact List.mem_append_right _ (List.mem_append_left _ ha)
      have pS : Same Hs (plus Hs H A) := plus_same fun a ha => (S.dis a (inA a ha)).1
      have rp : Rep E.cl (plus Hs H A) d v := ORep.freeze pS _ _ _ _ rfl (fun a ha => by unfold plus; rw [if_pos ha]) o
      have z := q3 (plus Hs H A) H pS (fun _ _ => rfl) .val d v [] (.val rp)
      rw [e5, e3] at z
      have sub : (pre ++ ([] ++ post)).Sublist As := by
        rw [e]
        exact List.Sublist.append (List.Sublist.refl _) (by rw [List.nil_append]; exact List.sublist_append_right _ _)
      refine ⟨plus Hs H A, _, z, S.nd.sublist sub, fun a ha => ⟨?_, (S.dis a (sub.subset ha)).2⟩, S.es.trans pS, plus_sub S.sub, S.eb, fun a q => ?_, S.dom, S.tb⟩
      · have hn : a ∉ A := fun w => by
          rcases List.mem_append.mp ha with u | u
          · exact (List.nodup_append.mp nd).2.2 _ u _ (List.mem_append_left _ w) rfl
          · exact (List.nodup_append.mp (List.nodup_append.mp nd).2.1).2.2 _ w _ (by simpa using u) rfl
        unfold plus
        rw [if_neg hn]
        exact (S.dis a (sub.subset ha)).1
      · unfold plus at q
        split at q
        · rename_i w
          exact .inr (nA a w)
        · exact S.new a q
/-- another bound of what is stable -/
def En.at_ (E : En) (s : Hp) : En := { E with s := s }
theorem Slots.env {E E' : En} (h1 : E'.cl = E.cl) (h2 : E'.b = E.b) (h3 : E'.h = E.h) : ∀ {ks : List Kd} {r : Sl} {σ : L2.St} {As : List Addr}, Slots E Hs H ks r σ As → Slots E' Hs H ks r σ As
  | _, _, _, _, .nil => .nil
  | _, _, _, _, .skip h => .skip (Slots.env h1 h2 h3 h)
  | _, _, _, _, .cons o h => .cons (by unfold En.N at *; rw [h1, h2, h3]; exact o) (Slots.env h1 h2 h3 h)
theorem StRel.down (S : StRel E Hs H ks r σ) : StRel (E.at_ Hs) Hs H ks r σ := by
  obtain ⟨As, S⟩ := S
  exact ⟨As, Slots.env (E := E) (E' := E.at_ Hs) rfl rfl rfl S.sl, S.nd, S.dis, Same.refl _, S.sub, S.eb, fun a z => .inl z, S.dom, S.tb⟩
theorem StRel.up {Hs1 : Hp} (es : Same E.s Hs1) (nw : ∀ a, Hs1 a ≠ none → E.s a ≠ none ∨ E.h a = none) (S : StRel (E.at_ Hs1) Hs H ks r σ) : StRel E Hs H ks r σ := by
  obtain ⟨As, S⟩ := S
  refine ⟨As, Slots.env (E := E.at_ Hs1) (E' := E) rfl rfl rfl S.sl, S.nd, S.dis, es.trans S.es, S.sub, S.eb, fun a z => ?_, S.dom, S.tb⟩
  rcases S.new a z with q | q
  · exact nw a q
  · exact .inr q
theorem StRel.facts (S : StRel E Hs H ks r σ) : Same E.s Hs ∧ Same E.b H ∧ (∀ a, Hs a ≠ none → E.s a ≠ none ∨ E.h a = none) ∧ ∀ P, LamX.TabS E.h P lamQ → LamX.TabS H P lamQ := let ⟨_, s⟩ := S; ⟨s.es, s.eb, s.new, s.tb⟩
end

def PostS (E : En) (ks : List Kd) (kr : Kd) (fin : List Kd → Prop) (W : WX) (Dn : Ends) : O → Prop
  | .stuck => False
  | .nx r => ∀ Hs H σ, StRel E Hs H ks r σ → Dn.nx σ H
  | .rt d r => ∀ Hs H σ v ks2, fin ks2 → StRel E Hs H (kr :: ks2) (some d :: r) (some v :: σ) → Dn.rt v H
  | .exc x r => ∀ Hs H σ c dd ks2, fin ks2 → StRel E Hs H ks2 r σ → XRep E.cl Hs H x c dd → W c dd σ H
/-- .. kr what a return hands out, fin what is asked of the slots at the def's end -/
structure SS [md : Md] (X : Cx) (E : En) (kr : Kd) (fin : List Kd → Prop) (ks : List Kd) (st : Stmt) (m : Sl → O) (ks' : List Kd) : Prop where
  run : ∀ (Hs H : Hp) (r : Sl) (σ : L2.St) (W : WX) (Dn : Ends), Takes X W → StRel E Hs H ks r σ → PostS E ks' kr fin W Dn (m r) → WSx X st Dn σ H
structure SB [md : Md] (X : Cx) (E : En) (kr : Kd) (fin : List Kd → Prop) (ks : List Kd) (st : List Stmt) (m : Sl → O) (ks' : List Kd) : Prop where
  run : ∀ (Hs H : Hp) (r : Sl) (σ : L2.St) (W : WX) (Dn : Ends), Takes X W → StRel E Hs H ks r σ → PostS E ks' kr fin W Dn (m r) → WSs X st Dn σ H
@[simp] def mNil : Sl → O := .nx
@[simp] def mSeq (m1 m2 : Sl → O) : Sl → O := fun r => match m1 r with
  | .nx r' => m2 r'
  | o => o
/-- behind an expression -/
@[simp] def onR {α : Type} (x : R α) (r : Sl) (k : α → O) : O := match x with
  | .ok a => k a
  | .exc x => .exc x r
  | .stuck => .stuck
section
variable {X : Cx} {E : En} {kr : Kd} {fin : List Kd → Prop} {ks ks' ks1 ks2 : List Kd} {st : Stmt} {sts : List Stmt} {m m1 m2 : Sl → O} {e : Expr} {g : Sl → R D} {pos : Pos}
theorem sb_nil : SB X E kr fin ks [] mNil ks := ⟨fun Hs H r σ W Dn tk S P => wss_of pss_nil (P Hs H σ S)⟩
theorem sb_cons (h1 : SS X E kr fin ks st m1 ks1) (h2 : SB X E kr fin ks1 sts m2 ks2) : SB X E kr fin ks (st :: sts) (mSeq m1 m2) ks2 := by
  refine ⟨fun Hs H r σ W Dn tk S P => ?_⟩
  refine wss_of (pss_cons ps_ws pss_ws) ?_
  refine h1.run _ _ _ _ _ _ tk S ?_
  unfold mSeq at P
  cases q : m1 r with
  | stuck => rw [q] at P; exact P
  | nx r' =>
    rw [q] at P
    exact fun Hs' H' σ' S' => h2.run _ _ _ _ _ _ tk S' P
  | rt d r' => rw [q] at P; exact P
  | exc x r' => rw [q] at P; exact P
/-- what an expression asks within a statement -/
theorem Post.ofS {k : Kd} {Hs H : Hp} {r : Sl} {σ : L2.St} {W : WX} {Dn : Ends} {x : R D} {kk : D → O} {Q1 : VK} (hf : fin ks) (S : StRel E Hs H ks r σ) (P : PostS E ks' kr fin W Dn (onR x r kk))
    (h : ∀ d v Hs' H', x = .ok d → Grow Hs H Hs' H' → RK E.cl k H Hs' H' d v → PostS E ks' kr fin W Dn (kk d) → Q1 v H') : Post E.cl k Hs H Q1 (fun c dd H' => W c dd σ H') x := by
  cases x with
  | stuck => exact P
  | exc x => exact fun c dd Hs' H' g z => P Hs' H' σ c dd ks hf (S.grow g) z
  | ok d => exact fun v Hs' H' g rk => h d v Hs' H' rfl g rk P
@[simp] def mSet (i : Nat) (g : Sl → R D) : Sl → O := fun r => onR (g r) r fun d => .nx (r.set i (some d))
/-- x = e -/
theorem ss_set {i : Nat} {k k0 : Kd} {x : Str} {pos' : Pos} (hN : X.N.Nodup) (he : SE X E ks k e g) (hf : fin ks := by trivial) (hk : ks[i]? = some k0 := by rfl) (fk : k.fine = true := by rfl) (hi : X.N[i]? = some x := by rfl) (hx : Loc X.env.scope x := by first | exact Or.inl rfl | exact Or.inr rfl)
    (hs : swapsWith e (some (.Name x pos')) pos.line X.env = pure false := by rfl) (hfn : X.fn x = true ∨ X.env.scope.names.lookup x = some .local := by first | exact .inl rfl | exact .inr rfl | assumption) :
    SS X E kr fin ks (.Assign [.Name x pos'] e pos) (mSet i g) (ks.set i k) := by
  refine ⟨fun Hs H r σ W Dn tk S P => ?_⟩
  refine ws_of (ps_set hN hi hx pe_we hs hfn) ?_
  exact he.run _ _ _ _ _ _ tk S (Post.ofS hf S P fun d v Hs' H' e1 g1 k1 P1 => P1 Hs' H' _ (S.putK g1 hk fk k1))
@[simp] def mRet (g : Sl → R D) : Sl → O := fun r => onR (g r) r fun d => .rt d r
theorem ss_ret (he : SE X E ks kr e g) (hf : fin ks := by trivial) (fk : kr.fine = true := by rfl) : SS X E kr fin ks (.Return (some e) pos) (mRet g) ks' := by
  refine ⟨fun Hs H r σ W Dn tk S P => ?_⟩
  refine ws_of (ps_ret pe_we) ?_
  exact he.run _ _ _ _ _ _ tk S (Post.ofS hf S P fun d v Hs' H' e1 g1 k1 P1 => P1 Hs' H' σ v ks hf (S.push g1 fk k1))
@[simp] def mRetV (i : Nat) : Sl → O := fun r => match r[i]? with
  | some (some d) => .rt d (r.set i none)
  | _ => .stuck
theorem ss_retV {i : Nat} {x : Str} {pos' : Pos} (hf : fin ks := by trivial) (hk : ks[i]? = some kr := by rfl) (hN : X.N[i]? = some x := by rfl) (hv : Vis X.env.scope x := by first | exact Or.inl rfl | exact Or.inr (Or.inl rfl) | exact Or.inr (Or.inr rfl))
    (hq : NmOk x) : SS X E kr fin ks (.Return (some (.Name x pos')) pos) (mRetV i) ks' := by
  refine ⟨fun Hs H r σ W Dn tk S P => ?_⟩
  refine ws_of (ps_ret (pe_var hN hv hq.1 hq.2)) ?_
  unfold mRetV at P
  split at P
  · rename_i d q
    obtain ⟨v, ev, S2⟩ := S.take hk q
    exact ⟨v, ev, P Hs H σ v ks hf S2⟩
  · exact P.elim
@[simp] def mExpr (g : Sl → R D) : Sl → O := fun r => onR (g r) r fun _ => .nx r
theorem ss_expr (he : SE X E ks .val e g) (hf : fin ks := by trivial) (hs : swapsWith e none pos.line X.env = pure false := by rfl) : SS X E kr fin ks (.Expr e pos) (mExpr g) ks := by
  refine ⟨fun Hs H r σ W Dn tk S P => ?_⟩
  refine ws_of (ps_expr pe_we hs) ?_
  exact he.run _ _ _ _ _ _ tk S (Post.ofS hf S P fun d v Hs' H' e1 g1 k1 P1 => P1 Hs' H' σ (S.grow g1))
@[simp] def mIf (tc : Sl → R Bool) (m1 m2 : Sl → O) : Sl → O := fun r => onR (tc r) r fun b => if b then m1 r else m2 r
theorem PostT.ofS {Hs H : Hp} {r : Sl} {σ : L2.St} {W : WX} {Dn : Ends} {x : R Bool} {kk : Bool → O} {Q1 : Bool → Hp → Prop} (hf : fin ks) (S : StRel E Hs H ks r σ) (P : PostS E ks' kr fin W Dn (onR x r kk))
    (h : ∀ b Hs' H', x = .ok b → Grow Hs H Hs' H' → PostS E ks' kr fin W Dn (kk b) → Q1 b H') : PostT E.cl Hs H Q1 (fun c dd H' => W c dd σ H') x := by
  cases x with
  | stuck => exact P
  | exc x => exact fun c dd Hs' H' g z => P Hs' H' σ c dd ks hf (S.grow g) z
  | ok d => exact fun Hs' H' g => h d Hs' H' rfl g P
theorem ss_if {c : Expr} {a b : List Stmt} {tc : Sl → R Bool} (hc : ST X E ks c tc) (ha : SB X E kr fin ks a m1 ks') (hb : SB X E kr fin ks b m2 ks') (hf : fin ks := by trivial) : SS X E kr fin ks (.If c a b pos) (mIf tc m1 m2) ks' := by
  refine ⟨fun Hs H r σ W Dn tk S P => ?_⟩
  refine ws_of (ps_if pt_wt pss_ws pss_ws) ?_
  refine hc.run _ _ _ _ _ _ tk S (PostT.ofS hf S P fun x Hs' H' e1 g1 P1 => ?_)
  cases x with
  | true => exact iteT (ha.run _ _ _ _ _ _ tk (S.grow g1) P1)
  | false => exact iteF (hb.run _ _ _ _ _ _ tk (S.grow g1) P1)
def forL (t : Tg) (mb : Sl → O) : List D → Sl → O
  | [], r => .nx r
  | d :: ds, r => match t.un d with
    | .ok xs => (match mb (setD r t.is xs) with
      | .nx r' => forL t mb ds r'
      | o => o)
    | _ => .stuck
@[simp] def mFor (gi : Sl → R (List D)) (t : Tg) (mb : Sl → O) : Sl → O := fun r => onR (gi r) r fun ds => forL t mb ds r
theorem PostI.ofS {md : Bool} {Hs H : Hp} {r : Sl} {σ : L2.St} {W : WX} {Dn : Ends} {x : R (List D)} {kk : List D → O} {Q1 : It → Hp → Prop} (hf : fin ks) (S : StRel E Hs H ks r σ) (P : PostS E ks' kr fin W Dn (onR x r kk))
    (h : ∀ ds J Hs' H', x = .ok ds → Grow Hs H Hs' H' → ItOk E.cl J ds Hs' (bq E md H') → PostS E ks' kr fin W Dn (kk ds) → Q1 J H') : PostI E md Hs H Q1 (fun c dd H' => W c dd σ H') x := by
  cases x with
  | stuck => exact P
  | exc x => exact fun c dd Hs' H' g z => P Hs' H' σ c dd ks hf (S.grow g) z
  | ok d => exact fun J Hs' H' g i => h d J Hs' H' rfl g i P
theorem ss_for {tg iter : Expr} {body : List Stmt} {gi : Sl → R (List D)} {t : Tg} {mb : Sl → O} (hp : PassesOwn (model X.prog X.w) X.A X.env X.xe) (hc : X.calm = true) (hi : SI X E ks true tg iter gi) (hg : SG X tg t)
    (hb : ∀ s, SB X (E.at_ s) kr fin ks body mb ks) (hl : ∀ i ∈ t.is, i < ks.length) (hk : setK ks t.is = ks := by rfl) (hf : fin ks := by trivial)
    (hs : ∀ x, foldedSetIterable iter X.env x = pure x := by intro _; rfl) : SS X E kr fin ks (.For tg iter body [] pos) (mFor gi t mb) ks := by
  refine ⟨fun Hs H r σ W Dn tk S P => ?_⟩
  refine ws_of (ps_for hp hc pi_wi pg_wg pss_ws hs) ?_
  refine hi.run _ _ _ _ _ _ tk S (PostI.ofS hf S P fun ds J Hs1 H1 e1 g1 J1 P1 => ?_)
  have S1 := S.grow g1
  have F1 := S1.facts
  have D1 := S1.down
  refine ⟨fun i m σ' H' => m = ds.length - i ∧ i ≤ ds.length ∧ ∃ Hs' r', StRel (E.at_ Hs1) Hs' H' ks r' σ' ∧ PostS E ks kr fin W Dn (forL t mb (ds.drop i) r'),
    ⟨ds.length, by simp, Nat.zero_le _, Hs1, r, D1, P1⟩, ?_⟩
  rintro i m σ' H' ⟨rfl, hi', Hs', r', S', P'⟩
  have fs := S'.facts
  by_cases hlt : i < ds.length
  · refine .inr ⟨J1.go Hs' H' fs.1 S'.sub fs.2.1 i hlt, fun σ2 H2 => ∃ Hs2 r2, StRel (E.at_ Hs1) Hs2 H2 ks r2 σ2 ∧ PostS E ks kr fin W Dn (forL t mb (ds.drop (i + 1)) r2), ?_, ?_⟩
    · rintro σ2 H2 ⟨Hs2, r2, z1, z2⟩
      exact ⟨ds.length - (i + 1), by omega, rfl, hlt, Hs2, r2, z1, z2⟩
    · intro x H2 y
      have hd : ds[i]? = some ds[i] := by simp [hlt]
      obtain ⟨Hs2, g3, rx⟩ := J1.yld Hs' H' fs.1 S'.sub fs.2.1 i _ x H2 hd y
      rw [List.drop_eq_getElem_cons hlt] at P'
      dsimp only [forL] at P'
      cases q : t.un ds[i] with
      | stuck => rw [q] at P'; exact P'.elim
      | exc z => rw [q] at P'; exact P'.elim
      | ok xs =>
        rw [q] at P'
        dsimp only at P'
        refine hg.run E.cl Hs2 H2 _ _ x xs _ g3.sub rx q fun ys ry => ?_
        have S3 : StRel (E.at_ Hs1) Hs2 H2 (setK ks t.is) (setD r' t.is xs) (setV σ' t.is ys) := StRel.puts (S'.grow g3) hl (Tg.un_len q) ry
        rw [hk] at S3
        refine (hb Hs1).run _ _ _ _ W _ tk S3 ?_
        cases q2 : mb (setD r' t.is xs) with
        | stuck => rw [q2] at P'; exact P'
        | nx r2 =>
          rw [q2] at P'
          exact fun Hs4 H4 σ4 S4 => ⟨Hs4, r2, S4, P'⟩
        | rt d r2 =>
          rw [q2] at P'
          exact fun Hs4 H4 σ4 v ks2 z S4 => P' Hs4 H4 σ4 v ks2 z (S4.up F1.1 F1.2.2.1)
        | exc z r2 =>
          rw [q2] at P'
          exact fun Hs4 H4 σ4 c dd ks2 w S4 xr => P' Hs4 H4 σ4 c dd ks2 w (S4.up F1.1 F1.2.2.1) xr
  · have e : i = ds.length := by omega
    subst e
    rw [List.drop_length] at P'
    exact .inl ⟨J1.stop Hs' H' fs.1 S'.sub fs.2.1, P' Hs' H' σ' (S'.up F1.1 F1.2.2.1)⟩
def whileL (tc : Sl → R Bool) (mb : Sl → O) : Nat → Sl → O
  | 0, _ => .stuck
  | n + 1, r => onR (tc r) r fun b => if b then (match mb r with
    | .nx r' => whileL tc mb n r'
    | o => o) else .nx r
theorem ss_while {c : Expr} {body : List Stmt} {tc : Sl → R Bool} {mb : Sl → O} (n : Nat) (hp : PassesOwn (model X.prog X.w) X.A X.env X.xe) (hc : ST X E ks c tc) (hb : SB X E kr fin ks body mb ks) (hf : fin ks := by trivial) :
    SS X E kr fin ks (.While c body [] pos) (whileL tc mb n) ks := by
  refine ⟨fun Hs H r σ W Dn tk S P => ?_⟩
  refine ws_of (ps_while hp pt_wt pss_ws) ?_
  refine ⟨fun m σ' H' => ∃ Hs' r', StRel E Hs' H' ks r' σ' ∧ PostS E ks kr fin W Dn (whileL tc mb m r'), ⟨n, Hs, r, S, P⟩, ?_⟩
  rintro m σ' H' ⟨Hs', r', S', P'⟩
  cases m with
  | zero => exact P'.elim
  | succ m =>
    dsimp only [whileL] at P'
    refine hc.run _ _ _ _ _ _ tk S' (PostT.ofS hf S' P' fun x Hs2 H2 e1 g1 P1 => ?_)
    cases x with
    | false => exact iteF (P1 Hs2 H2 σ' (S'.grow g1))
    | true =>
      refine iteT ⟨fun σ3 H3 => ∃ Hs3 r3, StRel E Hs3 H3 ks r3 σ3 ∧ PostS E ks kr fin W Dn (whileL tc mb m r3), fun σ3 H3 ⟨Hs3, r3, z1, z2⟩ => ⟨m, Nat.lt_succ_self m, Hs3, r3, z1, z2⟩, ?_⟩
      refine hb.run _ _ _ _ W _ tk (S'.grow g1) ?_
      rw [if_pos rfl] at P1
      cases q2 : mb r' with
      | stuck => rw [q2] at P1; exact P1
      | nx r2 =>
        rw [q2] at P1
        exact fun Hs4 H4 σ4 S4 => ⟨Hs4, r2, S4, P1⟩
      | rt d r2 => rw [q2] at P1; exact P1
      | exc z r2 => rw [q2] at P1; exact P1
end
end VL
end

noncomputable section
namespace VL
open PySem PySem.Spec PyProof.Rows L2
variable {md : Md}

section
variable {X : Cx} {E : En} {kr : Kd} {fin : List Kd → Prop} {ks ks' : List Kd} {e : Expr} {g : Sl → R D} {pos : Pos}
theorem tyV_lst {K : PySem.W.Frag} {H : Hp} {a : Addr} {xs : List V} (h : H a = some (.lst xs)) : tyV K "list" (.ref a) H := .inl ⟨rfl, xs, SqL.of h⟩
@[simp] def mApp (i : Nat) (g : Sl → R D) : Sl → O := fun r => match r[i]? with
  | some (some (.lst ds)) => onR (g r) r fun d => if ds.length < szL then .nx (r.set i (some (.lst (ds ++ [d])))) else .stuck
  | _ => .stuck
/-- x.append(e) -/
theorem ss_append {i : Nat} {n : Option Addr} {x : Str} {p1 p2 p3 : Pos} (he : SE X E ks .val e g) (hf : fin ks := by trivial) (hk : ks[i]? = some (.own n) := by rfl) (hN : X.N[i]? = some x := by rfl) (hv : Vis X.env.scope x := by first | exact Or.inl rfl | exact Or.inr (Or.inl rfl) | exact Or.inr (Or.inr rfl))
    (hq : NmOk x)
    (hs : swapsWith (.Call (.Attribute (.Name x p1) "append" p2) [e] [] p3) none pos.line X.env = pure false := by rfl)
    (hbase : attributeBase (.Name x p1) "append" X.env (eval (.Name x p1) X.env) = eval (.Name x p1) X.env := by rfl)
    (hfew : ((backTo p3 (starEach [e] X.env)).all (fun x => !x.1) && (backToKw p3 (keywordEach [] X.env)).all (fun x => x.1.isSome)
      && decide ([e].length + ([] : List Keyword).length + (if ([] : List Keyword).isEmpty then 0 else 1) < 30)) = true := by rfl)
    (hline : (p2.endLine == p3.line) = true := by rfl) (hst : starEach [e] X.env = (false, eval e X.env) :: starEach [] X.env := by rfl) (hplain : (backTo p3 (starEach [] X.env)).any (·.1) = false := by rfl) :
    SS X E kr fin ks (.Expr (.Call (.Attribute (.Name x p1) "append" p2) [e] [] p3) pos) (mApp i g) ks := by
  refine ⟨fun Hs H r σ W Dn tk S P => ?_⟩
  refine ws_of (ps_expr (pe_bm PySem.F.plainAttrs_list PySem.F.slot_list_append PySem.F.type_list_append mt_append (pe_var hN hv hq.1 hq.2) (pa_cons pe_we pa_nil hst) hbase hfew hline hst hplain) hs) ?_
  unfold mApp at P
  split at P
  · rename_i ds q
    obtain ⟨a, xs, ea, h1, r1, _⟩ := S.mutL hk q
    refine ⟨.ref a, ea, tyV_lst h1, ?_⟩
    refine he.run _ _ _ _ _ _ tk S (Post.ofS hf S P fun d v Hs' H' e1 g1 k1 P1 => ?_)
    obtain ⟨a', xs', ea', h2, r2, up⟩ := (S.grow g1).mutL hk q
    rw [ea] at ea'
    cases ea'
    split at P1
    · rename_i hz
      exact ⟨a, xs', v, rfl, rfl, h2, by rw [szL_eq, r2.length]; exact hz, P1 _ _ _ (up _ _ (r2.app (.cons k1.rep .nil)))⟩
    · exact P1.elim
  · exact P.elim
end

theorem fun_okM {P : Program} {w : World} {K : PySem.W.Frag} {mg : Str → Option Value} {base : Heap} {x qual : Str} {st : Stmt} {f : Addr} {fd : FuncData} {N ps : List Str} {k : Nat} {sp : Sp} (F : Fun K x qual st f fd) (S : FnScope N ps (defScope st)) (len : ∀ vs H Q E, sp vs H Q E → vs.length = ps.length)
    (hbody : ∀ (cdv : Value) (A : Around) (outer : List Env) (s : Shared) (H : Hp) (vs : List V) (Q : VK) (E : XK), Room k (A.deeper (envOfC qual (defScope st) s.heap.objs.size f cdv)) → sp vs H Q E →
      ∃ t, PSs (cxOf (CXM P w) P w K mg base N qual (defScope st) f cdv A outer s H E) (defBody st) t ∧ t { nx := fun _ H' => Q .non H', rt := Q } (start N vs) H) : FnOk P w K mg base (CXM P w) (k + 1) f fd ps sp := by
  obtain ⟨oc, od, kV, doc, pm, an, cdv, ct, osl, rfl, lk, hcd⟩ := F.ex
  exact fn_of lk hcd S len fun A outer s H vs Q E hr hsp => hbody cdv A outer s H vs Q E hr hsp

theorem ps_raiseM {X : Cx} {W : WX} {e : Expr} {t : L2.St → Hp → XK → Prop} {pos : Pos} (hc : X.calm = true) (tk : Takes X W) (hz : L2.PMk X e t) (hn : L2N.PMk X e t) : PS X (.Raise (some e) none pos) (fun _ σ H => t σ H fun cls d H' => W cls d σ H') := by
  obtain ⟨n⟩ := md
  cases n
  · exact L2.ps_raise hc tk hz
  · exact L2N.ps_raise hc tk hn
/-- C(e, ..), its context None -/
theorem pmk_oexN {X : Cx} {e : Expr} {es : List Expr} {ta : TA} {p pos : Pos} {CX : CXT} {x : Str} {C fI : Addr} {k : Nat} {fd : FuncData} {ps : List Str} {sp : Sp} (T : OexC X.K C) (iC : PySem.W.findIn X.K (.ref C) "__init__" = some (some (.ref fI))) (tI : PySem.W.typeIn X.K (.ref fI) = some (.type "function"))
    (F1 : FnOk X.prog X.w X.K X.mg X.base CX k fI fd ps sp) (hr : Room (k + 1) X.A) (hb : Binds X.K fd ps []) (hx : Passes CX X (fun _ _ _ => False)) (hg : Gl X x) (hm : X.mg x = some (.ref C)) (ha : PA X (e :: es) ta)
    (hdb : (x == ("__debug__" : Str)) = false := by decide) (he : starEach (e :: es) X.env = (false, eval e X.env) :: starEach es X.env := by rfl) (hpl : (backTo pos (starEach es X.env)).any (·.1) = false := by rfl) :
    L2N.PMk X (.Call (.Name x p) (e :: es) [] pos) (tMkO C sp [] ta) := by
  intro pins s σ H Q I h
  obtain ⟨nm, q, N, bs, bm, sn, sub, ab, col, dd, k0, k1, k2, k3, k5, hC, hbm⟩ := T.cls
  refine wpAny_Call_Name_kw (ld_glob I hg hm ?_ hdb)
  refine PySem.W.callWith_K (h₀ := X.base) I.ok.mod.kin T.kC (thn (ha.run pos pins s σ H _ I h) fun us s1 ⟨vs, H1, I1, rv, hz, want⟩ => ⟨I1.kIn, ?_⟩) he hpl
  show wpAny _ _ (call (.ref C) us) _ _ _
  obtain ⟨hp, g, dr, tk, os⟩ := s1
  have lesz : hp.objs.size ≤ hp.objs.size + 1 := Nat.le_succ _
  have new1 : H1 (hp.objs.size + 1) = none := I1.hok.fresh lesz
  have hq := want (hp.objs.size + 1) new1
  rw [List.append_nil] at hq
  have keeps : ∀ b o, hp.get? b = some o → ((hp.push (PySem.W.kdv_tup us)).push (PySem.HandSPX.excO C hp.objs.size)).get? b = some o := fun b o e => Heap.get?_push_of_some _ (Heap.get?_push_of_some _ e)
  have there : ((hp.push (PySem.W.kdv_tup us)).push (PySem.HandSPX.excO C hp.objs.size)).get? (hp.objs.size + 1) = some (PySem.HandSPX.excO C hp.objs.size) := by heap_get
  have I2 : Inv X pins σ (upd H1 (hp.objs.size + 1) (exo (hp.objs.size + 1) C none)) ⟨(hp.push (PySem.W.kdv_tup us)).push (PySem.HandSPX.excO C hp.objs.size), g, dr, tk, os⟩ :=
    I1.laid (t' := tk) (a := hp.objs.size + 1) (o := exo (hp.objs.size + 1) C none) (h' := (hp.push (PySem.W.kdv_tup us)).push (PySem.HandSPX.excO C hp.objs.size)) keeps lesz (exo_ok there)
  have rv2 : Vals (V.ref (hp.objs.size + 1) :: vs) (Value.ref (hp.objs.size + 1) :: us) := .cons rfl rv
  have len2 : (Value.ref (hp.objs.size + 1) :: us ++ []).length = ps.length := by
    have e := rv2.length
    rw [F1.len _ _ _ _ hq] at e
    rw [List.append_nil]
    exact e.symm
  have short : us.length ≤ sizeLine := by
    rw [← Paired.length rv, sizeLine_eq]
    omega
  have bound := hb _ (Value.ref (hp.objs.size + 1) :: us) I2.kIn len2
  rw [List.append_nil] at bound
  refine wpAny_call (PySem.HandSPX.call_own F.excBase_ValueError (fun Y => PySem.HandSPX.refsVE_contains Y bm hbm) (I1.kIn _ _ hC) (PySem.W.looks_findIn I1.kIn iC) (fun self => PySem.W.bind_fn I1.kIn self tI) short
    (codeAny_mono (F1.run _ X.stack _ _ ⟨Value.ref (hp.objs.size + 1) :: us, []⟩ (Value.ref (hp.objs.size + 1) :: us) _ _ (fun _ _ _ => False) (hr.make C us []) (I2.env0.make C us []) bound rv2 hq) fun r s' ended => ?_))
  cases r with
  | error er => exact hx pins σ _ _ er s' I2 ended
  | ok fl =>
    cases fl with
    | next => exact ended.elim
    | brk => exact ended.elim
    | cont => exact ended.elim
    | ret u =>
      obtain ⟨v, H2, os2, bare2, un2, hok2, ru, ev, d, fs, ea, ed, hd1, q2⟩ := ended
      subst ev
      obtain ⟨h2, g2, d2, t2, os'⟩ := s'
      obtain ⟨t0, G, J, kG, ge, hoe, na⟩ := mk_end0 (d2 := d2) (t2 := t2) I1 lesz keeps un2 hok2 os2 bare2 ea ed hd1
      refine ⟨ru, ⟨hp.objs.size + 1, _, _, ⟨G, g2, d2, t2, os'⟩, _, .ref C, some d, rfl, J, kG, ge, hoe, ⟨rfl, rfl, fun vs hv => ?_⟩, rfl, rfl, na, rfl, bare2, raises_own T.exC T.tyC, q2⟩⟩
      cases hv
      rfl

section
variable {X : Cx} {E : En} {kr : Kd} {fin : List Kd → Prop} {ks ks' : List Kd} {e : Expr} {g : Sl → R D} {pos : Pos}
@[simp] def mRaise (C : Str) : Sl → O := fun r => .exc ⟨C, none⟩ r
/-- what is known of an own class without __init__ -/
structure XPlain (K : PySem.W.Frag) (mg : Str → Option Value) (cl : Cl) (C : Str) : Prop where
  ex : ∃ a, cl.f C = some a ∧ mg C = some (.ref a) ∧ PySem.W.excIn K a [.type "ValueError", .type "Exception", .type "BaseException", .type "object"] "ValueError.__new__" = true ∧ PySem.W.keepIn K (.ref a) = true ∧
    PySem.W.subIn K (.ref a) (.type "BaseException") = some true ∧ PySem.W.typeIn K (.ref a) = some (.type "type")
theorem ss_raise {C m : Str} {j : Nat} {p1 p2 p3 : Pos} (hc : X.calm = true) (T : XPlain X.K X.mg E.cl C) (hq : NmOk C) (hg : Gl X C := by rfl) (hf : fin ks := by trivial) :
    SS X E kr fin ks (.Raise (some (.Call (.Name C p1) [.Constant (.str m) j p2] [] p3)) none pos) (mRaise C) ks' := by
  refine ⟨fun Hs H r σ W Dn tk S P => ?_⟩
  obtain ⟨a, h1, h2, h3, h4, h5, h6⟩ := T.ex
  exact ws_of (ps_raiseM hc tk (L2.pmk_own PySem.F.excBase_ValueError h3 h2 h4 (raises_own h5 h6) hg hq.1) (L2N.pmk_own PySem.F.excBase_ValueError h3 h2 h4 (raises_own h5 h6) hg hq.1)) (P Hs H σ _ _ ks hf S ⟨a, h1, rfl, rfl⟩)
/-- an own class whose __init__ stores its one argument in the field «at» -/
structure XAt (P : Program) (w : World) (K : PySem.W.Frag) (mg : Str → Option Value) (base : Heap) (cl : Cl) (C : Str) (k : Nat) : Prop where
  ex : ∃ a fI fd ps, cl.f C = some a ∧ mg C = some (.ref a) ∧ OexC K a ∧ PySem.W.findIn K (.ref a) "__init__" = some (some (.ref fI)) ∧ PySem.W.typeIn K (.ref fI) = some (.type "function") ∧ Binds K fd ps [] ∧
    FnOk P w K mg base CX0 k fI fd ps (fun vs H Q _ => ∃ x v, vs = [.ref x, v] ∧ H x = some (exo x a none) ∧ ∀ dx, H dx = none → dx ≠ x → Q .non (upd (upd H x (exo x a (some dx))) dx (exd dx [("at", v)])))
@[simp] def mRaiseAt (C : Str) (g : Sl → R D) : Sl → O := fun r => onR (g r) r fun d => .exc ⟨C, some d⟩ r
theorem ss_raiseAt {C : Str} {k : Nat} {p1 p3 : Pos} (hc : X.calm = true) (T : XAt X.prog X.w X.K X.mg X.base E.cl C k) (hr : Room (k + 1) X.A) (he : SE X E ks .val e g) (hq : NmOk C) (hg : Gl X C := by rfl) (hf : fin ks := by trivial)
    (hst : starEach (e :: []) X.env = (false, eval e X.env) :: starEach [] X.env := by rfl) (hpl : (backTo p3 (starEach [] X.env)).any (·.1) = false := by rfl) :
    SS X E kr fin ks (.Raise (some (.Call (.Name C p1) [e] [] p3)) none pos) (mRaiseAt C g) ks' := by
  refine ⟨fun Hs H r σ W Dn tk S P => ?_⟩
  obtain ⟨a, fI, fd, ps, h1, h2, h3, h4, h5, h6, h7⟩ := T.ex
  refine ws_of (ps_raiseM hc tk (pmk_oex h3 h4 h5 h7 hr h6 .nil pass0 hg h2 pa_wa hq.1 hst hpl) (pmk_oexN h3 h4 h5 h7 hr h6 pass0 hg h2 pa_wa hq.1 hst hpl)) ?_
  refine wa_one (he.run _ _ _ _ _ _ tk S (Post.ofS hf S P fun d v Hs' H' e1 g1 k1 P1 => ?_)) hst
  refine ⟨by show 1 ≤ 1000; decide, fun x hx => ⟨x, v, rfl, upd_same, fun dx hd ne => ⟨rfl, dx, [("at", v)], ?_, upd_same, ?_, ?_⟩⟩⟩
  · rw [upd_ne ne.symm, upd_same]
  · rw [upd_ne ne] at hd
    exact hd
  · have hd' : H' dx = none := by
      rw [upd_ne ne] at hd
      exact hd
    have eq : upd (del (upd (upd (upd H' x (exo x a none)) x (exo x a (some dx))) dx (exd dx [("at", v)])) x) dx (.xd [("at", v)]) = upd H' dx (.xd [("at", v)]) := by
      funext b
      by_cases hb : b = dx
      · rw [hb, upd_same, upd_same]
      · rw [upd_ne hb, upd_ne hb]
        by_cases hx2 : b = x
        · rw [hx2, del_same, hx]
        · rw [del_ne hx2, upd_ne hb, upd_ne hx2, upd_ne hx2]
    rw [eq]
    have g2 := Grow.new g1.sub (o := .xd [("at", v)]) hd'
    exact P1 _ _ σ _ _ ks hf ((S.grow g1).grow g2) ⟨a, h1, rfl, dx, v, rfl, upd_same, Rep.same g2.s _ _ k1.rep⟩
end

/-- a def's promise by its plain function -/
def spV (cl : Cl) (bs : List Bool) (kr : Kd) (f : List D → R D) : Sp := fun vs H Q E => ∃ ds Hs, Same Hs H ∧ RAs cl Hs H bs ds vs ∧ Post cl kr Hs H Q E (f ds)
@[simp] def outF : O → R D
  | .nx _ => .ok .non
  | .rt d _ => .ok d
  | .exc x _ => .exc x
  | .stuck => .stuck
/-- the plain function of a body with n further names -/
@[simp] def runF (m : Sl → O) (n : Nat) : List D → R D := fun ds => outF (m (ds.map some ++ List.replicate n none))
structure Fi [md : Md] (P : Program) (w : World) (K : PySem.W.Frag) (mg : Str → Option Value) (base : Heap) (cl : Cl) (x : Str) (k : Nat) (bs : List Bool) (kr : Kd) (f : List D → R D) : Prop where
  ex : ∃ fa fd ps, FnOk P w K mg base (CXM P w) k fa fd ps (spV cl bs kr f) ∧ mg x = some (.ref fa) ∧ PySem.W.keepIn K (.ref fa) = true ∧ Binds K fd ps []
theorem Fi.mono {P : Program} {w : World} {K : PySem.W.Frag} {mg : Str → Option Value} {base : Heap} {cl : Cl} {x : Str} {k k' : Nat} {bs : List Bool} {kr : Kd} {f : List D → R D} (F : Fi P w K mg base cl x k bs kr f) (h : k ≤ k') : Fi P w K mg base cl x k' bs kr f := by
  obtain ⟨fa, fd, ps, h1, h2⟩ := F.ex
  exact ⟨fa, fd, ps, h1.mono h, h2⟩
def kdOf : Bool → Kd
  | true => .val
  | false => .bor
theorem slots_start {E : En} {Hs H : Hp} (eb : E.b = H) : ∀ {bs : List Bool} {ds : List D} {vs : List V}, RAs E.cl Hs H bs ds vs → ∀ (ls : List Kd), Slots E Hs H (bs.map kdOf ++ ls) (ds.map some ++ List.replicate ls.length none) (vs.map some ++ List.replicate ls.length none) []
  | _, _, _, .nil, ls => by
    induction ls with
    | nil => exact .nil
    | cons l ls ih => exact .skip ih
  | _, _, _, .val r t, ls => .cons (A := []) (.val r) (slots_start eb t ls)
  | _, _, _, .bor r t, ls => by
    refine .cons (A := []) ?_ (slots_start eb t ls)
    show ORep E.cl E.N E.b Hs H .bor _ _ []
    cases r with
    | val r => exact .borV r
    | lst h1 h2 => exact .borL (by rw [eb]; exact h1) h2
    | dct h1 h2 => exact .borK (by rw [eb]; exact h1) h2
    | obj h0 h1 h2 => exact .borO h0 (by rw [eb]; exact h1) (by rw [eb]; exact h2)
theorem def_okF {P : Program} {w : World} {K : PySem.W.Frag} {mg : Str → Option Value} {base : Heap} {cl : Cl} {x qual : Str} {st : Stmt} {fa : Addr} {fd : FuncData} {N ps : List Str} {k : Nat} {bs : List Bool} {kr : Kd} {ls ks' : List Kd} {m : Sl → O}
    (F : Fun K x qual st fa fd) (S : FnScope N ps (defScope st)) (hb : bs.length = ps.length) (hN : N.length = ps.length + ls.length) (fk : kr.fine = true) (ko : kr = .val ∨ kr = .own none)
    (body : ∀ (cdv : Value) (A : Around) (outer : List Env) (s : Shared) (H : Hp) (E : XK) (h0 s0 b0 : Hp), Room k (A.deeper (envOfC qual (defScope st) s.heap.objs.size fa cdv)) →
      SB (cxOf (CXM P w) P w K mg base N qual (defScope st) fa cdv A outer s H E) ⟨cl, h0, s0, b0⟩ kr (fun _ => True) (bs.map kdOf ++ ls) (defBody st) m ks') : FnOk P w K mg base (CXM P w) (k + 1) fa fd ps (spV cl bs kr (runF m ls.length)) := by
  refine fun_okM F S (fun vs H Q E h => ?_) (fun cdv A outer s H vs Q E hr h => ?_)
  · obtain ⟨ds, Hs, _, a, _⟩ := h
    rw [a.len.1, hb]
  · obtain ⟨ds, Hs, e, a, p⟩ := h
    refine ⟨_, pss_ws, ?_⟩
    have tk : Takes (cxOf (CXM P w) P w K mg base N qual (defScope st) fa cdv A outer s H E) (fun c dd _ H' => E c dd H') := takes_of rfl rfl rfl rfl
    have hst : L2.start N vs = vs.map some ++ List.replicate ls.length none := by
      unfold L2.start
      rw [a.len.1, hb, hN, Nat.add_sub_cancel_left]
    have S0 : StRel ⟨cl, H, Hs, H⟩ Hs H (bs.map kdOf ++ ls) (ds.map some ++ List.replicate ls.length none) (L2.start N vs) := by
      rw [hst]
      exact ⟨[], slots_start rfl a ls, List.nodup_nil, (fun a ha => nomatch ha), Same.refl _, e, Same.refl _, fun a z => .inl z, fun a z => z, fun _ z => z⟩
    refine (body cdv A outer s H E H Hs H hr).run _ _ _ _ _ _ tk S0 ?_
    unfold runF at p
    cases q : m (ds.map some ++ List.replicate ls.length none) with
    | stuck => rw [q] at p; exact p
    | nx r =>
      rw [q] at p
      intro Hs' H' σ' S'
      have f := S'.facts
      refine p .non Hs' H' ⟨f.1, f.2.1, f.2.2.1, S'.sub, f.2.2.2⟩ ?_
      rcases ko with rfl | rfl
      · exact RK.val .non
      · exact RK.ownPlain rfl .non
    | rt d r =>
      rw [q] at p
      intro Hs' H' σ' v ks2 _ S'
      have f := S'.facts
      refine p v Hs' H' ⟨f.1, f.2.1, f.2.2.1, S'.sub, f.2.2.2⟩ ?_
      obtain ⟨As, s'⟩ := S'
      have sl := s'.sl
      cases sl with
      | cons o t =>
        rename_i A As'
        refine ⟨A, ORep.anyB kr _ _ _ fk o, (List.nodup_append.mp s'.nd).1, fun a ha => ?_⟩
        have z := s'.dis a (List.mem_append_left _ ha)
        exact ⟨z.1, z.2⟩
    | exc z r =>
      rw [q] at p
      intro Hs' H' σ' c dd ks2 _ S' xr
      have f := S'.facts
      exact p c dd Hs' H' ⟨f.1, f.2.1, f.2.2.1, S'.sub, f.2.2.2⟩ xr
theorem def_ok {P : Program} {w : World} {K : PySem.W.Frag} {mg : Str → Option Value} {base : Heap} {cl : Cl} {x qual : Str} {st : Stmt} {fa : Addr} {fd : FuncData} {N ps : List Str} {k : Nat} {bs : List Bool} {kr : Kd} {ls ks' : List Kd} {m : Sl → O}
    (F : Fun K x qual st fa fd) (S : FnScope N ps (defScope st)) (gm : mg x = some (.ref fa)) (bn : Binds K fd ps []) (hb : bs.length = ps.length) (hN : N.length = ps.length + ls.length) (fk : kr.fine = true) (ko : kr = .val ∨ kr = .own none)
    (body : ∀ (cdv : Value) (A : Around) (outer : List Env) (s : Shared) (H : Hp) (E : XK) (h0 s0 b0 : Hp), Room k (A.deeper (envOfC qual (defScope st) s.heap.objs.size fa cdv)) →
      SB (cxOf (CXM P w) P w K mg base N qual (defScope st) fa cdv A outer s H E) ⟨cl, h0, s0, b0⟩ kr (fun _ => True) (bs.map kdOf ++ ls) (defBody st) m ks') : Fi P w K mg base cl x (k + 1) bs kr (runF m ls.length) :=
  ⟨fa, fd, ps, def_okF F S hb hN fk ko body, gm, F.kp, bn⟩
/-- f(e, ..) -/
theorem se_call {X : Cx} {E : En} {ks : List Kd} {x : Str} {k : Nat} {bs : List Bool} {kr : Kd} {f : List D → R D} {e : Expr} {es : List Expr} {t : Sl → R (List D)} {p pos : Pos} (F : Fi X.prog X.w X.K X.mg X.base E.cl x k bs kr f) (hr : Room k X.A) (ha : SA X E ks bs (e :: es) t)
    (hq : NmOk x) (hg : Gl X x := by rfl) (he : starEach (e :: es) X.env = (false, eval e X.env) :: starEach es X.env := by rfl) (hpl : (backTo pos (starEach es X.env)).any (·.1) = false := by rfl) :
    SE X E ks kr (.Call (.Name x p) (e :: es) [] pos) (gCall f t) := by
  refine ⟨fun Hs H r σ W Q tk S P => ?_⟩
  obtain ⟨fa, fd, ps, h1, h2, h3, h4⟩ := F.ex
  refine we_of (pe_callS h1 hr hg h2 h3 h4 (fun σ => passAt tk σ) pa_wa hq.1 he hpl) ?_
  refine ha.run _ _ _ _ _ _ tk S (PostA.of P fun ds vs Hs' H' e1 g1 a P1 => ?_)
  exact ⟨ds, Hs', g1.sub, a, P1⟩
end VL
end

noncomputable section
namespace VL
open PySem PySem.Spec PyProof.Rows L2
variable {md : Md}

theorem bb_len : bootBuiltins "len" = some (.builtin "len") := by decide +kernel
theorem bn_len : ("len" : Str) ≠ "__name__" := by decide
theorem bd_len : (("len" : Str) == ("__debug__" : Str)) = false := by decide
theorem bb_min : bootBuiltins "min" = some (.builtin "min") := by decide +kernel
theorem bn_min : ("min" : Str) ≠ "__name__" := by decide
theorem bd_min : (("min" : Str) == ("__debug__" : Str)) = false := by decide
theorem bb_max : bootBuiltins "max" = some (.builtin "max") := by decide +kernel
theorem bn_max : ("max" : Str) ≠ "__name__" := by decide
theorem bd_max : (("max" : Str) == ("__debug__" : Str)) = false := by decide
theorem bb_sum : bootBuiltins "sum" = some (.builtin "sum") := by decide +kernel
theorem bn_sum : ("sum" : Str) ≠ "__name__" := by decide
theorem bd_sum : (("sum" : Str) == ("__debug__" : Str)) = false := by decide
theorem bb_all : bootBuiltins "all" = some (.builtin "all") := by decide +kernel
theorem bn_all : ("all" : Str) ≠ "__name__" := by decide
theorem bd_all : (("all" : Str) == ("__debug__" : Str)) = false := by decide
theorem bb_sorted : bootBuiltins "sorted" = some (.builtin "sorted") := by decide +kernel
theorem bn_sorted : ("sorted" : Str) ≠ "__name__" := by decide
theorem bd_sorted : (("sorted" : Str) == ("__debug__" : Str)) = false := by decide
theorem bb_isinstance : bootBuiltins "isinstance" = some (.builtin "isinstance") := by decide +kernel
theorem bb_list : bootBuiltins "list" = some (.type "list") := by decide +kernel
theorem bn_list : ("list" : Str) ≠ "__name__" := by decide
theorem bd_list : (("list" : Str) == ("__debug__" : Str)) = false := by decide
theorem bb_tuple : bootBuiltins "tuple" = some (.type "tuple") := by decide +kernel
theorem bn_tuple : ("tuple" : Str) ≠ "__name__" := by decide
theorem bd_tuple : (("tuple" : Str) == ("__debug__" : Str)) = false := by decide
theorem bb_int : bootBuiltins "int" = some (.type "int") := by decide +kernel
theorem bn_int : ("int" : Str) ≠ "__name__" := by decide
theorem bd_int : (("int" : Str) == ("__debug__" : Str)) = false := by decide
theorem bb_bool : bootBuiltins "bool" = some (.type "bool") := by decide +kernel
theorem bn_bool : ("bool" : Str) ≠ "__name__" := by decide
theorem bd_bool : (("bool" : Str) == ("__debug__" : Str)) = false := by decide
theorem bb_str : bootBuiltins "str" = some (.type "str") := by decide +kernel
theorem bn_str : ("str" : Str) ≠ "__name__" := by decide
theorem bd_str : (("str" : Str) == ("__debug__" : Str)) = false := by decide
theorem bb_dict : bootBuiltins "dict" = some (.type "dict") := by decide +kernel
inductive Ty5 where
  | list | tuple | bool | str | int
def Ty5.nm : Ty5 → String
  | .list => "list"
  | .tuple => "tuple"
  | .bool => "bool"
  | .str => "str"
  | .int => "int"
@[simp] def isTy : Ty5 → D → Bool
  | .list, .lst _ => true
  | .tuple, .tup _ => true
  | .bool, .bl _ => true
  | .str, .str _ => true
  | .int, .int _ => true
  | .int, .bl _ => true
  | _, _ => false
@[simp] def tyNm : D → Option String
  | .non => some "NoneType"
  | .bl _ => some "bool"
  | .int _ => some "int"
  | .str _ => some "str"
  | .lst _ => some "list"
  | .tup _ => some "tuple"
  | .dct _ => none
  | .obj _ _ => none
  | .scr _ => none
theorem RB.tyX {K : PySem.W.Frag} {cl : Cl} {Hs H : Hp} {d : D} {v : V} {t : String} (h : RB cl Hs H d v) (e : Same Hs H) (q : tyNm d = some t) : TyX K H v (.type t) := by
  cases d with
  | non => cases q; cases h.nonInv; exact .base .non
  | bl b => cases q; cases h.blInv; exact .base (.bl _)
  | int i => cases q; cases h.intInv; exact .base (.int _)
  | str x => cases q; cases h.strInv; exact .base (.str _)
  | lst ds => cases q; obtain ⟨a, xs, rfl, h1, _⟩ := h.lstInv e; exact .base (.lst h1)
  | tup ds => cases q; obtain ⟨a, xs, rfl, h1, _⟩ := h.tupInv e; exact .base (.tup h1)
  | dct ds => cases q
  | obj _ _ => cases q
  | scr _ => cases q
def allTy : List String := ["NoneType", "bool", "int", "str", "list", "tuple", "dict"]
theorem kit_list : ∀ t ∈ allTy, kitB t "list" = some (t == "list") := by decide +kernel
theorem kit_tuple : ∀ t ∈ allTy, kitB t "tuple" = some (t == "tuple") := by decide +kernel
theorem kit_bool : ∀ t ∈ allTy, kitB t "bool" = some (t == "bool") := by decide +kernel
theorem kit_str : ∀ t ∈ allTy, kitB t "str" = some (t == "str") := by decide +kernel
theorem kit_int : ∀ t ∈ allTy, kitB t "int" = some (t == "int" || t == "bool") := by decide +kernel
theorem kit_is (T : Ty5) (d : D) (t : String) (q : tyNm d = some t) : kitB t T.nm = some (isTy T d) := by
  cases T <;> cases d <;> first | (cases q; done) | (cases q; first | exact kit_list _ (by decide) | exact kit_tuple _ (by decide) | exact kit_bool _ (by decide) | exact kit_str _ (by decide) | exact kit_int _ (by decide))
@[simp] def dIs (T : Ty5) (d : D) : R D := match tyNm d with
  | some _ => .ok (.bl (isTy T d))
  | none => .stuck
@[simp] def dIsLT (d : D) : R D := match tyNm d with
  | some _ => .ok (.bl (isTy .list d || isTy .tuple d))
  | none => .stuck
section
variable {X : Cx} {E : En} {ks : List Kd} {e : Expr} {g : Sl → R D} {p p1 p2 p3 pos : Pos}
/-- isinstance(e, T) -/
theorem se_isi (T : Ty5) {y : Str} (he : SE X E ks .bor e g) (hm : X.mg "isinstance" = none) (hmT : X.mg y = none) (hb : bootBuiltins y = some (.type T.nm)) (hn : y ≠ "__name__") (hdb : (y == ("__debug__" : Str)) = false) (hg : Gl X "isinstance" := by rfl) (hgT : Gl X y := by rfl)
    (hs : starEach [e, .Name y p2] X.env = (false, eval e X.env) :: starEach [.Name y p2] X.env := by rfl) (hs2 : starEach [.Name y p2] X.env = (false, eval (.Name y p2) X.env) :: starEach [] X.env := by rfl) (hpl : (backTo pos (starEach [.Name y p2] X.env)).any (·.1) = false := by rfl) :
    SE X E ks .val (.Call (.Name "isinstance" p1) [e, .Name y p2] [] pos) (gUn (dIs T) g) := by
  refine ⟨fun Hs H r σ W Q tk S P => ?_⟩
  refine we_of (pe_callB call_isi hg hm bb_isinstance (pa_cons pe_we (pa_cons (pe_bltn (v := .ty T.nm) hgT hmT hb rfl hn hdb) pa_nil hs2) hs) (by decide) (by decide) hs hpl) ?_
  refine he.run _ _ _ _ _ _ tk S (P.imp fun d v Hs1 H1 e1 g1 k1 P1 => ?_)
  unfold dIs at P1
  split at P1
  · rename_i t q
    exact ⟨v, .ty T.nm, .type t, .type T.nm, isTy T d, rfl, .ty _, k1.rb.tyX g1.sub q, kit_ty (kit_is T d t q), P1.finV g1.sub (.bl _)⟩
  · exact P1.elim
/-- isinstance(e, (list, tuple)) -/
theorem se_isiLT {kk : Nat} (he : SE X E ks .bor e g) (hm : X.mg "isinstance" = none) (hmL : X.mg "list" = none) (hmT : X.mg "tuple" = none) (hg : Gl X "isinstance" := by rfl) (hgL : Gl X "list" := by rfl) (hgT : Gl X "tuple" := by rfl)
    (hs : starEach [e, .Tuple [.Name "list" p2, .Name "tuple" p3] kk p] X.env = (false, eval e X.env) :: starEach [.Tuple [.Name "list" p2, .Name "tuple" p3] kk p] X.env := by rfl) (hs2 : starEach [.Tuple [.Name "list" p2, .Name "tuple" p3] kk p] X.env = (false, eval (.Tuple [.Name "list" p2, .Name "tuple" p3] kk p) X.env) :: starEach [] X.env := by rfl)
    (hs3 : starEach [.Name "list" p2, .Name "tuple" p3] X.env = (false, eval (.Name "list" p2) X.env) :: starEach [.Name "tuple" p3] X.env := by rfl) (hs4 : starEach [.Name "tuple" p3] X.env = (false, eval (.Name "tuple" p3) X.env) :: starEach [] X.env := by rfl)
    (hpl : (backTo pos (starEach [.Tuple [.Name "list" p2, .Name "tuple" p3] kk p] X.env)).any (·.1) = false := by rfl) :
    SE X E ks .val (.Call (.Name "isinstance" p1) [e, .Tuple [.Name "list" p2, .Name "tuple" p3] kk p] [] pos) (gUn dIsLT g) := by
  refine ⟨fun Hs H r σ W Q tk S P => ?_⟩
  refine we_of (pe_callB call_isiT hg hm bb_isinstance (pa_cons pe_we (pa_cons (pe_tup (pa_cons (pe_bltn (v := .ty "list") hgL hmL bb_list rfl) (pa_cons (pe_bltn (v := .ty "tuple") hgT hmT bb_tuple rfl) pa_nil hs4) hs3)) pa_nil hs2) hs) (by decide) (by decide) hs hpl) ?_
  refine he.run _ _ _ _ _ _ tk S (P.imp fun d v Hs1 H1 e1 g1 k1 P1 => ?_)
  refine ⟨by show 2 ≤ sizeLine; decide, fun q hq => ?_⟩
  unfold dIsLT at P1
  split at P1
  · rename_i t q2
    have g2 := Grow.fresh (o := .tup [V.ty "list", V.ty "tuple"]) g1.sub hq
    refine ⟨v, q, _, .type t, [.type "list", .type "tuple"], isTy .list d || isTy .tuple d, rfl, upd_same, .cons (.ty _) (.cons (.ty _) .nil), (k1.rb.grow g2).tyX g2.sub q2, ?_, (P1.grow g2).finV g2.sub (.bl _)⟩
    refine kitAny_cons (b := isTy .list d) (kit_ty (kit_is .list d t q2)) (fun z => ?_) (fun z => by rw [z]; rfl)
    rw [z, Bool.false_or]
    exact kitAny_cons (b := isTy .tuple d) (kit_ty (kit_is .tuple d t q2)) (fun z => by rw [z]; exact kitAny_nil) (fun z => z)
  · exact P1.elim
end

def blsOf : List D → Option (List Bool)
  | [] => some []
  | .bl i :: r => (blsOf r).map (i :: ·)
  | _ :: _ => none
theorem blsOf_map (ns : List Bool) : blsOf (ns.map D.bl) = some ns := by
  induction ns with
  | nil => rfl
  | cons n ns ih => rw [List.map_cons, blsOf, ih]; rfl
theorem blsOf_eq : ∀ {ds : List D} {ns : List Bool}, blsOf ds = some ns → ds = ns.map D.bl
  | [], _, h => by cases h; rfl
  | d :: r, _, h => by
    cases d <;> first | cases h | skip
    rename_i i
    dsimp only [blsOf] at h
    cases q : blsOf r with
    | none => rw [q] at h; cases h
    | some ms =>
      rw [q] at h
      cases h
      rw [blsOf_eq q]
      rfl
theorem RepL.bls {cl : Cl} {H : Hp} {ns : List Bool} : ∀ {vs : List V}, RepL cl H (ns.map D.bl) vs → vs = ns.map V.bl := by
  induction ns with
  | nil =>
    intro vs h
    cases h
    rfl
  | cons n ns ih =>
    intro vs h
    cases h with
    | cons h1 h2 =>
      cases h1
      rw [ih h2]
      rfl
def fAll : List D → R D
  | [.lst ds] => match blsOf ds with
    | some bs => .ok (.bl (bs.all id))
    | none => .stuck
  | _ => .stuck
theorem RB.blsInv {cl : Cl} {Hs H : Hp} {ds : List D} {ns : List Bool} {v : V} (h : RB cl Hs H (.lst ds) v) (e : Same Hs H) (q : blsOf ds = some ns) : ∃ a, v = .ref a ∧ H a = some (.lst (ns.map V.bl)) := by
  obtain ⟨p, xs, rfl, h1, r1⟩ := h.lstInv e
  rw [blsOf_eq q] at r1
  rw [r1.bls] at h1
  exact ⟨p, rfl, h1⟩
theorem callv_all {X : Cx} : CallV X.K (rAll X.K) .val [false] fAll := by
  intro cl Hs H ds vs Q W e a P
  obtain ⟨d, v, rfl, rfl, r⟩ := a.one
  cases d <;> first | exact P.elim | skip
  dsimp only [fAll] at P
  split at P
  · rename_i ns q
    obtain ⟨p, rfl, h1⟩ := r.blsInv e q
    exact ⟨p, ns, rfl, SqL.of h1, P.finV e (.bl _)⟩
  · exact P.elim
def dIn (d : D) : D → R D
  | .lst ds => if shp d && shp (.lst ds) then .ok (.bl (ds.any fun z => dEqB z d)) else .stuck
  | .str z => (match d with
    | .str ⟨⟨[c]⟩⟩ => .ok (.bl (decide (c ∈ z.cps.toList)))
    | _ => .stuck)
  | _ => .stuck
def dNotIn (d : D) : D → R D
  | .lst ds => if shp d && shp (.lst ds) then .ok (.bl (!ds.any fun z => dEqB z d)) else .stuck
  | _ => .stuck
theorem any_toPys (d : D) : ∀ ds : List D, (toPys ds).any (fun z => PyData.eqv z (toPy d)) = ds.any fun z => dEqB z d
  | [] => rfl
  | x :: xs => by
    show (PyData.eqv (toPy x) (toPy d) || (toPys xs).any _) = (dEqB x d || xs.any _)
    rw [any_toPys d xs]
    rfl
theorem nox_in : NoX dIn := fun a b x h => by
  cases b <;> dsimp only [dIn] at h <;> first | (split at h <;> cases h) | cases h
theorem nox_notIn : NoX dNotIn := fun a b x h => by
  cases b <;> dsimp only [dNotIn] at h <;> first | (split at h <;> cases h) | cases h
theorem opv_in {X : Cx} : OpV X.K (fun x y H Q => rInD X.K x y H Q ∨ ∃ (c : Nat) (z : Str), x = .str ⟨#[c]⟩ ∧ y = .str z ∧ Q (.bl (decide (c ∈ z.cps.toList))) H) .val dIn := by
  intro cl Hs H d1 d2 v1 v2 Q W e b1 b2 P nx
  cases d2 <;> first | exact P.elim | skip
  · cases b2.strInv
    dsimp only [dIn] at P
    split at P
    · rename_i c
      cases b1.strInv
      exact .inr ⟨c, _, rfl, rfl, P.finV e (.bl _)⟩
    · exact P.elim
  rename_i ds
  left
  dsimp only [dIn] at P
  split at P
  · rename_i h
    have h' : shp d1 = true ∧ shp (.lst ds) = true := by simpa using h
    refine ⟨toPy d1, toPys ds, b1.dp e (SeqAt.canLay_of_shaped h'.1), b2.dp e (SeqAt.canLay_of_shaped h'.2), h'.1, h'.2, ?_⟩
    rw [any_toPys]
    exact P.finV e (.bl _)
  · exact P.elim
theorem opv_notIn {X : Cx} : OpV X.K (rNotInD X.K) .val dNotIn := by
  intro cl Hs H d1 d2 v1 v2 Q W e b1 b2 P nx
  cases d2 <;> first | exact P.elim | skip
  rename_i ds
  dsimp only [dNotIn] at P
  split at P
  · rename_i h
    have h' : shp d1 = true ∧ shp (.lst ds) = true := by simpa using h
    refine ⟨toPy d1, toPys ds, b1.dp e (SeqAt.canLay_of_shaped h'.1), b2.dp e (SeqAt.canLay_of_shaped h'.2), h'.1, h'.2, ?_⟩
    rw [any_toPys]
    exact P.finV e (.bl _)
  · exact P.elim

def insBy {α : Type} (lt : α → α → Bool) (x : α) : List α → List α
  | [] => [x]
  | y :: r => if lt y x then y :: insBy lt x r else x :: y :: r
def sortBy {α : Type} (lt : α → α → Bool) : List α → List α
  | [] => []
  | x :: r => insBy lt x (sortBy lt r)
/-- a strict total order -/
structure Sto {α : Type} (lt : α → α → Bool) : Prop where
  irr : ∀ x, lt x x = false
  tr : ∀ x y z, lt x y = true → lt y z = true → lt x z = true
  tot : ∀ x y, lt x y = true ∨ x = y ∨ lt y x = true
section
variable {α : Type} {lt : α → α → Bool}
theorem insBy_perm (x : α) : ∀ l : List α, (insBy lt x l).Perm (x :: l)
  | [] => List.Perm.refl _
  | y :: r => by
    unfold insBy
    split
    · exact (List.Perm.cons y (insBy_perm x r)).trans (List.Perm.swap x y r)
    · exact List.Perm.refl _
theorem sortBy_perm : ∀ l : List α, (sortBy lt l).Perm l
  | [] => List.Perm.refl _
  | x :: r => (insBy_perm x _).trans (List.Perm.cons x (sortBy_perm r))
theorem insBy_srt (o : Sto lt) (x : α) : ∀ {l : List α}, l.Pairwise (fun a b => lt b a = false) → (insBy lt x l).Pairwise (fun a b => lt b a = false)
  | [], _ => List.pairwise_singleton _ _
  | y :: r, h => by
    obtain ⟨h1, h2⟩ := List.pairwise_cons.mp h
    unfold insBy
    split
    · rename_i q
      refine List.pairwise_cons.mpr ⟨fun z hz => ?_, insBy_srt o x h2⟩
      rcases List.mem_cons.mp ((insBy_perm x r).mem_iff.mp hz) with e | hz
      · rw [e]
        cases w : lt x y with
        | false => rfl
        | true =>
          have := o.tr _ _ _ q w
          rw [o.irr] at this
          cases this
      · exact h1 z hz
    · rename_i q
      have q' : lt y x = false := by simpa using q
      refine List.pairwise_cons.mpr ⟨fun z hz => ?_, h⟩
      rcases List.mem_cons.mp hz with e | hz
      · rw [e]; exact q'
      · cases w : lt z x with
        | false => rfl
        | true =>
          rcases o.tot x y with u | u | u
          · have := o.tr _ _ _ w u
            rw [h1 z hz] at this
            cases this
          · rw [u] at w
            rw [h1 z hz] at w
            cases w
          · rw [q'] at u; cases u
theorem sortBy_srt (o : Sto lt) : ∀ l : List α, (sortBy lt l).Pairwise (fun a b => lt b a = false)
  | [] => List.Pairwise.nil
  | x :: r => insBy_srt o x (sortBy_srt o r)
theorem srt_uniq (o : Sto lt) : ∀ {l m : List α}, l.Perm m → l.Pairwise (fun a b => lt b a = false) → m.Pairwise (fun a b => lt b a = false) → l = m
  | [], m, p, _, _ => (List.nil_perm.mp p).symm
  | x :: l, [], p, _, _ => absurd (List.perm_nil.mp p) (by simp)
  | x :: l, y :: m, p, h1, h2 => by
    obtain ⟨a1, a2⟩ := List.pairwise_cons.mp h1
    obtain ⟨b1, b2⟩ := List.pairwise_cons.mp h2
    have e : x = y := by
      rcases List.mem_cons.mp (p.mem_iff.mp (List.mem_cons_self (a := x) (l := l))) with e | hx
      · exact e
      · rcases List.mem_cons.mp (p.mem_iff.mpr (List.mem_cons_self (a := y) (l := m))) with e | hy
        · exact e.symm
        · rcases o.tot x y with u | u | u
          · rw [b1 x hx] at u; cases u
          · exact u
          · rw [a1 y hy] at u; cases u
    subst e
    rw [srt_uniq o ((List.perm_cons x).mp p) a2 b2]
theorem sortBy_of (o : Sto lt) {l m : List α} (p : m.Perm l) (h : m.Pairwise (fun a b => lt b a = false)) : m = sortBy lt l := srt_uniq o (p.trans (sortBy_perm l).symm) h (sortBy_srt o l)
end
def ltI (a b : Int) : Bool := decide (a < b)
def ltII (a b : Int × Int) : Bool := decide (a.1 < b.1) || (decide (a.1 = b.1) && decide (a.2 < b.2))
theorem sto_I : Sto ltI := ⟨fun x => by simp [ltI], fun x y z h1 h2 => by simp [ltI] at *; omega, fun x y => by simp [ltI]; omega⟩
theorem sto_II : Sto ltII := by
  refine ⟨fun x => by simp [ltII], fun x y z h1 h2 => ?_, fun x y => ?_⟩
  · simp [ltII] at *
    omega
  · obtain ⟨a, b⟩ := x
    obtain ⟨c, d⟩ := y
    simp [ltII]
    omega
def twoD (p : Int × Int) : D := .tup [.int p.1, .int p.2]
def pairsOf : List D → Option (List (Int × Int))
  | [] => some []
  | .tup [.int i, .int j] :: r => (pairsOf r).map ((i, j) :: ·)
  | _ :: _ => none
theorem pairsOf_map (ps : List (Int × Int)) : pairsOf (ps.map twoD) = some ps := by
  induction ps with
  | nil => rfl
  | cons n ns ih =>
    rw [List.map_cons]
    show (pairsOf (ns.map twoD)).map _ = _
    rw [ih]
    rfl
theorem pairsOf_eq : ∀ {ds : List D} {ps : List (Int × Int)}, pairsOf ds = some ps → ds = ps.map twoD
  | [], _, h => by cases h; rfl
  | d :: r, ps, h => by
    unfold pairsOf at h
    split at h
    · rename_i e
      cases e
    · rename_i i j r' e
      cases e
      cases q : pairsOf r with
      | none => rw [q] at h; cases h
      | some ms =>
        rw [q] at h
        cases h
        rw [pairsOf_eq q]
        rfl
    · cases h
def fSorted : List D → R D
  | [.lst ds] => match intsOf ds with
    | some ns => .ok (.lst ((sortBy ltI ns).map D.int))
    | none => match pairsOf ds with
      | some ps => .ok (.lst ((sortBy ltII ps).map twoD))
      | none => .stuck
  | _ => .stuck
theorem RepL.perm {cl : Cl} {H : Hp} : ∀ {vs us : List V}, us.Perm vs → ∀ {ds : List D}, RepL cl H ds vs → ∃ es, es.Perm ds ∧ RepL cl H es us := by
  intro vs us p
  induction p with
  | nil => intro ds h; exact ⟨ds, List.Perm.refl _, h⟩
  | cons x p ih =>
    intro ds h
    cases h with
    | cons h1 h2 =>
      obtain ⟨es, q, r⟩ := ih h2
      exact ⟨_ :: es, List.Perm.cons _ q, .cons h1 r⟩
  | swap x y l =>
    intro ds h
    cases h with
    | cons h1 h2 =>
      cases h2 with
      | cons h2 h3 => exact ⟨_, List.Perm.swap _ _ _, .cons h2 (.cons h1 h3)⟩
  | trans p q ih1 ih2 =>
    intro ds h
    obtain ⟨es, q1, r1⟩ := ih2 h
    obtain ⟨fs, q2, r2⟩ := ih1 r1
    exact ⟨fs, q2.trans q1, r2⟩
def keyV (H : Hp) : V → Int × Int
  | .ref t => match H t with
    | some (.tup [.int i, .int j]) => (i, j)
    | _ => (0, 0)
  | _ => (0, 0)
theorem pair_key {cl : Cl} {Hs H : Hp} (e : Same Hs H) : ∀ {ps : List (Int × Int)} {vs : List V}, RepL cl Hs (ps.map twoD) vs → ps = vs.map (keyV H) ∧ ∀ x ∈ vs, ∃ t, x = V.ref t ∧ H t = some (.tup [.int (keyV H x).1, .int (keyV H x).2])
  | [], _, h => by cases h; exact ⟨rfl, fun x hx => nomatch hx⟩
  | p :: ps, _, h => by
    cases h with
    | cons h1 h2 =>
      obtain ⟨q1, q2⟩ := pair_key e h2
      cases h1 with
      | tup h3 h4 =>
        cases h4 with
        | cons h5 h6 =>
          cases h6 with
          | cons h7 h8 =>
            cases h8
            cases h5
            cases h7
            have h3' := e.at _ _ h3
            rename_i a
            have hk : keyV H (.ref a) = p := by
              unfold keyV
              show (match H a with
                | some (.tup [.int i, .int j]) => (i, j)
                | _ => (0, 0)) = p
              rw [h3']
            refine ⟨by rw [List.map_cons, hk, ← q1], fun x hx => ?_⟩
            rcases List.mem_cons.mp hx with z | z
            · subst z
              exact ⟨a, rfl, by rw [hk]; exact h3'⟩
            · exact q2 x z
theorem callv_sorted {X : Cx} : CallV X.K (fun vs H Q => rSortedI X.K vs H Q ∨ rSortedPO X.K vs H Q) (.own none) [false] fSorted := by
  intro cl Hs H ds vs Q W e a P
  obtain ⟨d, v, rfl, rfl, r⟩ := a.one
  cases d <;> first | exact P.elim | skip
  dsimp only [fSorted] at P
  split at P
  · rename_i ns q
    obtain ⟨p, rfl, h1⟩ := r.intsInv e q
    refine .inl ⟨p, ns, rfl, SqL.of h1, fun ns' p' pm pw hp => ?_⟩
    have z : ns' = sortBy ltI ns := sortBy_of sto_I pm (pw.imp fun {a b} h => by simp [ltI]; omega)
    rw [z]
    exact P.finL e hp (RepL.ofInts _)
  · split at P
    · rename_i ps q
      obtain ⟨p, xs, rfl, h1, r1⟩ := r.lstInv e
      rw [pairsOf_eq q] at r1
      obtain ⟨k1, k2⟩ := pair_key e r1
      refine .inr ⟨p, xs, keyV H, rfl, SqL.of h1, k2, fun ys p' st sb hp => ?_⟩
      obtain ⟨es, pe, re⟩ := RepL.perm sb.perm r1
      have hes : ∃ qs : List (Int × Int), es = qs.map twoD := by
        have : ∀ z ∈ es, ∃ q : Int × Int, z = twoD q := fun z hz => by
          obtain ⟨q, _, hq⟩ := List.mem_map.mp (pe.mem_iff.mp hz)
          exact ⟨q, hq.symm⟩
        clear pe re
        induction es with
        | nil => exact ⟨[], rfl⟩
        | cons z zs ih =>
          obtain ⟨q, hq⟩ := this z List.mem_cons_self
          obtain ⟨qs, hqs⟩ := ih fun z hz => this z (List.mem_cons_of_mem _ hz)
          exact ⟨q :: qs, by rw [hq, hqs]; rfl⟩
      obtain ⟨qs, rfl⟩ := hes
      obtain ⟨k3, k4⟩ := pair_key e re
      have z : qs = sortBy ltII ps := by
        refine sortBy_of sto_II ?_ ?_
        · rw [k1, k3]
          exact sb.perm.map _
        · rw [k3, List.pairwise_map]
          refine List.Pairwise.imp (fun {a b} h => ?_) st
          have h' := SrtO.lexB_no.mp h
          simp [ltII]
          omega
      rw [← z] at P
      exact P.finL e hp re
    · exact P.elim
end VL
end

noncomputable section
namespace VL
open PySem PySem.Spec PyProof.Rows L2
variable {md : Md}

/-- the built-in names that no text here stores -/
structure Bl (mg : Str → Option Value) : Prop where
  len : mg "len" = none
  range : mg "range" = none
  min : mg "min" = none
  max : mg "max" = none
  abs : mg "abs" = none
  sum : mg "sum" = none
  all : mg "all" = none
  any : mg "any" = none
  sorted : mg "sorted" = none
  list : mg "list" = none
  tuple : mg "tuple" = none
  int : mg "int" = none
  bool : mg "bool" = none
  str : mg "str" = none
  isinstance : mg "isinstance" = none
  zip : mg "zip" = none
  enumerate : mg "enumerate" = none
  reversed : mg "reversed" = none
  set : mg "set" = none
  dict : mg "dict" = none
theorem _root_.L2.Room.units65 {k : Nat} {A : Around} (r : Room k A) : A.units + 65 < cLine := by have := r.un; omega
section
variable {X : Cx} {E : En} {kr : Kd} {fin : List Kd → Prop} {ks ks' ks1 : List Kd} {st : Stmt} {m : Sl → O} {a b c e e2 tg : Expr} {g g2 ga gb gc : Sl → R D} {pos p p2 : Pos} {md : Bool}
/-- a slice of the script -/
@[simp] def dSlS (d : D) (lo hi : Option Int) : R D := match d with
  | .scr ns => .ok (.lst ((cutL ns lo hi).map D.int))
  | _ => .stuck
@[simp] def gSlS (ga : Sl → R D) (gl gh : Sl → R (Option Int)) : Sl → R D := fun r => do
  let d ← ga r
  let l ← gl r
  let h ← gh r
  dSlS d l h
theorem cutV_ints (ns : List Int) (lo hi : Option Int) : cutV (ns.map V.int) lo hi = (cutL ns lo hi).map V.int := by
  unfold cutV cutL
  rw [List.map_take, List.map_drop, List.length_map]
theorem se_slS {lo hi : Option Expr} {gl gh : Sl → R (Option Int)} (hK : E.cl.K = X.K) (ha : SE X E ks .bor a ga) (hl : SO X E ks lo gl) (hh : SO X E ks hi gh) : SE X E ks (.own none) (.Subscript a (.Slice lo hi none p2) pos) (gSlS ga gl gh) := by
  refine ⟨fun Hs H r σ W Q tk S P => ?_⟩
  refine we_of (pe_slice sl_list pe_we po_wo po_wo) ?_
  refine ha.run _ _ _ _ _ _ tk S (Post.imp (F := fun d => gl r >>= fun l => gh r >>= fun h => dSlS d l h) P fun d v Hs1 H1 e1 g1 k1 P1 => ?_)
  refine hl.run _ _ _ _ _ _ tk (S.grow g1) ?_
  cases q : gl r with
  | stuck => rw [q] at P1; exact P1
  | exc x => rw [q] at P1; exact P1
  | ok l =>
    rw [q] at P1
    intro Hs2 H2 g2
    refine hh.run _ _ _ _ _ _ tk ((S.grow g1).grow g2) ?_
    have P2 : Post E.cl (.own none) Hs2 H2 Q (fun c dd H' => W c dd σ H') (gh r >>= fun h => dSlS d l h) := Post.grow (r := gh r >>= fun h => dSlS d l h) P1 g2
    cases q2 : gh r with
    | stuck => rw [q2] at P2; exact P2
    | exc x => rw [q2] at P2; exact P2
    | ok h =>
      rw [q2] at P2
      intro Hs3 H3 g3
      have P3 : Post E.cl (.own none) Hs3 H3 Q (fun c dd H' => W c dd σ H') (dSlS d l h) := Post.grow (r := dSlS d l h) P2 g3
      cases d <;> first | exact P3.elim | skip
      have k3 := (k1.rb.grow g2).grow g3
      cases k3 with
      | val k =>
        cases k with
        | scr h1 =>
          rw [hK] at h1
          refine ⟨_, _, rfl, g3.sub.seq h1, fun q hq => ?_⟩
          rw [cutV_ints]
          exact P3.finL g3.sub hq (RepL.ofInts _)
@[simp] def dRev : D → R D
  | .lst ds => .ok (.lst ds.reverse)
  | _ => .stuck
theorem se_revL {k : Nat} {p1 p3 : Pos} (ha : SE X E ks .bor a ga) : SE X E ks (.own none) (.Subscript a (.Slice none none (some (.UnaryOp .USub (.Constant (.int 1) k p1) p2)) p3) pos) (gUn dRev ga) := by
  refine ⟨fun Hs H r σ W Q tk S P => ?_⟩
  refine we_of (pe_revL pe_we) ?_
  refine ha.run _ _ _ _ _ _ tk S (P.imp fun d v Hs1 H1 e1 g1 k1 P1 => ?_)
  cases d <;> first | exact P1.elim | skip
  obtain ⟨q, xs, rfl, h1, r1⟩ := k1.rb.lstInv g1.sub
  exact ⟨q, xs, rfl, SqL.of h1, fun l hl => P1.finL g1.sub hl r1.rev⟩
@[simp] def gChain (f f' : D → D → R D) (ga gb gc : Sl → R D) : Sl → R D := fun r => do
  let a ← ga r
  let b ← gb r
  let z ← f a b
  let k ← asB z
  if k then (do
    let c ← gc r
    f' b c) else .ok (.bl false)
theorem chain_read {rr rr' : R2} {f f' : D → D → R D} (hv : OpV X.K rr .val f) (nx : NoX f) (hv' : OpV X.K rr' .val f') (nx' : NoX f') (ha : SE X E ks .bor a ga) (hb : SE X E ks .bor b gb) (hc : SE X E ks .bor c gc)
    {Hs H : Hp} {r : Sl} {σ : L2.St} {W : WX} {Q : VK} (tk : Takes X W) (S : StRel E Hs H ks r σ) (P : Post E.cl .val Hs H Q (fun c dd H' => W c dd σ H') (gChain f f' ga gb gc r)) : tChain rr rr' (WEx X a) (WEx X b) (WEx X c) σ H Q := by
  refine ha.run _ _ _ _ _ _ tk S (Post.imp (F := fun a => gb r >>= fun b => f a b >>= fun z => asB z >>= fun k => if k then (gc r >>= fun c => f' b c) else .ok (.bl false)) P fun d v Hs1 H1 e1 g1 k1 P1 => ?_)
  refine hb.run _ _ _ _ _ _ tk (S.grow g1) (Post.imp (F := fun b => f d b >>= fun z => asB z >>= fun k => if k then (gc r >>= fun c => f' b c) else .ok (.bl false)) P1 fun d2 v2 Hs2 H2 e2 g2 k2 P2 => ?_)
  refine hv _ _ _ _ _ _ _ _ _ g2.sub (k1.rb.grow g2) k2.rb (Post.imp (F := fun z => asB z >>= fun k => if k then (gc r >>= fun c => f' d2 c) else .ok (.bl false)) P2 fun d3 v3 Hs3 H3 e3 g3 k3 P3 => ?_) (nx _ _)
  cases d3 <;> first | exact P3.elim | skip
  rename_i k
  have rp := k3.rep
  cases rp
  refine ⟨k, rfl, ?_⟩
  cases k with
  | true =>
    refine iteT ?_
    refine hc.run _ _ _ _ _ _ tk (((S.grow g1).grow g2).grow g3) (Post.imp (F := fun c => f' d2 c) P3 fun d4 v4 Hs4 H4 e4 g4 k4 P4 => ?_)
    exact hv' _ _ _ _ _ _ _ _ _ g4.sub ((k2.rb.grow g3).grow g4) k4.rb P4 (nx' _ _)
  | false => exact iteF (Post.finV P3 g3.sub (.bl false))
theorem se_chain {op op' : CmpOp} {rr rr' : R2} {f f' : D → D → R D} (ho : OpR X (compareOp op) rr) (hv : OpV X.K rr .val f) (nx : NoX f) (ho' : OpR X (compareOp op') rr') (hv' : OpV X.K rr' .val f') (nx' : NoX f') (ha : SE X E ks .bor a ga) (hb : SE X E ks .bor b gb) (hc : SE X E ks .bor c gc) (hm : lastMarks [op, op'] [b, c] = false := by with_unfolding_all rfl) :
    SE X E ks .val (.Compare a [op, op'] [b, c] pos) (gChain f f' ga gb gc) := ⟨fun Hs H r σ W Q tk S P => we_of (pe_chain ho ho' pe_we pe_we pe_we hm) (chain_read hv nx hv' nx' ha hb hc tk S P)⟩
end

section
variable {X : Cx} {E : En} {ks : List Kd} {e : Expr} {es : List Expr} {t : Sl → R (List D)} {p pos : Pos}
theorem sf_Len (B : Bl X.mg) (ha : SA X E ks [false] (e :: es) t) (hc : X.calm = true := by rfl) (hg : Gl X "len" := by rfl) (he : starEach (e :: es) X.env = (false, eval e X.env) :: starEach es X.env := by rfl) (hpl : (backTo pos (starEach es X.env)).any (·.1) = false := by rfl) : SE X E ks (.val) (.Call (.Name "len" p) (e :: es) [] pos) (gCall fLen t) :=
  se_callB (call_len.or call_lenR) callv_len B.len bb_len ha hg bn_len bd_len he hpl
theorem sf_Min2 (B : Bl X.mg) (ha : SA X E ks [false, false] (e :: es) t) (hc : X.calm = true := by rfl) (hg : Gl X "min" := by rfl) (he : starEach (e :: es) X.env = (false, eval e X.env) :: starEach es X.env := by rfl) (hpl : (backTo pos (starEach es X.env)).any (·.1) = false := by rfl) : SE X E ks (.val) (.Call (.Name "min" p) (e :: es) [] pos) (gCall fMin2 t) :=
  se_callB (call_min2 hc) callv_min2 B.min bb_min ha hg bn_min bd_min he hpl
theorem sf_Min1 (B : Bl X.mg) (ha : SA X E ks [false] (e :: es) t) (hc : X.calm = true := by rfl) (hg : Gl X "min" := by rfl) (he : starEach (e :: es) X.env = (false, eval e X.env) :: starEach es X.env := by rfl) (hpl : (backTo pos (starEach es X.env)).any (·.1) = false := by rfl) : SE X E ks (.val) (.Call (.Name "min" p) (e :: es) [] pos) (gCall fMin1 t) :=
  se_callB (cr_min hc) callv_min1 B.min bb_min ha hg bn_min bd_min he hpl
theorem sf_Max1 (B : Bl X.mg) (ha : SA X E ks [false] (e :: es) t) (hc : X.calm = true := by rfl) (hg : Gl X "max" := by rfl) (he : starEach (e :: es) X.env = (false, eval e X.env) :: starEach es X.env := by rfl) (hpl : (backTo pos (starEach es X.env)).any (·.1) = false := by rfl) : SE X E ks (.val) (.Call (.Name "max" p) (e :: es) [] pos) (gCall fMax1 t) :=
  se_callB (cr_max hc) callv_max1 B.max bb_max ha hg bn_max bd_max he hpl
theorem sf_Sum (B : Bl X.mg) (ha : SA X E ks [false] (e :: es) t) (hc : X.calm = true := by rfl) (hg : Gl X "sum" := by rfl) (he : starEach (e :: es) X.env = (false, eval e X.env) :: starEach es X.env := by rfl) (hpl : (backTo pos (starEach es X.env)).any (·.1) = false := by rfl) : SE X E ks (.val) (.Call (.Name "sum" p) (e :: es) [] pos) (gCall fSum t) :=
  se_callB (cr_sum hc) callv_sum B.sum bb_sum ha hg bn_sum bd_sum he hpl
theorem sf_All (B : Bl X.mg) (ha : SA X E ks [false] (e :: es) t) (hc : X.calm = true := by rfl) (hg : Gl X "all" := by rfl) (he : starEach (e :: es) X.env = (false, eval e X.env) :: starEach es X.env := by rfl) (hpl : (backTo pos (starEach es X.env)).any (·.1) = false := by rfl) : SE X E ks (.val) (.Call (.Name "all" p) (e :: es) [] pos) (gCall fAll t) :=
  se_callB (cr_all hc) callv_all B.all bb_all ha hg bn_all bd_all he hpl
theorem sf_Sorted (B : Bl X.mg) (ha : SA X E ks [false] (e :: es) t) (hc : X.calm = true := by rfl) (hg : Gl X "sorted" := by rfl) (he : starEach (e :: es) X.env = (false, eval e X.env) :: starEach es X.env := by rfl) (hpl : (backTo pos (starEach es X.env)).any (·.1) = false := by rfl) : SE X E ks (.own none) (.Call (.Name "sorted" p) (e :: es) [] pos) (gCall fSorted t) :=
  se_callB (cr_sortedI.or cr_sortedPO) callv_sorted B.sorted bb_sorted ha hg bn_sorted bd_sorted he hpl
theorem sf_List (B : Bl X.mg) (ha : SA X E ks [false] (e :: es) t) (hc : X.calm = true := by rfl) (hg : Gl X "list" := by rfl) (he : starEach (e :: es) X.env = (false, eval e X.env) :: starEach es X.env := by rfl) (hpl : (backTo pos (starEach es X.env)).any (·.1) = false := by rfl) : SE X E ks (.own none) (.Call (.Name "list" p) (e :: es) [] pos) (gCall fList t) :=
  se_callTy call_list_of callv_list B.list bb_list ha hg bn_list bd_list he hpl
theorem sf_Tuple (B : Bl X.mg) (ha : SA X E ks [false] (e :: es) t) (hc : X.calm = true := by rfl) (hg : Gl X "tuple" := by rfl) (he : starEach (e :: es) X.env = (false, eval e X.env) :: starEach es X.env := by rfl) (hpl : (backTo pos (starEach es X.env)).any (·.1) = false := by rfl) : SE X E ks (.val) (.Call (.Name "tuple" p) (e :: es) [] pos) (gCall fTuple t) :=
  se_callTy call_tuple_of callv_tuple B.tuple bb_tuple ha hg bn_tuple bd_tuple he hpl
theorem si_list {p1 p2 : Pos} {g : Sl → R D} (B : Bl X.mg) (he : SE X E ks .bor e g) (hg : Gl X "isinstance" := by rfl) (hgT : Gl X "list" := by rfl) (hs : starEach [e, .Name "list" p2] X.env = (false, eval e X.env) :: starEach [.Name "list" p2] X.env := by rfl) (hs2 : starEach [.Name "list" p2] X.env = (false, eval (.Name "list" p2) X.env) :: starEach [] X.env := by rfl) (hpl : (backTo pos (starEach [.Name "list" p2] X.env)).any (·.1) = false := by rfl) :
    SE X E ks .val (.Call (.Name "isinstance" p1) [e, .Name "list" p2] [] pos) (gUn (dIs .list) g) := se_isi .list he B.isinstance B.list bb_list bn_list bd_list hg hgT hs hs2 hpl
theorem si_tuple {p1 p2 : Pos} {g : Sl → R D} (B : Bl X.mg) (he : SE X E ks .bor e g) (hg : Gl X "isinstance" := by rfl) (hgT : Gl X "tuple" := by rfl) (hs : starEach [e, .Name "tuple" p2] X.env = (false, eval e X.env) :: starEach [.Name "tuple" p2] X.env := by rfl) (hs2 : starEach [.Name "tuple" p2] X.env = (false, eval (.Name "tuple" p2) X.env) :: starEach [] X.env := by rfl) (hpl : (backTo pos (starEach [.Name "tuple" p2] X.env)).any (·.1) = false := by rfl) :
    SE X E ks .val (.Call (.Name "isinstance" p1) [e, .Name "tuple" p2] [] pos) (gUn (dIs .tuple) g) := se_isi .tuple he B.isinstance B.tuple bb_tuple bn_tuple bd_tuple hg hgT hs hs2 hpl
theorem si_bool {p1 p2 : Pos} {g : Sl → R D} (B : Bl X.mg) (he : SE X E ks .bor e g) (hg : Gl X "isinstance" := by rfl) (hgT : Gl X "bool" := by rfl) (hs : starEach [e, .Name "bool" p2] X.env = (false, eval e X.env) :: starEach [.Name "bool" p2] X.env := by rfl) (hs2 : starEach [.Name "bool" p2] X.env = (false, eval (.Name "bool" p2) X.env) :: starEach [] X.env := by rfl) (hpl : (backTo pos (starEach [.Name "bool" p2] X.env)).any (·.1) = false := by rfl) :
    SE X E ks .val (.Call (.Name "isinstance" p1) [e, .Name "bool" p2] [] pos) (gUn (dIs .bool) g) := se_isi .bool he B.isinstance B.bool bb_bool bn_bool bd_bool hg hgT hs hs2 hpl
theorem si_str {p1 p2 : Pos} {g : Sl → R D} (B : Bl X.mg) (he : SE X E ks .bor e g) (hg : Gl X "isinstance" := by rfl) (hgT : Gl X "str" := by rfl) (hs : starEach [e, .Name "str" p2] X.env = (false, eval e X.env) :: starEach [.Name "str" p2] X.env := by rfl) (hs2 : starEach [.Name "str" p2] X.env = (false, eval (.Name "str" p2) X.env) :: starEach [] X.env := by rfl) (hpl : (backTo pos (starEach [.Name "str" p2] X.env)).any (·.1) = false := by rfl) :
    SE X E ks .val (.Call (.Name "isinstance" p1) [e, .Name "str" p2] [] pos) (gUn (dIs .str) g) := se_isi .str he B.isinstance B.str bb_str bn_str bd_str hg hgT hs hs2 hpl
theorem si_int {p1 p2 : Pos} {g : Sl → R D} (B : Bl X.mg) (he : SE X E ks .bor e g) (hg : Gl X "isinstance" := by rfl) (hgT : Gl X "int" := by rfl) (hs : starEach [e, .Name "int" p2] X.env = (false, eval e X.env) :: starEach [.Name "int" p2] X.env := by rfl) (hs2 : starEach [.Name "int" p2] X.env = (false, eval (.Name "int" p2) X.env) :: starEach [] X.env := by rfl) (hpl : (backTo pos (starEach [.Name "int" p2] X.env)).any (·.1) = false := by rfl) :
    SE X E ks .val (.Call (.Name "isinstance" p1) [e, .Name "int" p2] [] pos) (gUn (dIs .int) g) := se_isi .int he B.isinstance B.int bb_int bn_int bd_int hg hgT hs hs2 hpl
end
/-- how often a while may turn here -/
def WB : Nat := Classical.choose (oN_ex 100000)
theorem WB_eq : WB = 100000 := Classical.choose_spec (oN_ex 100000)
theorem fi_stuck {P : Program} {w : World} {K : PySem.W.Frag} {mg : Str → Option Value} {base : Heap} {cl : Cl} {x : Str} {k : Nat} {bs : List Bool} {kr : Kd} {fa : Addr} {fd : FuncData} {ps : List Str} (gm : mg x = some (.ref fa)) (kp : PySem.W.keepIn K (.ref fa) = true) (bn : Binds K fd ps []) :
    Fi P w K mg base cl x k bs kr (fun _ => .stuck) :=
  ⟨fa, fd, ps, ⟨fun vs H Q E ⟨ds, Hs, _, _, z⟩ => z.elim, fun A outer s H args us vs Q E _ _ _ _ ⟨ds, Hs, _, _, z⟩ => z.elim⟩, gm, kp, bn⟩
end VL
end

noncomputable section
namespace VL
open PySem PySem.Spec PyProof.Rows L2
variable {md : Md}

theorem whileL_inv (I : Sl → Prop) (μ : Sl → Nat) {tc : Sl → R Bool} {mb : Sl → O} (st : ∀ r, I r → ∃ b, tc r = .ok b ∧ (b = true → ∃ r', mb r = .nx r' ∧ I r' ∧ μ r' < μ r)) : ∀ (n : Nat) (r : Sl), I r → μ r < n → ∃ r', whileL tc mb n r = .nx r' ∧ I r' ∧ tc r' = .ok false
  | 0, r, _, h => absurd h (Nat.not_lt_zero _)
  | n + 1, r, hi, h => by
    obtain ⟨b, e, k⟩ := st r hi
    cases b with
    | false =>
      refine ⟨r, ?_, hi, e⟩
      unfold whileL
      rw [e]
      rfl
    | true =>
      obtain ⟨r', e2, hi', hm⟩ := k rfl
      obtain ⟨r'', e3, h3, h4⟩ := whileL_inv I μ st n r' hi' (by omega)
      refine ⟨r'', ?_, h3, h4⟩
      unfold whileL
      rw [e]
      show (match mb r with
        | .nx r' => whileL tc mb n r'
        | o => o) = _
      rw [e2]
      exact e3
/-- a comprehension over what is walked -/
theorem mapR_map {α β γ : Type} {f : α → R β} {l : List γ} {F : γ → α} {G : γ → β} (h : ∀ x ∈ l, f (F x) = .ok (G x)) : mapR f (l.map F) = .ok (l.map G) := by
  induction l with
  | nil => rfl
  | cons x l ih =>
    rw [List.map_cons]
    unfold mapR
    rw [h x List.mem_cons_self, ih fun y hy => h y (List.mem_cons_of_mem _ hy)]
    rfl
theorem gComp_map {γ : Type} {gi : Sl → R (List D)} {t : Tg} {vs : List Nat} {tt : Sl → R Bool} {ge : Sl → R D} {r : Sl} {l : List γ} {F : γ → D} {G : γ → D} (h : gi r = .ok (l.map F)) (hg : ∀ x ∈ l, gTurn t vs tt ge r (F x) = .ok (some (G x))) : gComp gi t vs tt ge r = .ok (.lst (l.map G)) := by
  unfold gComp
  rw [h]
  show (noX (mapR (gTurn t vs tt ge r) (l.map F)) >>= fun os => R.ok (D.lst (os.filterMap id))) = _
  rw [mapR_map (G := fun x => some (G x)) hg]
  show R.ok (D.lst ((l.map fun x => some (G x)).filterMap id)) = _
  rw [List.filterMap_map]
  congr 2
  induction l with
  | nil => rfl
  | cons x l ih =>
    rw [List.map_cons, List.filterMap_cons]
    simp
theorem gComp_filter {γ : Type} {gi : Sl → R (List D)} {t : Tg} {vs : List Nat} {tt : Sl → R Bool} {ge : Sl → R D} {r : Sl} {l : List γ} {F : γ → D} {p : γ → Bool} {G : γ → D} (h : gi r = .ok (l.map F)) (hg : ∀ x ∈ l, gTurn t vs tt ge r (F x) = .ok (if p x then some (G x) else none)) : gComp gi t vs tt ge r = .ok (.lst ((l.filter p).map G)) := by
  unfold gComp
  rw [h]
  show (noX (mapR (gTurn t vs tt ge r) (l.map F)) >>= fun os => R.ok (D.lst (os.filterMap id))) = _
  rw [mapR_map (G := fun x => if p x then some (G x) else none) hg]
  show R.ok (D.lst ((l.map fun x => if p x then some (G x) else none).filterMap id)) = _
  rw [List.filterMap_map]
  congr 2
  clear h hg
  induction l with
  | nil => rfl
  | cons x l ih =>
    rw [List.filterMap_cons, List.filter_cons]
    cases q : p x <;> simpa [q, Function.comp_def] using ih

@[simp] theorem lt_n30 {k : Nat} (h : k < 1073741824) : k < n30 := by rw [n30_val]; exact h
@[simp] theorem lt_n64 {k : Nat} (h : k < 18446744073709551616) : k < n64 := by rw [n64_val]; exact h
@[simp] theorem le_iMil {k : Int} (h : k ≤ 1000000) : k ≤ iMil := by rw [iMil_val]; exact h
@[simp] theorem le_szL' {k : Nat} (h : k ≤ 16777216) : k ≤ szL := le_szL h
@[simp] theorem lt_szL' {k : Nat} (h : k < 16777216) : k < szL := lt_szL h
theorem mulOk_left {a b : Int} (h1 : -(2 ^ 64) < a) (h2 : a < 2 ^ 64) : mulOk a b = true := by
  unfold mulOk
  rw [i64_val, decide_eq_true h1, decide_eq_true h2]
  rfl
theorem mulOk_right {a b : Int} (h1 : -(2 ^ 64) < b) (h2 : b < 2 ^ 64) : mulOk a b = true := by
  unfold mulOk
  rw [i64_val, decide_eq_true h1, decide_eq_true h2]
  cases (decide (-(2 ^ 64) < a) && decide (a < 2 ^ 64)) <;> rfl
theorem fmod_pos {a b : Int} (hb : 0 < b) : 0 ≤ a.fmod b ∧ a.fmod b < b := ⟨Int.fmod_nonneg_of_pos a hb, Int.fmod_lt_of_pos a hb⟩
theorem dPow_ok {a : Int} {k : Nat} (h1 : k ≤ 1000000) (h2 : a.natAbs < 2 ^ 64) : dPow (.int a) (.int k) = .ok (.int (a ^ k)) := by
  dsimp only [dPow]
  rw [if_pos ⟨Int.natCast_nonneg k, by rw [iMil_val]; omega, by rw [n64_val]; exact h2⟩, Int.toNat_natCast]
theorem dRange1_nat {n : Nat} (h : n ≤ 16777216) : dRange1 (.int (n : Int)) = .ok ((List.range n).map fun (i : Nat) => D.int i) := by
  dsimp only [dRange1]
  rw [if_pos (by rw [Int.toNat_natCast, szL_val]; exact h)]
  unfold rangeD
  rw [Int.toNat_natCast]
  simp
theorem range_split (n : Nat) : List.range n = List.range' 0 n := List.range_eq_range'
theorem seq_nx {m1 m2 : Sl → O} {r r' : Sl} (h : m1 r = .nx r') : mSeq m1 m2 r = m2 r' := by
  unfold mSeq
  rw [h]
theorem cutL_from {α : Type} {xs : List α} {k : Nat} (h : k ≤ xs.length) {i : Int} (hi : i = (k : Int) := by rfl) : cutL xs (some i) none = xs.drop k := by
  subst hi
  unfold cutL
  rw [HT.sIx_nat, HT.sIx_none, Nat.min_eq_left h, List.take_of_length_le (by rw [List.length_drop]; omega)]
theorem cutL_to {α : Type} {xs : List α} {k : Nat} {i : Int} (hi : i = (k : Int) := by rfl) : cutL xs none (some i) = xs.take k := by
  subst hi
  unfold cutL
  rw [HT.sIx_nat, HT.sIx_none, List.drop_zero, Nat.sub_zero]
  rcases Nat.le_total k xs.length with h | h
  · rw [Nat.min_eq_left h]
  · rw [Nat.min_eq_right h, List.take_length, List.take_of_length_le h]
@[simp] theorem dEq_int (a b : Int) : dEq (.int a) (.int b) = .ok (.bl (a == b)) := rfl
@[simp] theorem dNe_int (a b : Int) : dNe (.int a) (.int b) = .ok (.bl (!(a == b))) := rfl
@[simp] theorem dEq_bl (a b : Bool) : dEq (.bl a) (.bl b) = .ok (.bl (a == b)) := rfl
@[simp] theorem dNe_bl (a b : Bool) : dNe (.bl a) (.bl b) = .ok (.bl (!(a == b))) := rfl
/-- what is plain data of a depth below n -/
def pl : Nat → D → Bool
  | 0, _ => false
  | n + 1, .lst xs => xs.all (pl n) && decide (xs.length ≤ szL)
  | n + 1, .tup xs => xs.all (pl n) && decide (xs.length ≤ szL)
  | _ + 1, .str x => (PyData.str x).canLay0 && decide (x.length ≤ szL)
  | _ + 1, .dct _ => false
  | _ + 1, .obj _ _ => false
  | _ + 1, .scr _ => false
  | _ + 1, _ => true
theorem toPys_lay : ∀ {ds : List D}, (∀ d ∈ ds, (toPy d).canLay0 = true) → PyData.canLayAll0 (toPys ds) = true
  | [], _ => rfl
  | d :: ds, h => by
    show ((toPy d).canLay0 && PyData.canLayAll0 (toPys ds)) = true
    rw [h d List.mem_cons_self, toPys_lay fun x hx => h x (List.mem_cons_of_mem _ hx)]
    rfl
theorem toPys_depth {n : Nat} : ∀ {ds : List D}, (∀ d ∈ ds, (toPy d).depth ≤ n) → PyData.depthAll (toPys ds) ≤ n
  | [], _ => Nat.zero_le _
  | d :: ds, h => by
    show max (toPy d).depth (PyData.depthAll (toPys ds)) ≤ n
    exact Nat.max_le.mpr ⟨h d List.mem_cons_self, toPys_depth fun x hx => h x (List.mem_cons_of_mem _ hx)⟩
theorem pl_lay : ∀ (n : Nat) (d : D), pl n d = true → (toPy d).canLay0 = true ∧ (toPy d).depth ≤ n
  | 0, _, h => by cases h
  | n + 1, .lst xs, h => by
    have h' : xs.all (pl n) = true := by
      have q : (xs.all (pl n) && decide (xs.length ≤ szL)) = true := h
      exact (Bool.and_eq_true_iff.mp q).1
    have k : ∀ d ∈ xs, (toPy d).canLay0 = true ∧ (toPy d).depth ≤ n := fun d hd => pl_lay n d (List.all_eq_true.mp h' d hd)
    exact ⟨toPys_lay fun d hd => (k d hd).1, Nat.succ_le_succ (toPys_depth fun d hd => (k d hd).2)⟩
  | n + 1, .tup xs, h => by
    have h' : xs.all (pl n) = true := by
      have q : (xs.all (pl n) && decide (xs.length ≤ szL)) = true := h
      exact (Bool.and_eq_true_iff.mp q).1
    have k : ∀ d ∈ xs, (toPy d).canLay0 = true ∧ (toPy d).depth ≤ n := fun d hd => pl_lay n d (List.all_eq_true.mp h' d hd)
    exact ⟨toPys_lay fun d hd => (k d hd).1, Nat.succ_le_succ (toPys_depth fun d hd => (k d hd).2)⟩
  | _ + 1, .str x, h => by
    have q : ((PyData.str x).canLay0 && decide (x.length ≤ szL)) = true := h
    exact ⟨(Bool.and_eq_true_iff.mp q).1, Nat.zero_le _⟩
  | _ + 1, .dct _, h => by cases h
  | _ + 1, .obj _ _, h => by cases h
  | _ + 1, .scr _, h => by cases h
  | _ + 1, .non, _ => ⟨rfl, Nat.zero_le _⟩
  | _ + 1, .bl _, _ => ⟨rfl, Nat.zero_le _⟩
  | _ + 1, .int _, _ => ⟨rfl, Nat.zero_le _⟩
theorem pl_shp {n : Nat} {d : D} (hn : n ≤ 64) (h : pl n d = true) : shp d = true := by
  obtain ⟨a, b⟩ := pl_lay n d h
  unfold shp SeqAt.shaped
  rw [a, decide_eq_true (Nat.le_trans b hn)]
  rfl
mutual
theorem eqv_self : ∀ (d : D), (toPy d).canLay0 = true → PyData.eqv (toPy d) (toPy d) = true
  | .non, _ => rfl
  | .bl b, _ => by show (b == b) = true; simp
  | .int i, _ => by show (i == i) = true; simp
  | .str x, _ => by show (x == x) = true; simp
  | .lst xs, h => eqvAll_self xs h
  | .tup xs, h => eqvAll_self xs h
  | .dct _, h => by cases h
  | .obj _ _, h => by cases h
  | .scr _, h => by cases h
theorem eqvAll_self : ∀ (ds : List D), PyData.canLayAll0 (toPys ds) = true → PyData.eqvAll (toPys ds) (toPys ds) = true
  | [], _ => rfl
  | d :: ds, h => by
    have q : ((toPy d).canLay0 && PyData.canLayAll0 (toPys ds)) = true := h
    obtain ⟨a, b⟩ := Bool.and_eq_true_iff.mp q
    show (PyData.eqv (toPy d) (toPy d) && PyData.eqvAll (toPys ds) (toPys ds)) = true
    rw [eqv_self d a, eqvAll_self ds b]
    rfl
end
theorem dEq_self {n : Nat} {d : D} (hn : n ≤ 64) (h : pl n d = true) : dEq d d = .ok (.bl true) := by
  unfold dEq dEqB
  rw [pl_shp hn h, eqv_self d (pl_lay n d h).1]
  rfl
theorem pl_ints {xs : List Int} {n : Nat} (h : xs.length ≤ szL) : pl (n + 2) (.lst (xs.map D.int)) = true := by
  show ((xs.map D.int).all (pl (n + 1)) && decide ((xs.map D.int).length ≤ szL)) = true
  rw [List.length_map, decide_eq_true h, Bool.and_true, List.all_eq_true]
  intro d hd
  obtain ⟨i, _, rfl⟩ := List.mem_map.mp hd
  rfl
theorem pl_pair {p : Int × Int} {n : Nat} : pl (n + 2) (twoD p) = true := by
  show (([D.int p.1, D.int p.2] : List D).all (pl (n + 1)) && decide (2 ≤ szL)) = true
  rw [decide_eq_true (by rw [szL_val]; omega)]
  rfl
theorem pl_pairs {ps : List (Int × Int)} {n : Nat} (h : ps.length ≤ szL) : pl (n + 3) (.lst (ps.map twoD)) = true := by
  show ((ps.map twoD).all (pl (n + 2)) && decide ((ps.map twoD).length ≤ szL)) = true
  rw [List.length_map, decide_eq_true h, Bool.and_true, List.all_eq_true]
  intro d hd
  obtain ⟨p, _, rfl⟩ := List.mem_map.mp hd
  exact pl_pair
theorem eqvAll_ints : ∀ (xs ys : List Int), PyData.eqvAll (toPys (xs.map D.int)) (toPys (ys.map D.int)) = decide (xs = ys)
  | [], [] => rfl
  | [], _ :: _ => rfl
  | _ :: _, [] => rfl
  | x :: xs, y :: ys => by
    show ((x == y) && PyData.eqvAll (toPys (xs.map D.int)) (toPys (ys.map D.int))) = _
    rw [eqvAll_ints xs ys]
    by_cases h : x = y <;> by_cases h2 : xs = ys <;> simp [h, h2]
theorem dEq_ints {xs ys : List Int} (h1 : xs.length ≤ szL) (h2 : ys.length ≤ szL) : dEq (.lst (xs.map D.int)) (.lst (ys.map D.int)) = .ok (.bl (decide (xs = ys))) := by
  unfold dEq dEqB
  rw [pl_shp (n := 2) (by decide) (pl_ints h1), pl_shp (n := 2) (by decide) (pl_ints h2)]
  show R.ok (D.bl (PyData.eqvAll (toPys (xs.map D.int)) (toPys (ys.map D.int)))) = _
  rw [eqvAll_ints]
end VL
end

noncomputable section
namespace VL
open PySem PySem.Spec PyProof.Rows L2
open ModeZ

/-- where a def stands -/
structure AtF (K : PySem.W.Frag) (mg : Str → Option Value) (x qual : Str) (st : Stmt) : Prop where
  ex : ∃ fa fd, Fun K x qual st fa fd ∧ mg x = some (.ref fa)
theorem at_mk {K : PySem.W.Frag} {h : Heap} {mg : Str → Option Value} (X : K.In h) (G : h.Ns mainGlobals mg) {x qual : Str} {st : Stmt} {f : Addr} {od an : Option Addr} {sl : Array (Option Value)} {oc kV dc pm cd ct : Value}
    (a : PySem.W.nsIn K mainGlobals x = some (some (.ref f))) (l : K.lookup f = some ⟨oc, od, .func (PySem.W.fnOf x qual (defArgs st) (defBody st) (defScope st) .none kV dc pm an cd ct), sl⟩) (c : PySem.W.codeIn K cd qual = true) (k : PySem.W.keepIn K (.ref f) = true) :
    AtF K mg x qual st := ⟨f, _, fun_mk l c k, PySem.W.mg_of X G a⟩
def spLaw (K : PySem.W.Frag) : Sp := fun vs H Q _ => ∃ (a : Addr) (ns : List Int), vs = [.ref a] ∧ SqL K H a (ns.map V.int) ∧ ns.length ≤ 63 ∧ ∀ H', Q (.bl true) H'
theorem cx_no {P : Program} {w : World} {outer : List Env} {H : Hp} {s s' : Shared} {u : Value} (h : L2.CX P w outer H s (fun _ _ _ => False) u s') : False := by
  obtain ⟨a, B, H', cls, d, h⟩ := h
  exact h.2.2.2.2.2.2.2
/-- a law's promise by its plain half -/
theorem law_end {P : Program} {w : World} {K : PySem.W.Frag} {mg : Str → Option Value} {base : Heap} {cl : Cl} {k : Nat} {b : Bool} {f : List D → R D} {fa : Addr} {fd : FuncData} {x : Str} (hK : cl.K = K) (F : FnOk P w K mg base (L2.CX P w) k fa fd [x] (spV cl [b] .val f))
    (hf : ∀ ns : List Int, ns.length ≤ 63 → f [.scr ns] = .ok (.bl true)) (hk : k ≤ 65) : FnOk P w K mg base (L2.CX P w) 65 fa fd [x] (spLaw K) := by
  refine (F.mono hk).imp ?_
  intro vs H Q E ⟨a, ns, e, hs, hl, q⟩
  subst e
  refine ⟨[.scr ns], H, Same.refl _, ?_, ?_⟩
  · have r : Rep cl H (.scr ns) (.ref a) := .scr (by rw [hK]; exact hs)
    cases b with
    | true => exact .val r .nil
    | false => exact .bor (.val r) .nil
  · rw [hf ns hl]
    intro v Hs' H' g rk
    obtain ⟨A, o, _⟩ := rk
    cases o with
    | val r =>
      cases r
      exact q H'
theorem law_walk {l : PySem.W.OpenLaw} {q : Program} {loose : List Str} {XP : (Str → Option Value) → Heap → Prop} {YP : World → Heap → Prop} {d : DefRec} {K : Params → PySem.W.Frag} {x : Str} (hn : l.most = some 63) (hdf : d.params.defaults = [])
    (hY : ∀ (w : World) (h : Heap), YP w h → (K w.params).In h)
    (F : ∀ (w : World) (mg : Str → Option Value) (fa : Addr) (h : Heap), (K w.params).In h → h.Ns mainGlobals mg → mg d.name = some (.ref fa) →
      ∃ fd : FuncData, (∀ (s : Shared) (u : Value), BindsTo s fd ⟨[u], []⟩ [(x, u)]) ∧ ∀ base : Heap, (K w.params).In base → base.Ns mainGlobals mg → FnOk l.prog w (K w.params) mg base (L2.CX l.prog w) 65 fa fd [x] (spLaw (K w.params))) :
    PySem.W.WalkO q loose XP YP l.row.toRowW d [] (fun f vs => PySem.call f vs) :=
  L2.walk_of (n := 63) (k := 65) (x := x) (CX := fun w => L2.CX l.prog w) (sp := fun w => spLaw (K w.params)) hn (by decide) hdf ⟨rfl, by decide, by decide⟩ hY F (fun _ _ a ns hl _ hS => ⟨a, ns, rfl, hS, hl, fun _ => rfl⟩) fun _ _ _ _ _ z => cx_no z
end VL
end

noncomputable section
namespace VL
open PySem PySem.Spec PyProof.Rows L2
variable {md : Md}

section
variable {prog : Program} {w : World} {A : Around} {R : Result → Shared → Prop} {I S : Addr} {fp wr : List Addr} {n : Nat} {P : Nat → Value → Prop} {St : Nat → Heap → Prop} {bt : Nat → Nat → Bool} {kw : List (Str × Value)} {E : Value → Shared → Prop}
end

section
variable {prog : Program} {w : World} {A : Around} {R : Result → Shared → Prop} {I S : Addr} {fp wr : List Addr} {n : Nat} {P : Nat → Value → Prop} {St : Nat → Heap → Prop} {bt : Nat → Nat → Bool} {kw : List (Str × Value)} {E : Value → Shared → Prop}
end

end VL
end

noncomputable section
namespace VL
open PySem PySem.Spec PyProof.Rows L2
variable {md : Md}
section
variable {X : Cx} {E : En} {ks : List Kd} {e e0 : Expr} {g g0 : Sl → R D} {p pos kp : Pos}
end
end VL
end

noncomputable section
namespace VL
open PySem PySem.Spec PyProof.Rows L2
variable {md : Md}

def rRemD (K : PySem.W.Frag) : V → List V → Hp → VK → Prop := fun x xs H Q => ∃ (l : Addr) (vs : List V) (ds : List PyData) (y : V) (d : PyData) (j : Nat), x = .ref l ∧ xs = [y] ∧ H l = some (.lst vs) ∧ DpAll K H vs ds ∧ Dp K H y d ∧
  PyData.plainAll ds = true ∧ d.plain = true ∧ d.depth ≤ 64 ∧ SeqAt.dataPlace ds d = some j ∧ Q .non (upd H l (.lst (vs.eraseIdx j)))
theorem mt_removeD {X : Cx} (hu : X.A.units + 65 < cLine) : MtR X "list.remove" (rRemD X.K) := by
  intro pins s σ H x xs v us Q I rx rxs h
  obtain ⟨l, vs, ds, y, d, j, rfl, rfl, hH, hv, hy, p1, p2, dep, hp, q⟩ := h
  cases rx
  obtain ⟨u, rfl, ru⟩ := rxs.one
  obtain ⟨z, its, n, r, hl, e⟩ := I.lstM hH
  obtain ⟨as, r1⟩ := Dp.readsAll I ds _ its hv r
  obtain ⟨bs, r2⟩ := Dp.reads I d y u hy ru
  refine SeqAt.remove_list_data (l := l) (vs := its.toArray) ⟨_, e, rfl, n, rfl⟩ r1 r2 p1 p2 (by omega) hp (by rw [List.size_toArray]; omega) ?_
  refine ⟨.non, _, I.lset (its' := its.eraseIdx j) (t' := s.toks) hH e ?_ (r.eraseIdx j) ?_, rfl, q⟩
  · show its.toArray.eraseIdxIfInBounds j = (its.eraseIdx j).toArray
    rw [List.eraseIdxIfInBounds_toArray]
  · have z2 : (vs.eraseIdx j).length ≤ vs.length := List.length_eraseIdx_le _ _
    omega
theorem place_toPys (d : D) : ∀ ds : List D, SeqAt.dataPlace (toPys ds) (toPy d) = ds.findIdx? fun z => dEqB z d
  | [] => rfl
  | x :: xs => by
    have ih := place_toPys d xs
    unfold SeqAt.dataPlace at ih ⊢
    show List.findIdx? (fun y => PyData.eqv y (toPy d)) (toPy x :: toPys xs) = _
    rw [List.findIdx?_cons, List.findIdx?_cons, ih]
    rfl
theorem RepL.eraseIdx {cl : Cl} {H : Hp} : ∀ {ds : List D} {vs : List V}, RepL cl H ds vs → ∀ j, RepL cl H (ds.eraseIdx j) (vs.eraseIdx j)
  | _, _, .nil, _ => .nil
  | _, _, .cons a r, 0 => r
  | _, _, .cons a r, j + 1 => .cons a (RepL.eraseIdx r j)
section
variable {X : Cx} {E : En} {kr : Kd} {fin : List Kd → Prop} {ks ks' : List Kd} {e : Expr} {g : Sl → R D} {pos : Pos}
def remL (ds : List D) (d : D) : Option (List D) := if shp d && shp (.lst ds) then (ds.findIdx? fun z => dEqB z d).map fun j => ds.eraseIdx j else none
@[simp] def mRem (i : Nat) (g : Sl → R D) : Sl → O := fun r => match r[i]? with
  | some (some (.lst ds)) => onR (g r) r fun d => (match remL ds d with
    | some ds' => .nx (r.set i (some (.lst ds')))
    | none => .stuck)
  | _ => .stuck
theorem ss_remove {i : Nat} {n : Option Addr} {x : Str} {p1 p2 p3 : Pos} (hu : X.A.units + 65 < cLine) (he : SE X E ks .val e g) (hf : fin ks := by trivial) (hk : ks[i]? = some (.own n) := by rfl) (hN : X.N[i]? = some x := by rfl) (hv : Vis X.env.scope x := by first | exact Or.inl rfl | exact Or.inr (Or.inl rfl) | exact Or.inr (Or.inr rfl))
    (hq : NmOk x)
    (hs : swapsWith (.Call (.Attribute (.Name x p1) "remove" p2) [e] [] p3) none pos.line X.env = pure false := by rfl)
    (hbase : attributeBase (.Name x p1) "remove" X.env (eval (.Name x p1) X.env) = eval (.Name x p1) X.env := by rfl)
    (hfew : ((backTo p3 (starEach [e] X.env)).all (fun x => !x.1) && (backToKw p3 (keywordEach [] X.env)).all (fun x => x.1.isSome)
      && decide ([e].length + ([] : List Keyword).length + (if ([] : List Keyword).isEmpty then 0 else 1) < 30)) = true := by rfl)
    (hline : (p2.endLine == p3.line) = true := by rfl) (hst : starEach [e] X.env = (false, eval e X.env) :: starEach [] X.env := by rfl) (hplain : (backTo p3 (starEach [] X.env)).any (·.1) = false := by rfl) :
    SS X E kr fin ks (.Expr (.Call (.Attribute (.Name x p1) "remove" p2) [e] [] p3) pos) (mRem i g) ks := by
  refine ⟨fun Hs H r σ W Dn tk S P => ?_⟩
  refine ws_of (ps_expr (pe_bm PySem.F.plainAttrs_list PySem.F.slot_list_remove PySem.F.type_list_remove (mt_removeD hu) (pe_var hN hv hq.1 hq.2) (pa_cons pe_we pa_nil hst) hbase hfew hline hst hplain) hs) ?_
  unfold mRem at P
  split at P
  · rename_i ds q
    obtain ⟨a, xs, ea, h1, r1, _⟩ := S.mutL hk q
    refine ⟨.ref a, ea, tyV_lst h1, ?_⟩
    refine he.run _ _ _ _ _ _ tk S (Post.ofS hf S P fun d v Hs' H' e1 g1 k1 P1 => ?_)
    obtain ⟨a', xs', ea', h2, r2, up⟩ := (S.grow g1).mutL hk q
    rw [ea] at ea'
    cases ea'
    cases q2 : remL ds d with
    | none => rw [q2] at P1; exact P1.elim
    | some ds' =>
      rw [q2] at P1
      unfold remL at q2
      split at q2
      · rename_i hsh
        have h' : shp d = true ∧ shp (.lst ds) = true := by simpa using hsh
        cases q3 : ds.findIdx? fun z => dEqB z d with
        | none => rw [q3] at q2; cases q2
        | some j =>
          rw [q3] at q2
          cases q2
          have c1 := SeqAt.canLay_of_shaped h'.1
          have c2 := SeqAt.canLay_of_shaped h'.2
          have dep : (toPy d).depth ≤ 64 := of_decide_eq_true (Bool.and_eq_true_iff.mp h'.1).2
          have lay2 : PyData.canLayAll0 (toPys ds) = true := c2
          refine ⟨a, xs', toPys ds, v, toPy d, j, rfl, rfl, h2, ?_, ?_, PyData.plainAll_of_canLay0 _ lay2, PyData.plain_of_canLay0 _ c1, dep, ?_, P1 _ _ _ (up _ _ (r2.eraseIdx j))⟩
          · exact RepL.dp ds xs' lay2 (RepL.same g1.sub _ _ r2)
          · exact Rep.dp d v c1 (Rep.same g1.sub _ _ k1.rep)
          · rw [place_toPys]; exact q3
      · cases q2
  · exact P.elim
end
end VL
end

noncomputable section
namespace VL
open PySem PySem.Spec PyProof.Rows L2
variable {md : Md}

theorem upd_comm {H : Hp} {a b : Addr} {o u : HO} (h : a ≠ b) : upd (upd H a o) b u = upd (upd H b u) a o := by
  funext c
  by_cases h1 : c = a
  · rw [h1, upd_ne h, upd_same, upd_same]
  · rw [upd_ne h1]
    by_cases h2 : c = b
    · rw [h2, upd_same, upd_same]
    · rw [upd_ne h2, upd_ne h2, upd_ne h1]
theorem xat_mk {P : Program} {w : World} {K : PySem.W.Frag} {mg : Str → Option Value} {base : Heap} {cl : Cl} {C qual : Str} {a fI : Addr} {fd : FuncData} {st : Stmt} {p p1 p2 p3 : Pos} (T : OexC K a) (hcl : cl.f C = some a) (gm : mg C = some (.ref a))
    (iC : PySem.W.findIn K (.ref a) "__init__" = some (some (.ref fI))) (tI : PySem.W.typeIn K (.ref fI) = some (.type "function")) (hno : PySem.W.findIn K (.ref a) "at" = some none)
    (F : Fun K "__init__" qual st fI fd) (S : FnScope ["self", "at"] ["self", "at"] (defScope st)) (bn : Binds K fd ["self", "at"] []) (hb : defBody st = [.Assign [.Attribute (.Name "self" p1) "at" p2] (.Name "at" p3) p])
    (v1 : Vis (defScope st) "self") (v2 : Vis (defScope st) "at")
    (hs : ∀ X : Cx, X.env.scope = defScope st → swapsWith (.Name "at" p3) (some (.Attribute (.Name "self" p1) "at" p2)) p.line X.env = pure false) : XAt P w K mg base cl C 1 := by
  refine ⟨a, fI, fd, ["self", "at"], hcl, gm, T, iC, tI, bn, F.ok S (fun vs H Q E ⟨x, v, e, _⟩ => by rw [e] <;> rfl) fun cdv A outer s H vs Q E hr ⟨x, v, e, hx, q⟩ => ?_⟩
  subst e
  rw [hb]
  refine ⟨_, pss_one (ps_ost (pe_var (i := 0) rfl v1 (by decide) (by decide)) (pe_var (i := 1) rfl v2 (by decide) (by decide)) (hs _ rfl)), ?_⟩
  refine ⟨v, rfl, .ref x, rfl, x, a, rfl, T, hno, .inl ⟨hx, fun dx hd ne => ?_⟩⟩
  have := q dx hd ne
  rw [upd_comm (Ne.symm ne)] at this
  exact this
end VL
end

noncomputable section
namespace VL
open PySem PySem.Spec PyProof.Rows L2
open ModeZ

abbrev HdT := Value × Option Nat × (Addr → Value → Option Addr → TS)
section
variable {X : Cx} {body : List Stmt} {hd0 : ExceptHandler} {hds : List ExceptHandler} {l : List HdT} {pos : Pos} {tb : WX → TS} {Wo : WX}
end
end VL
end

noncomputable section
namespace VL
open PySem PySem.Spec PyProof.Rows L2
open ModeZ

/-- an own exception of class C is caught by a clause for D -/
def subX (C D : Str) : Bool := C == D || D == "CreelError"
/-- what is known of a clause's class -/
structure HSub (K : PySem.W.Frag) (mg : Str → Option Value) (cl : Cl) (D : Str) : Prop where
  ex : ∃ a, mg D = some (.ref a) ∧ ∀ C c, cl.f C = some c → PySem.W.exmOne K (.ref c) (.ref a) = some (subX C D)
section
variable {X : Cx} {E : En} {kr : Kd} {fin : List Kd → Prop} {ks ks' : List Kd}
end
end VL
end

noncomputable section
namespace VL
open PySem PySem.Spec PyProof.Rows L2
open ModeZ

section
variable {X : Cx} {pins : List (Addr × Obj)} {σ : L2.St} {H : Hp} {s : Shared}
theorem codeO_tbl {c : Addr} {q : Str} (ps : Array Value) : LamX.CodeO c q ≠ .tbl ps := fun z => by
  unfold LamX.CodeO at z
  cases z
end

end VL
end

noncomputable section
namespace VL
open PySem PySem.Spec PyProof.Rows L2
open ModeZ

theorem look_nil {P : Str → Addr → Prop} : ∀ C c, List.lookup C ([] : List (Str × Addr)) = some c → P C c := fun C c e => by cases e
theorem look_cons {P : Str → Addr → Prop} {n : Str} {a : Addr} {l : List (Str × Addr)} (h : P n a) (t : ∀ C c, List.lookup C l = some c → P C c) : ∀ C c, List.lookup C ((n, a) :: l) = some c → P C c := fun C c e => by
  rw [List.lookup_cons] at e
  cases q : C == n with
  | true =>
    rw [q] at e
    have e1 : C = n := by simpa using q
    cases e
    rw [e1]
    exact h
  | false =>
    rw [q] at e
    exact t C c e
theorem sub_at {K : PySem.W.Frag} {C D : Str} {c a : Addr} {b : Bool} (e : PySem.W.exmOne K (.ref c) (.ref a) = some b) (h : subX C D = b) : PySem.W.exmOne K (.ref c) (.ref a) = some (subX C D) := by rw [h]; exact e
theorem exm_mk {K : PySem.W.Frag} {t : Value} {a : Addr} {b : Bool} (s : PySem.W.subIn K (.ref a) (.type "BaseException") = some true) (i : PySem.W.isClsIn K a = true) (ty : PySem.W.typeIn K (.ref a) = some (.type "type")) (e : PySem.W.subIn K t (.ref a) = some b) : PySem.W.exmOne K t (.ref a) = some b := by
  unfold PySem.W.isClsIn at i
  unfold PySem.W.exmOne PySem.W.kitCls
  rw [s]
  simp [i, ty, e]
end VL
end

noncomputable section
namespace VL
open PySem PySem.Spec PyProof.Rows L2
open ModeZ

end VL
end

noncomputable section
namespace L2
open PySem PySem.Spec PyProof.Rows
section
variable {P : Program} {w : World} {A : Around} {E : Value → Shared → Prop} {s : Shared}
end
end L2
namespace VL
open PySem PySem.Spec PyProof.Rows L2
variable {md : Md}

section
variable {X : Cx} {E : En} {ks : List Kd} {e o : Expr} {g ga gb : Sl → R D} {p p1 p2 q pos apos cpos : Pos}
end
end VL
end

noncomputable section
namespace VL
open PySem PySem.Spec PyProof.Rows L2
variable {md : Md}

def keyD : Key → D
  | .inl i => .int i
  | .inr x => .str x
def keyOf : D → Option Key
  | .int i => some (.inl i)
  | .str x => some (.inr x)
  | _ => none
def valD (ds : List (Key × D)) (k : Key) : Option D := (ds.find? fun kv => decide (kv.1 = k)).map (·.2)
theorem valD_pos {p : Key × D} {r : List (Key × D)} {k : Key} (e : p.1 = k) : valD (p :: r) k = some p.2 := by simp [valD, List.find?_cons, e]
theorem valD_neg {p : Key × D} {r : List (Key × D)} {k : Key} (e : ¬ p.1 = k) : valD (p :: r) k = valD r k := by simp [valD, List.find?_cons, e]
def putD (ds : List (Key × D)) (k : Key) (d : D) : List (Key × D) :=
  if (ds.any fun kv => decide (kv.1 = k)) = true then ds.map (fun kv => if kv.1 = k then (kv.1, d) else kv) else ds ++ [(k, d)]
theorem keyRep {cl : Cl} {H : Hp} (k : Key) : Rep cl H (keyD k) (kV k) := by
  cases k with
  | inl i => exact .int i
  | inr x => exact .str x
theorem keyOf_rb {cl : Cl} {Hs H : Hp} {d : D} {v : V} {k : Key} (h : RB cl Hs H d v) (q : keyOf d = some k) : v = kV k := by
  cases d <;> first | (cases q; done) | skip
  · cases q; exact h.intInv
  · cases q; exact h.strInv
section
variable {cl : Cl} {H : Hp}
theorem RepK.len : ∀ {ds : List (Key × D)} {xs : List (Key × V)}, RepK cl H ds xs → xs.length = ds.length
  | [], _, h => by cases h; rfl
  | _ :: _, _, h => by
    cases h with
    | cons _ h2 => rw [List.length_cons, List.length_cons, RepK.len h2]
theorem RepK.get : ∀ {ds : List (Key × D)} {xs : List (Key × V)} {i : Nat} {p : Key × D}, RepK cl H ds xs → ds[i]? = some p → ∃ v, xs[i]? = some (p.1, v) ∧ Rep cl H p.2 v
  | [], _, _, _, _, e => by simp at e
  | _ :: _, _, 0, _, h, e => by
    cases h with
    | cons h1 h2 => cases e; exact ⟨_, rfl, h1⟩
  | _ :: _, _, i + 1, _, h, e => by
    cases h with
    | cons h1 h2 => exact RepK.get (i := i) h2 e
theorem RepK.app : ∀ {ds es : List (Key × D)} {xs ys : List (Key × V)}, RepK cl H ds xs → RepK cl H es ys → RepK cl H (ds ++ es) (xs ++ ys)
  | [], _, _, _, h, g => by cases h; exact g
  | _ :: _, _, _, _, h, g => by
    cases h with
    | cons h1 h2 => exact .cons h1 (RepK.app h2 g)
theorem RepK.any (k : Key) : ∀ {ds : List (Key × D)} {xs : List (Key × V)}, RepK cl H ds xs → (xs.any fun kv => decide (kv.1 = k)) = ds.any fun kv => decide (kv.1 = k)
  | [], _, h => by cases h; rfl
  | _ :: _, _, h => by
    cases h with
    | cons h1 h2 => rw [List.any_cons, List.any_cons, RepK.any k h2]
theorem RepK.map (k : Key) {d : D} {v : V} (r : Rep cl H d v) : ∀ {ds : List (Key × D)} {xs : List (Key × V)}, RepK cl H ds xs → RepK cl H (ds.map fun kv => if kv.1 = k then (kv.1, d) else kv) (xs.map fun kv => if kv.1 = k then (kv.1, v) else kv)
  | [], _, h => by cases h; exact .nil
  | (k0, d0) :: _, _, h => by
    cases h with
    | cons h1 h2 =>
      rw [List.map_cons, List.map_cons]
      by_cases c : k0 = k
      · rw [if_pos c, if_pos c]; exact .cons r (RepK.map k r h2)
      · rw [if_neg c, if_neg c]; exact .cons h1 (RepK.map k r h2)
theorem RepK.put {ds : List (Key × D)} {xs : List (Key × V)} (h : RepK cl H ds xs) (k : Key) {d : D} {v : V} (r : Rep cl H d v) : RepK cl H (putD ds k d) (putK xs k v) := by
  unfold putD putK
  rw [h.any k]
  split
  · exact h.map k r
  · exact h.app (.cons r .nil)
theorem RepK.val (k : Key) : ∀ {ds : List (Key × D)} {xs : List (Key × V)}, RepK cl H ds xs → ∀ {d0 : D} {v0 : V}, Rep cl H d0 v0 → Rep cl H ((valD ds k).getD d0) ((valV xs k).getD v0)
  | [], _, h, _, _, r => by cases h; exact r
  | (k0, d0) :: _, _, h, _, _, r => by
    cases h with
    | cons h1 h2 =>
      by_cases c : k0 = k
      · rw [valD_pos c, valV_pos c]; exact h1
      · rw [valD_neg c, valV_neg c]; exact RepK.val k h2 r
end
section
variable {E : En} {Hs H : Hp} {ks : List Kd} {r : Sl} {σ : L2.St}
theorem Slots.monoB {E' : En} (c : E'.cl = E.cl) (n : E'.h = E.h) (b : Same E.b E'.b) {H' : Hp} : ∀ {ks : List Kd} {r : Sl} {t : L2.St} {As : List Addr}, (∀ a ∈ As, H' a = H a) → Slots E Hs H ks r t As → Slots E' Hs H' ks r t As
  | _, _, _, _, _, .nil => .nil
  | _, _, _, _, k, .skip h => .skip (Slots.monoB c n b k h)
  | _, _, _, _, k, .cons h1 h2 => .cons (by rw [c]; exact ORep.mono (Same.refl _) b (fun a z => by show E'.h a = none; rw [n]; exact z) _ _ _ _ (fun a ha => k a (List.mem_append_left _ ha)) h1) (Slots.monoB c n b (fun a ha => k a (List.mem_append_right _ ha)) h2)
/-- the dict in slot i is locked: its name holds an address alone -/
theorem StRel.lock {i : Nat} {n : Option Addr} {ds : List (Key × D)} (S : StRel E Hs H ks r σ) (hk : ks[i]? = some (.own n)) (hd : r[i]? = some (some (.dct ds))) :
    ∃ a xs, σ[i]? = some (some (.ref a)) ∧ H a = some (.dK xs) ∧ RepK E.cl Hs ds xs ∧ Hs a = none ∧
      ∀ od, StRel ⟨E.cl, E.h, Hs, upd E.b a (.frz od (.dK xs))⟩ Hs (upd H a (.frz od (.dK xs))) (ks.set i (.adr a)) (r.set i (some .non)) σ := by
  obtain ⟨As, S⟩ := S
  obtain ⟨pre, A, post, e, q1, q2, _, _⟩ := S.sl.at_ i hk
  obtain ⟨v, ev, o⟩ := q1 _ hd
  cases o with
  | ownV h0 h1 => cases h0
  | ownK h0 h1 h2 =>
    rename_i a xs
    have ha : a ∈ As := by rw [e]; exact List.mem_append_right _ (List.mem_append_left _ (by simp))
    have dz := S.dis a ha
    refine ⟨a, xs, ev, h1, h2, dz.1, fun od => ?_⟩
    have nd := S.nd
    rw [e] at nd
    have hn : ∀ b ∈ pre ++ post, b ≠ a := fun b hb z => by
      subst z
      rcases List.mem_append.mp hb with w | w
      · exact (List.nodup_append.mp nd).2.2 _ w _ (List.mem_append_left _ (by simp)) rfl
      · exact (List.nodup_append.mp (List.nodup_append.mp nd).2.1).2.2 _ (by simp) _ w rfl
    have z0 := q2 (.adr a) .non (.ref a) [] .adr
    have e3 : σ.set i (some (.ref a)) = σ := by
      obtain ⟨h, e2⟩ := List.getElem?_eq_some_iff.mp ev
      rw [← e2, List.set_getElem_self]
    rw [e3, List.nil_append] at z0
    have bs : Same E.b (upd E.b a (.frz od (.dK xs))) := Same.updNew dz.2
    have z := Slots.monoB (E := E) (E' := ⟨E.cl, E.h, Hs, upd E.b a (.frz od (.dK xs))⟩) (H' := upd H a (.frz od (.dK xs))) rfl rfl bs (fun b hb => upd_ne (hn b hb)) z0
    have sub : (pre ++ post).Sublist As := by
      rw [e]
      exact List.Sublist.append (List.Sublist.refl _) (List.sublist_append_right _ _)
    refine ⟨_, z, S.nd.sublist sub, fun b hb => ⟨(S.dis b (sub.subset hb)).1, ?_⟩, Same.refl _, ⟨fun b u q nt => ?_⟩, S.eb.updBoth, fun b z => .inl z, fun b q => ?_, fun P z => tab_mut h1 P (S.tb P z)⟩
    · show upd E.b a _ b = none
      rw [upd_ne (hn b hb)]
      exact (S.dis b (sub.subset hb)).2
    · have : b ≠ a := fun w => by rw [w, dz.1] at q; cases q
      rw [upd_ne this] at nt ⊢
      exact S.sub.k _ _ q nt
    · have : b ≠ a := fun w => by rw [w, upd_same] at q; cases q
      rw [upd_ne this] at q
      exact S.dom _ q
end
section
variable {X : Cx} {E : En} {kr : Kd} {fin : List Kd → Prop} {ks ks' : List Kd} {e f b : Expr} {ge gf gb g : Sl → R D} {pos p1 p2 apos cpos : Pos}
theorem se_dnew : SE X E ks (.own none) (.Dict [] [] pos) (gC (.dct [])) :=
  ⟨fun Hs H r σ W Q tk S P => we_of pe_dnewK fun p hp => P _ Hs _ (Grow.fresh S.sub hp) ⟨[p], .ownK ⟨hp, fun _ z => nomatch z⟩ upd_same .nil, by simp, fun a ha => by
    have : a = p := by simpa using ha
    subst this
    exact ⟨S.sub.free hp, hp⟩⟩⟩
end
end VL
end

noncomputable section
namespace VL
open PySem PySem.Spec PyProof.Rows L2
variable {md : Md}

section
variable {X : Cx} {E : En} {ks : List Kd} {a b : Expr} {ga gb : Sl → R D} {p p2 q pos : Pos}
end
end VL
end

noncomputable section
namespace VL
open PySem PySem.Spec PyProof.Rows L2
variable {md : Md}

def dRevI : D → R (List D)
  | .lst ds => .ok ds.reverse
  | _ => .stuck
def gReversed (g : Sl → R D) : Sl → R (List D) := fun r => do
  let d ← g r
  dRevI d
theorem ItOk.rev {K : PySem.W.Frag} {cl : Cl} {a : Addr} {xs : List V} {ds : List D} {Hs Bq : Hp} (rp : RepL cl Hs ds xs) (rt : ∀ Hs' H, Same Hs Hs' → Same Hs' H → Same Bq H → H a = some (.lst xs)) (hz : xs.length ≤ szL) : ItOk cl (Itv K a xs.length) ds.reverse Hs Bq where
  len := by rw [List.length_reverse, ← rp.length]; exact hz
  go := fun Hs' H e1 e2 e3 i hi => by
    rw [List.length_reverse, ← rp.length] at hi
    exact ⟨hi, xs, xs[xs.length - 1 - i], SqL.of (rt Hs' H e1 e2 e3), List.getElem?_eq_getElem (by omega)⟩
  stop := fun Hs' H e1 e2 e3 => by rw [List.length_reverse, ← rp.length]; exact Nat.le_refl _
  yld := fun Hs' H e1 e2 e3 i d x H' hd y => by
    obtain ⟨rfl, y⟩ := y
    have hi : i < ds.length := by
      have := (List.getElem?_eq_some_iff.mp hd).1
      rwa [List.length_reverse] at this
    rw [List.getElem?_reverse hi] at hd
    obtain ⟨v, e, r⟩ := rp.get hd
    have q := y xs (SqL.of (rt Hs' _ e1 e2 e3))
    rw [rp.length, e] at q
    cases q
    exact ⟨Hs', Grow.refl e2, Rep.same e1 _ _ r⟩
section
variable {X : Cx} {E : En} {ks : List Kd} {md : Bool} {tg e : Expr} {g : Sl → R D} {p pos : Pos}
theorem si_reversed (hm : X.mg "reversed" = none) (h : SQ X E ks md e g) (hg : Gl X "reversed" := by rfl) (hs : starEach [e] X.env = [(false, eval e X.env)] := by rfl) : SI X E ks md tg (.Call (.Name "reversed" p) [e] [] pos) (gReversed g) := by
  refine ⟨fun Hs H r σ W Q tk S P => ?_⟩
  have sb : Same E.b H := let ⟨_, s⟩ := S; s.eb
  unfold gReversed at P
  refine ⟨_, pi_reversed hg hm (pa_cons pe_we pa_nil hs) hs, ?_⟩
  refine we_len (h.run _ _ _ _ _ _ tk S (PostQ.ofI (f := dRevI) P fun d v Hs1 H1 e1 g1 k1 P1 => ?_))
  cases d <;> first | exact P1.elim | skip
  obtain ⟨a, xs, rfl, rp, rt⟩ := k1.root (H := H1) (Hs' := Hs1)
  intro hl
  have e0 := rt Hs1 H1 (Same.refl _) g1.sub (bq_same (sb.trans g1.h))
  exact ⟨a, xs, rfl, SqL.of e0, P1 _ Hs1 H1 (Grow.refl g1.sub) (ItOk.rev rp rt (hl.1 _ _ e0))⟩
end
end VL
end

noncomputable section
namespace VL
open PySem PySem.Spec PyProof.Rows L2
variable {md : Md}

def sans (H : Hp) (A : List Addr) : Hp := fun a => if a ∈ A then none else H a
section
variable {H H' Hs : Hp} {A : List Addr} {a : Addr}
theorem sans_in (h : a ∈ A) : sans H A a = none := by unfold sans; rw [if_pos h]
theorem sans_out (h : a ∉ A) : sans H A a = H a := by unfold sans; rw [if_neg h]
theorem sans_same : Same (sans H A) H := ⟨fun b o q _ => by
  by_cases h : b ∈ A
  · rw [sans_in h] at q; cases q
  · rw [sans_out h] at q; exact q⟩
theorem sans_none (h : sans H A a = none) : a ∈ A ∨ H a = none := by
  by_cases z : a ∈ A
  · exact .inl z
  · rw [sans_out z] at h; exact .inr h
theorem sans_of (h : H a = none) : sans H A a = none := by
  by_cases z : a ∈ A
  · exact sans_in z
  · rw [sans_out z]; exact h
theorem sans_sub (e : Same Hs H) (z : ∀ a ∈ A, Hs a = none) : Same Hs (sans H A) := ⟨fun b o q nt => by
  have hn : b ∉ A := fun w => by rw [z b w] at q; cases q
  rw [sans_out hn] at nt ⊢
  exact e.k _ _ q nt⟩
end
/-- no list, dict or instance is a code object -/
def Dat (o : HO) : Prop := NT o ∧ ∀ c q, o ≠ LamX.CodeO c q
mutual
theorem ORep.dat {cl : Cl} {N : Addr → Prop} {B Hs H : Hp} : ∀ (k : Kd) (d : D) (v : V) (A : List Addr), ORep cl N B Hs H k d v A → ∀ a ∈ A, (∃ o, H a = some o ∧ Dat o) ∧ N a
  | .val, _, _, _, h => by cases h; intro a z; cases z
  | .bor, _, _, _, h => by cases h <;> (intro a z; cases z)
  | .own n, _, _, _, h => by
    cases h with
    | ownL h0 h1 _ => intro a z; simp at z; subst z; exact ⟨⟨_, h1, (by intro _ z; cases z), by intro _ _ z; unfold LamX.CodeO at z; cases z⟩, h0.1⟩
    | ownK h0 h1 _ => intro a z; simp at z; subst z; exact ⟨⟨_, h1, (by intro _ z; cases z), by intro _ _ z; unfold LamX.CodeO at z; cases z⟩, h0.1⟩
    | ownV _ _ => intro a z; cases z
  | .obj n ks, _, _, _, h => by
    cases h with
    | obj h0 _ h2 h3 =>
      intro a z
      rcases List.mem_cons.mp z with e | z
      · rw [e]; exact ⟨⟨_, h2, (by intro _ z; cases z), by intro _ _ z; unfold LamX.CodeO at z; cases z⟩, h0.1⟩
      · exact OFs.dat ks _ _ _ h3 a z
  | .adr a, _, _, _, h => by cases h; intro a z; cases z
  | .lls n k, _, _, _, h => by
    cases h with
    | lls h0 h1 h2 =>
      intro a z
      rcases List.mem_cons.mp z with e | z
      · rw [e]; exact ⟨⟨_, h1, (by intro _ z; cases z), by intro _ _ z; unfold LamX.CodeO at z; cases z⟩, h0.1⟩
      · exact OLs.all (P := fun a => (∃ o, H a = some o ∧ Dat o) ∧ N a) (fun d v A o => ORep.dat k d v A o) h2 a z
    | llT h0 h1 h2 =>
      intro a z
      rcases List.mem_cons.mp z with e | z
      · rw [e]; exact ⟨⟨_, h1, (by intro _ z; cases z), by intro _ _ z; unfold LamX.CodeO at z; cases z⟩, h0.1⟩
      · exact OLs.all (P := fun a => (∃ o, H a = some o ∧ Dat o) ∧ N a) (fun d v A o => ORep.dat k d v A o) h2 a z
    | llV _ _ => intro a z; cases z
theorem OFs.dat {cl : Cl} {N : Addr → Prop} {B Hs H : Hp} : ∀ (ks : List (Str × Kd)) (ds : List (Str × D)) (xs : List (Str × V)) (A : List Addr), OFs cl N B Hs H ks ds xs A → ∀ a ∈ A, (∃ o, H a = some o ∧ Dat o) ∧ N a
  | [], _, _, _, h => by cases h; intro a z; cases z
  | (f, k) :: ks, _, _, _, h => by
    cases h with
    | cons h1 h2 =>
      intro a z
      rcases List.mem_append.mp z with z | z
      · exact ORep.dat k _ _ _ h1 a z
      · exact OFs.dat ks _ _ _ h2 a z
end
section
variable {cl : Cl} {N N' : Addr → Prop} {B B' Hs H : Hp}
mutual
/-- another way to say what is new -/
theorem ORep.renew : ∀ (k : Kd) (d : D) (v : V) (A : List Addr), k.fine = true → (∀ a ∈ A, N' a) → ORep cl N B Hs H k d v A → ORep cl N' B' Hs H k d v A
  | .val, _, _, _, _, _, h => by
    cases h with
    | val h1 => exact .val h1
  | .bor, _, _, _, z, _, _ => by cases z
  | .own n, _, _, _, _, z, h => by
    cases h with
    | ownL h0 h1 h2 => exact .ownL ⟨z _ List.mem_cons_self, h0.2⟩ h1 h2
    | ownK h0 h1 h2 => exact .ownK ⟨z _ List.mem_cons_self, h0.2⟩ h1 h2
    | ownV h0 h1 => exact .ownV h0 h1
  | .obj n ks, _, _, _, f, z, h => by
    cases h with
    | obj h0 h1 h2 h3 => exact .obj ⟨z _ List.mem_cons_self, h0.2⟩ h1 h2 (OFs.renew ks _ _ _ (by simpa [Kd.fine] using f) (fun a ha => z a (List.mem_cons_of_mem _ ha)) h3)
  | .adr _, _, _, _, z, _, _ => by cases z
  | .lls n k, _, _, _, f, z, h => by
    cases h with
    | lls h0 h1 h2 => exact .lls ⟨z _ List.mem_cons_self, h0.2⟩ h1 (OLs.imp (fun A => ∀ a ∈ A, N' a) (fun _ _ t a ha => t a (List.mem_append_left _ ha)) (fun _ _ t a ha => t a (List.mem_append_right _ ha)) (fun d v A t o => ORep.renew k d v A f t o) (fun a ha => z a (List.mem_cons_of_mem _ ha)) h2)
    | llT h0 h1 h2 => exact .llT ⟨z _ List.mem_cons_self, h0.2⟩ h1 (OLs.imp (fun A => ∀ a ∈ A, N' a) (fun _ _ t a ha => t a (List.mem_append_left _ ha)) (fun _ _ t a ha => t a (List.mem_append_right _ ha)) (fun d v A t o => ORep.renew k d v A f t o) (fun a ha => z a (List.mem_cons_of_mem _ ha)) h2)
    | llV h0 h1 => exact .llV h0 h1
theorem OFs.renew : ∀ (ks : List (Str × Kd)) (ds : List (Str × D)) (xs : List (Str × V)) (A : List Addr), Kd.fine.fines ks = true → (∀ a ∈ A, N' a) → OFs cl N B Hs H ks ds xs A → OFs cl N' B' Hs H ks ds xs A
  | [], _, _, _, _, _, h => by cases h; exact .nil
  | (f, k) :: ks, _, _, _, fz, z, h => by
    have z' : k.fine = true ∧ Kd.fine.fines ks = true := by simpa [Kd.fine.fines] using fz
    cases h with
    | cons h1 h2 => exact .cons (ORep.renew k _ _ _ z'.1 (fun a ha => z a (List.mem_append_left _ ha)) h1) (OFs.renew ks _ _ _ z'.2 (fun a ha => z a (List.mem_append_right _ ha)) h2)
end
/-- several things that are lent -/
inductive RM (cl : Cl) (N : Addr → Prop) (B Hs H : Hp) : List Kd → List D → List V → List Addr → Prop
  | nil : RM cl N B Hs H [] [] [] []
  | cons {k : Kd} {d : D} {v : V} {A As : List Addr} {ks : List Kd} {ds : List D} {vs : List V} : ORep cl N B Hs H k d v A → RM cl N B Hs H ks ds vs As → RM cl N B Hs H (k :: ks) (d :: ds) (v :: vs) (A ++ As)
theorem RM.renew : ∀ {ks : List Kd} {ds : List D} {vs : List V} {A : List Addr}, ks.all Kd.fine = true → (∀ a ∈ A, N' a) → RM cl N B Hs H ks ds vs A → RM cl N' B' Hs H ks ds vs A
  | _, _, _, _, _, _, .nil => .nil
  | _, _, _, _, f, z, .cons o t => by
    have f' := f
    rw [List.all_cons, Bool.and_eq_true] at f'
    exact .cons (ORep.renew _ _ _ _ f'.1 (fun a ha => z a (List.mem_append_left _ ha)) o) (RM.renew f'.2 (fun a ha => z a (List.mem_append_right _ ha)) t)
theorem RM.dat : ∀ {ks : List Kd} {ds : List D} {vs : List V} {A : List Addr}, RM cl N B Hs H ks ds vs A → ∀ a ∈ A, (∃ o, H a = some o ∧ Dat o) ∧ N a
  | _, _, _, _, .nil => fun a z => nomatch z
  | _, _, _, _, .cons o t => fun a z => by
    rcases List.mem_append.mp z with z | z
    · exact ORep.dat _ _ _ _ o a z
    · exact RM.dat t a z
theorem RM.mono {Hs' H' : Hp} (e : Same Hs Hs') : ∀ {ks : List Kd} {ds : List D} {vs : List V} {A : List Addr}, (∀ a ∈ A, H' a = H a) → RM cl N B Hs H ks ds vs A → RM cl N B Hs' H' ks ds vs A
  | _, _, _, _, _, .nil => .nil
  | _, _, _, _, q, .cons o t => .cons (ORep.mono e (Same.refl _) (fun _ z => z) _ _ _ _ (fun a ha => q a (List.mem_append_left _ ha)) o) (RM.mono e (fun a ha => q a (List.mem_append_right _ ha)) t)
theorem RM.len : ∀ {ks : List Kd} {ds : List D} {vs : List V} {A : List Addr}, RM cl N B Hs H ks ds vs A → ds.length = ks.length ∧ vs.length = ks.length
  | _, _, _, _, .nil => ⟨rfl, rfl⟩
  | _, _, _, _, .cons o t => by simp [RM.len t]
end
theorem tab_sans {H : Hp} {A : List Addr} (z : ∀ a ∈ A, ∃ o, H a = some o ∧ Dat o) (P : Addr) (t : LamX.TabS H P lamQ) : LamX.TabS (sans H A) P lamQ := by
  obtain ⟨ps, h1, h2, h3⟩ := t
  have e : ∀ b u, H b = some u → ¬ Dat u → sans H A b = some u := fun b u q n => by
    by_cases w : b ∈ A
    · obtain ⟨o, e1, e2⟩ := z b w
      rw [q] at e1
      cases e1
      exact (n e2).elim
    · rw [sans_out w]; exact q
  refine ⟨ps, e _ _ h1 fun w => w.1 ps rfl, h2, fun pos cv hc => ?_⟩
  obtain ⟨c, e1, e2⟩ := h3 pos cv hc
  exact ⟨c, e1, e _ _ e2 fun w => w.2 c lamQ rfl⟩

section
variable {E : En} {Hs H Hs' H' : Hp} {ks : List Kd} {r : Sl} {σ : L2.St} {As : List Addr}
theorem Slots.front : ∀ {kf : List Kd} {df : List D} {uf : List V} {As : List Addr}, df.length = kf.length → uf.length = kf.length → Slots E Hs H (kf ++ ks) (df.map some ++ r) (uf.map some ++ σ) As → ∃ Af Ar, As = Af ++ Ar ∧ RM E.cl E.N E.b Hs H kf df uf Af ∧ Slots E Hs H ks r σ Ar
  | [], [], [], As, _, _, h => ⟨[], As, rfl, .nil, h⟩
  | k :: kf, d :: df, u :: uf, As, l1, l2, h => by
    cases h with
    | cons o t =>
      obtain ⟨Af, Ar, e, m, s⟩ := Slots.front (by simpa using l1) (by simpa using l2) t
      exact ⟨_ ++ Af, Ar, by rw [e, List.append_assoc], .cons o m, s⟩
  | [], _ :: _, _, _, l1, _, _ => by cases l1
  | [], [], _ :: _, _, _, l2, _ => by cases l2
  | _ :: _, [], _, _, l1, _, _ => by cases l1
  | _ :: _, _ :: _, [], _, _, l2, _ => by cases l2
theorem Slots.join : ∀ {kf : List Kd} {df : List D} {uf : List V} {Af Ar : List Addr}, RM E.cl E.N E.b Hs H kf df uf Af → Slots E Hs H ks r σ Ar → Slots E Hs H (kf ++ ks) (df.map some ++ r) (uf.map some ++ σ) (Af ++ Ar)
  | _, _, _, _, _, .nil, s => s
  | _, _, _, _, _, .cons o m, s => by
    rw [List.append_assoc]
    exact .cons o (Slots.join m s)
theorem StRel.pop {k : Kd} {o : Option D} {v : Option V} (S : StRel E Hs H (k :: ks) (o :: r) (v :: σ)) : StRel E Hs H ks r σ := by
  obtain ⟨As, S⟩ := S
  have sl := S.sl
  cases sl with
  | skip t => exact ⟨_, t, S.nd, S.dis, S.es, S.sub, S.eb, S.new, S.dom, S.tb⟩
  | cons o t => exact ⟨_, t, (List.nodup_append.mp S.nd).2.1, fun a ha => S.dis a (List.mem_append_right _ ha), S.es, S.sub, S.eb, S.new, S.dom, S.tb⟩
/-- the front's value goes to slot i -/
theorem StRel.settle {k k0 : Kd} {d : D} {v : V} {i : Nat} (S : StRel E Hs H (k :: ks) (some d :: r) (some v :: σ)) (hk : ks[i]? = some k0) : StRel E Hs H (ks.set i k) (r.set i (some d)) (σ.set i (some v)) := by
  obtain ⟨As, S⟩ := S
  have sl := S.sl
  cases sl with
  | cons o t =>
    rename_i A Ar
    obtain ⟨pre, A0, post, e, _, q, _, _⟩ := t.at_ i hk
    have nd := S.nd
    subst e
    have p1 : (pre ++ (A ++ post)).Perm (A ++ (pre ++ post)) := by
      rw [← List.append_assoc, ← List.append_assoc]
      exact List.Perm.append_right _ List.perm_append_comm
    have s1 : (A ++ (pre ++ post)).Sublist (A ++ (pre ++ (A0 ++ post))) := List.Sublist.append (List.Sublist.refl _) (List.Sublist.append (List.Sublist.refl _) (List.sublist_append_right _ _))
    exact ⟨_, q k d v A o, p1.nodup_iff.mpr (nd.sublist s1), fun a ha => S.dis a (s1.subset (p1.mem_iff.mp ha)), S.es, S.sub, S.eb, S.new, S.dom, S.tb⟩
theorem grow_sans {Af : List Addr} (g : Grow Hs (sans H Af) Hs' H') {a : Addr} {o : HO} (h : H a = some o) (nt : NT o) (hn : a ∉ Af) : H' a = some o := g.h.at a o (by rw [sans_out hn]; exact h) nt
/-- the front is lent and comes back otherwise -/
theorem StRel.lend {kf : List Kd} {df : List D} {uf : List V} (S : StRel E Hs H (kf ++ ks) (df.map some ++ r) (uf.map some ++ σ)) (l1 : df.length = kf.length) (l2 : uf.length = kf.length) (fk : kf.all Kd.fine = true) :
    ∃ Af, RM E.cl (fun a => sans H Af a = none) (sans H Af) Hs H kf df uf Af ∧ Af.Nodup ∧ (∀ a ∈ Af, Hs a = none) ∧
      ∀ (Hs' H' : Hp) (k2 : List Kd) (d2 : List D) (u2 : List V) (A2 : List Addr), k2.all Kd.fine = true → Grow Hs (sans H Af) Hs' H' → RM E.cl (fun a => sans H Af a = none) (sans H Af) Hs' H' k2 d2 u2 A2 → A2.Nodup → (∀ a ∈ A2, Hs' a = none ∧ sans H Af a = none) →
        StRel E Hs' H' (k2 ++ ks) (d2.map some ++ r) (u2.map some ++ σ) ∧
        ∀ (k : Kd) (d : D) (v : V) (A0 : List Addr), k.fine = true → ORep E.cl (fun a => sans H Af a = none) (sans H Af) Hs' H' k d v A0 → (A0 ++ A2).Nodup → (∀ a ∈ A0, Hs' a = none ∧ sans H Af a = none) →
          StRel E Hs' H' (k :: (k2 ++ ks)) (some d :: (d2.map some ++ r)) (some v :: (u2.map some ++ σ)) := by
  obtain ⟨As, S⟩ := S
  obtain ⟨Af, Ar, e, m, t⟩ := S.sl.front l1 l2
  subst e
  have nd := List.nodup_append.mp S.nd
  have df' : ∀ a ∈ Af, Hs a = none ∧ E.b a = none := fun a ha => S.dis a (List.mem_append_left _ ha)
  refine ⟨Af, RM.renew fk (fun a ha => sans_in ha) m, nd.1, fun a ha => (df' a ha).1, fun Hs' H' k2 d2 u2 A2 fk2 g m2 nd2 di2 => ?_⟩
  have allN : ∀ a, sans H Af a = none → E.h a = none := fun a z => by
    rcases sans_none z with w | w
    · exact (m.dat a w).2
    · exact S.dom a w
  have hr : ∀ a ∈ Ar, a ∉ Af := fun a ha w => nd.2.2 a w a ha rfl
  have tz : ∀ a ∈ Ar, ∃ o, H a = some o ∧ NT o ∧ H' a = some o := fun a ha => by
    obtain ⟨o, e, nt⟩ := t.here a ha
    exact ⟨o, e, nt, grow_sans g e nt (hr a ha)⟩
  have t2 : Slots E Hs' H' ks r σ Ar := t.mono g.s fun a ha => by
    obtain ⟨o, e, _, e2⟩ := tz a ha
    rw [e, e2]
  have dr : ∀ a ∈ Ar, Hs' a = none ∧ E.b a = none := fun a ha => by
    have z := S.dis a (List.mem_append_right _ ha)
    refine ⟨?_, z.2⟩
    cases q : Hs' a with
    | none => rfl
    | some u =>
      rcases g.n a (by rw [q]; simp) with w | w
      · exact absurd z.1 w
      · rcases sans_none w with w | w
        · exact (hr a ha w).elim
        · obtain ⟨o, e, _⟩ := tz a ha
          rw [e] at w; cases w
  have sep : ∀ a, sans H Af a = none → a ∉ Ar := fun a z ha => by
    rcases sans_none z with w | w
    · exact hr a ha w
    · obtain ⟨o, e, _⟩ := tz a ha
      rw [e] at w; cases w
  have ebz : ∀ a, sans H Af a = none → E.b a = none := fun a z => by
    rcases sans_none z with w | w
    · exact (df' a w).2
    · exact S.eb.free w
  have eb : Same E.b H' := (sans_sub (A := Af) S.eb fun a ha => (df' a ha).2).trans g.h
  have new : ∀ a, Hs' a ≠ none → E.s a ≠ none ∨ E.h a = none := fun a z => by
    rcases g.n a z with w | w
    · exact S.new a w
    · exact .inr (allN a w)
  have dom : ∀ a, H' a = none → E.h a = none := fun a z => allN a (g.h.free z)
  have tb : ∀ P, LamX.TabS E.h P lamQ → LamX.TabS H' P lamQ := fun P z => g.t P (tab_sans (fun a ha => (m.dat a ha).1) P (S.tb P z))
  have m2' : RM E.cl E.N E.b Hs' H' k2 d2 u2 A2 := RM.renew fk2 (fun a ha => allN a (di2 a ha).2) m2
  have J := Slots.join m2' t2
  have nd3 : (A2 ++ Ar).Nodup := List.nodup_append.mpr ⟨nd2, nd.2.1, fun a ha b hb z => sep a (di2 a ha).2 (z ▸ hb)⟩
  have dis3 : ∀ a ∈ A2 ++ Ar, Hs' a = none ∧ E.b a = none := fun a ha => by
    rcases List.mem_append.mp ha with w | w
    · exact ⟨(di2 a w).1, ebz a (di2 a w).2⟩
    · exact dr a w
  refine ⟨⟨_, J, nd3, dis3, S.es.trans g.s, g.sub, eb, new, dom, tb⟩, fun k d v A0 fk0 o nd0 di0 => ?_⟩
  refine ⟨_, .cons (ORep.renew k _ _ _ fk0 (fun a ha => allN a (di0 a ha).2) o) J, ?_, fun a ha => ?_, S.es.trans g.s, g.sub, eb, new, dom, tb⟩
  · rw [← List.append_assoc]
    exact List.nodup_append.mpr ⟨nd0, nd.2.1, fun a ha b hb z => by
      rcases List.mem_append.mp ha with w | w
      · exact sep a (di0 a w).2 (z ▸ hb)
      · exact sep a (di2 a w).2 (z ▸ hb)⟩
  · rcases List.mem_append.mp ha with w | w
    · exact ⟨(di0 a w).1, ebz a (di0 a w).2⟩
    · exact dis3 a w
end
def Kd.re (n : Option Addr) : Kd → Kd
  | .own _ => .own n
  | .obj _ ks => .obj n ks
  | .lls _ k => .lls n k
  | k => k
section
variable {cl : Cl} {N : Addr → Prop} {B Hs H : Hp} {d : D} {v : V} {A : List Addr} {n : Option Addr} {kk : List (Str × Kd)}
theorem ORep.pinO (h : ORep cl N B Hs H (.obj n kk) d v A) : ∃ a, v = .ref a ∧ ORep cl N B Hs H (.obj (some a) kk) d (.ref a) A ∧ ∀ b, n = some b → b = a := by
  cases h with
  | obj h0 h1 h2 h3 => exact ⟨_, rfl, .obj ⟨h0.1, fun b z => (Option.some.inj z).symm⟩ h1 h2 h3, h0.2⟩
theorem ORep.unpinO {a : Addr} (h : ORep cl N B Hs H (.obj (some a) kk) d v A) (hn : ∀ b, n = some b → b = a) : ORep cl N B Hs H (.obj n kk) d v A := by
  cases h with
  | obj h0 h1 h2 h3 =>
    have e := h0.2 _ rfl
    subst e
    exact .obj ⟨h0.1, hn⟩ h1 h2 h3
theorem ORep.atO {a : Addr} (h : ORep cl N B Hs H (.obj (some a) kk) d v A) : v = .ref a := by
  cases h with
  | obj h0 h1 h2 h3 => rw [h0.2 _ rfl]
end
end VL
end

noncomputable section
namespace VL
open PySem PySem.Spec PyProof.Rows L2
variable {md : Md}

theorem lookup_at {α : Type} {f : Str} : ∀ {fs : List (Str × α)} {j : Nat} {v : α}, (fs.map (·.1)).Nodup → fs[j]? = some (f, v) → fs.lookup f = some v
  | [], _, _, _, h => by simp at h
  | (g, x) :: r, 0, v, _, h => by
    simp at h
    obtain ⟨rfl, rfl⟩ := h
    simp [List.lookup]
  | (g, x) :: r, j + 1, v, nd, h => by
    rw [List.map_cons, List.nodup_cons] at nd
    have h' : r[j]? = some (f, v) := by simpa using h
    have hm : f ∈ r.map (·.1) := List.mem_map.mpr ⟨(f, v), List.mem_of_getElem? h', rfl⟩
    have hb : (f == g) = false := beq_eq_false_iff_ne.mpr fun e => nd.1 (e ▸ hm)
    rw [List.lookup, hb]
    exact lookup_at nd.2 h'
theorem lookup_out {α : Type} {f : Str} : ∀ {fs : List (Str × α)}, f ∉ fs.map (·.1) → fs.lookup f = none
  | [], _ => rfl
  | (g, x) :: r, h => by
    rw [List.map_cons, List.mem_cons] at h
    have hb : (f == g) = false := beq_eq_false_iff_ne.mpr fun e => h (.inl e)
    rw [List.lookup, hb]
    exact lookup_out fun z => h (.inr z)
theorem putF_at {f : Str} {y : V} : ∀ {fs : List (Str × V)} {j : Nat} {v : V}, (fs.map (·.1)).Nodup → fs[j]? = some (f, v) → putF f y fs = fs.set j (f, y)
  | [], _, _, _, h => by simp at h
  | (g, x) :: r, 0, v, _, h => by
    simp at h
    obtain ⟨rfl, rfl⟩ := h
    simp [putF]
  | (g, x) :: r, j + 1, v, nd, h => by
    rw [List.map_cons, List.nodup_cons] at nd
    have h' : r[j]? = some (f, v) := by simpa using h
    have hm : f ∈ r.map (·.1) := List.mem_map.mpr ⟨(f, v), List.mem_of_getElem? h', rfl⟩
    have hb : ¬ g = f := fun e => nd.1 (e ▸ hm)
    rw [putF, if_neg hb, putF_at nd.2 h']
    rfl
theorem putF_out {f : Str} {y : V} : ∀ {fs : List (Str × V)}, f ∉ fs.map (·.1) → putF f y fs = fs ++ [(f, y)]
  | [], _ => rfl
  | (g, x) :: r, h => by
    rw [List.map_cons, List.mem_cons] at h
    rw [putF, if_neg fun e => h (.inl e.symm), putF_out fun z => h (.inr z)]
    rfl
section
variable {cl : Cl} {N : Addr → Prop} {B Hs H : Hp}
theorem OFs.names : ∀ {ks : List (Str × Kd)} {ds : List (Str × D)} {xs : List (Str × V)} {As : List Addr}, OFs cl N B Hs H ks ds xs As → xs.map (·.1) = ks.map (·.1) ∧ ds.map (·.1) = ks.map (·.1)
  | _, _, _, _, .nil => ⟨rfl, rfl⟩
  | _, _, _, _, .cons o t => by simp [t.names]
theorem OFs.pos {f : Str} {k : Kd} : ∀ {ks : List (Str × Kd)} {ds : List (Str × D)} {xs : List (Str × V)} {As : List Addr} (j : Nat), OFs cl N B Hs H ks ds xs As → ks[j]? = some (f, k) →
    ∃ pre A post d v, As = pre ++ (A ++ post) ∧ ds[j]? = some (f, d) ∧ xs[j]? = some (f, v) ∧ ORep cl N B Hs H k d v A ∧
      ∀ Hs' H', Same Hs Hs' → (∀ a ∈ pre ++ post, H' a = H a) → ∀ k' d' v' A', ORep cl N B Hs' H' k' d' v' A' → OFs cl N B Hs' H' (ks.set j (f, k')) (ds.set j (f, d')) (xs.set j (f, v')) (pre ++ (A' ++ post))
  | _, _, _, _, j, .nil, e => by simp at e
  | _, _, _, _, 0, .cons (A := A) (As := As) o t, e => by
    simp at e
    obtain ⟨rfl, rfl⟩ := e
    exact ⟨[], A, As, _, _, rfl, rfl, rfl, o, fun Hs' H' s q k' d' v' A' o' => .cons (A := A') (As := As) o' (OFs.mono s (Same.refl _) (fun _ z => z) _ _ _ As (fun a ha => q a ha) t)⟩
  | _, _, _, _, j + 1, .cons (A := A0) o t, e => by
    obtain ⟨pre, A, post, d, v, e1, e2, e3, e4, e5⟩ := OFs.pos j t (by simpa using e)
    refine ⟨A0 ++ pre, A, post, d, v, by rw [e1, List.append_assoc], by simpa using e2, by simpa using e3, e4, fun Hs' H' s q k' d' v' A' o' => ?_⟩
    rw [List.append_assoc]
    exact .cons (ORep.mono s (Same.refl _) (fun _ z => z) _ _ _ _ (fun a ha => q a (List.mem_append_left _ (List.mem_append_left _ ha))) o)
      (e5 Hs' H' s (fun a ha => q a (by
        rcases List.mem_append.mp ha with z | z
        · exact List.mem_append_left _ (List.mem_append_right _ z)
        · exact List.mem_append_right _ z)) k' d' v' A' o')
theorem OFs.snoc {f : Str} {k : Kd} {d : D} {v : V} {A : List Addr} (o : ORep cl N B Hs H k d v A) : ∀ {ks : List (Str × Kd)} {ds : List (Str × D)} {xs : List (Str × V)} {As : List Addr}, OFs cl N B Hs H ks ds xs As → OFs cl N B Hs H (ks ++ [(f, k)]) (ds ++ [(f, d)]) (xs ++ [(f, v)]) (As ++ A)
  | _, _, _, _, .nil => by
    have z := OFs.cons (f := f) o (.nil (cl := cl) (N := N) (B := B) (Hs := Hs) (H := H))
    rw [List.append_nil] at z
    exact z
  | _, _, _, _, .cons o1 t => by
    rw [List.append_assoc]
    exact .cons o1 (OFs.snoc o t)
end
theorem Grow.inside {Hs H : Hp} {Af : List Addr} {a : Addr} {o : HO} (e : Same Hs H) (ha : a ∈ Af) (hz : ∀ a ∈ Af, Hs a = none) : Grow Hs (sans H Af) Hs (upd H a o) where
  s := Same.refl _
  h := ⟨fun b u q _ => by
    have hb : b ∉ Af := fun w => by rw [sans_in w] at q; cases q
    have hne : b ≠ a := fun w => hb (by rw [w]; exact ha)
    rw [upd_ne hne]
    rw [sans_out hb] at q
    exact q⟩
  n := fun _ z => .inl z
  sub := ⟨fun b u q nt => by
    have hb : b ≠ a := fun w => by rw [w, hz a ha] at q; cases q
    rw [upd_ne hb] at nt ⊢
    exact e.k _ _ q nt⟩
  t := fun P z => z.ext fun b u q => by
    have hb : b ∉ Af := fun w => by rw [sans_in w] at q; cases q
    have hne : b ≠ a := fun w => hb (by rw [w]; exact ha)
    rw [upd_ne hne]
    rw [sans_out hb] at q
    exact q
theorem set_self {α : Type} {l : List α} {i : Nat} {x : α} (h : l[i]? = some x) : l.set i x = l := by
  obtain ⟨h, e⟩ := List.getElem?_eq_some_iff.mp h
  rw [← e, List.set_getElem_self]
section
variable {E : En} {Hs H Hs' H' : Hp} {ks : List Kd} {r : Sl} {σ : L2.St} {i j : Nat} {n : Option Addr} {kk : List (Str × Kd)} {k : Kd} {f C : Str} {d d0 : D} {ds : List (Str × D)} {v : V}
/-- slot i's value is lent, changed, comes back -/
theorem StRel.chg (S : StRel E Hs H ks r σ) (hk : ks[i]? = some k) (hd : r[i]? = some (some d)) (fk : k.fine = true) :
    ∃ v Af, σ[i]? = some (some v) ∧ ORep E.cl (fun a => sans H Af a = none) (sans H Af) Hs H k d v Af ∧ Af.Nodup ∧ (∀ a ∈ Af, Hs a = none) ∧ Same Hs H ∧
      ∀ (Hs' H' : Hp) (k2 : Kd) (d2 : D) (A2 : List Addr), k2.fine = true → Grow Hs (sans H Af) Hs' H' → ORep E.cl (fun a => sans H Af a = none) (sans H Af) Hs' H' k2 d2 v A2 → A2.Nodup → (∀ a ∈ A2, Hs' a = none ∧ sans H Af a = none) →
        StRel E Hs' H' (ks.set i k2) (r.set i (some d2)) σ := by
  obtain ⟨v, ev, S1⟩ := S.take hk hd
  obtain ⟨Af, m, nd, dz, back⟩ := StRel.lend (kf := [k]) (df := [d]) (uf := [v]) (r := r.set i none) S1 rfl rfl (by simp [fk])
  refine ⟨v, Af, ev, ?_, nd, dz, S.sub, fun Hs' H' k2 d2 A2 fk2 g o nd2 di2 => ?_⟩
  · cases m with
    | cons o t =>
      cases t
      rw [List.append_nil]
      rw [List.append_nil] at o
      exact o
  · have z := (back Hs' H' [k2] [d2] [v] A2 (by simp [fk2]) g (by
      have w := RM.cons o (.nil (cl := E.cl) (N := fun a => sans H Af a = none) (B := sans H Af) (Hs := Hs') (H := H'))
      rw [List.append_nil] at w
      exact w) nd2 di2).1
    have q := StRel.settle (ks := ks) (r := r.set i none) (σ := σ) z hk
    rw [List.set_set] at q
    rw [set_self ev] at q
    exact q
/-- what is known of an owned object -/
theorem StRel.objAt (S : StRel E Hs H ks r σ) (hk : ks[i]? = some (.obj n kk)) (hd : r[i]? = some (some (.obj C ds))) :
    ∃ a c dx xs As, σ[i]? = some (some (.ref a)) ∧ E.cl.o C = some c ∧ H a = some (.ins c dx xs) ∧ OFs E.cl E.N E.b Hs H kk ds xs As := by
  obtain ⟨v, A, e, o⟩ := S.get hk hd
  cases o with
  | obj h0 h1 h2 h3 => exact ⟨_, _, _, _, _, e, h1, h2, h3⟩
/-- a value goes into field j of slot i's object -/
theorem StRel.fldPut {k0 : Kd} (S : StRel E Hs H ks r σ) (g : Grow Hs H Hs' H') (hk : ks[i]? = some (.obj n kk)) (hd : r[i]? = some (some (.obj C ds))) (fo : (Kd.obj n kk).fine = true) (hj : kk[j]? = some (f, k0)) (fk : k.fine = true) (fo2 : (Kd.obj n (kk.set j (f, k))).fine = true) (rk : RK E.cl k H Hs' H' d v) :
    ∃ a c dx xs, σ[i]? = some (some (.ref a)) ∧ E.cl.o C = some c ∧ H' a = some (.ins c dx xs) ∧ xs.map (·.1) = kk.map (·.1) ∧ (∃ v0, xs[j]? = some (f, v0)) ∧
      StRel E Hs' (upd H' a (.ins c dx (xs.set j (f, v)))) (ks.set i (.obj n (kk.set j (f, k)))) (r.set i (some (.obj C (ds.set j (f, d))))) σ := by
  have S1 := S.push g fk rk
  obtain ⟨u, eu, S2⟩ := StRel.take (i := i + 1) S1 (by simpa using hk) (by simpa using hd)
  have eu' : σ[i]? = some (some u) := by simpa using eu
  obtain ⟨Af, m, nd, dz, back⟩ := StRel.lend (kf := [.obj n kk, k]) (df := [.obj C ds, d]) (uf := [u, v]) (ks := ks) (r := r.set i none) (σ := σ) S2 rfl rfl (by simp [fo, fk])
  cases m with
  | cons o t =>
    cases t with
    | cons o2 t2 =>
      cases t2
      cases o with
      | obj h0 h1 h2 h3 =>
        rename_i A2 a c dx xs As
        rw [List.append_nil] at nd dz back h3 o2 h0
        obtain ⟨pre, A, post, d1, v1, e1, e2, e3, e4, e5⟩ := OFs.pos j h3 hj
        subst e1
        have hin : a ∈ (a :: (pre ++ (A ++ post))) ++ A2 := by simp
        have na : ∀ b ∈ pre ++ (A ++ post), b ≠ a := fun b hb w => by
          have := (List.nodup_cons.mp (List.nodup_append.mp nd).1).1
          exact this (w ▸ hb)
        have na2 : ∀ b ∈ A2, b ≠ a := fun b hb w => (List.nodup_append.mp nd).2.2 a List.mem_cons_self b hb w.symm
        have nc : xs.map (·.1) = kk.map (·.1) := h3.names.1
        refine ⟨a, c, dx, xs, eu', h1, h2, nc, ⟨v1, e3⟩, ?_⟩
        have gr := Grow.inside (o := .ins c dx (xs.set j (f, v))) g.sub hin dz
        have o2' := ORep.mono (Same.refl Hs') (Same.refl _) (fun _ z => z) k d v A2 (fun b hb => upd_ne (H := H') (o := HO.ins c dx (xs.set j (f, v))) (na2 b hb)) o2
        have of' := e5 Hs' (upd H' a (.ins c dx (xs.set j (f, v)))) (Same.refl _) (fun b hb => upd_ne (na b (by
          rcases List.mem_append.mp hb with w | w
          · exact List.mem_append_left _ w
          · exact List.mem_append_right _ (List.mem_append_right _ w)))) k d v A2 o2'
        have ob : ORep E.cl _ _ Hs' (upd H' a (.ins c dx (xs.set j (f, v)))) (.obj n (kk.set j (f, k))) (.obj C (ds.set j (f, d))) (.ref a) (a :: (pre ++ (A2 ++ post))) := .obj h0 h1 upd_same of'
        have sub : ∀ b ∈ a :: (pre ++ (A2 ++ post)), b ∈ (a :: (pre ++ (A ++ post))) ++ A2 := fun b hb => by
          simp at hb ⊢
          rcases hb with w | w | w | w
          · exact .inl w
          · exact .inr (.inl w)
          · exact .inr (.inr (.inr (.inr w)))
          · exact .inr (.inr (.inr (.inl w)))
        have nd2 : (a :: (pre ++ (A2 ++ post))).Nodup := by
          have q := List.nodup_append.mp nd
          have q1 := List.nodup_cons.mp q.1
          refine List.nodup_cons.mpr ⟨fun w => ?_, nodup_mid q1.2 q.2.1 fun b hb w => ?_⟩
          · rcases List.mem_append.mp w with w | w
            · exact q1.1 (List.mem_append_left _ w)
            · rcases List.mem_append.mp w with w | w
              · exact na2 a w rfl
              · exact q1.1 (List.mem_append_right _ (List.mem_append_right _ w))
          · refine q.2.2 b (List.mem_cons_of_mem _ ?_) b hb rfl
            rcases List.mem_append.mp w with w | w
            · exact List.mem_append_left _ w
            · exact List.mem_append_right _ (List.mem_append_right _ w)
        have z := (back Hs' (upd H' a (.ins c dx (xs.set j (f, v)))) [.obj n (kk.set j (f, k))] [.obj C (ds.set j (f, d))] [.ref a] (a :: (pre ++ (A2 ++ post))) (by simp [fo2]) gr (by
          have w := RM.cons ob .nil
          rw [List.append_nil] at w
          exact w) nd2 fun b hb => ⟨dz b (sub b hb), sans_in (sub b hb)⟩).1
        have q := StRel.settle (ks := ks) (r := r.set i none) (σ := σ) z hk
        rw [List.set_set, set_self eu'] at q
        exact q
/-- .. into a new field -/
theorem StRel.fldNew (S : StRel E Hs H ks r σ) (g : Grow Hs H Hs' H') (hk : ks[i]? = some (.obj n kk)) (hd : r[i]? = some (some (.obj C ds))) (fo : (Kd.obj n kk).fine = true) (fk : k.fine = true) (fo2 : (Kd.obj n (kk ++ [(f, k)])).fine = true) (rk : RK E.cl k H Hs' H' d v) :
    ∃ a c dx xs, σ[i]? = some (some (.ref a)) ∧ E.cl.o C = some c ∧ H' a = some (.ins c dx xs) ∧ xs.map (·.1) = kk.map (·.1) ∧
      StRel E Hs' (upd H' a (.ins c dx (xs ++ [(f, v)]))) (ks.set i (.obj n (kk ++ [(f, k)]))) (r.set i (some (.obj C (ds ++ [(f, d)])))) σ := by
  have S1 := S.push g fk rk
  obtain ⟨u, eu, S2⟩ := StRel.take (i := i + 1) S1 (by simpa using hk) (by simpa using hd)
  have eu' : σ[i]? = some (some u) := by simpa using eu
  obtain ⟨Af, m, nd, dz, back⟩ := StRel.lend (kf := [.obj n kk, k]) (df := [.obj C ds, d]) (uf := [u, v]) (ks := ks) (r := r.set i none) (σ := σ) S2 rfl rfl (by simp [fo, fk])
  cases m with
  | cons o t =>
    cases t with
    | cons o2 t2 =>
      cases t2
      cases o with
      | obj h0 h1 h2 h3 =>
        rename_i A2 a c dx xs As
        rw [List.append_nil] at nd dz back h3 o2 h0
        have hin : a ∈ (a :: As) ++ A2 := by simp
        have na : ∀ b ∈ As, b ≠ a := fun b hb w => by
          have := (List.nodup_cons.mp (List.nodup_append.mp nd).1).1
          exact this (w ▸ hb)
        have na2 : ∀ b ∈ A2, b ≠ a := fun b hb w => (List.nodup_append.mp nd).2.2 a List.mem_cons_self b hb w.symm
        refine ⟨a, c, dx, xs, eu', h1, h2, h3.names.1, ?_⟩
        have gr := Grow.inside (o := .ins c dx (xs ++ [(f, v)])) g.sub hin dz
        have o2' := ORep.mono (Same.refl Hs') (Same.refl _) (fun _ z => z) k d v A2 (fun b hb => upd_ne (H := H') (o := HO.ins c dx (xs ++ [(f, v)])) (na2 b hb)) o2
        have h3' := OFs.mono (Same.refl Hs') (Same.refl _) (fun _ z => z) kk ds xs As (fun b hb => upd_ne (H := H') (o := HO.ins c dx (xs ++ [(f, v)])) (na b hb)) h3
        have ob : ORep E.cl _ _ Hs' (upd H' a (.ins c dx (xs ++ [(f, v)]))) (.obj n (kk ++ [(f, k)])) (.obj C (ds ++ [(f, d)])) (.ref a) (a :: (As ++ A2)) := .obj h0 h1 upd_same (OFs.snoc o2' h3')
        have z := (back Hs' (upd H' a (.ins c dx (xs ++ [(f, v)]))) [.obj n (kk ++ [(f, k)])] [.obj C (ds ++ [(f, d)])] [.ref a] (a :: (As ++ A2)) (by simp [fo2]) gr (by
          have w := RM.cons ob .nil
          rw [List.append_nil] at w
          exact w) nd fun b hb => ⟨dz b hb, sans_in hb⟩).1
        have q := StRel.settle (ks := ks) (r := r.set i none) (σ := σ) z hk
        rw [List.set_set, set_self eu'] at q
        exact q
/-- field j of slot i's object is a list that is changed where it lies -/
theorem StRel.fldMut {m : Option Addr} {es : List D} (S : StRel E Hs H ks r σ) (hk : ks[i]? = some (.obj n kk)) (hd : r[i]? = some (some (.obj C ds))) (fo : (Kd.obj n kk).fine = true) (hj : kk[j]? = some (f, .own m)) (he : ds[j]? = some (f, .lst es)) :
    ∃ a c dx xs b ys, σ[i]? = some (some (.ref a)) ∧ E.cl.o C = some c ∧ H a = some (.ins c dx xs) ∧ xs.map (·.1) = kk.map (·.1) ∧ xs[j]? = some (f, .ref b) ∧ a ≠ b ∧ H b = some (.lst ys) ∧ RepL E.cl Hs es ys ∧
      ∀ es' ys', RepL E.cl Hs es' ys' → StRel E Hs (upd H b (.lst ys')) ks (r.set i (some (.obj C (ds.set j (f, .lst es'))))) σ := by
  obtain ⟨u, Af, eu, o, nd, dz, sub, back⟩ := S.chg hk hd fo
  cases o with
  | obj h0 h1 h2 h3 =>
    rename_i a c dx xs As
    obtain ⟨pre, A, post, d1, v1, e1, e2, e3, e4, e5⟩ := OFs.pos j h3 hj
    rw [he] at e2
    cases e2
    cases e4 with
    | ownV q0 q1 => cases q0
    | ownL q0 q1 q2 =>
      rename_i b ys
      subst e1
      have nc := List.nodup_cons.mp nd
      have nb : a ≠ b := fun w => nc.1 (by rw [w]; simp)
      have hin : b ∈ a :: (pre ++ ([b] ++ post)) := by simp
      refine ⟨a, c, dx, xs, b, ys, eu, h1, h2, h3.names.1, e3, nb, q1, q2, fun es' ys' rp => ?_⟩
      have np : ∀ x ∈ pre ++ post, x ≠ b := fun x hx w => by
        have q := List.nodup_append.mp nc.2
        rcases List.mem_append.mp hx with z | z
        · exact q.2.2 x z b (by simp) w
        · have q' := List.nodup_append.mp q.2.1
          exact q'.2.2 b (by simp) x z w.symm
      have of' := e5 Hs (upd H b (.lst ys')) (Same.refl _) (fun x hx => upd_ne (np x hx)) (.own m) (.lst es') (.ref b) [b] (.ownL q0 upd_same rp)
      rw [set_self hj, set_self e3] at of'
      have z := back Hs (upd H b (.lst ys')) (.obj n kk) (.obj C (ds.set j (f, .lst es'))) (a :: (pre ++ ([b] ++ post))) fo (Grow.inside sub hin dz) (.obj h0 h1 ((upd_ne nb).trans h2) of') nd fun x hx => ⟨dz x hx, sans_in hx⟩
      rw [set_self hk] at z
      exact z
end
/-- a field of a class of one's own -/
def FldOk (K : PySem.W.Frag) (cl : Cl) (C f : Str) : Prop := ∀ c, cl.o C = some c → Cls K c ∧ NoAttr K c f
@[simp] def oFld (C : Str) (j : Nat) : D → R D
  | .obj C' fs => if C' = C then (match fs[j]? with
    | some (_, d) => .ok d
    | none => .stuck) else .stuck
  | _ => .stuck
@[simp] def gFld (C : Str) (i j : Nat) : Sl → R D := fun r => match r[i]? with
  | some (some d) => oFld C j d
  | _ => .stuck
theorem gFld_ok {C : Str} {i j : Nat} {r : Sl} {d : D} (h : gFld C i j r = .ok d) : ∃ fs g, r[i]? = some (some (.obj C fs)) ∧ fs[j]? = some (g, d) := by
  unfold gFld at h
  split at h
  · rename_i d0 e
    cases d0 <;> first | (cases h; done) | skip
    dsimp only [oFld] at h
    split at h
    · rename_i c
      subst c
      split at h
      · rename_i g d1 q
        cases h
        exact ⟨_, g, e, q⟩
      · cases h
    · cases h
  · cases h
theorem gFld_exc {C : Str} {i j : Nat} {r : Sl} {x : Exc} (h : gFld C i j r = .exc x) : False := by
  unfold gFld at h
  split at h
  · rename_i d0 e
    cases d0 <;> first | (cases h; done) | skip
    dsimp only [oFld] at h
    split at h
    · split at h <;> cases h
    · cases h
  · cases h
section
variable {X : Cx} {E : En} {fin : List Kd → Prop} {kr : Kd} {ks ks' : List Kd} {i j : Nat} {n : Option Addr} {kk : List (Str × Kd)} {k : Kd} {C f x : Str} {e : Expr} {g : Sl → R D} {p1 p2 p3 pos : Pos}
/-- x.f, slot i an owned object, its field j stable, or a list lent -/
theorem se_fldV (T : FldOk X.K E.cl C f) (hk : ks[i]? = some (.obj n kk) := by rfl) (hj : kk[j]? = some (f, .val) := by rfl) (hnd : (kk.map (·.1)).Nodup) (hN : X.N[i]? = some x := by rfl) (hv : Vis X.env.scope x := by first | exact Or.inl rfl | exact Or.inr (Or.inl rfl) | exact Or.inr (Or.inr rfl))
    (hq : NmOk x) (hb : attributeBase (.Name x p1) f X.env (eval (.Name x p1) X.env) = eval (.Name x p1) X.env := by rfl) : SE X E ks .val (.Attribute (.Name x p1) f pos) (gFld C i j) := by
  refine ⟨fun Hs H r σ W Q tk S P => ?_⟩
  refine we_of (pe_fld (pe_var hN hv hq.1 hq.2) hb) ?_
  cases q : gFld C i j r with
  | stuck => rw [q] at P; exact P.elim
  | exc x => exact (gFld_exc q).elim
  | ok d =>
    rw [q] at P
    obtain ⟨fs, g, e1, e2⟩ := gFld_ok q
    obtain ⟨a, c, dx, xs, As, e, h1, h2, h3⟩ := S.objAt hk e1
    obtain ⟨pre, A, post, d1, v1, _, e5, e6, e7, _⟩ := OFs.pos j h3 hj
    rw [e2] at e5
    cases e5
    cases e7 with
    | val rp => exact ⟨_, e, a, c, dx, xs, v1, rfl, h2, (T c h1).1, (T c h1).2, lookup_at (by rw [h3.names.1]; exact hnd) e6, P.finV S.sub rp⟩
theorem se_fldB {kf : Kd} (T : FldOk X.K E.cl C f) (hk : ks[i]? = some (.obj n kk) := by rfl) (hj : kk[j]? = some (f, kf) := by rfl) (hlf : kf.lends = true := by rfl) (hnd : (kk.map (·.1)).Nodup) (hN : X.N[i]? = some x := by rfl) (hv : Vis X.env.scope x := by first | exact Or.inl rfl | exact Or.inr (Or.inl rfl) | exact Or.inr (Or.inr rfl))
    (hq : NmOk x) (hb : attributeBase (.Name x p1) f X.env (eval (.Name x p1) X.env) = eval (.Name x p1) X.env := by rfl) : SE X E ks .bor (.Attribute (.Name x p1) f pos) (gFld C i j) := by
  refine ⟨fun Hs H r σ W Q tk S P => ?_⟩
  refine we_of (pe_fld (pe_var hN hv hq.1 hq.2) hb) ?_
  cases q : gFld C i j r with
  | stuck => rw [q] at P; exact P.elim
  | exc x => exact (gFld_exc q).elim
  | ok d =>
    rw [q] at P
    obtain ⟨fs, g, e1, e2⟩ := gFld_ok q
    obtain ⟨a, c, dx, xs, As, e, h1, h2, h3⟩ := S.objAt hk e1
    obtain ⟨pre, A, post, d1, v1, _, e5, e6, e7, _⟩ := OFs.pos j h3 hj
    rw [e2] at e5
    cases e5
    refine ⟨_, e, a, c, dx, xs, v1, rfl, h2, (T c h1).1, (T c h1).2, lookup_at (by rw [h3.names.1]; exact hnd) e6, P v1 Hs H (Grow.refl S.sub) (RB.rk ?_)⟩
    exact ORep.rb S.facts.2.1 _ _ _ _ hlf e7
/-- x.f = e -/
@[simp] def mFldPut (C f : Str) (i j : Nat) (g : Sl → R D) : Sl → O := fun r => onR (g r) r fun d => match r[i]? with
  | some (some (.obj C' fs)) => if C' = C then .nx (r.set i (some (.obj C (fs.set j (f, d))))) else .stuck
  | _ => .stuck
theorem ss_fldPut {k0 : Kd} {kk2 : List (Str × Kd)} (T : FldOk X.K E.cl C f) (he : SE X E ks k e g) (hnd : (kk.map (·.1)).Nodup) (hq : NmOk x) (hf : fin ks := by trivial) (hk : ks[i]? = some (.obj n kk) := by rfl) (hj : kk[j]? = some (f, k0) := by rfl) (h2 : kk.set j (f, k) = kk2 := by rfl)
    (fo : (Kd.obj n kk).fine = true := by rfl) (fk : k.fine = true := by rfl) (fo2 : (Kd.obj n kk2).fine = true := by rfl) (hl : kk.length < 1000 := by decide) (hN : X.N[i]? = some x := by rfl) (hv : Vis X.env.scope x := by first | exact Or.inl rfl | exact Or.inr (Or.inl rfl) | exact Or.inr (Or.inr rfl))
    (hs : swapsWith e (some (.Attribute (.Name x p1) f p2)) pos.line X.env = pure false := by rfl) :
    SS X E kr fin ks (.Assign [.Attribute (.Name x p1) f p2] e pos) (mFldPut C f i j g) (ks.set i (.obj n kk2)) := by
  subst h2
  refine ⟨fun Hs H r σ W Dn tk S P => ?_⟩
  refine ws_of (ps_fld (pe_var hN hv hq.1 hq.2) pe_we hs) ?_
  refine he.run _ _ _ _ _ _ tk S (Post.ofS hf S P fun d v Hs' H' e1 g1 k1 P1 => ?_)
  split at P1
  · rename_i C' fs hd
    split at P1
    · rename_i hc
      subst hc
      obtain ⟨a, c, dx, xs, e2, h1, h2, nm, ⟨v0, h3⟩, S2⟩ := S.fldPut (f := f) g1 hk hd fo hj fk fo2 k1
      refine ⟨_, e2, a, c, dx, xs, rfl, h2, (T c h1).1, (T c h1).2, ?_, ?_⟩
      · have := congrArg List.length nm
        simp at this
        omega
      · rw [putF_at (by rw [nm]; exact hnd) h3]
        exact P1 _ _ _ S2
    · exact P1.elim
  · exact P1.elim
@[simp] def mFldNew (C f : Str) (i : Nat) (g : Sl → R D) : Sl → O := fun r => onR (g r) r fun d => match r[i]? with
  | some (some (.obj C' fs)) => if C' = C then .nx (r.set i (some (.obj C (fs ++ [(f, d)])))) else .stuck
  | _ => .stuck
theorem ss_fldNew {kk2 : List (Str × Kd)} (T : FldOk X.K E.cl C f) (he : SE X E ks k e g) (hno : f ∉ kk.map (·.1)) (hq : NmOk x) (hf : fin ks := by trivial) (hk : ks[i]? = some (.obj n kk) := by rfl) (h2 : kk ++ [(f, k)] = kk2 := by rfl)
    (fo : (Kd.obj n kk).fine = true := by rfl) (fk : k.fine = true := by rfl) (fo2 : (Kd.obj n kk2).fine = true := by rfl) (hl : kk.length < 1000 := by decide) (hN : X.N[i]? = some x := by rfl) (hv : Vis X.env.scope x := by first | exact Or.inl rfl | exact Or.inr (Or.inl rfl) | exact Or.inr (Or.inr rfl))
    (hs : swapsWith e (some (.Attribute (.Name x p1) f p2)) pos.line X.env = pure false := by rfl) :
    SS X E kr fin ks (.Assign [.Attribute (.Name x p1) f p2] e pos) (mFldNew C f i g) (ks.set i (.obj n kk2)) := by
  subst h2
  refine ⟨fun Hs H r σ W Dn tk S P => ?_⟩
  refine ws_of (ps_fld (pe_var hN hv hq.1 hq.2) pe_we hs) ?_
  refine he.run _ _ _ _ _ _ tk S (Post.ofS hf S P fun d v Hs' H' e1 g1 k1 P1 => ?_)
  split at P1
  · rename_i C' fs hd
    split at P1
    · rename_i hc
      subst hc
      obtain ⟨a, c, dx, xs, e2, h1, h2, nm, S2⟩ := S.fldNew (f := f) g1 hk hd fo fk fo2 k1
      refine ⟨_, e2, a, c, dx, xs, rfl, h2, (T c h1).1, (T c h1).2, ?_, ?_⟩
      · have := congrArg List.length nm
        simp at this
        omega
      · rw [putF_out (by rw [nm]; exact hno)]
        exact P1 _ _ _ S2
    · exact P1.elim
  · exact P1.elim
/-- x.f.append(e) -/
@[simp] def mFldApp (C f : Str) (i j : Nat) (g : Sl → R D) : Sl → O := fun r => onR (noX (gFld C i j r)) r fun d0 => match d0 with
  | .lst es => onR (g r) r fun d => if es.length < szL then (match r[i]? with
    | some (some (.obj C' fs)) => .nx (r.set i (some (.obj C (fs.set j (f, .lst (es ++ [d]))))))
    | _ => .stuck) else .stuck
  | _ => .stuck
theorem names_at {cl : Cl} {N : Addr → Prop} {B Hs H : Hp} {kk : List (Str × Kd)} {fs : List (Str × D)} {xs : List (Str × V)} {As : List Addr} {j : Nat} {f g : Str} {k : Kd} {d : D} (h : OFs cl N B Hs H kk fs xs As) (hj : kk[j]? = some (f, k)) (e : fs[j]? = some (g, d)) : g = f := by
  have z := h.names.2
  have a : (fs.map (·.1))[j]? = some g := by rw [List.getElem?_map, e]; rfl
  rw [z, List.getElem?_map, hj] at a
  exact (Option.some.inj a).symm
theorem ss_fldApp {m : Option Addr} (T : FldOk X.K E.cl C f) (he : SE X E ks .val e g) (hnd : (kk.map (·.1)).Nodup) (hq : NmOk x) (hf : fin ks := by trivial) (hk : ks[i]? = some (.obj n kk) := by rfl) (hj : kk[j]? = some (f, .own m) := by rfl)
    (fo : (Kd.obj n kk).fine = true := by rfl) (hN : X.N[i]? = some x := by rfl) (hv : Vis X.env.scope x := by first | exact Or.inl rfl | exact Or.inr (Or.inl rfl) | exact Or.inr (Or.inr rfl))
    {p0 : Pos} (hs : swapsWith (.Call (.Attribute (.Attribute (.Name x p1) f p0) "append" p2) [e] [] p3) none pos.line X.env = pure false := by rfl)
    (hb : attributeBase (.Name x p1) f X.env (eval (.Name x p1) X.env) = eval (.Name x p1) X.env := by rfl)
    (hbase : attributeBase (.Attribute (.Name x p1) f p0) "append" X.env (eval (.Attribute (.Name x p1) f p0) X.env) = eval (.Attribute (.Name x p1) f p0) X.env := by rfl)
    (hfew : ((backTo p3 (starEach [e] X.env)).all (fun x => !x.1) && (backToKw p3 (keywordEach [] X.env)).all (fun x => x.1.isSome)
      && decide ([e].length + ([] : List Keyword).length + (if ([] : List Keyword).isEmpty then 0 else 1) < 30)) = true := by rfl)
    (hline : (p2.endLine == p3.line) = true := by rfl) (hst : starEach [e] X.env = (false, eval e X.env) :: starEach [] X.env := by rfl) (hplain : (backTo p3 (starEach [] X.env)).any (·.1) = false := by rfl) :
    SS X E kr fin ks (.Expr (.Call (.Attribute (.Attribute (.Name x p1) f p0) "append" p2) [e] [] p3) pos) (mFldApp C f i j g) ks := by
  refine ⟨fun Hs H r σ W Dn tk S P => ?_⟩
  refine ws_of (ps_expr (pe_bm PySem.F.plainAttrs_list PySem.F.slot_list_append PySem.F.type_list_append mt_append (pe_fld (pe_var hN hv hq.1 hq.2) hb) (pa_cons pe_we pa_nil hst) hbase hfew hline hst hplain) hs) ?_
  unfold mFldApp at P
  cases q : gFld C i j r with
  | stuck => rw [q] at P; exact P.elim
  | exc x => exact (gFld_exc q).elim
  | ok d0 =>
    rw [q] at P
    dsimp only [onR, noX] at P
    cases d0 <;> first | exact P.elim | skip
    rename_i es
    obtain ⟨fs, g0, e1, e2⟩ := gFld_ok q
    have hg : g0 = f := by
      obtain ⟨a, c, dx, xs, As, _, _, _, h3⟩ := S.objAt hk e1
      exact names_at h3 hj e2
    subst hg
    obtain ⟨a, c, dx, xs, b, ys, e, h1, h2, nm, h3, nb, h4, r1, _⟩ := S.fldMut hk e1 fo hj e2
    refine ⟨_, e, a, c, dx, xs, .ref b, rfl, h2, (T c h1).1, (T c h1).2, lookup_at (by rw [nm]; exact hnd) h3, tyV_lst h4, ?_⟩
    refine he.run _ _ _ _ _ _ tk S (Post.ofS hf S P fun d v Hs' H' _ g1 k1 P1 => ?_)
    obtain ⟨a', c', dx', xs', b', ys', e', h1', h2', nm', h3', nb', h4', r1', up⟩ := (S.grow g1).fldMut hk e1 fo hj e2
    rw [e] at e'
    cases e'
    have eb : b' = b := by
      have z := g1.h.at _ _ h2
      rw [h2'] at z
      cases z
      rw [h3] at h3'
      cases h3'
      rfl
    subst eb
    split at P1
    · rename_i hz
      rw [e1] at P1
      exact ⟨b', ys', v, rfl, rfl, h4', by rw [szL_eq, r1'.length]; exact hz, P1 _ _ _ (up _ _ (r1'.app (.cons k1.rep .nil)))⟩
    · exact P1.elim
end
end VL
end

noncomputable section
namespace VL
open PySem PySem.Spec PyProof.Rows L2
variable {md : Md}

theorem tab_of_sans {H : Hp} {Af : List Addr} {P : Addr} (z : LamX.TabS (sans H Af) P lamQ) : LamX.TabS H P lamQ := z.ext fun b o q => by
  by_cases w : b ∈ Af
  · rw [sans_in w] at q; cases q
  · rw [sans_out w] at q; exact q
def Kd.mutb : Kd → Bool
  | .own _ => true
  | .obj _ _ => true
  | .lls _ _ => true
  | _ => false
def pins (ks : List Kd) (as : List Addr) : List Kd := List.zipWith (fun k a => k.re (some a)) ks as
theorem pins_len {ks : List Kd} {as : List Addr} (h : as.length = ks.length) : (pins ks as).length = ks.length := by
  unfold pins
  rw [List.length_zipWith, h, Nat.min_self]
section
variable {cl : Cl} {N : Addr → Prop} {B Hs H : Hp}
theorem ORep.at1 {k : Kd} {a : Addr} {d : D} {v : V} {A : List Addr} (m : k.mutb = true) (h : ORep cl N B Hs H (k.re (some a)) d v A) : v = .ref a := by
  cases k <;> first | (cases m; done) | skip
  · cases h with
    | ownL h0 _ _ => rw [h0.2 _ rfl]
    | ownK h0 _ _ => rw [h0.2 _ rfl]
  · cases h with
    | obj h0 _ _ _ => rw [h0.2 _ rfl]
  · cases h with
    | lls h0 _ _ => rw [h0.2 _ rfl]
    | llT h0 _ _ => rw [h0.2 _ rfl]
theorem RM.ats : ∀ {ks : List Kd} {as : List Addr} {ds : List D} {vs : List V} {A : List Addr}, ks.all Kd.mutb = true → as.length = ks.length → RM cl N B Hs H (pins ks as) ds vs A → vs = as.map .ref
  | [], [], _, _, _, _, _, .nil => rfl
  | [], _ :: _, _, _, _, _, l, _ => by cases l
  | _ :: _, [], _, _, _, _, l, _ => by cases l
  | k :: ks, a :: as, _, _, _, m, l, .cons o t => by
    rw [List.all_cons, Bool.and_eq_true] at m
    rw [RM.ats m.2 (by simpa using l) t, ORep.at1 m.1 o]
    rfl
end
/-- how a call ends: its result, what was lent -/
def PostM (cl : Cl) (k2 : List Kd) (kr : Kd) (as : List Addr) (Hs H : Hp) (Af : List Addr) (Q : VK) (E : XK) : O → Prop
  | .stuck => False
  | .nx _ => False
  | .rt d es => ∃ dm, es = dm.map some ∧ ∀ v Hs' H' A0 A2, Grow Hs (sans H Af) Hs' H' → ORep cl (fun b => sans H Af b = none) (sans H Af) Hs' H' kr d v A0 → RM cl (fun b => sans H Af b = none) (sans H Af) Hs' H' (pins k2 as) dm (as.map .ref) A2 →
      (A0 ++ A2).Nodup → (∀ b ∈ A0 ++ A2, Hs' b = none ∧ sans H Af b = none) → Q v H'
  | .exc x es => ∃ dm, es = dm.map some ∧ ∀ c dd Hs' H' A2, Grow Hs (sans H Af) Hs' H' → RM cl (fun b => sans H Af b = none) (sans H Af) Hs' H' (pins k2 as) dm (as.map .ref) A2 →
      A2.Nodup → (∀ b ∈ A2, Hs' b = none ∧ sans H Af b = none) → XRep cl Hs' H' x c dd → E c dd H'
/-- a promise with things that are lent (ahead) -/
def spM (cl : Cl) (k1 k2 : List Kd) (bs : List Bool) (kr : Kd) (f : List D → O) : Sp := fun vs H Q E => ∃ (as : List Addr) (ws : List V) (dm ds : List D) (Hs : Hp) (Af : List Addr), vs = as.map .ref ++ ws ∧ as.length = k1.length ∧ Same Hs H ∧
  RM cl (fun b => sans H Af b = none) (sans H Af) Hs H (pins k1 as) dm (as.map .ref) Af ∧ Af.Nodup ∧ (∀ b ∈ Af, Hs b = none) ∧ RAs cl Hs (sans H Af) bs ds ws ∧ PostM cl k2 kr as Hs H Af Q E (f (dm ++ ds))
/-- the first n slots hold values -/
def allS : Sl → Option (List D)
  | [] => some []
  | some d :: r => (allS r).map (d :: ·)
  | none :: _ => none
theorem allS_eq : ∀ {r : Sl} {ds : List D}, allS r = some ds → r = ds.map some
  | [], _, h => by cases h; rfl
  | some d :: r, ds, h => by
    unfold allS at h
    cases q : allS r with
    | none => rw [q] at h; cases h
    | some e =>
      rw [q] at h
      cases h
      rw [allS_eq q]
      rfl
  | none :: _, _, h => by cases h
def outM (n : Nat) : O → O
  | .nx r => if (allS (r.take n)).isSome then .rt .non (r.take n) else .stuck
  | .rt d r => if (allS (r.take n)).isSome then .rt d (r.take n) else .stuck
  | .exc x r => if (allS (r.take n)).isSome then .exc x (r.take n) else .stuck
  | .stuck => .stuck
/-- the plain function of a def with n lent things and k further names -/
@[simp] def runM (m : Sl → O) (n k : Nat) : List D → O := fun ds => outM n (m (ds.map some ++ List.replicate k none))
theorem Slots.cut {E : En} {Hs H : Hp} : ∀ {kf kz : List Kd} {df : List D} {rz : Sl} {t : L2.St} {As : List Addr}, df.length = kf.length → Slots E Hs H (kf ++ kz) (df.map some ++ rz) t As → ∃ uf tz Af Ar, t = uf.map some ++ tz ∧ As = Af ++ Ar ∧ RM E.cl E.N E.b Hs H kf df uf Af
  | [], _, [], _, t, As, _, h => ⟨[], t, [], As, rfl, rfl, .nil⟩
  | k :: kf, _, d :: df, _, _, _, l, h => by
    cases h with
    | cons o t =>
      obtain ⟨uf, tz, Af, Ar, e1, e2, m⟩ := Slots.cut (by simpa using l) t
      exact ⟨_ :: uf, tz, _ ++ Af, Ar, by rw [e1]; rfl, by rw [e2, List.append_assoc], .cons o m⟩
  | [], _, _ :: _, _, _, _, l, _ => by cases l
  | _ :: _, _, [], _, _, _, l, _ => by cases l
section
variable {P : Program} {w : World} {K : PySem.W.Frag} {mg : Str → Option Value} {base : Heap} {cl : Cl} {x qual : Str} {st : Stmt} {fa : Addr} {fd : FuncData} {N ps : List Str} {k : Nat} {bs : List Bool} {kr : Kd} {k1 k2 ls : List Kd} {m : Sl → O}
/-- a def to which things are lent -/
theorem def_okM {ks' : List Addr → List Kd} (F : Fun K x qual st fa fd) (S : FnScope N ps (defScope st)) (hb : k1.length + bs.length = ps.length) (hN : N.length = ps.length + ls.length) (fk : kr.fine = true) (l2 : k2.length = k1.length) (f2 : k2.all Kd.fine = true) (m2 : k2.all Kd.mutb = true)
    (hn : kr = .val ∨ kr = .own none) (hk' : ∀ as, as.length = k1.length → (ks' as).take k1.length = pins k2 as)
    (body : ∀ (as : List Addr), as.length = k1.length → ∀ (cdv : Value) (A : Around) (outer : List Env) (s : Shared) (H : Hp) (E : XK) (h0 s0 b0 : Hp), Room k (A.deeper (envOfC qual (defScope st) s.heap.objs.size fa cdv)) →
      SB (cxOf (CXM P w) P w K mg base N qual (defScope st) fa cdv A outer s H E) ⟨cl, h0, s0, b0⟩ kr (fun ks2 => ks2.take k1.length = pins k2 as) (pins k1 as ++ (bs.map kdOf ++ ls)) (defBody st) m (ks' as)) : FnOk P w K mg base (CXM P w) (k + 1) fa fd ps (spM cl k1 k2 bs kr (runM m k1.length ls.length)) := by
  refine fun_okM F S (fun vs H Q E h => ?_) (fun cdv A outer s H vs Q E hr h => ?_)
  · obtain ⟨as, ws, dm, ds, Hs, Af, rfl, l, _, _, _, _, a, _⟩ := h
    rw [List.length_append, List.length_map, a.len.1, l, hb]
  · obtain ⟨as, ws, dm, ds, Hs, Af, rfl, l, e, rm, nd, dz, a, p⟩ := h
    refine ⟨_, pss_ws, ?_⟩
    have tk : Takes (cxOf (CXM P w) P w K mg base N qual (defScope st) fa cdv A outer s H E) (fun c dd _ H' => E c dd H') := takes_of rfl rfl rfl rfl
    have hst : L2.start N (as.map .ref ++ ws) = (as.map V.ref).map some ++ (ws.map some ++ List.replicate ls.length none) := by
      unfold L2.start
      rw [List.map_append, List.append_assoc, List.length_append, List.length_map, a.len.1, l, hN, ← hb, Nat.add_sub_cancel_left]
    have E0s : Same Hs (sans H Af) := sans_sub e dz
    have S0 : StRel ⟨cl, sans H Af, Hs, sans H Af⟩ Hs H (pins k1 as ++ (bs.map kdOf ++ ls)) ((dm ++ ds).map some ++ List.replicate ls.length none) (L2.start N (as.map .ref ++ ws)) := by
      rw [hst, List.map_append, List.append_assoc]
      have s1 : Slots ⟨cl, sans H Af, Hs, sans H Af⟩ Hs (sans H Af) (bs.map kdOf ++ ls) (ds.map some ++ List.replicate ls.length none) (ws.map some ++ List.replicate ls.length none) [] := slots_start rfl a ls
      have s2 := s1.mono (Same.refl Hs) (H' := H) (by intro a ha; cases ha)
      have j := Slots.join (E := ⟨cl, sans H Af, Hs, sans H Af⟩) rm s2
      rw [List.append_nil] at j
      exact ⟨Af, j, nd, fun a ha => ⟨dz a ha, sans_in ha⟩, Same.refl _, e, sans_same, fun a z => .inl z, fun a z => sans_of z, fun P z => tab_of_sans z⟩
    refine (body as l cdv A outer s H E (sans H Af) Hs (sans H Af) hr).run _ _ _ _ _ _ tk S0 ?_
    unfold runM at p
    have lp : (pins k2 as).length = k1.length := by rw [pins_len (by rw [l, l2]), l2]
    have cutR : ∀ (ks2 : List Kd) (r : Sl), ks2.take k1.length = pins k2 as → ∀ dm', allS (r.take k1.length) = some dm' → r.length = ks2.length → ∃ kz rz, ks2 = pins k2 as ++ kz ∧ r = dm'.map some ++ rz ∧ dm'.length = (pins k2 as).length := by
      intro ks2 r q dm' q2 ql
      have e1 := allS_eq q2
      refine ⟨ks2.drop k1.length, r.drop k1.length, by rw [← q, List.take_append_drop], by rw [← e1, List.take_append_drop], ?_⟩
      have := congrArg List.length e1
      rw [List.length_take, List.length_map] at this
      have h2 := congrArg List.length q
      rw [List.length_take] at h2
      omega
    cases q : m ((dm ++ ds).map some ++ List.replicate ls.length none) with
    | stuck => rw [q] at p; exact p.elim
    | nx r =>
      rw [q] at p
      dsimp only [outM] at p
      split at p
      · rename_i hs
        obtain ⟨dm', hd⟩ := Option.isSome_iff_exists.mp hs
        intro Hs' H' σ' S'
        obtain ⟨dq, eq, p⟩ := p
        have eq2 := allS_eq hd
        rw [eq] at eq2
        have edq : dq = dm' := List.map_inj_right (fun _ _ z => Option.some.inj z) |>.mp eq2
        subst edq
        have f := S'.facts
        obtain ⟨As, s'⟩ := S'
        obtain ⟨kz, rz, rfl', rfl2, ld⟩ := cutR _ r (hk' as l) dq hd s'.sl.len.1
        have sl := s'.sl
        rw [rfl', rfl2] at sl
        obtain ⟨uf, tz, Af', Ar, e1, e2, rm'⟩ := Slots.cut ld sl
        have eu := RM.ats m2 (by rw [l, l2]) rm'
        subst eu
        have ndd := s'.nd
        rw [e2] at ndd
        have dis' : ∀ a ∈ Af', Hs' a = none ∧ sans H Af a = none := fun a ha => s'.dis a (by rw [e2]; exact List.mem_append_left _ ha)
        have g : Grow Hs (sans H Af) Hs' H' := ⟨f.1, f.2.1, f.2.2.1, s'.sub, f.2.2.2⟩
        refine p .non Hs' H' [] Af' g ?_ rm' (by simpa using (List.nodup_append.mp ndd).1) (by simpa using dis')
        rcases hn with rfl | rfl
        · exact .val .non
        · exact .ownV rfl .non
      · exact p.elim
    | rt d r =>
      rw [q] at p
      dsimp only [outM] at p
      split at p
      · rename_i hs
        obtain ⟨dm', hd⟩ := Option.isSome_iff_exists.mp hs
        intro Hs' H' σ' v ks2 fz S'
        obtain ⟨dq, eq, p⟩ := p
        have eq2 := allS_eq hd
        rw [eq] at eq2
        have edq : dq = dm' := List.map_inj_right (fun _ _ z => Option.some.inj z) |>.mp eq2
        subst edq
        have f := S'.facts
        obtain ⟨As, s'⟩ := S'
        have sl0 := s'.sl
        have ndd := s'.nd
        have dis := s'.dis
        have sb := s'.sub
        cases sl0 with
        | cons o sl =>
          rename_i A0 As'
          obtain ⟨kz, rz, rfl', rfl2, ld⟩ := cutR _ r fz dq hd sl.len.1
          rw [rfl', rfl2] at sl
          obtain ⟨uf, tz, Af', Ar, e1, e2, rm'⟩ := Slots.cut ld sl
          have eu := RM.ats m2 (by rw [l, l2]) rm'
          subst eu
          rw [e2] at ndd
          have g : Grow Hs (sans H Af) Hs' H' := ⟨f.1, f.2.1, f.2.2.1, sb, f.2.2.2⟩
          refine p v Hs' H' A0 Af' g (ORep.anyB kr _ _ _ fk o) rm' ?_ fun b hb => ?_
          · rw [← List.append_assoc] at ndd
            exact (List.nodup_append.mp ndd).1
          · refine dis b ?_
            rw [e2]
            rcases List.mem_append.mp hb with z | z
            · exact List.mem_append_left _ z
            · exact List.mem_append_right _ (List.mem_append_left _ z)
      · exact p.elim
    | exc z r =>
      rw [q] at p
      dsimp only [outM] at p
      split at p
      · rename_i hs
        obtain ⟨dm', hd⟩ := Option.isSome_iff_exists.mp hs
        intro Hs' H' σ' c dd ks2 fz S' xr
        obtain ⟨dq, eq, p⟩ := p
        have eq2 := allS_eq hd
        rw [eq] at eq2
        have edq : dq = dm' := List.map_inj_right (fun _ _ z => Option.some.inj z) |>.mp eq2
        subst edq
        have f := S'.facts
        obtain ⟨As, s'⟩ := S'
        have sl := s'.sl
        obtain ⟨kz, rz, rfl', rfl2, ld⟩ := cutR _ r fz dq hd sl.len.1
        rw [rfl', rfl2] at sl
        obtain ⟨uf, tz, Af', Ar, e1, e2, rm'⟩ := Slots.cut ld sl
        have eu := RM.ats m2 (by rw [l, l2]) rm'
        subst eu
        have ndd := s'.nd
        rw [e2] at ndd
        have g : Grow Hs (sans H Af) Hs' H' := ⟨f.1, f.2.1, f.2.2.1, s'.sub, f.2.2.2⟩
        exact p c dd Hs' H' Af' g rm' (List.nodup_append.mp ndd).1 (fun b hb => s'.dis b (by rw [e2]; exact List.mem_append_left _ hb)) xr
      · exact p.elim
/-- __init__: nothing is raised, nothing returned; self has no field yet -/
@[simp] def runIni (m : Sl → O) (k : Nat) : List D → O := fun ds => match m (ds.map some ++ List.replicate k none) with
  | .nx r => (match r with
    | some d :: _ => .rt .non [some d]
    | _ => .stuck)
  | _ => .stuck
theorem def_okI {ks' : Addr → List Kd} {kk : List (Str × Kd)} (F : Fun K x qual st fa fd) (S : FnScope N ps (defScope st)) (hb : 1 + bs.length = ps.length) (hN : N.length = ps.length + ls.length) (hk' : ∀ a, (ks' a).head? = some (.obj (some a) kk))
    (body : ∀ (a : Addr) (cdv : Value) (A : Around) (outer : List Env) (s : Shared) (H : Hp) (E : XK) (h0 s0 b0 : Hp), Room k (A.deeper (envOfC qual (defScope st) s.heap.objs.size fa cdv)) →
      SB (cxOf CX0 P w K mg base N qual (defScope st) fa cdv A outer s H E).nox ⟨cl, h0, s0, b0⟩ .val (fun _ => True) (.obj (some a) [] :: (bs.map kdOf ++ ls)) (defBody st) m (ks' a)) : FnOk P w K mg base CX0 (k + 1) fa fd ps (spM cl [.obj none []] [.obj none kk] bs .val (runIni m ls.length)) := by
  refine F.ok S (fun vs H Q E h => ?_) (fun cdv A outer s H vs Q E hr h => ?_)
  · obtain ⟨as, ws, dm, ds, Hs, Af, rfl, l, _, _, _, _, a, _⟩ := h
    rw [List.length_append, List.length_map, a.len.1, l, ← hb]
    rfl
  · obtain ⟨as, ws, dm, ds, Hs, Af, rfl, l, e, rm, nd, dz, a, p⟩ := h
    obtain ⟨a0, rfl⟩ : ∃ a0, as = [a0] := by
      match as, l with
      | [a0], _ => exact ⟨a0, rfl⟩
    obtain ⟨d0, rfl⟩ : ∃ d0, dm = [d0] := by
      have := rm.len.1
      match dm, this with
      | [d0], _ => exact ⟨d0, rfl⟩
    refine ⟨_, pss_ws, ?_⟩
    have hst : L2.start N ([a0].map .ref ++ ws) = ([a0].map V.ref).map some ++ (ws.map some ++ List.replicate ls.length none) := by
      unfold L2.start
      rw [List.map_append, List.append_assoc, List.length_append, List.length_map, a.len.1, hN, ← hb]
      simp
    have S0 : StRel ⟨cl, sans H Af, Hs, sans H Af⟩ Hs H (.obj (some a0) [] :: (bs.map kdOf ++ ls)) (([d0] ++ ds).map some ++ List.replicate ls.length none) (L2.start N ([a0].map .ref ++ ws)) := by
      rw [hst, List.map_append, List.append_assoc]
      have s1 : Slots ⟨cl, sans H Af, Hs, sans H Af⟩ Hs (sans H Af) (bs.map kdOf ++ ls) (ds.map some ++ List.replicate ls.length none) (ws.map some ++ List.replicate ls.length none) [] := slots_start rfl a ls
      have s2 := s1.mono (Same.refl Hs) (H' := H) (by intro a ha; cases ha)
      have j := Slots.join (E := ⟨cl, sans H Af, Hs, sans H Af⟩) rm s2
      rw [List.append_nil] at j
      exact ⟨Af, j, nd, fun a ha => ⟨dz a ha, sans_in ha⟩, Same.refl _, e, sans_same, fun a z => .inl z, fun a z => sans_of z, fun P z => tab_of_sans z⟩
    refine (body a0 cdv A outer s H E (sans H Af) Hs (sans H Af) hr).run _ _ _ _ (fun _ _ _ _ => False) _ takesF S0 ?_
    unfold runIni at p
    cases q : m (([d0] ++ ds).map some ++ List.replicate ls.length none) with
    | stuck => rw [q] at p; exact p.elim
    | rt d r => rw [q] at p; exact p.elim
    | exc x r => rw [q] at p; exact p.elim
    | nx r =>
      rw [q] at p
      dsimp only at p
      split at p
      · rename_i d r'
        intro Hs' H' σ' S'
        obtain ⟨dq, eq, p⟩ := p
        have edq : dq = [d] := List.map_inj_right (fun _ _ z => Option.some.inj z) |>.mp (eq.symm.trans (show [some d] = [d].map some from rfl))
        subst edq
        have f := S'.facts
        obtain ⟨As, s'⟩ := S'
        have sl := s'.sl
        have hh := hk' a0
        obtain ⟨kz, ek⟩ : ∃ kz, ks' a0 = .obj (some a0) kk :: kz := by
          cases q2 : ks' a0 with
          | nil => rw [q2] at hh; cases hh
          | cons y ys =>
            rw [q2] at hh
            have hh' : some y = some _ := hh
            cases hh'
            exact ⟨ys, rfl⟩
        rw [ek] at sl
        cases sl with
        | cons o t =>
          rename_i v0 Af' t0 Ar
          have ev : v0 = .ref a0 := o.atO
          subst ev
          have ndd := s'.nd
          have dis := s'.dis
          have g : Grow Hs (sans H Af) Hs' H' := ⟨f.1, f.2.1, f.2.2.1, s'.sub, f.2.2.2⟩
          refine p .non Hs' H' [] (Af' ++ []) g (.val .non) (.cons o .nil) (by simpa using (List.nodup_append.mp ndd).1) fun b hb => dis b (List.mem_append_left _ (by simpa using hb))
      · exact p.elim
end
end VL
end

noncomputable section
namespace VL
open PySem PySem.Spec PyProof.Rows L2
variable {md : Md}

section
variable {E : En} {Hs H Hs' H' : Hp} {ks : List Kd} {r : Sl} {σ : L2.St} {i : Nat} {k ka kb : Kd} {d da db : D} {va vb : V}
theorem StRel.swap (S : StRel E Hs H (ka :: kb :: ks) (some da :: some db :: r) (some va :: some vb :: σ)) : StRel E Hs H (kb :: ka :: ks) (some db :: some da :: r) (some vb :: some va :: σ) := by
  obtain ⟨As, S⟩ := S
  have sl := S.sl
  cases sl with
  | cons o t =>
    cases t with
    | cons o2 t2 =>
      rename_i A A2 Ar
      have p : (A2 ++ (A ++ Ar)).Perm (A ++ (A2 ++ Ar)) := by
        rw [← List.append_assoc, ← List.append_assoc]
        exact List.Perm.append_right _ List.perm_append_comm
      exact ⟨_, .cons o2 (.cons o t2), p.nodup_iff.mpr S.nd, fun a ha => S.dis a (p.mem_iff.mp ha), S.es, S.sub, S.eb, S.new, S.dom, S.tb⟩
/-- slot i's value is lent; it comes back, with a result or without -/
theorem StRel.chgV (S : StRel E Hs H ks r σ) (hk : ks[i]? = some k) (hd : r[i]? = some (some d)) (fk : k.fine = true) :
    ∃ v Af, σ[i]? = some (some v) ∧ ORep E.cl (fun a => sans H Af a = none) (sans H Af) Hs H k d v Af ∧ Af.Nodup ∧ (∀ a ∈ Af, Hs a = none) ∧
      ∀ (Hs' H' : Hp) (k2 : Kd) (d2 : D) (A2 : List Addr), k2.fine = true → Grow Hs (sans H Af) Hs' H' → ORep E.cl (fun a => sans H Af a = none) (sans H Af) Hs' H' k2 d2 v A2 → A2.Nodup → (∀ a ∈ A2, Hs' a = none ∧ sans H Af a = none) →
        StRel E Hs' H' (ks.set i k2) (r.set i (some d2)) σ ∧
        ∀ (k0 : Kd) (d0 : D) (v0 : V) (A0 : List Addr), k0.fine = true → ORep E.cl (fun a => sans H Af a = none) (sans H Af) Hs' H' k0 d0 v0 A0 → (A0 ++ A2).Nodup → (∀ a ∈ A0, Hs' a = none ∧ sans H Af a = none) →
          StRel E Hs' H' (k0 :: ks.set i k2) (some d0 :: r.set i (some d2)) (some v0 :: σ) := by
  obtain ⟨v, ev, S1⟩ := S.take hk hd
  obtain ⟨Af, m, nd, dz, back⟩ := StRel.lend (kf := [k]) (df := [d]) (uf := [v]) (r := r.set i none) S1 rfl rfl (by simp [fk])
  refine ⟨v, Af, ev, ?_, nd, dz, fun Hs' H' k2 d2 A2 fk2 g o nd2 di2 => ?_⟩
  · cases m with
    | cons o t =>
      cases t
      rw [List.append_nil]
      rw [List.append_nil] at o
      exact o
  · have w := back Hs' H' [k2] [d2] [v] A2 (by simp [fk2]) g (by
      have w := RM.cons o (.nil (cl := E.cl) (N := fun a => sans H Af a = none) (B := sans H Af) (Hs := Hs') (H := H'))
      rw [List.append_nil] at w
      exact w) nd2 di2
    refine ⟨?_, fun k0 d0 v0 A0 f0 o0 nd0 di0 => ?_⟩
    · have q := StRel.settle (ks := ks) (r := r.set i none) (σ := σ) w.1 hk
      rw [List.set_set] at q
      rw [set_self ev] at q
      exact q
    · have z := StRel.swap (w.2 k0 d0 v0 A0 f0 o0 nd0 di0)
      have q := StRel.settle (ks := k0 :: ks) (r := some d0 :: r.set i none) (σ := some v0 :: σ) (i := i + 1) z (by simpa using hk)
      rw [List.set_cons_succ, List.set_cons_succ, List.set_cons_succ, List.set_set, set_self ev] at q
      exact q
end
theorem RAs.ofReps {cl : Cl} {Hs H : Hp} : ∀ {n : Nat} {ds : List D} {vs : List V}, RepL cl Hs ds vs → ds.length = n → RAs cl Hs H (List.replicate n true) ds vs
  | 0, [], _, r, _ => by cases r; exact .nil
  | n + 1, d :: ds, _, r, h => by
    cases r with
    | cons r1 r2 =>
      rw [List.replicate_succ]
      exact .val r1 (RAs.ofReps r2 (by simpa using h))
  | 0, _ :: _, _, _, h => by cases h
  | _ + 1, [], _, _, h => by cases h

def PostX (E : En) (ks' : List Kd) (k : Kd) (fin : List Kd → Prop) (W : WX) (σ : L2.St) (Q : VK) : O → Prop
  | .rt d r => ∀ v Hs' H', StRel E Hs' H' (k :: ks') (some d :: r) (some v :: σ) → Q v H'
  | .exc x r => ∀ Hs' H' c dd ks2, fin ks2 → StRel E Hs' H' ks2 r σ → XRep E.cl Hs' H' x c dd → W c dd σ H'
  | _ => False
/-- an expression that changes slots -/
structure SX [md : Md] (X : Cx) (E : En) (fin : List Kd → Prop) (ks : List Kd) (k : Kd) (e : Expr) (g : Sl → O) (ks' : List Kd) : Prop where
  run : ∀ (Hs H : Hp) (r : Sl) (σ : L2.St) (W : WX) (Q : VK), Takes X W → StRel E Hs H ks r σ → PostX E ks' k fin W σ Q (g r) → WEx X e σ H Q
@[simp] def onX (o : O) (k : D → Sl → O) : O := match o with
  | .rt d r => k d r
  | .exc x r => .exc x r
  | _ => .stuck
@[simp] def mExprX (g : Sl → O) : Sl → O := fun r => onX (g r) fun _ r' => .nx r'
section
variable {X : Cx} {E : En} {fin : List Kd → Prop} {kr : Kd} {ks ks' : List Kd} {i : Nat} {k k0 : Kd} {x : Str} {e : Expr} {g : Sl → O} {pos pos' : Pos}
theorem ss_exprX (he : SX X E fin ks k e g ks') (hs : swapsWith e none pos.line X.env = pure false := by rfl) : SS X E kr fin ks (.Expr e pos) (mExprX g) ks' := by
  refine ⟨fun Hs H r σ W Dn tk S P => ?_⟩
  refine ws_of (ps_expr pe_we hs) ?_
  refine he.run _ _ _ _ _ _ tk S ?_
  unfold mExprX at P
  cases q : g r with
  | rt d r' => rw [q] at P; exact fun v Hs' H' S' => P Hs' H' σ S'.pop
  | exc y r' => rw [q] at P; exact fun Hs' H' c dd ks2 f S' xr => P Hs' H' σ c dd ks2 f S' xr
  | nx r' => rw [q] at P; exact P.elim
  | stuck => rw [q] at P; exact P.elim
end
section
variable {X : Cx} {CX : CXT} {k : Nat} {f C : Addr} {fd : FuncData} {ps : List Str} {sp : Sp} {E : L2.St → XK} {x m : Str} {p pos apos : Pos} {e o : Expr} {es : List Expr} {ta : TE} {t : TA}
def tMethS (C : Addr) (m : Str) (sp : Sp) (E : L2.St → XK) (ta : TE) (t : TA) : TE := fun σ H Q => ta σ H fun x H1 => ∃ a dx fs, x = .ref a ∧ H1 a = some (.ins C dx fs) ∧ fs.lookup m = none ∧ t σ H1 fun vs H2 => sp (x :: vs) H2 Q (E σ)
theorem pe_mS {pl : Sem Bool} (he : PE X o ta) (c : Cls X.K C) (hm : Meth X.K C m f) (F : FnOk X.prog X.w X.K X.mg X.base CX k f fd ps sp) (hr : Room k X.A) (hb : Binds X.K fd ps []) (hx : ∀ σ, PassesAt CX X σ (E σ)) (ha : PA X (e :: es) t)
    (hst : starEach (e :: es) X.env = (false, eval e X.env) :: starEach es X.env := by rfl) (hpl : (backTo pos (starEach es X.env)).any (·.1) = false := by rfl)
    (ht : eval (.Call (.Attribute o m apos) (e :: es) [] pos) X.env = (do
      let ov ← eval o X.env
      standAt apos.atName
      let (f, first) ← holding [ov] (getMethod ov m pl)
      callWith pos f first (backTo pos (starEach (e :: es) X.env)) (backToKw pos (keywordEach [] X.env))) := by rfl) :
    PE X (.Call (.Attribute o m apos) (e :: es) [] pos) (tMethS C m sp E ta t) := by
  refine ⟨fun pins s σ H Q I h => ?_⟩
  refine PySem.W.methodCall_KW (pl := pl) (thn (he.run pins s σ H _ I h) fun u s1 ⟨x, H1, I1, rx, a, dx, fs, ex, ea, l, q⟩ => ?_) ht
  subst ex
  obtain rfl : u = Value.ref a := rx
  refine getmeth_ok I1 ea c hm l ?_
  refine PySem.W.callWith_K (first := [.ref a]) (h₀ := X.base) I.ok.mod.kin hm.kp (thn (ha.run pos pins s1 σ H1 _ I1 q) fun us s2 ⟨vs, H2, I2, r, q2⟩ => ⟨I2.kIn, ?_⟩) hst hpl
  exact run_fnS (us := .ref a :: us) (vs := .ref a :: vs) F hr hb (hx σ) I2 (.cons rfl r) q2
theorem pe_mS0 {pl : Sem Bool} (he : PE X o ta) (c : Cls X.K C) (hm : Meth X.K C m f) (F : FnOk X.prog X.w X.K X.mg X.base CX k f fd ps sp) (hr : Room k X.A) (hb : Binds X.K fd ps []) (hx : ∀ σ, PassesAt CX X σ (E σ))
    (ht : eval (.Call (.Attribute o m apos) [] [] pos) X.env = (do
      let ov ← eval o X.env
      standAt apos.atName
      let (f, first) ← holding [ov] (getMethod ov m pl)
      callWith pos f first (backTo pos (starEach [] X.env)) (backToKw pos (keywordEach [] X.env))) := by rfl) :
    PE X (.Call (.Attribute o m apos) [] [] pos) (tMethS C m sp E ta fun σ H Q => Q [] H) := by
  refine ⟨fun pins s σ H Q I h => ?_⟩
  refine PySem.W.methodCall_KW (pl := pl) (thn (he.run pins s σ H _ I h) fun u s1 ⟨x, H1, I1, rx, a, dx, fs, ex, ea, l, q⟩ => ?_) ht
  subst ex
  obtain rfl : u = Value.ref a := rx
  refine getmeth_ok I1 ea c hm l ?_
  exact PySem.W.callWith_K0 (first := [.ref a]) I1.kIn hm.kp (run_fnS (us := [.ref a]) (vs := [.ref a]) F hr hb (hx σ) I1 (.cons rfl .nil) q)
end
structure FiM [md : Md] (P : Program) (w : World) (K : PySem.W.Frag) (mg : Str → Option Value) (base : Heap) (cl : Cl) (C m : Str) (k : Nat) (k1 k2 : List (Str × Kd)) (nb : Nat) (kr : Kd) (f : List D → O) : Prop where
  ex : ∃ fa fd ps, (∀ c, cl.o C = some c → Cls K c ∧ Meth K c m fa) ∧ FnOk P w K mg base (CXM P w) k fa fd ps (spM cl [.obj none k1] [.obj none k2] (List.replicate nb true) kr f) ∧ Binds K fd ps []
@[simp] def mMeth (C : Str) (i : Nat) (f : List D → O) (t : Sl → R (List D)) : Sl → O := fun r => match r[i]? with
  | some (some (.obj C' fs)) => if C' = C then (match t r with
    | .ok ds => (match f (.obj C fs :: ds) with
      | .rt d [some d'] => .rt d (r.set i (some d'))
      | .exc x [some d'] => .exc x (r.set i (some d'))
      | _ => .stuck)
    | .exc x => .exc x r
    | .stuck => .stuck) else .stuck
  | _ => .stuck
section
variable {X : Cx} {E : En} {fin : List Kd → Prop} {kr : Kd} {ks ks' : List Kd} {i : Nat} {n : Option Addr} {k : Nat} {k1 k2 : List (Str × Kd)} {nb : Nat} {x C m : Str} {e : Expr} {es : List Expr} {f : List D → O} {t : Sl → R (List D)} {p1 apos pos : Pos}
/-- behind the arguments: the method's promise -/
theorem meth_call {Hs H : Hp} {r : Sl} {σ : L2.St} {W : WX} {Q : VK} {fs : List (Str × D)} {ds : List D} {vs : List V} (S : StRel E Hs H ks r σ) (hk : ks[i]? = some (.obj n k1)) (hd : r[i]? = some (some (.obj C fs))) (f1 : (Kd.obj n k1).fine = true) (f2 : (Kd.obj n k2).fine = true) (fr : kr.fine = true) (hf : fin (ks.set i (.obj n k2)))
    (a : RAs E.cl Hs H (List.replicate nb true) ds vs) {a0 : Addr} (ea : σ[i]? = some (some (.ref a0)))
    (P : PostX E (ks.set i (.obj n k2)) kr fin W σ Q (match f (.obj C fs :: ds) with
      | .rt d [some d'] => .rt d (r.set i (some d'))
      | .exc x [some d'] => .exc x (r.set i (some d'))
      | _ => .stuck)) : spM E.cl [.obj none k1] [.obj none k2] (List.replicate nb true) kr f (.ref a0 :: vs) H Q (WE W σ) := by
  obtain ⟨v, Af, ev, o, nd, dz, back⟩ := S.chgV hk hd f1
  rw [ea] at ev
  cases ev
  obtain ⟨b, eb, op, hn⟩ := o.pinO
  cases eb
  refine ⟨[a0], vs, [.obj C fs], ds, Hs, Af, rfl, rfl, S.sub, ?_, nd, dz, RAs.ofReps a.reps (by simpa using a.len.2), ?_⟩
  · have z := RM.cons op (.nil (cl := E.cl) (N := fun b => sans H Af b = none) (B := sans H Af) (Hs := Hs) (H := H))
    rw [List.append_nil] at z
    exact z
  · show PostM E.cl _ kr [a0] Hs H Af Q (WE W σ) (f (.obj C fs :: ds))
    cases q : f (.obj C fs :: ds) with
    | stuck => rw [q] at P; exact P.elim
    | nx r' => rw [q] at P; exact P.elim
    | rt d es =>
      rw [q] at P
      match es, P with
      | [some d'], P =>
        refine ⟨[d'], rfl, fun v Hs' H' A0 A2 g o0 rm nd2 di2 => ?_⟩
        cases rm with
        | cons o2 t2 =>
          cases t2
          rw [List.append_nil] at nd2 di2
          have ou := o2.unpinO (n := n) hn
          exact P v Hs' H' ((back Hs' H' (.obj n k2) d' _ f2 g ou (List.nodup_append.mp nd2).2.1 fun b hb => di2 b (List.mem_append_right _ hb)).2 kr d v A0 fr o0 nd2 fun b hb => di2 b (List.mem_append_left _ hb))
      | [], P => exact P.elim
      | [none], P => exact P.elim
      | none :: _ :: _, P => exact P.elim
      | some _ :: _ :: _, P => exact P.elim
    | exc y es =>
      rw [q] at P
      match es, P with
      | [some d'], P =>
        refine ⟨[d'], rfl, fun c dd Hs' H' A2 g rm nd2 di2 xr => ?_⟩
        cases rm with
        | cons o2 t2 =>
          cases t2
          rw [List.append_nil] at nd2 di2
          have ou := o2.unpinO (n := n) hn
          exact P Hs' H' c dd _ hf (back Hs' H' (.obj n k2) d' _ f2 g ou nd2 di2).1 xr
      | [], P => exact P.elim
      | [none], P => exact P.elim
      | none :: _ :: _, P => exact P.elim
      | some _ :: _ :: _, P => exact P.elim
/-- x.m(e, ..) -/
theorem sx_meth (F : FiM X.prog X.w X.K X.mg X.base E.cl C m k k1 k2 nb kr f) (hr : Room k X.A) (ha : SA X E ks (List.replicate nb true) (e :: es) t) (hq : NmOk x) (hno : m ∉ k1.map (·.1)) (hf0 : fin ks := by trivial) (hk : ks[i]? = some (.obj n k1) := by rfl)
    (h2 : ks.set i (.obj n k2) = ks' := by rfl) (hf : fin ks' := by trivial) (f1 : (Kd.obj n k1).fine = true := by rfl) (f2 : (Kd.obj n k2).fine = true := by rfl) (fr : kr.fine = true := by rfl) (hN : X.N[i]? = some x := by rfl) (hv : Vis X.env.scope x := by first | exact Or.inl rfl | exact Or.inr (Or.inl rfl) | exact Or.inr (Or.inr rfl)) {pl : Sem Bool}
    (hst : starEach (e :: es) X.env = (false, eval e X.env) :: starEach es X.env := by rfl) (hpl : (backTo pos (starEach es X.env)).any (·.1) = false := by rfl)
    (ht : eval (.Call (.Attribute (.Name x p1) m apos) (e :: es) [] pos) X.env = (do
      let ov ← eval (.Name x p1) X.env
      standAt apos.atName
      let (f, first) ← holding [ov] (getMethod ov m pl)
      callWith pos f first (backTo pos (starEach (e :: es) X.env)) (backToKw pos (keywordEach [] X.env))) := by rfl) :
    SX X E fin ks kr (.Call (.Attribute (.Name x p1) m apos) (e :: es) [] pos) (mMeth C i f t) ks' := by
  subst h2
  refine ⟨fun Hs H r σ W Q tk S P => ?_⟩
  obtain ⟨fa, fd, ps, F1, F2, F3⟩ := F.ex
  unfold mMeth at P
  split at P
  · rename_i C' fs hd
    split at P
    · rename_i hc
      subst hc
      obtain ⟨a, c, dx, xs, As, ea, hc, h1, h3⟩ := S.objAt hk hd
      obtain ⟨M1, M2⟩ := F1 c hc
      refine we_of (pe_mS (pe_var hN hv hq.1 hq.2) M1 M2 F2 hr F3 (fun σ => passAt tk σ) pa_wa hst hpl ht) ?_
      refine ⟨.ref a, ea, a, dx, xs, rfl, h1, lookup_out (by rw [h3.names.1]; exact hno), ?_⟩
      refine ha.run _ _ _ _ _ _ tk S ?_
      cases q : t r with
      | stuck => rw [q] at P; exact P.elim
      | exc y => rw [q] at P; exact fun c dd Hs' H' g xr => P Hs' H' c dd ks hf0 (S.grow g) xr
      | ok ds =>
        rw [q] at P
        exact fun vs Hs' H' g aa => meth_call (S.grow g) hk hd f1 f2 fr hf aa ea P
    · exact P.elim
  · exact P.elim
/-- x.m() -/
theorem sx_meth0 (F : FiM X.prog X.w X.K X.mg X.base E.cl C m k k1 k2 0 kr f) (hr : Room k X.A) (hq : NmOk x) (hno : m ∉ k1.map (·.1)) (hk : ks[i]? = some (.obj n k1) := by rfl)
    (h2 : ks.set i (.obj n k2) = ks' := by rfl) (hf : fin ks' := by trivial) (f1 : (Kd.obj n k1).fine = true := by rfl) (f2 : (Kd.obj n k2).fine = true := by rfl) (fr : kr.fine = true := by rfl) (hN : X.N[i]? = some x := by rfl) (hv : Vis X.env.scope x := by first | exact Or.inl rfl | exact Or.inr (Or.inl rfl) | exact Or.inr (Or.inr rfl)) {pl : Sem Bool}
    (ht : eval (.Call (.Attribute (.Name x p1) m apos) [] [] pos) X.env = (do
      let ov ← eval (.Name x p1) X.env
      standAt apos.atName
      let (f, first) ← holding [ov] (getMethod ov m pl)
      callWith pos f first (backTo pos (starEach [] X.env)) (backToKw pos (keywordEach [] X.env))) := by rfl) :
    SX X E fin ks kr (.Call (.Attribute (.Name x p1) m apos) [] [] pos) (mMeth C i f gNil) ks' := by
  subst h2
  refine ⟨fun Hs H r σ W Q tk S P => ?_⟩
  obtain ⟨fa, fd, ps, F1, F2, F3⟩ := F.ex
  unfold mMeth at P
  split at P
  · rename_i C' fs hd
    split at P
    · rename_i hc
      subst hc
      obtain ⟨a, c, dx, xs, As, ea, hc, h1, h3⟩ := S.objAt hk hd
      obtain ⟨M1, M2⟩ := F1 c hc
      refine we_of (pe_mS0 (pe_var hN hv hq.1 hq.2) M1 M2 F2 hr F3 (fun σ => passAt tk σ) ht) ?_
      refine ⟨.ref a, ea, a, dx, xs, rfl, h1, lookup_out (by rw [h3.names.1]; exact hno), ?_⟩
      exact meth_call S hk hd f1 f2 fr hf .nil ea P
    · exact P.elim
  · exact P.elim
end
structure MkM (P : Program) (w : World) (K : PySem.W.Frag) (mg : Str → Option Value) (base : Heap) (cl : Cl) (C : Str) (k : Nat) (kk : List (Str × Kd)) (nb : Nat) (f : List D → O) : Prop where
  ex : ∃ c fI fd ps, cl.o C = some c ∧ mg C = some (.ref c) ∧ Mk K c fI ∧ FnOk P w K mg base CX0 k fI fd ps (spM cl [.obj none []] [.obj none kk] (List.replicate nb true) .val f) ∧ Binds K fd ps []
@[simp] def dMake (C : Str) (f : List D → O) (ds : List D) : R D := match f (.obj C [] :: ds) with
  | .rt .non [some d] => .ok d
  | _ => .stuck
section
variable {X : Cx} {E : En} {ks : List Kd} {k nb : Nat} {kk : List (Str × Kd)} {C : Str} {f : List D → O} {t : Sl → R (List D)} {e : Expr} {es : List Expr} {p pos : Pos}
theorem made {Hs H : Hp} {Q : VK} {W : WX0} {ds : List D} {vs : List V} {c x dx : Addr} (e : Same Hs H) (hc : E.cl.o C = some c) (fk : (Kd.obj none kk).fine = true) (a : RAs E.cl Hs H (List.replicate nb true) ds vs) (nx : H x = none) (ndx : H dx = none) (ne : dx ≠ x)
    (P : Post E.cl (.obj none kk) Hs H Q W (dMake C f ds)) : spM E.cl [.obj none []] [.obj none kk] (List.replicate nb true) .val f (.ref x :: vs) (upd (upd H dx (.own x)) x (.ins c dx [])) (fun v H2 => v = .non ∧ Q (.ref x) H2) E0 := by
  have s1 : Same H (upd H dx (.own x)) := Same.updNew ndx
  have nx' : upd H dx (.own x) x = none := by rw [upd_ne ne.symm]; exact nx
  have s2 : Same H (upd (upd H dx (.own x)) x (.ins c dx [])) := s1.trans (Same.updNew nx')
  have dz : ∀ b ∈ [x], Hs b = none := fun b hb => by
    simp at hb
    subst hb
    exact e.free nx
  have back : ∀ b, sans (upd (upd H dx (.own x)) x (.ins c dx [])) [x] b = none → H b = none := fun b z => by
    rcases sans_none z with w | w
    · simp at w
      subst w
      exact nx
    · exact s2.free w
  refine ⟨[x], vs, [.obj C []], ds, Hs, [x], rfl, rfl, e.trans s2, ?_, by simp, dz, RAs.ofReps a.reps (by simpa using a.len.2), ?_⟩
  · have o : ORep E.cl (fun b => sans (upd (upd H dx (.own x)) x (.ins c dx [])) [x] b = none) (sans (upd (upd H dx (.own x)) x (.ins c dx [])) [x]) Hs (upd (upd H dx (.own x)) x (.ins c dx [])) (.obj (some x) []) (.obj C []) (.ref x) [x] :=
      .obj ⟨sans_in (by simp), fun b z => (Option.some.inj z).symm⟩ hc upd_same .nil
    exact .cons o .nil
  · show PostM E.cl _ .val [x] Hs _ [x] _ E0 (f (.obj C [] :: ds))
    unfold dMake at P
    cases q : f (.obj C [] :: ds) with
    | stuck => rw [q] at P; exact P.elim
    | nx r' => rw [q] at P; exact P.elim
    | exc y es => rw [q] at P; exact P.elim
    | rt d es =>
      rw [q] at P
      split at P
      · rename_i d1 e1
        cases e1
        refine ⟨[d1], rfl, fun v Hs' H' A0 A2 g o0 rm nd2 di2 => ?_⟩
        have ev : v = .non := by
          cases o0 with
          | val r => cases r; rfl
        refine ⟨ev, ?_⟩
        cases rm with
        | cons o2 t2 =>
          cases t2
          rw [List.append_nil] at nd2 di2
          have nd3 := (List.nodup_append.mp nd2).2.1
          refine P (.ref x) Hs' H' ⟨g.s, ?_, fun b z => ?_, g.sub, fun R z => ?_⟩ ⟨_, ORep.renew _ _ _ _ fk (fun b hb => back b (di2 b (List.mem_append_right _ hb)).2) (o2.unpinO (fun b z => nomatch z)), nd3, fun b hb => ?_⟩
          · exact ((sans_sub (A := [x]) s2 fun b hb => by simp at hb; subst hb; exact nx)).trans g.h
          · rcases g.n b z with w | w
            · exact .inl w
            · exact .inr (back b w)
          · refine g.t R (z.ext fun b u q => ?_)
            have hb1 : b ≠ x := ne_of_none q nx
            have hb2 : b ≠ dx := ne_of_none q ndx
            rw [sans_out fun w => by simp at w; exact hb1 w, upd_ne hb1, upd_ne hb2]
            exact q
          · have z := di2 b (List.mem_append_right _ hb)
            exact ⟨z.1, back b z.2⟩
      · exact P.elim
/-- C(e, ..) -/
theorem se_make (M : MkM X.prog X.w X.K X.mg X.base E.cl C k kk nb f) (hr : Room (k + 1) X.A) (ha : SA X E ks (List.replicate nb true) (e :: es) t) (hq : NmOk C) (fk : (Kd.obj none kk).fine = true := by rfl) (hg : Gl X C := by rfl)
    (he : starEach (e :: es) X.env = (false, eval e X.env) :: starEach es X.env := by rfl) (hpl : (backTo pos (starEach es X.env)).any (·.1) = false := by rfl) : SE X E ks (.obj none kk) (.Call (.Name C p) (e :: es) [] pos) (gCall (dMake C f) t) := by
  refine ⟨fun Hs H r σ W Q tk S P => ?_⟩
  obtain ⟨c, fI, fd, ps, h1, h2, h3, h4, h5⟩ := M.ex
  refine we_of (pe_make h3 h4 hr hg h2 h5 .nil pass0 pa_wa hq.1 he hpl) ?_
  refine ha.run _ _ _ _ _ _ tk S (PostA.of P fun ds vs Hs' H' e1 g1 a P1 => ?_)
  intro x dx nx ndx ne
  rw [List.append_nil]
  exact made g1.sub h1 fk a nx ndx ne P1
/-- C() -/
theorem se_make0 (M : MkM X.prog X.w X.K X.mg X.base E.cl C k kk 0 f) (hr : Room (k + 1) X.A) (hq : NmOk C) (fk : (Kd.obj none kk).fine = true := by rfl) (hg : Gl X C := by rfl) : SE X E ks (.obj none kk) (.Call (.Name C p) [] [] pos) (gCall (dMake C f) gNil) := by
  refine ⟨fun Hs H r σ W Q tk S P => ?_⟩
  obtain ⟨c, fI, fd, ps, h1, h2, h3, h4, h5⟩ := M.ex
  refine we_of (pe_make0 h3 h4 hr hg h2 h5 .nil pass0 hq.1) ?_
  intro x dx nx ndx ne
  exact made S.sub h1 fk .nil nx ndx ne P
end
end VL
end

noncomputable section
namespace VL
open PySem PySem.Spec PyProof.Rows L2
variable {md : Md}

@[simp] def outFO : O → R D
  | .rt d _ => .ok d
  | .exc x _ => .exc x
  | _ => .stuck
@[simp] def runFO (m : Sl → O) (n : Nat) : List D → R D := fun ds => outFO (m (ds.map some ++ List.replicate n none))
/-- a def that returns an object -/
theorem def_okO {P : Program} {w : World} {K : PySem.W.Frag} {mg : Str → Option Value} {base : Heap} {cl : Cl} {x qual : Str} {st : Stmt} {fa : Addr} {fd : FuncData} {N ps : List Str} {k : Nat} {bs : List Bool} {kr : Kd} {ls ks' : List Kd} {m : Sl → O}
    (F : Fun K x qual st fa fd) (S : FnScope N ps (defScope st)) (gm : mg x = some (.ref fa)) (bn : Binds K fd ps []) (hb : bs.length = ps.length) (hN : N.length = ps.length + ls.length) (fk : kr.fine = true)
    (body : ∀ (cdv : Value) (A : Around) (outer : List Env) (s : Shared) (H : Hp) (E : XK) (h0 s0 b0 : Hp), Room k (A.deeper (envOfC qual (defScope st) s.heap.objs.size fa cdv)) →
      SB (cxOf (CXM P w) P w K mg base N qual (defScope st) fa cdv A outer s H E) ⟨cl, h0, s0, b0⟩ kr (fun _ => True) (bs.map kdOf ++ ls) (defBody st) m ks') : Fi P w K mg base cl x (k + 1) bs kr (runFO m ls.length) := by
  refine ⟨fa, fd, ps, ?_, gm, F.kp, bn⟩
  refine fun_okM F S (fun vs H Q E h => ?_) (fun cdv A outer s H vs Q E hr h => ?_)
  · obtain ⟨ds, Hs, _, a, _⟩ := h
    rw [a.len.1, hb]
  · obtain ⟨ds, Hs, e, a, p⟩ := h
    refine ⟨_, pss_ws, ?_⟩
    have tk : Takes (cxOf (CXM P w) P w K mg base N qual (defScope st) fa cdv A outer s H E) (fun c dd _ H' => E c dd H') := takes_of rfl rfl rfl rfl
    have hst : L2.start N vs = vs.map some ++ List.replicate ls.length none := by
      unfold L2.start
      rw [a.len.1, hb, hN, Nat.add_sub_cancel_left]
    have S0 : StRel ⟨cl, H, Hs, H⟩ Hs H (bs.map kdOf ++ ls) (ds.map some ++ List.replicate ls.length none) (L2.start N vs) := by
      rw [hst]
      exact ⟨[], slots_start rfl a ls, List.nodup_nil, (fun a ha => nomatch ha), Same.refl _, e, Same.refl _, fun a z => .inl z, fun a z => z, fun _ z => z⟩
    refine (body cdv A outer s H E H Hs H hr).run _ _ _ _ _ _ tk S0 ?_
    unfold runFO at p
    cases q : m (ds.map some ++ List.replicate ls.length none) with
    | stuck => rw [q] at p; exact p
    | nx r => rw [q] at p; exact p.elim
    | rt d r =>
      rw [q] at p
      intro Hs' H' σ' v ks2 _ S'
      have f := S'.facts
      refine p v Hs' H' ⟨f.1, f.2.1, f.2.2.1, S'.sub, f.2.2.2⟩ ?_
      obtain ⟨As, s'⟩ := S'
      have sl := s'.sl
      cases sl with
      | cons o t =>
        rename_i A As'
        refine ⟨A, ORep.anyB kr _ _ _ fk o, (List.nodup_append.mp s'.nd).1, fun a ha => ?_⟩
        have z := s'.dis a (List.mem_append_left _ ha)
        exact ⟨z.1, z.2⟩
    | exc z r =>
      rw [q] at p
      intro Hs' H' σ' c dd ks2 _ S' xr
      have f := S'.facts
      exact p c dd Hs' H' ⟨f.1, f.2.1, f.2.2.1, S'.sub, f.2.2.2⟩ xr
/-- a method: self is lent -/
theorem def_okS {P : Program} {w : World} {K : PySem.W.Frag} {mg : Str → Option Value} {base : Heap} {cl : Cl} {C x qual : Str} {st : Stmt} {fa : Addr} {fd : FuncData} {N ps : List Str} {k nb : Nat} {kr : Kd} {k1 k2 : List (Str × Kd)} {ls : List Kd} {m : Sl → O} {ks' : Addr → List Kd}
    (F : Fun K x qual st fa fd) (S : FnScope N ps (defScope st)) (bn : Binds K fd ps []) (M : ∀ c, cl.o C = some c → Cls K c ∧ Meth K c x fa) (hb : 1 + nb = ps.length) (hN : N.length = ps.length + ls.length) (fk : kr.fine = true) (f2 : (Kd.obj none k2).fine = true)
    (hn : kr = .val ∨ kr = .own none) (hk' : ∀ a, (ks' a).take 1 = [.obj (some a) k2])
    (body : ∀ (a : Addr) (cdv : Value) (A : Around) (outer : List Env) (s : Shared) (H : Hp) (E : XK) (h0 s0 b0 : Hp), Room k (A.deeper (envOfC qual (defScope st) s.heap.objs.size fa cdv)) →
      SB (cxOf (CXM P w) P w K mg base N qual (defScope st) fa cdv A outer s H E) ⟨cl, h0, s0, b0⟩ kr (fun ks2 => ks2.take 1 = [.obj (some a) k2]) (.obj (some a) k1 :: ((List.replicate nb true).map kdOf ++ ls)) (defBody st) m (ks' a)) : FiM P w K mg base cl C x (k + 1) k1 k2 nb kr (runM m 1 ls.length) := by
  refine ⟨fa, fd, ps, M, def_okM (k1 := [.obj none k1]) (k2 := [.obj none k2]) (ks' := fun as => ks' (as.headD 0)) F S (by simpa using hb) hN fk rfl (by simp [f2]) rfl hn (fun as l => ?_) (fun as l => ?_), bn⟩
  · match as, l with
    | [a], _ => exact hk' a
  · match as, l with
    | [a], _ => exact body a
end VL
end

noncomputable section
namespace VL
open PySem PySem.Spec PyProof.Rows L2
variable {md : Md}

section
variable {X : Cx} {E : En} {kr : Kd} {fin : List Kd → Prop} {ks ks' : List Kd} {e : Expr} {g : Sl → R D} {pos : Pos}
end
end VL
end

noncomputable section
namespace VL
open PySem PySem.Spec PyProof.Rows L2
variable {md : Md}

@[simp] def dDix : D → D → R D
  | .dct kvs, kd => match keyOf kd with
    | some k => match valD kvs k with
      | some d => .ok d
      | none => .stuck
    | none => .stuck
  | _, _ => .stuck
theorem RepK.at_ {cl : Cl} {H : Hp} (k : Key) : ∀ {ds : List (Key × D)} {xs : List (Key × V)} {d : D}, RepK cl H ds xs → valD ds k = some d → ∃ v, valV xs k = some v ∧ Rep cl H d v
  | [], _, _, h, e => by cases e
  | (k0, d0) :: _, _, _, h, e => by
    cases h with
    | cons h1 h2 =>
      by_cases c : k0 = k
      · rw [valD_pos c] at e
        cases e
        rw [valV_pos c]
        exact ⟨_, rfl, h1⟩
      · rw [valD_neg c] at e
        rw [valV_neg c]
        exact RepK.at_ k h2 e
theorem RepK.none_ {cl : Cl} {H : Hp} (k : Key) : ∀ {ds : List (Key × D)} {xs : List (Key × V)}, RepK cl H ds xs → ((valV xs k).isSome = (valD ds k).isSome)
  | [], _, h => by cases h; rfl
  | (k0, d0) :: _, _, h => by
    cases h with
    | cons h1 h2 =>
      by_cases c : k0 = k
      · rw [valD_pos c, valV_pos c]; rfl
      · rw [valD_neg c, valV_neg c]; exact RepK.none_ k h2
section
variable {X : Cx} {E : En} {ks : List Kd} {a b : Expr} {ga gb : Sl → R D} {pos : Pos}
theorem se_dix (hu : X.A.units + 65 < cLine) (ha : SE X E ks .bor a ga) (hb : SE X E ks .bor b gb) (hs : NoSl b := by intro _ _; rfl) : SE X E ks .val (.Subscript a b pos) (gBin dDix ga gb) := by
  refine ⟨fun Hs H r σ W Q tk S P => ?_⟩
  refine we_of (pe_dget (by omega) pe_we pe_we hs) ?_
  refine ha.run _ _ _ _ _ _ tk S (P.imp fun d1 v1 Hs1 H1 e1 g1 k1 P1 => ?_)
  refine hb.run _ _ _ _ _ _ tk (S.grow g1) (P1.imp fun d2 v2 Hs2 H2 e2 g2 k2 P2 => ?_)
  cases d1 <;> first | exact P2.elim | skip
  rename_i kvs
  dsimp only [dDix] at P2
  split at P2
  · rename_i k qk
    have ev := keyOf_rb k2.rb qk
    subst ev
    split at P2
    · rename_i d qd
      obtain ⟨p, xs, rfl, h1, r1⟩ := (k1.rb.grow g2).dctInv g2.sub
      obtain ⟨v, ev, rv⟩ := r1.at_ k qd
      refine ⟨p, v, rfl, ?_, P2.finV g2.sub rv⟩
      rw [← ev]
      exact .inl ⟨_, _, h1, rfl, rfl⟩
    · exact P2.elim
  · exact P2.elim
/-- k in d, k not in d -/
@[simp] def dDin : D → D → R D
  | kd, .dct kvs => match keyOf kd with
    | some k => .ok (.bl (valD kvs k).isSome)
    | none => .stuck
  | _, _ => .stuck
@[simp] def dDout : D → D → R D
  | kd, .dct kvs => match keyOf kd with
    | some k => .ok (.bl (!(valD kvs k).isSome))
    | none => .stuck
  | _, _ => .stuck
theorem din_read (hu : X.A.units + 65 < cLine) {f : Bool → Bool} {fd : D → D → R D} (hfd : ∀ kd d, fd kd d = match d with
      | .dct kvs => (match keyOf kd with
        | some k => .ok (.bl (f (valD kvs k).isSome))
        | none => .stuck)
      | _ => .stuck) (ha : SE X E ks .bor a ga) (hb : SE X E ks .bor b gb) {Hs H : Hp} {r : Sl} {σ : L2.St} {W : WX} {Q : VK} (tk : Takes X W) (S : StRel E Hs H ks r σ)
    (P : Post E.cl .val Hs H Q (fun c dd H' => W c dd σ H') (gBin fd ga gb r)) : WEx X a σ H fun y H1 => WEx X b σ H1 fun x H2 => ∃ a o, x = .ref a ∧ DGet H2 a y o ∧ Q (.bl (f o.isSome)) H2 := by
  refine ha.run _ _ _ _ _ _ tk S (P.imp fun d1 v1 Hs1 H1 e1 g1 k1 P1 => ?_)
  refine hb.run _ _ _ _ _ _ tk (S.grow g1) (P1.imp fun d2 v2 Hs2 H2 e2 g2 k2 P2 => ?_)
  rw [hfd] at P2
  cases d2 <;> first | exact P2.elim | skip
  rename_i kvs
  dsimp only at P2
  split at P2
  · rename_i k qk
    have ev := keyOf_rb k1.rb qk
    subst ev
    obtain ⟨p, xs, rfl, h1, r1⟩ := k2.rb.dctInv g2.sub
    refine ⟨p, _, rfl, .inl ⟨_, _, h1, rfl, rfl⟩, ?_⟩
    rw [r1.none_ k]
    exact P2.finV g2.sub (.bl _)
  · exact P2.elim
theorem dDin_eq (kd d : D) : dDin kd d = match d with
      | .dct kvs => (match keyOf kd with
        | some k => .ok (.bl (id (valD kvs k).isSome))
        | none => .stuck)
      | _ => .stuck := by cases d <;> first | rfl | (cases kd <;> rfl)
theorem dDout_eq (kd d : D) : dDout kd d = match d with
      | .dct kvs => (match keyOf kd with
        | some k => .ok (.bl (not (valD kvs k).isSome))
        | none => .stuck)
      | _ => .stuck := by cases d <;> first | rfl | (cases kd <;> rfl)
theorem PostT.ofB {cl : Cl} {Hs H : Hp} {Q : Bool → Hp → Prop} {W : WX0} {x : R D} (P : PostT cl Hs H Q W (x >>= asB)) : Post cl .val Hs H (fun v H' => ∃ k, v = .bl k ∧ Q k H') W x := by
  cases x with
  | stuck => exact P
  | exc z => exact P
  | ok d =>
    intro v Hs' H' g rk
    cases d <;> first | exact P.elim | skip
    have rp := rk.rep
    cases rp
    exact ⟨_, rfl, P Hs' H' g⟩
theorem st_din (hu : X.A.units + 65 < cLine) (ha : SE X E ks .bor a ga) (hb : SE X E ks .bor b gb) (hm : behindInMarks .In b = false := by rfl) : ST X E ks (.Compare a [.In] [b] pos) (gTest (gBin dDin ga gb)) :=
  ⟨fun Hs H r σ W Q tk S P => wt_of (pt_cmp (pc_din (by omega) pe_we pe_we) hm) (din_read hu (f := id) dDin_eq ha hb tk S (PostT.ofB P))⟩
theorem st_dout (hu : X.A.units + 65 < cLine) (ha : SE X E ks .bor a ga) (hb : SE X E ks .bor b gb) (hm : behindInMarks .NotIn b = false := by rfl) : ST X E ks (.Compare a [.NotIn] [b] pos) (gTest (gBin dDout ga gb)) :=
  ⟨fun Hs H r σ W Q tk S P => wt_of (pt_cmp (pc_dnotin (by omega) pe_we pe_we) hm) (din_read hu (f := not) dDout_eq ha hb tk S (PostT.ofB P))⟩
end

theorem RepL.last {cl : Cl} {H : Hp} {ds : List D} {xs : List V} {d : D} (r : RepL cl H ds xs) (h : ds.getLast? = some d) : ∃ v, xs[xs.length - 1]? = some v ∧ Rep cl H d v := by
  rw [List.getLast?_eq_getElem?] at h
  rw [r.length]
  exact r.get h
section
variable {X : Cx} {E : En} {fin : List Kd → Prop} {kr : Kd} {ks ks' : List Kd} {i : Nat} {n : Option Addr} {x : Str} {e b : Expr} {g : Sl → R D} {m : Sl → O} {p1 p2 p3 pos : Pos}
end
end VL
end

noncomputable section
namespace VL
open PySem PySem.Spec PyProof.Rows L2
variable {md : Md}

section
variable {cl : Cl} {k : Kd} {Hs H Hs' H' H0 : Hp}
theorem RK.growA {d : D} {v : V} {A : List Addr} (fk : k.fine = true) (g : Grow Hs H Hs' H') (o : ORep cl (fun a => H0 a = none) H Hs H k d v A) (z : ∀ a ∈ A, Hs a = none ∧ H0 a = none) :
    ORep cl (fun a => H0 a = none) H' Hs' H' k d v A ∧ ∀ a ∈ A, Hs' a = none ∧ H0 a = none := by
  have hr := ORep.here _ _ _ _ o
  have e : ∀ a ∈ A, H' a = H a := fun a ha => by
    obtain ⟨u, e1, e2⟩ := hr a ha
    rw [e1, g.h.at a u e1 e2]
  refine ⟨ORep.anyB _ _ _ _ fk (ORep.mono (B' := H) g.s (Same.refl _) (fun _ q => q) _ _ _ _ e o), fun a ha => ⟨?_, (z a ha).2⟩⟩
  obtain ⟨u, e1, e2⟩ := hr a ha
  cases q : Hs' a with
  | none => rfl
  | some w =>
    rcases g.n a (by rw [q]; simp) with y | y
    · exact absurd (z a ha).1 y
    · rw [e1] at y; cases y
theorem RK.grow {d : D} {v : V} (fk : k.fine = true) (g : Grow Hs H Hs' H') (h : RK cl k H0 Hs H d v) : RK cl k H0 Hs' H' d v := by
  obtain ⟨A, o, nd, z⟩ := h
  obtain ⟨o2, z2⟩ := RK.growA fk g o z
  exact ⟨A, o2, nd, z2⟩
def RLs (cl : Cl) (k : Kd) (H0 Hs H : Hp) (ds : List D) (vs : List V) : Prop := ∃ As, OLs cl (fun a => H0 a = none) H Hs H k ds vs As ∧ As.Nodup ∧ ∀ a ∈ As, Hs a = none ∧ H0 a = none
theorem OLs.anyB {N : Addr → Prop} {B B' : Hp} (fk : k.fine = true) {ds : List D} {xs : List V} {As : List Addr} (h : OLs cl N B Hs H k ds xs As) : OLs cl N B' Hs H k ds xs As :=
  OLs.imp (fun _ => True) (fun _ _ _ => trivial) (fun _ _ _ => trivial) (fun d v A _ o => ORep.anyB k d v A fk o) trivial h
theorem OLs.keep {N : Addr → Prop} {B : Hp} {ds : List D} {xs : List V} {As : List Addr} (s : Same Hs Hs') (e : ∀ a ∈ As, H' a = H a) (h : OLs cl N B Hs H k ds xs As) : OLs cl N B Hs' H' k ds xs As :=
  OLs.imp (fun A => ∀ a ∈ A, H' a = H a) (fun _ _ t a ha => t a (List.mem_append_left _ ha)) (fun _ _ t a ha => t a (List.mem_append_right _ ha)) (fun d v A t o => ORep.mono s (Same.refl _) (fun _ q => q) k d v A t o) e h
theorem OLs.here {N : Addr → Prop} {B : Hp} {ds : List D} {xs : List V} {As : List Addr} (h : OLs cl N B Hs H k ds xs As) : ∀ a ∈ As, ∃ o, H a = some o ∧ NT o := OLs.all (fun d v A o => ORep.here k d v A o) h
theorem OLs.newN {N N' : Addr → Prop} {B B' : Hp} (fk : k.fine = true) {ds : List D} {xs : List V} {As : List Addr} (h : OLs cl N B Hs H k ds xs As) (z : ∀ a ∈ As, N' a) : OLs cl N' B' Hs H k ds xs As :=
  OLs.imp (fun A => ∀ a ∈ A, N' a) (fun _ _ t a ha => t a (List.mem_append_left _ ha)) (fun _ _ t a ha => t a (List.mem_append_right _ ha)) (fun d v A t o => ORep.renew k d v A fk t o) z h
theorem OLs.pos : ∀ {N : Addr → Prop} {B : Hp} {ds : List D} {xs : List V} {As : List Addr} (j : Nat) {d : D}, OLs cl N B Hs H k ds xs As → ds[j]? = some d →
    ∃ pre A post v, As = pre ++ (A ++ post) ∧ xs[j]? = some v ∧ ORep cl N B Hs H k d v A ∧
      ∀ Hs' H', Same Hs Hs' → (∀ a ∈ pre ++ post, H' a = H a) → ∀ d' v' A', ORep cl N B Hs' H' k d' v' A' → OLs cl N B Hs' H' k (ds.set j d') (xs.set j v') (pre ++ (A' ++ post))
  | _, _, _, _, _, j, _, .nil, e => by simp at e
  | _, _, _, _, _, 0, _, .cons (A := A) (As := As) o t, e => by
    simp at e
    subst e
    exact ⟨[], A, As, _, rfl, rfl, o, fun Hs' H' s q d' v' A' o' => .cons (A := A') (As := As) o' (OLs.keep s (fun a ha => q a ha) t)⟩
  | _, _, _, _, _, j + 1, _, .cons (A := A0) o t, e => by
    obtain ⟨pre, A, post, v, e1, e2, e3, e4⟩ := OLs.pos j t (by simpa using e)
    refine ⟨A0 ++ pre, A, post, v, by rw [e1, List.append_assoc], by simpa using e2, e3, fun Hs' H' s q d' v' A' o' => ?_⟩
    rw [List.append_assoc]
    exact .cons (ORep.mono s (Same.refl _) (fun _ z => z) _ _ _ _ (fun a ha => q a (List.mem_append_left _ (List.mem_append_left _ ha))) o)
      (e4 Hs' H' s (fun a ha => q a (by
        rcases List.mem_append.mp ha with z | z
        · exact List.mem_append_left _ (List.mem_append_right _ z)
        · exact List.mem_append_right _ z)) d' v' A' o')
theorem RLs.grow {ds : List D} {vs : List V} (fk : k.fine = true) (g : Grow Hs H Hs' H') (h : RLs cl k H0 Hs H ds vs) : RLs cl k H0 Hs' H' ds vs := by
  obtain ⟨A, o, nd, z⟩ := h
  have hr := o.here
  have e : ∀ a ∈ A, H' a = H a := fun a ha => by
    obtain ⟨u, e1, e2⟩ := hr a ha
    rw [e1, g.h.at a u e1 e2]
  refine ⟨A, (OLs.keep g.s e o).anyB fk, nd, fun a ha => ⟨?_, (z a ha).2⟩⟩
  obtain ⟨u, e1, e2⟩ := hr a ha
  cases q : Hs' a with
  | none => rfl
  | some w =>
    rcases g.n a (by rw [q]; simp) with y | y
    · exact absurd (z a ha).1 y
    · rw [e1] at y; cases y
def PostL (cl : Cl) (k : Kd) (Hs H : Hp) (Q : List V → Hp → Prop) (W : WX0) : R (List D) → Prop
  | .stuck => False
  | .exc x => ∀ c dd Hs' H', Grow Hs H Hs' H' → XRep cl Hs' H' x c dd → W c dd H'
  | .ok ds => ∀ vs Hs' H', Grow Hs H Hs' H' → RLs cl k H Hs' H' ds vs → Q vs H'
end
structure SLO [md : Md] (X : Cx) (E : En) (ks : List Kd) (k : Kd) (es : List Expr) (g : Sl → R (List D)) : Prop where
  run : ∀ (Hs H : Hp) (r : Sl) (σ : L2.St) (W : WX) (Q : List V → Hp → Prop), Takes X W → StRel E Hs H ks r σ → PostL E.cl k Hs H Q (fun c dd H' => W c dd σ H') (g r) → WAx X es σ H Q
section
variable {X : Cx} {E : En} {ks : List Kd} {k : Kd} {e : Expr} {es : List Expr} {g : Sl → R D} {t : Sl → R (List D)} {pos : Pos}
theorem so_nil : SLO X E ks k [] gNil := ⟨fun Hs H r σ W Q tk S P => wa_of pa_nil (P [] Hs H (Grow.refl S.sub) ⟨[], .nil, List.nodup_nil, fun a ha => nomatch ha⟩)⟩
theorem so_cons (he : SE X E ks k e g) (ht : SLO X E ks k es t) (fk : k.fine = true := by rfl) (hs : starEach (e :: es) X.env = (false, eval e X.env) :: starEach es X.env := by rfl) : SLO X E ks k (e :: es) (gCons g t) := by
  refine ⟨fun Hs H r σ W Q tk S P => ?_⟩
  refine wa_of (pa_cons pe_we pa_wa hs) ?_
  refine he.run _ _ _ _ _ _ tk S ?_
  unfold gCons at P
  cases q : g r with
  | stuck => rw [q] at P; exact P
  | exc x => rw [q] at P; exact P
  | ok d =>
    rw [q] at P
    intro v Hs1 H1 g1 k1
    refine ht.run _ _ _ _ _ _ tk (S.grow g1) ?_
    cases q2 : t r with
    | stuck => rw [q2] at P; exact P
    | exc x => rw [q2] at P; exact fun c dd Hs2 H2 g2 xr => P c dd Hs2 H2 (g1.trans g2) xr
    | ok ds =>
      rw [q2] at P
      intro vs Hs2 H2 g2 a2
      refine P _ Hs2 H2 (g1.trans g2) ?_
      obtain ⟨A, o1, nd, z1⟩ := k1
      obtain ⟨o, z⟩ := RK.growA fk g2 o1 z1
      obtain ⟨As, os, nds, zs⟩ := a2
      refine ⟨A ++ As, .cons o (os.newN fk fun a ha => g1.h.free (zs a ha).2), List.nodup_append.mpr ⟨nd, nds, fun a ha b hb w => ?_⟩, fun a ha => ?_⟩
      · obtain ⟨u, hu, nt⟩ := ORep.here _ _ _ _ o1 a ha
        rw [w, (zs b hb).2] at hu
        cases hu
      · rcases List.mem_append.mp ha with w | w
        · exact z a w
        · exact ⟨(zs a w).1, g1.h.free (zs a w).2⟩
/-- [e, ..], its items one's own -/
theorem se_lls (h : SLO X E ks k es t) (fk : k.fine = true := by rfl) : SE X E ks (.lls none k) (.List es pos) (gLst t) := by
  refine ⟨fun Hs H r σ W Q tk S P => ?_⟩
  refine we_of (pe_lst pa_wa) ?_
  refine h.run _ _ _ _ _ _ tk S ?_
  unfold gLst at P
  cases q : t r with
  | stuck => rw [q] at P; exact P
  | exc x => rw [q] at P; exact P
  | ok ds =>
    rw [q] at P
    intro vs Hs1 H1 g1 a1
    by_cases hz : ds.length ≤ szL
    · have P1 : Post E.cl (.lls none k) Hs H Q (fun c dd H' => W c dd σ H') (.ok (.lst ds)) := by
        have e : ((R.ok ds >>= fun ds => if ds.length ≤ szL then R.ok (D.lst ds) else .stuck) : R D) = .ok (.lst ds) := if_pos hz
        rw [← e]; exact P
      obtain ⟨As, os, nds, zs⟩ := a1
      refine ⟨by rw [szL_eq, os.length]; exact hz, fun p hp => ?_⟩
      have g2 := Grow.fresh (o := .lst vs) g1.sub hp
      have ne : ∀ a ∈ As, a ≠ p := fun a ha w => by
        obtain ⟨u, hu, _⟩ := os.here a ha
        rw [w, hp] at hu
        cases hu
      refine P1 (.ref p) Hs1 _ (g1.trans g2) ⟨p :: As, .lls ⟨g1.h.free hp, fun _ z => nomatch z⟩ upd_same ((OLs.keep (Same.refl _) (fun a ha => upd_ne (ne a ha)) os).anyB fk), List.nodup_cons.mpr ⟨fun w => ne p w rfl, nds⟩, fun a ha => ?_⟩
      rcases List.mem_cons.mp ha with w | w
      · rw [w]; exact ⟨g1.sub.free hp, g1.h.free hp⟩
      · exact zs a w
    · have e : ((R.ok ds >>= fun ds => if ds.length ≤ szL then R.ok (D.lst ds) else .stuck) : R D) = .stuck := if_neg hz
      have P2 : Post E.cl (.lls none k) Hs H Q (fun c dd H' => W c dd σ H') ((R.ok ds >>= fun ds => if ds.length ≤ szL then R.ok (D.lst ds) else .stuck) : R D) := P
      rw [e] at P2
      exact P2.elim
end

section
variable {X : Cx} {E : En} {Hs H : Hp} {ks : List Kd} {r : Sl} {σ : L2.St} {i : Nat} {k : Kd}
/-- item j of an own list of own lists is changed where it lies -/
theorem StRel.lmut {n m : Option Addr} {ds : List D} (S : StRel E Hs H ks r σ) (hk : ks[i]? = some (.lls n (.own m))) (hd : r[i]? = some (some (.lst ds))) :
    ∃ a xs, σ[i]? = some (some (.ref a)) ∧ H a = some (.lst xs) ∧ xs.length = ds.length ∧ ∀ j es, ds[j]? = some (.lst es) → ∃ b ys, xs[j]? = some (.ref b) ∧ a ≠ b ∧ H b = some (.lst ys) ∧ RepL E.cl Hs es ys ∧
      ∀ es' ys', RepL E.cl Hs es' ys' → StRel E Hs (upd H b (.lst ys')) ks (r.set i (some (.lst (ds.set j (.lst es'))))) σ := by
  obtain ⟨u, Af, eu, o, nd, dz, sub, back⟩ := S.chg hk hd rfl
  cases o with
  | llV h0 h1 => cases h0
  | lls h0 h1 h2 =>
    rename_i a xs As
    refine ⟨a, xs, eu, h1, h2.length, fun j es he => ?_⟩
    obtain ⟨pre, A, post, v1, e1, e3, e4, e5⟩ := OLs.pos j h2 he
    cases e4 with
    | ownV q0 q1 => cases q0
    | ownL q0 q1 q2 =>
      rename_i b ys
      subst e1
      have nc := List.nodup_cons.mp nd
      have nb : a ≠ b := fun w => nc.1 (by rw [w]; simp)
      have hin : b ∈ a :: (pre ++ ([b] ++ post)) := by simp
      refine ⟨b, ys, e3, nb, q1, q2, fun es' ys' rp => ?_⟩
      have np : ∀ x ∈ pre ++ post, x ≠ b := fun x hx w => by
        have q := List.nodup_append.mp nc.2
        rcases List.mem_append.mp hx with z | z
        · exact q.2.2 x z b (by simp) w
        · have q' := List.nodup_append.mp q.2.1
          exact q'.2.2 b (by simp) x z w.symm
      have of' := e5 Hs (upd H b (.lst ys')) (Same.refl _) (fun x hx => upd_ne (np x hx)) (.lst es') (.ref b) [b] (.ownL q0 upd_same rp)
      rw [set_self e3] at of'
      have z := back Hs (upd H b (.lst ys')) (.lls n (.own m)) (.lst (ds.set j (.lst es'))) (a :: (pre ++ ([b] ++ post))) rfl (Grow.inside sub hin dz) (.lls h0 ((upd_ne nb).trans h1) of') nd fun x hx => ⟨dz x hx, sans_in hx⟩
      rw [set_self hk] at z
      exact z
end
section
variable {X : Cx} {E : En} {kr : Kd} {fin : List Kd → Prop} {ks : List Kd} {i j : Nat} {n m : Option Addr} {x y : Str} {e : Expr} {g : Sl → R D} {pos p1 p2 p3 p4 p5 p6 : Pos}
end
end VL
end

noncomputable section
namespace VL
open PySem PySem.Spec PyProof.Rows L2
variable {md : Md}

section
variable {X : Cx}
end
end VL
end

noncomputable section
namespace VL
open PySem PySem.Spec PyProof.Rows L2
variable {md : Md}

@[simp] def fLenD : List D → R D
  | [.dct kvs] => .ok (.int (kvs.length : Nat))
  | _ => .stuck
section
variable {X : Cx} {E : En} {ks : List Kd} {e o : Expr} {g go : Sl → R D} {pos p apos cpos : Pos} {es : List Expr} {t : Sl → R (List D)}
end
section
variable {X : Cx} {E : En} {ks : List Kd} {e o : Expr} {g go : Sl → R D} {pos p apos cpos : Pos} {es : List Expr} {t : Sl → R (List D)}
theorem callv_lenD : CallV X.K (fun xs H Q => ∃ a kvs, xs = [V.ref a] ∧ Rd H a (.dK kvs) ∧ Q (.int kvs.length) H) .val [false] fLenD := by
  intro cl Hs H ds vs Q W e a P
  obtain ⟨d, v, rfl, rfl, r⟩ := a.one
  cases d <;> first | exact P.elim | skip
  rename_i kvs
  obtain ⟨p, xs, rfl, h1, r1⟩ := r.dctInv e
  refine ⟨p, xs, rfl, h1, ?_⟩
  rw [r1.len]
  exact P.finV e (.int _)
theorem sf_LenD (B : Bl X.mg) (ha : SA X E ks [false] (e :: es) t) (hg : Gl X "len" := by rfl) (he : starEach (e :: es) X.env = (false, eval e X.env) :: starEach es X.env := by rfl) (hpl : (backTo pos (starEach es X.env)).any (·.1) = false := by rfl) : SE X E ks (.val) (.Call (.Name "len" p) (e :: es) [] pos) (gCall fLenD t) :=
  se_callB call_lenR callv_lenD B.len bb_len ha hg bn_len bd_len he hpl
end
end VL
end

noncomputable section
namespace VL
open PySem PySem.Spec PyProof.Rows L2
variable {md : Md}

open Classical in
def sw (a : Addr) (u o : HO) (f : Hp) : Hp := fun b => if b = a ∧ f b = some u then some o else f b
section
variable {a : Addr} {u o : HO} {f g : Hp}
theorem sw_at (h : f a = some u) : sw a u o f a = some o := by unfold sw; rw [if_pos ⟨rfl, h⟩]
theorem sw_ne {b : Addr} (h : b ≠ a) : sw a u o f b = f b := by unfold sw; rw [if_neg fun z => h z.1]
theorem sw_no {b : Addr} (h : f b ≠ some u) : sw a u o f b = f b := by unfold sw; rw [if_neg fun z => h z.2]
theorem sw_none {b : Addr} : sw a u o f b = none ↔ f b = none := by
  unfold sw
  split
  · rename_i z
    rw [z.2]
    exact ⟨fun w => (nomatch w), fun w => (nomatch w)⟩
  · exact Iff.rfl
theorem sw_keep {b : Addr} {y : HO} (h : f b = some y) (n : y ≠ u) : sw a u o f b = some y := by
  rw [sw_no fun z => n (by rw [h] at z; exact Option.some.inj z)]
  exact h
theorem Same.sw (nt : NT u) (e : Same f g) : Same (sw a u o f) (sw a u o g) := ⟨fun b y q n => by
  by_cases c : b = a ∧ f b = some u
  · obtain ⟨rfl, c⟩ := c
    rw [sw_at c] at q
    rw [sw_at (e.at _ _ c nt)]
    exact q
  · have q2 : f b = some y := by
      unfold VL.sw at q
      rw [if_neg c] at q
      exact q
    have g2 : g b = some y := e.k b y q2 (n.imp id fun z => sw_none.mp z)
    by_cases d : b = a
    · subst d
      exact sw_keep g2 fun z => c ⟨rfl, by rw [q2, z]⟩
    · rw [sw_ne d]; exact g2⟩
theorem tab_sw {P : Addr} (nt : NT u) (nc : ∀ c q, u ≠ LamX.CodeO c q) (z : LamX.TabS f P lamQ) : LamX.TabS (VL.sw a u o f) P lamQ := by
  obtain ⟨ps, h1, h2, h3⟩ := z
  refine ⟨ps, sw_keep h1 fun w => nt ps w.symm, h2, fun pos cv hc => ?_⟩
  obtain ⟨c, e1, e2⟩ := h3 pos cv hc
  exact ⟨c, e1, sw_keep e2 fun w => nc c lamQ w.symm⟩
end
/-- open, locked -/
inductive Two (xs : List (Key × V)) : HO → HO → Prop
  | lock {od : Obj} : Two xs (.dK xs) (.frz od (.dK xs))
  | open_ {od : Obj} : Two xs (.frz od (.dK xs)) (.dK xs)
section
variable {a : Addr} {u o : HO} {xs : List (Key × V)} {cl : Cl} {H Hs B : Hp}
theorem Two.ntU (t : Two xs u o) : NT u := by cases t <;> (intro _ z; cases z)
theorem Two.nc (t : Two xs u o) : ∀ c q, u ≠ LamX.CodeO c q := by
  cases t <;> (intro _ _ z; unfold LamX.CodeO at z; cases z)
theorem Two.ne (t : Two xs u o) : u ≠ o := by cases t <;> (intro z; cases z)
theorem Two.lst (t : Two xs u o) (ys : List V) : HO.lst ys ≠ u := by cases t <;> (intro z; cases z)
theorem Two.tup (t : Two xs u o) (ys : List V) : HO.tup ys ≠ u := by cases t <;> (intro z; cases z)
theorem Two.ins (t : Two xs u o) (c dx : Addr) (ys : List (Str × V)) : HO.ins c dx ys ≠ u := by cases t <;> (intro z; cases z)
theorem Two.xd (t : Two xs u o) (ys : List (Str × V)) : HO.xd ys ≠ u := by cases t <;> (intro z; cases z)
theorem Two.rd (t : Two xs u o) {p : Addr} {ys : List (Key × V)} (h : Rd H p (.dK ys)) : Rd (sw a u o H) p (.dK ys) := by
  by_cases c : p = a ∧ H p = some u
  · obtain ⟨rfl, c⟩ := c
    have e := sw_at (o := o) c
    cases t with
    | lock =>
      rename_i od
      rcases h with h | ⟨o2, h⟩
      · rw [c] at h; cases h; exact .inr ⟨od, e⟩
      · rw [c] at h; cases h
    | open_ =>
      rcases h with h | ⟨o2, h⟩
      · rw [c] at h; cases h
      · rw [c] at h; cases h; exact .inl e
  · have e : sw a u o H p = H p := by unfold sw; rw [if_neg c]
    unfold Rd
    rw [e]
    exact h
theorem Two.seq (t : Two xs u o) {K : PySem.W.Frag} {p : Addr} {ys : List V} (h : SqL K H p ys) : SqL K (sw a u o H) p ys := by
  rcases h with (h | ⟨o2, h⟩) | h
  · exact .inl (.inl (sw_keep h (t.lst _)))
  · exact .inl (.inr ⟨o2, sw_keep h (by cases t <;> (intro z; cases z))⟩)
  · exact .inr h
mutual
theorem Rep.sw (t : Two xs u o) : ∀ (d : D) (v : V), Rep cl H d v → Rep cl (sw a u o H) d v
  | .non, _, h => by cases h; exact .non
  | .bl b, _, h => by cases h; exact .bl b
  | .int i, _, h => by cases h; exact .int i
  | .str x, _, h => by cases h; exact .str x
  | .lst ds, _, h => by
    cases h with
    | lst h1 h2 => exact .lst (sw_keep h1 (t.lst _)) (RepL.sw t ds _ h2)
  | .tup ds, _, h => by
    cases h with
    | tup h1 h2 => exact .tup (sw_keep h1 (t.tup _)) (RepL.sw t ds _ h2)
  | .dct ds, _, h => by
    cases h with
    | dct h1 h2 => exact .dct (t.rd h1) (RepK.sw t ds _ h2)
  | .obj C ds, _, h => by
    cases h with
    | obj h0 h1 h2 => exact .obj h0 (sw_keep h1 (t.ins _ _ _)) (RepF.sw t ds _ h2)
  | .scr ns, _, h => by
    cases h with
    | scr h1 => exact .scr (t.seq h1)
theorem RepL.sw (t : Two xs u o) : ∀ (ds : List D) (vs : List V), RepL cl H ds vs → RepL cl (sw a u o H) ds vs
  | [], _, h => by cases h; exact .nil
  | d :: ds, _, h => by
    cases h with
    | cons h1 h2 => exact .cons (Rep.sw t d _ h1) (RepL.sw t ds _ h2)
theorem RepK.sw (t : Two xs u o) : ∀ (ds : List (Key × D)) (vs : List (Key × V)), RepK cl H ds vs → RepK cl (sw a u o H) ds vs
  | [], _, h => by cases h; exact .nil
  | (k, d) :: ds, _, h => by
    cases h with
    | cons h1 h2 => exact .cons (Rep.sw t d _ h1) (RepK.sw t ds _ h2)
theorem RepF.sw (t : Two xs u o) : ∀ (ds : List (Str × D)) (vs : List (Str × V)), RepF cl H ds vs → RepF cl (sw a u o H) ds vs
  | [], _, h => by cases h; exact .nil
  | (k, d) :: ds, _, h => by
    cases h with
    | cons h1 h2 => exact .cons (Rep.sw t d _ h1) (RepF.sw t ds _ h2)
end
mutual
theorem RB.sw (t : Two xs u o) : ∀ {d : D} {v : V}, RB cl Hs B d v → RB cl (sw a u o Hs) (sw a u o B) d v
  | _, _, .val r => .val (Rep.sw t _ _ r)
  | _, _, .lst h1 h2 => .lst (sw_keep h1 (t.lst _)) (RepL.sw t _ _ h2)
  | _, _, .dct h1 h2 => .dct (t.rd h1) (RepK.sw t _ _ h2)
  | _, _, .obj h0 h1 h2 => .obj h0 (sw_keep h1 (t.ins _ _ _)) (RBF.sw t h2)
theorem RBF.sw (t : Two xs u o) : ∀ {ds : List (Str × D)} {vs : List (Str × V)}, RBF cl Hs B ds vs → RBF cl (sw a u o Hs) (sw a u o B) ds vs
  | _, _, .nil => .nil
  | _, _, .cons x y => .cons (RB.sw t x) (RBF.sw t y)
end
variable {N : Addr → Prop}
mutual
theorem ORep.sw (t : Two xs u o) : ∀ (k : Kd) (d : D) (v : V) (A : List Addr), (∀ b ∈ A, b ≠ a) → ORep cl N B Hs H k d v A → ORep cl N (sw a u o B) (sw a u o Hs) (sw a u o H) k d v A
  | .val, d, v, _, _, h => by
    cases h with
    | val h1 => exact .val (Rep.sw t _ _ h1)
  | .bor, d, v, _, _, h => by
    cases h with
    | borV h1 => exact .borV (Rep.sw t _ _ h1)
    | borL h1 h2 => exact .borL (sw_keep h1 (t.lst _)) (RepL.sw t _ _ h2)
    | borK h1 h2 => exact .borK (t.rd h1) (RepK.sw t _ _ h2)
    | borO h0 h1 h2 => exact .borO h0 (sw_keep h1 (t.ins _ _ _)) (RBF.sw t h2)
  | .own n, d, v, _, k, h => by
    cases h with
    | ownL h0 h1 h2 => exact .ownL h0 (sw_keep h1 (t.lst _)) (RepL.sw t _ _ h2)
    | ownK h0 h1 h2 => exact .ownK h0 (by rw [sw_ne (k _ List.mem_cons_self)]; exact h1) (RepK.sw t _ _ h2)
    | ownV h0 h1 => exact .ownV h0 (Rep.sw t _ _ h1)
  | .obj n ks, d, v, _, k, h => by
    cases h with
    | obj h0 h1 h2 h3 => exact .obj h0 h1 (sw_keep h2 (t.ins _ _ _)) (OFs.sw t ks _ _ _ (fun b hb => k b (List.mem_cons_of_mem _ hb)) h3)
  | .adr p, d, v, _, _, h => by
    cases h with
    | adr => exact .adr
  | .lls n kd, d, v, _, k, h => by
    cases h with
    | lls h0 h1 h2 => exact .lls h0 (sw_keep h1 (t.lst _)) (OLs.imp (fun A => ∀ b ∈ A, b ≠ a) (fun _ _ t b hb => t b (List.mem_append_left _ hb)) (fun _ _ t b hb => t b (List.mem_append_right _ hb)) (fun d v A q r => ORep.sw t kd d v A q r) (fun b hb => k b (List.mem_cons_of_mem _ hb)) h2)
    | llT h0 h1 h2 => exact .llT h0 (sw_keep h1 (t.tup _)) (OLs.imp (fun A => ∀ b ∈ A, b ≠ a) (fun _ _ t b hb => t b (List.mem_append_left _ hb)) (fun _ _ t b hb => t b (List.mem_append_right _ hb)) (fun d v A q r => ORep.sw t kd d v A q r) (fun b hb => k b (List.mem_cons_of_mem _ hb)) h2)
    | llV h0 h1 => exact .llV h0 (Rep.sw t _ _ h1)
theorem OFs.sw (t : Two xs u o) : ∀ (ks : List (Str × Kd)) (ds : List (Str × D)) (vs : List (Str × V)) (A : List Addr), (∀ b ∈ A, b ≠ a) → OFs cl N B Hs H ks ds vs A → OFs cl N (sw a u o B) (sw a u o Hs) (sw a u o H) ks ds vs A
  | [], _, _, _, _, h => by cases h; exact .nil
  | (f, kd) :: ks, _, _, _, k, h => by
    cases h with
    | cons h1 h2 => exact .cons (ORep.sw t kd _ _ _ (fun b hb => k b (List.mem_append_left _ hb)) h1) (OFs.sw t ks _ _ _ (fun b hb => k b (List.mem_append_right _ hb)) h2)
end
end
/-- the entry, a dict's object exchanged -/
def En.sw (E : En) (a : Addr) (u o : HO) : En := ⟨E.cl, E.h, VL.sw a u o E.s, VL.sw a u o E.b⟩
section
variable {E : En} {Hs H : Hp} {ks : List Kd} {r : Sl} {σ : L2.St} {a : Addr} {u o : HO} {xs : List (Key × V)}
theorem Slots.sw (t : Two xs u o) : ∀ {ks : List Kd} {r : Sl} {σ : L2.St} {As : List Addr}, (∀ b ∈ As, b ≠ a) → Slots E Hs H ks r σ As → Slots (E.sw a u o) (VL.sw a u o Hs) (VL.sw a u o H) ks r σ As
  | _, _, _, _, _, .nil => .nil
  | _, _, _, _, k, .skip h => .skip (Slots.sw t k h)
  | _, _, _, _, k, .cons h1 h2 => .cons (ORep.sw t _ _ _ _ (fun b hb => k b (List.mem_append_left _ hb)) h1) (Slots.sw t (fun b hb => k b (List.mem_append_right _ hb)) h2)
theorem StRel.sw (t : Two xs u o) (ha : Hs a ≠ none) (S : StRel E Hs H ks r σ) : StRel (E.sw a u o) (VL.sw a u o Hs) (VL.sw a u o H) ks r σ := by
  obtain ⟨As, S⟩ := S
  have off : ∀ b ∈ As, b ≠ a := fun b hb z => ha (by rw [← z]; exact (S.dis b hb).1)
  exact ⟨As, Slots.sw t off S.sl, S.nd, fun b hb => ⟨sw_none.mpr (S.dis b hb).1, (sw_none (a := a) (u := u) (o := o) (f := E.b)).mpr (S.dis b hb).2⟩, S.es.sw t.ntU, S.sub.sw t.ntU, S.eb.sw t.ntU,
    fun b z => (S.new b (fun w => z (sw_none.mpr w))).imp (fun w q => w ((sw_none (a := a) (u := u) (o := o) (f := E.s)).mp q)) id, fun b z => S.dom b (sw_none.mp z), fun P z => tab_sw t.ntU t.nc (S.tb P z)⟩
end

section
variable {X : Cx} {E : En} {kr : Kd} {ks : List Kd} {pos p1 : Pos} {i : Nat} {x : Str}
end
end VL
end

noncomputable section
namespace VL
open PySem PySem.Spec PyProof.Rows L2
variable {md : Md}

section
variable {prog : Program} {w : World} {A : Around} {E : Value → Shared → Prop} {s : Shared}
end
section
variable {X : Cx} {E : En} {ks : List Kd} {a b : Expr} {ga gb : Sl → R D} {p p2 q pos : Pos}
end
end VL
end

noncomputable section
namespace VL
open PySem PySem.Spec PyProof.Rows L2
variable {md : Md}

theorem OLs.app {cl : Cl} {N : Addr → Prop} {B Hs H : Hp} {k : Kd} : ∀ {ds : List D} {xs : List V} {As : List Addr} {es : List D} {ys : List V} {Bs : List Addr}, OLs cl N B Hs H k ds xs As → OLs cl N B Hs H k es ys Bs → OLs cl N B Hs H k (ds ++ es) (xs ++ ys) (As ++ Bs)
  | _, _, _, _, _, _, .nil, h => h
  | _, _, _, _, _, _, .cons o t, h => by
    rw [List.append_assoc]
    exact .cons o (OLs.app t h)
section
variable {E : En} {Hs H : Hp} {ks : List Kd} {r : Sl} {σ : L2.St} {n m : Option Addr} {k : Kd} {ds es : List D} {v w : V}
theorem StRel.catL (S : StRel E Hs H (.lls n k :: .lls m k :: ks) (some (.lst ds) :: some (.lst es) :: r) (some v :: some w :: σ)) :
    ∃ a xs b ys, v = .ref a ∧ w = .ref b ∧ H a = some (.lst xs) ∧ H b = some (.lst ys) ∧ xs.length = ds.length ∧ ys.length = es.length ∧
      ∀ p, H p = none → StRel E Hs (upd H p (.lst (xs ++ ys))) (.lls none k :: ks) (some (.lst (ds ++ es)) :: r) (some (.ref p) :: σ) := by
  obtain ⟨As, S⟩ := S
  have sl := S.sl
  have nd := S.nd
  have dis := S.dis
  cases sl with
  | cons o1 t1 =>
    cases t1 with
    | cons o2 t2 =>
      rename_i A1 A2 Ar
      cases o1 with
      | llV p0 _ => cases p0
      | lls p0 p1 p2 =>
        rename_i a xs AX
        cases o2 with
        | llV q0 _ => cases q0
        | lls q0 q1 q2 =>
          rename_i b ys AE
          refine ⟨a, xs, b, ys, rfl, rfl, p1, q1, p2.length, q2.length, fun p hp => ?_⟩
          have nd1 := List.nodup_append.mp nd
          have nd2 := List.nodup_append.mp nd1.2.1
          have nx := List.nodup_cons.mp nd1.1
          have ne := List.nodup_cons.mp nd2.1
          have live : ∀ c ∈ (a :: AX) ++ ((b :: AE) ++ Ar), c ≠ p := fun c hc z => by
            have here : ∃ o, H c = some o := by
              rcases List.mem_append.mp hc with y | y
              · obtain ⟨o, e, _⟩ := ORep.here _ _ _ _ (ORep.lls p0 p1 p2) c y
                exact ⟨o, e⟩
              · rcases List.mem_append.mp y with y | y
                · obtain ⟨o, e, _⟩ := ORep.here _ _ _ _ (ORep.lls q0 q1 q2) c y
                  exact ⟨o, e⟩
                · obtain ⟨o, e, _⟩ := Slots.here t2 c y
                  exact ⟨o, e⟩
            obtain ⟨o, e⟩ := here
            rw [z, hp] at e
            cases e
          have kX : ∀ c ∈ AX, upd H p (.lst (xs ++ ys)) c = H c := fun c hc => upd_ne (live c (by simp [hc]))
          have kE : ∀ c ∈ AE, upd H p (.lst (xs ++ ys)) c = H c := fun c hc => upd_ne (live c (by simp [hc]))
          have kR : ∀ c ∈ Ar, upd H p (.lst (xs ++ ys)) c = H c := fun c hc => upd_ne (live c (by simp [hc]))
          refine ⟨(p :: (AX ++ AE)) ++ Ar, .cons (.lls ⟨S.dom p hp, fun _ z => nomatch z⟩ upd_same (OLs.app (OLs.keep (Same.refl _) kX p2) (OLs.keep (Same.refl _) kE q2))) (Slots.mono (Same.refl _) kR t2), ?_, fun c hc => ?_, S.es, S.sub.trans (Same.updNew hp), S.eb.trans (Same.updNew hp), S.new, fun c z => ?_, fun P z => tab_upd hp P (S.tb P z)⟩
          · refine List.nodup_append.mpr ⟨List.nodup_cons.mpr ⟨fun hc => ?_, List.nodup_append.mpr ⟨nx.2, ne.2, fun x hx y hy => ?_⟩⟩, nd2.2.1, fun x hx y hy => ?_⟩
            · rcases List.mem_append.mp hc with y | y
              · exact live p (by simp [y]) rfl
              · exact live p (by simp [y]) rfl
            · exact nd1.2.2 x (List.mem_cons_of_mem _ hx) y (by simp [hy])
            · rcases List.mem_cons.mp hx with z | z
              · intro e
                exact live y (by simp [hy]) (by rw [← e, z])
              · rcases List.mem_append.mp z with z | z
                · exact nd1.2.2 x (List.mem_cons_of_mem _ z) y (by simp [hy])
                · exact nd2.2.2 x (List.mem_cons_of_mem _ z) y hy
          · rcases List.mem_append.mp hc with y | y
            · rcases List.mem_cons.mp y with z | z
              · rw [z]; exact ⟨S.sub.free hp, S.eb.free hp⟩
              · rcases List.mem_append.mp z with z | z
                · exact dis c (by simp [z])
                · exact dis c (by simp [z])
            · exact dis c (by simp [y])
          · have : c ≠ p := fun y => by rw [y, upd_same] at z; cases z
            rw [upd_ne this] at z
            exact S.dom c z
end
@[simp] def mCatL (i : Nat) (g : Sl → R D) : Sl → O := fun r => match r[i]? with
  | some (some (.lst ds)) => onR (g r) r fun d => (match d with
    | .lst es => if ds.length + es.length ≤ szL then .nx (r.set i (some (.lst (ds ++ es)))) else .stuck
    | _ => .stuck)
  | _ => .stuck
section
variable {X : Cx} {E : En} {kr : Kd} {fin : List Kd → Prop} {ks ks' : List Kd} {i : Nat} {k : Kd} {x : Str} {e : Expr} {g : Sl → R D} {pos p1 p2 p3 : Pos}
theorem ss_catL (he : SE X E ks (.lls none k) e g) (hND : X.N.Nodup) (hq : NmOk x) (fk : k.fine = true := by rfl) (hf : fin ks := by trivial) (hk : ks[i]? = some (.lls none k) := by rfl) (hN : X.N[i]? = some x := by rfl) (hx : Loc X.env.scope x := by first | exact Or.inl rfl | exact Or.inr rfl) (hv : Vis X.env.scope x := by first | exact Or.inl rfl | exact Or.inr (Or.inl rfl) | exact Or.inr (Or.inr rfl))
    (hs : swapsWith (.BinOp (.Name x p2) .Add e p3) (some (.Name x p1)) pos.line X.env = pure false := by rfl) (hfn : X.fn x = true ∨ X.env.scope.names.lookup x = some .local := by first | exact .inl rfl | exact .inr rfl | assumption) :
    SS X E kr fin ks (.Assign [.Name x p1] (.BinOp (.Name x p2) .Add e p3) pos) (mCatL i g) ks := by
  refine ⟨fun Hs H r σ W Dn tk S P => ?_⟩
  refine ws_of (ps_set hND hN hx (pe_op op_cat (pe_var hN hv hq.1 hq.2) pe_we) hs hfn) ?_
  unfold mCatL at P
  split at P
  · rename_i ds q
    obtain ⟨v0, A0, ev0, o0⟩ := S.get hk q
    refine ⟨v0, ev0, ?_⟩
    refine he.run _ _ _ _ _ _ tk S (Post.ofS hf S P fun d v Hs' H' e1 g1 k1 P1 => ?_)
    cases d <;> first | exact P1.elim | skip
    rename_i es
    dsimp only at P1
    split at P1
    · rename_i hz
      have SP := S.push g1 (by simpa [Kd.fine] using fk : (Kd.lls none k).fine = true) k1
      obtain ⟨w, ew, ST⟩ := SP.take (i := i + 1) (k := .lls none k) (d := .lst ds) (by simpa using hk) (by simpa using q)
      obtain ⟨a, xs, b, ys, rfl, rfl, h1, h2, l1, l2, back⟩ := ST.catL
      have ea : σ[i]? = some (some (.ref a)) := by simpa using ew
      rw [ev0] at ea
      cases ea
      refine ⟨a, b, xs, ys, rfl, rfl, h1, h2, by rw [szL_eq, l1, l2]; exact hz, fun p hp => ?_⟩
      have Z := (back p hp).settle hk
      rw [List.set_set, set_self hk] at Z
      exact P1 _ _ _ Z
    · exact P1.elim
  · exact P.elim
end
section
variable {X : Cx} {E : En} {kr : Kd} {fin : List Kd → Prop} {ks : List Kd} {i j : Nat} {n m : Option Addr} {x y : Str} {e : Expr} {g : Sl → R D} {pos p1 p2 p3 p4 p5 p6 p7 p8 p9 p10 : Pos}
end

section
variable {X : Cx} {E : En} {ks : List Kd} {i j : Nat} {n m : Option Addr} {x y : Str} {scope : Scope} {pos p1 p2 p3 p4 p5 : Pos}
end

end VL
end

noncomputable section
namespace VL
open PySem PySem.Spec PyProof.Rows L2
variable {md : Md}

theorem RepF.look {cl : Cl} {H : Hp} {f : Str} {d : D} : ∀ {ds : List (Str × D)} {xs : List (Str × V)}, RepF cl H ds xs → ds.lookup f = some d → ∃ v, xs.lookup f = some v ∧ Rep cl H d v
  | [], _, h, e => by cases e
  | (g, d0) :: ds, _, h, e => by
    cases h with
    | cons h1 h2 =>
      rw [List.lookup] at e ⊢
      split at e
      · cases e
        exact ⟨_, rfl, h1⟩
      · exact RepF.look h2 e
theorem RepF.lookN {cl : Cl} {H : Hp} {f : Str} : ∀ {ds : List (Str × D)} {xs : List (Str × V)}, RepF cl H ds xs → ds.lookup f = none → xs.lookup f = none
  | [], _, h, e => by cases h; rfl
  | (g, d0) :: ds, _, h, e => by
    cases h with
    | cons h1 h2 =>
      rw [List.lookup] at e ⊢
      split at e
      · cases e
      · exact RepF.lookN h2 e
theorem RBF.look {cl : Cl} {Hs H : Hp} {f : Str} {d : D} : ∀ {ds : List (Str × D)} {xs : List (Str × V)}, RBF cl Hs H ds xs → ds.lookup f = some d → ∃ v, xs.lookup f = some v ∧ RB cl Hs H d v
  | [], _, h, e => by cases e
  | (g, d0) :: ds, _, h, e => by
    cases h with
    | cons h1 h2 =>
      rw [List.lookup] at e ⊢
      split at e
      · cases e
        exact ⟨_, rfl, h1⟩
      · exact RBF.look h2 e
theorem RBF.lookN {cl : Cl} {Hs H : Hp} {f : Str} : ∀ {ds : List (Str × D)} {xs : List (Str × V)}, RBF cl Hs H ds xs → ds.lookup f = none → xs.lookup f = none
  | [], _, h, e => by cases h; rfl
  | (g, d0) :: ds, _, h, e => by
    cases h with
    | cons h1 h2 =>
      rw [List.lookup] at e ⊢
      split at e
      · cases e
      · exact RBF.lookN h2 e
/-- field f of an object of class C -/
@[simp] def oAt (C f : Str) : D → R D
  | .obj C' fs => if C' = C then (match fs.lookup f with
    | some d => .ok d
    | none => .stuck) else .stuck
  | _ => .stuck
theorem RB.objInv {cl : Cl} {Hs H : Hp} {C : Str} {fs : List (Str × D)} {v : V} (h : RB cl Hs H (.obj C fs) v) (e : Same Hs H) : ∃ a c dx xs, v = .ref a ∧ cl.o C = some c ∧ H a = some (.ins c dx xs) ∧ RBF cl Hs H fs xs := by
  cases h with
  | val r =>
    cases r with
    | obj h0 h1 h2 =>
      refine ⟨_, _, _, _, rfl, h0, e.at _ _ h1, ?_⟩
      have key : ∀ {ds : List (Str × D)} {xs : List (Str × V)}, RepF cl Hs ds xs → RBF cl Hs H ds xs := by
        intro ds
        induction ds with
        | nil => intro xs h; cases h; exact .nil
        | cons p ds ih =>
          intro xs h
          cases h with
          | cons a b => exact .cons (.val a) (ih b)
      exact key h2
  | obj h0 h1 h2 => exact ⟨_, _, _, _, rfl, h0, h1, h2⟩
section
variable {X : Cx} {E : En} {ks : List Kd} {e : Expr} {g : Sl → R D} {C f : Str} {pos : Pos}
theorem se_attV (T : FldOk X.K E.cl C f) (he : SE X E ks .val e g) (hb : attributeBase e f X.env (eval e X.env) = eval e X.env := by rfl) : SE X E ks .val (.Attribute e f pos) (gUn (oAt C f) g) := by
  refine ⟨fun Hs H r σ W Q tk S P => ?_⟩
  refine we_of (pe_fld pe_we hb) ?_
  refine he.run _ _ _ _ _ _ tk S (P.imp fun d v Hs1 H1 e1 g1 k1 P1 => ?_)
  cases d <;> first | exact P1.elim | skip
  dsimp only [oAt] at P1
  split at P1
  · rename_i hc
    subst hc
    split at P1
    · rename_i d1 q
      have rp := k1.rep
      cases rp with
      | obj h0 h1 h2 =>
        obtain ⟨v1, e2, r2⟩ := h2.look q
        exact ⟨_, _, _, _, v1, rfl, g1.sub.at _ _ h1, (T _ h0).1, (T _ h0).2, e2, P1.finV g1.sub r2⟩
    · exact P1.elim
  · exact P1.elim
theorem se_attB (T : FldOk X.K E.cl C f) (he : SE X E ks .bor e g) (hb : attributeBase e f X.env (eval e X.env) = eval e X.env := by rfl) : SE X E ks .bor (.Attribute e f pos) (gUn (oAt C f) g) := by
  refine ⟨fun Hs H r σ W Q tk S P => ?_⟩
  refine we_of (pe_fld pe_we hb) ?_
  refine he.run _ _ _ _ _ _ tk S (P.imp fun d v Hs1 H1 e1 g1 k1 P1 => ?_)
  cases d <;> first | exact P1.elim | skip
  dsimp only [oAt] at P1
  split at P1
  · rename_i hc
    subst hc
    split at P1
    · rename_i d1 q
      obtain ⟨a, c, dx, xs, rfl, h0, h1, h2⟩ := k1.rb.objInv g1.sub
      obtain ⟨v1, e2, r2⟩ := h2.look q
      exact ⟨_, _, _, _, v1, rfl, h1, (T _ h0).1, (T _ h0).2, e2, P1 v1 Hs1 H1 (Grow.refl g1.sub) r2.rk⟩
    · exact P1.elim
  · exact P1.elim
end
/-- a method that changes nothing: a plain function of self and the rest -/
structure FiR [md : Md] (P : Program) (w : World) (K : PySem.W.Frag) (mg : Str → Option Value) (base : Heap) (cl : Cl) (C m : Str) (k : Nat) (b0 : Bool) (bs : List Bool) (kr : Kd) (f : List D → R D) : Prop where
  ex : ∃ c fa fd ps, cl.o C = some c ∧ Cls K c ∧ Meth K c m fa ∧ FnOk P w K mg base (CXM P w) k fa fd ps (spV cl (b0 :: bs) kr f) ∧ Binds K fd ps []
def dMethR (C m : Str) (f : List D → R D) (d : D) (t : R (List D)) : R D := match d with
  | .obj C' fs => if C' = C then (match fs.lookup m with
    | none => t >>= fun ds => f (.obj C fs :: ds)
    | some _ => .stuck) else .stuck
  | _ => .stuck
@[simp] def gMethR (C m : Str) (f : List D → R D) (go : Sl → R D) (t : Sl → R (List D)) : Sl → R D := fun r => do
  let d ← go r
  dMethR C m f d (t r)
section
variable {X : Cx} {E : En} {ks : List Kd} {o e : Expr} {es : List Expr} {go : Sl → R D} {t : Sl → R (List D)} {C m : Str} {k : Nat} {b0 : Bool} {bs : List Bool} {kr : Kd} {f : List D → R D} {apos pos : Pos}
theorem RK.kd {cl : Cl} {H0 Hs H : Hp} {d : D} {v : V} {b0 : Bool} (h : RK cl (kdOf b0) H0 Hs H d v) : RB cl Hs H d v := by
  cases b0 with
  | true => exact .val (RK.rep h)
  | false => exact RK.rb h
theorem RAs.kd {cl : Cl} {Hs H H0 Hs' H' : Hp} {d : D} {v : V} {b0 : Bool} {bs : List Bool} {ds : List D} {vs : List V} (h : RK cl (kdOf b0) H0 Hs H d v) (g : Grow Hs H Hs' H') (a : RAs cl Hs' H' bs ds vs) : RAs cl Hs' H' (b0 :: bs) (d :: ds) (v :: vs) := by
  cases b0 with
  | true => exact .val (Rep.same g.s _ _ (RK.rep h)) a
  | false => exact .bor ((RK.rb h).grow g) a
theorem se_methR (F : FiR X.prog X.w X.K X.mg X.base E.cl C m k b0 bs kr f) (hr : Room k X.A) (ho : SE X E ks (kdOf b0) o go) (ha : SA X E ks bs (e :: es) t) {pl : Sem Bool}
    (hst : starEach (e :: es) X.env = (false, eval e X.env) :: starEach es X.env := by rfl) (hpl : (backTo pos (starEach es X.env)).any (·.1) = false := by rfl)
    (ht : eval (.Call (.Attribute o m apos) (e :: es) [] pos) X.env = (do
      let ov ← eval o X.env
      standAt apos.atName
      let (f, first) ← holding [ov] (getMethod ov m pl)
      callWith pos f first (backTo pos (starEach (e :: es) X.env)) (backToKw pos (keywordEach [] X.env))) := by rfl) :
    SE X E ks kr (.Call (.Attribute o m apos) (e :: es) [] pos) (gMethR C m f go t) := by
  refine ⟨fun Hs H r σ W Q tk S P => ?_⟩
  obtain ⟨c, fa, fd, ps, q0, M1, M2, F2, F3⟩ := F.ex
  refine we_of (pe_mS pe_we M1 M2 F2 hr F3 (fun σ => passAt tk σ) pa_wa hst hpl ht) ?_
  refine ho.run _ _ _ _ _ _ tk S (Post.imp (F := fun d => dMethR C m f d (t r)) P fun d v Hs1 H1 e1 g1 k1 P1 => ?_)
  cases d <;> first | exact P1.elim | skip
  dsimp only [dMethR] at P1
  split at P1
  · rename_i hc
    subst hc
    split at P1
    · rename_i hl
      obtain ⟨a, c2, dx, xs, rfl, h0, h1, h2⟩ := k1.kd.objInv g1.sub
      rw [q0] at h0
      cases h0
      refine ⟨a, dx, xs, rfl, h1, h2.lookN hl, ?_⟩
      refine ha.run _ _ _ _ _ _ tk (S.grow g1) (PostA.of P1 fun ds vs Hs2 H2 e2 g2 a2 P2 => ?_)
      exact ⟨_, Hs2, g2.sub, RAs.kd k1 g2 a2, P2⟩
    · exact P1.elim
  · exact P1.elim
theorem se_methR0 (F : FiR X.prog X.w X.K X.mg X.base E.cl C m k b0 [] kr f) (hr : Room k X.A) (ho : SE X E ks (kdOf b0) o go) {pl : Sem Bool}
    (ht : eval (.Call (.Attribute o m apos) [] [] pos) X.env = (do
      let ov ← eval o X.env
      standAt apos.atName
      let (f, first) ← holding [ov] (getMethod ov m pl)
      callWith pos f first (backTo pos (starEach [] X.env)) (backToKw pos (keywordEach [] X.env))) := by rfl) :
    SE X E ks kr (.Call (.Attribute o m apos) [] [] pos) (gMethR C m f go gNil) := by
  refine ⟨fun Hs H r σ W Q tk S P => ?_⟩
  obtain ⟨c, fa, fd, ps, q0, M1, M2, F2, F3⟩ := F.ex
  refine we_of (pe_mS0 pe_we M1 M2 F2 hr F3 (fun σ => passAt tk σ) ht) ?_
  refine ho.run _ _ _ _ _ _ tk S (Post.imp (F := fun d => dMethR C m f d (.ok [])) P fun d v Hs1 H1 e1 g1 k1 P1 => ?_)
  cases d <;> first | exact P1.elim | skip
  dsimp only [dMethR] at P1
  split at P1
  · rename_i hc
    subst hc
    split at P1
    · rename_i hl
      obtain ⟨a, c2, dx, xs, rfl, h0, h1, h2⟩ := k1.kd.objInv g1.sub
      rw [q0] at h0
      cases h0
      exact ⟨a, dx, xs, rfl, h1, h2.lookN hl, _, Hs1, g1.sub, RAs.kd k1 (Grow.refl g1.sub) .nil, P1⟩
    · exact P1.elim
  · exact P1.elim
end
theorem def_okR {P : Program} {w : World} {K : PySem.W.Frag} {mg : Str → Option Value} {base : Heap} {cl : Cl} {C x qual : Str} {st : Stmt} {c fa : Addr} {fd : FuncData} {N ps : List Str} {k : Nat} {b0 : Bool} {bs : List Bool} {kr : Kd} {ls ks' : List Kd} {m : Sl → O}
    (F : Fun K x qual st fa fd) (S : FnScope N ps (defScope st)) (bn : Binds K fd ps []) (hc : cl.o C = some c) (h1 : Cls K c) (h2 : Meth K c x fa) (hb : (b0 :: bs).length = ps.length) (hN : N.length = ps.length + ls.length) (fk : kr.fine = true) (ko : kr = .val ∨ kr = .own none)
    (body : ∀ (cdv : Value) (A : Around) (outer : List Env) (s : Shared) (H : Hp) (E : XK) (h0 s0 b0' : Hp), Room k (A.deeper (envOfC qual (defScope st) s.heap.objs.size fa cdv)) →
      SB (cxOf (CXM P w) P w K mg base N qual (defScope st) fa cdv A outer s H E) ⟨cl, h0, s0, b0'⟩ kr (fun _ => True) ((b0 :: bs).map kdOf ++ ls) (defBody st) m ks') : FiR P w K mg base cl C x (k + 1) b0 bs kr (runF m ls.length) :=
  ⟨c, fa, fd, ps, hc, h1, h2, def_okF F S hb hN fk ko body, bn⟩

@[simp] def fListD : List D → R D
  | [.dct kvs] => .ok (.lst (kvs.map fun p => keyD p.1))
  | _ => .stuck
@[simp] def fDictD : List D → R D
  | [.dct kvs] => .ok (.dct kvs)
  | _ => .stuck
theorem RepK.keys {cl : Cl} {H : Hp} : ∀ {ds : List (Key × D)} {xs : List (Key × V)}, RepK cl H ds xs → RepL cl H (ds.map fun p => keyD p.1) (xs.map fun kv => kV kv.1)
  | [], _, h => by cases h; exact .nil
  | (k, d) :: ds, _, h => by
    cases h with
    | cons h1 h2 => exact .cons (keyRep k) (RepK.keys h2)
theorem callv_listD {X : Cx} : CallV X.K (fun xs H Q => ∃ a kvs, xs = [V.ref a] ∧ Rd H a (.dK kvs) ∧ ∀ p, H p = none → Q (.ref p) (upd H p (.lst (kvs.map fun kv => kV kv.1)))) (.own none) [false] fListD := by
  intro cl Hs H ds vs Q W e a P
  obtain ⟨d, v, rfl, rfl, r⟩ := a.one
  cases d <;> first | exact P.elim | skip
  obtain ⟨p, xs, rfl, h1, r1⟩ := r.dctInv e
  exact ⟨p, xs, rfl, h1, fun q hq => P.finL e hq r1.keys⟩
theorem RK.ownNewK {cl : Cl} {Hs H : Hp} {ds : List (Key × D)} {xs : List (Key × V)} {p : Addr} (e : Same Hs H) (hp : H p = none) (r : RepK cl Hs ds xs) : RK cl (.own none) H Hs (upd H p (.dK xs)) (.dct ds) (.ref p) :=
  ⟨[p], .ownK ⟨hp, fun _ z => nomatch z⟩ upd_same r, by simp, fun a ha => by
    have q : a = p := by simpa using ha
    subst q
    exact ⟨e.free hp, hp⟩⟩
theorem callv_dictD {X : Cx} : CallV X.K (fun xs H Q => ∃ a kvs, xs = [V.ref a] ∧ Rd H a (.dK kvs) ∧ ∀ p, H p = none → Q (.ref p) (upd H p (.dK kvs))) (.own none) [false] fDictD := by
  intro cl Hs H ds vs Q W e a P
  obtain ⟨d, v, rfl, rfl, r⟩ := a.one
  cases d <;> first | exact P.elim | skip
  obtain ⟨p, xs, rfl, h1, r1⟩ := r.dctInv e
  exact ⟨p, xs, rfl, h1, fun q hq => P _ _ _ (Grow.fresh e hq) (RK.ownNewK e hq r1)⟩

section
variable {X : Cx} {E : En} {ks : List Kd} {e o : Expr} {es : List Expr} {t : Sl → R (List D)} {p pos : Pos}
theorem sf_ListD (B : Bl X.mg) (ha : SA X E ks [false] (e :: es) t) (hc : X.calm = true := by rfl) (hg : Gl X "list" := by rfl) (he : starEach (e :: es) X.env = (false, eval e X.env) :: starEach es X.env := by rfl) (hpl : (backTo pos (starEach es X.env)).any (·.1) = false := by rfl) : SE X E ks (.own none) (.Call (.Name "list" p) (e :: es) [] pos) (gCall fListD t) :=
  se_callTy (call_listD hc) callv_listD B.list bb_list ha hg (by decide) (by decide) he hpl
theorem sf_DictD (B : Bl X.mg) (ha : SA X E ks [false] (e :: es) t) (hg : Gl X "dict" := by rfl) (he : starEach (e :: es) X.env = (false, eval e X.env) :: starEach es X.env := by rfl) (hpl : (backTo pos (starEach es X.env)).any (·.1) = false := by rfl) : SE X E ks (.own none) (.Call (.Name "dict" p) (e :: es) [] pos) (gCall fDictD t) :=
  se_callTy call_dictD callv_dictD B.dict bb_dict ha hg (by decide) (by decide) he hpl
end

def rNil (K : PySem.W.Frag) (neg : Bool) : R2 := fun x y H Q => ∃ a b xs, x = .ref a ∧ y = .ref b ∧ SqL K H a xs ∧ SqL K H b [] ∧ Q (.bl (xs.isEmpty != neg)) H
theorem op_eqNil {X : Cx} (hu : X.A.units + 64 < cLine) : OpR X (compareOp .Eq) (rNil X.K false) := by
  intro pins s σ H x y v u Q I rx ry h
  obtain ⟨a, b, xs, rfl, rfl, ha, hb, q⟩ := h
  cases rx
  cases ry
  obtain ⟨its, r, pl, hz⟩ := I.list ha
  obtain ⟨its2, r2, pl2, hz2⟩ := I.list hb
  cases r2
  cases r with
  | nil => exact PySem.SeqAt.RcAt.lists (e := fun _ => true) pl.isList pl2.isList rfl (by omega) (fun j h1 _ => by simp at h1) _ _ _ _ ⟨.bl _, H, I, rfl, by simpa using q⟩
  | cons r1 rr => exact PySem.SeqAt.RcAt.lists_lengths pl.isList pl2.isList (by simp) (by omega) _ _ _ _ ⟨.bl _, H, I, rfl, by simpa using q⟩
def dNilQ (neg : Bool) : D → D → R D
  | .lst ds, .lst [] => .ok (.bl (ds.isEmpty != neg))
  | _, _ => .stuck
theorem nox_nil {neg : Bool} : NoX (dNilQ neg) := fun a b x h => by
  cases a <;> cases b <;> first | (cases h; done) | (rename_i es; cases es <;> cases h)
theorem opv_nil {X : Cx} {neg : Bool} : OpV X.K (rNil X.K neg) .val (dNilQ neg) := by
  intro cl Hs H d1 d2 v1 v2 Q W e b1 b2 P nx
  cases d1 <;> cases d2 <;> first | exact P.elim | skip
  rename_i ds es
  cases es with
  | cons _ _ => exact P.elim
  | nil =>
    obtain ⟨a, xs, rfl, h1, r1⟩ := b1.lstInv e
    obtain ⟨b, ys, rfl, h2, r2⟩ := b2.lstInv e
    cases r2
    refine ⟨a, b, xs, rfl, rfl, SqL.of h1, SqL.of h2, ?_⟩
    have ee : xs.isEmpty = ds.isEmpty := by cases r1 <;> rfl
    rw [ee]
    exact P.finV e (.bl _)

section
variable {E : En} {Hs H : Hp} {ks : List Kd} {r : Sl} {σ : L2.St} {i j : Nat} {n : Option Addr} {kk : List (Str × Kd)} {f C : Str} {ds : List (Str × D)}
theorem StRel.fldMutK {m : Option Addr} {es : List (Key × D)} (S : StRel E Hs H ks r σ) (hk : ks[i]? = some (.obj n kk)) (hd : r[i]? = some (some (.obj C ds))) (fo : (Kd.obj n kk).fine = true) (hj : kk[j]? = some (f, .own m)) (he : ds[j]? = some (f, .dct es)) :
    ∃ a c dx xs b ys, σ[i]? = some (some (.ref a)) ∧ E.cl.o C = some c ∧ H a = some (.ins c dx xs) ∧ xs.map (·.1) = kk.map (·.1) ∧ xs[j]? = some (f, .ref b) ∧ a ≠ b ∧ H b = some (.dK ys) ∧ RepK E.cl Hs es ys ∧
      ∀ es' ys', RepK E.cl Hs es' ys' → StRel E Hs (upd H b (.dK ys')) ks (r.set i (some (.obj C (ds.set j (f, .dct es'))))) σ := by
  obtain ⟨u, Af, eu, o, nd, dz, sub, back⟩ := S.chg hk hd fo
  cases o with
  | obj h0 h1 h2 h3 =>
    rename_i a c dx xs As
    obtain ⟨pre, A, post, d1, v1, e1, e2, e3, e4, e5⟩ := OFs.pos j h3 hj
    rw [he] at e2
    cases e2
    cases e4 with
    | ownV q0 q1 => cases q0
    | ownK q0 q1 q2 =>
      rename_i b ys
      subst e1
      have nc := List.nodup_cons.mp nd
      have nb : a ≠ b := fun w => nc.1 (by rw [w]; simp)
      have hin : b ∈ a :: (pre ++ ([b] ++ post)) := by simp
      refine ⟨a, c, dx, xs, b, ys, eu, h1, h2, h3.names.1, e3, nb, q1, q2, fun es' ys' rp => ?_⟩
      have np : ∀ x ∈ pre ++ post, x ≠ b := fun x hx w => by
        have q := List.nodup_append.mp nc.2
        rcases List.mem_append.mp hx with z | z
        · exact q.2.2 x z b (by simp) w
        · have q' := List.nodup_append.mp q.2.1
          exact q'.2.2 b (by simp) x z w.symm
      have of' := e5 Hs (upd H b (.dK ys')) (Same.refl _) (fun x hx => upd_ne (np x hx)) (.own m) (.dct es') (.ref b) [b] (.ownK q0 upd_same rp)
      rw [set_self hj, set_self e3] at of'
      have z := back Hs (upd H b (.dK ys')) (.obj n kk) (.obj C (ds.set j (f, .dct es'))) (a :: (pre ++ ([b] ++ post))) fo (Grow.inside sub hin dz) (.obj h0 h1 ((upd_ne nb).trans h2) of') nd fun x hx => ⟨dz x hx, sans_in hx⟩
      rw [set_self hk] at z
      exact z
/-- field j of slot i's object is frozen -/
theorem StRel.fldFrz {m : Option Addr} (S : StRel E Hs H ks r σ) (hk : ks[i]? = some (.obj n kk)) (hj : kk[j]? = some (f, .own m)) (fo : (Kd.obj n kk).fine = true) : ∃ Hs2, StRel E Hs2 H (ks.set i (.obj n (kk.set j (f, .val)))) r σ := by
  cases hr : r[i]? with
  | none =>
    obtain ⟨As, S0⟩ := S
    have l := S0.sl.len
    have hi : i < ks.length := (List.getElem?_eq_some_iff.mp hk).1
    have : r.length ≤ i := List.getElem?_eq_none_iff.mp hr
    omega
  | some o =>
    cases o with
    | none =>
      have z := S.wipe1 (k' := .obj n (kk.set j (f, .val))) hk σ[i]?.join
      obtain ⟨As, S0⟩ := S
      have l := S0.sl.len
      have hi : i < ks.length := (List.getElem?_eq_some_iff.mp hk).1
      have e1 : r.set i none = r := set_self hr
      have e2 : σ.set i σ[i]?.join = σ := by
        have : i < σ.length := by rw [l.2]; exact hi
        rw [List.getElem?_eq_getElem this]
        exact List.set_getElem_self _
      rw [e1, e2] at z
      exact ⟨Hs, z⟩
    | some d =>
      obtain ⟨As, S0⟩ := S
      obtain ⟨pre, A, post, e, q1, _, _, q3⟩ := S0.sl.at_ i hk
      obtain ⟨v, ev, o⟩ := q1 d hr
      have here := S0.sl.here
      cases o with
      | obj h0 h1 h2 h3 =>
        rename_i a c dx C ds xs As2
        obtain ⟨p2, A2, s2, d1, v1, e1, e2, e3, e4, e5⟩ := OFs.pos j h3 hj
        subst e1
        have inA : ∀ b ∈ A2, b ∈ As := fun b hb => by rw [e]; simp [hb]
        have nA2 : ∀ b ∈ A2, E.h b = none := by
          cases e4 with
          | ownL h0 h1 h2 => intro b hb; simp at hb; subst hb; exact h0.1
          | ownK h0 h1 h2 => intro b hb; simp at hb; subst hb; exact h0.1
          | ownV h0 h1 => intro b hb; cases hb
        have pS : Same Hs (plus Hs H A2) := plus_same fun b hb => (S0.dis b (inA b hb)).1
        have rp : Rep E.cl (plus Hs H A2) d1 v1 := ORep.freeze pS _ _ _ _ rfl (fun b hb => by unfold plus; rw [if_pos hb]) e4
        have of' := e5 (plus Hs H A2) H pS (fun _ _ => rfl) .val d1 v1 [] (.val rp)
        have e6 : ds.set j (f, d1) = ds := set_self e2
        have e7 : xs.set j (f, v1) = xs := set_self e3
        rw [e6, e7] at of'
        have z := q3 (plus Hs H A2) H pS (fun _ _ => rfl) (.obj n (kk.set j (f, .val))) (.obj C ds) (.ref a) _ (.obj h0 h1 h2 of')
        rw [set_self hr, set_self ev] at z
        have sub : (pre ++ ((a :: (p2 ++ ([] ++ s2))) ++ post)).Sublist As := by
          rw [e]
          refine List.Sublist.append (List.Sublist.refl _) (List.Sublist.append (List.Sublist.cons_cons _ (List.Sublist.append (List.Sublist.refl _) ?_)) (List.Sublist.refl _))
          rw [List.nil_append]
          exact List.sublist_append_right _ _
        have nd := S0.nd
        rw [e] at nd
        refine ⟨plus Hs H A2, _, z, S0.nd.sublist sub, fun b hb => ⟨?_, (S0.dis b (sub.subset hb)).2⟩, S0.es.trans pS, plus_sub S0.sub, S0.eb, fun b q => ?_, S0.dom, S0.tb⟩
        · have hn : b ∉ A2 := fun w => by
            have n1 := List.nodup_append.mp nd
            have n2 := List.nodup_append.mp n1.2.1
            have n3 := List.nodup_cons.mp n2.1
            have n4 := List.nodup_append.mp n3.2
            have n5 := List.nodup_append.mp n4.2.1
            have wi : b ∈ a :: (p2 ++ (A2 ++ s2)) := by simp [w]
            rcases List.mem_append.mp hb with u | u
            · exact n1.2.2 b u b (List.mem_append_left _ wi) rfl
            · rcases List.mem_append.mp u with u | u
              · rcases List.mem_cons.mp u with u | u
                · exact n3.1 (by rw [← u]; simp [w])
                · rcases List.mem_append.mp u with u | u
                  · exact n4.2.2 b u b (List.mem_append_left _ w) rfl
                  · exact n5.2.2 b w b (by simpa using u) rfl
              · exact n2.2.2 b wi b u rfl
          unfold plus
          rw [if_neg hn]
          exact (S0.dis b (sub.subset hb)).1
        · unfold plus at q
          split at q
          · rename_i w
            exact .inr (nA2 b w)
          · exact S0.new b q
end
def delD (ds : List (Key × D)) (k : Key) : List (Key × D) := ds.filter fun kv => decide (kv.1 ≠ k)
theorem RepK.del {cl : Cl} {H : Hp} (k : Key) : ∀ {ds : List (Key × D)} {xs : List (Key × V)}, RepK cl H ds xs → RepK cl H (delD ds k) (dropK xs k)
  | [], _, h => by cases h; exact .nil
  | (k0, d) :: ds, _, h => by
    cases h with
    | cons h1 h2 =>
      by_cases c : k0 = k
      · simpa [delD, dropK, List.filter_cons, c] using RepK.del k h2
      · have z := RepK.cons (k := k0) h1 (RepK.del k h2)
        simpa [delD, dropK, List.filter_cons, c] using z
section
variable {X : Cx} {E : En} {fin : List Kd → Prop} {kr : Kd} {ks ks' : List Kd} {i j : Nat} {n m0 : Option Addr} {kk : List (Str × Kd)} {C f x : Str} {e e2 : Expr} {g g2 : Sl → R D} {p0 p1 p2 p3 pos : Pos} {sts : List Stmt} {m : Sl → O}
/-- ahead of a block, at its end: field j of slot i is frozen -/
theorem sb_frzF (i j : Nat) (h : SB X E kr fin (ks.set i (.obj n (kk.set j (f, .val)))) sts m ks') (hk : ks[i]? = some (.obj n kk) := by rfl) (hj : kk[j]? = some (f, .own m0) := by rfl) (fo : (Kd.obj n kk).fine = true := by rfl) : SB X E kr fin ks sts m ks' := by
  refine ⟨fun Hs H r σ W Dn tk S P => ?_⟩
  obtain ⟨Hs2, S2⟩ := S.fldFrz hk hj fo
  exact h.run _ _ _ _ _ _ tk S2 P
/-- x.f.pop(e), a statement -/
@[simp] def mFldPopK (C f : Str) (i j : Nat) (g : Sl → R D) : Sl → O := fun r => onR (noX (gFld C i j r)) r fun d0 => match d0 with
  | .dct es => onR (noX (g r)) r fun d => (match keyOf d with
    | some k => (match valD es k, r[i]? with
      | some _, some (some (.obj C' fs)) => .nx (r.set i (some (.obj C (fs.set j (f, .dct (delD es k))))))
      | _, _ => .stuck)
    | none => .stuck)
  | _ => .stuck
/-- x.f[e] = e2 -/
@[simp] def mFldPutK (C f : Str) (i j : Nat) (g g2 : Sl → R D) : Sl → O := fun r => onR (noX (g2 r)) r fun d2 => onR (noX (gFld C i j r)) r fun d0 => match d0 with
  | .dct es => onR (noX (g r)) r fun d => (match keyOf d with
    | some k => (match r[i]? with
      | some (some (.obj C' fs)) => if es.length < szL then .nx (r.set i (some (.obj C (fs.set j (f, .dct (putD es k d2)))))) else .stuck
      | _ => .stuck)
    | none => .stuck)
  | _ => .stuck
theorem ss_fldPopK (T : FldOk X.K E.cl C f) (he : SE X E ks .bor e g) (hnd : (kk.map (·.1)).Nodup) (hq : NmOk x) (hk : ks[i]? = some (.obj n kk) := by rfl) (hj : kk[j]? = some (f, .own m0) := by rfl)
    (fo : (Kd.obj n kk).fine = true := by rfl) (hN : X.N[i]? = some x := by rfl) (hv : Vis X.env.scope x := by first | exact Or.inl rfl | exact Or.inr (Or.inl rfl) | exact Or.inr (Or.inr rfl))
    (hs : swapsWith (.Call (.Attribute (.Attribute (.Name x p1) f p0) "pop" p2) [e] [] p3) none pos.line X.env = pure false := by rfl)
    (hb : attributeBase (.Name x p1) f X.env (eval (.Name x p1) X.env) = eval (.Name x p1) X.env := by rfl)
    (hm : M1 X (.Attribute (.Name x p1) f p0) "pop" p2 e p3 := by exact ⟨rfl, rfl, rfl, rfl⟩) :
    SS X E kr fin ks (.Expr (.Call (.Attribute (.Attribute (.Name x p1) f p0) "pop" p2) [e] [] p3) pos) (mFldPopK C f i j g) ks := by
  refine ⟨fun Hs H r σ W Dn tk S P => ?_⟩
  refine ws_of (ps_expr (pe_dpop1 (pe_fld (pe_var hN hv hq.1 hq.2) hb) pe_we hm) hs) ?_
  unfold mFldPopK at P
  cases q : gFld C i j r with
  | stuck => rw [q] at P; exact P.elim
  | exc x => exact (gFld_exc q).elim
  | ok d0 =>
    rw [q] at P
    dsimp only [onR, noX] at P
    cases d0 <;> first | exact P.elim | skip
    rename_i es
    obtain ⟨fs, g0, e1, e2⟩ := gFld_ok q
    have hg : g0 = f := by
      obtain ⟨a, c, dx, xs, As, _, _, _, h3⟩ := S.objAt hk e1
      exact names_at h3 hj e2
    subst hg
    obtain ⟨a, c, dx, xs, b, ys, e, h1, h2, nm, h3, nb, h4, r1, _⟩ := S.fldMutK hk e1 fo hj e2
    refine ⟨_, e, a, c, dx, xs, .ref b, rfl, h2, (T c h1).1, (T c h1).2, lookup_at (by rw [nm]; exact hnd) h3, b, rfl, .inl ⟨_, .inl h4⟩, ?_⟩
    refine he.run _ _ _ _ _ _ tk S ?_
    cases q1 : g r with
    | stuck => rw [q1] at P; exact P.elim
    | exc z => rw [q1] at P; exact P.elim
    | ok d =>
      rw [q1] at P
      dsimp only [onR, noX] at P
      intro v Hs' H' g1 k1
      split at P
      · rename_i k qk
        have ev := keyOf_rb k1.rb qk
        subst ev
        split at P
        · rename_i d2 C' fs' ev2 er2
          rw [e1] at er2
          cases er2
          obtain ⟨a', c', dx', xs', b', ys', e', h1', h2', nm', h3', nb', h4', r1', up⟩ := (S.grow g1).fldMutK hk e1 fo hj e2
          rw [e] at e'
          cases e'
          have eb : b' = b := by
            have z := g1.h.at _ _ h2
            rw [h2'] at z
            cases z
            rw [h3] at h3'
            cases h3'
            rfl
          subst eb
          obtain ⟨v2, ev3, _⟩ := r1'.at_ k ev2
          exact ⟨ys', k, v2, h4', rfl, ev3, P _ _ _ (up _ _ (r1'.del k))⟩
        · exact P.elim
      · exact P.elim
theorem ss_fldPutK (hu : X.A.units + 65 < cLine) (T : FldOk X.K E.cl C f) (he : SE X E ks .bor e g) (he2 : SE X E ks .val e2 g2) (hnd : (kk.map (·.1)).Nodup) (hq : NmOk x) (hk : ks[i]? = some (.obj n kk) := by rfl) (hj : kk[j]? = some (f, .own m0) := by rfl)
    (fo : (Kd.obj n kk).fine = true := by rfl) (hN : X.N[i]? = some x := by rfl) (hv : Vis X.env.scope x := by first | exact Or.inl rfl | exact Or.inr (Or.inl rfl) | exact Or.inr (Or.inr rfl))
    (hs : swapsWith e2 (some (.Subscript (.Attribute (.Name x p1) f p0) e p2)) pos.line X.env = pure false := by rfl)
    (hb : attributeBase (.Name x p1) f X.env (eval (.Name x p1) X.env) = eval (.Name x p1) X.env := by rfl) :
    SS X E kr fin ks (.Assign [.Subscript (.Attribute (.Name x p1) f p0) e p2] e2 pos) (mFldPutK C f i j g g2) ks := by
  refine ⟨fun Hs H r σ W Dn tk S P => ?_⟩
  refine ws_of (ps_dput (by omega) (pe_fld (pe_var hN hv hq.1 hq.2) hb) pe_we pe_we hs) ?_
  unfold mFldPutK at P
  refine he2.run _ _ _ _ _ _ tk S ?_
  cases q2 : g2 r with
  | stuck => rw [q2] at P; exact P.elim
  | exc z => rw [q2] at P; exact P.elim
  | ok d2 =>
  rw [q2] at P
  intro v2 Hs1 H1 g1 k1
  have P1 := P
  dsimp only [onR, noX] at P1
  have S1 := S.grow g1
  cases q : gFld C i j r with
  | stuck => rw [q] at P1; exact P1.elim
  | exc x => exact (gFld_exc q).elim
  | ok d0 =>
    rw [q] at P1
    dsimp only [onR, noX] at P1
    cases d0 <;> first | exact P1.elim | skip
    rename_i es
    obtain ⟨fs, g0, e1, e2⟩ := gFld_ok q
    have hg : g0 = f := by
      obtain ⟨a, c, dx, xs, As, _, _, _, h3⟩ := S1.objAt hk e1
      exact names_at h3 hj e2
    subst hg
    obtain ⟨a, c, dx, xs, b, ys, e, h1, h2, nm, h3, nb, h4, r1, _⟩ := S1.fldMutK hk e1 fo hj e2
    refine ⟨_, e, a, c, dx, xs, .ref b, rfl, h2, (T c h1).1, (T c h1).2, lookup_at (by rw [nm]; exact hnd) h3, ?_⟩
    refine he.run _ _ _ _ _ _ tk S1 ?_
    cases q1 : g r with
    | stuck => rw [q1] at P1; exact P1.elim
    | exc z => rw [q1] at P1; exact P1.elim
    | ok d =>
      rw [q1] at P1
      dsimp only [onR, noX] at P1
      intro v Hs' H' g2 k2
      split at P1
      · rename_i k qk
        have ev := keyOf_rb k2.rb qk
        subst ev
        rw [e1] at P1
        dsimp only at P1
        split at P1
        · rename_i hz
          obtain ⟨a', c', dx', xs', b', ys', e', h1', h2', nm', h3', nb', h4', r1', up⟩ := (S1.grow g2).fldMutK hk e1 fo hj e2
          rw [e] at e'
          cases e'
          have eb : b' = b := by
            have z := g2.h.at _ _ h2
            rw [h2'] at z
            cases z
            rw [h3] at h3'
            cases h3'
            rfl
          subst eb
          exact ⟨b', _, rfl, DPut.k h4' (by rw [szL_eq, r1'.len]; exact hz), P1 _ _ _ (up _ _ (r1'.put k (Rep.same g2.s _ _ k1.rep)))⟩
        · exact P1.elim
      · exact P1.elim
/-- an if whose test raises nothing -/
@[simp] def gNoT (tc : Sl → R Bool) : Sl → R Bool := fun r => noX (tc r)
theorem ss_ifN {fin : List Kd → Prop} {kr : Kd} {ks ks' : List Kd} {c : Expr} {a b : List Stmt} {tc : Sl → R Bool} {m1 m2 : Sl → O} {pos : Pos} (hc : ST X E ks c tc) (ha : SB X E kr fin ks a m1 ks') (hb : SB X E kr fin ks b m2 ks') : SS X E kr fin ks (.If c a b pos) (mIf (gNoT tc) m1 m2) ks' := by
  refine ⟨fun Hs H r σ W Dn tk S P => ?_⟩
  refine ws_of (ps_if pt_wt pss_ws pss_ws) ?_
  refine hc.run _ _ _ _ _ _ tk S ?_
  unfold mIf gNoT at P
  cases q : tc r with
  | stuck => rw [q] at P; exact P
  | exc x => rw [q] at P; exact P.elim
  | ok x =>
    rw [q] at P
    intro Hs' H' g1
    cases x with
    | true => exact iteT (ha.run _ _ _ _ _ _ tk (S.grow g1) P)
    | false => exact iteF (hb.run _ _ _ _ _ _ tk (S.grow g1) P)
end
end VL
end

noncomputable section
namespace VL
open PySem PySem.Spec PyProof.Rows L2
variable {md : Md}

section
variable {X : Cx} {E : En} {ks : List Kd} {e f o : Expr} {g gf go : Sl → R D} {pos apos cpos : Pos}
end
section
variable {X : Cx} {E : En} {fin : List Kd → Prop} {kr : Kd} {ks : List Kd} {i : Nat} {n : Option Addr} {x : Str} {e : Expr} {g : Sl → R D} {p1 p2 p3 pos : Pos}
end
end VL
end

noncomputable section
namespace VL
open PySem PySem.Spec PyProof.Rows L2
variable {md : Md}

def putsK : List Kd → List Nat → List Kd → List Kd
  | ks, i :: is, k :: kf => putsK (ks.set i k) is kf
  | ks, _, _ => ks
section
variable {E : En} {Hs H Hs' H' : Hp} {ks : List Kd} {r : Sl} {σ : L2.St}
end
def Kd.nm : Kd → Option Addr
  | .own n => n
  | .obj n _ => n
  | .lls n _ => n
  | _ => none
section
variable {cl : Cl} {N : Addr → Prop} {B Hs H : Hp}
end
section
variable {X : Cx} {E : En} {ks : List Kd} {is : List Nat} {fr : Bool} {bs : List Bool} {es : List Expr} {t : Sl → R (List D)} {i : Nat} {x : Str} {p pos : Pos}
end
section
variable {X : Cx} {E : En} {fin : List Kd → Prop} {kr : Kd} {ks ks' : List Kd} {is : List Nat} {kf : List Kd} {k n : Nat} {bs0 : Bool} {k1 k2 : List Kd} {bs : List Bool} {x : Str} {e : Expr} {es : List Expr} {f : List D → O} {t : Sl → R (List D)} {p pos : Pos}
end
end VL
end

noncomputable section
namespace VL
open PySem PySem.Spec PyProof.Rows L2
variable {md : Md}

section
variable {X : Cx} {E : En} {fin : List Kd → Prop} {kr : Kd} {ks ks' : List Kd} {i : Nat} {n : Option Addr} {x : Str} {p1 p2 p3 pos : Pos}
end

section
variable {X : Cx} {E : En} {fin : List Kd → Prop} {kr : Kd} {ks ks' : List Kd} {k : Nat} {b0 : Bool} {bs : List Bool} {x : Str} {e : Expr} {es : List Expr} {f : List D → R D} {g : Sl → O} {t : Sl → R (List D)} {p pos : Pos}
end

def PostTX (E : En) (ks' : List Kd) (fin : List Kd → Prop) (W : WX) (σ : L2.St) (Q : Bool → Hp → Prop) : O → Prop
  | .rt (.bl b) r => ∀ Hs' H', StRel E Hs' H' ks' r σ → Q b H'
  | .exc x r => ∀ Hs' H' c dd ks2, fin ks2 → StRel E Hs' H' ks2 r σ → XRep E.cl Hs' H' x c dd → W c dd σ H'
  | _ => False
@[simp] def onB (o : O) (k : Bool → Sl → O) : O := match o with
  | .rt (.bl b) r => k b r
  | .exc x r => .exc x r
  | _ => .stuck
theorem PostTX.on {E : En} {ks' : List Kd} {fin : List Kd → Prop} {W : WX} {σ : L2.St} {Q1 : Bool → Hp → Prop} {o : O} {kk : Bool → Sl → O} {F : O → Prop} (hs : ¬ F .stuck) (hx : ∀ x r, F (.exc x r) → ∀ Hs' H' c dd ks2, fin ks2 → StRel E Hs' H' ks2 r σ → XRep E.cl Hs' H' x c dd → W c dd σ H') (P : F (onB o kk))
    (h : ∀ b r' Hs' H', o = .rt (.bl b) r' → StRel E Hs' H' ks' r' σ → F (kk b r') → Q1 b H') : PostTX E ks' fin W σ Q1 o := by
  cases o with
  | stuck => exact (hs P).elim
  | nx r => exact (hs P).elim
  | exc x r => exact hx x r P
  | rt d r =>
    cases d <;> first | exact (hs P).elim | skip
    rename_i b
    exact fun Hs' H' S => h b r Hs' H' rfl S P
section
variable {X : Cx} {E : En} {fin : List Kd → Prop} {kr : Kd} {ks ks1 ks' : List Kd} {e a b : Expr} {rest : List Expr} {g ga : Sl → O} {tb : Sl → R Bool} {m1 m2 : Sl → O} {s1 s2 : List Stmt} {pos : Pos}
end
end VL
end

noncomputable section
namespace VL
open PySem PySem.Spec PyProof.Rows L2
open ModeZ

/-- the lambda object at f, with its code object at cN -/
def LamO (X : Cx) (f cN : Addr) (params : Arguments) (body : Expr) (scope : Scope) : HO := .ext fun h => ∃ pm ctv : Value, h.get? f = some (PySem.W.kla_obj "<lambda>" (X.env.qual ++ "<lambda>") params body scope (cloFrom X.env.cells scope.names []) pm cN ctv)
theorem lamO_nt {X : Cx} {f cN : Addr} {params : Arguments} {body : Expr} {scope : Scope} : NT (LamO X f cN params body scope) := fun ps z => by
  unfold LamO at z
  cases z
section
variable {X : Cx} {pins : List (Addr × Obj)} {σ : L2.St} {H : Hp} {s : Shared}
end
section
variable {X : Cx} {E : En} {fin : List Kd → Prop} {kr : Kd} {ks ks' : List Kd} {k : Nat}
/-- at f stands a lambda that does what g tells -/
def Acts (X : Cx) (E : En) (fin : List Kd → Prop) (kr : Kd) (ks ks' : List Kd) (k : Nat) (f : Addr) (H : Hp) (g : Sl → O) : Prop := ∃ (params : Arguments) (body : Expr) (scope : Scope) (cN : Addr), H f = some (LamO X f cN params body scope) ∧ H cN = some (LamX.CodeO cN (X.env.qual ++ "<lambda>")) ∧ LamX.LamS X.env.scope scope ∧
  (∀ (q : Str) (cl : List (Str × Addr)) (pm cv ctv : Value), bindArgs (PySem.W.kla_fn "<lambda>" q params body scope cl pm cv ctv) ⟨[], []⟩ = pure []) ∧
  ∀ (A : Around) (outer : List Env) (s1 : Shared) (H1 : Hp) (Ex : XK), Room k (A.deeper (LamX.lamEnv X scope s1.heap.objs.size f cN)) → SX (LamX.lamCx X A outer s1 H1 Ex scope f cN) E fin ks kr body g ks'
theorem Acts.same {f : Addr} {H H' : Hp} {g : Sl → O} (h : Acts X E fin kr ks ks' k f H g) (e : Same H H') : Acts X E fin kr ks ks' k f H' g := by
  obtain ⟨params, body, scope, cN, h1, h2, h3⟩ := h
  exact ⟨params, body, scope, cN, e.at _ _ h1 lamO_nt, e.at _ _ h2 (fun ps => codeO_tbl ps), h3⟩
def AllC (X : Cx) (E : En) (fin : List Kd → Prop) (kr : Kd) (ks ks' : List Kd) (k : Nat) (H : Hp) : List (Str × (Sl → O)) → List (Str × Addr) → Prop
  | [], [] => True
  | p :: gs, q :: fs => p.1 = q.1 ∧ Acts X E fin kr ks ks' k q.2 H p.2 ∧ AllC X E fin kr ks ks' k H gs fs
  | _, _ => False
theorem AllC.same {H H' : Hp} (e : Same H H') : ∀ {gs : List (Str × (Sl → O))} {fs : List (Str × Addr)}, AllC X E fin kr ks ks' k H gs fs → AllC X E fin kr ks ks' k H' gs fs
  | [], [], h => h
  | [], _ :: _, h => h.elim
  | _ :: _, [], h => h.elim
  | p :: gs, q :: fs, h => ⟨h.1, h.2.1.same e, AllC.same e h.2.2⟩
theorem AllC.keys {H : Hp} : ∀ {gs : List (Str × (Sl → O))} {fs : List (Str × Addr)}, AllC X E fin kr ks ks' k H gs fs → fs.map (·.1) = gs.map (·.1)
  | [], [], h => rfl
  | [], _ :: _, h => h.elim
  | _ :: _, [], h => h.elim
  | p :: gs, q :: fs, h => by rw [List.map_cons, List.map_cons, h.1, h.2.2.keys]
theorem AllC.look {H : Hp} {x : Str} {g : Sl → O} : ∀ {gs : List (Str × (Sl → O))} {fs : List (Str × Addr)}, AllC X E fin kr ks ks' k H gs fs → gs.lookup x = some g → ∃ f, valV (fs.map fun p => ((Sum.inr p.1 : Key), V.ref p.2)) (.inr x) = some (.ref f) ∧ Acts X E fin kr ks ks' k f H g
  | [], [], h, e => by cases e
  | [], _ :: _, h, e => h.elim
  | _ :: _, [], h, e => h.elim
  | (y, g0) :: gs, (z, f) :: fs, h, e => by
    obtain ⟨h1, h2, h3⟩ := h
    dsimp only at h1 h2
    subst h1
    rw [List.lookup_cons] at e
    by_cases c : x = y
    · subst c
      rw [beq_self_eq_true] at e
      cases e
      exact ⟨f, by unfold valV; simp, h2⟩
    · rw [beq_eq_false_iff_ne.mpr c] at e
      obtain ⟨f2, q, a⟩ := h3.look e
      refine ⟨f2, ?_, a⟩
      have c2 : ¬ (Sum.inr y : Key) = Sum.inr x := fun w => c (by cases w; rfl)
      unfold valV at q ⊢
      rw [List.map_cons, List.find?_cons_of_neg (by simpa using c2)]
      exact q
theorem AllC.imp {H H' : Hp} (e : ∀ b o, H b = some o → o ≠ .dK [] → H' b = some o) : ∀ {gs : List (Str × (Sl → O))} {fs : List (Str × Addr)}, AllC X E fin kr ks ks' k H gs fs → AllC X E fin kr ks ks' k H' gs fs
  | [], [], h => h
  | [], _ :: _, h => h.elim
  | _ :: _, [], h => h.elim
  | p :: gs, q :: fs, h => by
    obtain ⟨h1, ⟨params, body, scope, cN, b1, b2, b3⟩, h3⟩ := h
    exact ⟨h1, ⟨params, body, scope, cN, e _ _ b1 (fun z => by unfold LamO at z; cases z), e _ _ b2 (fun z => by unfold LamX.CodeO at z; cases z), b3⟩, AllC.imp e h3⟩
end
end VL
end

noncomputable section
namespace VL
open PySem PySem.Spec PyProof.Rows L2
open ModeZ

/-- an own class with a field, made while an exception is handled -/
structure XAtH (P : Program) (w : World) (K : PySem.W.Frag) (mg : Str → Option Value) (base : Heap) (cl : Cl) (C : Str) (k : Nat) : Prop where
  ex : ∃ a fI fd ps, cl.f C = some a ∧ mg C = some (.ref a) ∧ OexC K a ∧ PySem.W.findIn K (.ref a) "__init__" = some (some (.ref fI)) ∧ PySem.W.typeIn K (.ref fI) = some (.type "function") ∧ Binds K fd ps [] ∧
    L2H.FnH P w K mg base CX0 k fI fd ps (fun vs H Q _ => ∃ x v, vs = [.ref x, v] ∧ H x = some (exo x a none) ∧ ∀ dx, H dx = none → dx ≠ x → Q .non (upd (upd H x (exo x a (some dx))) dx (exd dx [("at", v)])))
theorem xatH_mk {P : Program} {w : World} {K : PySem.W.Frag} {mg : Str → Option Value} {base : Heap} {cl : Cl} {C qual : Str} {a fI : Addr} {fd : FuncData} {st : Stmt} {p p1 p2 p3 : Pos} (T : OexC K a) (hcl : cl.f C = some a) (gm : mg C = some (.ref a))
    (iC : PySem.W.findIn K (.ref a) "__init__" = some (some (.ref fI))) (tI : PySem.W.typeIn K (.ref fI) = some (.type "function")) (hno : PySem.W.findIn K (.ref a) "at" = some none)
    (F : Fun K "__init__" qual st fI fd) (S : FnScope ["self", "at"] ["self", "at"] (defScope st)) (bn : Binds K fd ["self", "at"] []) (hb : defBody st = [.Assign [.Attribute (.Name "self" p1) "at" p2] (.Name "at" p3) p])
    (v1 : Vis (defScope st) "self") (v2 : Vis (defScope st) "at")
    (hs : ∀ X : Cx, X.env.scope = defScope st → swapsWith (.Name "at" p3) (some (.Attribute (.Name "self" p1) "at" p2)) p.line X.env = pure false) : XAtH P w K mg base cl C 1 := by
  refine ⟨a, fI, fd, ["self", "at"], hcl, gm, T, iC, tI, bn, ?_⟩
  obtain ⟨oc, od, kV, doc, pm, an, cdv, ct, osl, rfl, lk, hcd⟩ := F.ex
  refine L2H.fn_ofH lk hcd S (fun vs H Q E ⟨x, v, e, _⟩ => by rw [e] <;> rfl) fun A outer s H vs Q E p hot hr ⟨x, v, e, hx, q⟩ => ?_
  subst e
  rw [hb]
  refine ⟨_, pss_one (ps_ost (pe_var (i := 0) rfl v1 (by decide) (by decide)) (pe_var (i := 1) rfl v2 (by decide) (by decide)) (hs _ rfl)), ?_⟩
  refine ⟨v, rfl, .ref x, rfl, x, a, rfl, T, hno, .inl ⟨hx, fun dx hd ne => ?_⟩⟩
  have := q dx hd ne
  rw [upd_comm (Ne.symm ne)] at this
  exact this
@[simp] def mTryR (mb : Sl → O) (Dx C : Str) (g : Sl → R D) : Sl → O := fun r => match mb r with
  | .exc x r' => if subX x.cls Dx then onR (g r') r' fun d => .exc ⟨C, some d⟩ r' else .exc x r'
  | o => o
section
variable {X : Cx} {E : En} {kr : Kd} {fin : List Kd → Prop} {ks ks' : List Kd}
theorem ss_tryR {body : List Stmt} {mb : Sl → O} {Dx C : Str} {e : Expr} {g : Sl → R D} {k j : Nat} {p1 p3 np rpos cpos pos' pos : Pos}
    (hbody : ∀ (pn : List (Addr × Obj)) (xe : Value → Shared → Prop), SB (md := mN) (X.tr pn xe) E kr (fun k => k = ks ∧ fin k) ks body mb ks')
    (he : ∀ (a : Addr) (pn : List (Addr × Obj)), SE (L2H.suiteX X a pn) E ks .val e g) (T : HSub X.K X.mg E.cl Dx) (TC : XAtH X.prog X.w X.K X.mg X.base E.cl C k) (hr : Room (k + 1) X.A) (hqD : NmOk Dx) (hqC : NmOk C) (hgD : Gl X Dx := by rfl) (hgC : Gl X C := by rfl)
    (hf : fin ks := by trivial) (st : X.stack = X.env :: X.outer := by rfl) (fr : X.env.frame = some X.env.locals := by rfl) (hpa : ∀ hd : Option Value, PassesOwnAt (model X.prog X.w) (X.A.mark hd) X.A X.env X.xe := by exact L2H.passesAt_of rfl)
    (hst : starEach (e :: []) X.env = (false, eval e X.env) :: starEach [] X.env := by rfl) (hpl : (backTo p3 (starEach [] X.env)).any (·.1) = false := by rfl) :
    SS X E kr fin ks (.Try body [.ExceptHandler (some (.Name Dx np)) none [.Raise (some (.Call (.Name C p1) [e] [] p3)) (some (.Constant .none j cpos)) rpos] pos'] [] [] pos) (mTryR mb Dx C g) ks' := by
  refine ⟨fun Hs H r σ W Dn tk S P => ?_⟩
  obtain ⟨aD, gD, subD⟩ := T.ex
  obtain ⟨a, fI, fd, ps, h1, h2, h3, h4, h5, h6, h7⟩ := TC.ex
  refine ws_of (L2H.ps_try_onlyX (c := .ref aD) (Wout := W) (tb := fun W D σ H => ∃ Hs r, StRel E Hs H ks r σ ∧ PostS E ks' kr (fun k => k = ks ∧ fin k) W D (mb r))
    (ts := fun _ cls d _ σ H => ∃ Hs x r, XRep E.cl Hs H x cls d ∧ subX x.cls Dx = true ∧ StRel E Hs H ks r σ ∧ PostS E ks' kr fin W Dn (onR (g r) r fun d => .exc ⟨C, some d⟩ r)) st fr ⟨hgD, hqD.1, .inl gD⟩ hpa tk (fun W pn xe tkN _ _ => ⟨fun pins s σ H D I hx => ?_⟩) (fun ae oe cls d pn hz hfl tkS hot => ⟨fun pins s σ H D I hx => ?_⟩)) ?_
  · obtain ⟨Hs, r, S, P⟩ := hx
    exact (wss_of pss_ws ((hbody pn xe).run (md := mN) Hs H r σ W D tkN S P)) pins s I
  · obtain ⟨Hs, x, r, xr, sx, S, P⟩ := hx
    refine (wss_of (pss_one (L2H.ps_raiseHN hot tkS (L2H.pmk5_oexH (e := e) (es := []) h3 h4 h5 h7 (L2H.roomH_mark hr _) hot h6 pass0 hgC h2 pa_wa hqC.1 hst hpl))) ?_) pins s I
    refine wa_one ((he ae _).run _ _ _ _ _ _ tkS S (Post.ofS hf S P fun d v Hs' H' e1 g1 k1 P1 => ?_)) hst
    refine ⟨by show 1 ≤ 1000; decide, fun x hx => ⟨x, v, rfl, upd_same, fun dx hd ne => ⟨rfl, dx, [("at", v)], ?_, upd_same, ?_, ?_⟩⟩⟩
    · rw [upd_ne ne.symm, upd_same]
    · rw [upd_ne ne] at hd
      exact hd
    · have hd' : H' dx = none := by
        rw [upd_ne ne] at hd
        exact hd
      have eq : upd (del (upd (upd (upd H' x (exo x a none)) x (exo x a (some dx))) dx (exd dx [("at", v)])) x) dx (.xd [("at", v)]) = upd H' dx (.xd [("at", v)]) := by
        funext b
        by_cases hb : b = dx
        · rw [hb, upd_same, upd_same]
        · rw [upd_ne hb, upd_ne hb]
          by_cases hx2 : b = x
          · rw [hx2, del_same, hx]
          · rw [del_ne hx2, upd_ne hb, upd_ne hx2, upd_ne hx2]
      rw [eq]
      have g2 := Grow.new g1.sub (o := .xd [("at", v)]) hd'
      exact P1 _ _ σ _ _ ks hf ((S.grow g1).grow g2) ⟨a, h1, rfl, dx, v, rfl, upd_same, Rep.same g2.s _ _ k1.rep⟩
  · refine ⟨Hs, r, S, ?_⟩
    have P' : PostS E ks' kr fin W Dn (match mb r with
      | .exc x r' => if subX x.cls Dx then onR (g r') r' fun d => .exc ⟨C, some d⟩ r' else .exc x r'
      | o => o) := P
    cases q : mb r with
    | stuck => rw [q] at P'; exact P'
    | nx r' => rw [q] at P'; exact P'
    | rt d r' => rw [q] at P'; exact fun Hs4 H4 σ4 v ks2 z S4 => P' Hs4 H4 σ4 v ks2 z.2 S4
    | exc x r' =>
      rw [q] at P'
      dsimp only at P'
      intro Hs4 H4 σ4 c dd ks2 z S4 xr
      obtain ⟨z1, z2⟩ := z
      subst z1
      obtain ⟨ac, e1, e2, e3⟩ := id xr
      refine ⟨subX x.cls Dx, by rw [e2]; exact subD _ _ e1, fun hb a0 na => ⟨Hs4, x, r', xr, hb, S4, ?_⟩, fun hb => ?_⟩
      · rw [if_pos hb] at P'
        exact P'
      · rw [if_neg (by simp [hb])] at P'
        exact P' Hs4 H4 σ4 c dd ks2 z2 S4 xr
end
end VL
end

noncomputable section
namespace VL
open PySem PySem.Spec PyProof.Rows L2
open ModeZ

theorem XRep.same {cl : Cl} {Hs Hs' H H' : Hp} {x : Exc} {c : Value} {dd : Option Addr} (e : Same Hs Hs') (h : XRep cl Hs H x c dd) : XRep cl Hs' H' x c dd := by
  obtain ⟨a, e1, e2, e3⟩ := h
  refine ⟨a, e1, e2, ?_⟩
  cases q : x.at_ with
  | none => rw [q] at e3; exact e3
  | some d =>
    rw [q] at e3
    obtain ⟨p, v, f1, f2, f3⟩ := e3
    exact ⟨p, v, f1, e.at _ _ f2, Rep.same e _ _ f3⟩
end VL
end

noncomputable section
namespace VL
open PySem PySem.Spec PyProof.Rows L2
section
variable {md : Md}
section
variable {P : Program} {w : World} {K : PySem.W.Frag} {mg : Str → Option Value} {base : Heap} {cl : Cl} {x qual : Str} {st : Stmt} {fa : Addr} {fd : FuncData} {N ps : List Str} {k : Nat} {bs : List Bool} {kr : Kd} {k1 k2 ls : List Kd} {m : Sl → O}
end
section
variable {X : Cx} {E : En} {fin : List Kd → Prop} {kr : Kd} {ks ks' : List Kd} {is : List Nat} {kf : List Kd} {k n : Nat} {bs0 : Bool} {k1 k2 : List Kd} {bs : List Bool} {x : Str} {e : Expr} {es : List Expr} {f : List D → O} {t : Sl → R (List D)} {p pos : Pos} {kz : Kd}
end
end
open ModeZ
end VL
end

noncomputable section
namespace VL
open PySem PySem.Spec PyProof.Rows L2
variable {md : Md}

def zipD (ds es : List D) : List D := (ds.zip es).map fun p => .tup [p.1, p.2]
theorem zipD_get {ds es : List D} {i : Nat} {d : D} (h : (zipD ds es)[i]? = some d) : ∃ d0 e0, ds[i]? = some d0 ∧ es[i]? = some e0 ∧ d = .tup [d0, e0] := by
  unfold zipD at h
  rw [List.getElem?_map] at h
  cases q : (ds.zip es)[i]? with
  | none => rw [q] at h; cases h
  | some p =>
    rw [q] at h
    obtain ⟨h1, h2⟩ := List.getElem?_zip_eq_some.mp q
    cases h
    exact ⟨_, _, h1, h2, rfl⟩
theorem zipD_len (ds es : List D) : (zipD ds es).length = min ds.length es.length := by unfold zipD; rw [List.length_map, List.length_zip]
theorem ItOk.zip {K : PySem.W.Frag} {cl : Cl} {a b : Addr} {xs ys : List V} {ds es : List D} {Hs Bq : Hp} (rp : RepL cl Hs ds xs) (rp2 : RepL cl Hs es ys) (rt : ∀ Hs' H, Same Hs Hs' → Same Hs' H → Same Bq H → H a = some (.lst xs)) (rt2 : ∀ Hs' H, Same Hs Hs' → Same Hs' H → Same Bq H → H b = some (.lst ys)) (hz : xs.length ≤ szL) : ItOk cl (Itz K a b) (zipD ds es) Hs Bq where
  len := by rw [zipD_len, ← rp.length]; omega
  go := fun Hs' H e1 e2 e3 i hi => by
    rw [zipD_len] at hi
    obtain ⟨v, e, _⟩ := rp.get (d := ds[i]'(by omega)) (i := i) (by simp)
    obtain ⟨v2, e', _⟩ := rp2.get (d := es[i]'(by omega)) (i := i) (by simp)
    exact ⟨xs, ys, v, v2, SqL.of (rt Hs' H e1 e2 e3), SqL.of (rt2 Hs' H e1 e2 e3), e, e'⟩
  stop := fun Hs' H e1 e2 e3 => ⟨xs, ys, SqL.of (rt Hs' H e1 e2 e3), SqL.of (rt2 Hs' H e1 e2 e3), by rw [zipD_len, rp.length, rp2.length]; omega⟩
  yld := fun Hs' H e1 e2 e3 i d x H' hd y => by
    obtain ⟨T, v, v2, rfl, hT, rfl, y1, y2⟩ := y
    obtain ⟨d0, e0, h1, h2, rfl⟩ := zipD_get hd
    obtain ⟨u, eu, ru⟩ := rp.get h1
    obtain ⟨u2, eu2, ru2⟩ := rp2.get h2
    have q := y1 xs (SqL.of (rt Hs' _ e1 e2 e3))
    have q2 := y2 ys (SqL.of (rt2 Hs' _ e1 e2 e3))
    rw [eu] at q
    cases q
    rw [eu2] at q2
    cases q2
    have gs := e1.trans (Same.updNew (o := .tup [v, v2]) (e2.free hT))
    exact ⟨_, Grow.new e2 hT, .tup upd_same (.cons (Rep.same gs _ _ ru) (.cons (Rep.same gs _ _ ru2) .nil))⟩
section
variable {X : Cx} {E : En} {ks : List Kd} {mb : Bool} {e e2 : Expr} {g g2 : Sl → R D} {p pos : Pos}
end
end VL
end

noncomputable section
namespace VL
open PySem PySem.Spec PyProof.Rows L2
variable {md : Md}

@[simp] def mFldPop (C f : Str) (i j : Nat) : Sl → O := fun r => onR (noX (gFld C i j r)) r fun d0 => match d0 with
  | .lst es => (match es.getLast? with
    | some d => (match r[i]? with
      | some (some (.obj C' fs)) => .rt d (r.set i (some (.obj C (fs.set j (f, .lst es.dropLast)))))
      | _ => .stuck)
    | none => .stuck)
  | _ => .stuck
@[simp] def mUnpackX (t : Tg) (g : Sl → O) : Sl → O := fun r => onX (g r) fun d r' => (match t.un d with
  | .ok xs => .nx (setD r' t.is xs)
  | _ => .stuck)
section
variable {X : Cx} {E : En} {fin : List Kd → Prop} {kr : Kd} {ks ks' : List Kd} {i j : Nat} {n : Option Addr} {kk : List (Str × Kd)} {C f x : Str} {e : Expr} {g : Sl → O} {p0 p1 p2 p3 pos : Pos}
theorem sx_fldPop {m : Option Addr} (T : FldOk X.K E.cl C f) (hnd : (kk.map (·.1)).Nodup) (hq : NmOk x) (hk : ks[i]? = some (.obj n kk) := by rfl) (hj : kk[j]? = some (f, .own m) := by rfl)
    (fo : (Kd.obj n kk).fine = true := by rfl) (hN : X.N[i]? = some x := by rfl) (hv : Vis X.env.scope x := by first | exact Or.inl rfl | exact Or.inr (Or.inl rfl) | exact Or.inr (Or.inr rfl))
    (hb : attributeBase (.Name x p1) f X.env (eval (.Name x p1) X.env) = eval (.Name x p1) X.env := by rfl)
    (hbase : attributeBase (.Attribute (.Name x p1) f p0) "pop" X.env (eval (.Attribute (.Name x p1) f p0) X.env) = eval (.Attribute (.Name x p1) f p0) X.env := by rfl) (hline : (p2.endLine == p3.line) = true := by rfl) :
    SX X E fin ks .val (.Call (.Attribute (.Attribute (.Name x p1) f p0) "pop" p2) [] [] p3) (mFldPop C f i j) ks := by
  refine ⟨fun Hs H r σ W Q tk S P => ?_⟩
  refine we_of (pe_bm0 PySem.F.plainAttrs_list PySem.F.slot_list_pop PySem.F.type_list_pop mt_pop (pe_fld (pe_var hN hv hq.1 hq.2) hb) hbase hline) ?_
  unfold mFldPop at P
  cases q : gFld C i j r with
  | stuck => rw [q] at P; exact P.elim
  | exc x => exact (gFld_exc q).elim
  | ok d0 =>
    rw [q] at P
    dsimp only [onR, noX] at P
    cases d0 <;> first | exact P.elim | skip
    rename_i es
    obtain ⟨fs, g0, e1, e2⟩ := gFld_ok q
    have hg : g0 = f := by
      obtain ⟨a, c, dx, xs, As, _, _, _, h3⟩ := S.objAt hk e1
      exact names_at h3 hj e2
    subst hg
    obtain ⟨a, c, dx, xs, b, ys, e, h1, h2, nm, h3, nb, h4, r1, up⟩ := S.fldMut hk e1 fo hj e2
    dsimp only at P
    split at P
    · rename_i d qd
      rw [e1] at P
      obtain ⟨v, ev, rv⟩ := r1.last qd
      have S2 := up _ _ r1.dropLast
      exact ⟨_, e, a, c, dx, xs, .ref b, rfl, h2, (T c h1).1, (T c h1).2, lookup_at (by rw [nm]; exact hnd) h3, tyV_lst h4, b, ys, v, rfl, rfl, h4, ev, P v _ _ (S2.push (k := .val) (Grow.refl S2.sub) rfl (RK.val rv))⟩
    · exact P.elim
/-- a, b = e, e changes slots -/
theorem ss_unpackX {tg : Expr} {t : Tg} (he : SX X E fin ks .val e g ks') (hg : SG X tg t) (hl : ∀ i ∈ t.is, i < ks'.length) (hs : swapsWithSole [tg] e pos.line X.env = pure false := by rfl) (hw : swappedStores [tg] e X.env = pure none := by rfl)
    (h1 : (assignEach [tg] X.env).map (·.2) = [assign tg X.env] := by rfl) : SS X E kr fin ks (.Assign [tg] e pos) (mUnpackX t g) (setK ks' t.is) := by
  refine ⟨fun Hs H r σ W Dn tk S P => ?_⟩
  refine ws_of (ps_asg pe_we pg_wg hs hw h1) ?_
  refine he.run _ _ _ _ _ _ tk S ?_
  unfold mUnpackX at P
  cases q : g r with
  | stuck => rw [q] at P; exact P.elim
  | nx r' => rw [q] at P; exact P.elim
  | exc y r' => rw [q] at P; exact fun Hs' H' c dd ks2 f S' xr => P Hs' H' σ c dd ks2 f S' xr
  | rt d r' =>
    rw [q] at P
    dsimp only [onX] at P
    intro v Hs' H' S1
    have rp : Rep E.cl Hs' d v := by
      obtain ⟨w, A, ew, o⟩ := S1.get (i := 0) rfl rfl
      cases ew
      cases o with
      | val h => exact h
    have S2 := S1.pop
    cases q1 : t.un d with
    | stuck => rw [q1] at P; exact P.elim
    | exc x => rw [q1] at P; exact P.elim
    | ok xs =>
      rw [q1] at P
      exact hg.run E.cl Hs' H' σ d v xs _ S2.sub rp q1 fun ys ry => P _ _ _ (StRel.puts S2 hl (Tg.un_len q1) ry)
end

section
variable {X : Cx} {E : En} {fin : List Kd → Prop} {kr : Kd} {ks ks' ks1 : List Kd} {e a b : Expr} {rest : List Expr} {g ga gb : Sl → O} {gv : Sl → R D} {pos : Pos}
theorem PostX.bool {W : WX} {σ : L2.St} {Q1 Q : VK} {o : O} {kk : Bool → Sl → O} (P : PostX E ks1 .val fin W σ Q (onX o fun d r' => match d with
      | .bl b => kk b r'
      | _ => .stuck)) (h : ∀ b r' Hs' H', StRel E Hs' H' ks1 r' σ → PostX E ks1 .val fin W σ Q (kk b r') → Q1 (.bl b) H') : PostX E ks1 .val fin W σ Q1 o := by
  cases o with
  | stuck => exact P.elim
  | nx r => exact P.elim
  | exc x r => exact P
  | rt d r =>
    cases d <;> first | exact P.elim | skip
    rename_i b
    intro v Hs' H' S1
    obtain ⟨w, A, ew, o⟩ := S1.get (i := 0) rfl rfl
    cases ew
    cases o with
    | val rp =>
      cases rp
      exact h b r Hs' H' S1.pop P
end
end VL
end

noncomputable section
namespace VL
open PySem PySem.Spec PyProof.Rows L2
variable {md : Md}

section
variable {X : Cx} {E : En} {ks : List Kd} {a b : Expr} {ga gb : Sl → R D} {p p2 q pos : Pos}
end
end VL
end

noncomputable section
namespace VL
open PySem PySem.Spec PyProof.Rows L2
variable {md : Md}

section
variable {X : Cx} {E : En} {ks : List Kd} {a : Expr} {ga : Sl → R D} {x : Str} {l : List (Str × Str)} {p pos : Pos}
end
end VL
end

noncomputable section
namespace VL
open PySem PySem.Spec PyProof.Rows L2
variable {md : Md}

section
variable {X : Cx} {E : En} {ks : List Kd} {a b c : Expr} {ta : TA} {p p2 q pos : Pos} {t : Sl → R (List D)}
end
end VL
end

noncomputable section
namespace VL
open PySem PySem.Spec PyProof.Rows L2
variable {md : Md}

section
variable {X : Cx} {E : En} {ks : List Kd} {e : Expr} {g : Sl → R D} {x : Str} {j : Nat} {kp pos : Pos}
end
end VL
end

noncomputable section
namespace VL
open PySem PySem.Spec PyProof.Rows L2
variable {md : Md}

inductive Src where
  | l (a : Addr)
  | t (x : Str)
def Src.it (h : Heap) (i1 : Addr) (i : Nat) : Src → Prop
  | .l a => h.IsListIter i1 a i
  | .t x => ∃ tk, h.IsStrIter i1 (strIterType x) x tk i
def Src.val : Src → V
  | .l a => .ref a
  | .t x => .str x
def Src.has (K : PySem.W.Frag) (H : Hp) (i : Nat) (v : V) : Src → Prop
  | .l a => ∃ xs, SqL K H a xs ∧ xs[i]? = some v
  | .t x => ∃ c, x.cps[i]? = some c ∧ v = .str ⟨#[c]⟩
def Src.len (K : PySem.W.Frag) (H : Hp) (n : Nat) : Src → Prop
  | .l a => ∃ xs : List V, SqL K H a xs ∧ xs.length = n
  | .t x => x.cps.size = n
def Src.fp (i1 : Addr) : Src → List Addr
  | .l a => [i1, a]
  | .t _ => [i1]
def Src.off (i1 : Addr) : Src → Prop
  | .l a => a ≠ i1
  | .t _ => True
section
variable {X : Cx} {pins : List (Addr × Obj)} {σ : L2.St} {H : Hp} {s : Shared}
end
/-- a source is at hand, and stays -/
structure SrcOk (K : PySem.W.Frag) (cl : Cl) (Hs Bq : Hp) (ds : List D) (r : Src) : Prop where
  sz : ds.length ≤ szL
  len : ∀ Hs' H, Same Hs Hs' → Same Hs' H → Same Bq H → r.len K H ds.length
  has : ∀ Hs' H, Same Hs Hs' → Same Hs' H → Same Bq H → ∀ i d, ds[i]? = some d → ∃ v, r.has K H i v ∧ Rep cl Hs' d v
theorem SrcOk.grow {K : PySem.W.Frag} {cl : Cl} {Hs Bq Hs2 Bq2 : Hp} {ds : List D} {r : Src} (S : SrcOk K cl Hs Bq ds r) (a : Same Hs Hs2) (b : Same Bq Bq2) : SrcOk K cl Hs2 Bq2 ds r :=
  ⟨S.sz, fun Hs' H e1 e2 e3 => S.len Hs' H (a.trans e1) e2 (b.trans e3), fun Hs' H e1 e2 e3 => S.has Hs' H (a.trans e1) e2 (b.trans e3)⟩
section
variable {X : Cx} {E : En} {ks : List Kd} {mb : Bool} {e e2 : Expr} {g g2 : Sl → R D} {p pos : Pos}
end
end VL
end

noncomputable section
namespace VL
open PySem PySem.Spec PyProof.Rows L2
variable {md : Md}

section
variable {X : Cx} {E : En} {ks : List Kd}
end
section
variable {X : Cx} {E : En} {ks : List Kd} {a : Expr} {ga : Sl → R D} {x : Str} {l : List (Str × Str)} {p pos : Pos}
end
end VL
end

noncomputable section
namespace VL
open PySem PySem.Spec PyProof.Rows L2
variable {md : Md}

section
variable {X : Cx} {E : En} {ks : List Kd} {i : Nat} {n : Option Addr} {k : Kd} {x : Str} {b : Expr} {gb : Sl → R D} {p pos : Pos}
end
structure El where
  ds : List D
  n : Int
  k : Nat
  d : D
inductive EV (H : Hp) : List El → List V → List V → Prop
  | nil : EV H [] [] []
  | cons {t : El} {T : List El} {a : Addr} {xs : List V} {u : V} {uf ue : List V} : H a = some (.lst xs) → xs.length = t.ds.length → xs[t.k]? = some u → EV H T uf ue → EV H (t :: T) (.ref a :: uf) (u :: ue)
theorem EV.inj {H : Hp} : ∀ {T : List El} {uf ue ue' : List V}, EV H T uf ue → EV H T uf ue' → ue = ue'
  | _, _, _, _, .nil, .nil => rfl
  | _, _, _, _, .cons a1 _ a3 a4, .cons b1 _ b3 b4 => by
    rw [a1] at b1
    cases b1
    rw [a3] at b3
    cases b3
    rw [EV.inj a4 b4]
theorem EV.grow {Hs H Hs' H' : Hp} (g : Grow Hs H Hs' H') : ∀ {T : List El} {uf ue : List V}, EV H T uf ue → EV H' T uf ue
  | _, _, _, .nil => .nil
  | _, _, _, .cons a1 a2 a3 a4 => .cons (g.h.at _ _ a1 (by intro _ z; cases z)) a2 a3 (EV.grow g a4)
section
variable {cl : Cl} {N : Addr → Prop} {B Hs H : Hp}
end
section
variable {X : Cx} {E : En} {ks : List Kd} {is : List (Nat × Nat)} {bs : List Bool} {es : List Expr} {t : Sl → R (List D)} {i j : Nat} {x y : Str} {p p2 pos pos2 : Pos}
end
section
variable {X : Cx} {E : En} {fin : List Kd → Prop} {kr : Kd} {ks ks' : List Kd} {is : List (Nat × Nat)} {kf ke : List Kd} {k n : Nat} {bs0 : Bool} {k1 k2 : List Kd} {bs : List Bool} {x : Str} {e : Expr} {es : List Expr} {f : List D → O} {t : Sl → R (List D)} {p pos : Pos}
end
end VL
end

noncomputable section
namespace VL
open PySem PySem.Spec PyProof.Rows L2
variable {md : Md}

section
variable {E : En} {Hs H : Hp} {ks : List Kd} {r : Sl} {σ : L2.St}
end
section
variable {X : Cx} {E : En} {fin : List Kd → Prop} {kr : Kd} {ks ks' : List Kd} {i : Nat} {n : Option Addr} {k : Kd} {x : Str} {e b : Expr} {gb gv : Sl → R D} {g : Sl → O} {p1 p2 p pos : Pos}
end
section
variable {X : Cx} {E : En} {fin : List Kd → Prop} {kr : Kd} {ks : List Kd} {i : Nat} {n : Option Addr} {x m C : Str} {b : Expr} {gb : Sl → R D} {f : List D → O} {k : Nat} {k1 : List (Str × Kd)} {p1 p2 apos pos : Pos}
end
section
variable {P : Program} {w : World} {K : PySem.W.Frag} {mg : Str → Option Value} {base : Heap} {cl : Cl} {x qual : Str} {st : Stmt} {fa : Addr} {fd : FuncData} {N ps : List Str} {k : Nat} {bs : List Bool} {kr : Kd} {k1 k2 ls : List Kd} {m : Sl → O}
end
section
variable {X : Cx} {E : En} {fin : List Kd → Prop} {ks ks' : List Kd} {a b : Expr} {rest : List Expr} {ga gb : Sl → O} {ta : Sl → R Bool} {pos : Pos}
end
end VL
end

noncomputable section
namespace VL
open PySem PySem.Spec PyProof.Rows L2
variable {md : Md}

/-- a zip at turn i; S: the list that is made -/
structure ZSt (h : Heap) (z TI TO i1 i2 l1 l2 S : Addr) (xs ys : Array Value) (i : Nat) : Prop where
  ti : IsPair h TI (.ref i1) (.ref i2)
  h1 : h.IsListIter i1 l1 i
  h2 : h.IsListIter i2 l2 i
  x : h.IsList l1 xs
  y : h.IsList l2 ys
  hz : (IsZip h z TI TO .none ∧ ∃ a b, IsPair h TO a b) ∨ ∃ T f oT, IsZipHeld h z TI TO T f ∧ h.get? T = some oT ∧ T ≠ z ∧ T ≠ i1 ∧ T ≠ i2 ∧ T ≠ S
structure ZOff (S z TI TO i1 i2 l1 l2 : Addr) : Prop where
  z : S ≠ z
  ti : S ≠ TI
  to : S ≠ TO
  a : S ≠ i1
  b : S ≠ i2
  x : S ≠ l1
  y : S ≠ l2
theorem ZSt.keep {h h' : Heap} {z TI TO i1 i2 l1 l2 S : Addr} {xs ys : Array Value} {i : Nat} (st : ZSt h z TI TO i1 i2 l1 l2 S xs ys i) (O : ZOff S z TI TO i1 i2 l1 l2) (hk : ∀ b o, b ≠ S → h.get? b = some o → h'.get? b = some o) : ZSt h' z TI TO i1 i2 l1 l2 S xs ys i := by
  obtain ⟨hTI, h1, h2, hl1, hl2, hz⟩ := st
  refine ⟨hk _ _ (Ne.symm O.ti) hTI, h1.at fun o e => hk _ o (Ne.symm O.a) e, h2.at fun o e => hk _ o (Ne.symm O.b) e, hl1.at fun o e => hk _ o (Ne.symm O.x) e, hl2.at fun o e => hk _ o (Ne.symm O.y) e, ?_⟩
  rcases hz with ⟨hz, a, b, hTO⟩ | ⟨T, f, oT, hz, hT, r1, r2, r3, r4⟩
  · exact .inl ⟨hk _ _ (Ne.symm O.z) hz, a, b, hk _ _ (Ne.symm O.to) hTO⟩
  · exact .inr ⟨T, f, oT, hk _ _ (Ne.symm O.z) hz, hk _ _ r4 hT, r1, r2, r3, r4⟩
section
variable {prog : Program} {w : World} {A : Around} {E : Value → Shared → Prop} {s : Shared} {z TI TO i1 i2 l1 l2 S : Addr} {xs ys : Array Value} {i : Nat}
end
/-- the tuples made -/
structure ZG (xs ys : Array Value) (lo : Addr) (h : Heap) (as : List Addr) : Prop where
  rise : as.Pairwise (· < ·)
  above : ∀ a ∈ as, lo ≤ a
  pairs : ∀ (j : Nat) (a : Addr), as[j]? = some a → ∃ x y, xs[j]? = some x ∧ ys[j]? = some y ∧ h.get? a = some { cls := .type "tuple", data := .seq #[x, y] }
theorem ZG.there {xs ys : Array Value} {lo : Addr} {h : Heap} {as : List Addr} (g : ZG xs ys lo h as) {a : Addr} (ha : a ∈ as) : a < h.objs.size := by
  obtain ⟨j, hj⟩ := List.mem_iff_getElem?.mp ha
  obtain ⟨_, _, _, _, e⟩ := g.pairs j a hj
  exact Heap.lt_size e
section
variable {prog : Program} {w : World} {A : Around} {s : Shared} {R : Result → Shared → Prop} {z TI TO i1 i2 l1 l2 S : Addr} {xs ys : Array Value}
end
section
variable {prog : Program} {w : World} {A : Around} {E : Value → Shared → Prop} {s : Shared} {z TI TO i1 i2 l1 l2 : Addr} {xs ys : Array Value}
/-- a zip as it is made -/
structure Z0 (h : Heap) (z TI TO i1 i2 l1 l2 : Addr) (xs ys : Array Value) : Prop where
  z : IsZip h z TI TO .none
  ti : IsPair h TI (.ref i1) (.ref i2)
  to : ∃ a b, IsPair h TO a b
  h1 : h.IsListIter i1 l1 0
  h2 : h.IsListIter i2 l2 0
  x : h.IsList l1 xs
  y : h.IsList l2 ys
theorem Z0.keep {S : Addr} {h h' : Heap} (st : Z0 h z TI TO i1 i2 l1 l2 xs ys) (O : ZOff S z TI TO i1 i2 l1 l2) (hk : ∀ b o, b ≠ S → h.get? b = some o → h'.get? b = some o) : Z0 h' z TI TO i1 i2 l1 l2 xs ys :=
  ⟨hk _ _ (Ne.symm O.z) st.z, hk _ _ (Ne.symm O.ti) st.ti, let ⟨a, b, e⟩ := st.to; ⟨a, b, hk _ _ (Ne.symm O.to) e⟩, st.h1.at fun o e => hk _ o (Ne.symm O.a) e, st.h2.at fun o e => hk _ o (Ne.symm O.b) e, st.x.at fun o e => hk _ o (Ne.symm O.x) e, st.y.at fun o e => hk _ o (Ne.symm O.y) e⟩
theorem Z0.st {S : Addr} {h : Heap} (st : Z0 h z TI TO i1 i2 l1 l2 xs ys) : ZSt h z TI TO i1 i2 l1 l2 S xs ys 0 := ⟨st.ti, st.h1, st.h2, st.x, st.y, .inl ⟨st.z, st.to⟩⟩
end
theorem RepL.mk {cl : Cl} {H : Hp} : ∀ {ds : List D} {vs : List V}, ds.length = vs.length → (∀ (j : Nat) (d : D) (v : V), ds[j]? = some d → vs[j]? = some v → Rep cl H d v) → RepL cl H ds vs
  | [], [], _, _ => .nil
  | [], _ :: _, h, _ => by cases h
  | _ :: _, [], h, _ => by cases h
  | d :: ds, v :: vs, h, f => .cons (f 0 d v rfl rfl) (RepL.mk (Nat.succ.inj h) fun j d v e1 e2 => f (j + 1) d v (by simpa using e1) (by simpa using e2))
end VL
end

noncomputable section
namespace VL
open PySem PySem.Spec PyProof.Rows L2
variable {md : Md}

section
variable {X : Cx} {E : En} {ks : List Kd} {k : Kd} {e : Expr} {es : List Expr} {g : Sl → R D} {t : Sl → R (List D)} {pos : Pos}
end
section
variable {X : Cx} {E : En} {Hs H : Hp} {ks : List Kd} {r : Sl} {σ : L2.St} {i : Nat} {k : Kd}
end
section
variable {X : Cx} {E : En} {kr : Kd} {fin : List Kd → Prop} {ks : List Kd} {i j : Nat} {n m : Option Addr} {x y : Str} {e : Expr} {g : Sl → R D} {pos p1 p2 p3 p4 p5 p6 : Pos}
end
end VL
end

noncomputable section
namespace VL
open PySem PySem.Spec PyProof.Rows L2 PySem.Calls PySem.W

section
variable {prog : Program} {w : World} {A : Around} {E : Value → Shared → Prop} {s : Shared} {a kS : Addr} {b : Bool} {vs : List Value} {keys : Array Value} {e e1 : Nat} {P : PySem.Fin → Shared → Prop} {kz : List PyData} {h₀ : Heap}
end

section
variable {md : Md} {X : Cx}
end
end VL
end

noncomputable section
namespace VL
open PySem PySem.Spec PyProof.Rows L2
variable {md : Md}

section
variable {X : Cx} {E : En} {ks : List Kd} {e o : Expr} {g go : Sl → R D} {pos apos cpos : Pos}
variable {es : List Expr} {t : Sl → R (List D)} {bs : List Bool}
end
end VL
end

noncomputable section
namespace VL
open PySem PySem.Spec PyProof.Rows L2
variable {md : Md}

section
variable {X : Cx} {e : Expr} {te : TE} {p apos cpos pos : Pos}
end
section
variable {X : Cx} {E : En} {ks : List Kd} {o : Expr} {go : Sl → R D} {p apos cpos pos : Pos}
end
section
variable {X : Cx} {E : En} {ks : List Kd} {e : Expr} {es : List Expr} {t : Sl → R (List D)} {p pos : Pos}
end
end VL
end

noncomputable section
namespace VL
open PySem PySem.Spec PyProof.Rows L2

section
variable {M : Model} {A : Around} {E : Value → Shared → Prop} {s : Shared} {Z : Obj → Prop} {base : Heap} {env cenv : Env} {outer l : List Env} {L e : Addr} {m : Str → Option Value}
end
end VL
end

noncomputable section
namespace VL
open PySem PySem.Spec PyProof.Rows L2
variable {md : Md}

end VL
end

noncomputable section
namespace VL
open PySem PySem.Spec PyProof.Rows L2
variable {md : Md}

section
variable {X : Cx} {E : En} {fin : List Kd → Prop} {kr : Kd} {ks ks' : List Kd} {i j : Nat} {n : Option Addr} {kk : List (Str × Kd)} {kF k2F : Kd} {C fn : Str} {k m : Nat} {bs0 : Bool} {bs : List Bool} {x y : Str} {e : Expr} {es : List Expr} {f : List D → O} {t : Sl → R (List D)} {p p2 pos pos2 : Pos}
end
end VL
end

noncomputable section
namespace VL
open PySem PySem.Spec PyProof.Rows L2
variable {md : Md}

section
variable {X : Cx} {E : En} {fin : List Kd → Prop} {ks ks' : List Kd} {a b : Expr} {rest : List Expr} {ga g : Sl → O} {gb : Sl → R D} {ta : Sl → R Bool} {pos : Pos}
end
end VL
end

noncomputable section
namespace VL
open PySem PySem.Spec PyProof.Rows L2
variable {md : Md}

section
variable {X : Cx} {E : En} {fin : List Kd → Prop} {kr : Kd} {ks : List Kd} {e : Expr} {es : List Expr} {g : Sl → R D} {k : Nat} {tpos pos : Pos}
end
end VL
end

noncomputable section
namespace VL
open PySem PySem.Spec PyProof.Rows L2

variable {md : Md}
end VL
end

noncomputable section
namespace VL
open PySem PySem.Spec PyProof.Rows L2
variable {md : Md}

section
variable {X : Cx} {E : En} {ks : List Kd} {tg : Expr} {p1 : Pos}
end
end VL
end

noncomputable section
namespace VL
open PySem PySem.Spec PyProof.Rows L2
open ModeZ

def Mutb (o : HO) : Prop := ∀ p, o ≠ .ext p
mutual
theorem ORep.mutb {cl : Cl} {N : Addr → Prop} {B Hs H : Hp} : ∀ (k : Kd) (d : D) (v : V) (A : List Addr), ORep cl N B Hs H k d v A → ∀ a ∈ A, ∃ o, H a = some o ∧ Mutb o
  | .val, _, _, _, h => by cases h; intro a z; cases z
  | .bor, _, _, _, h => by cases h <;> (intro a z; cases z)
  | .own n, _, _, _, h => by
    cases h with
    | ownL _ h1 _ => intro a z; simp at z; subst z; exact ⟨_, h1, by intro _ z; cases z⟩
    | ownK _ h1 _ => intro a z; simp at z; subst z; exact ⟨_, h1, by intro _ z; cases z⟩
    | ownV _ _ => intro a z; cases z
  | .obj n ks, _, _, _, h => by
    cases h with
    | obj _ _ h2 h3 =>
      intro a z
      rcases List.mem_cons.mp z with e | z
      · rw [e]; exact ⟨_, h2, by intro _ z; cases z⟩
      · exact OFs.mutb ks _ _ _ h3 a z
  | .adr _, _, _, _, h => by cases h; intro a z; cases z
  | .lls n k, _, _, _, h => by
    cases h with
    | lls _ h1 h2 =>
      intro a z
      rcases List.mem_cons.mp z with e | z
      · rw [e]; exact ⟨_, h1, by intro _ z; cases z⟩
      · exact OLs.all (fun d v A o => ORep.mutb k d v A o) h2 a z
    | llT _ h1 h2 =>
      intro a z
      rcases List.mem_cons.mp z with e | z
      · rw [e]; exact ⟨_, h1, by intro _ z; cases z⟩
      · exact OLs.all (fun d v A o => ORep.mutb k d v A o) h2 a z
    | llV _ _ => intro a z; cases z
theorem OFs.mutb {cl : Cl} {N : Addr → Prop} {B Hs H : Hp} : ∀ (ks : List (Str × Kd)) (ds : List (Str × D)) (xs : List (Str × V)) (A : List Addr), OFs cl N B Hs H ks ds xs A → ∀ a ∈ A, ∃ o, H a = some o ∧ Mutb o
  | [], _, _, _, h => by cases h; intro a z; cases z
  | (f, k) :: ks, _, _, _, h => by
    cases h with
    | cons h1 h2 =>
      intro a z
      rcases List.mem_append.mp z with z | z
      · exact ORep.mutb k _ _ _ h1 a z
      · exact OFs.mutb ks _ _ _ h2 a z
end
theorem Slots.mutb {E : En} {Hs H : Hp} : ∀ {ks : List Kd} {r : Sl} {t : L2.St} {As : List Addr}, Slots E Hs H ks r t As → ∀ a ∈ As, ∃ o, H a = some o ∧ Mutb o
  | _, _, _, _, .nil, a, z => by cases z
  | _, _, _, _, .skip h, a, z => Slots.mutb h a z
  | _, _, _, _, .cons h1 h2, a, z => by
    rcases List.mem_append.mp z with z | z
    · exact ORep.mutb _ _ _ _ h1 a z
    · exact Slots.mutb h2 a z
section
variable {cl : Cl} {N : Addr → Prop} {B B' Hs H : Hp}
mutual
theorem RB.back (hB : ∀ a o, B a = some o → Mutb o → B' a = some o) : ∀ {d : D} {v : V}, RB cl Hs B d v → RB cl Hs B' d v
  | _, _, .val r => .val r
  | _, _, .lst h1 h2 => .lst (hB _ _ h1 (by intro _ z; cases z)) h2
  | _, _, .dct h1 h2 => .dct (by
      rcases h1 with z | ⟨od, z⟩
      · exact .inl (hB _ _ z (by intro _ w; cases w))
      · exact .inr ⟨od, hB _ _ z (by intro _ w; cases w)⟩) h2
  | _, _, .obj h0 h1 h2 => .obj h0 (hB _ _ h1 (by intro _ z; cases z)) (RBF.back hB h2)
theorem RBF.back (hB : ∀ a o, B a = some o → Mutb o → B' a = some o) : ∀ {ds : List (Str × D)} {vs : List (Str × V)}, RBF cl Hs B ds vs → RBF cl Hs B' ds vs
  | _, _, .nil => .nil
  | _, _, .cons a b => .cons (RB.back hB a) (RBF.back hB b)
end
mutual
theorem ORep.back (hB : ∀ a o, B a = some o → Mutb o → B' a = some o) : ∀ (k : Kd) (d : D) (v : V) (A : List Addr), ORep cl N B Hs H k d v A → ORep cl N B' Hs H k d v A
  | .val, d, v, _, h => by
    cases h with
    | val h1 => exact .val h1
  | .bor, d, v, _, h => by
    cases h with
    | borV h1 => exact .borV h1
    | borL h1 h2 => exact .borL (hB _ _ h1 (by intro _ z; cases z)) h2
    | borK h1 h2 =>
      refine .borK ?_ h2
      rcases h1 with z | ⟨od, z⟩
      · exact .inl (hB _ _ z (by intro _ w; cases w))
      · exact .inr ⟨od, hB _ _ z (by intro _ w; cases w)⟩
    | borO h0 h1 h2 => exact .borO h0 (hB _ _ h1 (by intro _ z; cases z)) (RBF.back hB h2)
  | .own n, d, v, _, h => by
    cases h with
    | ownL h0 h1 h2 => exact .ownL h0 h1 h2
    | ownK h0 h1 h2 => exact .ownK h0 h1 h2
    | ownV h0 h1 => exact .ownV h0 h1
  | .obj n ks, d, v, _, h => by
    cases h with
    | obj h0 h1 h2 h3 => exact .obj h0 h1 h2 (OFs.back hB ks _ _ _ h3)
  | .adr p, d, v, _, h => by
    cases h with
    | adr => exact .adr
  | .lls n kd, d, v, _, h => by
    cases h with
    | lls h0 h1 h2 => exact .lls h0 h1 (OLs.imp (fun _ => True) (fun _ _ _ => trivial) (fun _ _ _ => trivial) (fun d v A _ r => ORep.back hB kd d v A r) trivial h2)
    | llT h0 h1 h2 => exact .llT h0 h1 (OLs.imp (fun _ => True) (fun _ _ _ => trivial) (fun _ _ _ => trivial) (fun d v A _ r => ORep.back hB kd d v A r) trivial h2)
    | llV h0 h1 => exact .llV h0 h1
theorem OFs.back (hB : ∀ a o, B a = some o → Mutb o → B' a = some o) : ∀ (ks : List (Str × Kd)) (ds : List (Str × D)) (vs : List (Str × V)) (A : List Addr), OFs cl N B Hs H ks ds vs A → OFs cl N B' Hs H ks ds vs A
  | [], _, _, _, h => by cases h; exact .nil
  | (f, kd) :: ks, _, _, _, h => by
    cases h with
    | cons h1 h2 => exact .cons (ORep.back hB kd _ _ _ h1) (OFs.back hB ks _ _ _ h2)
end
end
theorem Slots.back {E : En} {b' Hs H : Hp} (hB : ∀ a o, b' a = some o → Mutb o → E.b a = some o) : ∀ {ks : List Kd} {r : Sl} {t : L2.St} {As : List Addr}, Slots ⟨E.cl, E.h, E.s, b'⟩ Hs H ks r t As → Slots E Hs H ks r t As
  | _, _, _, _, .nil => .nil
  | _, _, _, _, .skip z => .skip (Slots.back hB z)
  | _, _, _, _, .cons h1 h2 => .cons (ORep.back hB _ _ _ _ h1) (Slots.back hB h2)
section
variable {X : Cx} {E : En}
/-- at f stands a lambda that tells g -/
def Asks (X : Cx) (cl : Cl) (h : Hp) (ks : Addr → List Kd) (k : Nat) (B : Hp) (g : Sl → R D) (fc : Addr × Addr) : Prop := ∃ (params : Arguments) (body : Expr) (scope : Scope), B fc.1 = some (LamO X fc.1 fc.2 params body scope) ∧ B fc.2 = some (LamX.CodeO fc.2 (X.env.qual ++ "<lambda>")) ∧ LamX.LamS X.env.scope scope ∧
  (∀ (q : Str) (cl : List (Str × Addr)) (pm cv ctv : Value), bindArgs (PySem.W.kla_fn "<lambda>" q params body scope cl pm cv ctv) ⟨[], []⟩ = pure []) ∧
  ∀ (A : Around) (outer : List Env) (s1 : Shared) (H1 : Hp) (Ex : XK) (s bb : Hp) (L : Addr), Room k (A.deeper (LamX.lamEnv X scope s1.heap.objs.size fc.1 fc.2)) → SE (LamX.lamCx X A outer s1 H1 Ex scope fc.1 fc.2) ⟨cl, h, s, bb⟩ (ks L) .val body g
def AllA (X : Cx) (cl : Cl) (h : Hp) (ksf : Addr → Addr → List Kd) (k : Nat) (B : Hp) : List (Sl → R D) → List (Addr × Addr) → Prop
  | [], [] => True
  | g :: gs, f :: fs => Asks X cl h (fun L => ksf L f.1) k B g f ∧ AllA X cl h ksf k B gs fs
  | _, _ => False
theorem AllA.imp {cl : Cl} {h : Hp} {ksf : Addr → Addr → List Kd} {k : Nat} {B B' : Hp} : ∀ {gs : List (Sl → R D)} {fs : List (Addr × Addr)}, (∀ f ∈ fs, ∀ p, (B f.1 = some (.ext p) → B' f.1 = some (.ext p)) ∧ (B f.2 = some (.ext p) → B' f.2 = some (.ext p))) → AllA X cl h ksf k B gs fs → AllA X cl h ksf k B' gs fs
  | [], [], _, _ => trivial
  | [], _ :: _, _, h => h.elim
  | _ :: _, [], _, h => h.elim
  | g :: gs, f :: fs, e, h => by
    obtain ⟨⟨params, body, scope, b1, b2, b3⟩, h2⟩ := h
    exact ⟨⟨params, body, scope, (e f List.mem_cons_self _).1 b1, (e f List.mem_cons_self _).2 b2, b3⟩, AllA.imp (fun f2 hf => e f2 (List.mem_cons_of_mem _ hf)) h2⟩
theorem AllA.len {cl : Cl} {h : Hp} {ksf : Addr → Addr → List Kd} {k : Nat} {B : Hp} : ∀ {gs : List (Sl → R D)} {fs : List (Addr × Addr)}, AllA X cl h ksf k B gs fs → fs.length = gs.length
  | [], [], _ => rfl
  | [], _ :: _, h => h.elim
  | _ :: _, [], h => h.elim
  | _ :: gs, _ :: fs, h => by rw [List.length_cons, List.length_cons, h.2.len]
theorem AllA.at_ {cl : Cl} {h : Hp} {ksf : Addr → Addr → List Kd} {k : Nat} {B : Hp} : ∀ {gs : List (Sl → R D)} {fs : List (Addr × Addr)} {c : Nat} {f : Addr × Addr}, AllA X cl h ksf k B gs fs → fs[c]? = some f → ∃ g, gs[c]? = some g ∧ Asks X cl h (fun L => ksf L f.1) k B g f
  | [], [], _, _, _, e => by simp at e
  | [], _ :: _, _, _, h, _ => h.elim
  | _ :: _, [], _, _, h, _ => h.elim
  | g :: gs, f0 :: fs, 0, f, h, e => by cases e; exact ⟨g, rfl, h.1⟩
  | g :: gs, f0 :: fs, c + 1, f, h, e => h.2.at_ e
end
end VL
end

noncomputable section
namespace VL
open PySem PySem.Spec PyProof.Rows L2
open ModeZ

section
variable {X : Cx} {pins : List (Addr × Obj)} {σ : L2.St} {H : Hp} {s : Shared}
end
end VL
end

noncomputable section
namespace VL
open PySem PySem.Spec PyProof.Rows L2
variable {md : Md}

theorem sans_get {H : Hp} {A : List Addr} {a : Addr} {o : L2.HO} (h : sans H A a = some o) : H a = some o := by
  unfold sans at h
  split at h
  · cases h
  · exact h
section
variable {E : En} {Hs H : Hp} {ks : List Kd} {r : Sl} {σ : L2.St} {i : Nat} {k : Kd} {d : D}
/-- as chgV; and what else stands, stands without the lent thing -/
theorem StRel.chgI (S : StRel E Hs H ks r σ) (hk : ks[i]? = some k) (hd : r[i]? = some (some d)) (fk : k.fine = true) :
    ∃ v Af, σ[i]? = some (some v) ∧ ORep E.cl (fun a => sans H Af a = none) (sans H Af) Hs H k d v Af ∧ Af.Nodup ∧ (∀ a ∈ Af, Hs a = none) ∧ StRel E Hs (sans H Af) ks (r.set i none) σ ∧
      ∀ (Hs' H' : Hp) (k2 : Kd) (d2 : D) (A2 : List Addr), k2.fine = true → Grow Hs (sans H Af) Hs' H' → ORep E.cl (fun a => sans H Af a = none) (sans H Af) Hs' H' k2 d2 v A2 → A2.Nodup → (∀ a ∈ A2, Hs' a = none ∧ sans H Af a = none) →
        StRel E Hs' H' (ks.set i k2) (r.set i (some d2)) σ ∧
        ∀ (k0 : Kd) (d0 : D) (v0 : V) (A0 : List Addr), k0.fine = true → ORep E.cl (fun a => sans H Af a = none) (sans H Af) Hs' H' k0 d0 v0 A0 → (A0 ++ A2).Nodup → (∀ a ∈ A0, Hs' a = none ∧ sans H Af a = none) →
          StRel E Hs' H' (k0 :: ks.set i k2) (some d0 :: r.set i (some d2)) (some v0 :: σ) := by
  have sub := S.sub
  obtain ⟨v, ev, S1⟩ := S.take hk hd
  obtain ⟨Af, m, nd, dz, back⟩ := StRel.lend (kf := [k]) (df := [d]) (uf := [v]) (r := r.set i none) S1 rfl rfl (by simp [fk])
  have alone : StRel E Hs (sans H Af) ks (r.set i none) σ := by
    have w := back Hs (sans H Af) [.val] [.non] [.non] [] (by simp [Kd.fine]) (Grow.refl (sans_sub sub dz)) (by
      have w := RM.cons (.val .non) (.nil (cl := E.cl) (N := fun a => sans H Af a = none) (B := sans H Af) (Hs := Hs) (H := sans H Af))
      exact w) List.nodup_nil (fun a z => by cases z)
    exact StRel.pop w.1
  refine ⟨v, Af, ev, ?_, nd, dz, alone, fun Hs' H' k2 d2 A2 fk2 g o nd2 di2 => ?_⟩
  · cases m with
    | cons o t =>
      cases t
      rw [List.append_nil]
      rw [List.append_nil] at o
      exact o
  · have w := back Hs' H' [k2] [d2] [v] A2 (by simp [fk2]) g (by
      have w := RM.cons o (.nil (cl := E.cl) (N := fun a => sans H Af a = none) (B := sans H Af) (Hs := Hs') (H := H'))
      rw [List.append_nil] at w
      exact w) nd2 di2
    refine ⟨?_, fun k0 d0 v0 A0 f0 o0 nd0 di0 => ?_⟩
    · have q := StRel.settle (ks := ks) (r := r.set i none) (σ := σ) w.1 hk
      rw [List.set_set] at q
      rw [set_self ev] at q
      exact q
    · have z := StRel.swap (w.2 k0 d0 v0 A0 f0 o0 nd0 di0)
      have q := StRel.settle (ks := k0 :: ks) (r := some d0 :: r.set i none) (σ := some v0 :: σ) (i := i + 1) z (by simpa using hk)
      rw [List.set_cons_succ, List.set_cons_succ, List.set_cons_succ, List.set_set, set_self ev] at q
      exact q
end
/-- a method some of whose arguments are borrowed -/
structure FiMB [md : Md] (P : Program) (w : World) (K : PySem.W.Frag) (mg : Str → Option Value) (base : Heap) (cl : Cl) (C m : Str) (k : Nat) (k1 k2 : List (Str × Kd)) (bs : List Bool) (kr : Kd) (f : List D → O) : Prop where
  ex : ∃ fa fd ps, (∀ c, cl.o C = some c → Cls K c ∧ Meth K c m fa) ∧ FnOk P w K mg base (CXM P w) k fa fd ps (spM cl [.obj none k1] [.obj none k2] bs kr f) ∧ Binds K fd ps []
theorem def_okSB {P : Program} {w : World} {K : PySem.W.Frag} {mg : Str → Option Value} {base : Heap} {cl : Cl} {C x qual : Str} {st : Stmt} {fa : Addr} {fd : FuncData} {N ps : List Str} {k : Nat} {bs : List Bool} {kr : Kd} {k1 k2 : List (Str × Kd)} {ls : List Kd} {m : Sl → O} {ks' : Addr → List Kd}
    (F : Fun K x qual st fa fd) (S : FnScope N ps (defScope st)) (bn : Binds K fd ps []) (M : ∀ c, cl.o C = some c → Cls K c ∧ Meth K c x fa) (hb : 1 + bs.length = ps.length) (hN : N.length = ps.length + ls.length) (fk : kr.fine = true) (f2 : (Kd.obj none k2).fine = true)
    (hn : kr = .val ∨ kr = .own none) (hk' : ∀ a, (ks' a).take 1 = [.obj (some a) k2])
    (body : ∀ (a : Addr) (cdv : Value) (A : Around) (outer : List Env) (s : Shared) (H : Hp) (E : XK) (h0 s0 b0 : Hp), Room k (A.deeper (envOfC qual (defScope st) s.heap.objs.size fa cdv)) →
      SB (cxOf (CXM P w) P w K mg base N qual (defScope st) fa cdv A outer s H E) ⟨cl, h0, s0, b0⟩ kr (fun ks2 => ks2.take 1 = [.obj (some a) k2]) (.obj (some a) k1 :: (bs.map kdOf ++ ls)) (defBody st) m (ks' a)) : FiMB P w K mg base cl C x (k + 1) k1 k2 bs kr (runM m 1 ls.length) := by
  refine ⟨fa, fd, ps, M, def_okM (k1 := [.obj none k1]) (k2 := [.obj none k2]) (ks' := fun as => ks' (as.headD 0)) F S (by simpa using hb) hN fk rfl (by simp [f2]) rfl hn (fun as l => ?_) (fun as l => ?_), bn⟩
  · match as, l with
    | [a], _ => exact hk' a
  · match as, l with
    | [a], _ => exact body a
@[simp] def mMethI (C : Str) (i : Nat) (f : List D → O) (g : Sl → R D) (j : Nat) (gb : Sl → R D) : Sl → O := fun r => match r[i]? with
  | some (some (.obj C' fs)) => if C' = C then (match g r with
    | .ok d => (match r[j]? with
      | some (some (.lst ds)) => (match gb r with
        | .ok (.int m) => (match ixN ds.length m with
          | some c => (match ds[c]? with
            | some (.lst es) => (match f [.obj C fs, d, .lst es] with
              | .rt d0 [some d'] => .rt d0 (r.set i (some d'))
              | .exc x [some d'] => .exc x (r.set i (some d'))
              | _ => .stuck)
            | _ => .stuck)
          | none => .stuck)
        | _ => .stuck)
      | _ => .stuck)
    | _ => .stuck) else .stuck
  | _ => .stuck
section
variable {X : Cx} {E : En} {fin : List Kd → Prop} {kr : Kd} {ks ks' : List Kd} {i j : Nat} {n n2 m2 : Option Addr} {k : Nat} {k1 k2 : List (Str × Kd)} {x y C m : Str} {e b : Expr} {f : List D → O} {g gb : Sl → R D} {p1 p2 p3 apos pos : Pos}
/-- x.m(e, y[b]) -/
theorem sx_methI (F : FiMB X.prog X.w X.K X.mg X.base E.cl C m k k1 k2 [true, false] kr f) (hr : Room k X.A) (he : SE X E ks .val e g) (hb : SE X E ks .bor b gb) (hq : NmOk x) (hqy : NmOk y) (hno : m ∉ k1.map (·.1)) (hij : i ≠ j) (hk : ks[i]? = some (.obj n k1) := by rfl) (hkj : ks[j]? = some (.lls n2 (.own m2)) := by rfl)
    (h2 : ks.set i (.obj n k2) = ks' := by rfl) (hf : fin ks' := by trivial) (f1 : (Kd.obj n k1).fine = true := by rfl) (f2 : (Kd.obj n k2).fine = true := by rfl) (fr : kr.fine = true := by rfl) (hN : X.N[i]? = some x := by rfl) (hv : Vis X.env.scope x := by first | exact Or.inl rfl | exact Or.inr (Or.inl rfl) | exact Or.inr (Or.inr rfl))
    (hNy : X.N[j]? = some y := by rfl) (hvy : Vis X.env.scope y := by first | exact Or.inl rfl | exact Or.inr (Or.inl rfl) | exact Or.inr (Or.inr rfl)) (hs : PlainIx b := by exact fun _ _ => rfl) {pl : Sem Bool}
    (hst : starEach [e, .Subscript (.Name y p2) b p3] X.env = (false, eval e X.env) :: starEach [.Subscript (.Name y p2) b p3] X.env := by rfl)
    (hst2 : starEach [.Subscript (.Name y p2) b p3] X.env = (false, eval (.Subscript (.Name y p2) b p3) X.env) :: starEach [] X.env := by rfl) (hpl : (backTo pos (starEach [.Subscript (.Name y p2) b p3] X.env)).any (·.1) = false := by rfl)
    (ht : eval (.Call (.Attribute (.Name x p1) m apos) [e, .Subscript (.Name y p2) b p3] [] pos) X.env = (do
      let ov ← eval (.Name x p1) X.env
      standAt apos.atName
      let (f, first) ← holding [ov] (getMethod ov m pl)
      callWith pos f first (backTo pos (starEach [e, .Subscript (.Name y p2) b p3] X.env)) (backToKw pos (keywordEach [] X.env))) := by rfl) :
    SX X E fin ks kr (.Call (.Attribute (.Name x p1) m apos) [e, .Subscript (.Name y p2) b p3] [] pos) (mMethI C i f g j gb) ks' := by
  subst h2
  refine ⟨fun Hs H r σ W Q tk S P => ?_⟩
  obtain ⟨fa, fd, ps, F1, F2, F3⟩ := F.ex
  unfold mMethI at P
  split at P
  · rename_i C' fs hd
    split at P
    · rename_i hc
      subst hc
      obtain ⟨a, c, dx, xs, As, ea, hc, h1, h3⟩ := S.objAt hk hd
      obtain ⟨M1, M2⟩ := F1 c hc
      refine we_of (pe_mS (pe_var hN hv hq.1 hq.2) M1 M2 F2 hr F3 (fun σ => passAt tk σ) (pa_cons pe_we (pa_cons (pe_ix ix_seq (pe_var hNy hvy hqy.1 hqy.2) pe_we hs) pa_nil hst2) hst) hst hpl ht) ?_
      refine ⟨.ref a, ea, a, dx, xs, rfl, h1, lookup_out (by rw [h3.names.1]; exact hno), ?_⟩
      refine he.run _ _ _ _ _ _ tk S ?_
      split at P
      · rename_i d qe
        rw [qe]
        intro v Hs1 H1 g1 rk
        have S1 := S.grow g1
        split at P
        · rename_i ds qd
          obtain ⟨w, A0, ew, _⟩ := S1.get hkj qd
          refine ⟨w, ew, ?_⟩
          refine hb.run _ _ _ _ _ _ tk S1 ?_
          split at P
          · rename_i mi qb
            rw [qb]
            intro v2 Hs2 H2 g2 kk2
            cases kk2.rb.intInv
            have S2 := S1.grow g2
            obtain ⟨aL, xs2, eL, hL, lL, kL⟩ := S2.lmut hkj qd
            rw [ew] at eL
            cases eL
            split at P
            · rename_i c0 qc
              split at P
              · rename_i es q0
                obtain ⟨bq, ys, e1, nb, h4, r1, _⟩ := kL c0 es q0
                refine .inl ⟨aL, xs2, mi, .ref bq, rfl, rfl, SqL.of hL, ?_, ?_⟩
                · unfold atI
                  rw [lL, qc]
                  exact e1
                · obtain ⟨v0, Af, ev, o, nd, dz, alone, back⟩ := S2.chgI hk hd f1
                  rw [ea] at ev
                  cases ev
                  have qd' : (r.set i none)[j]? = some (some (.lst ds)) := by rw [List.getElem?_set_ne hij]; exact qd
                  obtain ⟨aL', xs2', eL', hL', lL', kL'⟩ := alone.lmut hkj qd'
                  rw [ew] at eL'
                  cases eL'
                  have z := sans_get hL'
                  rw [hL] at z
                  cases z
                  obtain ⟨bq', ys', e1', _, h4', r1', _⟩ := kL' c0 es q0
                  rw [e1] at e1'
                  cases e1'
                  obtain ⟨b0, eb, op, hn⟩ := o.pinO
                  cases eb
                  have rv : Rep E.cl Hs2 d v := Rep.same g2.s _ _ rk.rep
                  refine ⟨[a], [v, .ref bq], [.obj C' fs], [d, .lst es], Hs2, Af, rfl, rfl, S2.sub, ?_, nd, dz, .val rv (.bor (.lst h4' r1') .nil), ?_⟩
                  · have z := RM.cons op (.nil (cl := E.cl) (N := fun b => sans H2 Af b = none) (B := sans H2 Af) (Hs := Hs2) (H := H2))
                    rw [List.append_nil] at z
                    exact z
                  · show PostM E.cl _ kr [a] Hs2 H2 Af Q (WE W σ) (f [.obj C' fs, d, .lst es])
                    cases q : f [.obj C' fs, d, .lst es] with
                    | stuck => rw [q] at P; exact P.elim
                    | nx r' => rw [q] at P; exact P.elim
                    | rt d0 es0 =>
                      rw [q] at P
                      match es0, P with
                      | [some d'], P =>
                        refine ⟨[d'], rfl, fun v3 Hs' H' A1 A2 g3 o0 rm nd2 di2 => ?_⟩
                        cases rm with
                        | cons o2 t2 =>
                          cases t2
                          rw [List.append_nil] at nd2 di2
                          have ou := o2.unpinO (n := n) hn
                          exact P v3 Hs' H' ((back Hs' H' (.obj n k2) d' _ f2 g3 ou (List.nodup_append.mp nd2).2.1 fun b hb => di2 b (List.mem_append_right _ hb)).2 kr d0 v3 A1 fr o0 nd2 fun b hb => di2 b (List.mem_append_left _ hb))
                      | [], P => exact P.elim
                      | [none], P => exact P.elim
                      | none :: _ :: _, P => exact P.elim
                      | some _ :: _ :: _, P => exact P.elim
                    | exc y0 es0 =>
                      rw [q] at P
                      match es0, P with
                      | [some d'], P =>
                        refine ⟨[d'], rfl, fun c dd Hs' H' A2 g3 rm nd2 di2 xr => ?_⟩
                        cases rm with
                        | cons o2 t2 =>
                          cases t2
                          rw [List.append_nil] at nd2 di2
                          have ou := o2.unpinO (n := n) hn
                          exact P Hs' H' c dd _ hf (back Hs' H' (.obj n k2) d' _ f2 g3 ou nd2 di2).1 xr
                      | [], P => exact P.elim
                      | [none], P => exact P.elim
                      | none :: _ :: _, P => exact P.elim
                      | some _ :: _ :: _, P => exact P.elim
              · exact P.elim
            · exact P.elim
          · exact P.elim
        · exact P.elim
      · exact P.elim
    · exact P.elim
  · exact P.elim
end
end VL
end

noncomputable section
namespace VL
open PySem PySem.Spec PyProof.Rows L2
variable {md : Md}

section
variable {X : Cx} {E : En} {kr : Kd} {fin : List Kd → Prop} {ks : List Kd} {i j : Nat} {n m : Option Addr} {x y : Str} {e it : Expr} {g gi : Sl → R D} {pos p1 p2 p3 p4 p5 p6 p7 p8 p9 p10 : Pos}
/-- for y in f(..): y.reverse(); y.append(e): the lists, told for the loop alone -/
def forRvT (j : Nat) (g : Sl → R D) : List D → Sl → O
  | [], r => .nx r
  | .lst es :: ds, r => onR (g (r.set j none)) (r.set j none) fun _ => if es.length < szL then forRvT j g ds (r.set j none) else .stuck
  | _ :: _, _ => .stuck
def mForRvT (j : Nat) (gi g : Sl → R D) : Sl → O := fun r => onR (gi r) r fun d => match d with
  | .lst ds => forRvT j g ds r
  | _ => .stuck
theorem ss_forRvT {kj : Kd} (hp : PassesOwn (model X.prog X.w) X.A X.env X.xe) (hc : X.calm = true) (hi : SE X E ks (.lls none (.own none)) it gi) (he : SE X E ks .val e g) (hND : X.N.Nodup) (hqy : NmOk y) (hf : fin ks := by trivial) (hkj : ks[j]? = some kj := by rfl)
    (hNy : X.N[j]? = some y := by rfl) (hly : Loc X.env.scope y := by first | exact Or.inl rfl | exact Or.inr rfl) (hvy : Vis X.env.scope y := by first | exact Or.inl rfl | exact Or.inr (Or.inl rfl) | exact Or.inr (Or.inr rfl))
    (hs : swapsWith (.Call (.Attribute (.Name y p1) "append" p2) [e] [] p3) none p6.line X.env = pure false := by rfl)
    (hs0 : swapsWith (.Call (.Attribute (.Name y p7) "reverse" p8) [] [] p9) none p10.line X.env = pure false := by rfl) (hbase0 : attributeBase (.Name y p7) "reverse" X.env (eval (.Name y p7) X.env) = eval (.Name y p7) X.env := by rfl) (hline0 : (p8.endLine == p9.line) = true := by rfl)
    (hbase : attributeBase (.Name y p1) "append" X.env (eval (.Name y p1) X.env) = eval (.Name y p1) X.env := by rfl)
    (hfew : ((backTo p3 (starEach [e] X.env)).all (fun x => !x.1) && (backToKw p3 (keywordEach [] X.env)).all (fun x => x.1.isSome)
      && decide ([e].length + ([] : List Keyword).length + (if ([] : List Keyword).isEmpty then 0 else 1) < 30)) = true := by rfl)
    (hline : (p2.endLine == p3.line) = true := by rfl) (hst : starEach [e] X.env = (false, eval e X.env) :: starEach [] X.env := by rfl) (hplain : (backTo p3 (starEach [] X.env)).any (·.1) = false := by rfl)
    (hfs : ∀ z, foldedSetIterable it X.env z = pure z := by intro _; rfl) (hfn : X.fn y = true ∨ X.env.scope.names.lookup y = some .local := by first | exact .inl rfl | exact .inr rfl | assumption) :
    SS X E kr fin ks (.For (.Name y p4) it [.Expr (.Call (.Attribute (.Name y p7) "reverse" p8) [] [] p9) p10, .Expr (.Call (.Attribute (.Name y p1) "append" p2) [e] [] p3) p6] [] pos) (mForRvT j gi g) ks := by
  refine ⟨fun Hs H r σ W Dn tk S P => ?_⟩
  refine ws_of (ps_for hp hc (pi_list pe_we) (pg_name hND hNy hly (hf := hfn)) (pss_cons (ps_expr (pe_bm0 PySem.F.plainAttrs_list PySem.F.slot_list_reverse PySem.F.type_list_reverse mt_reverse (pe_var hNy hvy hqy.1 hqy.2) hbase0 hline0) hs0) (pss_one (ps_expr (pe_bm PySem.F.plainAttrs_list PySem.F.slot_list_append PySem.F.type_list_append mt_append (pe_var hNy hvy hqy.1 hqy.2) (pa_cons pe_we pa_nil hst) hbase hfew hline hst hplain) hs))) hfs) ?_
  unfold mForRvT at P
  refine hi.run _ _ _ _ _ _ tk S (Post.ofS hf S P fun d0 v0 Hs0 H0 e0 g0 k0 P0 => ?_)
  cases d0 <;> first | exact P0.elim | skip
  rename_i ds
  have S0 := S.push g0 rfl k0
  obtain ⟨a, xs, ea, h1, hl, k1⟩ := S0.lmut (i := 0) rfl rfl
  have ev0 : v0 = .ref a := by
    have z : some (some v0) = some (some (V.ref a)) := ea
    cases z
    rfl
  subst ev0
  refine ⟨a, rfl, ⟨xs, SqL.of h1⟩, ?_⟩
  have hjS : j < σ.length := by
    obtain ⟨As0, s0⟩ := S
    rw [s0.sl.len.2]
    exact (List.getElem?_eq_some_iff.mp hkj).1
  refine ⟨fun c mm σ' H' => mm = ds.length - c ∧ c ≤ ds.length ∧ H' a = some (.lst xs) ∧ ∃ Hs' r' ds', StRel E Hs' H' (.lls none (.own none) :: ks) (some (.lst ds') :: r') (some (.ref a) :: σ') ∧ ds'.drop c = ds.drop c ∧ PostS E ks kr fin W Dn (forRvT j g (ds.drop c) r'),
    ⟨ds.length, by simp, Nat.zero_le _, h1, Hs0, r, ds, S0, rfl, P0⟩, ?_⟩
  rintro c mm σ' H' ⟨rfl, hc', h1', Hs', r', ds', S', q', P'⟩
  have hjl : j < σ'.length := by
    obtain ⟨As0, s0⟩ := S'.pop
    rw [s0.sl.len.2]
    exact (List.getElem?_eq_some_iff.mp hkj).1
  by_cases hlt : c < ds.length
  · obtain ⟨v1, hv1⟩ : ∃ v1, xs[c]? = some v1 := by
      have hl0 : xs.length = ds.length := hl
      exact ⟨xs[c]'(by omega), by simp [hl0, hlt]⟩
    have hdc : ds.drop c = ds[c] :: ds.drop (c + 1) := List.drop_eq_getElem_cons hlt
    refine .inr ⟨⟨xs, v1, SqL.of h1', hv1⟩, fun σ2 H2 => H2 a = some (.lst xs) ∧ ∃ Hs2 r2 ds2, StRel E Hs2 H2 (.lls none (.own none) :: ks) (some (.lst ds2) :: r2) (some (.ref a) :: σ2) ∧ ds2.drop (c + 1) = ds.drop (c + 1) ∧ PostS E ks kr fin W Dn (forRvT j g (ds.drop (c + 1)) r2), ?_, ?_⟩
    · rintro σ2 H2 ⟨z2, Hs2, r2, ds2, z3, z4, z5⟩
      exact ⟨ds.length - (c + 1), by omega, rfl, hlt, z2, Hs2, r2, ds2, z3, z4, z5⟩
    · rintro v H2 ⟨rfl, hy⟩
      have ev := hy xs (SqL.of h1')
      rw [hv1] at ev
      cases ev
      have S2 : StRel E Hs' H2 (.lls none (.own none) :: ks) (some (.lst ds') :: r'.set j none) (some (.ref a) :: σ'.set j (some v1)) := by
        have z := S'.wipe1 (i := j + 1) (k := kj) (k' := kj) (by simpa using hkj) (some v1)
        rw [List.set_cons_succ, List.set_cons_succ, List.set_cons_succ, set_self hkj] at z
        exact z
      have qe : ds'[c]? = some ds[c] := by
        have z := congrArg List.head? q'
        rw [List.head?_drop, List.head?_drop] at z
        rw [z, List.getElem?_eq_getElem hlt]
      rw [hdc] at P'
      cases w : ds[c] <;> rw [w] at P' <;> first | exact P'.elim | skip
      rename_i es
      rw [w] at qe
      have P2 : PostS E ks kr fin W Dn (onR (g (r'.set j none)) (r'.set j none) fun _ => if es.length < szL then forRvT j g (ds.drop (c + 1)) (r'.set j none) else .stuck) := P'
      obtain ⟨a3, xs3, ea3, h3, hl3, k3⟩ := S2.lmut (i := 0) rfl rfl
      have ea4 : a3 = a := by
        have z : some (some (V.ref a)) = some (some (V.ref a3)) := ea3
        cases z
        rfl
      subst ea4
      rw [h1'] at h3
      cases h3
      obtain ⟨b, ys, e1, nb, h4, r1, up0⟩ := k3 c es qe
      rw [hv1] at e1
      cases e1
      refine ⟨.ref b, by rw [List.getElem?_set_self hjl], tyV_lst h4, b, ys, rfl, rfl, h4, ?_⟩
      have SR : StRel E Hs' (upd H2 b (.lst ys.reverse)) (.lls none (.own none) :: ks) (some (.lst (ds'.set c (.lst es.reverse))) :: r'.set j none) (some (.ref a3) :: σ'.set j (some (.ref b))) := up0 es.reverse ys.reverse r1.rev
      have h1R : upd H2 b (.lst ys.reverse) a3 = some (.lst xs) := by rw [upd_ne nb]; exact h1'
      have hcR : c < ds'.length := (List.getElem?_eq_some_iff.mp qe).1
      have qeR : (ds'.set c (.lst es.reverse))[c]? = some (.lst es.reverse) := List.getElem?_set_self hcR
      refine ⟨.ref b, by rw [List.getElem?_set_self hjl], tyV_lst upd_same, ?_⟩
      refine he.run _ _ _ _ _ _ tk SR.pop (Post.ofS hf SR.pop P2 fun d v2 Hs3 H3 _ g3 kk P1 => ?_)
      obtain ⟨a4, xs4, ea4, h5, hl4, k4⟩ := (SR.grow g3).lmut (i := 0) rfl rfl
      have ea5 : a4 = a3 := by
        have z : some (some (V.ref a3)) = some (some (V.ref a4)) := ea4
        cases z
        rfl
      subst ea5
      have z := g3.h.at _ _ h1R
      rw [h5] at z
      cases z
      obtain ⟨b', ys', e1', nb', h6, r2, up⟩ := k4 c es.reverse qeR
      rw [hv1] at e1'
      cases e1'
      split at P1
      · rename_i hz
        refine ⟨b, ys', v2, rfl, rfl, h6, by rw [szL_eq, r2.length, List.length_reverse]; exact hz, ?_⟩
        have S5 : StRel E Hs3 (upd H3 b (.lst (ys' ++ [v2]))) (.lls none (.own none) :: ks) (some (.lst ((ds'.set c (.lst es.reverse)).set c (.lst (es.reverse ++ [d])))) :: r'.set j none) (some (.ref a4) :: σ'.set j (some (.ref b))) := up _ _ (r2.app (.cons kk.rep .nil))
        refine ⟨by rw [upd_ne nb]; exact h5, Hs3, _, _, S5, ?_, P1⟩
        rw [List.set_set, List.drop_set_of_lt (Nat.lt_succ_self c)]
        have q2 := congrArg (List.drop 1) q'
        rw [List.drop_drop, List.drop_drop] at q2
        exact q2
      · exact P1.elim
  · have e0 : ds.drop c = [] := List.drop_eq_nil_of_le (by omega)
    rw [e0] at P'
    exact .inl ⟨⟨xs, SqL.of h1', by have hl0 : xs.length = ds.length := hl; omega⟩, P' _ _ _ S'.pop⟩
/-- for y in x: y.append(e); y.reverse() -/
def forARv (i j : Nat) (g : Sl → R D) : Nat → Nat → Sl → O
  | 0, _, r => .nx r
  | n + 1, c, r => match (r.set j none)[i]? with
    | some (some (.lst ds)) => (match ds[c]? with
      | some (.lst es) => onR (g (r.set j none)) (r.set j none) fun d => if es.length < szL then forARv i j g n (c + 1) ((r.set j none).set i (some (.lst (ds.set c (.lst (es ++ [d]).reverse))))) else .stuck
      | _ => .stuck)
    | _ => .stuck
def mForARv (i j : Nat) (g : Sl → R D) : Sl → O := fun r => match r[i]? with
  | some (some (.lst ds)) => forARv i j g ds.length 0 r
  | _ => .stuck
theorem ss_forARv {kj : Kd} (hp : PassesOwn (model X.prog X.w) X.A X.env X.xe) (hc : X.calm = true) (he : SE X E ks .val e g) (hND : X.N.Nodup) (hq : NmOk x) (hqy : NmOk y) (hij : i ≠ j) (hf : fin ks := by trivial) (hk : ks[i]? = some (.lls n (.own m)) := by rfl) (hkj : ks[j]? = some kj := by rfl) (hN : X.N[i]? = some x := by rfl) (hv : Vis X.env.scope x := by first | exact Or.inl rfl | exact Or.inr (Or.inl rfl) | exact Or.inr (Or.inr rfl))
    (hNy : X.N[j]? = some y := by rfl) (hly : Loc X.env.scope y := by first | exact Or.inl rfl | exact Or.inr rfl) (hvy : Vis X.env.scope y := by first | exact Or.inl rfl | exact Or.inr (Or.inl rfl) | exact Or.inr (Or.inr rfl))
    (hs : swapsWith (.Call (.Attribute (.Name y p1) "append" p2) [e] [] p3) none p6.line X.env = pure false := by rfl)
    (hs0 : swapsWith (.Call (.Attribute (.Name y p7) "reverse" p8) [] [] p9) none p10.line X.env = pure false := by rfl) (hbase0 : attributeBase (.Name y p7) "reverse" X.env (eval (.Name y p7) X.env) = eval (.Name y p7) X.env := by rfl) (hline0 : (p8.endLine == p9.line) = true := by rfl)
    (hbase : attributeBase (.Name y p1) "append" X.env (eval (.Name y p1) X.env) = eval (.Name y p1) X.env := by rfl)
    (hfew : ((backTo p3 (starEach [e] X.env)).all (fun x => !x.1) && (backToKw p3 (keywordEach [] X.env)).all (fun x => x.1.isSome)
      && decide ([e].length + ([] : List Keyword).length + (if ([] : List Keyword).isEmpty then 0 else 1) < 30)) = true := by rfl)
    (hline : (p2.endLine == p3.line) = true := by rfl) (hst : starEach [e] X.env = (false, eval e X.env) :: starEach [] X.env := by rfl) (hplain : (backTo p3 (starEach [] X.env)).any (·.1) = false := by rfl)
    (hfs : ∀ z, foldedSetIterable (.Name x p5) X.env z = pure z := by intro _; rfl) (hfn : X.fn y = true ∨ X.env.scope.names.lookup y = some .local := by first | exact .inl rfl | exact .inr rfl | assumption) :
    SS X E kr fin ks (.For (.Name y p4) (.Name x p5) [.Expr (.Call (.Attribute (.Name y p1) "append" p2) [e] [] p3) p6, .Expr (.Call (.Attribute (.Name y p7) "reverse" p8) [] [] p9) p10] [] pos) (mForARv i j g) ks := by
  refine ⟨fun Hs H r σ W Dn tk S P => ?_⟩
  refine ws_of (ps_for hp hc (pi_list (pe_var hN hv hq.1 hq.2)) (pg_name hND hNy hly (hf := hfn)) (pss_cons (ps_expr (pe_bm PySem.F.plainAttrs_list PySem.F.slot_list_append PySem.F.type_list_append mt_append (pe_var hNy hvy hqy.1 hqy.2) (pa_cons pe_we pa_nil hst) hbase hfew hline hst hplain) hs) (pss_one (ps_expr (pe_bm0 PySem.F.plainAttrs_list PySem.F.slot_list_reverse PySem.F.type_list_reverse mt_reverse (pe_var hNy hvy hqy.1 hqy.2) hbase0 hline0) hs0))) hfs) ?_
  unfold mForARv at P
  split at P
  · rename_i ds q
    obtain ⟨a, xs, ea, h1, hl, k1⟩ := S.lmut hk q
    refine ⟨.ref a, ea, a, rfl, ⟨xs, SqL.of h1⟩, ?_⟩
    refine ⟨fun c mm σ' H' => mm = ds.length - c ∧ c ≤ ds.length ∧ σ'[i]? = some (some (.ref a)) ∧ H' a = some (.lst xs) ∧ ∃ Hs' r' ds', StRel E Hs' H' ks r' σ' ∧ r'[i]? = some (some (.lst ds')) ∧ PostS E ks kr fin W Dn (forARv i j g (ds.length - c) c r'),
      ⟨ds.length, by simp, Nat.zero_le _, ea, h1, Hs, r, ds, S, q, P⟩, ?_⟩
    rintro c mm σ' H' ⟨rfl, hc', ea', h1', Hs', r', ds', S', q', P'⟩
    by_cases hlt : c < ds.length
    · obtain ⟨v0, hv0⟩ : ∃ v0, xs[c]? = some v0 := ⟨xs[c]'(by omega), by simp [hl, hlt]⟩
      refine .inr ⟨⟨xs, v0, SqL.of h1', hv0⟩, fun σ2 H2 => σ2[i]? = some (some (.ref a)) ∧ H2 a = some (.lst xs) ∧ ∃ Hs2 r2 ds2, StRel E Hs2 H2 ks r2 σ2 ∧ r2[i]? = some (some (.lst ds2)) ∧ PostS E ks kr fin W Dn (forARv i j g (ds.length - (c + 1)) (c + 1) r2), ?_, ?_⟩
      · rintro σ2 H2 ⟨z1, z2, Hs2, r2, ds2, z3, z4, z5⟩
        exact ⟨ds.length - (c + 1), by omega, rfl, hlt, z1, z2, Hs2, r2, ds2, z3, z4, z5⟩
      · rintro v H2 ⟨rfl, hy⟩
        have ev := hy xs (SqL.of h1')
        rw [hv0] at ev
        cases ev
        rw [show ds.length - c = (ds.length - (c + 1)) + 1 by omega] at P'
        unfold forARv at P'
        have S2 : StRel E Hs' H2 ks (r'.set j none) (σ'.set j (some v0)) := by
          have z := S'.wipe1 hkj (k' := kj) (some v0)
          rw [set_self hkj] at z
          exact z
        split at P'
        · rename_i ds2 q2
          have ea2 : (σ'.set j (some v0))[i]? = some (some (.ref a)) := by rw [List.getElem?_set_ne hij.symm]; exact ea'
          split at P'
          · rename_i es qe
            obtain ⟨a3, xs3, ea3, h3, hl3, k3⟩ := S2.lmut hk q2
            rw [ea2] at ea3
            cases ea3
            rw [h1'] at h3
            cases h3
            obtain ⟨b, ys, e1, nb, h4, r1, up0⟩ := k3 c es qe
            rw [hv0] at e1
            cases e1
            have hjl : j < σ'.length := by
              obtain ⟨As0, s0⟩ := S'
              rw [s0.sl.len.2]
              exact (List.getElem?_eq_some_iff.mp hkj).1
            refine ⟨.ref b, by rw [List.getElem?_set_self hjl], tyV_lst h4, ?_⟩
            refine he.run _ _ _ _ _ _ tk S2 (Post.ofS hf S2 P' fun d v2 Hs3 H3 _ g3 kk P1 => ?_)
            obtain ⟨a4, xs4, ea4, h5, hl4, k4⟩ := (S2.grow g3).lmut hk q2
            rw [ea2] at ea4
            cases ea4
            have z := g3.h.at _ _ h1'
            rw [h5] at z
            cases z
            obtain ⟨b', ys', e1', nb', h6, r2, up⟩ := k4 c es qe
            rw [hv0] at e1'
            cases e1'
            split at P1
            · rename_i hz
              refine ⟨b, ys', v2, rfl, rfl, h6, by rw [szL_eq, r2.length]; exact hz, ?_⟩
              have r3 := r2.app (.cons kk.rep .nil)
              have S5 := up _ _ r3.rev
              have hil : i < (r'.set j none).length := (List.getElem?_eq_some_iff.mp q2).1
              refine ⟨.ref b, by rw [List.getElem?_set_self hjl], tyV_lst upd_same, b, ys' ++ [v2], rfl, rfl, upd_same, ?_⟩
              have eq : upd (upd H3 b (.lst (ys' ++ [v2]))) b (.lst (ys' ++ [v2]).reverse) = upd H3 b (.lst (ys' ++ [v2]).reverse) := by
                funext z
                by_cases hz : z = b
                · rw [hz, upd_same, upd_same]
                · rw [upd_ne hz, upd_ne hz, upd_ne hz]
              rw [eq]
              exact ⟨ea2, by rw [upd_ne nb]; exact h5, Hs3, _, _, S5, List.getElem?_set_self hil, P1⟩
            · exact P1.elim
          · exact P'.elim
        · exact P'.elim
    · have e0 : ds.length - c = 0 := by omega
      rw [e0] at P'
      exact .inl ⟨⟨xs, SqL.of h1', by omega⟩, P' _ _ _ S'⟩
  · exact P.elim
end
end VL
end

noncomputable section
namespace VL
open PySem PySem.Spec PyProof.Rows L2
variable {md : Md}

theorem comp_readO {X : Cx} {E : En} {ks : List Kd} {k0 : Kd} {elt tg iter : Expr} {ifs : List Expr} {scope : Scope} {vs : List Nat} {t : Tg} {gi : Sl → R (List D)} {tt : Sl → R Bool} {ge : Sl → R D} (fk : k0.fine = true)
    (hi : SI X E ks false tg iter gi) (hv : ∀ i ∈ vs, i < ks.length) (hm : ∀ i ∈ t.is, i ∈ vs)
    (hg : ∀ (s : Shared) (H : Hp) (C : Addr) (cl : List (Str × Addr)) (fp : List Addr), SG (X.blk s H scope (compEnvC scope cl C X.env) fp) tg t)
    (ht : ∀ (s : Shared) (H : Hp) (C : Addr) (cl : List (Str × Addr)) (fp : List Addr), SP1 (X.blk s H scope (compEnvC scope cl C X.env) fp) E (setK (wipeK ks vs) t.is) ifs tt)
    (he : ∀ (s : Shared) (H : Hp) (C : Addr) (cl : List (Str × Addr)) (fp : List Addr), SE (X.blk s H scope (compEnvC scope cl C X.env) fp) E (setK (wipeK ks vs) t.is) k0 elt ge)
    {Hs H : Hp} {r : Sl} {σ : L2.St} {W : WX} {Q : VK} (tk : Takes X W) (S : StRel E Hs H ks r σ) (P : Post E.cl (.lls none k0) Hs H Q (fun c dd H' => W c dd σ H') (gComp gi t vs tt ge r)) :
    tLc (WIx X tg iter) (rdG X scope tg) (rdT X scope ifs) (rdE X scope elt) vs σ H Q := by
  refine hi.run _ _ _ _ _ _ tk S ?_
  unfold gComp at P
  cases q : gi r with
  | stuck => rw [q] at P; exact P
  | exc x => rw [q] at P; exact P
  | ok ds =>
    rw [q] at P
    intro J Hs1 H1 g1 J1 D hD
    have P1 := Post.grow (r := noX (mapR (gTurn t vs tt ge r) ds) >>= fun os => R.ok (VL.D.lst (os.filterMap id))) P g1
    cases q2 : noX (mapR (gTurn t vs tt ge r) ds) with
    | stuck => rw [q2] at P1; exact P1.elim
    | exc x =>
      cases q3 : mapR (gTurn t vs tt ge r) ds <;> rw [q3] at q2 <;> cases q2
    | ok os =>
      rw [q2] at P1
      obtain ⟨hlen, hturn⟩ := mapR_ok (noX_ok q2)
      have P1' : Post E.cl (.lls none k0) Hs1 H1 Q (fun c dd H' => W c dd σ H') (R.ok (VL.D.lst (os.filterMap id))) := P1
      have S1 := S.grow g1
      refine ⟨fun i m H' => m = ds.length - i ∧ i ≤ ds.length ∧ ∃ Hs' acc As, Grow Hs1 H1 Hs' H' ∧ H' D = some (.lst acc) ∧ Hs' D = none ∧ OLs E.cl (fun a => H1 a = none) H1 Hs' H' k0 ((os.take i).filterMap id) acc As ∧ acc.length ≤ i ∧ As.Nodup ∧ (∀ a ∈ As, Hs' a = none ∧ H1 a = none ∧ a ≠ D),
        ⟨ds.length, by simp, Nat.zero_le _, Hs1, [], [], Grow.fresh g1.sub hD, upd_same, g1.sub.free hD, .nil, Nat.le_refl _, List.nodup_nil, fun a z => by cases z⟩, ?_⟩
      rintro i m H' ⟨rfl, hi', Hs', acc, As, g2, eD, nD, rp, hacc, ndA, frA⟩
      have sq : Same (bq E false H1) H' := g2.h
      by_cases hlt : i < ds.length
      · refine .inr ⟨J1.go Hs' H' g2.s g2.sub sq i hlt, fun H2 => ∃ Hs2 acc2 As2, Grow Hs1 H1 Hs2 H2 ∧ H2 D = some (.lst acc2) ∧ Hs2 D = none ∧ OLs E.cl (fun a => H1 a = none) H1 Hs2 H2 k0 ((os.take (i + 1)).filterMap id) acc2 As2 ∧ acc2.length ≤ i + 1 ∧ As2.Nodup ∧ (∀ a ∈ As2, Hs2 a = none ∧ H1 a = none ∧ a ≠ D), ?_, ?_⟩
        · rintro H2 ⟨Hs2, acc2, As2, z1, z2, z3, z4, z5, z6, z7⟩
          exact ⟨ds.length - (i + 1), by omega, rfl, hlt, Hs2, acc2, As2, z1, z2, z3, z4, z5, z6, z7⟩
        · intro x H2 y s0 H0 C cl fp
          obtain ⟨d, hd⟩ : ∃ d, ds[i]? = some d := ⟨ds[i], by simp [hlt]⟩
          obtain ⟨Hs2, g3, rx⟩ := J1.yld Hs' H' g2.s g2.sub sq i d x H2 hd y
          obtain ⟨o, ho, hf⟩ := hturn i d hd
          unfold gTurn at hf
          cases q4 : t.un d with
          | stuck => rw [q4] at hf; cases hf
          | exc x => rw [q4] at hf; cases hf
          | ok xs =>
            rw [q4] at hf
            refine (hg s0 H0 C cl fp).run E.cl Hs2 H2 _ d x xs _ g3.sub rx q4 fun ys ry => ⟨by rw [wipe_setV hm, wipe_idem], fun s1 H01 C1 cl1 fp1 => ?_⟩
            have g23 := g2.trans g3
            obtain ⟨S2, hl2⟩ := StRel.wipe (S1.grow g23) vs hv
            have S3 : StRel E Hs2 H2 (setK (wipeK ks vs) t.is) (setD (wipeD r vs) t.is xs) (setV (wipe σ vs) t.is ys) :=
              StRel.puts S2 (fun j hj => by rw [hl2]; exact hv j (hm j hj)) (Tg.un_len q4) ry
            have eD2 : H2 D = some (.lst acc) := g3.h.at _ _ eD
            have nA : ∀ {Hsx Hx : Hp} {a : Addr} {u : L2.HO}, Grow Hs' H' Hsx Hx → Hs' a = none → H' a = some u → Hsx a = none := fun {Hsx Hx a u} gx z1 z2 => by
              cases qq : Hsx a with
              | none => rfl
              | some u =>
                rcases gx.n a (by rw [qq]; simp) with z | z
                · exact absurd z1 z
                · rw [z2] at z; cases z
            have nD2 : ∀ {Hsx Hx : Hp}, Grow Hs' H' Hsx Hx → Hsx D = none := fun {Hsx Hx} gx => nA gx nD eD
            -- the things so far stand behind a growth
            have keepA : ∀ {Hsx Hx : Hp}, Grow Hs' H' Hsx Hx → OLs E.cl (fun a => H1 a = none) H1 Hsx Hx k0 ((os.take i).filterMap id) acc As ∧ ∀ a ∈ As, Hsx a = none ∧ H1 a = none ∧ a ≠ D := fun {Hsx Hx} gx => by
              refine ⟨OLs.keep gx.s (fun a ha => ?_) rp, fun a ha => ?_⟩
              · obtain ⟨o, e, nt⟩ := rp.here a ha
                rw [e]
                exact gx.h.k _ _ e (.inl nt)
              · obtain ⟨o, e, nt⟩ := rp.here a ha
                exact ⟨nA gx (frA a ha).1 e, (frA a ha).2⟩
            refine (ht s1 H01 C1 cl1 fp1).run _ _ _ _ (fun _ _ _ _ => False) _ takesF S3 ?_
            have hf' : (tt (setD (wipeD r vs) t.is xs) >>= fun b => if b then (ge (setD (wipeD r vs) t.is xs) >>= fun y => R.ok (some y)) else R.ok none) = R.ok o := hf
            cases q5 : tt (setD (wipeD r vs) t.is xs) with
            | stuck => rw [q5] at hf'; cases hf'
            | exc x => rw [q5] at hf'; cases hf'
            | ok b =>
              rw [q5] at hf'
              intro Hs3 H3 g4
              cases b with
              | false =>
                have e0 : (R.ok none : R (Option VL.D)) = R.ok o := hf'
                cases e0
                obtain ⟨k1, k2⟩ := keepA (g3.trans g4)
                refine iteF ⟨Hs3, acc, As, g23.trans g4, g4.h.at _ _ eD2, nD2 (g3.trans g4), ?_, by omega, ndA, k2⟩
                rw [filterMap_take ho]
                simpa using k1
              | true =>
                refine iteT fun s2 H02 C2 cl2 fp2 => ?_
                refine (he s2 H02 C2 cl2 fp2).run _ _ _ _ (fun _ _ _ _ => False) _ takesF (S3.grow g4) ?_
                have hf2 : (ge (setD (wipeD r vs) t.is xs) >>= fun y => R.ok (some y)) = R.ok o := hf'
                cases q6 : ge (setD (wipeD r vs) t.is xs) with
                | stuck => rw [q6] at hf2; cases hf2
                | exc x => rw [q6] at hf2; cases hf2
                | ok y =>
                  rw [q6] at hf2
                  have e0 : (R.ok (some y) : R (Option VL.D)) = R.ok o := hf2
                  cases e0
                  intro v Hs4 H4 g5 k5
                  have g34 := g3.trans g4
                  have g35 := g34.trans g5
                  have hD3 : H3 D = some (.lst acc) := g34.h.at _ _ eD
                  have hD4 : H4 D = some (.lst acc) := g35.h.at _ _ eD
                  have hN4 := nD2 g35
                  have g25 := g2.trans g35
                  have hz : acc.length < sizeLine := by
                    rw [szL_eq]
                    have := J1.len
                    omega
                  obtain ⟨A, oA, ndN, frN⟩ := k5
                  obtain ⟨k1, k2⟩ := keepA g35
                  have H1n : ∀ a, H3 a = none → H1 a = none := fun a z => (g2.trans g34).h.free z
                  have AD : ∀ a ∈ A, a ≠ D := fun a ha w => by
                    have := (frN a ha).2
                    rw [w, hD3] at this
                    cases this
                  have AAs : ∀ a ∈ A, a ∉ As := fun a ha w => by
                    obtain ⟨o, e, nt⟩ := rp.here a w
                    have z := g34.h.k _ _ e (.inl nt)
                    rw [(frN a ha).2] at z
                    cases z
                  have oN : ORep E.cl (fun a => H1 a = none) H1 Hs4 H4 k0 y v A := ORep.renew k0 y v A fk (fun a ha => H1n a (frN a ha).2) oA
                  refine ⟨acc, hD4, hz, Hs4, acc ++ [v], As ++ A, ⟨g25.s, ⟨fun b u e nt => ?_⟩, g25.n, ⟨fun b u e nt => ?_⟩, fun P z => tab_mut hD4 P (g25.t P z)⟩, upd_same, hN4, ?_, by simp; omega, ?_, fun a ha => ?_⟩
                  · rw [upd_ne (ne_of_none e hD)] at nt ⊢
                    exact g25.h.k _ _ e nt
                  · rw [upd_ne (ne_of_none e hN4)] at nt ⊢
                    exact g25.sub.k _ _ e nt
                  · rw [filterMap_take ho]
                    have z1 : OLs E.cl (fun a => H1 a = none) H1 Hs4 (upd H4 D (.lst (acc ++ [v]))) k0 ((os.take i).filterMap id) acc As := OLs.keep (Same.refl _) (fun a ha => upd_ne (k2 a ha).2.2) k1
                    have z0 : OLs E.cl (fun a => H1 a = none) H1 Hs4 H4 k0 [y] [v] A := by
                      have z := OLs.cons oN (.nil (cl := E.cl) (N := fun a => H1 a = none) (B := H1) (Hs := Hs4) (H := H4))
                      rw [List.append_nil] at z
                      exact z
                    have z2 : OLs E.cl (fun a => H1 a = none) H1 Hs4 (upd H4 D (.lst (acc ++ [v]))) k0 [y] [v] A := OLs.keep (Same.refl _) (fun a ha => upd_ne (AD a ha)) z0
                    exact OLs.app z1 z2
                  · exact List.nodup_append.mpr ⟨ndA, ndN, fun a ha b hb w => AAs b hb (w ▸ ha)⟩
                  · rcases List.mem_append.mp ha with w | w
                    · exact k2 a w
                    · exact ⟨(frN a w).1, H1n a (frN a w).2, AD a w⟩
      · have e : i = ds.length := by omega
        subst e
        refine .inl ⟨J1.stop Hs' H' g2.s g2.sub sq, ?_⟩
        rw [← hlen, List.take_length] at rp
        refine P1' (.ref D) Hs' H' g2 ⟨D :: As, .lls ⟨hD, fun _ z => nomatch z⟩ eD (OLs.newN fk rp fun a ha => (frA a ha).2.1), List.nodup_cons.mpr ⟨fun w => (frA D w).2.2 rfl, ndA⟩, fun a ha => ?_⟩
        rcases List.mem_cons.mp ha with w | w
        · rw [w]
          exact ⟨nD, hD⟩
        · exact ⟨(frA a w).1, (frA a w).2.1⟩
section
variable {X : Cx} {E : En} {kr k1 : Kd} {fin : List Kd → Prop} {ks : List Kd}
theorem ss_setLcO {i : Nat} {k0 : Kd} {y : Str} {py : Pos} {elt tg iter : Expr} {ifs : List Expr} {scope : Scope} {pos spos : Pos} {t : Tg} {gi : Sl → R (List D)} {tt : Sl → R Bool} {ge : Sl → R D}
    (own : List (Str × Nat)) (hc : X.calm = true) (hN : X.N.Nodup) (hi : SI X E ks false tg iter gi) (ok : BlkOk X.N X.env.scope scope own) (hv : ∀ i ∈ own.map (·.2), i < ks.length) (hm : ∀ i ∈ t.is, i ∈ own.map (·.2))
    (hg : ∀ (s : Shared) (H : Hp) (C : Addr) (cl : List (Str × Addr)) (fp : List Addr), SG (X.blk s H scope (compEnvC scope cl C X.env) fp) tg t)
    (ht : ∀ (s : Shared) (H : Hp) (C : Addr) (cl : List (Str × Addr)) (fp : List Addr), SP1 (X.blk s H scope (compEnvC scope cl C X.env) fp) E (setK (wipeK ks (own.map (·.2))) t.is) ifs tt)
    (he : ∀ (s : Shared) (H : Hp) (C : Addr) (cl : List (Str × Addr)) (fp : List Addr), SE (X.blk s H scope (compEnvC scope cl C X.env) fp) E (setK (wipeK ks (own.map (·.2))) t.is) k1 elt ge)
    (hsw : swapsWith (.ListComp elt [⟨tg, iter, ifs, 0⟩] scope pos) (some (.Name y py)) spos.line X.env = pure true) (fk : k1.fine = true := by rfl) (hf : fin ks := by trivial) (hk : ks[i]? = some k0 := by rfl) (hy : X.N[i]? = some y := by rfl) (hyl : X.env.scope.names.lookup y = some .local := by rfl)
    (hs : ∀ x, foldedSetIterable iter X.env x = pure x := by intro _; rfl) :
    SS X E kr fin ks (.Assign [.Name y py] (.ListComp elt [⟨tg, iter, ifs, 0⟩] scope pos) spos) (mSet i (gComp gi t (own.map (·.2)) tt ge)) (ks.set i (.lls none k1)) := by
  refine ⟨fun Hs H r σ W Dn tk S P => ?_⟩
  refine ws_of (ps_setLc (i := i) hc hN hy hyl hsw pi_wi ok pg_rd pts_rd pe_rd hs) ?_
  have fl : (Kd.lls none k1).fine = true := by simpa [Kd.fine] using fk
  exact comp_readO fk hi hv hm hg ht he tk S (Post.ofS (k := .lls none k1) hf S P fun d v Hs' H' e1 g1 k1 P1 => P1 Hs' H' _ (S.putK g1 hk fl k1))
end
end VL
end

noncomputable section
namespace CW
open PySem PySem.Spec PyProof.Rows L2 VL
def b_look_row_1 : Sl → O := (mSeq (mIf (gTest (gBin dLe (gBin dIdx (gVar 0) (gVar 1)) (gBin dIdx (gVar 0) (gBin dSub (gVar 1) (gC (.int 1))))))
  (mSeq (mRaiseAt "BadRow" (gVar 1))
  mNil)
  mNil)
  mNil)
def m_look_row : Sl → O := (mSeq (mIf (gTest (gBin dGt (gCall fLen (gCons (gVar 0) gNil)) (gC (.int 60))))
  (mSeq (mRaise "TooMany")
  mNil)
  mNil)
  (mSeq (mFor (gRange2 (gC (.int 1)) (gCall fLen (gCons (gVar 0) gNil))) (.one 1) b_look_row_1)
  mNil))
def f_look_row : List D → R D := runF m_look_row 1

def m_mirrored : Sl → O := (mSeq (mExpr (gCall f_look_row (gCons (gVar 0) gNil)))
  (mSeq (mRet (gComp (gReversed (gVar 0)) (.one 1) [1] gYes (gUn dNeg (gVar 1))))
  mNil))
def f_mirrored : List D → R D := runF m_mirrored 1

def m_look_creel : Sl → O := (mSeq (mIf (gTest (gBin dLt (gVar 0) (gC (.int 1))))
  (mSeq (mRaise "BadCreel")
  mNil)
  mNil)
  mNil)
def f_look_creel : List D → R D := runF m_look_creel 0

def m_share : Sl → O := (mSeq (mRet (gCall fSum (gCons (gComp (gIter (gVar 0)) (.tup [2, 3]) [2, 3] gYes (gCall fMin2 (gCons (gVar 1) (gCons (gVar 2) gNil)))) gNil)))
  mNil)
def f_share : List D → R D := runF m_share 2

def m_mark : Sl → O := (mSeq (mRet (gBin dSub (gVar 2) (gBin dMul (gC (.int 2)) (gCall f_share (gCons (gVar 0) (gCons (gVar 1) gNil))))))
  mNil)
def f_mark : List D → R D := runF m_mark 0

def b_longest_ripe_1 : Sl → O := (mSeq (mIf (gAnd (gTest (gBin dGt (gVar 3) (gVar 2))) (gTest (gBin dEq (gVar 4) (gCall f_mark (gCons (gVar 0) (gCons (gVar 3) (gCons (gVar 1) gNil)))))))
  (mSeq (mSet 2 (gVar 3))
  mNil)
  mNil)
  mNil)
def m_longest_ripe : Sl → O := (mSeq (mSet 2 (gC (.int 0)))
  (mSeq (mFor (gIter (gVar 0)) (.tup [3, 4]) b_longest_ripe_1)
  (mSeq (mRet (gVar 2))
  mNil)))
def f_longest_ripe : List D → R D := runF m_longest_ripe 3

def m_grown : Sl → O := (mSeq (mSet 2 (gCall f_longest_ripe (gCons (gVar 0) (gCons (gBin dSub (gVar 1) (gC (.int 1))) gNil))))
  (mSeq (mSet 3 (gCall fList (gCons (gVar 0) gNil)))
  (mSeq (mIf (gTest (gBin dGt (gVar 2) (gC (.int 0))))
  (mSeq (mRem 3 (gTup (gCons (gVar 2) (gCons (gCall f_mark (gCons (gVar 0) (gCons (gVar 2) (gCons (gBin dSub (gVar 1) (gC (.int 1))) gNil)))) gNil))))
  mNil)
  mNil)
  (mSeq (mSet 4 (gBin dAdd (gBin dAdd (gCall f_share (gCons (gVar 3) (gCons (gBin dAdd (gVar 2) (gC (.int 1))) gNil))) (gVar 2)) (gC (.int 1))))
  (mSeq (mApp 3 (gTup (gCons (gBin dAdd (gVar 2) (gC (.int 1))) (gCons (gBin dSub (gVar 1) (gBin dMul (gC (.int 2)) (gVar 4))) gNil))))
  (mSeq (mRetV 3)
  mNil))))))
def f_grown : List D → R D := runF m_grown 3

def b_list_of_1 : Sl → O := (mSeq (mSet 1 (gCall f_grown (gCons (gVar 1) (gCons (gVar 2) gNil))))
  mNil)
def m_list_of : Sl → O := (mSeq (mSet 1 (gLst gNil))
  (mSeq (mFor (gIter (gVar 0)) (.one 2) b_list_of_1)
  (mSeq (mRet (gCall fSorted (gCons (gVar 1) gNil)))
  mNil)))
def f_list_of : List D → R D := runF m_list_of 2

def m_next_place : Sl → O := (mSeq (mRet (gCall fMax1 (gCons (gComp (gIter (gVar 0)) (.tup [1, 2]) [1, 2] gYes (gBin dAdd (gVar 2) (gBin dMul (gC (.int 2)) (gCall f_share (gCons (gVar 0) (gCons (gVar 1) gNil)))))) gNil)))
  mNil)
def f_next_place : List D → R D := runF m_next_place 2

def m_shortest_ripe : Sl → O := (mSeq (mRet (gCall fMin1 (gCons (gComp (gIter (gVar 0)) (.tup [2, 3]) [2, 3] (gTest (gBin dEq (gVar 3) (gCall f_mark (gCons (gVar 0) (gCons (gVar 2) (gCons (gVar 1) gNil)))))) (gVar 2)) gNil)))
  mNil)
def f_shortest_ripe : List D → R D := runF m_shortest_ripe 2

def m_shrunk : Sl → O := (mSeq (mSet 2 (gCall f_shortest_ripe (gCons (gVar 0) (gCons (gVar 1) gNil))))
  (mSeq (mSet 3 (gCall fList (gCons (gVar 0) gNil)))
  (mSeq (mRem 3 (gTup (gCons (gVar 2) (gCons (gCall f_mark (gCons (gVar 0) (gCons (gVar 2) (gCons (gVar 1) gNil)))) gNil))))
  (mSeq (mIf (gTest (gBin dGt (gVar 2) (gC (.int 1))))
  (mSeq (mSet 4 (gBin dSub (gBin dAdd (gCall f_share (gCons (gVar 3) (gCons (gBin dSub (gVar 2) (gC (.int 1))) gNil))) (gVar 2)) (gC (.int 1))))
  (mSeq (mApp 3 (gTup (gCons (gBin dSub (gVar 2) (gC (.int 1))) (gCons (gBin dSub (gBin dSub (gVar 1) (gC (.int 1))) (gBin dMul (gC (.int 2)) (gVar 4))) gNil))))
  mNil))
  mNil)
  (mSeq (mRetV 3)
  mNil)))))
def f_shrunk : List D → R D := runF m_shrunk 3

def b_stones_of_1 : Sl → O := (mSeq (mSet 2 (gCall f_next_place (gCons (gVar 0) gNil)))
  (mSeq (mApp 1 (gVar 2))
  (mSeq (mSet 0 (gCall f_shrunk (gCons (gVar 0) (gCons (gVar 2) gNil))))
  mNil)))
def m_stones_of : Sl → O := (mSeq (mSet 1 (gLst gNil))
  (mSeq (whileL (gTest (gBin dNe (gVar 0) (gLst gNil))) b_stones_of_1 WB)
  (mSeq (mRet (gUn dRev (gVar 1)))
  mNil)))
def f_stones_of : List D → R D := runF m_stones_of 2

def b_look_walks_1 : Sl → O := (mSeq (mExpr (gCall f_look_creel (gCons (gVar 1) gNil)))
  mNil)
def m_look_walks : Sl → O := (mSeq (mFor (gIter (gVar 0)) (.tup [1, 2]) b_look_walks_1)
  mNil)
def f_look_walks : List D → R D := runF m_look_walks 2

def m_by_walks : Sl → O := (mSeq (mRet (gCall fSum (gCons (gComp (gIter (gVar 0)) (.tup [2, 3]) [2, 3] gYes (gBin dMul (gVar 3) (gCall fMin2 (gCons (gVar 2) (gCons (gVar 1) gNil))))) gNil)))
  mNil)
def f_by_walks : List D → R D := runF m_by_walks 2

def m_added_to : Sl → O := (mSeq (mRet (gCall fSorted (gCons (gComp (gIter (gVar 0)) (.tup [2, 3]) [2, 3] gYes (gTup (gCons (gVar 2) (gCons (gBin dAdd (gVar 3) (gCall f_by_walks (gCons (gVar 1) (gCons (gVar 2) gNil)))) gNil)))) gNil)))
  mNil)
def f_added_to : List D → R D := runF m_added_to 2

def m_far : Sl → O := (mSeq (mExpr (gCall f_look_row (gCons (gVar 0) gNil)))
  (mSeq (mExpr (gCall f_look_walks (gCons (gVar 1) gNil)))
  (mSeq (mRet (gCall f_stones_of (gCons (gCall f_added_to (gCons (gCall f_list_of (gCons (gVar 0) gNil)) (gCons (gVar 1) gNil))) gNil)))
  mNil)))
def f_far : List D → R D := runF m_far 0

def m_laid_behind : Sl → O := (mSeq (mIf (gOr (gTest (gBin dEq (gVar 0) (gLst gNil))) (gTest (gBin dEq (gVar 1) (gLst gNil))))
  (mSeq (mRaise "Bare")
  mNil)
  mNil)
  (mSeq (mIf (gTest (gBin dGt (gBin dAdd (gCall fLen (gCons (gVar 0) gNil)) (gCall fLen (gCons (gVar 1) gNil))) (gC (.int 60))))
  (mSeq (mRaise "TooMany")
  mNil)
  mNil)
  (mSeq (mIf (gTest (gBin dLt (gVar 2) (gCall fLen (gCons (gVar 1) gNil))))
  (mSeq (mRaise "TooNear")
  mNil)
  mNil)
  (mSeq (mSet 3 (gBin dSub (gBin dAdd (gBin dAdd (gBin dIdx (gVar 0) (gUn dNeg (gC (.int 1)))) (gVar 2)) (gC (.int 1))) (gBin dIdx (gVar 1) (gC (.int 0)))))
  (mSeq (mRet (gBin dAdd (gVar 0) (gComp (gIter (gVar 1)) (.one 4) [4] gYes (gBin dAdd (gVar 4) (gVar 3)))))
  mNil)))))
def f_laid_behind : List D → R D := runF m_laid_behind 2

def m_put_in : Sl → O := (mSeq (mIf (gTest (gBin dIn (gVar 1) (gVar 0)))
  (mSeq (mRaise "Laid")
  mNil)
  mNil)
  (mSeq (mIf (gTest (gBin dGe (gCall fLen (gCons (gVar 0) gNil)) (gC (.int 60))))
  (mSeq (mRaise "TooMany")
  mNil)
  mNil)
  (mSeq (mRet (gCall fSorted (gCons (gBin dAdd (gVar 0) (gLst (gCons (gVar 1) gNil))) gNil)))
  mNil)))
def f_put_in : List D → R D := runF m_put_in 0

def m_taken_out : Sl → O := (mSeq (mIf (gTest (gBin dNotIn (gVar 1) (gVar 0)))
  (mSeq (mRaise "NoStone")
  mNil)
  mNil)
  (mSeq (mRet (gComp (gIter (gVar 0)) (.one 2) [2] (gTest (gBin dNe (gVar 2) (gVar 1))) (gVar 2)))
  mNil))
def f_taken_out : List D → R D := runF m_taken_out 1

def m_behind_entry : Sl → O := (mSeq (mIf (gTest (gBin dEq (gBin dIdx (gVar 1) (gC (.int 0))) (gC (.str "walk"))))
  (mSeq (mRet (gCall f_far (gCons (gVar 0) (gCons (gLst (gCons (gTup (gCons (gBin dIdx (gVar 1) (gC (.int 1))) (gCons (gBin dIdx (gVar 1) (gC (.int 2))) gNil))) gNil)) gNil))))
  mNil)
  mNil)
  (mSeq (mIf (gTest (gBin dEq (gBin dIdx (gVar 1) (gC (.int 0))) (gC (.str "put"))))
  (mSeq (mRet (gCall f_put_in (gCons (gVar 0) (gCons (gBin dIdx (gVar 1) (gC (.int 1))) gNil))))
  mNil)
  mNil)
  (mSeq (mIf (gTest (gBin dEq (gBin dIdx (gVar 1) (gC (.int 0))) (gC (.str "take"))))
  (mSeq (mRet (gCall f_taken_out (gCons (gVar 0) (gCons (gBin dIdx (gVar 1) (gC (.int 1))) gNil))))
  mNil)
  mNil)
  (mSeq (mIf (gTest (gBin dEq (gBin dIdx (gVar 1) (gC (.int 0))) (gC (.str "mirror"))))
  (mSeq (mRet (gCall f_mirrored (gCons (gVar 0) gNil)))
  mNil)
  mNil)
  (mSeq (mRet (gCall f_laid_behind (gCons (gVar 0) (gCons (gCall fList (gCons (gBin dIdx (gVar 1) (gC (.int 1))) gNil)) (gCons (gBin dIdx (gVar 1) (gC (.int 2))) gNil)))))
  mNil)))))
def f_behind_entry : List D → R D := runF m_behind_entry 0

def b_gone_over_1 : Sl → O := (mSeq (mTryR (mSeq (mSet 0 (gCall f_behind_entry (gCons (gVar 0) (gCons (gBin dIdx (gVar 1) (gVar 2)) gNil))))
  mNil) "CreelError" "Clash" (gVar 2))
  mNil)
def m_gone_over : Sl → O := (mSeq (mFor (gRange1 (gCall fLen (gCons (gVar 1) gNil))) (.one 2) b_gone_over_1)
  (mSeq (mRet (gVar 0))
  mNil))
def f_gone_over : List D → R D := runF m_gone_over 1

def m_Road___init__ : Sl → O := (mSeq (mFldNew "Road" "first" 0 (gVar 1))
  (mSeq (mFldNew "Road" "entries" 0 (gVar 2))
  (mSeq (mFldNew "Road" "now" 0 (gVar 3))
  mNil)))
def f_Road___init__ : List D → O := runIni m_Road___init__ 0

def m_Road_behind_one : Sl → O := (mSeq (mRet (gCall (dMake "Road" f_Road___init__) (gCons (gUn (oAt "Road" "first") (gVar 0)) (gCons (gBin dAdd (gUn (oAt "Road" "entries") (gVar 0)) (gLst (gCons (gVar 1) gNil))) (gCons (gCall f_behind_entry (gCons (gUn (oAt "Road" "now") (gVar 0)) (gCons (gVar 1) gNil))) gNil)))))
  mNil)
def f_Road_behind_one : List D → R D := runF m_Road_behind_one 0

def m_Road_anew : Sl → O := (mSeq (mRet (gCall (dMake "Road" f_Road___init__) (gCons (gUn (oAt "Road" "first") (gVar 0)) (gCons (gVar 1) (gCons (gCall f_gone_over (gCons (gUn (oAt "Road" "first") (gVar 0)) (gCons (gVar 1) gNil))) gNil)))))
  mNil)
def f_Road_anew : List D → R D := runF m_Road_anew 0

def m_is_name : Sl → O := (mSeq (mRet (vAnd (gChain dLe dLe (gC (.int 1)) (gCall fLen (gCons (gVar 0) gNil)) (gC (.int 8))) (gCall fAll (gCons (gComp (gIter (gVar 0)) (.one 1) [1] gYes (gBin dIn (gVar 1) (gC (.str "abcdefghijklmnopqrstuvwxyz")))) gNil))))
  mNil)
def f_is_name : List D → R D := runF m_is_name 1

def m_House___init__ : Sl → O := (mSeq (mFldNew "House" "by_name" 0 (gC (.dct [])))
  (mSeq (mFldNew "House" "done" 0 (gLst gNil))
  (mSeq (mFldNew "House" "gone" 0 (gLst gNil))
  mNil)))
def f_House___init__ : List D → O := runIni m_House___init__ 0

def m_House_road : Sl → O := (mSeq (mIf (gTest (gBin dDout (gVar 1) (gUn (oAt "House" "by_name") (gVar 0))))
  (mSeq (mRaise "NoRoad")
  mNil)
  mNil)
  (mSeq (mRet (gBin dDix (gUn (oAt "House" "by_name") (gVar 0)) (gVar 1)))
  mNil))
def f_House_road : List D → R D := runF m_House_road 0

def m_House_become : Sl → O := (mSeq (mFldApp "House" "done" 0 1 (gTup (gCons (gVar 1) (gCons (gFld "House" 0 0) gNil))))
  (mSeq (mFldPut "House" "gone" 0 2 (gLst gNil))
  (mSeq (mFldPut "House" "by_name" 0 0 (gCall fDictD (gCons (gFld "House" 0 0) gNil)))
  (mSeq (mIf (gNoT (gTest (gUn dIsN (gVar 3))))
  (mSeq (mFldPopK "House" "by_name" 0 0 (gVar 2))
  mNil)
  (mSeq (mFldPutK "House" "by_name" 0 0 (gVar 2) (gVar 3))
  mNil))
  mNil))))
def f_House_become : List D → O := runM m_House_become 1 0

def m_House_build : Sl → O := (mSeq (mIf (gNot (gTest (gCall f_is_name (gCons (gVar 1) gNil))))
  (mSeq (mRaise "BadName")
  mNil)
  mNil)
  (mSeq (mIf (gTest (gBin dDin (gVar 1) (gFld "House" 0 0)))
  (mSeq (mRaise "Taken")
  mNil)
  mNil)
  (mSeq (mExpr (gCall f_look_row (gCons (gVar 2) gNil)))
  (mSeq (mIf (gTest (gBin dGe (gCall fLenD (gCons (gFld "House" 0 0) gNil)) (gC (.int 8))))
  (mSeq (mRaise "Full")
  mNil)
  mNil)
  (mSeq (mExprX (mMeth "House" 0 f_House_become (gCons (gTup (gCons (gC (.str "build")) (gCons (gVar 1) (gCons (gCall fTuple (gCons (gVar 2) gNil)) gNil)))) (gCons (gVar 1) (gCons (gCall (dMake "Road" f_Road___init__) (gCons (gCall fList (gCons (gVar 2) gNil)) (gCons (gLst gNil) (gCons (gCall fList (gCons (gVar 2) gNil)) gNil)))) gNil)))))
  mNil)))))
def f_House_build : List D → O := runM m_House_build 1 0

def m_House_shut : Sl → O := (mSeq (mExpr (gMethR "House" "road" f_House_road (gVar 0) (gCons (gVar 1) gNil)))
  (mSeq (mExprX (mMeth "House" 0 f_House_become (gCons (gTup (gCons (gC (.str "shut")) (gCons (gVar 1) gNil))) (gCons (gVar 1) (gCons (gC .non) gNil)))))
  mNil))
def f_House_shut : List D → O := runM m_House_shut 1 0

def m_House_walk : Sl → O := (mSeq (mSet 4 (gMethR "House" "road" f_House_road (gVar 0) (gCons (gVar 1) gNil)))
  (mSeq (mExpr (gCall f_look_creel (gCons (gVar 2) gNil)))
  (mSeq (mExprX (mMeth "House" 0 f_House_become (gCons (gTup (gCons (gC (.str "walk")) (gCons (gVar 1) (gCons (gVar 2) (gCons (gVar 3) gNil))))) (gCons (gVar 1) (gCons (gMethR "Road" "behind_one" f_Road_behind_one (gVar 4) (gCons (gTup (gCons (gC (.str "walk")) (gCons (gVar 2) (gCons (gVar 3) gNil)))) gNil)) gNil)))))
  mNil)))
def f_House_walk : List D → O := runM m_House_walk 1 1

def m_House_take : Sl → O := (mSeq (mSet 3 (gMethR "House" "road" f_House_road (gVar 0) (gCons (gVar 1) gNil)))
  (mSeq (mExprX (mMeth "House" 0 f_House_become (gCons (gTup (gCons (gC (.str "take")) (gCons (gVar 1) (gCons (gVar 2) gNil)))) (gCons (gVar 1) (gCons (gMethR "Road" "behind_one" f_Road_behind_one (gVar 3) (gCons (gTup (gCons (gC (.str "take")) (gCons (gVar 2) gNil))) gNil)) gNil)))))
  mNil))
def f_House_take : List D → O := runM m_House_take 1 1

def m_House_lay : Sl → O := (mSeq (mSet 4 (gMethR "House" "road" f_House_road (gVar 0) (gCons (gVar 1) gNil)))
  (mSeq (mSet 5 (gCall fTuple (gCons (gUn (oAt "Road" "now") (gMethR "House" "road" f_House_road (gVar 0) (gCons (gVar 2) gNil))) gNil)))
  (mSeq (mExprX (mMeth "House" 0 f_House_become (gCons (gTup (gCons (gC (.str "lay")) (gCons (gVar 1) (gCons (gVar 2) (gCons (gVar 3) gNil))))) (gCons (gVar 1) (gCons (gMethR "Road" "behind_one" f_Road_behind_one (gVar 4) (gCons (gTup (gCons (gC (.str "lay")) (gCons (gVar 5) (gCons (gVar 3) gNil)))) gNil)) gNil)))))
  mNil)))
def f_House_lay : List D → O := runM m_House_lay 1 2

def m_House_late : Sl → O := (mSeq (mSet 5 (gMethR "House" "road" f_House_road (gVar 0) (gCons (gVar 1) gNil)))
  (mSeq (mIf (gOr (gTest (gBin dLt (gVar 2) (gC (.int 0)))) (gTest (gBin dGt (gVar 2) (gCall fLen (gCons (gUn (oAt "Road" "entries") (gVar 5)) gNil)))))
  (mSeq (mRaise "NoEntry")
  mNil)
  mNil)
  (mSeq (mExpr (gCall f_look_creel (gCons (gVar 3) gNil)))
  (mSeq (mSet 6 (gMethR "Road" "anew" f_Road_anew (gVar 5) (gCons (gBin dAdd (gBin dAdd (gSl (gUn (oAt "Road" "entries") (gVar 5)) gNoPart (gPart (gVar 2))) (gLst (gCons (gTup (gCons (gC (.str "walk")) (gCons (gVar 3) (gCons (gVar 4) gNil)))) gNil))) (gSl (gUn (oAt "Road" "entries") (gVar 5)) (gPart (gVar 2)) gNoPart)) gNil)))
  (mSeq (mExprX (mMeth "House" 0 f_House_become (gCons (gTup (gCons (gC (.str "late")) (gCons (gVar 1) (gCons (gVar 2) (gCons (gVar 3) (gCons (gVar 4) gNil)))))) (gCons (gVar 1) (gCons (gVar 6) gNil)))))
  mNil)))))
def f_House_late : List D → O := runM m_House_late 1 2

def m_House_back : Sl → O := (mSeq (mIf (gTest (gBin (dNilQ false) (gFld "House" 0 1) (gLst gNil)))
  (mSeq (mRaise "NothingLeft")
  mNil)
  mNil)
  (mSeq (mUnpackX (.tup [1, 2]) (mFldPop "House" "done" 0 1))
  (mSeq (mFldApp "House" "gone" 0 2 (gTup (gCons (gVar 1) (gCons (gFld "House" 0 0) gNil))))
  (mSeq (mFldPut "House" "by_name" 0 0 (gVar 2))
  (mSeq (mRet (gVar 1))
  mNil)))))
def f_House_back : List D → O := runM m_House_back 1 2

def m_House_roads : Sl → O := (mSeq (mRet (gCall fListD (gCons (gUn (oAt "House" "by_name") (gVar 0)) gNil)))
  mNil)
def f_House_roads : List D → R D := runF m_House_roads 0

def m_House_row : Sl → O := (mSeq (mRet (gCall fList (gCons (gUn (oAt "Road" "now") (gMethR "House" "road" f_House_road (gVar 0) (gCons (gVar 1) gNil))) gNil)))
  mNil)
def f_House_row : List D → R D := runF m_House_row 0

def m_House_log : Sl → O := (mSeq (mRet (gCall fList (gCons (gUn (oAt "Road" "entries") (gMethR "House" "road" f_House_road (gVar 0) (gCons (gVar 1) gNil))) gNil)))
  mNil)
def f_House_log : List D → R D := runF m_House_log 0

def m_House_deeds : Sl → O := (mSeq (mRet (gComp (gIter (gUn (oAt "House" "done") (gVar 0))) (.tup [1, 2]) [1, 2] gYes (gVar 1)))
  mNil)
def f_House_deeds : List D → R D := runF m_House_deeds 2

def m_House_undone : Sl → O := (mSeq (mRet (gComp (gReversed (gUn (oAt "House" "gone") (gVar 0))) (.tup [1, 2]) [1, 2] gYes (gVar 1)))
  mNil)
def f_House_undone : List D → R D := runF m_House_undone 2

def b_numbers_L_1 : Sl → O := (mSeq (mIf (gTest (gBin dGt (gVar 5) (gC (.int 0))))
  (mSeq (mApp 2 (gBin dMod (gVar 5) (gC (.int 1013))))
  (mSeq (mSet 5 (gBin dFdiv (gVar 5) (gC (.int 1013))))
  mNil))
  mNil)
  mNil)
def b_numbers_L_2 : Sl → O := (mSeq (mSet 3 (gBin dMod (gBin dAdd (gBin dAdd (gBin dMul (gVar 3) (gC (.int 40014))) (gBin dMod (gVar 4) (gC (.int 999983)))) (gC (.int 29))) (gC (.int 2147483563))))
  (mSeq (mSet 5 (gBin dSub (gVar 4) (gBin dPow (gC (.int 10)) (gC (.int 18)))))
  (mSeq (mIf (gTest (gBin dLt (gVar 5) (gC (.int 0))))
  (mSeq (mApp 2 (gBin dMod (gVar 4) (gC (.int 9967))))
  mNil)
  mNil)
  (mSeq (mFor (gRange1 (gC (.int 60))) (.one 6) b_numbers_L_1)
  mNil))))
def b_numbers_L_3 : Sl → O := (mSeq (mSet 3 (gBin dMod (gBin dAdd (gBin dAdd (gBin dAdd (gBin dMul (gVar 3) (gVar 3)) (gBin dMul (gC (.int 52774)) (gVar 3))) (gBin dMul (gC (.int 13)) (gCall fLen (gCons (gVar 2) gNil)))) (gC (.int 7))) (gC (.int 2147483629))))
  (mSeq (mApp 2 (gBin dMod (gBin dFdiv (gVar 3) (gC (.int 1019))) (gC (.int 9967))))
  mNil))
def m_numbers_L : Sl → O := (mSeq (mSet 2 (gLst gNil))
  (mSeq (mSet 3 (gC (.int 59)))
  (mSeq (mFor (gIter (gSlS (gVar 0) gNoPart (gPart (gC (.int 63))))) (.one 4) b_numbers_L_2)
  (mSeq (whileL (gTest (gBin dLt (gCall fLen (gCons (gVar 2) gNil)) (gVar 1))) b_numbers_L_3 WB)
  (mSeq (mRet (gSl (gVar 2) gNoPart (gPart (gVar 1))))
  mNil)))))
def f_numbers_L : List D → R D := runF m_numbers_L 5

def m_same_L (fs : List D → R D) : Sl → O := (mSeq (mIf (gTest (gUn dIsN (gVar 1)))
  (mSeq (mRet (gUn dIsN (gVar 0)))
  mNil)
  mNil)
  (mSeq (mIf (gTest (gUn dIsLT (gVar 1)))
  (mSeq (mIf (gOr (gTest (gBin dNe (gUn (dIs .list) (gVar 0)) (gUn (dIs .list) (gVar 1)))) (gTest (gBin dNe (gUn (dIs .tuple) (gVar 0)) (gUn (dIs .tuple) (gVar 1)))))
  (mSeq (mRet (gC (.bl false)))
  mNil)
  mNil)
  (mSeq (mRet (vAnd (gBin dEq (gCall fLen (gCons (gVar 0) gNil)) (gCall fLen (gCons (gVar 1) gNil))) (gCall fAll (gCons (gComp (gRange1 (gCall fLen (gCons (gVar 1) gNil))) (.one 2) [2] gYes (gCall fs (gCons (gBin dIdx (gVar 0) (gVar 2)) (gCons (gBin dIdx (gVar 1) (gVar 2)) gNil)))) gNil))))
  mNil))
  mNil)
  (mSeq (mIf (gOr (gTest (gBin dNe (gUn (dIs .bool) (gVar 0)) (gUn (dIs .bool) (gVar 1)))) (gTest (gBin dNe (gUn (dIs .str) (gVar 0)) (gUn (dIs .str) (gVar 1)))))
  (mSeq (mRet (gC (.bl false)))
  mNil)
  mNil)
  (mSeq (mRet (vAnd (gBin dEq (gUn (dIs .int) (gVar 0)) (gUn (dIs .int) (gVar 1))) (gBin dEq (gVar 0) (gVar 1))))
  mNil))))
def f_same_L : Nat → List D → R D
  | 0 => fun _ => .stuck
  | n + 1 => runF (m_same_L (f_same_L n)) 1

def b_row_L_1 : Sl → O := (mSeq (mSet 5 (gBin dIdx (gVar 0) (gBin dAdd (gC (.int 3)) (gVar 4))))
  (mSeq (mSet 2 (gBin dAdd (gBin dAdd (gVar 2) (gC (.int 1))) (gIf (gTest (gBin dEq (gBin dMod (gVar 5) (gC (.int 3))) (gC (.int 0)))) (gC (.int 0)) (gBin dMod (gBin dFdiv (gVar 5) (gC (.int 3))) (gBin dIdx (gLst (gCons (gC (.int 2)) (gCons (gC (.int 3)) (gCons (gC (.int 5)) (gCons (gC (.int 12)) gNil))))) (gBin dMod (gBin dIdx (gVar 0) (gC (.int 2))) (gC (.int 4))))))))
  (mSeq (mApp 3 (gVar 2))
  mNil)))
def m_row_L : Sl → O := (mSeq (mSet 2 (gBin dSub (gBin dMod (gBin dIdx (gVar 0) (gC (.int 0))) (gC (.int 31))) (gC (.int 15))))
  (mSeq (mSet 3 (gLst gNil))
  (mSeq (mFor (gRange1 (gBin dMod (gBin dIdx (gVar 0) (gC (.int 1))) (gBin dAdd (gVar 1) (gC (.int 1))))) (.one 4) b_row_L_1)
  (mSeq (mRetV 3)
  mNil))))
def f_row_L : List D → R D := runF m_row_L 4

def m_long_row_L : Sl → O := (mSeq (mSet 2 (gCall f_row_L (gCons (gVar 0) (gCons (gVar 1) gNil))))
  (mSeq (mSet 3 (gBin dMod (gBin dFdiv (gBin dIdx (gVar 0) (gC (.int 2))) (gC (.int 4))) (gBin dAdd (gCall fLen (gCons (gVar 2) gNil)) (gC (.int 1)))))
  (mSeq (mSet 4 (gBin dIdx (gLst (gCons (gC (.int 0)) (gCons (gBin dPow (gC (.int 10)) (gC (.int 3))) (gCons (gBin dPow (gC (.int 10)) (gC (.int 12))) (gCons (gBin dPow (gC (.int 10)) (gC (.int 40))) gNil))))) (gBin dMod (gBin dFdiv (gBin dIdx (gVar 0) (gC (.int 2))) (gC (.int 64))) (gC (.int 4)))))
  (mSeq (mRet (gBin dAdd (gSl (gVar 2) gNoPart (gPart (gVar 3))) (gComp (gIter (gSl (gVar 2) (gPart (gVar 3)) gNoPart)) (.one 5) [5] gYes (gBin dAdd (gVar 5) (gVar 4)))))
  mNil))))
def f_long_row_L : List D → R D := runF m_long_row_L 4

def m_behind_L : Sl → O := (mSeq (mSet 3 (gBin dSub (gBin dAdd (gBin dAdd (gBin dIdx (gVar 0) (gUn dNeg (gC (.int 1)))) (gC (.int 1))) (gVar 2)) (gBin dIdx (gVar 1) (gC (.int 0)))))
  (mSeq (mRet (gBin dAdd (gVar 0) (gComp (gIter (gVar 1)) (.one 4) [4] gYes (gBin dAdd (gVar 4) (gVar 3)))))
  mNil))
def f_behind_L : List D → R D := runF m_behind_L 2

def b_view_L_1 : Sl → O := (mSeq (mCatL 1 (gLst (gCons (gMethR "House" "row" f_House_row (gVar 0) (gCons (gVar 2) gNil)) (gCons (gMethR "House" "log" f_House_log (gVar 0) (gCons (gVar 2) gNil)) gNil))))
  mNil)
def m_view_L : Sl → O := (mSeq (mSet 1 (gLst (gCons (gMethR "House" "roads" f_House_roads (gVar 0) gNil) (gCons (gMethR "House" "deeds" f_House_deeds (gVar 0) gNil) (gCons (gMethR "House" "undone" f_House_undone (gVar 0) gNil) gNil)))))
  (mSeq (mFor (gIter (gMethR "House" "roads" f_House_roads (gVar 0) gNil)) (.one 2) b_view_L_1)
  (mSeq (mRetV 1)
  mNil)))
def f_view_L : List D → R D := runFO m_view_L 2

def m_spoil_L : Sl → O := (mSeq (mForRvT 1 (gCall f_view_L (gCons (gVar 0) gNil)) (gTup (gCons (gC (.int 3)) (gCons (gC (.int 3)) gNil))))
  mNil)
def f_spoil_L : List D → R D := runF m_spoil_L 1

def m_law : Sl → O := (mSeq (mSet 1 (gCall f_numbers_L (gCons (gVar 0) (gCons (gC (.int 60)) gNil))))
  (mSeq (mSet 2 (gLst (gCons (gBin dAdd (gCall f_long_row_L (gCons (gSl (gVar 1) (gPart (gC (.int 5))) gNoPart) (gCons (gC (.int 8)) gNil))) (gLst (gCons (gBin dPow (gC (.int 10)) (gC (.int 41))) gNil))) (gCons (gBin dAdd (gCall f_row_L (gCons (gSl (gVar 1) (gPart (gC (.int 20))) gNoPart) (gCons (gC (.int 8)) gNil))) (gLst (gCons (gC (.int 300)) (gCons (gC (.int 302)) gNil)))) gNil))))
  (mSeq (mSet 3 (gCall (dMake "House" f_House___init__) gNil))
  (mSeq (mSet 4 (gComp (gIter (gVar 2)) (.one 5) [5] gYes (gCall fList (gCons (gVar 5) gNil))))
  (mSeq (mExprX (mMethI "House" 3 f_House_build (gC (.str "one")) 4 (gC (.int 0))))
  (mSeq (mExprX (mMethI "House" 3 f_House_build (gC (.str "two")) 4 (gC (.int 1))))
  (mSeq (mForARv 4 6 (gC (.int 5)))
  (mSeq (mIf (gNot (gTest (gCall (f_same_L 8) (gCons (gLst (gCons (gMethR "House" "row" f_House_row (gVar 3) (gCons (gC (.str "one")) gNil)) (gCons (gMethR "House" "row" f_House_row (gVar 3) (gCons (gC (.str "two")) gNil)) gNil))) (gCons (gVar 2) gNil)))))
  (mSeq (mRet (gC (.bl false)))
  mNil)
  mNil)
  (mSeq (mSet 7 (gCall f_view_L (gCons (gVar 3) gNil)))
  (mSeq (mExpr (gCall f_spoil_L (gCons (gVar 3) gNil)))
  (mSeq (mIf (gNot (gTest (gCall (f_same_L 8) (gCons (gCall f_view_L (gCons (gVar 3) gNil)) (gCons (gVar 7) gNil)))))
  (mSeq (mRet (gC (.bl false)))
  mNil)
  mNil)
  (mSeq (mExprX (mMeth "House" 3 f_House_lay (gCons (gC (.str "one")) (gCons (gC (.str "two")) (gCons (gBin dAdd (gCall fLen (gCons (gBin dIdx (gVar 2) (gC (.int 1))) gNil)) (gBin dMod (gBin dIdx (gVar 1) (gC (.int 0))) (gC (.int 9)))) gNil)))))
  (mSeq (mSet 8 (gCall f_behind_L (gCons (gBin dIdx (gVar 2) (gC (.int 0))) (gCons (gBin dIdx (gVar 2) (gC (.int 1))) (gCons (gBin dAdd (gCall fLen (gCons (gBin dIdx (gVar 2) (gC (.int 1))) gNil)) (gBin dMod (gBin dIdx (gVar 1) (gC (.int 0))) (gC (.int 9)))) gNil)))))
  (mSeq (mExprX (mMeth "House" 3 f_House_walk (gCons (gC (.str "two")) (gCons (gBin dAdd (gC (.int 1)) (gBin dMod (gBin dIdx (gVar 1) (gC (.int 1))) (gC (.int 9)))) (gCons (gBin dIdx (gVar 1) (gC (.int 2))) gNil)))))
  (mSeq (mExprX (mMeth "House" 3 f_House_take (gCons (gC (.str "two")) (gCons (gBin dIdx (gMethR "House" "row" f_House_row (gVar 3) (gCons (gC (.str "two")) gNil)) (gC (.int 0))) gNil))))
  (mSeq (mExprX (mMeth "House" 3 f_House_lay (gCons (gC (.str "two")) (gCons (gC (.str "two")) (gCons (gBin dAdd (gC (.int 20)) (gBin dMod (gBin dIdx (gVar 1) (gC (.int 3))) (gC (.int 9)))) gNil)))))
  (mSeq (mExpr (gCall f_spoil_L (gCons (gVar 3) gNil)))
  (mSeq (mIf (gOr (gTest (gBin dNe (gMethR "House" "row" f_House_row (gVar 3) (gCons (gC (.str "one")) gNil)) (gVar 8))) (gTest (gBin dNe (gMethR "House" "log" f_House_log (gVar 3) (gCons (gC (.str "one")) gNil)) (gLst (gCons (gTup (gCons (gC (.str "lay")) (gCons (gCall fTuple (gCons (gBin dIdx (gVar 2) (gC (.int 1))) gNil)) (gCons (gBin dAdd (gCall fLen (gCons (gBin dIdx (gVar 2) (gC (.int 1))) gNil)) (gBin dMod (gBin dIdx (gVar 1) (gC (.int 0))) (gC (.int 9)))) gNil)))) gNil)))))
  (mSeq (mRet (gC (.bl false)))
  mNil)
  mNil)
  (mSeq (mExprX (mMeth "House" 3 f_House_shut (gCons (gC (.str "two")) gNil)))
  (mSeq (mExprX (mMeth "House" 3 f_House_back gNil))
  (mSeq (mExprX (mMeth "House" 3 f_House_late (gCons (gC (.str "one")) (gCons (gC (.int 0)) (gCons (gC (.int 2)) (gCons (gBin dMod (gBin dIdx (gVar 1) (gC (.int 4))) (gC (.int 90))) gNil))))))
  (mSeq (mSet 9 (gCall f_far (gCons (gCall fList (gCons (gBin dIdx (gVar 2) (gC (.int 0))) gNil)) (gCons (gLst (gCons (gTup (gCons (gC (.int 2)) (gCons (gBin dMod (gBin dIdx (gVar 1) (gC (.int 4))) (gC (.int 90))) gNil))) gNil)) gNil))))
  (mSeq (mExpr (gCall f_spoil_L (gCons (gVar 3) gNil)))
  (mSeq (mSet 10 (gCall f_behind_L (gCons (gVar 9) (gCons (gBin dIdx (gVar 2) (gC (.int 1))) (gCons (gBin dAdd (gCall fLen (gCons (gBin dIdx (gVar 2) (gC (.int 1))) gNil)) (gBin dMod (gBin dIdx (gVar 1) (gC (.int 0))) (gC (.int 9)))) gNil)))))
  (mSeq (mRet (vAnd (gBin dEq (gMethR "House" "row" f_House_row (gVar 3) (gCons (gC (.str "one")) gNil)) (gVar 10)) (gBin dEq (gBin dIdx (gMethR "House" "deeds" f_House_deeds (gVar 3) gNil) (gUn dNeg (gC (.int 1)))) (gTup (gCons (gC (.str "late")) (gCons (gC (.str "one")) (gCons (gC (.int 0)) (gCons (gC (.int 2)) (gCons (gBin dMod (gBin dIdx (gVar 1) (gC (.int 4))) (gC (.int 90))) gNil)))))))))
  mNil)))))))))))))))))))))))))
def f_law : List D → R D := runF m_law 10

def roadD (f e n : D) : D := .obj "Road" [("first", f), ("entries", e), ("now", n)]
def houseD (by_ : List (Key × D)) (dn gn : List D) : D := .obj "House" [("by_name", .dct by_), ("done", .lst dn), ("gone", .lst gn)]
theorem at_now (f e n : D) : oAt "Road" "now" (roadD f e n) = .ok n := rfl
theorem meth_house (m : Str) (f : List D → R D) (b : List (Key × D)) (dn gn : List D) (t : R (List D)) (h : List.lookup m [("by_name", D.dct b), ("done", D.lst dn), ("gone", D.lst gn)] = none) : dMethR "House" m f (houseD b dn gn) t = t >>= fun ds => f (houseD b dn gn :: ds) := by
  unfold dMethR houseD
  dsimp only
  rw [if_pos rfl, h]
theorem meth_hroad (f : List D → R D) (b : List (Key × D)) (dn gn : List D) (t : R (List D)) : dMethR "House" "road" f (houseD b dn gn) t = t >>= fun ds => f (houseD b dn gn :: ds) := meth_house _ _ _ _ _ _ rfl
theorem at_byname (b : List (Key × D)) (dn gn : List D) : oAt "House" "by_name" (houseD b dn gn) = .ok (.dct b) := rfl
theorem hroad_ok (b : List (Key × D)) (dn gn : List D) (x : Str) (rd : D) (h : valD b (.inr x) = some rd) : f_House_road [houseD b dn gn, .str x] = .ok rd := by
  have k : keyOf (.str x) = some (.inr x) := rfl
  simp [f_House_road, m_House_road, at_byname, k, h, -oAt]
theorem hrow_ok (b : List (Key × D)) (dn gn : List D) (x : Str) (f e : D) (r : List D) (h : valD b (.inr x) = some (roadD f e (.lst r))) : f_House_row [houseD b dn gn, .str x] = .ok (.lst r) := by
  have a := hroad_ok b dn gn x _ h
  simp [f_House_row, m_House_row, meth_hroad, a, at_now, -oAt]
inductive Ent where
  | walk (c n : Int)
  | put (p : Int)
  | take (p : Int)
  | mirror
  | lay (o : List Int) (g : Int)
structure RoadS where
  first : List Int
  ents : List Ent
  now : List Int
def entD : Ent → D
  | .walk c n => .tup [.str "walk", .int c, .int n]
  | .put p => .tup [.str "put", .int p]
  | .take p => .tup [.str "take", .int p]
  | .mirror => .tup [.str "mirror"]
  | .lay o g => .tup [.str "lay", .tup (o.map D.int), .int g]
def roadO (r : RoadS) : D := roadD (.lst (r.first.map D.int)) (.lst (r.ents.map entD)) (.lst (r.now.map D.int))
abbrev StS := List (Str × RoadS)
def rdS (st : StS) (x : Str) : Option RoadS := (st.find? fun p => decide (p.1 = x)).map (·.2)
def mapS (F : RoadS → D) (st : StS) : List (Key × D) := st.map fun p => (.inr p.1, F p.2)
theorem mapS_val (F : RoadS → D) (st : StS) (x : Str) : valD (mapS F st) (.inr x) = (rdS st x).map F := by
  induction st with
  | nil => rfl
  | cons p st ih =>
    show valD ((.inr p.1, F p.2) :: mapS F st) (.inr x) = _
    by_cases c : p.1 = x
    · rw [valD_pos (by rw [c])]
      simp [rdS, List.find?_cons, c]
    · rw [valD_neg (by simpa using c), ih]
      simp [rdS, List.find?_cons, c]
abbrev hsD (st : StS) (dn gn : List D) : D := houseD (mapS roadO st) dn gn
theorem hrow_some {st : StS} {dn gn : List D} {x : Str} {r : RoadS} (h : rdS st x = some r) : f_House_row [hsD st dn gn, .str x] = .ok (.lst (r.now.map D.int)) := by
  have v := mapS_val roadO st x
  rw [h] at v
  exact hrow_ok _ _ _ _ _ _ _ v
theorem dRange2_gen (a b : Nat) (ha : a ≤ 16777216) (h : b ≤ 16777216) : dRange2 (.int (a : Int)) (.int (b : Int)) = .ok ((List.range' a (b - a)).map fun (i : Nat) => D.int i) := by
  dsimp only [dRange2]
  rw [if_pos (by rw [szL_val]; omega), show ((b : Int) - (a : Int)).toNat = b - a by omega]
  unfold rangeD
  rw [List.range'_eq_map_range]
  simp
def Rising (r : List Int) : Prop := r.Pairwise (· < ·)
theorem dIdx_list {ds : List D} {i : Nat} {d : D} (h : ds[i]? = some d) : dIdx (.lst ds) (.int i) = .ok d := by
  dsimp only [dIdx]
  rw [atI_nat h]
theorem int_at {l : List Int} {i : Nat} {v : Int} (h : l[i]? = some v) {j : Int} (hj : j = (i : Int)) : dIdx (.lst (l.map D.int)) (.int j) = .ok (.int v) := by
  subst hj
  refine dIdx_list ?_
  rw [List.getElem?_map, h]
  rfl
theorem int_in {l : List Int} {i : Nat} (h : i < l.length) {j : Int} (hj : j = (i : Int)) : dIdx (.lst (l.map D.int)) (.int j) = .ok (.int l[i]) := int_at (List.getElem?_eq_getElem h) hj

def Walks (ws : List (Int × Int)) : Prop := ∀ w ∈ ws, 1 ≤ w.1
def badW (ws : List (Int × Int)) : Bool := ws.any fun w => decide (w.1 < 1)
theorem forL_step {t : Tg} {mb : Sl → O} {d : D} {ds : List D} {r r' : Sl} {xs : List D} (h1 : t.un d = .ok xs) (h2 : mb (setD r t.is xs) = .nx r') : forL t mb (d :: ds) r = forL t mb ds r' := by
  show (match t.un d with
      | .ok xs => (match mb (setD r t.is xs) with
        | .nx r' => forL t mb ds r'
        | o => o)
      | _ => .stuck) = _
  rw [h1]
  dsimp only
  rw [h2]
theorem forL_first {α : Type} (F : α → D) (bad : α → Bool) (R : Sl → Prop) (out : α → Sl → O) (no : ∀ x r r2, out x r ≠ .nx r2) (t : Tg) (mb : Sl → O) : ∀ (l : List α) (r : Sl), R r → (∀ x ∈ l, ∀ r, R r → ∃ xs r', t.un (F x) = .ok xs ∧ R r' ∧ mb (setD r t.is xs) = if bad x then out x r' else .nx r') →
    ∃ r', R r' ∧ forL t mb (l.map F) r = match l.find? bad with
      | some x => out x r'
      | none => .nx r'
  | [], r, h, _ => ⟨r, h, rfl⟩
  | x :: l, r, h, k => by
    obtain ⟨xs, r1, e1, h1, e2⟩ := k x List.mem_cons_self r h
    cases c : bad x with
    | false =>
      rw [c, if_neg (by simp)] at e2
      obtain ⟨r', h3, e3⟩ := forL_first F bad R out no t mb l r1 h1 fun y hy => k y (List.mem_cons_of_mem _ hy)
      refine ⟨r', h3, ?_⟩
      rw [List.map_cons, forL_step e1 e2, e3, List.find?_cons, c]
    | true =>
      rw [c, if_pos rfl] at e2
      refine ⟨r1, h1, ?_⟩
      rw [List.find?_cons, c]
      show (match t.un (F x) with
        | .ok xs => (match mb (setD r t.is xs) with
          | .nx r' => forL t mb (l.map F) r'
          | o => o)
        | _ => .stuck) = _
      rw [e1]
      dsimp only
      rw [e2]
      cases q : out x r1 with
      | nx r2 => exact absurd q (no x r1 r2)
      | stuck => rfl
      | rt d r2 => rfl
      | exc y r2 => rfl

theorem look_walks_any (ws : List (Int × Int)) : f_look_walks [.lst (ws.map twoD)] = if badW ws then .exc ⟨"BadCreel", none⟩ else .ok .non := by
  obtain ⟨r', ⟨a, b, hr⟩, e⟩ := forL_first twoD (fun w => decide (w.1 < 1)) (fun t => ∃ a b, t = [some (.lst (ws.map twoD)), a, b]) (fun _ t => .exc ⟨"BadCreel", none⟩ t) (by intros; simp) (.tup [1, 2]) b_look_walks_1 ws [some (.lst (ws.map twoD)), none, none] ⟨none, none, rfl⟩ (fun w hw t ⟨a, b, e⟩ => by
    subst e
    refine ⟨[.int w.1, .int w.2], [some (.lst (ws.map twoD)), some (.int w.1), some (.int w.2)], rfl, ⟨_, _, rfl⟩, ?_⟩
    by_cases c : w.1 < 1 <;> simp [b_look_walks_1, f_look_creel, m_look_creel, c])
  subst hr
  have eb : badW ws = (ws.find? fun w => decide (w.1 < 1)).isSome := by
    rw [Bool.eq_iff_iff, List.find?_isSome]
    unfold badW
    rw [List.any_eq_true]
  rw [eb]
  generalize ws.find? (fun w => decide (w.1 < 1)) = fo at *
  cases fo <;> simp [f_look_walks, m_look_walks, e]
theorem forL_fold {α σ : Type} (F : α → D) (f : σ → α → σ) (R : σ → Sl → Prop) (t : Tg) (mb : Sl → O) : ∀ (l : List α) (s : σ) (r : Sl), R s r → (∀ x ∈ l, ∀ s r, R s r → ∃ xs r', t.un (F x) = .ok xs ∧ mb (setD r t.is xs) = .nx r' ∧ R (f s x) r') → ∃ r', forL t mb (l.map F) r = .nx r' ∧ R (l.foldl f s) r'
  | [], s, r, h, _ => ⟨r, rfl, h⟩
  | x :: l, s, r, h, k => by
    obtain ⟨xs, r1, e1, e2, h1⟩ := k x List.mem_cons_self s r h
    obtain ⟨r', e3, h3⟩ := forL_fold F f R t mb l (f s x) r1 h1 fun y hy => k y (List.mem_cons_of_mem _ hy)
    refine ⟨r', ?_, h3⟩
    rw [← e3]
    show (match t.un (F x) with
      | .ok xs => (match mb (setD r t.is xs) with
        | .nx r' => forL t mb (l.map F) r'
        | o => o)
      | _ => .stuck) = _
    rw [e1]
    dsimp only
    rw [e2]
theorem forL_foldI {α σ : Type} (F : α → D) (f : σ → α → σ) (R : Nat → σ → Sl → Prop) (t : Tg) (mb : Sl → O) : ∀ (l : List α) (n : Nat) (s : σ) (r : Sl), R n s r → (∀ i x, i < l.length → x ∈ l → ∀ s r, R (n + i) s r → ∃ xs r', t.un (F x) = .ok xs ∧ mb (setD r t.is xs) = .nx r' ∧ R (n + i + 1) (f s x) r') → ∃ r', forL t mb (l.map F) r = .nx r' ∧ R (n + l.length) (l.foldl f s) r'
  | [], n, s, r, h, _ => ⟨r, rfl, h⟩
  | x :: l, n, s, r, h, k => by
    obtain ⟨xs, r1, e1, e2, h1⟩ := k 0 x (by simp) List.mem_cons_self s r h
    obtain ⟨r', e3, h3⟩ := forL_foldI F f R t mb l (n + 1) (f s x) r1 h1 fun i y hi hy s r q => by
      have e : n + 1 + i = n + (i + 1) := by omega
      rw [e] at q ⊢
      exact k (i + 1) y (by simp; omega) (List.mem_cons_of_mem _ hy) s r q
    refine ⟨r', ?_, by rw [List.length_cons, show n + (l.length + 1) = n + 1 + l.length by omega]; exact h3⟩
    rw [← e3]
    show (match t.un (F x) with
      | .ok xs => (match mb (setD r t.is xs) with
        | .nx r' => forL t mb (l.map F) r'
        | o => o)
      | _ => .stuck) = _
    rw [e1]
    dsimp only
    rw [e2]
theorem whileL_fin {tc : Sl → R Bool} {mb : Sl → O} {n : Nat} {r : Sl} (h : tc r = .ok false) : whileL tc mb (n + 1) r = .nx r := by
  show onR (tc r) r _ = _
  rw [h]
  rfl
theorem whileL_turn {tc : Sl → R Bool} {mb : Sl → O} {n : Nat} {r r' : Sl} (h : tc r = .ok true) (h2 : mb r = .nx r') : whileL tc mb (n + 1) r = whileL tc mb n r' := by
  show onR (tc r) r _ = _
  rw [h]
  dsimp only [onR]
  rw [if_pos rfl, h2]
theorem dEqB_two (a b : Int × Int) : dEqB (twoD a) (twoD b) = decide (a = b) := by
  show ((a.1 == b.1) && ((a.2 == b.2) && true)) = _
  obtain ⟨a1, a2⟩ := a
  obtain ⟨b1, b2⟩ := b
  by_cases h1 : a1 = b1 <;> by_cases h2 : a2 = b2 <;> simp [h1, h2]
/-- alike as far as it matters -/
def Rc (N : Nat) (a b : List Int) : Prop := a = b ∨ ∃ C a' b', a = C ++ a' ∧ b = C ++ b' ∧ N ≤ C.length
theorem Rc.symm {N : Nat} {a b : List Int} (h : Rc N a b) : Rc N b a := by
  rcases h with h | ⟨C, a', b', h1, h2, h3⟩
  · exact .inl h.symm
  · exact .inr ⟨C, b', a', h2, h1, h3⟩
theorem erase_idx : ∀ (ps : List (Int × Int)) (x : Int × Int), x ∈ ps → ∃ j, (ps.map twoD).findIdx? (fun z => dEqB z (twoD x)) = some j ∧ (ps.map twoD).eraseIdx j = (ps.erase x).map twoD
  | [], x, h => by cases h
  | y :: ps, x, h => by
    rw [List.map_cons, List.findIdx?_cons, dEqB_two, List.erase_cons]
    by_cases e : y = x
    · exact ⟨0, by simp [e], by simp [e]⟩
    · have m : x ∈ ps := by
        rcases List.mem_cons.mp h with z | z
        · exact absurd z.symm e
        · exact z
      obtain ⟨j, e1, e2⟩ := erase_idx ps x m
      refine ⟨j + 1, by simp [e, e1], ?_⟩
      have e' : (y == x) = false := by simpa using e
      rw [e', List.eraseIdx_cons_succ, e2]
      rfl
theorem remL_ok {ps : List (Int × Int)} {x : Int × Int} (h : x ∈ ps) (hz : ps.length ≤ szL) : remL (ps.map twoD) (.tup [.int x.1, .int x.2]) = some ((ps.erase x).map twoD) := by
  obtain ⟨j, e1, e2⟩ := erase_idx ps x h
  have s1 : shp (twoD x) = true := pl_shp (n := 2) (by decide) pl_pair
  have s2 : shp (.lst (ps.map twoD)) = true := pl_shp (n := 3) (by decide) (pl_pairs hz)
  have e0 : remL (ps.map twoD) (twoD x) = some ((ps.erase x).map twoD) := by
    unfold remL
    rw [s1, s2, e1]
    simp [e2]
  exact e0
theorem Rc.drop {N k : Nat} {a b : List Int} (h : Rc N a b) (l : k ≤ N) : Rc (N - k) (a.drop k) (b.drop k) := by
  rcases h with h | ⟨C, a', b', h1, h2, h3⟩
  · exact .inl (by rw [h])
  · refine .inr ⟨C.drop k, a', b', ?_, ?_, by rw [List.length_drop]; omega⟩
    · rw [h1, List.drop_append_of_le_length (by omega)]
    · rw [h2, List.drop_append_of_le_length (by omega)]
theorem cutL_fromG {α : Type} {xs : List α} {k : Nat} {i : Int} (hi : i = (k : Int) := by rfl) : cutL xs (some i) none = xs.drop k := by
  by_cases h : k ≤ xs.length
  · exact cutL_from h hi
  · subst hi
    unfold cutL
    rw [HT.sIx_nat, HT.sIx_none, Nat.min_eq_right (by omega), Nat.sub_self, List.take_zero, List.drop_eq_nil_of_le (by omega)]
theorem ne_nil_two (ps : List (Int × Int)) (hz : ps.length ≤ 1000) : dNe (.lst (ps.map twoD)) (.lst []) = .ok (.bl (decide (ps ≠ []))) := by
  have s1 : shp (.lst (ps.map twoD)) = true := pl_shp (n := 3) (by decide) (pl_pairs (le_szL (by omega)))
  have s2 : shp (.lst ([].map twoD)) = true := pl_shp (n := 3) (by decide) (pl_pairs (le_szL (by decide)))
  have s2' : shp (.lst []) = true := s2
  unfold dNe
  rw [s1, s2']
  cases ps with
  | nil => rfl
  | cons p r => rfl
theorem app_pair (ps : List (Int × Int)) (a b : Int) : ps.map twoD ++ [D.tup [.int a, .int b]] = (ps ++ [(a, b)]).map twoD := by simp [twoD]
theorem mul2 (x : Int) : mulOk 2 x = true := mulOk_left (by decide) (by decide)
theorem eq_nil_ints (r : List Int) (hz : r.length ≤ 1000) : dEq (.lst (r.map D.int)) (.lst []) = .ok (.bl (decide (r = []))) := by
  have h := dEq_ints (xs := r) (ys := []) (le_szL (by omega)) (le_szL (by decide))
  exact h
theorem last_getD (r : List Int) (h : r ≠ []) : dIdx (.lst (r.map D.int)) (.int (-1)) = .ok (.int (r.getLastD 0)) := by
  rcases List.eq_nil_or_concat r with e | ⟨l, x, e⟩
  · exact absurd e h
  · rw [List.concat_eq_append] at e
    subst e
    dsimp only [dIdx]
    rw [List.map_append]
    show (match atI (l.map D.int ++ [D.int x]) (-1) with
      | some d => R.ok d
      | none => .stuck) = _
    rw [atI_last]
    simp
theorem head_getD (r : List Int) (h : r ≠ []) : dIdx (.lst (r.map D.int)) (.int 0) = .ok (.int (r.headD 0)) := by
  cases r with
  | nil => exact absurd rfl h
  | cons x r => exact dIdx_list (i := 0) rfl
theorem fSorted_two (ps : List (Int × Int)) : fSorted [.lst (ps.map twoD)] = .ok (.lst ((sortBy ltII ps).map twoD)) := by
  cases ps with
  | nil => rfl
  | cons p r =>
    dsimp only [fSorted]
    have e : intsOf ((p :: r).map twoD) = none := rfl
    rw [e, pairsOf_map]

/-- sizes that may be -/
def Siz (ss : List Int) : Prop := (∀ s ∈ ss, 1 ≤ s) ∧ ss.sum ≤ 60
theorem Siz.sum_ge : ∀ {ss : List Int}, (∀ s ∈ ss, 1 ≤ s) → (ss.length : Int) ≤ ss.sum
  | [], _ => by simp
  | x :: ss, h => by
    have a := h x List.mem_cons_self
    have b := Siz.sum_ge (ss := ss) fun s hs => h s (List.mem_cons_of_mem _ hs)
    rw [List.length_cons, List.sum_cons]
    omega
theorem Siz.len {ss : List Int} (h : Siz ss) : ss.length ≤ 60 := by
  have := Siz.sum_ge h.1
  have := h.2
  omega
theorem look_creel_ok (c : Int) (hc : 1 ≤ c) : f_look_creel [.int c] = .ok .non := by
  have h : ¬ c < 1 := by omega
  simp [f_look_creel, m_look_creel, h]

/-- a place that isn't above the one ahead -/
def badB (r : List Int) (k : Nat) : Bool := decide (r.getD k 0 ≤ r.getD (k - 1) 0)
def badAt (r : List Int) : Option Nat := (List.range' 1 (r.length - 1)).find? (badB r)
def rowX (r : List Int) : Option Exc := if 60 < r.length then some ⟨"TooMany", none⟩ else (badAt r).map fun k => ⟨"BadRow", some (.int k)⟩
def rowR (r : List Int) : R D := match rowX r with
  | some x => .exc x
  | none => .ok .non
theorem int_getD {r : List Int} {k : Nat} (h : k < r.length) {j : Int} (hj : j = (k : Int)) : dIdx (.lst (r.map D.int)) (.int j) = .ok (.int (r.getD k 0)) := by
  rw [int_in h hj, List.getD_eq_getElem?_getD, List.getElem?_eq_getElem h]
  rfl
theorem look_row_any (r : List Int) (hl : r.length ≤ 500) : f_look_row [.lst (r.map D.int)] = rowR r := by
  have hlen : ((r.map D.int).length : Int) = (r.length : Int) := by rw [List.length_map]
  by_cases c : 60 < r.length
  · have c' : (60 : Int) < (r.length : Int) := by omega
    have e : rowX r = some ⟨"TooMany", none⟩ := by unfold rowX; rw [if_pos c]
    unfold rowR
    rw [e]
    simp [f_look_row, m_look_row, c']
  · have c' : ¬ (60 : Int) < (r.length : Int) := by omega
    have d : dRange2 (.int 1) (.int (r.length : Int)) = _ := dRange2_gen 1 r.length (by decide) (by omega)
    obtain ⟨r', ⟨a, hr⟩, e⟩ := forL_first (fun (i : Nat) => D.int i) (badB r) (fun t => ∃ a, t = [some (.lst (r.map D.int)), a]) (fun k t => .exc ⟨"BadRow", some (.int k)⟩ t) (by intros; simp) (.one 1) b_look_row_1 (List.range' 1 (r.length - 1)) [some (.lst (r.map D.int)), none] ⟨none, rfl⟩ (fun k hk t ⟨a, e⟩ => by
      subst e
      have hk' := List.mem_range'_1.mp hk
      have e1 := int_getD (r := r) (k := k) (by omega) (j := (k : Int)) rfl
      have e2 := int_getD (r := r) (k := k - 1) (by omega) (j := (k : Int) - 1) (by omega)
      refine ⟨[.int k], [some (.lst (r.map D.int)), some (.int k)], rfl, ⟨_, rfl⟩, ?_⟩
      unfold badB
      generalize r.getD k 0 = x at *
      generalize r.getD (k - 1) 0 = y at *
      by_cases q : x ≤ y <;> simp [b_look_row_1, e1, e2, q, -dIdx])
    subst hr
    unfold rowR rowX badAt
    rw [if_neg c]
    generalize (List.range' 1 (r.length - 1)).map (fun (i : Nat) => D.int i) = rr at *
    generalize (List.range' 1 (r.length - 1)).find? (badB r) = fo at *
    cases fo <;> simp [f_look_row, m_look_row, d, e, c']
theorem look_loop (r : List Int) (h : Rising r) : ∀ (n k : Nat) (a : Option D), 1 ≤ k → k + n ≤ r.length → ∃ a', forL (.one 1) b_look_row_1 ((List.range' k n).map fun (i : Nat) => D.int i) [some (.lst (r.map D.int)), a] = .nx [some (.lst (r.map D.int)), a']
  | 0, k, a, _, _ => ⟨a, rfl⟩
  | n + 1, k, a, h1, h2 => by
    obtain ⟨a', e⟩ := look_loop r h n (k + 1) (some (.int (k : Int))) (by omega) (by omega)
    refine ⟨a', ?_⟩
    have lt : r[k - 1] < r[k] := List.pairwise_iff_getElem.mp h (k - 1) k (by omega) (by omega) (by omega)
    have e1 := int_in (l := r) (i := k) (by omega) (j := (k : Int)) rfl
    have e2 := int_in (l := r) (i := k - 1) (by omega) (j := (k : Int) - 1) (by omega)
    have nle : ¬ r[k] ≤ r[k - 1] := by omega
    generalize r[k] = x at *
    generalize r[k - 1] = y at *
    have b : b_look_row_1 [some (.lst (r.map D.int)), some (.int (k : Int))] = .nx [some (.lst (r.map D.int)), some (.int (k : Int))] := by
      simp [b_look_row_1, e1, e2, nle, -dIdx]
    rw [List.range'_succ, List.map_cons, ← e]
    show (match b_look_row_1 [some (.lst (r.map D.int)), some (.int (k : Int))] with
      | .nx r' => forL (.one 1) b_look_row_1 ((List.range' (k + 1) n).map fun (i : Nat) => D.int i) r'
      | o => o) = _
    rw [b]
theorem look_row_ok (r : List Int) (h : Rising r) (hl : r.length ≤ 60) : f_look_row [.lst (r.map D.int)] = .ok .non := by
  have d : dRange2 (.int 1) (.int (r.length : Int)) = _ := dRange2_gen 1 r.length (by decide) (by omega)
  have c : ¬ (60 : Int) < (r.length : Int) := by omega
  by_cases z : r.length = 0
  · have z' : r = [] := List.length_eq_zero_iff.mp z
    subst z'
    have d' : dRange2 (.int 1) (.int 0) = .ok [] := d
    simp [f_look_row, m_look_row, d', forL]
  · obtain ⟨a', e⟩ := look_loop r h (r.length - 1) 1 none (by omega) (by omega)
    generalize (List.range' 1 (r.length - 1)).map (fun (i : Nat) => D.int i) = rr at *
    simp [f_look_row, m_look_row, d, e, c]
theorem rising_rowX {r : List Int} (h : Rising r) (hl : r.length ≤ 60) : rowX r = none := by
  have a := look_row_ok r h hl
  rw [look_row_any r (by omega)] at a
  unfold rowR at a
  cases q : rowX r with
  | none => rfl
  | some x => rw [q] at a; cases a
/-- a list of drawn numbers -/
def Drawn (l : List Int) : Prop := ∀ d ∈ l, 0 ≤ d ∧ d < 9967
theorem drawn_get {l : List Int} (h : Drawn l) {i : Nat} (hi : i < l.length) {j : Int} (hj : j = (i : Int)) : ∃ v : Int, 0 ≤ v ∧ v < 9967 ∧ dIdx (.lst (l.map D.int)) (.int j) = .ok (.int v) := by
  subst hj
  refine ⟨l[i], (h _ (List.getElem_mem hi)).1, (h _ (List.getElem_mem hi)).2, dIdx_list ?_⟩
  rw [List.getElem?_map, List.getElem?_eq_getElem hi]
  rfl
def byw (ws : List (Int × Int)) (s : Int) : Int := (ws.map fun w => w.2 * (if s < w.1 then s else w.1)).sum
theorem fSum_ints (l : List Int) : fSum [.lst (l.map D.int)] = .ok (.int l.sum) := by
  dsimp only [fSum]
  rw [intsOf_map]
theorem fSum_map {γ : Type} (l : List γ) (G : γ → Int) : fSum [.lst (l.map fun x => D.int (G x))] = .ok (.int (l.map G).sum) := by
  have e : (l.map fun x => D.int (G x)) = (l.map G).map D.int := by rw [List.map_map]; rfl
  rw [e, fSum_ints]

theorem by_walks_ok (ws : List (Int × Int)) (s : Int) (h : Walks ws) (h1 : 0 ≤ s) (h2 : s ≤ 10000) : f_by_walks [.lst (ws.map twoD), .int s] = .ok (.int (byw ws s)) := by
  have c : gComp (gIter (gVar 0)) (.tup [2, 3]) [2, 3] gYes (gBin dMul (gVar 3) (gCall fMin2 (VL.gCons (gVar 2) (VL.gCons (gVar 1) VL.gNil)))) [some (.lst (ws.map twoD)), some (.int s), none, none] = .ok (.lst (ws.map fun w => D.int (w.2 * (if s < w.1 then s else w.1)))) :=
    gComp_map (F := twoD) rfl fun w hw => by
      have w1 := h w hw
      have m : mulOk w.2 (if s < w.1 then s else w.1) = true := mulOk_right (by split <;> omega) (by split <;> omega)
      simp [gTurn, twoD, m]
  simp [f_by_walks, m_by_walks, c, fSum_map, byw]
def addL (ps ws : List (Int × Int)) : List (Int × Int) := ps.map fun p => (p.1, p.2 + byw ws p.1)
def Posi (ps : List (Int × Int)) : Prop := ∀ p ∈ ps, 1 ≤ p.1
theorem addL_posi {ps : List (Int × Int)} (h : Posi ps) (ws : List (Int × Int)) : Posi (addL ps ws) := fun p hp => by
  obtain ⟨q, hq, rfl⟩ := List.mem_map.mp hp
  exact h q hq
/-- all stones together -/
def weight (ps : List (Int × Int)) : Nat := (ps.map fun p => p.1.toNat).sum
theorem addL_weight (ps ws : List (Int × Int)) : weight (addL ps ws) = weight ps := by
  unfold weight addL
  rw [List.map_map]
  rfl
theorem weight_perm {ps qs : List (Int × Int)} (h : ps.Perm qs) : weight ps = weight qs := by
  induction h with
  | nil => rfl
  | cons x _ ih => simp [weight] at *; omega
  | swap x y l => simp [weight]; omega
  | trans _ _ h1 h2 => exact h1.trans h2
theorem size_le {ps : List (Int × Int)} {p : Int × Int} (hp : p ∈ ps) (h : Posi ps) : p.1 ≤ (weight ps : Int) := by
  have w := weight_perm (List.perm_cons_erase hp)
  have h1 := h p hp
  simp [weight] at *
  omega

theorem added_to_ok (ps ws : List (Int × Int)) (h : Walks ws) (hp : Posi ps) (hw : weight ps ≤ 10000) : f_added_to [.lst (ps.map twoD), .lst (ws.map twoD)] = .ok (.lst ((sortBy ltII (addL ps ws)).map twoD)) := by
  have c : gComp (gIter (gVar 0)) (.tup [2, 3]) [2, 3] gYes (gTup (VL.gCons (gVar 2) (VL.gCons (gBin dAdd (gVar 3) (gCall f_by_walks (VL.gCons (gVar 1) (VL.gCons (gVar 2) VL.gNil)))) VL.gNil))) [some (.lst (ps.map twoD)), some (.lst (ws.map twoD)), none, none] = .ok (.lst (ps.map fun p => twoD (p.1, p.2 + byw ws p.1))) :=
    gComp_map (F := twoD) rfl fun p m => by
      have e := by_walks_ok ws p.1 h (by have := hp p m; omega) (by have := size_le m hp; omega)
      simp [gTurn, twoD, e]
  have e : (ps.map fun p => twoD (p.1, p.2 + byw ws p.1)) = (addL ps ws).map twoD := by unfold addL; rw [List.map_map]; rfl
  rw [e] at c
  have s := fSorted_two (addL ps ws)
  generalize (addL ps ws).map twoD = aa at *
  simp [f_added_to, m_added_to, c, s]

theorem walks_badW' {ws : List (Int × Int)} (h : Walks ws) : badW ws = false := by
  cases q : badW ws with
  | false => rfl
  | true =>
    obtain ⟨w, hw, e⟩ := List.any_eq_true.mp q
    have := h w hw
    simp at e
    omega
theorem addL_perm {ps qs : List (Int × Int)} (h : ps.Perm qs) (ws : List (Int × Int)) : (addL ps ws).Perm (addL qs ws) := h.map _
def share (ps : List (Int × Int)) (s : Int) : Int := (ps.map fun p => if p.1 < s then p.1 else s).sum
/-- where a train is ripe -/
def vac (ps : List (Int × Int)) (p : Int × Int) : Int := p.2 + 2 * share ps p.1
def topP (ps : List (Int × Int)) : Int := lmax (ps.map (vac ps))
def ripes (ps : List (Int × Int)) (q : Int) : List Int := (ps.filter fun p => vac ps p == q).map (·.1)
def shortest (ps : List (Int × Int)) (q : Int) : Int := lmin (ripes ps q)
def rest (ps : List (Int × Int)) (p : Int) : List (Int × Int) := ps.erase (shortest ps p, p - 2 * share ps (shortest ps p))
def shrink (ps : List (Int × Int)) (p : Int) : List (Int × Int) :=
  if 1 < shortest ps p then rest ps p ++ [(shortest ps p - 1, p - 1 - 2 * (share (rest ps p) (shortest ps p - 1) + shortest ps p - 1))] else rest ps p
/-- the stones of a list, the last one first -/
def stonesD : Nat → List (Int × Int) → List Int
  | 0, _ => []
  | n + 1, ps => if ps = [] then [] else topP ps :: stonesD n (shrink ps (topP ps))
def stones (ps : List (Int × Int)) : List Int := (stonesD (weight ps) ps).reverse
def longest (ps : List (Int × Int)) (q : Int) : Int := if ripes ps q = [] then 0 else lmax (ripes ps q)
def grow (ps : List (Int × Int)) (p : Int) : List (Int × Int) :=
  (if 0 < longest ps (p - 1) then ps.erase (longest ps (p - 1), p - 1 - 2 * share ps (longest ps (p - 1))) else ps) ++
    [(longest ps (p - 1) + 1, p - 2 * (share (if 0 < longest ps (p - 1) then ps.erase (longest ps (p - 1), p - 1 - 2 * share ps (longest ps (p - 1))) else ps) (longest ps (p - 1) + 1) + longest ps (p - 1) + 1))]
/-- the trains in the order in which they came -/
def heap (r : List Int) : List (Int × Int) := r.foldl grow []
def farR (r : List Int) (ws : List (Int × Int)) : List Int := stones (addL (heap r) ws)
def lsr (a s : Int) : Int := if a < s then a else s
theorem share_cons (p : Int × Int) (ps : List (Int × Int)) (s : Int) : share (p :: ps) s = lsr p.1 s + share ps s := by
  simp [share, lsr]
theorem share_perm {ps qs : List (Int × Int)} (h : ps.Perm qs) (s : Int) : share ps s = share qs s := by
  induction h with
  | nil => rfl
  | cons x _ ih => rw [share_cons, share_cons, ih]
  | swap x y l => rw [share_cons, share_cons, share_cons, share_cons]; omega
  | trans _ _ h1 h2 => exact h1.trans h2
theorem lmax_mem : ∀ {l : List Int}, l ≠ [] → lmax l ∈ l
  | [], h => absurd rfl h
  | [x], _ => by simp [lmax]
  | x :: y :: r, _ => by
    have ih := lmax_mem (l := y :: r) (by simp)
    unfold lmax
    rcases Int.le_total x (lmax (y :: r)) with h | h
    · rw [Int.max_eq_right h]; exact List.mem_cons_of_mem _ ih
    · rw [Int.max_eq_left h]; exact List.mem_cons_self
theorem lmax_le : ∀ {l : List Int} {x : Int}, x ∈ l → x ≤ lmax l
  | [], _, h => by cases h
  | [y], x, h => by
    have : x = y := by simpa using h
    subst this
    exact Int.le_refl _
  | y :: z :: r, x, h => by
    unfold lmax
    rcases List.mem_cons.mp h with e | h
    · subst e; exact Int.le_max_left _ _
    · exact Int.le_trans (lmax_le h) (Int.le_max_right _ _)
theorem lmax_perm {l m : List Int} (h : l.Perm m) : lmax l = lmax m := by
  by_cases e : l = []
  · subst e
    rw [List.nil_perm.mp h]
  · have e' : m ≠ [] := fun z => by subst z; exact e (List.perm_nil.mp h)
    exact Int.le_antisymm (lmax_le (h.mem_iff.mp (lmax_mem e))) (lmax_le (h.mem_iff.mpr (lmax_mem e')))
theorem topP_perm {ps qs : List (Int × Int)} (h : ps.Perm qs) : topP ps = topP qs := by
  unfold topP
  have e : vac ps = vac qs := by
    funext p
    unfold vac
    rw [share_perm h]
  rw [e]
  exact lmax_perm (h.map _)
theorem ripes_perm {ps qs : List (Int × Int)} (h : ps.Perm qs) (q : Int) : (ripes ps q).Perm (ripes qs q) := by
  unfold ripes
  have e : (fun p => vac ps p == q) = fun p => vac qs p == q := by
    funext p
    unfold vac
    rw [share_perm h]
  rw [e]
  exact (h.filter _).map _
theorem lmin_mem : ∀ {l : List Int}, l ≠ [] → lmin l ∈ l
  | [], h => absurd rfl h
  | [x], _ => by simp [lmin]
  | x :: y :: r, _ => by
    have ih := lmin_mem (l := y :: r) (by simp)
    unfold lmin
    rcases Int.le_total x (lmin (y :: r)) with h | h
    · rw [Int.min_eq_left h]; exact List.mem_cons_self
    · rw [Int.min_eq_right h]; exact List.mem_cons_of_mem _ ih
theorem lmin_le : ∀ {l : List Int} {x : Int}, x ∈ l → lmin l ≤ x
  | [], _, h => by cases h
  | [y], x, h => by
    have : x = y := by simpa using h
    subst this
    exact Int.le_refl _
  | y :: z :: r, x, h => by
    unfold lmin
    rcases List.mem_cons.mp h with e | h
    · subst e; exact Int.min_le_left _ _
    · exact Int.le_trans (Int.min_le_right _ _) (lmin_le h)

theorem lmin_perm {l m : List Int} (h : l.Perm m) : lmin l = lmin m := by
  by_cases e : l = []
  · subst e
    rw [List.nil_perm.mp h]
  · have e' : m ≠ [] := fun z => by subst z; exact e (List.perm_nil.mp h)
    exact Int.le_antisymm (lmin_le (h.mem_iff.mpr (lmin_mem e'))) (lmin_le (h.mem_iff.mp (lmin_mem e)))
theorem shortest_perm {ps qs : List (Int × Int)} (h : ps.Perm qs) (q : Int) : shortest ps q = shortest qs q := lmin_perm (ripes_perm h q)
theorem rest_perm {ps qs : List (Int × Int)} (h : ps.Perm qs) (p : Int) : (rest ps p).Perm (rest qs p) := by
  unfold rest
  rw [shortest_perm h, share_perm h]
  exact h.erase _
theorem shrink_perm {ps qs : List (Int × Int)} (h : ps.Perm qs) (p : Int) : (shrink ps p).Perm (shrink qs p) := by
  have r := rest_perm h p
  unfold shrink
  rw [shortest_perm h, share_perm r]
  by_cases c : 1 < shortest qs p
  · rw [if_pos c, if_pos c]
    exact List.Perm.append_right _ r
  · rw [if_neg c, if_neg c]
    exact r
theorem stones_perm : ∀ (n : Nat) {ps qs : List (Int × Int)}, ps.Perm qs → stonesD n ps = stonesD n qs
  | 0, _, _, _ => rfl
  | n + 1, ps, qs, h => by
    unfold stonesD
    by_cases e : ps = []
    · have e' : qs = [] := by subst e; exact List.nil_perm.mp h
      rw [if_pos e, if_pos e']
    · have e' : qs ≠ [] := fun z => by subst z; exact e (List.perm_nil.mp h)
      rw [if_neg e, if_neg e', topP_perm h, stones_perm n (shrink_perm h _)]
theorem stones_perm_eq {ps qs : List (Int × Int)} (h : ps.Perm qs) : stones ps = stones qs := by
  unfold stones
  rw [weight_perm h, stones_perm _ h]
theorem mem_ripes {ps : List (Int × Int)} {q s : Int} : s ∈ ripes ps q ↔ (s, q - 2 * share ps s) ∈ ps := by
  constructor
  · intro h
    obtain ⟨p, hp, e⟩ := List.mem_map.mp h
    obtain ⟨h1, h2⟩ := List.mem_filter.mp hp
    have h3 : vac ps p = q := by simpa using h2
    unfold vac at h3
    have : p = (s, q - 2 * share ps s) := by
      subst e
      exact Prod.ext rfl (by show p.2 = _; omega)
    rw [← this]; exact h1
  · intro h
    refine List.mem_map.mpr ⟨_, List.mem_filter.mpr ⟨h, ?_⟩, rfl⟩
    have : vac ps (s, q - 2 * share ps s) = q := by unfold vac; show q - 2 * share ps s + 2 * share ps s = q; omega
    simpa using this
theorem grow_posi {ps : List (Int × Int)} (h : Posi ps) (q : Int) : Posi (grow ps q) := by
  have l0 : 0 ≤ longest ps (q - 1) := by
    unfold longest
    split
    · exact Int.le_refl _
    · rename_i n
      have := h _ (mem_ripes.mp (lmax_mem n))
      have : 1 ≤ lmax (ripes ps (q - 1)) := this
      omega
  intro p hp
  unfold grow at hp
  rcases List.mem_append.mp hp with z | z
  · split at z
    · exact h p (List.mem_of_mem_erase z)
    · exact h p z
  · have : p = _ := List.mem_singleton.mp z
    rw [this]
    show 1 ≤ longest ps (q - 1) + 1
    omega
theorem share_ok (ps : List (Int × Int)) (s : Int) : f_share [.lst (ps.map twoD), .int s] = .ok (.int (share ps s)) := by
  have c : gComp (gIter (gVar 0)) (.tup [2, 3]) [2, 3] gYes (gCall fMin2 (VL.gCons (gVar 1) (VL.gCons (gVar 2) VL.gNil))) [some (.lst (ps.map twoD)), some (.int s), none, none] = .ok (.lst (ps.map fun p => D.int (if p.1 < s then p.1 else s))) :=
    gComp_map (F := twoD) rfl fun p _ => by simp [gTurn, twoD]
  simp [f_share, m_share, c, fSum_map, share]
theorem mark_ok (ps : List (Int × Int)) (s p : Int) : f_mark [.lst (ps.map twoD), .int s, .int p] = .ok (.int (p - 2 * share ps s)) := by
  have m : mulOk 2 (share ps s) = true := mulOk_left (by decide) (by decide)
  simp [f_mark, m_mark, share_ok, m]

theorem longest_of {ps : List (Int × Int)} {q s : Int} (h : s ∈ ripes ps q) (k : ∀ t ∈ ripes ps q, t ≤ s) : longest ps q = s := by
  have n : ripes ps q ≠ [] := fun z => by rw [z] at h; cases h
  unfold longest
  rw [if_neg n]
  exact (lmax_of h k).symm
theorem longest_none {ps : List (Int × Int)} {q : Int} (h : ∀ t, t ∉ ripes ps q) : longest ps q = 0 := by
  unfold longest
  rw [if_pos (List.eq_nil_iff_forall_not_mem.mpr h)]
theorem fold_longest (ps : List (Int × Int)) (q : Int) : ∀ (l : List (Int × Int)) (b : Int), let m := l.foldl (fun (b : Int) (p : Int × Int) => if b < p.1 ∧ vac ps p = q then p.1 else b) b
    (m = b ∨ ∃ p ∈ l, vac ps p = q ∧ p.1 = m) ∧ b ≤ m ∧ ∀ p ∈ l, vac ps p = q → p.1 ≤ m
  | [], b => ⟨.inl rfl, Int.le_refl _, fun p hp => nomatch hp⟩
  | x :: l, b => by
    obtain ⟨h1, h2, h3⟩ := fold_longest ps q l (if b < x.1 ∧ vac ps x = q then x.1 else b)
    rw [List.foldl_cons]
    generalize l.foldl (fun (b : Int) (p : Int × Int) => if b < p.1 ∧ vac ps p = q then p.1 else b) (if b < x.1 ∧ vac ps x = q then x.1 else b) = m at *
    by_cases c : b < x.1 ∧ vac ps x = q
    · rw [if_pos c] at h1 h2
      refine ⟨?_, by omega, fun p hp v => ?_⟩
      · rcases h1 with z | ⟨p, hp, z⟩
        · exact .inr ⟨x, List.mem_cons_self, c.2, z.symm⟩
        · exact .inr ⟨p, List.mem_cons_of_mem _ hp, z⟩
      · rcases List.mem_cons.mp hp with z | z
        · rw [z]; exact h2
        · exact h3 p z v
    · rw [if_neg c] at h1 h2
      refine ⟨?_, h2, fun p hp v => ?_⟩
      · rcases h1 with z | ⟨p, hp, z⟩
        · exact .inl z
        · exact .inr ⟨p, List.mem_cons_of_mem _ hp, z⟩
      · rcases List.mem_cons.mp hp with z | z
        · subst z
          have : ¬ b < p.1 := fun w => c ⟨w, v⟩
          omega
        · exact h3 p z v
theorem fold_is_longest {ps : List (Int × Int)} (h : Posi ps) (q : Int) : ps.foldl (fun (b : Int) (p : Int × Int) => if b < p.1 ∧ vac ps p = q then p.1 else b) 0 = longest ps q := by
  obtain ⟨h1, h2, h3⟩ := fold_longest ps q ps 0
  generalize ps.foldl (fun (b : Int) (p : Int × Int) => if b < p.1 ∧ vac ps p = q then p.1 else b) 0 = m at *
  have k : ∀ t ∈ ripes ps q, t ≤ m := fun t ht => by
    have := h3 _ (mem_ripes.mp ht) (by unfold vac; show q - 2 * share ps t + 2 * share ps t = q; omega)
    exact this
  rcases h1 with z | ⟨p, hp, v, e⟩
  · refine (longest_none fun t ht => ?_).symm ▸ z
    have a := k t ht
    have b := h _ (mem_ripes.mp ht)
    have b' : 1 ≤ t := b
    omega
  · exact (longest_of (List.mem_map.mpr ⟨p, List.mem_filter.mpr ⟨hp, by simpa using v⟩, e⟩) k).symm
theorem vac_iff (ps : List (Int × Int)) (p : Int × Int) (q : Int) : p.2 = q - 2 * share ps p.1 ↔ vac ps p = q := by
  unfold vac
  omega
theorem longest_ripe_ok (ps : List (Int × Int)) (q : Int) (h : Posi ps) : f_longest_ripe [.lst (ps.map twoD), .int q] = .ok (.int (longest ps q)) := by
  obtain ⟨r', e, a, b, hr⟩ := forL_fold twoD (fun (b : Int) (p : Int × Int) => if b < p.1 ∧ vac ps p = q then p.1 else b) (fun b r => ∃ x y, r = [some (.lst (ps.map twoD)), some (.int q), some (.int b), x, y]) (.tup [3, 4]) b_longest_ripe_1 ps 0 [some (.lst (ps.map twoD)), some (.int q), some (.int 0), none, none] ⟨none, none, rfl⟩ (fun p _ b r ⟨x, y, e⟩ => by
    subst e
    refine ⟨[.int p.1, .int p.2], _, rfl, ?_, ⟨some (.int p.1), some (.int p.2), rfl⟩⟩
    have v := vac_iff ps p q
    by_cases c1 : b < p.1 <;> by_cases c2 : p.2 = q - 2 * share ps p.1
    · simp [b_longest_ripe_1, mark_ok, c1, c2, v.mp c2]
    · have c3 : ¬ vac ps p = q := fun z => c2 (v.mpr z)
      simp [b_longest_ripe_1, mark_ok, c1, c2, c3]
    · simp [b_longest_ripe_1, mark_ok, c1]
    · simp [b_longest_ripe_1, mark_ok, c1])
  subst hr
  rw [fold_is_longest h] at e
  simp [f_longest_ripe, m_longest_ripe, e]
theorem longest_mem {ps : List (Int × Int)} {q : Int} (c : 0 < longest ps q) : (longest ps q, q - 2 * share ps (longest ps q)) ∈ ps := by
  have n : ripes ps q ≠ [] := fun z => by
    unfold longest at c
    rw [if_pos z] at c
    omega
  have e : longest ps q = lmax (ripes ps q) := by unfold longest; rw [if_neg n]
  have m := mem_ripes.mp (lmax_mem n)
  rw [← e] at m
  exact m
theorem grown_ok (ps : List (Int × Int)) (p : Int) (h : Posi ps) (hz : ps.length < 1000) : f_grown [.lst (ps.map twoD), .int p] = .ok (.lst ((grow ps p).map twoD)) := by
  have e1 := longest_ripe_ok ps (p - 1) h
  have m2 : ∀ x : Int, mulOk 2 x = true := fun x => mulOk_left (by decide) (by decide)
  by_cases c : 0 < longest ps (p - 1)
  · have rm := remL_ok (x := (longest ps (p - 1), p - 1 - 2 * share ps (longest ps (p - 1)))) (longest_mem c) (le_szL (by omega))
    have l1 : (ps.erase (longest ps (p - 1), p - 1 - 2 * share ps (longest ps (p - 1)))).length < szL := lt_szL (Nat.lt_of_le_of_lt List.length_erase_le (by omega))
    unfold grow
    rw [if_pos c]
    generalize longest ps (p - 1) = s at *
    generalize ps.erase (s, p - 1 - 2 * share ps s) = fr at *
    rw [← app_pair]
    simp [f_grown, m_grown, e1, c, mark_ok, rm, share_ok, m2, l1]
  · have l1 : ps.length < szL := lt_szL (by omega)
    unfold grow
    rw [if_neg c]
    generalize longest ps (p - 1) = s at *
    rw [← app_pair]
    simp [f_grown, m_grown, e1, c, mark_ok, share_ok, m2, l1]
theorem grow_len (ps : List (Int × Int)) (p : Int) : (grow ps p).length ≤ ps.length + 1 := by
  unfold grow
  rw [List.length_append]
  have : (if 0 < longest ps (p - 1) then ps.erase (longest ps (p - 1), p - 1 - 2 * share ps (longest ps (p - 1))) else ps).length ≤ ps.length := by
    split
    · exact List.length_erase_le
    · exact Nat.le_refl _
  simp
  omega
def lists (r : List Int) : List (Int × Int) := sortBy ltII (heap r)
theorem heap_sorted (r : List Int) : fSorted [.lst ((heap r).map twoD)] = .ok (.lst ((lists r).map twoD)) := fSorted_two _

theorem list_of_ok (r : List Int) (hl : r.length ≤ 500) : f_list_of [.lst (r.map D.int)] = .ok (.lst ((lists r).map twoD)) := by
  obtain ⟨r', e, _, _, a, hr⟩ := forL_foldI D.int grow (fun n s t => Posi s ∧ s.length ≤ n ∧ ∃ x, t = [some (.lst (r.map D.int)), some (.lst (s.map twoD)), x]) (.one 2) b_list_of_1 r 0 [] [some (.lst (r.map D.int)), some (.lst []), none] ⟨fun p hp => (nomatch hp), by simp, none, rfl⟩ (fun i p hi hp s t ⟨h1, h2, x, e⟩ => by
    subst e
    refine ⟨[.int p], _, rfl, ?_, ⟨grow_posi h1 p, by have := grow_len s p; omega, some (.int p), rfl⟩⟩
    simp [b_list_of_1, grown_ok s p h1 (by omega)])
  subst hr
  have hs : fSorted [.lst ((r.foldl grow []).map twoD)] = _ := heap_sorted r
  simp [f_list_of, m_list_of, e, hs]

theorem grows_len : ∀ (r : List Int) (ps : List (Int × Int)), (r.foldl grow ps).length ≤ ps.length + r.length
  | [], _ => Nat.le_refl _
  | p :: r, ps => by
    have a := grows_len r (grow ps p)
    have b := grow_len ps p
    simp
    omega
theorem lists_len (r : List Int) : (lists r).length ≤ r.length := by
  have a := grows_len r []
  have b := (sortBy_perm (lt := ltII) (heap r)).length_eq
  unfold lists
  rw [b]
  exact Nat.le_trans a (by simp)
theorem shrink_posi {ps : List (Int × Int)} (h : Posi ps) (q : Int) : Posi (shrink ps q) := by
  have hr : Posi (rest ps q) := fun p hp => h p (List.mem_of_mem_erase hp)
  unfold shrink
  split
  · intro p hp
    rcases List.mem_append.mp hp with z | z
    · exact hr p z
    · have : p = _ := List.mem_singleton.mp z
      rw [this]
      show 1 ≤ shortest ps q - 1
      omega
  · exact hr
/-- the shortest train that is ripe at the greatest place -/
theorem top_some {ps : List (Int × Int)} (n : ps ≠ []) : ripes ps (topP ps) ≠ [] := by
  have m : ps.map (vac ps) ≠ [] := by simpa using n
  obtain ⟨p, hp, e⟩ := List.mem_map.mp (lmax_mem m)
  intro z
  have : p.1 ∈ ripes ps (topP ps) := List.mem_map.mpr ⟨p, List.mem_filter.mpr ⟨hp, by
    show (vac ps p == topP ps) = true
    rw [e]
    simp [topP]⟩, rfl⟩
  rw [z] at this
  cases this
theorem short_mem {ps : List (Int × Int)} (n : ps ≠ []) : (shortest ps (topP ps), topP ps - 2 * share ps (shortest ps (topP ps))) ∈ ps := mem_ripes.mp (lmin_mem (top_some n))
theorem rest_cons {ps : List (Int × Int)} (n : ps ≠ []) : ps.Perm ((shortest ps (topP ps), topP ps - 2 * share ps (shortest ps (topP ps))) :: rest ps (topP ps)) := List.perm_cons_erase (short_mem n)
theorem short_pos {ps : List (Int × Int)} (n : ps ≠ []) (h : Posi ps) : 1 ≤ shortest ps (topP ps) := h _ (short_mem n)
theorem weight_shrink {ps : List (Int × Int)} (n : ps ≠ []) (h : Posi ps) : weight (shrink ps (topP ps)) + 1 = weight ps := by
  have hj := short_pos n h
  have w := weight_perm (rest_cons n)
  unfold shrink
  generalize topP ps = t at *
  generalize hjj : shortest ps t = j at *
  have w' : weight ps = j.toNat + weight (rest ps t) := by rw [w]; simp [weight]
  split
  · simp [weight] at *
    omega
  · omega
theorem stonesD_succ (n : Nat) (ps : List (Int × Int)) : stonesD (n + 1) ps = if ps = [] then [] else topP ps :: stonesD n (shrink ps (topP ps)) := rfl
theorem weight_zero {ps : List (Int × Int)} (h : Posi ps) (w : weight ps = 0) : ps = [] := by
  cases ps with
  | nil => rfl
  | cons p r =>
    have := h p List.mem_cons_self
    simp [weight] at w
    omega
theorem fMax1_ints {l : List Int} (n : l ≠ []) : fMax1 [.lst (l.map D.int)] = .ok (.int (lmax l)) := by
  dsimp only [fMax1]
  rw [intsOf_map]
  dsimp only
  rw [if_neg n]
theorem next_place_ok (ps : List (Int × Int)) (n : ps ≠ []) : f_next_place [.lst (ps.map twoD)] = .ok (.int (topP ps)) := by
  have c : gComp (gIter (gVar 0)) (.tup [1, 2]) [1, 2] gYes (gBin dAdd (gVar 2) (gBin dMul (gC (.int 2)) (gCall f_share (VL.gCons (gVar 0) (VL.gCons (gVar 1) VL.gNil))))) [some (.lst (ps.map twoD)), none, none] = .ok (.lst (ps.map fun p => D.int (vac ps p))) :=
    gComp_map (F := twoD) rfl fun p _ => by simp [gTurn, twoD, share_ok, mul2, vac]
  have e : (ps.map fun p => D.int (vac ps p)) = (ps.map (vac ps)).map D.int := by rw [List.map_map]; rfl
  rw [e] at c
  have m := fMax1_ints (l := ps.map (vac ps)) (by simpa using n)
  generalize (ps.map (vac ps)).map D.int = vv at *
  simp [f_next_place, m_next_place, c, m, topP]
theorem shrink_len (ps : List (Int × Int)) (n : ps ≠ []) : (shrink ps (topP ps)).length ≤ ps.length := by
  have r : (rest ps (topP ps)).length + 1 = ps.length := (rest_cons n).length_eq.symm
  unfold shrink
  split
  · simp; omega
  · omega
theorem fMin1_ints {l : List Int} (n : l ≠ []) : fMin1 [.lst (l.map D.int)] = .ok (.int (lmin l)) := by
  dsimp only [fMin1]
  rw [intsOf_map]
  dsimp only
  rw [if_neg n]
theorem shortest_ripe_ok (ps : List (Int × Int)) (q : Int) (n : ripes ps q ≠ []) : f_shortest_ripe [.lst (ps.map twoD), .int q] = .ok (.int (shortest ps q)) := by
  have c := gComp_filter (gi := gIter (gVar 0)) (t := .tup [2, 3]) (vs := [2, 3]) (tt := gTest (gBin dEq (gVar 3) (gCall f_mark (VL.gCons (gVar 0) (VL.gCons (gVar 2) (VL.gCons (gVar 1) VL.gNil)))))) (ge := gVar 2)
    (r := [some (.lst (ps.map twoD)), some (.int q), none, none]) (l := ps) (F := twoD) (p := fun p => vac ps p == q) (G := fun p => D.int p.1) rfl (fun p _ => by
      have v := vac_iff ps p q
      by_cases c : p.2 = q - 2 * share ps p.1
      · simp [gTurn, twoD, mark_ok, c, v.mp c]
      · have c3 : ¬ vac ps p = q := fun z => c (v.mpr z)
        simp [gTurn, twoD, mark_ok, c, c3])
  have e : ((ps.filter fun p => vac ps p == q).map fun p => D.int p.1) = (ripes ps q).map D.int := by unfold ripes; rw [List.map_map]; rfl
  rw [e] at c
  have m := fMin1_ints n
  generalize (ripes ps q).map D.int = vv at *
  simp [f_shortest_ripe, m_shortest_ripe, c, m, shortest]
theorem shrunk_ok (ps : List (Int × Int)) (n : ps ≠ []) (hz : ps.length < 1000) : f_shrunk [.lst (ps.map twoD), .int (topP ps)] = .ok (.lst ((shrink ps (topP ps)).map twoD)) := by
  have e1 := shortest_ripe_ok ps (topP ps) (top_some n)
  have rm := remL_ok (x := (shortest ps (topP ps), topP ps - 2 * share ps (shortest ps (topP ps)))) (short_mem n) (le_szL (by omega))
  have l1 : (rest ps (topP ps)).length < szL := lt_szL (Nat.lt_of_le_of_lt List.length_erase_le (by omega))
  unfold shrink
  unfold rest at *
  generalize topP ps = t at *
  generalize shortest ps t = s at *
  generalize ps.erase (s, t - 2 * share ps s) = fr at *
  by_cases c : 1 < s
  · rw [if_pos c, ← app_pair]
    simp [f_shrunk, m_shrunk, e1, c, mark_ok, rm, share_ok, mul2, l1]
  · rw [if_neg c]
    simp [f_shrunk, m_shrunk, e1, c, mark_ok, rm]
theorem stones_loop : ∀ (n : Nat) (m : Nat) (ps : List (Int × Int)) (acc : List Int) (x : Option D), Posi ps → weight ps ≤ n → ps.length ≤ 900 → n < m → acc.length + n ≤ 10000 →
    ∃ x', whileL (gTest (gBin dNe (gVar 0) (gLst VL.gNil))) b_stones_of_1 m [some (.lst (ps.map twoD)), some (.lst (acc.map D.int)), x] = .nx [some (.lst []), some (.lst ((acc ++ stonesD n ps).map D.int)), x']
  | n, 0, _, _, _, _, _, _, h, _ => by omega
  | 0, m + 1, ps, acc, x, hp, w, hl, _, _ => by
    have e := weight_zero hp (by omega)
    subst e
    refine ⟨x, ?_⟩
    have t := ne_nil_two [] (by decide)
    have t' : dNe (.lst []) (.lst []) = .ok (.bl false) := t
    rw [whileL_fin (by simp [t'])]
    simp [stonesD]
  | n + 1, m + 1, ps, acc, x, hp, w, hl, hm, ha => by
    have t := ne_nil_two ps (by omega)
    by_cases e : ps = []
    · subst e
      have t' : dNe (.lst []) (.lst []) = .ok (.bl false) := t
      refine ⟨x, ?_⟩
      rw [whileL_fin (by simp [t'])]
      simp [stonesD]
    · have e1 := next_place_ok ps e
      have e2 := shrunk_ok ps e (by omega)
      have ws := weight_shrink e hp
      have sl := shrink_len ps e
      obtain ⟨x', ih⟩ := stones_loop n m (shrink ps (topP ps)) (acc ++ [topP ps]) (some (.int (topP ps))) (shrink_posi hp _) (by omega) (by omega) (by omega) (by simp; omega)
      refine ⟨x', ?_⟩
      have lz : acc.length < szL := lt_szL (by omega)
      rw [whileL_turn (r' := [some (.lst ((shrink ps (topP ps)).map twoD)), some (.lst ((acc ++ [topP ps]).map D.int)), some (.int (topP ps))]) (by simp [t, e]) (by simp [b_stones_of_1, e1, e2, lz]), ih]
      rw [stonesD_succ, if_neg e, List.append_assoc]
      rfl
theorem stones_of_ok (ps : List (Int × Int)) (h : Posi ps) (w : weight ps ≤ 5000) (hl : ps.length ≤ 900) : f_stones_of [.lst (ps.map twoD)] = .ok (.lst ((stones ps).map D.int)) := by
  obtain ⟨x, e⟩ := stones_loop (weight ps) WB ps [] none h (Nat.le_refl _) hl (by rw [WB_eq]; omega) (by simp; omega)
  rw [List.nil_append] at e
  have e' : whileL (gTest (gBin dNe (gVar 0) (gLst VL.gNil))) b_stones_of_1 WB [some (.lst (ps.map twoD)), some (.lst []), none] = _ := e
  simp [f_stones_of, m_stones_of, e', stones, List.map_reverse]

theorem grows_posi : ∀ (r : List Int) {ps : List (Int × Int)}, Posi ps → Posi (r.foldl grow ps)
  | [], _, h => h
  | p :: r, _, h => grows_posi r (grow_posi h p)
theorem lists_posi (r : List Int) : Posi (lists r) := fun p hp => grows_posi r (ps := []) (fun p hp => (nomatch hp)) p ((sortBy_perm _).mem_iff.mp hp)
theorem weight_app (ps qs : List (Int × Int)) : weight (ps ++ qs) = weight ps + weight qs := by simp [weight]

theorem longest_nonneg {ps : List (Int × Int)} (h : Posi ps) (q : Int) : 0 ≤ longest ps q := by
  unfold longest
  split
  · exact Int.le_refl _
  · rename_i n
    have := h _ (mem_ripes.mp (lmax_mem n))
    have : 1 ≤ lmax (ripes ps q) := this
    omega
theorem weight_grow {ps : List (Int × Int)} (h : Posi ps) (p : Int) : weight (grow ps p) = weight ps + 1 := by
  have n0 := longest_nonneg h (p - 1)
  unfold grow
  rw [weight_app]
  by_cases c : 0 < longest ps (p - 1)
  · rw [if_pos c]
    have w := weight_perm (List.perm_cons_erase (longest_mem c))
    generalize longest ps (p - 1) = s at *
    generalize ps.erase (s, p - 1 - 2 * share ps s) = fr at *
    simp [weight] at *
    omega
  · rw [if_neg c]
    have z : longest ps (p - 1) = 0 := by omega
    rw [z]
    simp [weight]
theorem weight_grows : ∀ (r : List Int) {ps : List (Int × Int)}, Posi ps → weight (r.foldl grow ps) = weight ps + r.length
  | [], _, _ => rfl
  | p :: r, ps, h => by
    rw [List.foldl_cons, weight_grows r (grow_posi h p), weight_grow h p, List.length_cons]
    omega
theorem lists_weight (r : List Int) : weight (lists r) = r.length := by
  unfold lists heap
  rw [weight_perm (sortBy_perm _), weight_grows r (ps := []) (fun p hp => (nomatch hp))]
  simp [weight]
theorem far_ok (r : List Int) (ws : List (Int × Int)) (hr : Rising r) (hl : r.length ≤ 60) (hw : Walks ws) : f_far [.lst (r.map D.int), .lst (ws.map twoD)] = .ok (.lst ((farR r ws).map D.int)) := by
  have a := look_row_ok r hr hl
  have b := look_walks_any ws
  rw [walks_badW' hw, if_neg (by simp)] at b
  have l1 := list_of_ok r (by omega)
  have po := lists_posi r
  have we := lists_weight r
  have ll := lists_len r
  have l2 := added_to_ok (lists r) ws hw po (by omega)
  have sp := sortBy_perm (lt := ltII) (addL (lists r) ws)
  have l3 := stones_of_ok (sortBy ltII (addL (lists r) ws)) (fun p hp => addL_posi po ws p (sp.mem_iff.mp hp)) (by rw [weight_perm sp, addL_weight]; omega) (by rw [sp.length_eq]; unfold addL; rw [List.length_map]; omega)
  unfold farR
  rw [stones_perm_eq (sp.trans (addL_perm (sortBy_perm (heap r)) ws))] at l3
  simp [f_far, m_far, a, b, l1, l2, l3]
theorem share_app (ps qs : List (Int × Int)) (s : Int) : share (ps ++ qs) s = share ps s + share qs s := by
  simp [share]
theorem vac_le {ps : List (Int × Int)} {p : Int × Int} (h : p ∈ ps) : vac ps p ≤ topP ps := lmax_le (List.mem_map.mpr ⟨p, h, rfl⟩)
theorem short_le {ps : List (Int × Int)} {q : Int} {p : Int × Int} (h : p ∈ ps) (e : vac ps p = q) : shortest ps q ≤ p.1 := by
  refine lmin_le (List.mem_map.mpr ⟨p, List.mem_filter.mpr ⟨h, ?_⟩, rfl⟩)
  simpa using e
/-- behind the last stone taken out all are ripe further back -/
theorem shrink_vac {ps : List (Int × Int)} (n : ps ≠ []) (h : Posi ps) : ∀ z ∈ shrink ps (topP ps), vac (shrink ps (topP ps)) z ≤ topP ps - 1 ∧ (vac (shrink ps (topP ps)) z = topP ps - 1 → z.1 ≤ shortest ps (topP ps) - 1) := by
  have hj := short_pos n h
  have pc := rest_cons n
  have sh := fun s => share_perm pc s
  unfold shrink
  generalize ht : topP ps = t at *
  generalize hjj : shortest ps t = j at *
  generalize hr : rest ps t = r at *
  have memr : ∀ z ∈ r, z ∈ ps := fun z hz => pc.mem_iff.mpr (List.mem_cons_of_mem _ hz)
  split
  · rename_i c
    intro z hz
    have e : ∀ s, share (r ++ [(j - 1, t - 1 - 2 * (share r (j - 1) + j - 1))]) s = share r s + lsr (j - 1) s := fun s => by
      rw [share_app, share_cons]
      simp [share]
    unfold vac
    rw [e]
    rcases List.mem_append.mp hz with z1 | z1
    · have m := memr z z1
      have v := vac_le m
      have sl := fun q => short_le (q := q) m
      have hz1 := h z m
      have s1 := sh z.1
      rw [share_cons] at s1
      rw [ht] at v
      have sl := sl t
      rw [hjj] at sl
      unfold vac at v sl
      have a : lsr j z.1 = if j < z.1 then j else z.1 := rfl
      have b : lsr (j - 1) z.1 = if j - 1 < z.1 then j - 1 else z.1 := rfl
      have s1' : share ps z.1 = lsr j z.1 + share r z.1 := s1
      by_cases g : j ≤ z.1
      · have a' : lsr j z.1 = j := by rw [a]; split <;> omega
        have b' : lsr (j - 1) z.1 = j - 1 := by rw [b]; split <;> omega
        omega
      · have a' : lsr j z.1 = z.1 := by rw [a]; split <;> omega
        have b' : lsr (j - 1) z.1 = z.1 := by rw [b]; split <;> omega
        by_cases w : z.2 + 2 * share ps z.1 = t
        · have := sl w
          omega
        · omega
    · have : z = _ := List.mem_singleton.mp z1
      subst this
      have b : lsr (j - 1) (j - 1) = j - 1 := by unfold lsr; split <;> omega
      show t - 1 - 2 * (share r (j - 1) + j - 1) + 2 * (share r (j - 1) + lsr (j - 1) (j - 1)) ≤ t - 1 ∧ (_ → j - 1 ≤ j - 1)
      rw [b]
      exact ⟨by omega, fun _ => Int.le_refl _⟩
  · rename_i c
    intro z hz
    have m := memr z hz
    have v := vac_le m
    have hz1 := h z m
    have s1 := sh z.1
    rw [share_cons] at s1
    rw [ht] at v
    unfold vac at v ⊢
    have a' : lsr j z.1 = 1 := by unfold lsr; split <;> omega
    have s1' : share ps z.1 = lsr j z.1 + share r z.1 := s1
    omega
theorem topP_shrink {ps : List (Int × Int)} (n : ps ≠ []) (h : Posi ps) (m : shrink ps (topP ps) ≠ []) : topP (shrink ps (topP ps)) ≤ topP ps - 1 := by
  have q : (shrink ps (topP ps)).map (vac (shrink ps (topP ps))) ≠ [] := by simpa using m
  obtain ⟨p, hp, e⟩ := List.mem_map.mp (lmax_mem q)
  show lmax _ ≤ _
  rw [← e]
  exact (shrink_vac n h p hp).1
abbrev Run := Bool × List Int
/-- two runs alike, N places deep when they are empty ones -/
def R1 (N : Nat) (p q : Run) : Prop := p.1 = q.1 ∧ (p.1 = true → p.2 = q.2) ∧ Rc N p.2 q.2
theorem Rc.le {N k : Nat} {a b : List Int} (h : Rc N a b) (l : k ≤ N) : k ≤ a.length ↔ k ≤ b.length := by
  rcases h with h | ⟨C, a', b', h1, h2, h3⟩
  · rw [h]
  · rw [h1, h2, List.length_append, List.length_append]
    omega
/-- joined runs alternate, none is empty, the first is full -/
structure Alt (L : List Run) : Prop where
  ne : ∀ p ∈ L, p.2 ≠ []
  hd : ∀ p, L.head? = some p → p.1 = true
  ch : ∀ (A B : List Run) (p q : Run), L = A ++ p :: q :: B → p.1 ≠ q.1
theorem Alt.nil : Alt [] := ⟨(fun p h => nomatch h), (fun p h => nomatch h), fun A B p q e => by
  have := congrArg List.length e
  simp at this⟩
theorem R1.nil {N : Nat} {p q : Run} (h : R1 N p q) (hN : 1 ≤ N) : p.2 = [] ↔ q.2 = [] := by
  have := h.2.2.le (k := 1) hN
  rw [← List.length_eq_zero_iff, ← List.length_eq_zero_iff]
  omega
theorem stones_lt : ∀ (n : Nat) {ps : List (Int × Int)}, Posi ps → (stonesD n ps).Pairwise (fun a b => b < a) ∧ ∀ x ∈ stonesD n ps, x ≤ topP ps
  | 0, ps, h => ⟨List.Pairwise.nil, fun x hx => nomatch hx⟩
  | n + 1, ps, h => by
    unfold stonesD
    by_cases e : ps = []
    · rw [if_pos e]
      exact ⟨List.Pairwise.nil, fun x hx => nomatch hx⟩
    · rw [if_neg e]
      obtain ⟨i1, i2⟩ := stones_lt n (shrink_posi h (topP ps))
      have k : ∀ x ∈ stonesD n (shrink ps (topP ps)), x ≤ topP ps - 1 := fun x hx => by
        have m : shrink ps (topP ps) ≠ [] := fun z => by
          rw [z] at hx
          cases n <;> simp [stonesD] at hx
        exact Int.le_trans (i2 x hx) (topP_shrink e h m)
      refine ⟨List.pairwise_cons.mpr ⟨fun x hx => by have := k x hx; omega, i1⟩, fun x hx => ?_⟩
      rcases List.mem_cons.mp hx with z | z
      · rw [z]; exact Int.le_refl _
      · have := k x z; omega
theorem stones_rising (ps : List (Int × Int)) (h : Posi ps) : Rising (stones ps) := by
  unfold stones Rising
  rw [List.pairwise_reverse]
  exact (stones_lt (weight ps) h).1

theorem heap_posi (r : List Int) : Posi (heap r) := grows_posi r (ps := []) (fun p hp => (nomatch hp))
theorem farR_rising (r : List Int) (ws : List (Int × Int)) : Rising (farR r ws) := stones_rising _ (addL_posi (heap_posi r) ws)
theorem heap_weight (r : List Int) : weight (heap r) = r.length := by
  have := weight_grows r (ps := []) (fun p hp => (nomatch hp))
  unfold heap
  rw [this]
  simp [weight]
theorem stones_len : ∀ (n : Nat) {ps : List (Int × Int)}, Posi ps → weight ps ≤ n → (stonesD n ps).length = weight ps
  | 0, ps, h, w => by
    rw [weight_zero h (by omega)]
    rfl
  | n + 1, ps, h, w => by
    unfold stonesD
    by_cases e : ps = []
    · rw [if_pos e, e]
      rfl
    · have q := weight_shrink e h
      rw [if_neg e, List.length_cons, stones_len n (shrink_posi h (topP ps)) (by omega)]
      exact q
theorem stones_length (ps : List (Int × Int)) (h : Posi ps) : (stones ps).length = weight ps := by
  unfold stones
  rw [List.length_reverse]
  exact stones_len (weight ps) h (Nat.le_refl _)
theorem farR_len (r : List Int) (ws : List (Int × Int)) : (farR r ws).length = r.length := by
  unfold farR
  rw [stones_length _ (addL_posi (heap_posi r) ws), addL_weight, heap_weight]
theorem Rc.mono {N M : Nat} {a b : List Int} (h : Rc N a b) (l : M ≤ N) : Rc M a b := by
  rcases h with h | ⟨C, a', b', h1, h2, h3⟩
  · exact .inl h
  · exact .inr ⟨C, a', b', h1, h2, by omega⟩
theorem Rc.take {N k : Nat} {a b : List Int} (h : Rc N a b) (l : k ≤ N) : a.take k = b.take k := by
  rcases h with h | ⟨C, a', b', h1, h2, h3⟩
  · rw [h]
  · rw [h1, h2, List.take_append_of_le_length (by omega), List.take_append_of_le_length (by omega)]
/-- .. all as deep -/
inductive RA (M : Nat) : List Run → List Run → Prop
  | nil : RA M [] []
  | cons {p q : Run} {P L : List Run} : R1 (M + 1) p q → RA M P L → RA M (p :: P) (q :: L)
theorem RA.app {M : Nat} {P L : List Run} (h : RA M P L) {p q : Run} (h2 : R1 (M + 1) p q) : RA M (P ++ [p]) (L ++ [q]) := by
  induction h with
  | nil => exact .cons h2 .nil
  | cons h _ ih => exact .cons h ih
theorem Rc.app {N : Nat} {a b x y : List Int} (h : Rc N a b) (h2 : Rc N x y) : Rc N (a ++ x) (b ++ y) := by
  rcases h with h | ⟨C, a', b', e1, e2, e3⟩
  · subst h
    rcases h2 with h2 | ⟨C, a', b', e1, e2, e3⟩
    · exact .inl (by rw [h2])
    · exact .inr ⟨a ++ C, a', b', by rw [e1, List.append_assoc], by rw [e2, List.append_assoc], by rw [List.length_append]; omega⟩
  · exact .inr ⟨C, a' ++ x, b' ++ y, by rw [e1, List.append_assoc], by rw [e2, List.append_assoc], e3⟩
theorem R1.mono {N M : Nat} {p q : Run} (h : R1 N p q) (l : M ≤ N) : R1 M p q := ⟨h.1, h.2.1, Rc.mono h.2.2 l⟩
/-- lists of runs, the last one place less deep -/
inductive RR (M : Nat) : List Run → List Run → Prop
  | nil : RR M [] []
  | last {p q : Run} : R1 M p q → RR M [p] [q]
  | cons {p q : Run} {P L : List Run} : R1 (M + 1) p q → RR M P L → RR M (p :: P) (q :: L)
theorem RR.mono {M N : Nat} {P L : List Run} (h : RR M P L) (l : N ≤ M) : RR N P L := by
  induction h with
  | nil => exact .nil
  | last h => exact .last (R1.mono h l)
  | cons h _ ih => exact .cons (R1.mono h (by omega)) ih
theorem RA.toR {M : Nat} {P L : List Run} (h : RA M P L) : RR M P L := by
  induction h with
  | nil => exact .nil
  | cons h _ ih => exact .cons h ih
theorem RA.appL {M : Nat} {P L : List Run} (h : RA M P L) {p q : Run} (h2 : R1 M p q) : RR M (P ++ [p]) (L ++ [q]) := by
  induction h with
  | nil => exact .last h2
  | cons h _ ih => exact .cons h ih
theorem Drawn.snoc {l : List Int} {x : Int} (h : Drawn l) (h1 : 0 ≤ x) (h2 : x < 9967) : Drawn (l ++ [x]) := fun d hd => by
  rcases List.mem_append.mp hd with z | z
  · exact h d z
  · have : d = x := by simpa using z
    subst this
    exact ⟨h1, h2⟩
theorem Alt.snoc {f : List Run} {l r : Run} (h : Alt (f ++ [l])) (e1 : l.1 ≠ r.1) (e2 : r.2 ≠ []) : Alt (f ++ [l] ++ [r]) := by
  refine ⟨fun p hp => ?_, fun p hp => ?_, fun A B p q e => ?_⟩
  · rcases List.mem_append.mp hp with w | w
    · exact h.ne p w
    · rw [List.mem_singleton.mp w]; exact e2
  · cases f with
    | nil => exact h.hd p hp
    | cons a f => exact h.hd p hp
  · rcases List.eq_nil_or_concat B with w | ⟨B0, b, w⟩
    · subst w
      have e3 : f ++ [l] ++ [r] = (A ++ [p]) ++ [q] := by rw [e]; simp
      obtain ⟨e4, e5⟩ := List.append_inj' e3 rfl
      cases e5
      obtain ⟨_, e7⟩ := List.append_inj' e4 rfl
      cases e7
      exact e1
    · rw [List.concat_eq_append] at w
      subst w
      have e3 : f ++ [l] ++ [r] = (A ++ p :: q :: B0) ++ [b] := by rw [e]; simp
      obtain ⟨e4, _⟩ := List.append_inj' e3 rfl
      exact h.ch A B0 p q e4
theorem RA.snoc {M : Nat} {P L : List Run} (h : RA M P L) : (P = [] ∧ L = []) ∨ ∃ P0 p L0 q, P = P0 ++ [p] ∧ L = L0 ++ [q] ∧ RA M P0 L0 ∧ R1 (M + 1) p q := by
  induction h with
  | nil => exact .inl ⟨rfl, rfl⟩
  | cons h hr ih =>
    right
    rcases ih with ⟨rfl, rfl⟩ | ⟨P0, p, L0, q, rfl, rfl, h1, h2⟩
    · exact ⟨[], _, [], _, rfl, rfl, .nil, h⟩
    · exact ⟨_ :: P0, p, _ :: L0, q, rfl, rfl, .cons h h1, h2⟩
theorem Alt.snocL {f : List Run} {l : Run} (h : Alt (f ++ [l])) {l2 : Run} (e1 : l2.1 = l.1) (e2 : l2.2 ≠ []) : Alt (f ++ [l2]) := by
  refine ⟨fun p hp => ?_, fun p hp => ?_, fun A B p q e => ?_⟩
  · rcases List.mem_append.mp hp with w | w
    · exact h.ne p (List.mem_append_left _ w)
    · rw [List.mem_singleton.mp w]; exact e2
  · cases f with
    | nil =>
      have := h.hd l rfl
      cases hp
      rw [e1]; exact this
    | cons a f => exact h.hd p hp
  · rcases List.eq_nil_or_concat B with w | ⟨B0, b, w⟩
    · subst w
      have e3 : f ++ [l2] = (A ++ [p]) ++ [q] := by rw [e]; simp
      obtain ⟨e4, e5⟩ := List.append_inj' e3 rfl
      cases e5
      have := h.ch A [] p l (by rw [e4]; simp)
      rw [e1]; exact this
    · rw [List.concat_eq_append] at w
      subst w
      have e3 : f ++ [l2] = (A ++ p :: q :: B0) ++ [b] := by rw [e]; simp
      obtain ⟨e4, e5⟩ := List.append_inj' e3 rfl
      exact h.ch A (B0 ++ [l]) p q (by rw [e4]; simp)
inductive Deed where
  | build (x : Str) (r : List Int)
  | shut (x : Str)
  | walk (x : Str) (c n : Int)
  | put (x : Str) (p : Int)
  | take (x : Str) (p : Int)
  | mirror (x : Str)
  | lay (x y : Str) (g : Int)
  | late (x : Str) (a c n : Int)
  | strike (x : Str) (a : Int)
abbrev Hist := List (Deed × StS)
def deedD : Deed → D
  | .build x r => .tup [.str "build", .str x, .tup (r.map D.int)]
  | .shut x => .tup [.str "shut", .str x]
  | .walk x c n => .tup [.str "walk", .str x, .int c, .int n]
  | .put x p => .tup [.str "put", .str x, .int p]
  | .take x p => .tup [.str "take", .str x, .int p]
  | .mirror x => .tup [.str "mirror", .str x]
  | .lay x y g => .tup [.str "lay", .str x, .str y, .int g]
  | .late x a c n => .tup [.str "late", .str x, .int a, .int c, .int n]
  | .strike x a => .tup [.str "strike", .str x, .int a]
def stD (F : RoadS → D) (p : Deed × StS) : D := .tup [deedD p.1, .dct (mapS F p.2)]
def dnF : StS → Hist → List D
  | _, [] => []
  | s0, p :: h => .tup [deedD p.1, .dct (mapS roadO s0)] :: dnF p.2 h
def lastF : StS → Hist → StS
  | s0, [] => s0
  | _, p :: h => lastF p.2 h
theorem dnF_snoc : ∀ (h : Hist) (s0 : StS) (p : Deed × StS), dnF s0 (h ++ [p]) = dnF s0 h ++ [.tup [deedD p.1, .dct (mapS roadO (lastF s0 h))]]
  | [], _, _ => rfl
  | q :: h, s0, p => by
    show _ :: dnF q.2 (h ++ [p]) = _
    rw [dnF_snoc h]
    rfl
theorem lastF_snoc : ∀ (h : Hist) (s0 : StS) (p : Deed × StS), lastF s0 (h ++ [p]) = p.2
  | [], _, _ => rfl
  | q :: h, _, p => lastF_snoc h q.2 p
theorem dnF_len : ∀ (h : Hist) (s0 : StS), (dnF s0 h).length = h.length
  | [], _ => rfl
  | q :: h, _ => by
    show (dnF q.2 h).length + 1 = h.length + 1
    rw [dnF_len h]
abbrev houseH (h ah : Hist) : D := hsD (lastF [] h) (dnF [] h) (ah.map (stD roadO))
def letters : Str := "abcdefghijklmnopqrstuvwxyz"
def nameOk (x : Str) : Bool := decide (1 ≤ x.length ∧ x.length ≤ 8) && x.cps.toList.all fun c => decide (c ∈ letters.cps.toList)
def EntOk : Ent → Prop
  | .walk c _ => 1 ≤ c
  | .lay o _ => Rising o ∧ o.length ≤ 60
  | _ => True
structure RoadOk (n : Nat) (r : RoadS) : Prop where
  fr : Rising r.first
  fl : r.first.length ≤ 60
  nr : Rising r.now
  nl : r.now.length ≤ 60
  es : ∀ e ∈ r.ents, EntOk e
  el : r.ents.length ≤ n
structure StOk (n : Nat) (st : StS) : Prop where
  len : st.length ≤ 8
  all : ∀ p ∈ st, RoadOk n p.2 ∧ nameOk p.1 = true
structure HistOk (n : Nat) (h : Hist) : Prop where
  all : ∀ p ∈ h, StOk n p.2 ∧ pl 6 (deedD p.1) = true
theorem roadOk_mono {n m : Nat} {r : RoadS} (h : RoadOk n r) (l : n ≤ m) : RoadOk m r := ⟨h.fr, h.fl, h.nr, h.nl, h.es, Nat.le_trans h.el l⟩
theorem stOk_mono {n m : Nat} {st : StS} (h : StOk n st) (l : n ≤ m) : StOk m st := ⟨h.len, fun p hp => ⟨roadOk_mono (h.all p hp).1 l, (h.all p hp).2⟩⟩
theorem HistOk_mono {n m : Nat} {h : Hist} (hh : HistOk n h) (l : n ≤ m) : HistOk m h := ⟨fun p hp => ⟨stOk_mono (hh.all p hp).1 l, (hh.all p hp).2⟩⟩
theorem HistOk_nil (n : Nat) : HistOk n [] := ⟨fun p hp => nomatch hp⟩
theorem lastF_ok {n : Nat} {h : Hist} (hh : HistOk n h) : StOk n (lastF [] h) := by
  rcases List.eq_nil_or_concat h with e | ⟨h0, p, e⟩
  · subst e
    exact ⟨by simp [lastF], fun p hp => nomatch hp⟩
  · rw [List.concat_eq_append] at e
    subst e
    rw [lastF_snoc]
    exact (hh.all p (List.mem_append.mpr (.inr (List.mem_singleton.mpr rfl)))).1
theorem rdS_mem {st : StS} {x : Str} {r : RoadS} (h : rdS st x = some r) : (x, r) ∈ st := by
  unfold rdS at h
  cases q : st.find? fun p => decide (p.1 = x) with
  | none => rw [q] at h; cases h
  | some p =>
    rw [q] at h
    cases h
    have e : p.1 = x := by simpa using List.find?_some q
    have m := List.mem_of_find?_eq_some q
    rw [← e]
    exact m
theorem rd_name {n : Nat} {st : StS} (hs : StOk n st) {x : Str} {r : RoadS} (h : rdS st x = some r) : nameOk x = true := (hs.all _ (rdS_mem h)).2
def onRoad (st : StS) (x : Str) (k : RoadS → Str × Int) : Str × Int := match rdS st x with
  | none => ("NoRoad", 0)
  | some r => k r
theorem on_name {n : Nat} {st : StS} (hs : StOk n st) {x : Str} {k : RoadS → Str × Int} (h : (onRoad st x k).1 = "") : nameOk x = true ∧ ∃ r, rdS st x = some r ∧ (k r).1 = "" := by
  unfold onRoad at h
  cases q : rdS st x with
  | none =>
    rw [q] at h
    exact absurd (show ("NoRoad" : Str) = "" from h) (by decide +kernel)
  | some r =>
    rw [q] at h
    exact ⟨rd_name hs q, r, rfl, h⟩
theorem pl_tupOf (m : Nat) (xs : List D) (h : ∀ x ∈ xs, pl m x = true) (l : xs.length ≤ 1000) : pl (m + 1) (.tup xs) = true := by
  show (xs.all (pl m) && decide (xs.length ≤ szL)) = true
  rw [decide_eq_true (le_szL (by omega)), Bool.and_true]
  exact List.all_eq_true.mpr h
theorem letters_lay : ∀ c ∈ letters.cps.toList, c < 0x110000 := by decide +kernel
theorem nameOk_lay {x : Str} (h : nameOk x = true) : (PyData.str x).canLay0 = true ∧ x.length ≤ 8 := by
  unfold nameOk at h
  obtain ⟨h1, h2⟩ := Bool.and_eq_true_iff.mp h
  refine ⟨?_, (of_decide_eq_true h1).2⟩
  show PyData.strOk x = true
  unfold PyData.strOk
  rw [← Array.all_toList]
  refine List.all_eq_true.mpr fun c hc => ?_
  have z := List.all_eq_true.mp h2 c hc
  exact decide_eq_true (letters_lay c (of_decide_eq_true z))
theorem pl_str (n : Nat) (x : Str) (h : (PyData.str x).canLay0 = true) (h2 : x.length ≤ 1000) : pl (n + 1) (.str x) = true := by
  show ((PyData.str x).canLay0 && decide (x.length ≤ szL)) = true
  rw [h, decide_eq_true (le_szL (by omega))]
  rfl
theorem pl_nm {x : Str} (h : nameOk x = true) (m : Nat) : pl (m + 1) (.str x) = true := by
  have z := nameOk_lay h
  exact pl_str m x z.1 (by omega)
def rowWhy (r : List Int) : Str × Int := if 60 < r.length then ("TooMany", 0) else match badAt r with
  | some k => ("BadRow", (k : Int))
  | none => ("", 0)
def entBad (r : List Int) : Ent → Str
  | .walk _ _ => ""
  | .put p => if p ∈ r then "Laid" else if 59 < r.length then "TooMany" else ""
  | .take p => if p ∈ r then "" else "NoStone"
  | .mirror => ""
  | .lay o g => if r = [] ∨ o = [] then "Bare" else if 60 < r.length + o.length then "TooMany" else if g < (o.length : Int) then "TooNear" else ""
def layR (r o : List Int) (g : Int) : List Int := r ++ o.map (· + (r.getLastD 0 + g + 1 - o.headD 0))
def mir (r : List Int) : List Int := (r.map fun p => -p).reverse
def entDone (r : List Int) : Ent → List Int
  | .walk c n => farR r [(c, n)]
  | .put p => sortBy ltI (r ++ [p])
  | .take p => r.filter fun x => decide (x ≠ p)
  | .mirror => mir r
  | .lay o g => layR r o g
/-- a log gone over: the number of the entry that can't be done, the row so far -/
def goneS : Nat → List Int → List Ent → Option Nat × List Int
  | _, r, [] => (none, r)
  | k, r, e :: es => if entBad r e = "" then goneS (k + 1) (entDone r e) es else (some k, r)
def clashS : Option Nat × List Int → Str × Int
  | (none, _) => ("", 0)
  | (some k, _) => ("Clash", (k : Int))
def lateS (es : List Ent) (a c n : Int) : List Ent := es.take a.toNat ++ [.walk c n] ++ es.drop a.toNat
def strikeS (es : List Ent) (a : Int) : List Ent := es.take a.toNat ++ es.drop (a.toNat + 1)
def isWalk : Ent → Bool
  | .walk _ _ => true
  | _ => false
def badS (st : StS) : Deed → Str × Int
  | .build x r => if nameOk x = false then ("BadName", 0) else if (rdS st x).isSome then ("Taken", 0) else if (rowWhy r).1 = "" ∧ 8 ≤ st.length then ("Full", 0) else rowWhy r
  | .shut x => onRoad st x fun _ => ("", 0)
  | .walk x c _ => onRoad st x fun _ => if c < 1 then ("BadCreel", 0) else ("", 0)
  | .put x p => onRoad st x fun r => (entBad r.now (.put p), 0)
  | .take x p => onRoad st x fun r => (entBad r.now (.take p), 0)
  | .mirror x => onRoad st x fun _ => ("", 0)
  | .lay x y g => onRoad st x fun r => onRoad st y fun o => (entBad r.now (.lay o.now g), 0)
  | .late x a c n => onRoad st x fun r => if a < 0 ∨ (r.ents.length : Int) < a then ("NoEntry", 0) else if c < 1 then ("BadCreel", 0) else clashS (goneS 0 r.first (lateS r.ents a c n))
  | .strike x a => onRoad st x fun r => if a < 0 ∨ (r.ents.length : Int) ≤ a then ("NoEntry", 0) else if (r.ents[a.toNat]?).any isWalk = false then ("NotWalk", 0) else clashS (goneS 0 r.first (strikeS r.ents a))
theorem rowWhy_X (r : List Int) : rowX r = if (rowWhy r).1 = "" then none else some ⟨(rowWhy r).1, if (rowWhy r).1 = "BadRow" ∨ (rowWhy r).1 = "Clash" then some (.int (rowWhy r).2) else none⟩ := by
  unfold rowX rowWhy
  split
  · rw [if_neg (by decide +kernel), if_neg (by decide +kernel)]
  · cases badAt r with
    | none => rw [if_pos rfl]; rfl
    | some k =>
      show some (⟨"BadRow", some (.int (k : Nat))⟩ : Exc) = if ("BadRow" : Str) = "" then none else some ⟨"BadRow", if ("BadRow" : Str) = "BadRow" ∨ ("BadRow" : Str) = "Clash" then some (.int (k : Int)) else none⟩
      rw [if_neg (by decide +kernel), if_pos (by decide +kernel)]
theorem rowX_rising {r : List Int} (h : rowX r = none) : Rising r := by
  unfold rowX at h
  by_cases c : 60 < r.length
  · rw [if_pos c] at h; cases h
  · rw [if_neg c] at h
    cases q : badAt r with
    | some k => rw [q] at h; cases h
    | none =>
      unfold badAt at q
      rw [List.find?_eq_none] at q
      have step : ∀ k (hk : k + 1 < r.length), r[k] < r[k + 1] := fun k hk => by
        have := q (k + 1) (List.mem_range'_1.mpr ⟨by omega, by omega⟩)
        unfold badB at this
        rw [List.getD_eq_getElem?_getD, List.getElem?_eq_getElem hk, List.getD_eq_getElem?_getD, show k + 1 - 1 = k from rfl, List.getElem?_eq_getElem (by omega)] at this
        simpa using this
      unfold Rising
      rw [List.pairwise_iff_getElem]
      intro i j hi hj hij
      obtain ⟨d, rfl⟩ : ∃ d, j = i + 1 + d := ⟨j - i - 1, by omega⟩
      clear hij
      induction d with
      | zero => exact step i hj
      | succ d ih => exact Int.lt_trans (ih (by omega)) (step (i + 1 + d) hj)

theorem rowX_len {r : List Int} (h : rowX r = none) : r.length ≤ 60 := by
  unfold rowX at h
  by_cases c : 60 < r.length
  · rw [if_pos c] at h
    cases h
  · omega
theorem rowWhy_ok {r : List Int} (h : (rowWhy r).1 = "") : Rising r ∧ r.length ≤ 60 := by
  have z := rowWhy_X r
  rw [if_pos h] at z
  exact ⟨rowX_rising z, rowX_len z⟩
theorem pl_deed {n : Nat} {st : StS} (hs : StOk n st) (d : Deed) (hb : (badS st d).1 = "") : pl 6 (deedD d) = true := by
  have pi : ∀ m (i : Int), pl (m + 1) (.int i) = true := fun _ _ => rfl
  have pw : ∀ w ∈ (["build", "shut", "walk", "put", "take", "mirror", "lay", "late", "strike"] : List Str), pl 5 (.str w) = true := fun w hw => pl_str 4 _ ((by decide +kernel : ∀ w ∈ (["build", "shut", "walk", "put", "take", "mirror", "lay", "late", "strike"] : List Str), (PyData.str w).canLay0 = true) w hw) ((by decide +kernel : ∀ w ∈ (["build", "shut", "walk", "put", "take", "mirror", "lay", "late", "strike"] : List Str), w.length ≤ 1000) w hw)
  cases d with
  | build x r =>
    unfold badS at hb
    dsimp only at hb
    have c1 : nameOk x = true := by
      by_cases c : nameOk x = false
      · rw [if_pos c] at hb
        exact absurd (show ("BadName" : Str) = "" from hb) (by decide +kernel)
      · simpa using c
    rw [if_neg (by rw [c1]; simp)] at hb
    have rr : (rowWhy r).1 = "" := by
      split at hb
      · exact absurd (show ("Taken" : Str) = "" from hb) (by decide +kernel)
      · split at hb
        · exact absurd (show ("Full" : Str) = "" from hb) (by decide +kernel)
        · exact hb
    have r60 := rowWhy_ok rr
    have pr : pl 5 (.tup (r.map D.int)) = true := pl_tupOf 4 _ (fun y hy => by
      obtain ⟨i, _, rfl⟩ := List.mem_map.mp hy
      rfl) (by rw [List.length_map]; omega)
    exact pl_tupOf 5 _ (by simp only [List.mem_cons, List.not_mem_nil, or_false, forall_eq_or_imp, forall_eq]; exact ⟨pw _ (by simp), pl_nm c1 4, pr⟩) (by simp)
  | shut x =>
    have a := (on_name hs (k := fun _ => (("" : Str), (0 : Int))) hb).1
    exact pl_tupOf 5 _ (by simp only [List.mem_cons, List.not_mem_nil, or_false, forall_eq_or_imp, forall_eq]; exact ⟨pw _ (by simp), pl_nm a 4⟩) (by simp)
  | walk x c k =>
    have a := (on_name hs hb).1
    exact pl_tupOf 5 _ (by simp only [List.mem_cons, List.not_mem_nil, or_false, forall_eq_or_imp, forall_eq]; exact ⟨pw _ (by simp), pl_nm a 4, pi _ _, pi _ _⟩) (by simp)
  | put x p =>
    have a := (on_name hs hb).1
    exact pl_tupOf 5 _ (by simp only [List.mem_cons, List.not_mem_nil, or_false, forall_eq_or_imp, forall_eq]; exact ⟨pw _ (by simp), pl_nm a 4, pi _ _⟩) (by simp)
  | take x p =>
    have a := (on_name hs hb).1
    exact pl_tupOf 5 _ (by simp only [List.mem_cons, List.not_mem_nil, or_false, forall_eq_or_imp, forall_eq]; exact ⟨pw _ (by simp), pl_nm a 4, pi _ _⟩) (by simp)
  | mirror x =>
    have a := (on_name hs hb).1
    exact pl_tupOf 5 _ (by simp only [List.mem_cons, List.not_mem_nil, or_false, forall_eq_or_imp, forall_eq]; exact ⟨pw _ (by simp), pl_nm a 4⟩) (by simp)
  | lay x y g =>
    obtain ⟨a, r, _, hb2⟩ := on_name hs hb
    have a2 := (on_name hs hb2).1
    exact pl_tupOf 5 _ (by simp only [List.mem_cons, List.not_mem_nil, or_false, forall_eq_or_imp, forall_eq]; exact ⟨pw _ (by simp), pl_nm a 4, pl_nm a2 4, pi _ _⟩) (by simp)
  | late x b c k =>
    have a := (on_name hs hb).1
    exact pl_tupOf 5 _ (by simp only [List.mem_cons, List.not_mem_nil, or_false, forall_eq_or_imp, forall_eq]; exact ⟨pw _ (by simp), pl_nm a 4, pi _ _, pi _ _, pi _ _⟩) (by simp)
  | strike x b =>
    have a := (on_name hs hb).1
    exact pl_tupOf 5 _ (by simp only [List.mem_cons, List.not_mem_nil, or_false, forall_eq_or_imp, forall_eq]; exact ⟨pw _ (by simp), pl_nm a 4, pi _ _⟩) (by simp)
theorem noX_of {α : Type} (a : α) : noX (R.ok a) = R.ok a := rfl
theorem back_gen (b : List (Key × D)) (dn gn : List D) (deed : D) (b0 : List (Key × D)) (hg : gn.length < 100000) : f_House_back [houseD b (dn ++ [.tup [deed, .dct b0]]) gn] = .rt deed [some (houseD b0 dn (gn ++ [.tup [deed, .dct b]]))] := by
  have s2 : (2 : Nat) ≤ szL := le_szL (by decide)
  have lg : gn.length < szL := lt_szL (by omega)
  have nq : dNilQ false (.lst (dn ++ [.tup [deed, .dct b0]])) (.lst []) = .ok (.bl false) := by
    unfold dNilQ
    cases dn <;> rfl
  have s0 : (0 : Nat) ≤ szL := le_szL (by decide)
  simp [f_House_back, m_House_back, houseD, nq, s0, s2, lg, outM, allS, noX_of, setD]
theorem backH (h ah : Hist) (p : Deed × StS) (hl : ah.length < 1000) : f_House_back [houseH (h ++ [p]) ah] = .rt (deedD p.1) [some (houseH h (ah ++ [p]))] := by
  unfold houseH hsD
  rw [dnF_snoc, lastF_snoc, List.map_append]
  exact back_gen _ _ _ _ _ (by rw [List.length_map]; omega)
theorem pl_up : ∀ (m : Nat) (d : D), pl m d = true → pl (m + 1) d = true
  | 0, _, h => by cases h
  | m + 1, .lst xs, h => by
    have q : (xs.all (pl m) && decide (xs.length ≤ szL)) = true := h
    obtain ⟨q1, q2⟩ := Bool.and_eq_true_iff.mp q
    show (xs.all (pl (m + 1)) && decide (xs.length ≤ szL)) = true
    rw [q2, Bool.and_true]
    exact List.all_eq_true.mpr fun x hx => pl_up m x (List.all_eq_true.mp q1 x hx)
  | m + 1, .tup xs, h => by
    have q : (xs.all (pl m) && decide (xs.length ≤ szL)) = true := h
    obtain ⟨q1, q2⟩ := Bool.and_eq_true_iff.mp q
    show (xs.all (pl (m + 1)) && decide (xs.length ≤ szL)) = true
    rw [q2, Bool.and_true]
    exact List.all_eq_true.mpr fun x hx => pl_up m x (List.all_eq_true.mp q1 x hx)
  | _ + 1, .non, _ => rfl
  | _ + 1, .bl _, _ => rfl
  | _ + 1, .int _, _ => rfl
  | _ + 1, .str _, h => h
  | _ + 1, .dct _, h => by cases h
  | _ + 1, .obj _ _, h => by cases h
  | _ + 1, .scr _, h => by cases h
def putS (st : StS) (x : Str) (r : RoadS) : StS := if (st.any fun p => decide (p.1 = x)) = true then st.map (fun p => if p.1 = x then (p.1, r) else p) else st ++ [(x, r)]
def delS (st : StS) (x : Str) : StS := st.filter fun p => decide (p.1 ≠ x)
def onS (st : StS) (x : Str) (k : RoadS → RoadS) : StS := match rdS st x with
  | none => st
  | some r => putS st x (k r)
def addS (e : Ent) (r : RoadS) : RoadS := ⟨r.first, r.ents ++ [e], entDone r.now e⟩
def anewS (es : List Ent) (r : RoadS) : RoadS := ⟨r.first, es, (goneS 0 r.first es).2⟩
def nowS (st : StS) (x : Str) : List Int := match rdS st x with
  | none => []
  | some r => r.now
def doneS (st : StS) : Deed → StS
  | .build x r => putS st x ⟨r, [], r⟩
  | .shut x => delS st x
  | .walk x c n => onS st x (addS (.walk c n))
  | .put x p => onS st x (addS (.put p))
  | .take x p => onS st x (addS (.take p))
  | .mirror x => onS st x (addS .mirror)
  | .lay x y g => onS st x (addS (.lay (nowS st y) g))
  | .late x a c n => onS st x fun r => anewS (lateS r.ents a c n) r
  | .strike x a => onS st x fun r => anewS (strikeS r.ents a) r
def nxtH (h : Hist) (d : Deed) : Hist := if (badS (lastF [] h) d).1 = "" then h ++ [(d, doneS (lastF [] h) d)] else h
theorem stOk_road {n : Nat} {st : StS} (h : StOk n st) {x : Str} {r : RoadS} (hx : rdS st x = some r) : RoadOk n r := (h.all _ (rdS_mem hx)).1
theorem any_rdS (st : StS) (x : Str) : (st.any fun p => decide (p.1 = x)) = (rdS st x).isSome := by
  induction st with
  | nil => rfl
  | cons p st ih =>
    rw [List.any_cons]
    by_cases c : p.1 = x
    · simp [rdS, List.find?_cons, c]
    · rw [decide_eq_false c, Bool.false_or, ih]
      simp [rdS, List.find?_cons, c]
theorem stOk_put {n : Nat} {st : StS} (h : StOk n st) {x : Str} {r : RoadS} (hr : RoadOk n r) (hx : (rdS st x).isSome = true ∨ (st.length < 8 ∧ nameOk x = true)) : StOk n (putS st x r) := by
  unfold putS
  rw [any_rdS]
  split
  · refine ⟨by rw [List.length_map]; exact h.len, fun p hp => ?_⟩
    obtain ⟨q, hq, rfl⟩ := List.mem_map.mp hp
    split
    · exact ⟨hr, (h.all q hq).2⟩
    · exact h.all q hq
  · rename_i c
    rcases hx with hx | hx
    · exact absurd hx c
    · refine ⟨by rw [List.length_append]; have : [(x, r)].length = 1 := rfl; omega, fun p hp => ?_⟩
      rcases List.mem_append.mp hp with w | w
      · exact h.all p w
      · rw [List.mem_singleton.mp w]
        exact ⟨hr, hx.2⟩
theorem stOk_del {n : Nat} {st : StS} (h : StOk n st) (x : Str) : StOk n (delS st x) := ⟨Nat.le_trans (List.length_filter_le _ _) h.len, fun p hp => h.all p (List.mem_filter.mp hp).1⟩
theorem late_ents {n : Nat} {r : RoadS} (h : RoadOk n r) {a c k : Int} (hc : 1 ≤ c) : ∀ e ∈ lateS r.ents a c k, EntOk e := fun e he => by
  unfold lateS at he
  rcases List.mem_append.mp he with w | w
  · rcases List.mem_append.mp w with w | w
    · exact h.es e (List.mem_of_mem_take w)
    · rw [List.mem_singleton.mp w]; exact hc
  · exact h.es e (List.mem_of_mem_drop w)
theorem strike_ents {n : Nat} {r : RoadS} (h : RoadOk n r) {a : Int} : ∀ e ∈ strikeS r.ents a, EntOk e := fun e he => by
  unfold strikeS at he
  rcases List.mem_append.mp he with w | w
  · exact h.es e (List.mem_of_mem_take w)
  · exact h.es e (List.mem_of_mem_drop w)
theorem late_len (es : List Ent) (a c k : Int) : (lateS es a c k).length = es.length + 1 := by
  unfold lateS
  simp
  omega
theorem strike_len (es : List Ent) (a : Int) : (strikeS es a).length ≤ es.length := by
  unfold strikeS
  simp
  omega
theorem lay_rising {r o : List Int} {g : Int} (hr : Rising r) (ho : Rising o) (hr0 : r ≠ []) (ho0 : o ≠ []) (hg : 0 ≤ g) : Rising (layR r o g) := by
  unfold layR Rising
  rw [List.pairwise_append]
  refine ⟨hr, List.pairwise_map.mpr (ho.imp fun h => by omega), fun x hx y hy => ?_⟩
  obtain ⟨z, hz, rfl⟩ := List.mem_map.mp hy
  have hx' : x ≤ r.getLastD 0 := by
    obtain ⟨a, b, e⟩ : ∃ a b, r = a ++ [b] := ⟨r.dropLast, r.getLast hr0, (List.dropLast_concat_getLast hr0).symm⟩
    subst e
    rw [List.getLastD_concat]
    rcases List.mem_append.mp hx with w | w
    · have := (List.pairwise_append.mp hr).2.2 x w b (by simp)
      omega
    · rw [List.mem_singleton.mp w]; omega
  have hz' : o.headD 0 ≤ z := by
    cases o with
    | nil => exact absurd rfl ho0
    | cons a o =>
      rw [List.headD_cons]
      rcases List.mem_cons.mp hz with w | w
      · rw [w]; omega
      · have := (List.pairwise_cons.mp ho).1 z w
        omega
  omega
theorem put_rising {r : List Int} {p : Int} (hr : Rising r) (hp : p ∉ r) : Rising (sortBy ltI (r ++ [p])) := by
  have nd : (r ++ [p]).Nodup := by
    rw [List.nodup_append]
    refine ⟨hr.imp fun h => by omega, by simp, fun a ha b hb e => ?_⟩
    rw [List.mem_singleton.mp hb] at e
    exact hp (e ▸ ha)
  have pm : (sortBy ltI (r ++ [p])).Perm (r ++ [p]) := sortBy_perm _
  have nd2 : (sortBy ltI (r ++ [p])).Nodup := pm.nodup_iff.mpr nd
  have le := sortBy_srt sto_I (r ++ [p])
  refine List.Pairwise.imp (R := fun a b => ltI b a = false ∧ a ≠ b) (fun {a b} h => ?_) (le.and nd2)
  have h1 := h.1
  have h2 := h.2
  simp [ltI] at h1
  omega
def rowOf : Int → List Bool → List Int
  | _, [] => []
  | lo, b :: bs => if b then lo :: rowOf (lo + 1) bs else rowOf (lo + 1) bs
theorem rowOf_mem : ∀ {bs : List Bool} {lo x : Int}, x ∈ rowOf lo bs → lo ≤ x ∧ x < lo + bs.length
  | [], _, _, h => by cases h
  | b :: bs, lo, x, h => by
    have key : x ∈ rowOf (lo + 1) bs → lo ≤ x ∧ x < lo + (b :: bs).length := fun z => by
      have := rowOf_mem z
      simp
      omega
    cases b with
    | true =>
      rcases List.mem_cons.mp (show x ∈ lo :: rowOf (lo + 1) bs from h) with e | z
      · subst e; simp; omega
      · exact key z
    | false => exact key h
theorem rowOf_rising : ∀ (bs : List Bool) (lo : Int), Rising (rowOf lo bs)
  | [], _ => List.Pairwise.nil
  | b :: bs, lo => by
    cases b with
    | true => exact List.pairwise_cons.mpr ⟨fun x hx => by have := rowOf_mem hx; omega, rowOf_rising bs (lo + 1)⟩
    | false => exact rowOf_rising bs (lo + 1)
theorem rowOf_app : ∀ (as bs : List Bool) (lo : Int), rowOf lo (as ++ bs) = rowOf lo as ++ rowOf (lo + as.length) bs
  | [], bs, lo => by simp [rowOf]
  | a :: as, bs, lo => by
    have ih := rowOf_app as bs (lo + 1)
    have e : lo + 1 + (as.length : Int) = lo + ((a :: as).length : Int) := by simp; omega
    rw [e] at ih
    cases a with
    | true =>
      show lo :: rowOf (lo + 1) (as ++ bs) = lo :: rowOf (lo + 1) as ++ _
      rw [ih, List.cons_append]
    | false => exact ih
theorem mir_app (a b : List Int) : mir (a ++ b) = mir b ++ mir a := by simp [mir]
theorem mir_rowOf : ∀ (bs : List Bool) (lo : Int), mir (rowOf lo bs) = rowOf (1 - lo - bs.length) bs.reverse
  | [], _ => rfl
  | b :: bs, lo => by
    rw [List.reverse_cons, rowOf_app, List.length_reverse]
    have ih := mir_rowOf bs (lo + 1)
    have e1 : 1 - (lo + 1) - (bs.length : Int) = 1 - lo - ((b :: bs).length : Int) := by simp; omega
    rw [e1] at ih
    rw [← ih]
    have e2 : 1 - lo - ((b :: bs).length : Int) + (bs.length : Int) = -lo := by simp; omega
    rw [e2]
    cases b with
    | true =>
      show mir ([lo] ++ rowOf (lo + 1) bs) = _
      rw [mir_app]
      rfl
    | false =>
      show mir (rowOf (lo + 1) bs) = _ ++ []
      rw [List.append_nil]
def stepB (c : Int) (h : Nat) (b : Bool) : Bool × Nat := match b with
  | true => if (h : Int) < c then (false, h + 1) else (true, h)
  | false => if 0 < h then (true, h - 1) else (false, 0)
def endB (c : Int) : Nat → List Bool → Nat
  | h, [] => h
  | h, b :: bs => endB c (stepB c h b).2 bs
theorem rowOf_false : ∀ (n : Nat) (lo : Int), rowOf lo (List.replicate n false) = []
  | 0, _ => rfl
  | n + 1, lo => rowOf_false n (lo + 1)
theorem endB_app (c : Int) : ∀ (as bs : List Bool) (h : Nat), endB c h (as ++ bs) = endB c (endB c h as) bs
  | [], _, _ => rfl
  | a :: as, bs, h => by rw [List.cons_append, endB, endB_app c as bs, endB]
def bitsOf (r : List Int) : Int → Nat → List Bool
  | _, 0 => []
  | lo, n + 1 => decide (lo ∈ r) :: bitsOf r (lo + 1) n
theorem bitsOf_drop (x : Int) (r : List Int) : ∀ (n : Nat) (lo : Int), x < lo → bitsOf (x :: r) lo n = bitsOf r lo n
  | 0, _, _ => rfl
  | n + 1, lo, h => by
    have e : decide (lo ∈ x :: r) = decide (lo ∈ r) := by
      rw [decide_eq_decide, List.mem_cons]
      constructor
      · rintro (z | z)
        · omega
        · exact z
      · exact .inr
    rw [bitsOf, bitsOf, e, bitsOf_drop x r n (lo + 1) (by omega)]
theorem rowOf_bits : ∀ (n : Nat) (lo : Int) (r : List Int), Rising r → (∀ x ∈ r, lo ≤ x ∧ x < lo + n) → rowOf lo (bitsOf r lo n) = r
  | 0, lo, r, _, h => by
    cases r with
    | nil => rfl
    | cons x r =>
      have := h x List.mem_cons_self
      omega
  | n + 1, lo, r, hr, h => by
    rw [bitsOf]
    by_cases m : lo ∈ r
    · rw [decide_eq_true m]
      show lo :: rowOf (lo + 1) (bitsOf r (lo + 1) n) = r
      cases r with
      | nil => cases m
      | cons x t =>
        obtain ⟨p1, p2⟩ := List.pairwise_cons.mp hr
        have e : x = lo := by
          rcases List.mem_cons.mp m with z | z
          · exact z.symm
          · have a := p1 lo z
            have b := (h x List.mem_cons_self).1
            omega
        subst e
        rw [bitsOf_drop x t n (x + 1) (by omega), rowOf_bits n (x + 1) t p2 fun y hy => by
          have a := p1 y hy
          have b := h y (List.mem_cons_of_mem _ hy)
          omega]
    · rw [decide_eq_false m]
      show rowOf (lo + 1) (bitsOf r (lo + 1) n) = r
      exact rowOf_bits n (lo + 1) r hr fun y hy => by
        have b := h y hy
        have : y ≠ lo := fun z => m (z ▸ hy)
        omega
theorem endB_le {c : Int} : ∀ (bs : List Bool) (lo : Int) (h : Nat), endB c h bs ≤ h + (rowOf lo bs).length
  | [], _, _ => Nat.le_refl _
  | true :: bs, lo, h => by
    have e : (stepB c h true).2 ≤ h + 1 := by
      unfold stepB
      dsimp only
      split <;> dsimp only <;> omega
    have := endB_le (c := c) bs (lo + 1) (stepB c h true).2
    show endB c (stepB c h true).2 bs ≤ h + ((rowOf (lo + 1) bs).length + 1)
    omega
  | false :: bs, lo, h => by
    have e : (stepB c h false).2 ≤ h := by
      unfold stepB
      dsimp only
      split <;> dsimp only <;> omega
    have := endB_le (c := c) bs (lo + 1) (stepB c h false).2
    show endB c (stepB c h false).2 bs ≤ h + (rowOf (lo + 1) bs).length
    omega
theorem endB_false {c : Int} : ∀ (n h : Nat), endB c h (List.replicate n false) = h - n
  | 0, h => rfl
  | n + 1, h => by
    rw [List.replicate_succ, endB, endB_false n]
    unfold stepB
    dsimp only
    split <;> dsimp only <;> omega
/-- a row as bits, with room behind -/
theorem row_bits (r : List Int) (hr : Rising r) : ∃ (lo : Int) (bs : List Bool), rowOf lo bs = r ∧ ∀ c : Int, endB c 0 bs = 0 := by
  obtain ⟨lo, n, h⟩ : ∃ (lo : Int) (n : Nat), ∀ x ∈ r, lo ≤ x ∧ x < lo + n := by
    clear hr
    induction r with
    | nil => exact ⟨0, 0, fun x hx => nomatch hx⟩
    | cons y r ih =>
      obtain ⟨lo, n, h⟩ := ih
      refine ⟨min lo y, (max (lo + n) (y + 1) - min lo y).toNat, fun x hx => ?_⟩
      rcases List.mem_cons.mp hx with e | z
      · subst e
        omega
      · have := h x z
        omega
  refine ⟨lo, bitsOf r lo n ++ List.replicate r.length false, ?_, fun c => ?_⟩
  · rw [rowOf_app, rowOf_false, List.append_nil, rowOf_bits n lo r hr h]
  · rw [endB_app, endB_false]
    have := endB_le (c := c) (bitsOf r lo n) lo 0
    rw [rowOf_bits n lo r hr h] at this
    omega
theorem mir_rising {r : List Int} (hr : Rising r) : Rising (mir r) := by
  obtain ⟨lo, bs, e, h⟩ := row_bits r hr
  rw [← e, mir_rowOf]
  exact rowOf_rising _ _
theorem mir_len (r : List Int) : (mir r).length = r.length := by simp [mir]
theorem done_rising {r : List Int} {e : Ent} (hr : Rising r) (hl : r.length ≤ 60) (he : EntOk e) (hb : entBad r e = "") : Rising (entDone r e) ∧ (entDone r e).length ≤ 60 := by
  cases e with
  | walk c n => exact ⟨farR_rising _ _, by show (farR _ _).length ≤ 60; rw [farR_len]; exact hl⟩
  | put p =>
    unfold entBad at hb
    dsimp only at hb
    split at hb
    · exact absurd hb (by decide +kernel)
    · rename_i h1
      split at hb
      · exact absurd hb (by decide +kernel)
      · rename_i h2
        refine ⟨put_rising hr h1, ?_⟩
        show (sortBy ltI (r ++ [p])).length ≤ 60
        rw [(show (sortBy ltI (r ++ [p])).Perm (r ++ [p]) from sortBy_perm _).length_eq, List.length_append, List.length_singleton]
        omega
  | take p => exact ⟨hr.filter _, Nat.le_trans (List.length_filter_le _ _) hl⟩
  | mirror => exact ⟨mir_rising hr, by show (mir r).length ≤ 60; rw [mir_len]; exact hl⟩
  | lay o g =>
    unfold entBad at hb
    dsimp only at hb
    split at hb
    · exact absurd hb (by decide +kernel)
    · rename_i h1
      split at hb
      · exact absurd hb (by decide +kernel)
      · rename_i h2
        split at hb
        · exact absurd hb (by decide +kernel)
        · rename_i h3
          refine ⟨lay_rising hr he.1 (fun z => h1 (.inl z)) (fun z => h1 (.inr z)) (by omega), ?_⟩
          show (layR r o g).length ≤ 60
          unfold layR
          rw [List.length_append, List.length_map]
          omega
theorem add_ok {n : Nat} {r : RoadS} (h : RoadOk n r) {e : Ent} (he : EntOk e) (hb : entBad r.now e = "") : RoadOk (n + 1) (addS e r) := by
  have d := done_rising h.nr h.nl he hb
  refine ⟨h.fr, h.fl, d.1, d.2, fun x hx => ?_, by have := h.el; simp [addS]; omega⟩
  rcases List.mem_append.mp hx with w | w
  · exact h.es x w
  · rw [List.mem_singleton.mp w]; exact he
theorem gone_ok : ∀ (es : List Ent) (k : Nat) (r : List Int), Rising r → r.length ≤ 60 → (∀ e ∈ es, EntOk e) → Rising (goneS k r es).2 ∧ (goneS k r es).2.length ≤ 60
  | [], _, _, h, l, _ => ⟨h, l⟩
  | e :: es, k, r, h, l, ho => by
    unfold goneS
    split
    · rename_i hb
      have d := done_rising h l (ho e List.mem_cons_self) hb
      exact gone_ok es (k + 1) _ d.1 d.2 fun e' he => ho e' (List.mem_cons_of_mem _ he)
    · exact ⟨h, l⟩
theorem anew_road {n : Nat} {r : RoadS} (h : RoadOk n r) {es : List Ent} (he : ∀ e ∈ es, EntOk e) (hl : es.length ≤ n + 1) : RoadOk (n + 1) (anewS es r) := by
  have g := gone_ok es 0 r.first h.fr h.fl he
  exact ⟨h.fr, h.fl, g.1, g.2, he, hl⟩
theorem done_ok {n : Nat} {st : StS} (h : StOk n st) {d : Deed} (hb : (badS st d).1 = "") : StOk (n + 1) (doneS st d) := by
  have hm := stOk_mono h (Nat.le_succ n)
  cases d with
  | build x r =>
    unfold badS at hb
    dsimp only at hb
    split at hb
    · exact absurd hb (by decide +kernel)
    · rename_i c1
      split at hb
      · exact absurd hb (by decide +kernel)
      · rename_i c2
        split at hb
        · exact absurd hb (by decide +kernel)
        · rename_i c3
          have rr := rowWhy_ok hb
          exact stOk_put hm ⟨rr.1, rr.2, rr.1, rr.2, fun e he => (nomatch he), Nat.zero_le _⟩ (.inr ⟨by have z : ¬ 8 ≤ st.length := fun z => c3 ⟨hb, z⟩; omega, by simpa using c1⟩)
  | shut x => exact stOk_del hm x
  | walk x c k =>
    unfold badS at hb
    dsimp only at hb
    unfold onRoad at hb
    show StOk (n + 1) (onS st x _)
    unfold onS
    cases q : rdS st x with
    | none => exact hm
    | some r =>
      rw [q] at hb
      dsimp only at hb
      have hc : 1 ≤ c := by
        split at hb
        · exact absurd hb (by decide +kernel)
        · omega
      exact stOk_put hm (add_ok (stOk_road h q) hc rfl) (.inl (by rw [q]; rfl))
  | put x p =>
    unfold badS at hb
    dsimp only at hb
    unfold onRoad at hb
    show StOk (n + 1) (onS st x _)
    unfold onS
    cases q : rdS st x with
    | none => exact hm
    | some r =>
      rw [q] at hb
      exact stOk_put hm (add_ok (stOk_road h q) trivial hb) (.inl (by rw [q]; rfl))
  | take x p =>
    unfold badS at hb
    dsimp only at hb
    unfold onRoad at hb
    show StOk (n + 1) (onS st x _)
    unfold onS
    cases q : rdS st x with
    | none => exact hm
    | some r =>
      rw [q] at hb
      exact stOk_put hm (add_ok (stOk_road h q) trivial hb) (.inl (by rw [q]; rfl))
  | mirror x =>
    show StOk (n + 1) (onS st x _)
    unfold onS
    cases q : rdS st x with
    | none => exact hm
    | some r => exact stOk_put hm (add_ok (stOk_road h q) trivial rfl) (.inl (by rw [q]; rfl))
  | lay x y g =>
    unfold badS at hb
    dsimp only at hb
    unfold onRoad at hb
    show StOk (n + 1) (onS st x _)
    unfold onS nowS
    cases q : rdS st x with
    | none => exact hm
    | some r =>
      rw [q] at hb
      dsimp only at hb
      cases q2 : rdS st y with
      | none =>
        rw [q2] at hb
        exact absurd (show ("NoRoad" : Str) = "" from hb) (by decide +kernel)
      | some o =>
        rw [q2] at hb
        exact stOk_put hm (add_ok (stOk_road h q) ⟨(stOk_road h q2).nr, (stOk_road h q2).nl⟩ hb) (.inl (by rw [q]; rfl))
  | late x a c k =>
    unfold badS at hb
    dsimp only at hb
    unfold onRoad at hb
    show StOk (n + 1) (onS st x _)
    unfold onS
    cases q : rdS st x with
    | none => exact hm
    | some r =>
      rw [q] at hb
      dsimp only at hb
      have hc : 1 ≤ c := by
        split at hb
        · exact absurd hb (by decide +kernel)
        · split at hb
          · exact absurd hb (by decide +kernel)
          · omega
      refine stOk_put hm (anew_road (stOk_road h q) (late_ents (stOk_road h q) hc) ?_) (.inl (by rw [q]; rfl))
      rw [late_len]
      have := (stOk_road h q).el
      omega
  | strike x a =>
    show StOk (n + 1) (onS st x _)
    unfold onS
    cases q : rdS st x with
    | none => exact hm
    | some r =>
      refine stOk_put hm (anew_road (stOk_road h q) (strike_ents (stOk_road h q)) ?_) (.inl (by rw [q]; rfl))
      have := (stOk_road h q).el
      have := strike_len r.ents a
      omega

theorem nxtH_ok {n : Nat} {h : Hist} (hh : HistOk n h) (d : Deed) : HistOk (n + 1) (nxtH h d) := by
  unfold nxtH
  split
  · rename_i c
    refine ⟨fun p hp => ?_⟩
    rcases List.mem_append.mp hp with w | w
    · exact (HistOk_mono hh (Nat.le_succ n)).all p w
    · rw [List.mem_singleton.mp w]
      exact ⟨done_ok (lastF_ok hh) c, pl_deed (lastF_ok hh) d c⟩
  · exact HistOk_mono hh (Nat.le_succ n)
theorem dnF_deeds : ∀ (h : Hist) (s0 : StS), ∃ bs : List D, dnF s0 h = (h.zip bs).map (fun q => D.tup [deedD q.1.1, q.2]) ∧ bs.length = h.length
  | [], _ => ⟨[], rfl, rfl⟩
  | p :: h, s0 => by
    obtain ⟨bs, e, l⟩ := dnF_deeds h p.2
    exact ⟨.dct (mapS roadO s0) :: bs, by
      show _ :: dnF p.2 h = _
      rw [e]
      rfl, by simp [l]⟩
theorem deeds_gen (b : List (Key × D)) (gn : List D) (l : List (D × D)) : f_House_deeds [houseD b (l.map fun q => D.tup [q.1, q.2]) gn] = .ok (.lst (l.map (·.1))) := by
  have cp : ∀ x y, gComp (gIter (gUn (oAt "House" "done") (gVar 0))) (.tup [1, 2]) [1, 2] gYes (gVar 1) [some (houseD b (l.map fun q => D.tup [q.1, q.2]) gn), x, y] = .ok (.lst (l.map (·.1))) := fun x y => by
    have at_ : oAt "House" "done" (houseD b (l.map fun q => D.tup [q.1, q.2]) gn) = .ok (.lst (l.map fun q => D.tup [q.1, q.2])) := rfl
    refine gComp_map (l := l) (F := fun q => D.tup [q.1, q.2]) (G := (·.1)) (by simp [at_, dIter, -oAt]) fun q _ => by simp [gTurn, setD]
  generalize houseD b (l.map fun q => D.tup [q.1, q.2]) gn = H at *
  simp [f_House_deeds, m_House_deeds, cp]
theorem deedsH (h ah : Hist) : f_House_deeds [houseH h ah] = .ok (.lst (h.map fun p => deedD p.1)) := by
  obtain ⟨bs, e, l⟩ := dnF_deeds h []
  have z := deeds_gen (mapS roadO (lastF [] h)) (ah.map (stD roadO)) ((h.zip bs).map fun q => (deedD q.1.1, q.2))
  rw [List.map_map, List.map_map] at z
  unfold houseH hsD
  rw [e]
  have e2 : ((h.zip bs).map ((fun q : D × D => q.1) ∘ fun q : (Deed × StS) × D => (deedD q.1.1, q.2))) = h.map fun p => deedD p.1 := by
    have z2 : (h.zip bs).map (·.1) = h := List.map_fst_zip (by omega)
    conv => rhs; rw [← z2, List.map_map]
    rfl
  rw [e2] at z
  exact z
theorem meth_hdeeds (f : List D → R D) (b : List (Key × D)) (dn gn : List D) (t : R (List D)) : dMethR "House" "deeds" f (houseD b dn gn) t = t >>= fun ds => f (houseD b dn gn :: ds) := meth_house _ _ _ _ _ _ rfl
theorem pl_lstOf (m : Nat) (xs : List D) (h : ∀ x ∈ xs, pl m x = true) (l : xs.length ≤ szL) : pl (m + 1) (.lst xs) = true := by
  show (xs.all (pl m) && decide (xs.length ≤ szL)) = true
  rw [decide_eq_true l, Bool.and_true]
  exact List.all_eq_true.mpr h
theorem pl_deeds {n : Nat} {h : Hist} (hh : HistOk n h) (hl : h.length ≤ 10000) : pl 7 (.lst (h.map fun p => deedD p.1)) = true := pl_lstOf 6 _ (fun x hx => by
  obtain ⟨p, hp, rfl⟩ := List.mem_map.mp hx
  exact (hh.all p hp).2) (le_szL (by rw [List.length_map]; omega))
theorem HistOk_rev {n : Nat} {h : Hist} (hh : HistOk n h) : HistOk n h.reverse := ⟨fun p hp => hh.all p (List.mem_reverse.mp hp)⟩
theorem exprX_hs {i : Nat} {r : Sl} {h ah : Hist} {f : List D → O} {t : Sl → R (List D)} {ds : List D} {d d' : D} (hr : r[i]? = some (some (houseH h ah))) (ht : t r = .ok ds) (hf : f (houseH h ah :: ds) = .rt d [some d']) : mExprX (mMeth "House" i f t) r = .nx (r.set i (some d')) := by
  unfold mExprX mMeth
  rw [hr]
  unfold houseH hsD houseD at hf ⊢
  dsimp only
  rw [if_pos rfl, ht]
  dsimp only
  rw [hf]
  rfl

theorem house_new : dMake "House" f_House___init__ [] = .ok (hsD [] [] []) := by
  have s0 : (0 : Nat) ≤ szL := le_szL (by decide)
  unfold hsD mapS
  simp [f_House___init__, m_House___init__, houseD, s0]
theorem undone_gen (b : List (Key × D)) (dn : List D) (l : List (D × D)) : f_House_undone [houseD b dn (l.map fun q => D.tup [q.1, q.2])] = .ok (.lst (l.reverse.map (·.1))) := by
  have cp : ∀ x y, gComp (gReversed (gUn (oAt "House" "gone") (gVar 0))) (.tup [1, 2]) [1, 2] gYes (gVar 1) [some (houseD b dn (l.map fun q => D.tup [q.1, q.2])), x, y] = .ok (.lst (l.reverse.map (·.1))) := fun x y => by
    have at_ : oAt "House" "gone" (houseD b dn (l.map fun q => D.tup [q.1, q.2])) = .ok (.lst (l.map fun q => D.tup [q.1, q.2])) := rfl
    refine gComp_map (l := l.reverse) (F := fun q => D.tup [q.1, q.2]) (G := (·.1)) (by simp [gReversed, at_, dRevI, List.map_reverse, -oAt]) fun q _ => by simp [gTurn, setD]
  generalize houseD b dn (l.map fun q => D.tup [q.1, q.2]) = H at *
  simp [f_House_undone, m_House_undone, cp]
theorem undoneH (h ah : Hist) : f_House_undone [houseH h ah] = .ok (.lst (ah.reverse.map fun p => deedD p.1)) := by
  have z := undone_gen (mapS roadO (lastF [] h)) (dnF [] h) (ah.map fun p => (deedD p.1, D.dct (mapS roadO p.2)))
  rw [List.map_map, ← List.map_reverse, List.map_map] at z
  exact z
theorem meth_hundone (f : List D → R D) (b : List (Key × D)) (dn gn : List D) (t : R (List D)) : dMethR "House" "undone" f (houseD b dn gn) t = t >>= fun ds => f (houseD b dn gn :: ds) := meth_house _ _ _ _ _ _ rfl

theorem at_first (f e n : D) : oAt "Road" "first" (roadD f e n) = .ok f := rfl
theorem at_entries (f e n : D) : oAt "Road" "entries" (roadD f e n) = .ok e := rfl
theorem meth_road (m : Str) (f : List D → R D) (a b c : D) (t : R (List D)) (h : List.lookup m [("first", a), ("entries", b), ("now", c)] = none) : dMethR "Road" m f (roadD a b c) t = t >>= fun ds => f (roadD a b c :: ds) := by
  unfold dMethR roadD
  dsimp only
  rw [if_pos rfl, h]
theorem meth_behind_one (f : List D → R D) (a b c : D) (t : R (List D)) : dMethR "Road" "behind_one" f (roadD a b c) t = t >>= fun ds => f (roadD a b c :: ds) := meth_road _ _ _ _ _ _ rfl
theorem meth_anew (f : List D → R D) (a b c : D) (t : R (List D)) : dMethR "Road" "anew" f (roadD a b c) t = t >>= fun ds => f (roadD a b c :: ds) := meth_road _ _ _ _ _ _ rfl
theorem meth_hrow (f : List D → R D) (b : List (Key × D)) (dn gn : List D) (t : R (List D)) : dMethR "House" "row" f (houseD b dn gn) t = t >>= fun ds => f (houseD b dn gn :: ds) := meth_house _ _ _ _ _ _ rfl
theorem meth_hlog (f : List D → R D) (b : List (Key × D)) (dn gn : List D) (t : R (List D)) : dMethR "House" "log" f (houseD b dn gn) t = t >>= fun ds => f (houseD b dn gn :: ds) := meth_house _ _ _ _ _ _ rfl
theorem make_road (f e n : D) : dMake "Road" f_Road___init__ [f, e, n] = .ok (roadD f e n) := rfl
theorem behind_one_ok (f n n' e : D) (es : List D) (hz : es.length + 1 ≤ szL) (h : f_behind_entry [n, e] = .ok n') : f_Road_behind_one [roadD f (.lst es) n, e] = .ok (roadD f (.lst (es ++ [e])) n') := by
  have s1 : (1 : Nat) ≤ szL := le_szL (by decide)
  simp [f_Road_behind_one, m_Road_behind_one, at_first, at_entries, at_now, h, hz, s1, make_road, -oAt, -dMake]
theorem anew_ok (f n n' e : D) (es : List D) (h : f_gone_over [f, .lst es] = .ok n') : f_Road_anew [roadD f e n, .lst es] = .ok (roadD f (.lst es) n') := by
  simp [f_Road_anew, m_Road_anew, at_first, h, make_road, -oAt, -dMake]
theorem hlog_ok (b : List (Key × D)) (dn gn : List D) (x : Str) (f n : D) (r : List D) (h : valD b (.inr x) = some (roadD f (.lst r) n)) : f_House_log [houseD b dn gn, .str x] = .ok (.lst r) := by
  have a := hroad_ok b dn gn x _ h
  simp [f_House_log, m_House_log, meth_hroad, a, at_entries, -oAt]
theorem become_ok (b : List (Key × D)) (dn gn : List D) (deed : D) (x : Str) (f e n : D) (hd : dn.length < szL) (hb : b.length < szL) : f_House_become [houseD b dn gn, deed, .str x, roadD f e n] = .rt .non [some (houseD (putD b (.inr x) (roadD f e n)) (dn ++ [.tup [deed, .dct b]]) [])] := by
  have k : keyOf (.str x) = some (.inr x) := rfl
  have s0 : (0 : Nat) ≤ szL := le_szL (by decide)
  have s2 : (2 : Nat) ≤ szL := le_szL (by decide)
  simp [f_House_become, m_House_become, houseD, roadD, k, hd, hb, s0, s2, outM, allS, noX_of]

theorem blsOf_map {α : Type} (g : α → Bool) : ∀ l : List α, blsOf (l.map fun x => D.bl (g x)) = some (l.map g)
  | [] => rfl
  | x :: l => by
    rw [List.map_cons, blsOf, blsOf_map g l]
    rfl
theorem is_name_ok (x : Str) (hx : x.length ≤ 1000) : f_is_name [.str x] = .ok (.bl (nameOk x)) := by
  have hz : x.length ≤ szL := le_szL (by omega)
  have cp : ∀ a, gComp (gIter (gVar 0)) (.one 1) [1] gYes (gBin dIn (gVar 1) (gC (.str "abcdefghijklmnopqrstuvwxyz"))) [some (.str x), a] = .ok (.lst (x.cps.toList.map fun c => D.bl (decide (c ∈ letters.cps.toList)))) := fun a => by
    refine gComp_map (l := x.cps.toList) (F := fun c => D.str ⟨#[c]⟩) (G := fun c => D.bl (decide (c ∈ letters.cps.toList))) ?_ fun c _ => ?_
    · have hz' : x.cps.size ≤ szL := hz
      simp [dIter, hz']
    · simp [gTurn, dIn, letters]
  have fa : fAll [.lst (x.cps.toList.map fun c => D.bl (decide (c ∈ letters.cps.toList)))] = .ok (.bl (x.cps.toList.all fun c => decide (c ∈ letters.cps.toList))) := by
    unfold fAll
    dsimp only
    rw [blsOf_map]
    dsimp only
    rw [List.all_map]
    rfl
  by_cases c1 : (1 : Int) ≤ x.length
  · by_cases c2 : (x.length : Int) ≤ 8
    · have e : nameOk x = x.cps.toList.all fun c => decide (c ∈ letters.cps.toList) := by
        unfold nameOk
        rw [decide_eq_true (show 1 ≤ x.length ∧ x.length ≤ 8 by omega), Bool.true_and]
      rw [e]
      generalize (x.cps.toList.map fun c => D.bl (decide (c ∈ letters.cps.toList))) = L at cp fa
      generalize (x.cps.toList.all fun c => decide (c ∈ letters.cps.toList)) = V at fa ⊢
      simp [f_is_name, m_is_name, hz, c1, c2, cp, fa, -fAll]
    · have e : nameOk x = false := by
        unfold nameOk
        rw [decide_eq_false (show ¬ (1 ≤ x.length ∧ x.length ≤ 8) by omega), Bool.false_and]
      rw [e]
      simp [f_is_name, m_is_name, hz, c1, c2]
  · have e : nameOk x = false := by
      unfold nameOk
      rw [decide_eq_false (show ¬ (1 ≤ x.length ∧ x.length ≤ 8) by omega), Bool.false_and]
    rw [e]
    simp [f_is_name, m_is_name, hz, c1]
def entW (c n : Int) : D := .tup [.str "walk", .int c, .int n]
theorem mMeth_h (b : List (Key × D)) (dn gn : List D) (f : List D → O) (t : Sl → R (List D)) (rest : Sl) : mMeth "House" 0 f t (some (houseD b dn gn) :: rest) = (match t (some (houseD b dn gn) :: rest) with
    | .ok ds => (match f (houseD b dn gn :: ds) with
      | .rt d [some d'] => .rt d (some d' :: rest)
      | .exc x [some d'] => .exc x (some d' :: rest)
      | _ => .stuck)
    | .exc x => .exc x (some (houseD b dn gn) :: rest)
    | .stuck => .stuck) := rfl
theorem gFld_by (b : List (Key × D)) (dn gn : List D) (rest : Sl) : gFld "House" 0 0 (some (houseD b dn gn) :: rest) = .ok (.dct b) := rfl
theorem build_ok (b : List (Key × D)) (dn gn : List D) (x : Str) (hn : nameOk x = true) (hl : x.length ≤ 1000) (r : List Int) (hr : Rising r) (hr60 : r.length ≤ 60) (hx : valD b (.inr x) = none) (hd : dn.length < szL) (hb : b.length < 8) :
    f_House_build [houseD b dn gn, .str x, .lst (r.map D.int)] = .rt .non [some (houseD (putD b (.inr x) (roadD (.lst (r.map D.int)) (.lst []) (.lst (r.map D.int)))) (dn ++ [.tup [.tup [.str "build", .str x, .tup (r.map D.int)], .dct b]]) [])] := by
  have a1 := is_name_ok x hl
  rw [hn] at a1
  have a2 := look_row_ok r hr hr60
  have k : keyOf (.str x) = some (.inr x) := rfl
  have a4 := become_ok b dn gn (.tup [.str "build", .str x, .tup (r.map D.int)]) x (.lst (r.map D.int)) (.lst []) (.lst (r.map D.int)) hd (lt_szL (by omega))
  have s0 : (0 : Nat) ≤ szL := le_szL (by decide)
  have s3 : (3 : Nat) ≤ szL := le_szL (by decide)
  have fl : fLenD [.dct b] = .ok (.int (b.length : Nat)) := rfl
  have nb : ¬ (8 : Int) ≤ b.length := by omega
  generalize r.map D.int = rr at *
  simp [f_House_build, m_House_build, gFld_by, k, hx, a1, a2, a4, s0, s3, fl, nb, make_road, mMeth_h, outM, allS, -mMeth, -oAt, -gFld, -fLenD, -dMake]
theorem eq_str (C E : Str) (h1 : (PyData.str C).canLay0 = true := by decide +kernel) (h2 : (PyData.str E).canLay0 = true := by decide +kernel) : dEq (.str C) (.str E) = .ok (.bl (C == E)) := by
  have a : shp (.str C) = true := by
    unfold shp SeqAt.shaped
    show ((PyData.str C).canLay0 && _) = true
    rw [h1]
    rfl
  have b : shp (.str E) = true := by
    unfold shp SeqAt.shaped
    show ((PyData.str E).canLay0 && _) = true
    rw [h2]
    rfl
  unfold dEq
  rw [a, b]
  rfl

theorem behind_walk (r : List Int) (hr : Rising r) (hl : r.length ≤ 60) (c k : Int) (hc : 1 ≤ c) : f_behind_entry [.lst (r.map D.int), entW c k] = .ok (.lst ((farR r [(c, k)]).map D.int)) := by
  have a := far_ok r [(c, k)] hr hl (fun w hw => by rw [List.mem_singleton.mp hw]; exact hc)
  have e : [(c, k)].map twoD = [.tup [.int c, .int k]] := rfl
  rw [e] at a
  have i0 : dIdx (entW c k) (.int 0) = .ok (.str "walk") := rfl
  have i1 : dIdx (entW c k) (.int 1) = .ok (.int c) := rfl
  have i2 : dIdx (entW c k) (.int 2) = .ok (.int k) := rfl
  have q : dEq (.str "walk") (.str "walk") = .ok (.bl true) := by rw [eq_str "walk" "walk"]; simp
  have s1 : (1 : Nat) ≤ szL := le_szL (by decide)
  have s2 : (2 : Nat) ≤ szL := le_szL (by decide)
  generalize r.map D.int = rr at *
  generalize entW c k = en at *
  simp [f_behind_entry, m_behind_entry, i0, i1, i2, q, s1, s2, a, -dIdx]
def excN (C : Str) : Exc := ⟨C, none⟩
theorem bad_lay (r o : List Int) (g : Int) : entBad r (.lay o g) = if r = [] ∨ o = [] then ("Bare" : Str) else if 60 < r.length + o.length then ("TooMany" : Str) else if g < (o.length : Int) then ("TooNear" : Str) else ("" : Str) := rfl
theorem bad_put (r : List Int) (p : Int) : entBad r (.put p) = if p ∈ r then ("Laid" : Str) else if 59 < r.length then ("TooMany" : Str) else ("" : Str) := rfl
theorem bad_take (r : List Int) (p : Int) : entBad r (.take p) = if p ∈ r then ("" : Str) else ("NoStone" : Str) := rfl
theorem laid_ok (r o : List Int) (g : Int) (hr : Rising r) (hl : r.length ≤ 60) (ho : Rising o) (hlo : o.length ≤ 60) : f_laid_behind [.lst (r.map D.int), .lst (o.map D.int), .int g] = if entBad r (.lay o g) = "" then .ok (.lst ((layR r o g).map D.int)) else .exc (excN (entBad r (.lay o g))) := by
  have e1 := eq_nil_ints r (by omega)
  have e2 := eq_nil_ints o (by omega)
  have eb := bad_lay r o g
  unfold excN
  by_cases c1 : r = []
  · rw [if_pos (.inl c1)] at eb
    rw [eb, if_neg (by decide +kernel)]
    rw [decide_eq_true c1] at e1
    generalize r.map D.int = rr at *
    generalize o.map D.int = oo at *
    simp [f_laid_behind, m_laid_behind, e1]
  · rw [decide_eq_false c1] at e1
    by_cases c2 : o = []
    · rw [if_pos (.inr c2)] at eb
      rw [eb, if_neg (by decide +kernel)]
      rw [decide_eq_true c2] at e2
      generalize r.map D.int = rr at *
      generalize o.map D.int = oo at *
      simp [f_laid_behind, m_laid_behind, e1, e2]
    · rw [decide_eq_false c2] at e2
      rw [if_neg (show ¬ (r = [] ∨ o = []) by simp [c1, c2])] at eb
      have n1 : ((r.map D.int).length : Int) = (r.length : Int) := by rw [List.length_map]
      have n2 : ((o.map D.int).length : Int) = (o.length : Int) := by rw [List.length_map]
      by_cases c3 : 60 < r.length + o.length
      · have c3' : (60 : Int) < (r.length : Int) + (o.length : Int) := by omega
        rw [if_pos c3] at eb
        rw [eb, if_neg (by decide +kernel)]
        generalize r.map D.int = rr at *
        generalize o.map D.int = oo at *
        simp [f_laid_behind, m_laid_behind, e1, e2, n1, n2, c3']
      · have c3' : ¬ (60 : Int) < (r.length : Int) + (o.length : Int) := by omega
        rw [if_neg c3] at eb
        by_cases c4 : g < (o.length : Int)
        · rw [if_pos c4] at eb
          rw [eb, if_neg (by decide +kernel)]
          generalize r.map D.int = rr at *
          generalize o.map D.int = oo at *
          simp [f_laid_behind, m_laid_behind, e1, e2, n1, n2, c3', c4]
        · rw [if_neg c4] at eb
          rw [if_pos eb]
          clear eb
          have l1 := last_getD r c1
          have l2 := head_getD o c2
          have cp : ∀ x y : Option D, gComp (gIter (gVar 1)) (.one 4) [4] gYes (gBin dAdd (gVar 4) (gVar 3)) [some (.lst (r.map D.int)), some (.lst (o.map D.int)), x, some (.int (r.getLastD 0 + g + 1 - o.headD 0)), y] = .ok (.lst ((o.map (· + (r.getLastD 0 + g + 1 - o.headD 0))).map D.int)) := fun x y => by
            have z := gComp_map (gi := gIter (gVar 1)) (t := .one 4) (vs := [4]) (tt := gYes) (ge := gBin dAdd (gVar 4) (gVar 3)) (r := [some (.lst (r.map D.int)), some (.lst (o.map D.int)), x, some (.int (r.getLastD 0 + g + 1 - o.headD 0)), y]) (l := o) (F := D.int) (G := fun v => D.int (v + (r.getLastD 0 + g + 1 - o.headD 0))) rfl fun v _ => by simp [gTurn]
            rw [z, List.map_map]
            rfl
          have lz : (r.map D.int).length + ((o.map (· + (r.getLastD 0 + g + 1 - o.headD 0))).map D.int).length ≤ szL := le_szL (by simp; omega)
          unfold layR
          rw [List.map_append]
          generalize (o.map (· + (r.getLastD 0 + g + 1 - o.headD 0))).map D.int = om at *
          generalize r.getLastD 0 = x1 at *
          generalize o.headD 0 = x2 at *
          generalize r.map D.int = rr at *
          generalize o.map D.int = oo at *
          simp [f_laid_behind, m_laid_behind, e1, e2, n1, n2, c3', c4, l1, l2, cp, lz, -dIdx]
theorem q_pw : dEq (.str "put") (.str "walk") = .ok (.bl false) := by rw [eq_str "put" "walk"]; exact congrArg _ (congrArg _ (by decide +kernel))
theorem q_pp : dEq (.str "put") (.str "put") = .ok (.bl true) := by rw [eq_str "put" "put"]; simp
theorem q_tw : dEq (.str "take") (.str "walk") = .ok (.bl false) := by rw [eq_str "take" "walk"]; exact congrArg _ (congrArg _ (by decide +kernel))
theorem q_tp : dEq (.str "take") (.str "put") = .ok (.bl false) := by rw [eq_str "take" "put"]; exact congrArg _ (congrArg _ (by decide +kernel))
theorem q_tt : dEq (.str "take") (.str "take") = .ok (.bl true) := by rw [eq_str "take" "take"]; simp
theorem q_mw : dEq (.str "mirror") (.str "walk") = .ok (.bl false) := by rw [eq_str "mirror" "walk"]; exact congrArg _ (congrArg _ (by decide +kernel))
theorem q_mp : dEq (.str "mirror") (.str "put") = .ok (.bl false) := by rw [eq_str "mirror" "put"]; exact congrArg _ (congrArg _ (by decide +kernel))
theorem q_mt : dEq (.str "mirror") (.str "take") = .ok (.bl false) := by rw [eq_str "mirror" "take"]; exact congrArg _ (congrArg _ (by decide +kernel))
theorem q_mm : dEq (.str "mirror") (.str "mirror") = .ok (.bl true) := by rw [eq_str "mirror" "mirror"]; simp
theorem q_lw : dEq (.str "lay") (.str "walk") = .ok (.bl false) := by rw [eq_str "lay" "walk"]; exact congrArg _ (congrArg _ (by decide +kernel))
theorem q_lp : dEq (.str "lay") (.str "put") = .ok (.bl false) := by rw [eq_str "lay" "put"]; exact congrArg _ (congrArg _ (by decide +kernel))
theorem q_lt : dEq (.str "lay") (.str "take") = .ok (.bl false) := by rw [eq_str "lay" "take"]; exact congrArg _ (congrArg _ (by decide +kernel))
theorem q_lm : dEq (.str "lay") (.str "mirror") = .ok (.bl false) := by rw [eq_str "lay" "mirror"]; exact congrArg _ (congrArg _ (by decide +kernel))
theorem any_int (r : List Int) (v : Int) : ((r.map D.int).any fun z => dEqB z (.int v)) = decide (v ∈ r) := by
  rw [List.any_map]
  rw [Bool.eq_iff_iff, List.any_eq_true]
  constructor
  · rintro ⟨x, hx, e⟩
    have e' : (x == v) = true := e
    have : x = v := by simpa using e'
    subst this
    simpa using hx
  · intro h
    have h' : v ∈ r := by simpa using h
    exact ⟨v, h', by show (v == v) = true; simp⟩
theorem nin_ints (r : List Int) (v : Int) (hl : r.length ≤ 1000) : dNotIn (.int v) (.lst (r.map D.int)) = .ok (.bl (!decide (v ∈ r))) := by
  dsimp only [dNotIn]
  have h1 : shp (.int v) = true := rfl
  have h2 : shp (.lst (r.map D.int)) = true := pl_shp (n := 2) (by decide) (pl_ints (n := 0) (le_szL (by omega)))
  rw [h1, h2, any_int]
  rfl
theorem ne_intH (a b : Int) : dNe (.int a) (.int b) = .ok (.bl (decide (a ≠ b))) := by
  have h1 : shp (.int a) = true := rfl
  have h2 : shp (.int b) = true := rfl
  have h3 : dEqB (.int a) (.int b) = (a == b) := rfl
  unfold dNe
  rw [h1, h2, h3]
  by_cases c : a = b <;> simp [c]
theorem in_ints (r : List Int) (v : Int) (hl : r.length ≤ 1000) : dIn (.int v) (.lst (r.map D.int)) = .ok (.bl (decide (v ∈ r))) := by
  dsimp only [dIn]
  have h1 : shp (.int v) = true := rfl
  have h2 : shp (.lst (r.map D.int)) = true := pl_shp (n := 2) (by decide) (pl_ints (n := 0) (le_szL (by omega)))
  rw [h1, h2, any_int]
  rfl

theorem sorted_ints (ss : List Int) : fSorted [.lst (ss.map D.int)] = .ok (.lst ((sortBy ltI ss).map D.int)) := by
  simp only [fSorted, intsOf_map]

theorem put_prog (r : List Int) (p : Int) (hl : r.length ≤ 60) : f_put_in [.lst (r.map D.int), .int p] = if entBad r (.put p) = "" then .ok (.lst ((entDone r (.put p)).map D.int)) else .exc (excN (entBad r (.put p))) := by
  have ii := in_ints r p (by omega)
  have so := sorted_ints (r ++ [p])
  rw [List.map_append, List.map_singleton] at so
  have lz : r.length + 1 ≤ szL := le_szL (by omega)
  have n1 : ((r.map D.int).length : Int) = (r.length : Int) := by rw [List.length_map]
  have fl : fLen [.lst (r.map D.int)] = .ok (.int (r.length : Nat)) := by simp [fLen]
  have A : dAdd (.lst (r.map D.int)) (.lst [.int p]) = .ok (.lst (r.map D.int ++ [.int p])) := by
    show (if (r.map D.int).length + 1 ≤ szL then _ else _) = _
    rw [if_pos (by rw [List.length_map]; exact lz)]
  have s1 : (1 : Nat) ≤ szL := le_szL (by decide)
  have eb := bad_put r p
  show _ = if _ then R.ok (D.lst ((sortBy ltI (r ++ [p])).map D.int)) else _
  unfold excN
  by_cases c1 : p ∈ r
  · rw [if_pos c1] at eb
    rw [eb, if_neg (by decide +kernel)]
    rw [decide_eq_true c1] at ii
    generalize r.map D.int = rr at *
    simp [f_put_in, m_put_in, ii]
  · rw [if_neg c1] at eb
    rw [decide_eq_false c1] at ii
    by_cases c2 : 59 < r.length
    · rw [if_pos c2] at eb
      rw [eb, if_neg (by decide +kernel)]
      have c2' : (60 : Int) ≤ r.length := by omega
      generalize r.map D.int = rr at *
      simp [f_put_in, m_put_in, ii, fl, c2', -fLen]
    · rw [if_neg c2] at eb
      rw [if_pos eb]
      have c2' : ¬ (60 : Int) ≤ r.length := by omega
      generalize r.map D.int = rr at *
      simp [f_put_in, m_put_in, ii, fl, c2', so, s1, A, -dAdd, -fLen]
theorem take_prog (r : List Int) (p : Int) (hl : r.length ≤ 60) : f_taken_out [.lst (r.map D.int), .int p] = if entBad r (.take p) = "" then .ok (.lst ((entDone r (.take p)).map D.int)) else .exc (excN (entBad r (.take p))) := by
  have ii := in_ints r p (by omega)
  have no : dNotIn (.int p) (.lst (r.map D.int)) = .ok (.bl (!decide (p ∈ r))) := nin_ints r p (by omega)
  have cp : ∀ x : Option D, gComp (gIter (gVar 0)) (.one 2) [2] (gTest (gBin dNe (gVar 2) (gVar 1))) (gVar 2) [some (.lst (r.map D.int)), some (.int p), x] = .ok (.lst ((r.filter fun x => decide (x ≠ p)).map D.int)) := fun x => by
    refine gComp_filter (l := r) (F := D.int) (G := D.int) (p := fun x => decide (x ≠ p)) rfl fun v _ => ?_
    simp [gTurn, ne_intH]
    by_cases c : v = p <;> simp [c]
  have eb := bad_take r p
  show _ = if _ then R.ok (D.lst ((r.filter fun x => decide (x ≠ p)).map D.int)) else _
  unfold excN
  by_cases c1 : p ∈ r
  · rw [if_pos c1] at eb
    rw [if_pos eb]
    rw [decide_eq_true c1] at no
    generalize (r.filter fun x => decide (x ≠ p)).map D.int = fr at *
    generalize r.map D.int = rr at *
    simp [f_taken_out, m_taken_out, no, cp]
  · rw [if_neg c1] at eb
    rw [eb, if_neg (by decide +kernel)]
    rw [decide_eq_false c1] at no
    generalize r.map D.int = rr at *
    simp [f_taken_out, m_taken_out, no]

theorem mapS_any (F : RoadS → D) (st : StS) (x : Str) : ((mapS F st).any fun kv => decide (kv.1 = .inr x)) = st.any fun p => decide (p.1 = x) := by
  unfold mapS
  rw [List.any_map]
  congr 1
  funext p
  simp
theorem mapS_put (F : RoadS → D) (st : StS) (x : Str) (r : RoadS) : putD (mapS F st) (.inr x) (F r) = mapS F (putS st x r) := by
  unfold putD putS
  rw [mapS_any]
  split
  · unfold mapS
    rw [List.map_map, List.map_map]
    refine List.map_congr_left fun p _ => ?_
    show (if (Sum.inr p.1 : Key) = .inr x then _ else _) = _
    by_cases c : p.1 = x
    · simp [c]
    · simp [c]
  · unfold mapS
    rw [List.map_append]
    rfl
theorem mapS_del (F : RoadS → D) (st : StS) (x : Str) : delD (mapS F st) (.inr x) = mapS F (delS st x) := by
  unfold delD delS mapS
  rw [List.filter_map]
  congr 1
  refine List.filter_congr fun p _ => ?_
  simp
theorem mapS_len (F : RoadS → D) (st : StS) : (mapS F st).length = st.length := by unfold mapS; rw [List.length_map]
theorem mapS_keys (F : RoadS → D) (st : StS) : ((mapS F st).map fun p => keyD p.1) = st.map fun p => D.str p.1 := by
  unfold mapS
  rw [List.map_map]
  rfl
def excS (w : Str × Int) : Exc := ⟨w.1, if w.1 = "BadRow" ∨ w.1 = "Clash" then some (.int w.2) else none⟩
theorem turn_comp (i j : Nat) (r : Sl) (l : List Int) (h : r[i]? = some (some (.lst (l.map D.int)))) (hj : j < r.length) (hij : i ≠ j) : gComp (gReversed (gVar i)) (.one j) [j] gYes (gUn dNeg (gVar j)) r = .ok (.lst ((mir l).map D.int)) := by
  have g := gComp_map (gi := gReversed (gVar i)) (t := .one j) (vs := [j]) (tt := gYes) (ge := gUn dNeg (gVar j)) (r := r) (l := l.reverse) (F := D.int) (G := fun x => D.int (-x)) (by
    simp [h, gReversed]
    rfl) fun x _ => by simp [gTurn, hj]
  rw [g]
  unfold mir
  rw [← List.map_reverse, List.map_map]
  rfl
theorem mirrored_ok (r : List Int) (hr : Rising r) (hl : r.length ≤ 60) : f_mirrored [.lst (r.map D.int)] = .ok (.lst ((mir r).map D.int)) := by
  have l1 := look_row_ok r hr hl
  have t1 := turn_comp 0 1 [some (.lst (r.map D.int)), none] r rfl (by simp) (by decide)
  generalize (mir r).map D.int = r1 at *
  generalize r.map D.int = rr at *
  simp [f_mirrored, m_mirrored, l1, t1]

theorem behind_prog (r : List Int) (hr : Rising r) (hl : r.length ≤ 60) (e : Ent) (he : EntOk e) : f_behind_entry [.lst (r.map D.int), entD e] = if entBad r e = "" then .ok (.lst ((entDone r e).map D.int)) else .exc (excN (entBad r e)) := by
  cases e with
  | walk c n =>
    rw [if_pos (show entBad r (.walk c n) = "" from rfl)]
    exact behind_walk r hr hl c n he
  | put p =>
    have z := put_prog r p hl
    have i0 : dIdx (entD (.put p)) (.int 0) = .ok (.str "put") := rfl
    have i1 : dIdx (entD (.put p)) (.int 1) = .ok (.int p) := rfl
    generalize entDone r (.put p) = q at *
    generalize r.map D.int = rr at *
    by_cases c : entBad r (.put p) = ""
    · rw [if_pos c] at z ⊢
      generalize entD (.put p) = en at *
      simp [f_behind_entry, m_behind_entry, i0, i1, q_pw, q_pp, z, -dIdx]
    · rw [if_neg c] at z ⊢
      generalize entD (.put p) = en at *
      simp [f_behind_entry, m_behind_entry, i0, i1, q_pw, q_pp, z, -dIdx]
  | take p =>
    have z := take_prog r p hl
    have i0 : dIdx (entD (.take p)) (.int 0) = .ok (.str "take") := rfl
    have i1 : dIdx (entD (.take p)) (.int 1) = .ok (.int p) := rfl
    generalize entDone r (.take p) = q at *
    generalize r.map D.int = rr at *
    by_cases c : entBad r (.take p) = ""
    · rw [if_pos c] at z ⊢
      generalize entD (.take p) = en at *
      simp [f_behind_entry, m_behind_entry, i0, i1, q_tw, q_tp, q_tt, z, -dIdx]
    · rw [if_neg c] at z ⊢
      generalize entD (.take p) = en at *
      simp [f_behind_entry, m_behind_entry, i0, i1, q_tw, q_tp, q_tt, z, -dIdx]
  | mirror =>
    have z := mirrored_ok r hr hl
    have i0 : dIdx (entD .mirror) (.int 0) = .ok (.str "mirror") := rfl
    rw [if_pos (show entBad r .mirror = "" from rfl)]
    show _ = R.ok (D.lst ((mir r).map D.int))
    generalize (mir r).map D.int = q at *
    generalize r.map D.int = rr at *
    generalize entD .mirror = en at *
    simp [f_behind_entry, m_behind_entry, i0, q_mw, q_mp, q_mt, q_mm, z, -dIdx]
  | lay o g =>
    have z := laid_ok r o g hr hl he.1 he.2
    have i0 : dIdx (entD (.lay o g)) (.int 0) = .ok (.str "lay") := rfl
    have i1 : dIdx (entD (.lay o g)) (.int 1) = .ok (.tup (o.map D.int)) := rfl
    have i2 : dIdx (entD (.lay o g)) (.int 2) = .ok (.int g) := rfl
    have lo : (o.map D.int).length ≤ szL := le_szL (by have := he.2; rw [List.length_map]; omega)
    have fl : fList [.tup (o.map D.int)] = .ok (.lst (o.map D.int)) := by simp [fList, lo]
    show _ = if _ then R.ok (D.lst ((layR r o g).map D.int)) else _
    generalize (layR r o g).map D.int = q at *
    generalize r.map D.int = rr at *
    generalize o.map D.int = oo at *
    by_cases c : entBad r (.lay o g) = ""
    · rw [if_pos c] at z ⊢
      generalize entD (.lay o g) = en at *
      simp [f_behind_entry, m_behind_entry, i0, i1, i2, q_lw, q_lp, q_lt, q_lm, fl, z, -dIdx, -fList]
    · rw [if_neg c] at z ⊢
      generalize entD (.lay o g) = en at *
      simp [f_behind_entry, m_behind_entry, i0, i1, i2, q_lw, q_lp, q_lt, q_lm, fl, z, -dIdx, -fList]
theorem ent_str (r : List Int) (e : Ent) : entBad r e ∈ (["", "Laid", "TooMany", "NoStone", "Bare", "TooNear"] : List Str) := by
  cases e <;> unfold entBad <;> (repeat' split) <;> decide +kernel
theorem sub_ent (r : List Int) (e : Ent) : subX (entBad r e) "CreelError" = true := by unfold subX; simp
theorem gone_prog (es : List Ent) (hz : es.length ≤ 1000) (h : ∀ e ∈ es, EntOk e) : ∀ (rest : List Ent) (k : Nat) (r : List Int) (x : Option D), Rising r → r.length ≤ 60 → es.drop k = rest →
    (∃ y, (goneS k r rest).1 = none ∧ forL (.one 2) b_gone_over_1 ((List.range' k rest.length).map fun (i : Nat) => D.int i) [some (.lst (r.map D.int)), some (.lst (es.map entD)), x] = .nx [some (.lst ((goneS k r rest).2.map D.int)), some (.lst (es.map entD)), y]) ∨
    (∃ m S, (goneS k r rest).1 = some m ∧ forL (.one 2) b_gone_over_1 ((List.range' k rest.length).map fun (i : Nat) => D.int i) [some (.lst (r.map D.int)), some (.lst (es.map entD)), x] = .exc ⟨"Clash", some (.int (m : Nat))⟩ S)
  | [], k, r, x, _, _, _ => .inl ⟨x, rfl, rfl⟩
  | e :: rest, k, r, x, hr, hl, hd => by
    have hk : es[k]? = some e := by
      have z := congrArg List.head? hd
      rw [List.head?_drop] at z
      exact z
    have he := h e (List.mem_of_getElem? hk)
    have bp := behind_prog r hr hl e he
    have i1 : dIdx (.lst (es.map entD)) (.int (k : Nat)) = .ok (entD e) := dIdx_list (by rw [List.getElem?_map, hk]; rfl)
    have hd2 : es.drop (k + 1) = rest := by
      rw [← List.drop_drop, hd]
      rfl
    rw [List.length_cons, List.range'_succ, List.map_cons]
    unfold goneS
    by_cases c : entBad r e = ""
    · rw [if_pos c] at bp ⊢
      have d := done_rising hr hl he c
      have b1 : b_gone_over_1 [some (.lst (r.map D.int)), some (.lst (es.map entD)), some (.int (k : Nat))] = .nx [some (.lst ((entDone r e).map D.int)), some (.lst (es.map entD)), some (.int (k : Nat))] := by
        generalize (entDone r e).map D.int = r2 at *
        generalize r.map D.int = rr at *
        generalize es.map entD = ee at *
        simp [b_gone_over_1, i1, bp, -dIdx]
      rw [forL_step (xs := [.int (k : Nat)]) rfl b1]
      exact gone_prog es hz h rest (k + 1) (entDone r e) (some (.int (k : Nat))) d.1 d.2 hd2
    · rw [if_neg c] at bp ⊢
      refine .inr ⟨k, [some (.lst (r.map D.int)), some (.lst (es.map entD)), some (.int (k : Nat))], rfl, ?_⟩
      have b1 : b_gone_over_1 [some (.lst (r.map D.int)), some (.lst (es.map entD)), some (.int (k : Nat))] = .exc ⟨"Clash", some (.int (k : Nat))⟩ [some (.lst (r.map D.int)), some (.lst (es.map entD)), some (.int (k : Nat))] := by
        have s := sub_ent r e
        unfold excN at bp
        generalize entBad r e = C at *
        generalize r.map D.int = rr at *
        generalize es.map entD = ee at *
        simp [b_gone_over_1, i1, bp, s, -dIdx]
      show (match b_gone_over_1 [some (.lst (r.map D.int)), some (.lst (es.map entD)), some (.int (k : Nat))] with
        | .nx r' => forL (.one 2) b_gone_over_1 _ r'
        | o => o) = _
      rw [b1]
theorem gone_over_ok (es : List Ent) (hz : es.length ≤ 1000) (h : ∀ e ∈ es, EntOk e) (r : List Int) (hr : Rising r) (hl : r.length ≤ 60) : f_gone_over [.lst (r.map D.int), .lst (es.map entD)] = match (goneS 0 r es).1 with
    | none => .ok (.lst ((goneS 0 r es).2.map D.int))
    | some k => .exc ⟨"Clash", some (.int (k : Nat))⟩ := by
  have rg := dRange1_nat (n := es.length) (by omega)
  rw [range_split] at rg
  have fl : fLen [.lst (es.map entD)] = .ok (.int (es.length : Nat)) := by simp [fLen]
  rcases gone_prog es hz h es 0 r none hr hl rfl with ⟨y, e1, e2⟩ | ⟨m, S, e1, e2⟩
  · rw [e1]
    generalize (List.range' 0 es.length).map (fun (i : Nat) => D.int i) = rr at *
    generalize (goneS 0 r es).2.map D.int = r2 at *
    generalize r.map D.int = r1 at *
    generalize es.map entD = ee at *
    simp [f_gone_over, m_gone_over, fl, rg, e2, -fLen]
  · rw [e1]
    generalize (List.range' 0 es.length).map (fun (i : Nat) => D.int i) = rr at *
    generalize r.map D.int = r1 at *
    generalize es.map entD = ee at *
    simp [f_gone_over, m_gone_over, fl, rg, e2, -fLen]
def outS (st : StS) (d : Deed) (dn gn : List D) : O := if (badS st d).1 = "" then .rt .non [some (hsD (doneS st d) (dn ++ [.tup [deedD d, .dct (mapS roadO st)]]) [])] else .exc (excS (badS st d)) [some (hsD st dn gn)]
theorem outS_ok {st : StS} {d : Deed} {dn gn : List D} (h : badS st d = (("" : Str), 0)) : outS st d dn gn = .rt .non [some (hsD (doneS st d) (dn ++ [.tup [deedD d, .dct (mapS roadO st)]]) [])] := by
  unfold outS
  rw [if_pos (by rw [h])]
theorem outS_no {st : StS} {d : Deed} {dn gn : List D} {w : Str × Int} (h : badS st d = w) (hw : w.1 ≠ "") : outS st d dn gn = .exc (excS w) [some (hsD st dn gn)] := by
  unfold outS
  rw [h, if_neg hw]
theorem excS_n {C : Str} {i : Int} (h1 : C ≠ "BadRow" := by decide +kernel) (h2 : C ≠ "Clash" := by decide +kernel) : excS (C, i) = excN C := by
  unfold excS excN
  rw [if_neg (by simp [h1, h2])]
theorem excS_ent (r : List Int) (e : Ent) : excS (entBad r e, 0) = excN (entBad r e) := by
  have h := ent_str r e
  generalize entBad r e = C at *
  have h1 : C ≠ "BadRow" := fun z => by subst z; exact absurd h (by decide +kernel)
  have h2 : C ≠ "Clash" := fun z => by subst z; exact absurd h (by decide +kernel)
  exact excS_n h1 h2
theorem road_rd (st : StS) (dn gn : List D) (x : Str) : f_House_road [hsD st dn gn, .str x] = match rdS st x with
    | none => .exc (excN "NoRoad")
    | some r => .ok (roadO r) := by
  have k : keyOf (.str x) = some (.inr x) := rfl
  have v := mapS_val roadO st x
  unfold hsD excN
  cases q : rdS st x with
  | none =>
    rw [q] at v
    have v' : valD (mapS roadO st) (.inr x) = none := v
    simp [f_House_road, m_House_road, at_byname, k, v', -oAt]
  | some r =>
    rw [q] at v
    exact hroad_ok _ dn gn x _ v
theorem road_some {st : StS} {dn gn : List D} {x : Str} {r : RoadS} (h : rdS st x = some r) : f_House_road [houseD (mapS roadO st) dn gn, .str x] = .ok (roadO r) := by
  have z := road_rd st dn gn x
  rw [h] at z
  exact z
theorem road_none {st : StS} {dn gn : List D} {x : Str} (h : rdS st x = none) : f_House_road [houseD (mapS roadO st) dn gn, .str x] = .exc (excN "NoRoad") := by
  have z := road_rd st dn gn x
  rw [h] at z
  exact z
theorem ent_app (es : List Ent) (e : Ent) : es.map entD ++ [entD e] = (es ++ [e]).map entD := by simp
theorem bone_ok {n : Nat} {r : RoadS} (h : RoadOk n r) (hn : n < 10000) (e : Ent) (he : EntOk e) (hb : entBad r.now e = "") : f_Road_behind_one [roadO r, entD e] = .ok (roadO (addS e r)) := by
  have b := behind_prog r.now h.nr h.nl e he
  rw [if_pos hb] at b
  have z := behind_one_ok (.lst (r.first.map D.int)) (.lst (r.now.map D.int)) (.lst ((entDone r.now e).map D.int)) (entD e) (r.ents.map entD) (le_szL (by rw [List.length_map]; have := h.el; omega)) b
  rw [ent_app] at z
  exact z
theorem bone_no {n : Nat} {r : RoadS} (h : RoadOk n r) (hn : n < 10000) (e : Ent) (he : EntOk e) (hb : entBad r.now e ≠ "") : f_Road_behind_one [roadO r, entD e] = .exc (excN (entBad r.now e)) := by
  have b := behind_prog r.now h.nr h.nl e he
  rw [if_neg hb] at b
  have s1 : (1 : Nat) ≤ szL := le_szL (by decide)
  have lz : (r.ents.map entD).length + 1 ≤ szL := le_szL (by rw [List.length_map]; have := h.el; omega)
  unfold roadO
  generalize r.ents.map entD = ee at *
  generalize r.now.map D.int = nn at *
  generalize r.first.map D.int = ff at *
  generalize entD e = ed at *
  simp [f_Road_behind_one, m_Road_behind_one, at_first, at_entries, at_now, b, lz, s1, -oAt, -dMake]
theorem anewS_ok {n : Nat} {r : RoadS} (h : RoadOk n r) (es : List Ent) (hes : ∀ e ∈ es, EntOk e) (hz : es.length ≤ 1000) (hb : (goneS 0 r.first es).1 = none) : f_Road_anew [roadO r, .lst (es.map entD)] = .ok (roadO (anewS es r)) := by
  have g := gone_over_ok es hz hes r.first h.fr h.fl
  rw [hb] at g
  exact anew_ok _ _ _ _ _ g
theorem anewS_no {n : Nat} {r : RoadS} (h : RoadOk n r) (es : List Ent) (hes : ∀ e ∈ es, EntOk e) (hz : es.length ≤ 1000) {k : Nat} (hb : (goneS 0 r.first es).1 = some k) : f_Road_anew [roadO r, .lst (es.map entD)] = .exc ⟨"Clash", some (.int (k : Nat))⟩ := by
  have g := gone_over_ok es hz hes r.first h.fr h.fl
  rw [hb] at g
  unfold roadO
  generalize es.map entD = ee at *
  generalize r.first.map D.int = ff at *
  simp [f_Road_anew, m_Road_anew, at_first, g, -oAt, -dMake]
theorem becomeS {st : StS} (dn gn : List D) (hd : dn.length < 100000) (hl : st.length ≤ 100) (deed : D) (x : Str) (r : RoadS) : f_House_become [houseD (mapS roadO st) dn gn, deed, .str x, roadO r] = .rt .non [some (hsD (putS st x r) (dn ++ [.tup [deed, .dct (mapS roadO st)]]) [])] := by
  have z := become_ok (mapS roadO st) dn gn deed x (.lst (r.first.map D.int)) (.lst (r.ents.map entD)) (.lst (r.now.map D.int)) (lt_szL (by omega)) (lt_szL (by rw [mapS_len]; omega))
  have e := mapS_put roadO st x r
  unfold hsD
  rw [← e]
  exact z
theorem become_shut {st : StS} (dn gn : List D) (hd : dn.length < 100000) (deed : D) (x : Str) {r : RoadS} (hx : rdS st x = some r) : f_House_become [houseD (mapS roadO st) dn gn, deed, .str x, .non] = .rt .non [some (hsD (delS st x) (dn ++ [.tup [deed, .dct (mapS roadO st)]]) [])] := by
  have k : keyOf (.str x) = some (.inr x) := rfl
  have s0 : (0 : Nat) ≤ szL := le_szL (by decide)
  have s2 : (2 : Nat) ≤ szL := le_szL (by decide)
  have v := mapS_val roadO st x
  rw [hx] at v
  have v' : valD (mapS roadO st) (.inr x) = some (roadO r) := v
  have hd' : dn.length < szL := lt_szL (by omega)
  have e := mapS_del roadO st x
  unfold hsD
  rw [← e]
  generalize mapS roadO st = b at *
  simp [f_House_become, m_House_become, houseD, k, hd', s0, s2, v', outM, allS, noX_of]
theorem bone_meth (f : List D → R D) (r : RoadS) (t : R (List D)) : dMethR "Road" "behind_one" f (roadO r) t = t >>= fun ds => f (roadO r :: ds) := meth_behind_one _ _ _ _ _
theorem anew_meth (f : List D → R D) (r : RoadS) (t : R (List D)) : dMethR "Road" "anew" f (roadO r) t = t >>= fun ds => f (roadO r :: ds) := meth_anew _ _ _ _ _
theorem at_ents (r : RoadS) : oAt "Road" "entries" (roadO r) = .ok (.lst (r.ents.map entD)) := rfl
theorem at_nowO (r : RoadS) : oAt "Road" "now" (roadO r) = .ok (.lst (r.now.map D.int)) := rfl
theorem onS_some {st : StS} {x : Str} {r : RoadS} (h : rdS st x = some r) (k : RoadS → RoadS) : onS st x k = putS st x (k r) := by unfold onS; rw [h]
theorem onRoad_some {st : StS} {x : Str} {r : RoadS} (h : rdS st x = some r) (k : RoadS → Str × Int) : onRoad st x k = k r := by unfold onRoad; rw [h]
theorem onRoad_none {st : StS} {x : Str} (h : rdS st x = none) (k : RoadS → Str × Int) : onRoad st x k = (("NoRoad" : Str), 0) := by unfold onRoad; rw [h]
theorem no_road {st : StS} {d : Deed} {dn gn : List D} {x : Str} {k : RoadS → Str × Int} (h : rdS st x = none) (e : badS st d = onRoad st x k) : outS st d dn gn = .exc (excN "NoRoad") [some (hsD st dn gn)] := by
  rw [outS_no (w := (("NoRoad" : Str), 0)) (by rw [e, onRoad_none h]) (by decide +kernel), excS_n]
theorem out_ent {st : StS} {d : Deed} {dn gn : List D} {r : List Int} {e : Ent} (h : badS st d = (entBad r e, 0)) (hw : entBad r e ≠ "") : outS st d dn gn = .exc (excN (entBad r e)) [some (hsD st dn gn)] := by
  rw [outS_no h hw, excS_ent]
theorem out_done {st : StS} {d : Deed} {dn gn : List D} {st' : StS} (h : badS st d = (("" : Str), 0)) (e : doneS st d = st') : outS st d dn gn = .rt .non [some (hsD st' (dn ++ [.tup [deedD d, .dct (mapS roadO st)]]) [])] := by
  rw [outS_ok h, e]
section
variable {n : Nat} {st : StS} (hs : StOk n st) (hn : n ≤ 900) (dn gn : List D) (hd : dn.length < 100000)
include hs hn hd
theorem meth_shut (x : Str) : f_House_shut [hsD st dn gn, .str x] = outS st (.shut x) dn gn := by
  cases q : rdS st x with
  | none =>
    have a := road_none (dn := dn) (gn := gn) q
    rw [no_road (x := x) q rfl]
    unfold hsD
    generalize mapS roadO st = b at *
    generalize excN "NoRoad" = X at *
    simp [f_House_shut, m_House_shut, meth_hroad, a, outM, allS, -mMeth, -oAt]
  | some r =>
    have a := road_some (dn := dn) (gn := gn) q
    have b2 := become_shut dn gn hd (deedD (.shut x)) x q
    have e0 : badS st (.shut x) = (("" : Str), 0) := onRoad_some q _
    rw [out_done e0 rfl]
    have s2 : (2 : Nat) ≤ szL := le_szL (by decide)
    show _ = O.rt .non [some (hsD (delS st x) _ _)]
    unfold hsD at b2 ⊢
    unfold deedD at b2 ⊢
    dsimp only at b2 ⊢
    generalize mapS roadO (delS st x) = b3 at *
    generalize mapS roadO st = b0 at *
    simp [f_House_shut, m_House_shut, meth_hroad, mMeth_h, a, b2, s2, outM, allS, -mMeth, -oAt]
end
section
variable {n : Nat} {st : StS} (hs : StOk n st) (hn : n ≤ 900) (dn gn : List D) (hd : dn.length < 100000)
include hs hn hd
theorem meth_walk (x : Str) (c k : Int) : f_House_walk [hsD st dn gn, .str x, .int c, .int k] = outS st (.walk x c k) dn gn := by
  have s3 : (3 : Nat) ≤ szL := le_szL (by decide)
  have s4 : (4 : Nat) ≤ szL := le_szL (by decide)
  cases q : rdS st x with
  | none =>
    have a := road_none (dn := dn) (gn := gn) q
    rw [no_road (x := x) q rfl]
    unfold hsD
    generalize mapS roadO st = b at *
    generalize excN "NoRoad" = X at *
    simp [f_House_walk, m_House_walk, meth_hroad, a, outM, allS, -mMeth, -oAt]
  | some r =>
    have a := road_some (dn := dn) (gn := gn) q
    have e0 : badS st (.walk x c k) = if c < 1 then (("BadCreel" : Str), 0) else (("" : Str), 0) := onRoad_some q _
    by_cases hc : c < 1
    · rw [outS_no (w := (("BadCreel" : Str), 0)) (e0.trans (if_pos hc)) (by decide +kernel), excS_n]
      have lc : f_look_creel [.int c] = .exc (excN "BadCreel") := by simp [f_look_creel, m_look_creel, hc, excN]
      unfold hsD
      generalize mapS roadO st = b at *
      generalize excN "BadCreel" = X at *
      simp [f_House_walk, m_House_walk, meth_hroad, a, lc, outM, allS, -mMeth, -oAt]
    · have lc := look_creel_ok c (by omega)
      have b1 := bone_ok (stOk_road hs q) (by omega) (.walk c k) (show 1 ≤ c by omega) rfl
      have b2 := becomeS dn gn hd (by have := hs.len; omega) (deedD (.walk x c k)) x (addS (.walk c k) r) (st := st)
      rw [out_done (e0.trans (if_neg hc)) (onS_some q _)]
      unfold entD at b1
      dsimp only at b1
      unfold hsD at b2 ⊢
      unfold deedD at b2 ⊢
      dsimp only at b2 ⊢
      generalize mapS roadO (putS _ _ _) = b3 at *
      generalize mapS roadO st = b0 at *
      simp [f_House_walk, m_House_walk, meth_hroad, bone_meth, anew_meth, mMeth_h, at_ents, at_nowO, a, lc, b1, s3, s4, b2, outM, allS, -mMeth, -oAt]
end
section
variable {n : Nat} {st : StS} (hs : StOk n st) (hn : n ≤ 900) (dn gn : List D) (hd : dn.length < 100000)
include hs hn hd
theorem meth_take (x : Str) (p : Int) : f_House_take [hsD st dn gn, .str x, .int p] = outS st (.take x p) dn gn := by
  have s2 : (2 : Nat) ≤ szL := le_szL (by decide)
  have s3 : (3 : Nat) ≤ szL := le_szL (by decide)
  cases q : rdS st x with
  | none =>
    have a := road_none (dn := dn) (gn := gn) q
    rw [no_road (x := x) q rfl]
    unfold hsD
    generalize mapS roadO st = b at *
    generalize excN "NoRoad" = X at *
    simp [f_House_take, m_House_take, meth_hroad, a, outM, allS, -mMeth, -oAt]
  | some r =>
    have a := road_some (dn := dn) (gn := gn) q
    have e0 : badS st (.take x p) = (entBad r.now (.take p), 0) := onRoad_some q _
    by_cases hb : entBad r.now (.take p) = ""
    · have b1 := bone_ok (stOk_road hs q) (by omega) (.take p) trivial hb
      have b2 := becomeS dn gn hd (by have := hs.len; omega) (deedD (.take x p)) x (addS (.take p) r) (st := st)
      rw [out_done (e0.trans (by rw [hb])) (onS_some q _)]
      unfold entD at b1
      dsimp only at b1
      unfold hsD at b2 ⊢
      unfold deedD at b2 ⊢
      dsimp only at b2 ⊢
      generalize mapS roadO (putS _ _ _) = b3 at *
      generalize mapS roadO st = b0 at *
      simp [f_House_take, m_House_take, meth_hroad, bone_meth, anew_meth, mMeth_h, at_ents, at_nowO, a, b1, s2, s3, b2, outM, allS, -mMeth, -oAt]
    · have b1 := bone_no (stOk_road hs q) (by omega) (.take p) trivial hb
      rw [out_ent e0 hb]
      unfold entD at b1
      dsimp only at b1
      unfold hsD
      generalize mapS roadO st = b at *
      generalize excN (entBad r.now (.take p)) = X at *
      simp [f_House_take, m_House_take, meth_hroad, bone_meth, mMeth_h, a, b1, s2, s3, outM, allS, -mMeth, -oAt]
end
section
variable {n : Nat} {st : StS} (hs : StOk n st) (hn : n ≤ 900) (dn gn : List D) (hd : dn.length < 100000)
include hs hn hd
theorem meth_lay (x y : Str) (g : Int) : f_House_lay [hsD st dn gn, .str x, .str y, .int g] = outS st (.lay x y g) dn gn := by
  have s3 : (3 : Nat) ≤ szL := le_szL (by decide)
  have s4 : (4 : Nat) ≤ szL := le_szL (by decide)
  cases q : rdS st x with
  | none =>
    have a := road_none (dn := dn) (gn := gn) q
    rw [no_road (x := x) q rfl]
    unfold hsD
    generalize mapS roadO st = b at *
    generalize excN "NoRoad" = X at *
    simp [f_House_lay, m_House_lay, meth_hroad, a, outM, allS, -mMeth, -oAt]
  | some r =>
    have a := road_some (dn := dn) (gn := gn) q
    cases q2 : rdS st y with
    | none =>
      have a2 := road_none (dn := dn) (gn := gn) q2
      have e1 : badS st (.lay x y g) = onRoad st y fun o => (entBad r.now (.lay o.now g), 0) := onRoad_some q _
      rw [no_road (x := y) q2 e1]
      unfold hsD
      generalize mapS roadO st = b at *
      generalize excN "NoRoad" = X at *
      simp [f_House_lay, m_House_lay, meth_hroad, a, a2, outM, allS, -mMeth, -oAt]
    | some o =>
    have a2 := road_some (dn := dn) (gn := gn) q2
    have lo : (o.now.map D.int).length ≤ szL := le_szL (by have := (stOk_road hs q2).nl; rw [List.length_map]; omega)
    have ft : fTuple [.lst (o.now.map D.int)] = .ok (.tup (o.now.map D.int)) := by simp [fTuple, lo]
    have e1 : badS st (.lay x y g) = onRoad st y fun o => (entBad r.now (.lay o.now g), 0) := onRoad_some q _
    have e0 : badS st (.lay x y g) = (entBad r.now (.lay o.now g), 0) := e1.trans (onRoad_some q2 _)
    have e9 : doneS st (.lay x y g) = putS st x (addS (.lay o.now g) r) := by
      have z : doneS st (.lay x y g) = putS st x (addS (.lay (nowS st y) g) r) := onS_some q _
      rw [z]
      unfold nowS
      rw [q2]
    have eok : EntOk (.lay o.now g) := ⟨(stOk_road hs q2).nr, (stOk_road hs q2).nl⟩
    by_cases hb : entBad r.now (.lay o.now g) = ""
    · have b1 := bone_ok (stOk_road hs q) (by omega) (.lay o.now g) eok hb
      have b2 := becomeS dn gn hd (by have := hs.len; omega) (deedD (.lay x y g)) x (addS (.lay o.now g) r) (st := st)
      rw [out_done (e0.trans (by rw [hb])) e9]
      unfold entD at b1
      dsimp only at b1
      generalize addS (.lay o.now g) r = rr at *
      have a3 := at_nowO o
      generalize o.now.map D.int = on at *
      unfold hsD at b2 ⊢
      unfold deedD at b2 ⊢
      dsimp only at b2 ⊢
      generalize mapS roadO (putS _ _ _) = b3 at *
      generalize mapS roadO st = b0 at *
      simp [f_House_lay, m_House_lay, meth_hroad, bone_meth, anew_meth, mMeth_h, at_ents, a, a2, a3, ft, b1, s3, s4, b2, outM, allS, -mMeth, -oAt, -fTuple]
    · have b1 := bone_no (stOk_road hs q) (by omega) (.lay o.now g) eok hb
      rw [out_ent e0 hb]
      unfold entD at b1
      dsimp only at b1
      unfold hsD
      have a3 := at_nowO o
      generalize excN (entBad r.now (.lay o.now g)) = X at *
      generalize mapS roadO st = b at *
      generalize o.now.map D.int = on at *
      simp [f_House_lay, m_House_lay, meth_hroad, bone_meth, mMeth_h, a, a2, a3, ft, b1, s3, s4, outM, allS, -mMeth, -oAt, -fTuple]
end
theorem rowR_some {r : List Int} {x : Exc} (h : rowX r = some x) : rowR r = .exc x := by unfold rowR; rw [h]
theorem rowR_none {r : List Int} (h : rowX r = none) : rowR r = .ok .non := by unfold rowR; rw [h]

section
variable {n : Nat} {st : StS} (hs : StOk n st) (hn : n ≤ 900) (dn gn : List D) (hd : dn.length < 100000)
include hs hn hd
theorem meth_build (x : Str) (hx : x.length ≤ 1000) (r : List Int) (hr : r.length ≤ 500) : f_House_build [hsD st dn gn, .str x, .lst (r.map D.int)] = outS st (.build x r) dn gn := by
  have a1 := is_name_ok x hx
  have k : keyOf (.str x) = some (.inr x) := rfl
  have v := mapS_val roadO st x
  have e00 : badS st (.build x r) = if nameOk x = false then (("BadName" : Str), 0) else if (rdS st x).isSome then (("Taken" : Str), 0) else if (rowWhy r).1 = "" ∧ 8 ≤ st.length then (("Full" : Str), 0) else rowWhy r := rfl
  by_cases c1 : nameOk x = false
  · rw [outS_no (w := (("BadName" : Str), 0)) (e00.trans (if_pos c1)) (by decide +kernel), excS_n]
    rw [c1] at a1
    unfold hsD excN
    generalize mapS roadO st = b at *
    simp [f_House_build, m_House_build, gFld_by, a1, outM, allS, -mMeth, -oAt, -gFld]
  · have e1 : badS st (.build x r) = if (rdS st x).isSome then (("Taken" : Str), 0) else if (rowWhy r).1 = "" ∧ 8 ≤ st.length then (("Full" : Str), 0) else rowWhy r := e00.trans (if_neg c1)
    rw [show nameOk x = true by simpa using c1] at a1
    cases q : rdS st x with
    | some r0 =>
      rw [q] at e1 v
      rw [outS_no (w := (("Taken" : Str), 0)) e1 (by decide +kernel), excS_n]
      have v' : valD (mapS roadO st) (.inr x) = some (roadO r0) := v
      unfold hsD excN
      generalize mapS roadO st = b at *
      simp [f_House_build, m_House_build, gFld_by, a1, k, v', outM, allS, -mMeth, -oAt, -gFld]
    | none =>
      rw [q] at e1 v
      have v' : valD (mapS roadO st) (.inr x) = none := v
      have e2 : badS st (.build x r) = if (rowWhy r).1 = "" ∧ 8 ≤ st.length then (("Full" : Str), 0) else rowWhy r := e1
      have lr := look_row_any r (by omega)
      have X := rowWhy_X r
      have fl : fLenD [.dct (mapS roadO st)] = .ok (.int (st.length : Nat)) := by show R.ok (D.int ((mapS roadO st).length : Nat)) = _; rw [mapS_len]
      by_cases c2 : (rowWhy r).1 = ""
      · rw [if_pos c2] at X
        rw [rowR_none X] at lr
        have w0 : rowWhy r = (("" : Str), 0) := by
          unfold rowWhy at c2 ⊢
          split at c2
          · exact absurd c2 (by decide +kernel)
          · rename_i c
            rw [if_neg c]
            cases z : badAt r with
            | none => rfl
            | some k =>
              rw [z] at c2
              exact absurd (show ("BadRow" : Str) = "" from c2) (by decide +kernel)
        by_cases c3 : 8 ≤ st.length
        · rw [outS_no (w := (("Full" : Str), 0)) (e2.trans (if_pos ⟨c2, c3⟩)) (by decide +kernel), excS_n]
          have c3' : (8 : Int) ≤ st.length := by omega
          unfold hsD excN
          generalize r.map D.int = rr at *
          generalize mapS roadO st = b at *
          simp [f_House_build, m_House_build, gFld_by, a1, k, v', lr, fl, c3', outM, allS, -mMeth, -oAt, -gFld, -fLenD]
        · rw [out_done (e2.trans ((if_neg fun z => c3 z.2).trans w0)) rfl]
          have rr := rowWhy_ok c2
          have z := build_ok (mapS roadO st) dn gn x (by simpa using c1) hx r rr.1 rr.2 v' (lt_szL (by omega)) (by rw [mapS_len]; omega)
          have e := mapS_put roadO st x ⟨r, [], r⟩
          unfold hsD
          rw [z]
          show _ = O.rt .non [some (houseD (mapS roadO (putS st x ⟨r, [], r⟩)) _ _)]
          rw [← e]
          rfl
      · rw [if_neg c2] at X
        rw [rowR_some X] at lr
        rw [outS_no (w := rowWhy r) (e2.trans (if_neg fun z => c2 z.1)) c2]
        show _ = O.exc ⟨(rowWhy r).1, if (rowWhy r).1 = "BadRow" ∨ (rowWhy r).1 = "Clash" then some (.int (rowWhy r).2) else none⟩ _
        unfold hsD
        generalize (⟨(rowWhy r).1, if (rowWhy r).1 = "BadRow" ∨ (rowWhy r).1 = "Clash" then some (.int (rowWhy r).2) else none⟩ : Exc) = EX at *
        generalize r.map D.int = rr at *
        generalize mapS roadO st = b at *
        simp [f_House_build, m_House_build, gFld_by, a1, k, v', lr, fl, outM, allS, -mMeth, -oAt, -gFld, -fLenD]
end
section
variable {n : Nat} {st : StS} (hs : StOk n st) (hn : n ≤ 900) (dn gn : List D) (hd : dn.length < 100000)
include hs hn hd
theorem meth_late (x : Str) (a c k : Int) : f_House_late [hsD st dn gn, .str x, .int a, .int c, .int k] = outS st (.late x a c k) dn gn := by
  have s1 : (1 : Nat) ≤ szL := le_szL (by decide)
  have s3 : (3 : Nat) ≤ szL := le_szL (by decide)
  have s5 : (5 : Nat) ≤ szL := le_szL (by decide)
  cases q : rdS st x with
  | none =>
    have a0 := road_none (dn := dn) (gn := gn) q
    rw [no_road (x := x) q rfl]
    unfold hsD
    generalize mapS roadO st = b at *
    generalize excN "NoRoad" = X at *
    simp [f_House_late, m_House_late, meth_hroad, a0, outM, allS, -mMeth, -oAt]
  | some r =>
    have a0 := road_some (dn := dn) (gn := gn) q
    have fl : fLen [.lst (r.ents.map entD)] = .ok (.int (r.ents.length : Nat)) := by simp [fLen]
    have e0 : badS st (.late x a c k) = if a < 0 ∨ (r.ents.length : Int) < a then (("NoEntry" : Str), 0) else if c < 1 then (("BadCreel" : Str), 0) else clashS (goneS 0 r.first (lateS r.ents a c k)) := onRoad_some q _
    have ae := at_ents r
    by_cases c1 : a < 0 ∨ (r.ents.length : Int) < a
    · rw [outS_no (w := (("NoEntry" : Str), 0)) (e0.trans (if_pos c1)) (by decide +kernel), excS_n]
      unfold hsD excN
      generalize r.ents.map entD = ee at *
      generalize mapS roadO st = b at *
      by_cases c2 : a < 0
      · simp [f_House_late, m_House_late, meth_hroad, a0, ae, c2, outM, allS, -mMeth, -oAt, -fLen]
      · have c3 : (r.ents.length : Int) < a := c1.resolve_left c2
        generalize ((r.ents.length : Nat) : Int) = li at *
        simp [f_House_late, m_House_late, meth_hroad, a0, ae, c2, c3, fl, outM, allS, -mMeth, -oAt, -fLen]
    · rw [if_neg c1] at e0
      have na : ¬ a < 0 := fun z => c1 (.inl z)
      have nb : ¬ (r.ents.length : Int) < a := fun z => c1 (.inr z)
      by_cases c2 : c < 1
      · rw [outS_no (w := (("BadCreel" : Str), 0)) (e0.trans (if_pos c2)) (by decide +kernel), excS_n]
        have lc : f_look_creel [.int c] = .exc (excN "BadCreel") := by simp [f_look_creel, m_look_creel, c2, excN]
        unfold hsD
        generalize r.ents.map entD = ee at *
        generalize mapS roadO st = b at *
        generalize excN "BadCreel" = X at *
        generalize ((r.ents.length : Nat) : Int) = li at *
        simp [f_House_late, m_House_late, meth_hroad, a0, ae, na, nb, fl, lc, outM, allS, -mMeth, -oAt, -fLen]
      · rw [if_neg c2] at e0
        have lc := look_creel_ok c (by omega)
        obtain ⟨m, rfl⟩ : ∃ m : Nat, a = (m : Int) := ⟨a.toNat, by rw [Int.toNat_of_nonneg (by omega)]⟩
        have hm : m ≤ r.ents.length := by omega
        have el := (stOk_road hs q).el
        have cT : cutL (r.ents.map entD) none (some (m : Int)) = (r.ents.take m).map entD := by rw [cutL_to (k := m) rfl, List.map_take]
        have cF : cutL (r.ents.map entD) (some (m : Int)) none = (r.ents.drop m).map entD := by rw [cutL_from (k := m) (by rw [List.length_map]; exact hm), List.map_drop]
        have A1 : dAdd (.lst ((r.ents.take m).map entD)) (.lst [.tup [.str "walk", .int c, .int k]]) = .ok (.lst ((r.ents.take m ++ [Ent.walk c k]).map entD)) := by
          show (if ((r.ents.take m).map entD).length + 1 ≤ szL then _ else _) = _
          rw [if_pos (le_szL (by simp; omega)), List.map_append]
          rfl
        have A2 : dAdd (.lst ((r.ents.take m ++ [Ent.walk c k]).map entD)) (.lst ((r.ents.drop m).map entD)) = .ok (.lst ((lateS r.ents m c k).map entD)) := by
          show (if ((r.ents.take m ++ [Ent.walk c k]).map entD).length + ((r.ents.drop m).map entD).length ≤ szL then _ else _) = _
          rw [if_pos (le_szL (by simp; omega)), ← List.map_append]
          rfl
        have le := late_ents (stOk_road hs q) (a := (m : Int)) (k := k) (show 1 ≤ c by omega)
        have ll : (lateS r.ents m c k).length ≤ 1000 := by rw [late_len]; omega
        cases g : (goneS 0 r.first (lateS r.ents m c k)).1 with
        | none =>
          have b1 := anewS_ok (stOk_road hs q) _ le ll g
          have b2 := becomeS dn gn hd (by have := hs.len; omega) (deedD (.late x m c k)) x (anewS (lateS r.ents m c k) r) (st := st)
          have cl : clashS (goneS 0 r.first (lateS r.ents m c k)) = (("" : Str), 0) := by
            generalize goneS 0 r.first (lateS r.ents m c k) = G at *
            obtain ⟨g1, g2⟩ := G
            cases g
            rfl
          rw [out_done (e0.trans cl) (onS_some q _)]
          generalize anewS (lateS r.ents m c k) r = rn at *
          generalize (lateS r.ents m c k).map entD = q3 at *
          generalize (r.ents.take m ++ [Ent.walk c k]).map entD = q2 at *
          generalize (r.ents.take m).map entD = q1 at *
          generalize (r.ents.drop m).map entD = q0 at *
          generalize ((r.ents.length : Nat) : Int) = li at *
          generalize r.ents.map entD = ee at *
          generalize ((m : Nat) : Int) = ai at *
          unfold hsD at b2 ⊢
          unfold deedD at b2 ⊢
          dsimp only at b2 ⊢
          generalize mapS roadO (putS _ _ _) = b3 at *
          generalize mapS roadO st = b0 at *
          simp [f_House_late, m_House_late, meth_hroad, bone_meth, anew_meth, mMeth_h, a0, ae, lc, b1, s1, s3, s5, cT, cF, na, nb, A1, A2, fl, b2, outM, allS, -mMeth, -oAt, -dAdd, -fLen]
        | some j =>
          have b1 := anewS_no (stOk_road hs q) _ le ll g
          have cl : clashS (goneS 0 r.first (lateS r.ents m c k)) = (("Clash" : Str), (j : Int)) := by
            generalize goneS 0 r.first (lateS r.ents m c k) = G at *
            obtain ⟨g1, g2⟩ := G
            cases g
            rfl
          rw [outS_no (e0.trans cl) (show ("Clash" : Str) ≠ "" by decide +kernel)]
          show _ = O.exc ⟨"Clash", if _ then some (.int (j : Nat)) else none⟩ _
          rw [if_pos (.inr rfl)]
          unfold hsD
          generalize (⟨"Clash", some (.int (j : Nat))⟩ : Exc) = X at *
          generalize (lateS r.ents m c k).map entD = q3 at *
          generalize (r.ents.take m ++ [Ent.walk c k]).map entD = q2 at *
          generalize (r.ents.take m).map entD = q1 at *
          generalize (r.ents.drop m).map entD = q0 at *
          generalize ((r.ents.length : Nat) : Int) = li at *
          generalize r.ents.map entD = ee at *
          generalize ((m : Nat) : Int) = ai at *
          generalize mapS roadO st = b at *
          simp [f_House_late, m_House_late, meth_hroad, anew_meth, a0, ae, lc, b1, s1, s3, s5, cT, cF, na, nb, A1, A2, fl, outM, allS, -mMeth, -oAt, -dAdd, -fLen]
end
theorem pl_ent (e : Ent) (he : EntOk e) (n : Nat) : pl (n + 3) (entD e) = true := by
  have s1 : (1 : Nat) ≤ szL := le_szL (by decide)
  have s2 : (2 : Nat) ≤ szL := le_szL (by decide)
  have s3 : (3 : Nat) ≤ szL := le_szL (by decide)
  have pw : ∀ m, pl (m + 1) (.str "walk") = true := fun m => pl_str m _ (by decide +kernel) (by decide)
  have pp : ∀ m, pl (m + 1) (.str "put") = true := fun m => pl_str m _ (by decide +kernel) (by decide)
  have pt : ∀ m, pl (m + 1) (.str "take") = true := fun m => pl_str m _ (by decide +kernel) (by decide)
  have pm : ∀ m, pl (m + 1) (.str "mirror") = true := fun m => pl_str m _ (by decide +kernel) (by decide)
  have py : ∀ m, pl (m + 1) (.str "lay") = true := fun m => pl_str m _ (by decide +kernel) (by decide)
  have pi : ∀ m (i : Int), pl (m + 1) (.int i) = true := fun _ _ => rfl
  have one : ∀ m (xs : List D), (∀ x ∈ xs, pl m x = true) → xs.length ≤ szL → pl (m + 1) (.tup xs) = true := fun m xs h l => by
    show (xs.all (pl m) && decide (xs.length ≤ szL)) = true
    rw [decide_eq_true l, Bool.and_true]
    exact List.all_eq_true.mpr h
  cases e with
  | walk c k => exact one _ _ (by simp [pw, pi]) s3
  | put p => exact one _ _ (by simp [pp, pi]) s2
  | take p => exact one _ _ (by simp [pt, pi]) s2
  | mirror => exact one _ _ (by simp [pm]) s1
  | lay o g =>
    refine one _ _ ?_ s3
    have po : pl (n + 2) (.tup (o.map D.int)) = true := one _ _ (fun x hx => by
      obtain ⟨i, _, rfl⟩ := List.mem_map.mp hx
      rfl) (le_szL (by have := he.2; rw [List.length_map]; omega))
    simp [py, pi, po]
theorem pl_ents (es : List Ent) (h : ∀ e ∈ es, EntOk e) (l : es.length ≤ 10000) (n : Nat) : pl (n + 4) (.lst (es.map entD)) = true :=
  pl_lstOf _ _ (fun x hx => by
    obtain ⟨e, he, rfl⟩ := List.mem_map.mp hx
    exact pl_ent e (h e he) n) (le_szL (by rw [List.length_map]; omega))
theorem roads_ok (st : StS) (dn gn : List D) : f_House_roads [hsD st dn gn] = .ok (.lst (st.map fun p => D.str p.1)) := by
  have z := mapS_keys roadO st
  have fl : fListD [.dct (mapS roadO st)] = .ok (.lst (st.map fun p => D.str p.1)) := by
    show R.ok (D.lst _) = _
    rw [z]
  unfold hsD
  generalize (st.map fun p => D.str p.1) = L at *
  generalize mapS roadO st = B at *
  simp [f_House_roads, m_House_roads, at_byname, fl, -oAt, -fListD]
theorem meth_hroads (f : List D → R D) (b : List (Key × D)) (dn gn : List D) (t : R (List D)) : dMethR "House" "roads" f (houseD b dn gn) t = t >>= fun ds => f (houseD b dn gn :: ds) := meth_house _ _ _ _ _ _ rfl
theorem last_it (l : List D) (x : D) : dIdx (.lst (l ++ [x])) (.int (-1)) = .ok x := by
  dsimp only [dIdx]
  rw [atI_last]
theorem dIdx_tup {ds : List D} {i : Nat} {d : D} (h : ds[i]? = some d) : dIdx (.tup ds) (.int i) = .ok d := by
  dsimp only [dIdx]
  rw [atI_nat h]

theorem pick4 (a b c d x : Int) : ∃ v : Int, (v = a ∨ v = b ∨ v = c ∨ v = d) ∧ dIdx (.lst [.int a, .int b, .int c, .int d]) (.int (x.fmod 4)) = .ok (.int v) := by
  have f := fmod_pos (a := x) (b := 4) (by decide)
  rcases (show x.fmod 4 = 0 ∨ x.fmod 4 = 1 ∨ x.fmod 4 = 2 ∨ x.fmod 4 = 3 by omega) with h | h | h | h <;> rw [h]
  · exact ⟨a, .inl rfl, dIdx_list (i := 0) rfl⟩
  · exact ⟨b, .inr (.inl rfl), dIdx_list (i := 1) rfl⟩
  · exact ⟨c, .inr (.inr (.inl rfl)), dIdx_list (i := 2) rfl⟩
  · exact ⟨d, .inr (.inr (.inr rfl)), dIdx_list (i := 3) rfl⟩
theorem app_ints (l : List Int) (x : Int) : l.map D.int ++ [D.int x] = (l ++ [x]).map D.int := by simp
theorem row_loop (l : List Int) (h : Drawn l) (M : D) : ∀ (n k : Nat) (p : Int) (acc : List Int) (a b : Option D), 3 + k + n ≤ l.length → acc.length + n ≤ 1000 → Rising acc → (∀ x ∈ acc, x ≤ p) → 3 ≤ l.length → (∀ x ∈ acc, -15 ≤ x) → -15 ≤ p → ∃ p' acc' a' b',
    forL (.one 4) b_row_L_1 ((List.range' k n).map fun (i : Nat) => D.int i) [some (.lst (l.map D.int)), some M, some (.int p), some (.lst (acc.map D.int)), a, b] =
      .nx [some (.lst (l.map D.int)), some M, some (.int p'), some (.lst (acc'.map D.int)), a', b'] ∧ acc'.length = acc.length + n ∧ Rising acc' ∧ (∀ x ∈ acc', x ≤ p') ∧ p' ≤ p + 12 * (n : Int) ∧ ∀ x ∈ acc', -15 ≤ x
  | 0, k, p, acc, a, b, _, _, h3, h4, _, h6, _ => ⟨p, acc, a, b, rfl, rfl, h3, h4, by omega, h6⟩
  | n + 1, k, p, acc, a, b, h1, h2, h3, h4, h5, h6, h7 => by
    obtain ⟨v, v1, v2, e1⟩ := drawn_get h (i := 3 + k) (by omega) (j := 3 + (k : Int)) (by omega)
    obtain ⟨w, w1, w2, e2⟩ := drawn_get h (i := 2) (by omega) (j := 2) rfl
    obtain ⟨m, hm, em⟩ := pick4 2 3 5 12 w
    have m0 : ¬ m = 0 := by omega
    have f := fmod_pos (a := v.fdiv 3) (b := m) (by omega)
    have hz : acc.length < szL := lt_szL (by omega)
    have key : ∃ p2, p < p2 ∧ p2 ≤ p + 12 ∧ b_row_L_1 [some (.lst (l.map D.int)), some M, some (.int p), some (.lst (acc.map D.int)), some (.int (k : Int)), b] =
        .nx [some (.lst (l.map D.int)), some M, some (.int p2), some (.lst ((acc ++ [p2]).map D.int)), some (.int (k : Int)), some (.int v)] := by
      by_cases c : v.fmod 3 = 0
      · refine ⟨p + 1 + 0, by omega, by omega, ?_⟩
        rw [← app_ints]
        simp [b_row_L_1, e1, e2, em, c, hz, -dIdx]
      · refine ⟨p + 1 + (v.fdiv 3).fmod m, by omega, by omega, ?_⟩
        rw [← app_ints]
        simp [b_row_L_1, e1, e2, em, c, hz, m0, -dIdx]
    obtain ⟨p2, lt, le12, eb⟩ := key
    obtain ⟨p', acc', a', b', f1, f2, f3, f4, f5, f6⟩ := row_loop l h M n (k + 1) p2 (acc ++ [p2]) (some (.int (k : Int))) (some (.int v)) (by omega) (by simp; omega)
      (List.pairwise_append.mpr ⟨h3, List.pairwise_singleton _ _, fun x hx y hy => by
        have : y = p2 := by simpa using hy
        subst this
        exact Int.lt_of_le_of_lt (h4 x hx) lt⟩) (fun x hx => by
        rcases List.mem_append.mp hx with z | z
        · exact Int.le_trans (h4 x z) (by omega)
        · have : x = p2 := by simpa using z
          omega) h5 (fun x hx => by
        rcases List.mem_append.mp hx with z | z
        · exact h6 x z
        · have : x = p2 := by simpa using z
          omega) (by omega)
    refine ⟨p', acc', a', b', ?_, by rw [f2]; simp; omega, f3, f4, by omega, f6⟩
    rw [List.range'_succ, List.map_cons, ← f1]
    show (match b_row_L_1 [some (.lst (l.map D.int)), some M, some (.int p), some (.lst (acc.map D.int)), some (.int (k : Int)), b] with
      | .nx r' => forL (.one 4) b_row_L_1 ((List.range' (k + 1) n).map fun (i : Nat) => D.int i) r'
      | o => o) = _
    rw [eb]
theorem row_okC (l : List Int) (h : Drawn l) (most : Nat) (hm : most ≤ 500) (hl : 3 + most ≤ l.length) : ∃ r : List Int, f_row_L [.lst (l.map D.int), .int most] = .ok (.lst (r.map D.int)) ∧ r.length ≤ most ∧ Rising r ∧ (∀ x ∈ r, x ≤ 15 + 12 * (most : Int)) ∧ ∀ x ∈ r, -15 ≤ x := by
  obtain ⟨v0, p0, q0, e0⟩ := drawn_get h (i := 0) (by omega) (j := 0) rfl
  obtain ⟨v1, p1, q1, e1⟩ := drawn_get h (i := 1) (by omega) (j := 1) rfl
  have f := fmod_pos (a := v1) (b := (most : Int) + 1) (by omega)
  have d := dRange1_nat (n := (v1.fmod ((most : Int) + 1)).toNat) (by omega)
  rw [Int.toNat_of_nonneg f.1, range_split] at d
  have f31 := fmod_pos (a := v0) (b := 31) (by decide)
  obtain ⟨p', acc', a', b', g1, g2, g3, g4, g5, g6⟩ := row_loop l h (.int most) (v1.fmod ((most : Int) + 1)).toNat 0 (v0.fmod 31 - 15) [] none none (by omega) (by simp; omega) List.Pairwise.nil (fun x hx => nomatch hx) (by omega) (fun x hx => nomatch hx) (by omega)
  refine ⟨acc', ?_, by rw [g2]; simp; omega, g3, (fun x hx => by have := g4 x hx; omega), g6⟩
  have g1' : forL (.one 4) b_row_L_1 ((List.range' 0 (v1.fmod ((most : Int) + 1)).toNat).map fun (i : Nat) => D.int i) [some (.lst (l.map D.int)), some (.int most), some (.int (v0.fmod 31 - 15)), some (.lst []), none, none] = _ := g1
  have m0 : ¬ (most : Int) + 1 = 0 := by omega
  generalize (List.range' 0 (v1.fmod ((most : Int) + 1)).toNat).map (fun (i : Nat) => D.int i) = rr at *
  generalize l.map D.int = ll at *
  simp [f_row_L, m_row_L, e0, e1, m0, d, g1', -dIdx]
theorem rising_shift {r : List Int} (h : Rising r) (by_ : Int) : Rising (r.map (· + by_)) := by
  refine List.pairwise_map.mpr (h.imp fun {a b} z => ?_)
  omega
theorem rising_cut {r : List Int} (h : Rising r) (k : Nat) (by_ : Int) (hb : 0 ≤ by_) : Rising (r.take k ++ (r.drop k).map (· + by_)) := by
  refine List.pairwise_append.mpr ⟨h.take, rising_shift h.drop by_, fun x hx y hy => ?_⟩
  obtain ⟨z, hz, rfl⟩ := List.mem_map.mp hy
  have e : Rising (r.take k ++ r.drop k) := by rw [List.take_append_drop]; exact h
  have := (List.pairwise_append.mp e).2.2 x hx z hz
  omega

theorem long_row_okC (l : List Int) (h : Drawn l) (most : Nat) (hm : most ≤ 500) (hl : 3 + most ≤ l.length) : ∃ r : List Int, f_long_row_L [.lst (l.map D.int), .int most] = .ok (.lst (r.map D.int)) ∧ r.length ≤ most ∧ Rising r ∧ (∀ x ∈ r, x ≤ 15 + 12 * (most : Int) + 10 ^ 40) ∧ ∀ x ∈ r, -15 ≤ x := by
  obtain ⟨r, e, hr1, hr2, hr3, hr4⟩ := row_okC l h most hm hl
  obtain ⟨v2, p2, q2, e2⟩ := drawn_get h (i := 2) (by omega) (j := 2) rfl
  have k3 := dPow_ok (a := 10) (k := 3) (by decide) (by decide)
  have k12 := dPow_ok (a := 10) (k := 12) (by decide) (by decide)
  have k40 := dPow_ok (a := 10) (k := 40) (by decide) (by decide)
  have g3 : (0 : Int) ≤ 10 ^ 3 := by decide
  have g12 : (0 : Int) ≤ 10 ^ 12 := by decide
  have g40 : (0 : Int) ≤ 10 ^ 40 := by decide
  have h3 : (10 : Int) ^ 3 ≤ 10 ^ 40 := by decide
  have h12 : (10 : Int) ^ 12 ≤ 10 ^ 40 := by decide
  generalize (10 : Int) ^ 3 = c3 at k3 g3 h3
  generalize (10 : Int) ^ 12 = c12 at k12 g12 h12
  generalize (10 : Int) ^ 40 = c40 at *
  have k3' : dPow (.int 10) (.int 3) = .ok (.int c3) := k3
  have k12' : dPow (.int 10) (.int 12) = .ok (.int c12) := k12
  have k40' : dPow (.int 10) (.int 40) = .ok (.int c40) := k40
  obtain ⟨by_, hb, eb⟩ := pick4 0 c3 c12 c40 (v2.fdiv 64)
  have f := fmod_pos (a := v2.fdiv 4) (b := (r.length : Int) + 1) (by omega)
  have m0 : ¬ (r.length : Int) + 1 = 0 := by omega
  obtain ⟨k, hk⟩ : ∃ k : Nat, (v2.fdiv 4).fmod ((r.length : Int) + 1) = k := ⟨_, (Int.toNat_of_nonneg f.1).symm⟩
  have c1 : cutL (r.map D.int) none (some (k : Int)) = (r.take k).map D.int := by rw [cutL_to, List.map_take]
  have c2 : cutL (r.map D.int) (some (k : Int)) none = (r.drop k).map D.int := by rw [cutL_from (k := k) (by simp; omega), List.map_drop]
  have g : gComp (gIter (gSl (gVar 2) (gPart (gVar 3)) gNoPart)) (.one 5) [5] gYes (gBin dAdd (gVar 5) (gVar 4)) [some (.lst (l.map D.int)), some (.int most), some (.lst (r.map D.int)), some (.int k), some (.int by_), none] = .ok (.lst ((r.drop k).map fun x => D.int (x + by_))) :=
    gComp_map (F := D.int) (by simp [c2]) fun x _ => by simp [gTurn]
  refine ⟨r.take k ++ (r.drop k).map (· + by_), ?_, by simp; omega, rising_cut hr2 k by_ (by omega), fun x hx => ?_, fun x hx => ?_⟩
  rotate_left
  · rcases List.mem_append.mp hx with z | z
    · have := hr3 x (List.mem_of_mem_take z)
      omega
    · obtain ⟨y, hy, rfl⟩ := List.mem_map.mp z
      have := hr3 y (List.mem_of_mem_drop hy)
      show y + by_ ≤ _
      omega
  · rcases List.mem_append.mp hx with z | z
    · exact hr4 x (List.mem_of_mem_take z)
    · obtain ⟨y, hy, rfl⟩ := List.mem_map.mp z
      have := hr4 y (List.mem_of_mem_drop hy)
      show -15 ≤ y + by_
      omega
  have fin : (r.take k ++ (r.drop k).map (· + by_)).map D.int = (r.take k).map D.int ++ (r.drop k).map fun x => D.int (x + by_) := by
    rw [List.map_append, List.map_map]
    rfl
  have lz : ((r.take k).map D.int).length + ((r.drop k).map fun x => D.int (x + by_)).length ≤ szL := le_szL (by simp; omega)
  rw [fin]
  generalize (r.drop k).map (fun x => D.int (x + by_)) = dd at *
  generalize (r.take k).map D.int = tt at *
  generalize l.map D.int = ll at *
  simp [f_long_row_L, m_long_row_L, e, e2, eb, k3', k12', k40', m0, hk, c1, g, lz, -dIdx]
theorem pow_ok1 : dPow (.int 10) (.int 18) = .ok (.int 1000000000000000000) := dPow_ok (k := 18) (by decide) (by decide)
theorem range60 : dRange1 (.int 60) = .ok ((List.range 60).map fun (i : Nat) => D.int i) := dRange1_nat (n := 60) (by decide)
theorem len60 : ((List.range 60).map fun (i : Nat) => D.int i).length = 60 := by simp
theorem numbers_in (s m : D) (c : Option D) : ∀ (js : List D) (acc : List Int) (rest : Int) (seed : Option D) (k : Option D), acc.length + js.length ≤ 200000 → Drawn acc → ∃ acc' rest' k',
    forL (.one 6) b_numbers_L_1 js [some s, some m, some (.lst (acc.map D.int)), seed, c, some (.int rest), k] = .nx [some s, some m, some (.lst (acc'.map D.int)), seed, c, some (.int rest'), k'] ∧ acc'.length ≤ acc.length + js.length ∧ Drawn acc'
  | [], acc, rest, seed, k, h1, h2 => ⟨acc, rest, k, rfl, by simp, h2⟩
  | j :: js, acc, rest, seed, k, h1, h2 => by
    rw [List.length_cons] at h1
    by_cases hr : 0 < rest
    · have f := fmod_pos (a := rest) (b := 1013) (by decide)
      obtain ⟨acc', rest', k', e1, e2, e3⟩ := numbers_in s m c js (acc ++ [rest.fmod 1013]) (rest.fdiv 1013) seed (some j) (by simp; omega) (h2.snoc f.1 (by omega))
      refine ⟨acc', rest', k', ?_, by simp at e2; rw [List.length_cons]; omega, e3⟩
      have hz : acc.length < szL := by exact lt_szL (by omega)
      have b : b_numbers_L_1 [some s, some m, some (.lst (acc.map D.int)), seed, c, some (.int rest), some j] = .nx [some s, some m, some (.lst ((acc ++ [rest.fmod 1013]).map D.int)), seed, c, some (.int (rest.fdiv 1013)), some j] := by
        simp [b_numbers_L_1, hr, hz]
      rw [← e1]
      simp [forL, b]
    · obtain ⟨acc', rest', k', e1, e2, e3⟩ := numbers_in s m c js acc rest seed (some j) (by omega) h2
      refine ⟨acc', rest', k', ?_, by rw [List.length_cons]; omega, e3⟩
      have b : b_numbers_L_1 [some s, some m, some (.lst (acc.map D.int)), seed, c, some (.int rest), some j] = .nx [some s, some m, some (.lst (acc.map D.int)), seed, c, some (.int rest), some j] := by
        simp [b_numbers_L_1, hr]
      rw [← e1]
      simp [forL, b]
theorem numbers_s1 (seed d : Int) (s m a x k : Option D) (hmul : mulOk seed 40014 = true) : mSet 3 (gBin dMod (gBin dAdd (gBin dAdd (gBin dMul (gVar 3) (gC (.int 40014))) (gBin dMod (gVar 4) (gC (.int 999983)))) (gC (.int 29))) (gC (.int 2147483563))) [s, m, a, some (.int seed), some (.int d), x, k] =
    .nx [s, m, a, some (.int ((seed * 40014 + d.fmod 999983 + 29).fmod 2147483563)), some (.int d), x, k] := by
  simp [hmul]
theorem numbers_s2 (d C18 : Int) (s m a sd x k : Option D) (p18 : dPow (.int 10) (.int 18) = .ok (.int C18)) : mSet 5 (gBin dSub (gVar 4) (gBin dPow (gC (.int 10)) (gC (.int 18)))) [s, m, a, sd, some (.int d), x, k] = .nx [s, m, a, sd, some (.int d), some (.int (d - C18)), k] := by
  simp [p18]
theorem numbers_s3 (d x : Int) (s m sd k : Option D) (acc : List Int) (hz : acc.length < szL) : mIf (gTest (gBin dLt (gVar 5) (gC (.int 0)))) (mSeq (mApp 2 (gBin dMod (gVar 4) (gC (.int 9967)))) mNil) mNil [s, m, some (.lst (acc.map D.int)), sd, some (.int d), some (.int x), k] =
    .nx [s, m, some (.lst ((if x < 0 then acc ++ [d.fmod 9967] else acc).map D.int)), sd, some (.int d), some (.int x), k] := by
  by_cases h : x < 0 <;> simp [h, hz]
theorem numbers_step (s m : D) (acc : List Int) (seed d : Int) (x k : Option D) (hmul : mulOk seed 40014 = true) (hz : acc.length < szL) (h2 : Drawn acc) (fd : 0 ≤ d.fmod 9967 ∧ d.fmod 9967 < 9967) :
    ∃ acc1, acc1.length ≤ acc.length + 1 ∧ Drawn acc1 ∧ ∀ a1 r1 k1, forL (.one 6) b_numbers_L_1 (((List.range 60).map fun (i : Nat) => D.int i)) [some s, some m, some (.lst (acc1.map D.int)), some (.int ((seed * 40014 + d.fmod 999983 + 29).fmod 2147483563)), some (.int d), some (.int (d - 1000000000000000000)), k] = .nx [some s, some m, some (.lst (List.map D.int a1)), some (.int ((seed * 40014 + d.fmod 999983 + 29).fmod 2147483563)), some (.int d), some (.int r1), k1] →
        b_numbers_L_2 [some s, some m, some (.lst (acc.map D.int)), some (.int seed), some (.int d), x, k] = .nx [some s, some m, some (.lst (List.map D.int a1)), some (.int ((seed * 40014 + d.fmod 999983 + 29).fmod 2147483563)), some (.int d), some (.int r1), k1] := by
  refine ⟨if d - 1000000000000000000 < 0 then acc ++ [d.fmod 9967] else acc, ?_, ?_, fun a1 r1 k1 e1 => ?_⟩
  · split <;> simp
  · split
    · exact h2.snoc fd.1 fd.2
    · exact h2
  · unfold b_numbers_L_2
    rw [seq_nx (numbers_s1 _ _ _ _ _ _ _ hmul), seq_nx (numbers_s2 _ _ _ _ _ _ _ _ pow_ok1), seq_nx (numbers_s3 _ _ _ _ _ _ _ hz)]
    have e2 : mFor (gRange1 (gC (.int 60))) (.one 6) b_numbers_L_1 [some s, some m, some (.lst ((if d - 1000000000000000000 < 0 then acc ++ [d.fmod 9967] else acc).map D.int)), some (.int ((seed * 40014 + d.fmod 999983 + 29).fmod 2147483563)), some (.int d), some (.int (d - 1000000000000000000)), k] = .nx [some s, some m, some (.lst (List.map D.int a1)), some (.int ((seed * 40014 + d.fmod 999983 + 29).fmod 2147483563)), some (.int d), some (.int r1), k1] := by
      show onR (dRange1 (.int 60)) _ _ = _
      rw [range60]
      exact e1
    rw [seq_nx e2]
    rfl
theorem numbers_out (s m : D) : ∀ (ds : List Int) (acc : List Int) (seed : Int) (c x k : Option D), acc.length + 61 * ds.length ≤ 100000 → Drawn acc → 0 ≤ seed → seed < 2147483563 → ∃ acc' seed' c' x' k',
    forL (.one 4) b_numbers_L_2 (ds.map D.int) [some s, some m, some (.lst (acc.map D.int)), some (.int seed), c, x, k] =
      .nx [some s, some m, some (.lst (acc'.map D.int)), some (.int seed'), c', x', k'] ∧ acc'.length ≤ acc.length + 61 * ds.length ∧ Drawn acc' ∧ 0 ≤ seed' ∧ seed' < 2147483563
  | [], acc, seed, c, x, k, h1, h2, h3, h4 => ⟨acc, seed, c, x, k, rfl, by simp, h2, h3, h4⟩
  | d :: ds, acc, seed, c, x, k, h1, h2, h3, h4 => by
    rw [List.length_cons] at h1
    have fs := fmod_pos (a := seed * 40014 + d.fmod 999983 + 29) (b := 2147483563) (by decide)
    have fd := fmod_pos (a := d) (b := 9967) (by decide)
    have hmul : mulOk seed 40014 = true := mulOk_right (by decide) (by decide)
    have hz : acc.length < szL := by exact lt_szL (by omega)
    obtain ⟨acc1, l1, d1, kk⟩ := numbers_step s m acc seed d x k hmul hz h2 fd
    obtain ⟨a1, r1, k1, e1, e2, e3⟩ := numbers_in s m (some (.int d)) (((List.range 60).map fun (i : Nat) => D.int i)) acc1 (d - 1000000000000000000) (some (.int ((seed * 40014 + d.fmod 999983 + 29).fmod 2147483563))) k (by rw [len60]; omega) d1
    rw [len60] at e2
    obtain ⟨a2, s2, c2, x2, k2, f1, f2, f3, f4, f5⟩ := numbers_out s m ds a1 _ (some (.int d)) (some (.int r1)) k1 (by omega) e3 fs.1 fs.2
    refine ⟨a2, s2, c2, x2, k2, ?_, by rw [List.length_cons]; omega, f3, f4, f5⟩
    rw [← f1]
    have b := kk a1 r1 k1 e1
    show (match b_numbers_L_2 [some s, some m, some (.lst (acc.map D.int)), some (.int seed), some (.int d), x, k] with
      | .nx r' => forL (.one 4) b_numbers_L_2 (ds.map D.int) r'
      | o => o) = _
    rw [b]
theorem sIx_hi (n k : Nat) : HT.sIx n n (some (k : Int)) = min k n := HT.sIx_nat n n k
theorem numbers_ok (ns : List Int) (hn : ns.length ≤ 63) (many : Nat) (hm : many ≤ 2000) : ∃ l : List Int, f_numbers_L [.scr ns, .int many] = .ok (.lst (l.map D.int)) ∧ l.length = many ∧ Drawn l := by
  have hc : (cutL ns none (some 63)).length ≤ 63 := by
    unfold cutL
    rw [List.length_take, List.length_drop]
    omega
  obtain ⟨a1, s1, c1, x1, k1, e1, e2, e3, e4, e5⟩ := numbers_out (.scr ns) (.int many) (cutL ns none (some 63)) [] 59 none none none (by simp; omega) (fun d hd => nomatch hd) (by decide) (by decide)
  rw [List.length_nil] at e2
  -- the filling up
  obtain ⟨r', w1, ⟨acc, seed, rfl, w2, w3, w4, w5⟩, w6⟩ := whileL_inv (fun r => ∃ (acc : List Int) (seed : Int), r = [some (.scr ns), some (.int many), some (.lst (acc.map D.int)), some (.int seed), c1, x1, k1] ∧ acc.length ≤ 6000 ∧ Drawn acc ∧ 0 ≤ seed ∧ seed < 2147483629)
    (fun r => match r with
      | [_, _, some (.lst a), _, _, _, _] => many - a.length
      | _ => 0) (tc := gTest (gBin dLt (gCall fLen (gCons (gVar 2) gNil)) (gVar 1))) (mb := b_numbers_L_3) (fun r ⟨acc, seed, e, h1, h2, h3, h4⟩ => by
      subst e
      refine ⟨decide ((acc.length : Int) < many), by simp, fun hb => ?_⟩
      have hb' : acc.length < many := by
        have := of_decide_eq_true hb
        omega
      have m1 : mulOk seed seed = true := mulOk_left (by omega) (by omega)
      have m2 : mulOk 52774 seed = true := mulOk_left (by decide) (by decide)
      have m3 : mulOk 13 (acc.length : Int) = true := mulOk_left (by decide) (by decide)
      have hz : acc.length < szL := by exact lt_szL (by omega)
      have f1 := fmod_pos (a := seed * seed + 52774 * seed + 13 * acc.length + 7) (b := 2147483629) (by decide)
      have f2 := fmod_pos (a := ((seed * seed + 52774 * seed + 13 * acc.length + 7).fmod 2147483629).fdiv 1019) (b := 9967) (by decide)
      refine ⟨[some (.scr ns), some (.int many), some (.lst ((acc ++ [(((seed * seed + 52774 * seed + 13 * acc.length + 7).fmod 2147483629).fdiv 1019).fmod 9967]).map D.int)), some (.int ((seed * seed + 52774 * seed + 13 * acc.length + 7).fmod 2147483629)), c1, x1, k1], ?_, ⟨_, _, rfl, by simp; omega, h2.snoc f2.1 f2.2, f1.1, f1.2⟩, ?_⟩
      · simp [b_numbers_L_3, m1, m2, m3, hz]
      · simp
        omega) WB [some (.scr ns), some (.int many), some (.lst (a1.map D.int)), some (.int s1), c1, x1, k1] ⟨a1, s1, rfl, by omega, e3, e4, by omega⟩ (by
      rw [WB_eq]
      show many - _ < 100000
      omega)
  have w7 : ¬ acc.length < many := by
    simp at w6
    omega
  refine ⟨acc.take many, ?_, by rw [List.length_take]; omega, fun d hd => w3 d (List.mem_of_mem_take hd)⟩
  have hcut : cutL (acc.map D.int) none (some (many : Int)) = (acc.take many).map D.int := by
    unfold cutL
    rw [HT.sIx_none, sIx_hi, List.drop_zero, Nat.sub_zero, List.map_take, List.length_map, Nat.min_eq_left (by omega)]
  have e1' : forL (.one 4) b_numbers_L_2 ((cutL ns none (some 63)).map D.int) [some (.scr ns), some (.int (many : Int)), some (.lst []), some (.int 59), none, none, none] = _ := e1
  simp [f_numbers_L, m_numbers_L, e1', w1, hcut, le_szL (n := 0) (by decide)]

theorem all_true : ∀ (l : List Nat), blsOf (l.map fun _ => D.bl true) = some (l.map fun _ => true)
  | [] => rfl
  | _ :: l => by
    show (blsOf (l.map fun _ => D.bl true)).map _ = _
    rw [all_true l]
    rfl
theorem fAll_true (l : List Nat) : fAll [.lst (l.map fun _ => D.bl true)] = .ok (.bl true) := by
  dsimp only [fAll]
  rw [all_true]
  simp
theorem same_refl : ∀ (n : Nat) (d : D), n ≤ 64 → pl n d = true → f_same_L n [d, d] = .ok (.bl true)
  | 0, _, _, h => by cases h
  | n + 1, .non, _, _ => by simp [f_same_L, m_same_L]
  | n + 1, .bl b, hn, h => by simp [f_same_L, m_same_L]
  | n + 1, .int i, hn, h => by simp [f_same_L, m_same_L]
  | n + 1, .str x, hn, h => by simp [f_same_L, m_same_L, dEq_self hn h]
  | _ + 1, .dct _, _, h => by cases h
  | _ + 1, .obj _ _, _, h => by cases h
  | _ + 1, .scr _, _, h => by cases h
  | n + 1, .lst xs, hn, h => by
    have q : (xs.all (pl n) && decide (xs.length ≤ szL)) = true := h
    obtain ⟨q1, q2⟩ := Bool.and_eq_true_iff.mp q
    have hl : xs.length ≤ szL := of_decide_eq_true q2
    have c : gComp (gRange1 (gCall fLen (VL.gCons (gVar 1) VL.gNil))) (.one 2) [2] gYes (gCall (f_same_L n) (VL.gCons (gBin dIdx (gVar 0) (gVar 2)) (VL.gCons (gBin dIdx (gVar 1) (gVar 2)) VL.gNil))) [some (.lst xs), some (.lst xs), none] = .ok (.lst ((List.range xs.length).map fun _ => D.bl true)) := by
      refine gComp_map (F := fun (i : Nat) => D.int i) ?_ fun i hi => ?_
      · show dRange1 (.int (xs.length : Int)) = _
        exact dRange1_nat (by rw [szL_val] at hl; exact hl)
      · have hi' : i < xs.length := List.mem_range.mp hi
        have e : xs[i]? = some xs[i] := by simp [hi']
        have s := same_refl n xs[i] (by omega) (List.all_eq_true.mp q1 _ (List.getElem_mem hi'))
        simp [gTurn, dIdx_list e, s, -dIdx]
    simp [f_same_L, m_same_L, c, fAll_true]
  | n + 1, .tup xs, hn, h => by
    have q : (xs.all (pl n) && decide (xs.length ≤ szL)) = true := h
    obtain ⟨q1, q2⟩ := Bool.and_eq_true_iff.mp q
    have hl : xs.length ≤ szL := of_decide_eq_true q2
    have c : gComp (gRange1 (gCall fLen (VL.gCons (gVar 1) VL.gNil))) (.one 2) [2] gYes (gCall (f_same_L n) (VL.gCons (gBin dIdx (gVar 0) (gVar 2)) (VL.gCons (gBin dIdx (gVar 1) (gVar 2)) VL.gNil))) [some (.tup xs), some (.tup xs), none] = .ok (.lst ((List.range xs.length).map fun _ => D.bl true)) := by
      refine gComp_map (F := fun (i : Nat) => D.int i) ?_ fun i hi => ?_
      · show dRange1 (.int (xs.length : Int)) = _
        exact dRange1_nat (by rw [szL_val] at hl; exact hl)
      · have hi' : i < xs.length := List.mem_range.mp hi
        have e : xs[i]? = some xs[i] := by simp [hi']
        have s := same_refl n xs[i] (by omega) (List.all_eq_true.mp q1 _ (List.getElem_mem hi'))
        simp [gTurn, dIdx_tup e, s, -dIdx]
    simp [f_same_L, m_same_L, c, fAll_true]

/-! ### law k46: nothing handed in or told is shared -/
def stA (A B : RoadS) : StS := [("one", A), ("two", B)]
theorem one_two : ¬ (("one" : Str) = "two") := by decide +kernel
theorem two_one : ¬ (("two" : Str) = "one") := by decide +kernel
theorem rdA1 (A B : RoadS) : rdS (stA A B) "one" = some A := by simp [rdS, stA, List.find?_cons]
theorem rdA2 (A B : RoadS) : rdS (stA A B) "two" = some B := by simp [rdS, stA, List.find?_cons, one_two]
theorem putA1 (A B C : RoadS) : putS (stA A B) "one" C = stA C B := by simp [putS, stA, two_one]
theorem putA2 (A B C : RoadS) : putS (stA A B) "two" C = stA A C := by simp [putS, stA, one_two]
def nxt1 (h : Hist) (d : Deed) : Hist := h ++ [(d, doneS (lastF [] h) d)]
theorem nxt1_last (h : Hist) (d : Deed) : lastF [] (nxt1 h d) = doneS (lastF [] h) d := lastF_snoc _ _ _
theorem outH {h : Hist} {d : Deed} {gn : List D} (hb : badS (lastF [] h) d = (("" : Str), 0)) : outS (lastF [] h) d (dnF [] h) gn = .rt .non [some (houseH (nxt1 h d) [])] := by
  rw [outS_ok hb]
  unfold houseH nxt1
  rw [lastF_snoc, dnF_snoc]
  rfl
theorem nxt1_ok {n : Nat} {h : Hist} (hh : HistOk n h) {d : Deed} (hb : badS (lastF [] h) d = (("" : Str), 0)) : HistOk (n + 1) (nxt1 h d) := by
  have z := nxtH_ok hh d
  unfold nxtH at z
  rw [if_pos (by rw [hb])] at z
  exact z
theorem dnF_le {h : Hist} (l : h.length < 1000) : (dnF [] h).length < 100000 := by rw [dnF_len]; omega
theorem nxt1_len (h : Hist) (d : Deed) : (nxt1 h d).length = h.length + 1 := by unfold nxt1; simp
/-! what is told -/
def viewL (h ah : Hist) (A B : RoadS) : List D := [.lst [.str "one", .str "two"], .lst (h.map fun p => deedD p.1), .lst (ah.reverse.map fun p => deedD p.1), .lst (A.now.map D.int), .lst (A.ents.map entD), .lst (B.now.map D.int), .lst (B.ents.map entD)]
theorem hlog_some {st : StS} {dn gn : List D} {x : Str} {r : RoadS} (h : rdS st x = some r) : f_House_log [hsD st dn gn, .str x] = .ok (.lst (r.ents.map entD)) := by
  have v := mapS_val roadO st x
  rw [h] at v
  exact hlog_ok _ dn gn x _ _ _ v
theorem view_ok (h ah : Hist) (A B : RoadS) (hs : lastF [] h = stA A B) : f_view_L [houseH h ah] = .ok (.lst (viewL h ah A B)) := by
  have r1 : dMethR "House" "roads" f_House_roads (houseH h ah) (.ok []) = .ok (.lst [.str "one", .str "two"]) := by
    refine (meth_hroads _ _ _ _ _).trans ?_
    refine (roads_ok (lastF [] h) (dnF [] h) (ah.map (stD roadO))).trans ?_
    rw [hs]
    rfl
  have r2 : dMethR "House" "deeds" f_House_deeds (houseH h ah) (.ok []) = .ok (.lst (h.map fun p => deedD p.1)) := (meth_hdeeds _ _ _ _ _).trans (deedsH h ah)
  have r3 : dMethR "House" "undone" f_House_undone (houseH h ah) (.ok []) = .ok (.lst (ah.reverse.map fun p => deedD p.1)) := (meth_hundone _ _ _ _ _).trans (undoneH h ah)
  have r4 : dMethR "House" "row" f_House_row (houseH h ah) (.ok [.str "one"]) = .ok (.lst (A.now.map D.int)) := (meth_hrow _ _ _ _ _).trans (hrow_some (by rw [hs]; exact rdA1 A B))
  have r5 : dMethR "House" "log" f_House_log (houseH h ah) (.ok [.str "one"]) = .ok (.lst (A.ents.map entD)) := (meth_hlog _ _ _ _ _).trans (hlog_some (by rw [hs]; exact rdA1 A B))
  have r6 : dMethR "House" "row" f_House_row (houseH h ah) (.ok [.str "two"]) = .ok (.lst (B.now.map D.int)) := (meth_hrow _ _ _ _ _).trans (hrow_some (by rw [hs]; exact rdA2 A B))
  have r7 : dMethR "House" "log" f_House_log (houseH h ah) (.ok [.str "two"]) = .ok (.lst (B.ents.map entD)) := (meth_hlog _ _ _ _ _).trans (hlog_some (by rw [hs]; exact rdA2 A B))
  have s2 : (2 : Nat) ≤ szL := le_szL (by decide)
  have s3 : (3 : Nat) ≤ szL := le_szL (by decide)
  have s5 : (5 : Nat) ≤ szL := le_szL (by decide)
  have s7 : (7 : Nat) ≤ szL := le_szL (by decide)
  unfold viewL
  generalize houseH h ah = H at *
  generalize D.lst (h.map fun p => deedD p.1) = X1 at *
  generalize D.lst (ah.reverse.map fun p => deedD p.1) = X2 at *
  generalize D.lst (A.now.map D.int) = X3 at *
  generalize D.lst (A.ents.map entD) = X4 at *
  generalize D.lst (B.now.map D.int) = X5 at *
  generalize D.lst (B.ents.map entD) = X6 at *
  simp [f_view_L, m_view_L, b_view_L_1, forL, r1, r2, r3, r4, r5, r6, r7, s2, s3, s5, s7, dIter]
theorem spoil_all (H : D) : ∀ vs : List D, (∀ v ∈ vs, ∃ es, v = .lst es ∧ es.length ≤ 1000) → forRvT 1 (gTup (VL.gCons (gC (.int 3)) (VL.gCons (gC (.int 3)) VL.gNil))) vs [some H, none] = .nx [some H, none]
  | [], _ => rfl
  | v :: vs, h => by
    obtain ⟨es, e, l⟩ := h v List.mem_cons_self
    subst e
    have s2 : (2 : Nat) ≤ szL := le_szL (by decide)
    have lz : es.length < szL := lt_szL (by omega)
    have ih := spoil_all H vs fun w hw => h w (List.mem_cons_of_mem _ hw)
    unfold forRvT
    simp [s2, lz, ih]
theorem spoil_ok {H : D} {vs : List D} (hv : f_view_L [H] = .ok (.lst vs)) (h : ∀ v ∈ vs, ∃ es, v = .lst es ∧ es.length ≤ 1000) : f_spoil_L [H] = .ok .non := by
  have z := spoil_all H vs h
  simp [f_spoil_L, m_spoil_L, mForRvT, hv, z]
theorem view_lens {n : Nat} {h ah : Hist} {A B : RoadS} (a : RoadOk n A) (b : RoadOk n B) (hn : n ≤ 900) (l1 : h.length ≤ 900) (l2 : ah.length ≤ 900) : ∀ v ∈ viewL h ah A B, ∃ es, v = .lst es ∧ es.length ≤ 1000 := by
  intro v hv
  unfold viewL at hv
  have := a.nl
  have := b.nl
  have := a.el
  have := b.el
  simp only [List.mem_cons, List.not_mem_nil, or_false] at hv
  rcases hv with e | e | e | e | e | e | e <;> subst e <;> refine ⟨_, rfl, ?_⟩ <;> simp <;> omega
theorem view_pl {n : Nat} {h ah : Hist} {A B : RoadS} (hh : HistOk n h) (ha : HistOk n ah) (a : RoadOk n A) (b : RoadOk n B) (hn : n ≤ 900) (l1 : h.length ≤ 900) (l2 : ah.length ≤ 900) : pl 8 (.lst (viewL h ah A B)) = true := by
  refine pl_lstOf 7 _ (fun v hv => ?_) (le_szL (by unfold viewL; simp))
  have := a.nl
  have := b.nl
  have := a.el
  have := b.el
  unfold viewL at hv
  simp only [List.mem_cons, List.not_mem_nil, or_false] at hv
  rcases hv with e | e | e | e | e | e | e <;> subst e
  · have k1 : nameOk "one" = true := by decide +kernel
    have k2 : nameOk "two" = true := by decide +kernel
    refine pl_lstOf 6 _ (fun w hw => ?_) (le_szL (by simp))
    simp only [List.mem_cons, List.not_mem_nil, or_false] at hw
    rcases hw with e | e <;> subst e
    · exact pl_nm k1 5
    · exact pl_nm k2 5
  · exact pl_deeds hh (by omega)
  · have z := pl_deeds (HistOk_rev ha) (by rw [List.length_reverse]; omega)
    exact z
  · exact pl_ints (n := 5) (le_szL (by omega))
  · exact pl_ents _ a.es (by omega) 3
  · exact pl_ints (n := 5) (le_szL (by omega))
  · exact pl_ents _ b.es (by omega) 3
theorem behind_lay (r o : List Int) (g : Int) (h1 : r.length ≤ 200) (h2 : o.length ≤ 200) (c1 : r ≠ []) (c2 : o ≠ []) : f_behind_L [.lst (r.map D.int), .lst (o.map D.int), .int g] = .ok (.lst ((layR r o g).map D.int)) := by
  have l1 := last_getD r c1
  have l2 := head_getD o c2
  have ar : r.getLastD 0 + 1 + g - o.headD 0 = r.getLastD 0 + g + 1 - o.headD 0 := by omega
  have cp : ∀ x y : Option D, gComp (gIter (gVar 1)) (.one 4) [4] gYes (gBin dAdd (gVar 4) (gVar 3)) [some (.lst (r.map D.int)), some (.lst (o.map D.int)), x, some (.int (r.getLastD 0 + g + 1 - o.headD 0)), y] = .ok (.lst ((o.map (· + (r.getLastD 0 + g + 1 - o.headD 0))).map D.int)) := fun x y => by
    rw [List.map_map]
    exact gComp_map (l := o) (F := D.int) (G := fun v => D.int (v + (r.getLastD 0 + g + 1 - o.headD 0))) (by simp [dIter]) fun v _ => by simp [gTurn]
  have lz : (r.map D.int).length + ((o.map (· + (r.getLastD 0 + g + 1 - o.headD 0))).map D.int).length ≤ szL := le_szL (by simp; omega)
  unfold layR
  rw [List.map_append]
  rw [← ar] at *
  generalize (o.map (· + (r.getLastD 0 + 1 + g - o.headD 0))).map D.int = om at *
  generalize r.getLastD 0 = x1 at *
  generalize o.headD 0 = x2 at *
  generalize r.map D.int = rr at *
  generalize o.map D.int = oo at *
  simp [f_behind_L, m_behind_L, l1, l2, cp, lz, -dIdx]
theorem rising_snoc {r : List Int} (h : Rising r) {v : Int} (b : ∀ x ∈ r, x < v) : Rising (r ++ [v]) := by
  refine List.pairwise_append.mpr ⟨h, List.pairwise_singleton _ _, fun x hx y hy => ?_⟩
  rw [List.mem_singleton.mp hy]
  exact b x hx
theorem rowWhy_nil {r : List Int} (h : Rising r) (l : r.length ≤ 60) : rowWhy r = (("" : Str), 0) := by
  have z := rising_rowX h l
  unfold rowX at z
  unfold rowWhy
  by_cases c : 60 < r.length
  · omega
  · rw [if_neg c] at z ⊢
    cases q : badAt r with
    | none => rfl
    | some k => rw [q] at z; cases z
theorem meth_I {r : Sl} {fs : List (Str × D)} {f : List D → O} {x : Str} {ds es : List D} {c : Int} {k : Nat} {d' : D} (h3 : r[3]? = some (some (.obj "House" fs))) (h4 : r[4]? = some (some (.lst ds))) (hc : ixN ds.length c = some k) (he : ds[k]? = some (.lst es)) (hf : f [.obj "House" fs, .str x, .lst es] = .rt .non [some d']) :
    mExprX (mMethI "House" 3 f (gC (.str x)) 4 (gC (.int c))) r = .nx (r.set 3 (some d')) := by
  simp [mMethI, h3, h4, hc, he, hf]
theorem eq_refl46 {n : Nat} {d : D} (hn : n ≤ 64) (h : pl n d = true) : dEq d d = .ok (.bl true) ∧ dNe d d = .ok (.bl false) := by
  have s : shp d = true := pl_shp hn h
  have z : dEqB d d = true := SeqAt.eqv_refl _ (SeqAt.canLay_of_shaped s)
  unfold dEq dNe
  rw [s, z]
  exact ⟨rfl, rfl⟩
/-- for y in handed: y.append(5); y.reverse() -/
theorem handed_ok (S L Q H : D) (es fs : List D) (h1 : es.length ≤ 1000) (h2 : fs.length ≤ 1000) (x5 x6 x7 x8 x9 x10 : Option D) : ∃ X, mForARv 4 6 (gC (.int 5)) [some S, some L, some Q, some H, some (.lst [.lst es, .lst fs]), x5, x6, x7, x8, x9, x10] = .nx [some S, some L, some Q, some H, some X, x5, none, x7, x8, x9, x10] := by
  have z1 : es.length < szL := lt_szL (by omega)
  have z2 : fs.length < szL := lt_szL (by omega)
  exact ⟨.lst [.lst (es ++ [D.int 5]).reverse, .lst (fs ++ [D.int 5]).reverse], by simp [mForARv, forARv, z1, z2]⟩
theorem late_two (q0 q1 : List Int) (g m : Int) (l0 : q0.length ≤ 10) (l1 : q1.length ≤ 10) (n0 : q0 ≠ []) (n1 : q1 ≠ []) (hg : (q1.length : Int) ≤ g) : goneS 0 q0 (lateS [.lay q1 g] 0 2 m) = (none, layR (farR q0 [(2, m)]) q1 g) := by
  have fl := farR_len q0 [(2, m)]
  have nf : farR q0 [(2, m)] ≠ [] := fun z => by
    rw [z] at fl
    cases q0 with
    | nil => exact n0 rfl
    | cons => simp at fl
  have e1 : entBad q0 (.walk 2 m) = "" := rfl
  have e2 : entBad (farR q0 [(2, m)]) (.lay q1 g) = "" := by
    show (if farR q0 [(2, m)] = [] ∨ q1 = [] then ("Bare" : Str) else if 60 < (farR q0 [(2, m)]).length + q1.length then ("TooMany" : Str) else if g < (q1.length : Int) then ("TooNear" : Str) else ("" : Str)) = ""
    rw [if_neg (fun z => z.elim nf n1), if_neg (by omega), if_neg (by omega)]
  show goneS 0 q0 [.walk 2 m, .lay q1 g] = _
  unfold goneS
  rw [if_pos e1]
  show goneS 1 (farR q0 [(2, m)]) [.lay q1 g] = _
  unfold goneS
  rw [if_pos e2]
  rfl
/-! the deeds of this law -/
def rNew (q : List Int) : RoadS := ⟨q, [], q⟩
theorem bad_build {st : StS} {x : Str} {r : List Int} (k : nameOk x = true) (n : rdS st x = none) (l : st.length < 8) (w : rowWhy r = (("" : Str), 0)) : badS st (.build x r) = (("" : Str), 0) := by
  show (if nameOk x = false then (("BadName" : Str), (0 : Int)) else if (rdS st x).isSome then (("Taken" : Str), 0) else if (rowWhy r).1 = "" ∧ 8 ≤ st.length then (("Full" : Str), 0) else rowWhy r) = _
  rw [if_neg (by rw [k]; decide), if_neg (by rw [n]; decide), if_neg (fun z => by have := z.2; omega), w]
theorem lay_fine {r o : List Int} {g : Int} (hr : r ≠ []) (ho : o ≠ []) (l : r.length + o.length ≤ 60) (hg : (o.length : Int) ≤ g) : entBad r (.lay o g) = "" := by
  show (if r = [] ∨ o = [] then ("Bare" : Str) else if 60 < r.length + o.length then ("TooMany" : Str) else if g < (o.length : Int) then ("TooNear" : Str) else ("" : Str)) = ""
  rw [if_neg (fun z => z.elim hr ho), if_neg (by omega), if_neg (by omega)]
section
variable (A B : RoadS)
theorem now2 : nowS (stA A B) "two" = B.now := by unfold nowS; rw [rdA2]
theorem done_lay12 (g : Int) : doneS (stA A B) (.lay "one" "two" g) = stA (addS (.lay B.now g) A) B := by
  show onS (stA A B) "one" (addS (.lay (nowS (stA A B) "two") g)) = _
  rw [onS_some (rdA1 A B), putA1, now2]
theorem done_lay22 (g : Int) : doneS (stA A B) (.lay "two" "two" g) = stA A (addS (.lay B.now g) B) := by
  show onS (stA A B) "two" (addS (.lay (nowS (stA A B) "two") g)) = _
  rw [onS_some (rdA2 A B), putA2, now2]
theorem done_walk2 (c n : Int) : doneS (stA A B) (.walk "two" c n) = stA A (addS (.walk c n) B) := by
  show onS (stA A B) "two" _ = _
  rw [onS_some (rdA2 A B), putA2]
theorem done_take2 (p : Int) : doneS (stA A B) (.take "two" p) = stA A (addS (.take p) B) := by
  show onS (stA A B) "two" _ = _
  rw [onS_some (rdA2 A B), putA2]
theorem done_late1 (a c n : Int) : doneS (stA A B) (.late "one" a c n) = stA (anewS (lateS A.ents a c n) A) B := by
  show onS (stA A B) "one" _ = _
  rw [onS_some (rdA1 A B), putA1]
theorem bad_lay12 {g : Int} (h : entBad A.now (.lay B.now g) = "") : badS (stA A B) (.lay "one" "two" g) = (("" : Str), 0) := by
  show onRoad (stA A B) "one" (fun r => onRoad (stA A B) "two" fun o => (entBad r.now (.lay o.now g), 0)) = _
  rw [onRoad_some (rdA1 A B), onRoad_some (rdA2 A B), h]
theorem bad_lay22 {g : Int} (h : entBad B.now (.lay B.now g) = "") : badS (stA A B) (.lay "two" "two" g) = (("" : Str), 0) := by
  show onRoad (stA A B) "two" (fun r => onRoad (stA A B) "two" fun o => (entBad r.now (.lay o.now g), 0)) = _
  rw [onRoad_some (rdA2 A B), onRoad_some (rdA2 A B), h]
theorem bad_walk2 {c n : Int} (h : 1 ≤ c) : badS (stA A B) (.walk "two" c n) = (("" : Str), 0) := by
  show onRoad (stA A B) "two" (fun _ => if c < 1 then (("BadCreel" : Str), (0 : Int)) else (("" : Str), 0)) = _
  rw [onRoad_some (rdA2 A B), if_neg (by omega)]
theorem bad_take2 {p : Int} (h : p ∈ B.now) : badS (stA A B) (.take "two" p) = (("" : Str), 0) := by
  show onRoad (stA A B) "two" (fun r => (entBad r.now (.take p), (0 : Int))) = _
  rw [onRoad_some (rdA2 A B)]
  show ((if p ∈ B.now then ("" : Str) else "NoStone"), (0 : Int)) = _
  rw [if_pos h]
theorem bad_shut2 : badS (stA A B) (.shut "two") = (("" : Str), 0) := by
  show onRoad (stA A B) "two" (fun _ => (("" : Str), (0 : Int))) = _
  rw [onRoad_some (rdA2 A B)]
theorem bad_late1 {m : Int} {z : List Int} (h : goneS 0 A.first (lateS A.ents 0 2 m) = (none, z)) : badS (stA A B) (.late "one" 0 2 m) = (("" : Str), 0) := by
  show onRoad (stA A B) "one" (fun r => if (0 : Int) < 0 ∨ (r.ents.length : Int) < 0 then (("NoEntry" : Str), (0 : Int)) else if (2 : Int) < 1 then (("BadCreel" : Str), 0) else clashS (goneS 0 r.first (lateS r.ents 0 2 m))) = _
  rw [onRoad_some (rdA1 A B), if_neg (by omega), if_neg (by decide), h]
  rfl
end
theorem law_ok (ns : List Int) (hn : ns.length ≤ 63) : f_law [.scr ns] = .ok (.bl true) := by
  obtain ⟨l, e1, hl, d1⟩ := numbers_ok ns hn 60 (by decide)
  have e1' : f_numbers_L [.scr ns, .int 60] = .ok (.lst (l.map D.int)) := e1
  obtain ⟨v0, p0, u0, g0⟩ := drawn_get d1 (i := 0) (by omega) (j := 0) rfl
  obtain ⟨v1, p1, u1, g1⟩ := drawn_get d1 (i := 1) (by omega) (j := 1) rfl
  obtain ⟨v2, p2, u2, g2⟩ := drawn_get d1 (i := 2) (by omega) (j := 2) rfl
  obtain ⟨v3, p3, u3, g3⟩ := drawn_get d1 (i := 3) (by omega) (j := 3) rfl
  obtain ⟨v4, p4, u4, g4⟩ := drawn_get d1 (i := 4) (by omega) (j := 4) rfl
  have dr : ∀ k : Nat, Drawn (l.drop k) := fun k v hv => d1 v (List.mem_of_mem_drop hv)
  have cut : ∀ k : Nat, cutL (l.map D.int) (some ((k : Nat) : Int)) none = (l.drop k).map D.int := fun k => by rw [cutL_fromG (k := k) rfl, List.map_drop]
  have c5 : cutL (l.map D.int) (some 5) none = (l.drop 5).map D.int := cut 5
  have c20 : cutL (l.map D.int) (some 20) none = (l.drop 20).map D.int := cut 20
  obtain ⟨r0, er0, lr0, ri0, b0, _⟩ := long_row_okC (l.drop 5) (dr 5) 8 (by decide) (by rw [List.length_drop]; omega)
  obtain ⟨r1, er1, lr1, ri1, b1, _⟩ := row_okC (l.drop 20) (dr 20) 8 (by decide) (by rw [List.length_drop]; omega)
  have er0' : f_long_row_L [.lst ((l.drop 5).map D.int), .int 8] = .ok (.lst (r0.map D.int)) := er0
  have er1' : f_row_L [.lst ((l.drop 20).map D.int), .int 8] = .ok (.lst (r1.map D.int)) := er1
  have er0' : f_long_row_L [.lst (List.drop 5 (l.map D.int)), .int 8] = .ok (.lst (r0.map D.int)) := by rw [← List.map_drop]; exact er0
  have er1' : f_row_L [.lst (List.drop 20 (l.map D.int)), .int 8] = .ok (.lst (r1.map D.int)) := by rw [← List.map_drop]; exact er1
  obtain ⟨C, hC⟩ : ∃ C : Int, C = 10 ^ 41 := ⟨_, rfl⟩
  obtain ⟨q0, hq0⟩ : ∃ q, q = r0 ++ [C] := ⟨_, rfl⟩
  obtain ⟨q1, hq1⟩ : ∃ q, q = r1 ++ [(300 : Int), 302] := ⟨_, rfl⟩
  have R0 : Rising q0 := by
    rw [hq0]
    refine rising_snoc ri0 fun x hx => ?_
    have := b0 x hx
    omega
  have R1 : Rising q1 := by
    have z : r1 ++ [(300 : Int), 302] = (r1 ++ [300]) ++ [302] := by simp
    rw [hq1, z]
    have z1 : Rising (r1 ++ [(300 : Int)]) := rising_snoc ri1 fun x hx => by
      have := b1 x hx
      omega
    refine rising_snoc z1 fun x hx => ?_
    rcases List.mem_append.mp hx with w | w
    · have := b1 x w
      omega
    · rw [List.mem_singleton.mp w]; decide
  have L0 : q0.length ≤ 9 ∧ 1 ≤ q0.length := by rw [hq0]; simp; omega
  have L1 : q1.length ≤ 10 ∧ 2 ≤ q1.length := by rw [hq1]; simp; omega
  have N0 : q0 ≠ [] := fun z => by rw [z] at L0; simp at L0
  have N1 : q1 ≠ [] := fun z => by rw [z] at L1; simp at L1
  have AD0 : dAdd (.lst (r0.map D.int)) (.lst [.int C]) = .ok (.lst (q0.map D.int)) := by
    have zq : r0.length + 1 ≤ szL := le_szL (by omega)
    simp [dAdd, zq, hq0]
  have AD1 : dAdd (.lst (r1.map D.int)) (.lst [.int 300, .int 302]) = .ok (.lst (q1.map D.int)) := by
    have zq : r1.length + 2 ≤ szL := le_szL (by omega)
    simp [dAdd, zq, hq1]
  have k41 : dPow (.int 10) (.int 41) = .ok (.int C) := hC ▸ dPow_ok (k := 41) (by decide) (by decide)
  have k1 : nameOk "one" = true := by decide +kernel
  have k2 : nameOk "two" = true := by decide +kernel
  have q1l : ("one" : Str).length ≤ 1000 := by decide +kernel
  have q2l : ("two" : Str).length ≤ 1000 := by decide +kernel
  obtain ⟨m0, hm0⟩ : ∃ m : Int, m = v0.fmod 9 := ⟨_, rfl⟩
  obtain ⟨m1, hm1⟩ : ∃ m : Int, m = v1.fmod 9 := ⟨_, rfl⟩
  obtain ⟨m3, hm3⟩ : ∃ m : Int, m = v3.fmod 9 := ⟨_, rfl⟩
  obtain ⟨m4, hm4⟩ : ∃ m : Int, m = v4.fmod 90 := ⟨_, rfl⟩
  have f0 : 0 ≤ m0 := by rw [hm0]; exact (fmod_pos (by decide)).1
  have f1 : 0 ≤ m1 := by rw [hm1]; exact (fmod_pos (by decide)).1
  have f3 : 0 ≤ m3 := by rw [hm3]; exact (fmod_pos (by decide)).1
  obtain ⟨g, hg⟩ : ∃ g : Int, g = (q1.length : Int) + m0 := ⟨_, rfl⟩
  -- the deeds
  have w0 := rowWhy_nil R0 (by omega)
  have w1 := rowWhy_nil R1 (by omega)
  obtain ⟨h1, eh1⟩ : ∃ h, h = nxt1 [] (.build "one" q0) := ⟨_, rfl⟩
  have B1 : badS (lastF [] []) (.build "one" q0) = (("" : Str), 0) := bad_build k1 rfl (by decide) w0
  have E1 : lastF [] h1 = ([("one", rNew q0)] : StS) := by rw [eh1, nxt1_last]; rfl
  have O1 : HistOk 1 h1 := by rw [eh1]; exact nxt1_ok (HistOk_nil 0) B1
  have n1 : h1.length = 1 := by rw [eh1, nxt1_len]; rfl
  obtain ⟨h2, eh2⟩ : ∃ h, h = nxt1 h1 (.build "two" q1) := ⟨_, rfl⟩
  have B2 : badS (lastF [] h1) (.build "two" q1) = (("" : Str), 0) := by
    rw [E1]
    exact bad_build k2 (by simp [rdS, List.find?_cons, one_two]) (by simp) w1
  have E2 : lastF [] h2 = stA (rNew q0) (rNew q1) := by
    rw [eh2, nxt1_last, E1]
    show putS [("one", rNew q0)] "two" (rNew q1) = _
    simp [putS, stA, one_two]
  have O2 : HistOk 2 h2 := by rw [eh2]; exact nxt1_ok O1 B2
  have n2 : h2.length = 2 := by rw [eh2, nxt1_len, n1]
  obtain ⟨A1, eA1⟩ : ∃ A, A = addS (.lay q1 g) (rNew q0) := ⟨_, rfl⟩
  obtain ⟨h3, eh3⟩ : ∃ h, h = nxt1 h2 (.lay "one" "two" g) := ⟨_, rfl⟩
  have B3 : badS (lastF [] h2) (.lay "one" "two" g) = (("" : Str), 0) := by
    rw [E2]
    exact bad_lay12 _ _ (lay_fine N0 N1 (show q0.length + q1.length ≤ 60 by omega) (show (q1.length : Int) ≤ g by omega))
  have E3 : lastF [] h3 = stA A1 (rNew q1) := by rw [eh3, nxt1_last, E2, done_lay12, eA1]; rfl
  have O3 : HistOk 3 h3 := by rw [eh3]; exact nxt1_ok O2 B3
  have n3 : h3.length = 3 := by rw [eh3, nxt1_len, n2]
  have a1n : A1.now = layR q0 q1 g := by rw [eA1]; rfl
  have a1e : A1.ents = [.lay q1 g] := by rw [eA1]; rfl
  have a1f : A1.first = q0 := by rw [eA1]; rfl
  obtain ⟨T1, eT1⟩ : ∃ T, T = addS (.walk (1 + m1) v2) (rNew q1) := ⟨_, rfl⟩
  obtain ⟨h4, eh4⟩ : ∃ h, h = nxt1 h3 (.walk "two" (1 + m1) v2) := ⟨_, rfl⟩
  have B4 : badS (lastF [] h3) (.walk "two" (1 + m1) v2) = (("" : Str), 0) := by
    rw [E3]
    exact bad_walk2 _ _ (by omega)
  have E4 : lastF [] h4 = stA A1 T1 := by rw [eh4, nxt1_last, E3, done_walk2, eT1]
  have O4 : HistOk 4 h4 := by rw [eh4]; exact nxt1_ok O3 B4
  have n4 : h4.length = 4 := by rw [eh4, nxt1_len, n3]
  have t1l : T1.now.length = q1.length := by rw [eT1]; exact farR_len q1 _
  have t1r : Rising T1.now := by
    have z := lastF_ok O4
    rw [E4] at z
    exact (stOk_road z (rdA2 _ _)).nr
  obtain ⟨y1, y2, ys, ey⟩ : ∃ a b ys, T1.now = a :: b :: ys := by
    have := L1.2
    match q : T1.now with
    | [] => rw [q] at t1l; simp at t1l; omega
    | [_] => rw [q] at t1l; simp at t1l; omega
    | a :: b :: ys => exact ⟨a, b, ys, rfl⟩
  have y12 : y1 < y2 := by
    rw [ey] at t1r
    exact (List.pairwise_cons.mp t1r).1 y2 List.mem_cons_self
  have t1h : T1.now.headD 0 = y1 := by rw [ey]; rfl
  obtain ⟨T2, eT2⟩ : ∃ T, T = addS (.take y1) T1 := ⟨_, rfl⟩
  obtain ⟨h5, eh5⟩ : ∃ h, h = nxt1 h4 (.take "two" y1) := ⟨_, rfl⟩
  have B5 : badS (lastF [] h4) (.take "two" y1) = (("" : Str), 0) := by
    rw [E4]
    exact bad_take2 _ _ (by rw [ey]; exact List.mem_cons_self)
  have E5 : lastF [] h5 = stA A1 T2 := by rw [eh5, nxt1_last, E4, done_take2, eT2]
  have O5 : HistOk 5 h5 := by rw [eh5]; exact nxt1_ok O4 B5
  have n5 : h5.length = 5 := by rw [eh5, nxt1_len, n4]
  have t2n : T2.now = T1.now.filter fun x => decide (x ≠ y1) := by rw [eT2]; rfl
  have t2l : T2.now.length ≤ 10 := by
    rw [t2n]
    have := List.length_filter_le (fun x => decide (x ≠ y1)) T1.now
    omega
  have t20 : T2.now ≠ [] := fun z => by
    have : y2 ∈ T2.now := by
      rw [t2n, ey]
      exact List.mem_filter.mpr ⟨by simp, by simp; omega⟩
    rw [z] at this
    cases this
  obtain ⟨T3, eT3⟩ : ∃ T, T = addS (.lay T2.now (20 + m3)) T2 := ⟨_, rfl⟩
  obtain ⟨h6, eh6⟩ : ∃ h, h = nxt1 h5 (.lay "two" "two" (20 + m3)) := ⟨_, rfl⟩
  have B6 : badS (lastF [] h5) (.lay "two" "two" (20 + m3)) = (("" : Str), 0) := by
    rw [E5]
    exact bad_lay22 _ _ (lay_fine t20 t20 (by omega) (by omega))
  have E6 : lastF [] h6 = stA A1 T3 := by rw [eh6, nxt1_last, E5, done_lay22, eT3]
  have O6 : HistOk 6 h6 := by rw [eh6]; exact nxt1_ok O5 B6
  have n6 : h6.length = 6 := by rw [eh6, nxt1_len, n5]
  have B7 : badS (lastF [] h6) (.shut "two") = (("" : Str), 0) := by rw [E6]; exact bad_shut2 _ _
  have O7 : HistOk 7 (nxt1 h6 (.shut "two")) := nxt1_ok O6 B7
  obtain ⟨pp, epp⟩ : ∃ p : Deed × StS, p = (.shut "two", doneS (lastF [] h6) (.shut "two")) := ⟨_, rfl⟩
  have e7 : nxt1 h6 (.shut "two") = h6 ++ [pp] := by rw [epp]; rfl
  have lt := late_two q0 q1 g m4 (by omega) (by omega) N0 N1 (by omega)
  have lt' : goneS 0 A1.first (lateS A1.ents 0 2 m4) = (none, layR (farR q0 [(2, m4)]) q1 g) := by rw [a1e, a1f]; exact lt
  obtain ⟨A2, eA2⟩ : ∃ A, A = anewS (lateS A1.ents 0 2 m4) A1 := ⟨_, rfl⟩
  have a2n : A2.now = layR (farR q0 [(2, m4)]) q1 g := by
    rw [eA2]
    show (goneS 0 A1.first (lateS A1.ents 0 2 m4)).2 = _
    rw [lt']
  obtain ⟨h8, eh8⟩ : ∃ h, h = nxt1 h6 (.late "one" 0 2 m4) := ⟨_, rfl⟩
  have B8 : badS (lastF [] h6) (.late "one" 0 2 m4) = (("" : Str), 0) := by rw [E6]; exact bad_late1 _ _ lt'
  have E8 : lastF [] h8 = stA A2 T3 := by rw [eh8, nxt1_last, E6, done_late1, eA2]
  have O8 : HistOk 7 h8 := by rw [eh8]; exact nxt1_ok O6 B8
  have n8 : h8.length = 7 := by rw [eh8, nxt1_len, n6]
  -- what the methods do
  have M1 : f_House_build [houseH [] [], .str "one", .lst (q0.map D.int)] = .rt .non [some (houseH h1 [])] := by
    rw [eh1]
    exact (meth_build (lastF_ok (HistOk_nil 0)) (by decide) (dnF [] []) [] (by decide) "one" q1l q0 (by omega)).trans (outH B1)
  have M2 : f_House_build [houseH h1 [], .str "two", .lst (q1.map D.int)] = .rt .non [some (houseH h2 [])] := by
    rw [eh2]
    exact (meth_build (lastF_ok O1) (by decide) (dnF [] h1) [] (dnF_le (by omega)) "two" q2l q1 (by omega)).trans (outH B2)
  have M3 : f_House_lay [houseH h2 [], .str "one", .str "two", .int g] = .rt .non [some (houseH h3 [])] := by
    rw [eh3]
    exact (meth_lay (lastF_ok O2) (by decide) (dnF [] h2) [] (dnF_le (by omega)) "one" "two" g).trans (outH B3)
  have M4 : f_House_walk [houseH h3 [], .str "two", .int (1 + m1), .int v2] = .rt .non [some (houseH h4 [])] := by
    rw [eh4]
    exact (meth_walk (lastF_ok O3) (by decide) (dnF [] h3) [] (dnF_le (by omega)) "two" (1 + m1) v2).trans (outH B4)
  have M5 : f_House_take [houseH h4 [], .str "two", .int y1] = .rt .non [some (houseH h5 [])] := by
    rw [eh5]
    exact (meth_take (lastF_ok O4) (by decide) (dnF [] h4) [] (dnF_le (by omega)) "two" y1).trans (outH B5)
  have M6 : f_House_lay [houseH h5 [], .str "two", .str "two", .int (20 + m3)] = .rt .non [some (houseH h6 [])] := by
    rw [eh6]
    exact (meth_lay (lastF_ok O5) (by decide) (dnF [] h5) [] (dnF_le (by omega)) "two" "two" (20 + m3)).trans (outH B6)
  have M7 : f_House_shut [houseH h6 [], .str "two"] = .rt .non [some (houseH (h6 ++ [pp]) [])] := by
    rw [← e7]
    exact (meth_shut (lastF_ok O6) (by decide) (dnF [] h6) [] (dnF_le (by omega)) "two").trans (outH B7)
  have M8 : f_House_back [houseH (h6 ++ [pp]) []] = .rt (deedD pp.1) [some (houseH h6 [pp])] := backH h6 [] pp (by decide)
  have M9 : f_House_late [houseH h6 [pp], .str "one", .int 0, .int 2, .int m4] = .rt .non [some (houseH h8 [])] := by
    rw [eh8]
    exact (meth_late (lastF_ok O6) (by decide) (dnF [] h6) _ (dnF_le (by omega)) "one" 0 2 m4).trans (outH B8)
  -- what is told
  have road : ∀ {n : Nat} {h : Hist} {A B : RoadS}, HistOk n h → lastF [] h = stA A B → RoadOk n A ∧ RoadOk n B := fun {n h A B} o e => by
    have z := lastF_ok o
    rw [e] at z
    exact ⟨stOk_road z (rdA1 _ _), stOk_road z (rdA2 _ _)⟩
  have rw1 : ∀ (h ah : Hist) (A B : RoadS), lastF [] h = stA A B → dMethR "House" "row" f_House_row (houseH h ah) (.ok [.str "one"]) = .ok (.lst (A.now.map D.int)) := fun h ah A B hs => (meth_hrow _ _ _ _ _).trans (hrow_some (by rw [hs]; exact rdA1 A B))
  have rw2 : ∀ (h ah : Hist) (A B : RoadS), lastF [] h = stA A B → dMethR "House" "row" f_House_row (houseH h ah) (.ok [.str "two"]) = .ok (.lst (B.now.map D.int)) := fun h ah A B hs => (meth_hrow _ _ _ _ _).trans (hrow_some (by rw [hs]; exact rdA2 A B))
  have lg1 : ∀ (h ah : Hist) (A B : RoadS), lastF [] h = stA A B → dMethR "House" "log" f_House_log (houseH h ah) (.ok [.str "one"]) = .ok (.lst (A.ents.map entD)) := fun h ah A B hs => (meth_hlog _ _ _ _ _).trans (hlog_some (by rw [hs]; exact rdA1 A B))
  have sp : ∀ {n : Nat} {h ah : Hist} {A B : RoadS}, HistOk n h → lastF [] h = stA A B → n ≤ 900 → h.length ≤ 900 → ah.length ≤ 900 → f_spoil_L [houseH h ah] = .ok .non := fun {n h ah A B} o e a b c => spoil_ok (view_ok h ah A B e) (view_lens (road o e).1 (road o e).2 a b c)
  have V2 := view_ok h2 [] _ _ E2
  have s2v := same_refl 8 _ (by decide) (view_pl O2 (HistOk_nil 2) (road O2 E2).1 (road O2 E2).2 (by decide) (by omega) (show ([] : Hist).length ≤ 900 by decide))
  have sp2 : f_spoil_L [houseH h2 []] = .ok .non := sp O2 E2 (by decide) (by omega) (by decide)
  have sp6 : f_spoil_L [houseH h6 []] = .ok .non := sp O6 E6 (by decide) (by omega) (by decide)
  have sp8 : f_spoil_L [houseH h8 []] = .ok .non := sp O8 E8 (by decide) (by omega) (by decide)
  have ra := rw1 h2 [] _ _ E2
  have rb := rw2 h2 [] _ _ E2
  have rc := rw2 h4 [] _ _ E4
  have rd := rw1 h6 [] _ _ E6
  have re := rw1 h8 [] _ _ E8
  have lg := lg1 h6 [] _ _ E6
  have dd : dMethR "House" "deeds" f_House_deeds (houseH h8 []) (.ok []) = .ok (.lst (h8.map fun p => deedD p.1)) := (meth_hdeeds _ _ _ _ _).trans (deedsH h8 [])
  have s2 : (2 : Nat) ≤ szL := le_szL (by decide)
  have s1 : (1 : Nat) ≤ szL := le_szL (by decide)
  have s3 : (3 : Nat) ≤ szL := le_szL (by decide)
  have s4 : (4 : Nat) ≤ szL := le_szL (by decide)
  have s5 : (5 : Nat) ≤ szL := le_szL (by decide)
  have s0 : (0 : Nat) ≤ szL := Nat.zero_le _
  have iQ0 : dIdx (.lst [.lst (q0.map D.int), .lst (q1.map D.int)]) (.int 0) = .ok (.lst (q0.map D.int)) := dIdx_list (i := 0) rfl
  have iQ1 : dIdx (.lst [.lst (q0.map D.int), .lst (q1.map D.int)]) (.int 1) = .ok (.lst (q1.map D.int)) := dIdx_list (i := 1) rfl
  have ln : fLen [.lst (q1.map D.int)] = .ok (.int (q1.length : Int)) := by simp [fLen]
  have fl : ∀ x : List Int, x.length ≤ 500 → fList [.lst (x.map D.int)] = .ok (.lst (x.map D.int)) := fun x hx => by
    have z : (x.map D.int).length ≤ szL := le_szL (by rw [List.length_map]; omega)
    generalize x.map D.int = X at *
    simp [fList, z]
  have fl0 := fl q0 (by omega)
  have fl1 := fl q1 (by omega)
  have ft : fTuple [.lst (q1.map D.int)] = .ok (.tup (q1.map D.int)) := by
    have z : (q1.map D.int).length ≤ szL := le_szL (by rw [List.length_map]; omega)
    generalize q1.map D.int = X at *
    simp [fTuple, z]
  have bh := behind_lay q0 q1 g (by omega) (by omega) N0 N1
  have fr := far_ok q0 [(2, m4)] R0 (by omega) (fun w hw => by rw [List.mem_singleton.mp hw]; show (1 : Int) ≤ 2; decide)
  have fr' : f_far [.lst (q0.map D.int), .lst [.tup [.int 2, .int m4]]] = .ok (.lst ((farR q0 [(2, m4)]).map D.int)) := fr
  have fn : farR q0 [(2, m4)] ≠ [] := fun z => by
    have w := farR_len q0 [(2, m4)]
    rw [z] at w
    simp at w
    omega
  have bh2 := behind_lay (farR q0 [(2, m4)]) q1 g (by rw [farR_len]; omega) (by omega) fn N1
  have y0 : dIdx (.lst (T1.now.map D.int)) (.int 0) = .ok (.int y1) := by
    rw [← t1h]
    exact head_getD T1.now (by rw [ey]; exact fun z => nomatch z)
  have pq : ∀ x : List Int, x.length ≤ 500 → pl 2 (.lst (x.map D.int)) = true := fun x hx => pl_ints (n := 0) (le_szL (by omega))
  have sR := same_refl 8 (.lst [.lst (q0.map D.int), .lst (q1.map D.int)]) (by decide) (pl_up 7 _ (pl_up 6 _ (pl_up 5 _ (pl_up 4 _ (pl_up 3 _ (pl_lstOf 2 _ (fun w hw => by
    simp only [List.mem_cons, List.not_mem_nil, or_false] at hw
    rcases hw with e | e <;> subst e
    · exact pq q0 (by omega)
    · exact pq q1 (by omega)) (le_szL (by simp))))))))
  have lay1 : (layR q0 q1 g).length ≤ 60 := by unfold layR; simp; omega
  have lay2 : (layR (farR q0 [(2, m4)]) q1 g).length ≤ 60 := by unfold layR; simp [farR_len]; omega
  obtain ⟨_, ne1⟩ := eq_refl46 (n := 2) (by decide) (pq (layR q0 q1 g) (by omega))
  obtain ⟨eq2, _⟩ := eq_refl46 (n := 2) (by decide) (pq (layR (farR q0 [(2, m4)]) q1 g) (by omega))
  have ents1 : A1.ents.map entD = [.tup [.str "lay", .tup (q1.map D.int), .int g]] := by rw [a1e]; rfl
  obtain ⟨_, ne2⟩ := eq_refl46 (n := 4) (by decide) (pl_ents A1.ents (road O6 E6).1.es (by have := (road O6 E6).1.el; omega) 0)
  rw [ents1] at lg ne2
  rw [a1n] at rd
  rw [a2n] at re
  have eh8' : h8 = h6 ++ [(.late "one" 0 2 m4, doneS (lastF [] h6) (.late "one" 0 2 m4))] := eh8
  have dl : dIdx (.lst (h8.map fun p => deedD p.1)) (.int (-1)) = .ok (.tup [.str "late", .str "one", .int 0, .int 2, .int m4]) := by
    rw [eh8', List.map_append]
    exact last_it _ _
  obtain ⟨eqD, _⟩ := eq_refl46 (n := 6) (d := .tup [.str "late", .str "one", .int 0, .int 2, .int m4]) (by decide) (by
    have z := (O8.all _ (by rw [eh8']; exact List.mem_append.mpr (.inr List.mem_cons_self))).2
    exact z)
  have sg : dAdd (.int (q1.length : Int)) (.int (v0.fmod 9)) = .ok (.int g) := by rw [hg, hm0]; rfl
  obtain ⟨X4, hX4⟩ := handed_ok (.scr ns) (.lst (l.map D.int)) (.lst [.lst (q0.map D.int), .lst (q1.map D.int)]) (houseH h2 []) (q0.map D.int) (q1.map D.int) (by simp; omega) (by simp; omega) none none none none none none
  show outF (m_law [some (.scr ns), none, none, none, none, none, none, none, none, none, none]) = _
  unfold m_law
  rw [seq_nx (r' := [some (.scr ns), some (.lst (l.map D.int)), none, none, none, none, none, none, none, none, none]) (by simp [e1'])]
  rw [seq_nx (r' := [some (.scr ns), some (.lst (l.map D.int)), some (.lst [.lst (q0.map D.int), .lst (q1.map D.int)]), none, none, none, none, none, none, none, none]) (by simp [c5, c20, er0', er1', k41, AD0, AD1, s1, s2, -dIdx, -dAdd, -dPow])]
  rw [seq_nx (r' := [some (.scr ns), some (.lst (l.map D.int)), some (.lst [.lst (q0.map D.int), .lst (q1.map D.int)]), some (houseH [] []), none, none, none, none, none, none, none]) (by simp [house_new, -dMake]; rfl)]
  rw [seq_nx (r' := [some (.scr ns), some (.lst (l.map D.int)), some (.lst [.lst (q0.map D.int), .lst (q1.map D.int)]), some (houseH [] []), some (.lst [.lst (q0.map D.int), .lst (q1.map D.int)]), none, none, none, none, none, none]) (by
    have cp : gComp (gIter (gVar 2)) (.one 5) [5] gYes (gCall fList (VL.gCons (gVar 5) VL.gNil)) [some (.scr ns), some (.lst (l.map D.int)), some (.lst [.lst (q0.map D.int), .lst (q1.map D.int)]), some (houseH [] []), none, none, none, none, none, none, none] = .ok (.lst [.lst (q0.map D.int), .lst (q1.map D.int)]) := by
      generalize houseH [] [] = HH at *
      generalize q0.map D.int = Q0 at *
      generalize q1.map D.int = Q1 at *
      simp [gComp, gTurn, mapR, noX, dIter, fl0, fl1, -fList]
    simp [cp])]
  rw [seq_nx (r' := [some (.scr ns), some (.lst (l.map D.int)), some (.lst [.lst (q0.map D.int), .lst (q1.map D.int)]), some (houseH h1 []), some (.lst [.lst (q0.map D.int), .lst (q1.map D.int)]), none, none, none, none, none, none]) (meth_I (k := 0) rfl rfl rfl rfl M1)]
  rw [seq_nx (r' := [some (.scr ns), some (.lst (l.map D.int)), some (.lst [.lst (q0.map D.int), .lst (q1.map D.int)]), some (houseH h2 []), some (.lst [.lst (q0.map D.int), .lst (q1.map D.int)]), none, none, none, none, none, none]) (meth_I (k := 1) rfl rfl rfl rfl M2)]
  rw [seq_nx (r' := [some (.scr ns), some (.lst (l.map D.int)), some (.lst [.lst (q0.map D.int), .lst (q1.map D.int)]), some (houseH h2 []), some X4, none, none, none, none, none, none]) (hX4)]
  rw [seq_nx (r' := [some (.scr ns), some (.lst (l.map D.int)), some (.lst [.lst (q0.map D.int), .lst (q1.map D.int)]), some (houseH h2 []), some X4, none, none, none, none, none, none]) (by generalize houseH h2 [] = HH at *; simp [ra, rb, rNew, sR, s2, -dIdx])]
  rw [seq_nx (r' := [some (.scr ns), some (.lst (l.map D.int)), some (.lst [.lst (q0.map D.int), .lst (q1.map D.int)]), some (houseH h2 []), some X4, none, none, some (.lst (viewL h2 [] (rNew q0) (rNew q1))), none, none, none]) (by generalize houseH h2 [] = HH at *; simp [V2])]
  rw [seq_nx (r' := [some (.scr ns), some (.lst (l.map D.int)), some (.lst [.lst (q0.map D.int), .lst (q1.map D.int)]), some (houseH h2 []), some X4, none, none, some (.lst (viewL h2 [] (rNew q0) (rNew q1))), none, none, none]) (by generalize houseH h2 [] = HH at *; simp [sp2])]
  rw [seq_nx (r' := [some (.scr ns), some (.lst (l.map D.int)), some (.lst [.lst (q0.map D.int), .lst (q1.map D.int)]), some (houseH h2 []), some X4, none, none, some (.lst (viewL h2 [] (rNew q0) (rNew q1))), none, none, none]) (by generalize houseH h2 [] = HH at *; simp [V2, s2v])]
  rw [seq_nx (r' := [some (.scr ns), some (.lst (l.map D.int)), some (.lst [.lst (q0.map D.int), .lst (q1.map D.int)]), some (houseH h3 []), some X4, none, none, some (.lst (viewL h2 [] (rNew q0) (rNew q1))), none, none, none]) (exprX_hs (ds := [.str "one", .str "two", .int g]) rfl (by simp [iQ1, ln, g0, sg, -dIdx, -dAdd, -fLen]) M3)]
  rw [seq_nx (r' := [some (.scr ns), some (.lst (l.map D.int)), some (.lst [.lst (q0.map D.int), .lst (q1.map D.int)]), some (houseH h3 []), some X4, none, none, some (.lst (viewL h2 [] (rNew q0) (rNew q1))), some (.lst ((layR q0 q1 g).map D.int)), none, none]) (by simp [iQ0, iQ1, ln, g0, sg, bh, -dIdx, -dAdd, -fLen])]
  rw [seq_nx (r' := [some (.scr ns), some (.lst (l.map D.int)), some (.lst [.lst (q0.map D.int), .lst (q1.map D.int)]), some (houseH h4 []), some X4, none, none, some (.lst (viewL h2 [] (rNew q0) (rNew q1))), some (.lst ((layR q0 q1 g).map D.int)), none, none]) (exprX_hs (ds := [.str "two", .int (1 + m1), .int v2]) rfl (by simp [g1, g2, hm1, -dIdx]) M4)]
  rw [seq_nx (r' := [some (.scr ns), some (.lst (l.map D.int)), some (.lst [.lst (q0.map D.int), .lst (q1.map D.int)]), some (houseH h5 []), some X4, none, none, some (.lst (viewL h2 [] (rNew q0) (rNew q1))), some (.lst ((layR q0 q1 g).map D.int)), none, none]) (exprX_hs (ds := [.str "two", .int y1]) rfl (by generalize houseH h4 [] = HH at *; simp [rc, y0, -dIdx]) M5)]
  rw [seq_nx (r' := [some (.scr ns), some (.lst (l.map D.int)), some (.lst [.lst (q0.map D.int), .lst (q1.map D.int)]), some (houseH h6 []), some X4, none, none, some (.lst (viewL h2 [] (rNew q0) (rNew q1))), some (.lst ((layR q0 q1 g).map D.int)), none, none]) (exprX_hs (ds := [.str "two", .str "two", .int (20 + m3)]) rfl (by simp [g3, hm3, -dIdx]) M6)]
  rw [seq_nx (r' := [some (.scr ns), some (.lst (l.map D.int)), some (.lst [.lst (q0.map D.int), .lst (q1.map D.int)]), some (houseH h6 []), some X4, none, none, some (.lst (viewL h2 [] (rNew q0) (rNew q1))), some (.lst ((layR q0 q1 g).map D.int)), none, none]) (by generalize houseH h6 [] = HH at *; simp [sp6])]
  rw [seq_nx (r' := [some (.scr ns), some (.lst (l.map D.int)), some (.lst [.lst (q0.map D.int), .lst (q1.map D.int)]), some (houseH h6 []), some X4, none, none, some (.lst (viewL h2 [] (rNew q0) (rNew q1))), some (.lst ((layR q0 q1 g).map D.int)), none, none]) (by generalize houseH h6 [] = HH at *; simp [rd, lg, ne1, ne2, iQ1, ln, g0, sg, ft, s1, s3, -dIdx, -dAdd, -fLen, -fTuple, -dNe])]
  rw [seq_nx (r' := [some (.scr ns), some (.lst (l.map D.int)), some (.lst [.lst (q0.map D.int), .lst (q1.map D.int)]), some (houseH (h6 ++ [pp]) []), some X4, none, none, some (.lst (viewL h2 [] (rNew q0) (rNew q1))), some (.lst ((layR q0 q1 g).map D.int)), none, none]) (exprX_hs (ds := [.str "two"]) rfl (by simp) M7)]
  rw [seq_nx (r' := [some (.scr ns), some (.lst (l.map D.int)), some (.lst [.lst (q0.map D.int), .lst (q1.map D.int)]), some (houseH h6 [pp]), some X4, none, none, some (.lst (viewL h2 [] (rNew q0) (rNew q1))), some (.lst ((layR q0 q1 g).map D.int)), none, none]) (exprX_hs (ds := []) rfl (by simp) M8)]
  rw [seq_nx (r' := [some (.scr ns), some (.lst (l.map D.int)), some (.lst [.lst (q0.map D.int), .lst (q1.map D.int)]), some (houseH h8 []), some X4, none, none, some (.lst (viewL h2 [] (rNew q0) (rNew q1))), some (.lst ((layR q0 q1 g).map D.int)), none, none]) (exprX_hs (ds := [.str "one", .int 0, .int 2, .int m4]) rfl (by simp [g4, hm4, -dIdx]) M9)]
  rw [seq_nx (r' := [some (.scr ns), some (.lst (l.map D.int)), some (.lst [.lst (q0.map D.int), .lst (q1.map D.int)]), some (houseH h8 []), some X4, none, none, some (.lst (viewL h2 [] (rNew q0) (rNew q1))), some (.lst ((layR q0 q1 g).map D.int)), some (.lst ((farR q0 [(2, m4)]).map D.int)), none]) (by simp [iQ0, fl0, g4, ← hm4, fr', s1, s2, -dIdx, -fList])]
  rw [seq_nx (r' := [some (.scr ns), some (.lst (l.map D.int)), some (.lst [.lst (q0.map D.int), .lst (q1.map D.int)]), some (houseH h8 []), some X4, none, none, some (.lst (viewL h2 [] (rNew q0) (rNew q1))), some (.lst ((layR q0 q1 g).map D.int)), some (.lst ((farR q0 [(2, m4)]).map D.int)), none]) (by generalize houseH h8 [] = HH at *; simp [sp8])]
  rw [seq_nx (r' := [some (.scr ns), some (.lst (l.map D.int)), some (.lst [.lst (q0.map D.int), .lst (q1.map D.int)]), some (houseH h8 []), some X4, none, none, some (.lst (viewL h2 [] (rNew q0) (rNew q1))), some (.lst ((layR q0 q1 g).map D.int)), some (.lst ((farR q0 [(2, m4)]).map D.int)), some (.lst ((layR (farR q0 [(2, m4)]) q1 g).map D.int))]) (by simp [iQ1, ln, g0, sg, bh2, -dIdx, -dAdd, -fLen])]
  generalize houseH h8 [] = HH at *
  simp [re, dd, dl, eq2, eqD, g4, ← hm4, s5, vAnd, -dIdx, -dEq]


def methS (i j : Nat) : Stmt := match PySem.Challenge.pw_creelway_k46_nothing_handed_in_or_told_i.main.body.getD i (.Pass ⟨0, 0, 0, 0⟩) with
  | .ClassDef _ _ _ b _ _ _ _ _ _ _ => b.getD j (.Pass ⟨0, 0, 0, 0⟩)
  | s => s
def initS (i : Nat) : Stmt := match PySem.Challenge.pw_creelway_k46_nothing_handed_in_or_told_i.main.body.getD i (.Pass ⟨0, 0, 0, 0⟩) with
  | .ClassDef _ _ _ b _ _ _ _ _ _ _ => b.getD 0 (.Pass ⟨0, 0, 0, 0⟩)
  | s => s
def topS (i : Nat) : Stmt := PySem.Challenge.pw_creelway_k46_nothing_handed_in_or_told_i.main.body.getD i (.Pass ⟨0, 0, 0, 0⟩)
abbrev kk_Road : List (Str × Kd) := [("first", .val), ("entries", .val), ("now", .val)]
theorem knd_Road : (kk_Road.map (·.1)).Nodup := by decide +kernel
abbrev kk_House : List (Str × Kd) := [("by_name", .val), ("done", .own none), ("gone", .own none)]
theorem knd_House : (kk_House.map (·.1)).Nodup := by decide +kernel
theorem kno_House_become : ("become" : Str) ∉ kk_House.map (·.1) := by decide +kernel
theorem kno_House_build : ("build" : Str) ∉ kk_House.map (·.1) := by decide +kernel
theorem kno_House_lay : ("lay" : Str) ∉ kk_House.map (·.1) := by decide +kernel
theorem kno_House_walk : ("walk" : Str) ∉ kk_House.map (·.1) := by decide +kernel
theorem kno_House_take : ("take" : Str) ∉ kk_House.map (·.1) := by decide +kernel
theorem kno_House_shut : ("shut" : Str) ∉ kk_House.map (·.1) := by decide +kernel
theorem kno_House_back : ("back" : Str) ∉ kk_House.map (·.1) := by decide +kernel
theorem kno_House_late : ("late" : Str) ∉ kk_House.map (·.1) := by decide +kernel
theorem nq_BadCreel : NmOk "BadCreel" := by constructor <;> decide
theorem nq_BadName : NmOk "BadName" := by constructor <;> decide
theorem nq_BadRow : NmOk "BadRow" := by constructor <;> decide
theorem nq_Bare : NmOk "Bare" := by constructor <;> decide
theorem nq_Clash : NmOk "Clash" := by constructor <;> decide
theorem nq_CreelError : NmOk "CreelError" := by constructor <;> decide
theorem nq_Full : NmOk "Full" := by constructor <;> decide
theorem nq_House : NmOk "House" := by constructor <;> decide
theorem nq_LETTERS : NmOk "LETTERS" := by constructor <;> decide
theorem nq_Laid : NmOk "Laid" := by constructor <;> decide
theorem nq_MOST_ROADS : NmOk "MOST_ROADS" := by constructor <;> decide
theorem nq_MOST_SIGNS : NmOk "MOST_SIGNS" := by constructor <;> decide
theorem nq_MOST_STONES : NmOk "MOST_STONES" := by constructor <;> decide
theorem nq_NoEntry : NmOk "NoEntry" := by constructor <;> decide
theorem nq_NoRoad : NmOk "NoRoad" := by constructor <;> decide
theorem nq_NoStone : NmOk "NoStone" := by constructor <;> decide
theorem nq_NothingLeft : NmOk "NothingLeft" := by constructor <;> decide
theorem nq_Road : NmOk "Road" := by constructor <;> decide
theorem nq_Taken : NmOk "Taken" := by constructor <;> decide
theorem nq_TooMany : NmOk "TooMany" := by constructor <;> decide
theorem nq_TooNear : NmOk "TooNear" := by constructor <;> decide
theorem nq__law_again : NmOk "_law_again" := by constructor <;> decide
theorem nq__law_ahead : NmOk "_law_ahead" := by constructor <;> decide
theorem nq__law_behind : NmOk "_law_behind" := by constructor <;> decide
theorem nq__law_both : NmOk "_law_both" := by constructor <;> decide
theorem nq__law_by : NmOk "_law_by" := by constructor <;> decide
theorem nq__law_cell : NmOk "_law_cell" := by constructor <;> decide
theorem nq__law_cut : NmOk "_law_cut" := by constructor <;> decide
theorem nq__law_d : NmOk "_law_d" := by constructor <;> decide
theorem nq__law_due : NmOk "_law_due" := by constructor <;> decide
theorem nq__law_first : NmOk "_law_first" := by constructor <;> decide
theorem nq__law_found : NmOk "_law_found" := by constructor <;> decide
theorem nq__law_gap : NmOk "_law_gap" := by constructor <;> decide
theorem nq__law_handed : NmOk "_law_handed" := by constructor <;> decide
theorem nq__law_house : NmOk "_law_house" := by constructor <;> decide
theorem nq__law_k : NmOk "_law_k" := by constructor <;> decide
theorem nq__law_long_row : NmOk "_law_long_row" := by constructor <;> decide
theorem nq__law_many : NmOk "_law_many" := by constructor <;> decide
theorem nq__law_most : NmOk "_law_most" := by constructor <;> decide
theorem nq__law_name : NmOk "_law_name" := by constructor <;> decide
theorem nq__law_numbers : NmOk "_law_numbers" := by constructor <;> decide
theorem nq__law_numbers_here : NmOk "_law_numbers_here" := by constructor <;> decide
theorem nq__law_one : NmOk "_law_one" := by constructor <;> decide
theorem nq__law_other : NmOk "_law_other" := by constructor <;> decide
theorem nq__law_place : NmOk "_law_place" := by constructor <;> decide
theorem nq__law_rest : NmOk "_law_rest" := by constructor <;> decide
theorem nq__law_row : NmOk "_law_row" := by constructor <;> decide
theorem nq__law_row_here : NmOk "_law_row_here" := by constructor <;> decide
theorem nq__law_rows : NmOk "_law_rows" := by constructor <;> decide
theorem nq__law_same : NmOk "_law_same" := by constructor <;> decide
theorem nq__law_script : NmOk "_law_script" := by constructor <;> decide
theorem nq__law_seed : NmOk "_law_seed" := by constructor <;> decide
theorem nq__law_some : NmOk "_law_some" := by constructor <;> decide
theorem nq__law_spoil : NmOk "_law_spoil" := by constructor <;> decide
theorem nq__law_step : NmOk "_law_step" := by constructor <;> decide
theorem nq__law_view : NmOk "_law_view" := by constructor <;> decide
theorem nq_added_to : NmOk "added_to" := by constructor <;> decide
theorem nq_ahead : NmOk "ahead" := by constructor <;> decide
theorem nq_at : NmOk "at" := by constructor <;> decide
theorem nq_behind_entry : NmOk "behind_entry" := by constructor <;> decide
theorem nq_best : NmOk "best" := by constructor <;> decide
theorem nq_by : NmOk "by" := by constructor <;> decide
theorem nq_by_walks : NmOk "by_walks" := by constructor <;> decide
theorem nq_count : NmOk "count" := by constructor <;> decide
theorem nq_creel : NmOk "creel" := by constructor <;> decide
theorem nq_deed : NmOk "deed" := by constructor <;> decide
theorem nq_entries : NmOk "entries" := by constructor <;> decide
theorem nq_entry : NmOk "entry" := by constructor <;> decide
theorem nq_far : NmOk "far" := by constructor <;> decide
theorem nq_first : NmOk "first" := by constructor <;> decide
theorem nq_found : NmOk "found" := by constructor <;> decide
theorem nq_fresh : NmOk "fresh" := by constructor <;> decide
theorem nq_gap : NmOk "gap" := by constructor <;> decide
theorem nq_gone_over : NmOk "gone_over" := by constructor <;> decide
theorem nq_grown : NmOk "grown" := by constructor <;> decide
theorem nq_is_name : NmOk "is_name" := by constructor <;> decide
theorem nq_laid : NmOk "laid" := by constructor <;> decide
theorem nq_laid_behind : NmOk "laid_behind" := by constructor <;> decide
theorem nq_left : NmOk "left" := by constructor <;> decide
theorem nq_list_of : NmOk "list_of" := by constructor <;> decide
theorem nq_longest_ripe : NmOk "longest_ripe" := by constructor <;> decide
theorem nq_look_creel : NmOk "look_creel" := by constructor <;> decide
theorem nq_look_row : NmOk "look_row" := by constructor <;> decide
theorem nq_look_walks : NmOk "look_walks" := by constructor <;> decide
theorem nq_many : NmOk "many" := by constructor <;> decide
theorem nq_mark : NmOk "mark" := by constructor <;> decide
theorem nq_mirrored : NmOk "mirrored" := by constructor <;> decide
theorem nq_name : NmOk "name" := by constructor <;> decide
theorem nq_next_place : NmOk "next_place" := by constructor <;> decide
theorem nq_now : NmOk "now" := by constructor <;> decide
theorem nq_offset : NmOk "offset" := by constructor <;> decide
theorem nq_one : NmOk "one" := by constructor <;> decide
theorem nq_other : NmOk "other" := by constructor <;> decide
theorem nq_own : NmOk "own" := by constructor <;> decide
theorem nq_place : NmOk "place" := by constructor <;> decide
theorem nq_put_in : NmOk "put_in" := by constructor <;> decide
theorem nq_road : NmOk "road" := by constructor <;> decide
theorem nq_row : NmOk "row" := by constructor <;> decide
theorem nq_self : NmOk "self" := by constructor <;> decide
theorem nq_share : NmOk "share" := by constructor <;> decide
theorem nq_shortest_ripe : NmOk "shortest_ripe" := by constructor <;> decide
theorem nq_shrunk : NmOk "shrunk" := by constructor <;> decide
theorem nq_sign : NmOk "sign" := by constructor <;> decide
theorem nq_size : NmOk "size" := by constructor <;> decide
theorem nq_stones_of : NmOk "stones_of" := by constructor <;> decide
theorem nq_taken_out : NmOk "taken_out" := by constructor <;> decide
theorem nq_text : NmOk "text" := by constructor <;> decide
theorem nq_trains : NmOk "trains" := by constructor <;> decide
theorem nq_walks : NmOk "walks" := by constructor <;> decide
abbrev st_look_row : Stmt := topS 19
abbrev N_look_row : List Str := ["row", "at"]
theorem sc_look_row : FnScope N_look_row ["row"] (defScope st_look_row) := ⟨rfl, rfl, rfl, by decide +kernel, rfl, by decide +kernel, by decide +kernel⟩
theorem nd_look_row : N_look_row.Nodup := sc_look_row.nd
theorem ok_look_row [md : Md] {P : Program} {w : World} {K : PySem.W.Frag} {mg : Str → Option Value} {base : Heap} {cl : Cl} {fa : Addr} {fd : FuncData} (B : Bl mg) (hK : cl.K = K) (F : Fun K "look_row" "look_row" st_look_row fa fd) (gm : mg "look_row" = some (.ref fa)) (bn : Binds K fd ["row"] []) {t_MOST_STONES : Tok} (C_MOST_STONES : mg "MOST_STONES" = some (.int 60 t_MOST_STONES)) (X_BadRow : XAt P w K mg base cl "BadRow" 1) (X_TooMany : XPlain K mg cl "TooMany") : Fi P w K mg base cl "look_row" 3 [false] .val f_look_row := by
  refine def_ok (ls := [.val]) (m := m_look_row) (ks' := [.bor, .val]) F sc_look_row gm bn rfl rfl rfl (.inl rfl) (fun cdv A outer s H E h0 s0 b0 hr => ?_)
  exact (sb_cons (ss_if (st_cmp op_gt opv_gt nox_gt ((sf_Len B (sa_b (se_varB (i := 0) (hq := nq_row)) sa_nil))).valBor ((se_globI C_MOST_STONES nq_MOST_STONES)).valBor)
  (sb_cons (ss_raise rfl X_TooMany nq_TooMany)
  sb_nil)
  sb_nil)
  (sb_cons (ss_for (passes_of rfl) rfl (si_range2 B.range (se_int).valBor ((sf_Len B (sa_b (se_varB (i := 0) (hq := nq_row)) sa_nil))).valBor) (sg_name nd_look_row) (fun s => (sb_cons (ss_if (st_cmp op_le opv_le nox_le ((se_ix (se_varB (i := 0) (hq := nq_row)) ((se_var (i := 1) (hq := nq_at))).valBor)).valBor ((se_ix (se_varB (i := 0) (hq := nq_row)) ((se_sub ((se_var (i := 1) (hq := nq_at))).valBor (se_int).valBor)).valBor)).valBor)
  (sb_cons (ss_raiseAt rfl X_BadRow (hr.mono (by decide)) (se_var (i := 1) (hq := nq_at)) nq_BadRow)
  sb_nil)
  sb_nil)
  sb_nil)) (by first | decide | simp [Tg.is]))
  sb_nil))
abbrev st_mirrored : Stmt := topS 20
abbrev N_mirrored : List Str := ["row", "place"]
theorem sc_mirrored : FnScope N_mirrored ["row"] (defScope st_mirrored) := ⟨rfl, rfl, rfl, by decide +kernel, rfl, by decide +kernel, by decide +kernel⟩
theorem nd_mirrored : N_mirrored.Nodup := sc_mirrored.nd
theorem ok_mirrored [md : Md] {P : Program} {w : World} {K : PySem.W.Frag} {mg : Str → Option Value} {base : Heap} {cl : Cl} {fa : Addr} {fd : FuncData} (B : Bl mg) (hK : cl.K = K) (F : Fun K "mirrored" "mirrored" st_mirrored fa fd) (gm : mg "mirrored" = some (.ref fa)) (bn : Binds K fd ["row"] []) (F_look_row : Fi P w K mg base cl "look_row" 3 [false] .val f_look_row) : Fi P w K mg base cl "mirrored" 4 [false] (.own none) f_mirrored := by
  refine def_ok (ls := [.val]) (m := m_mirrored) (ks' := []) F sc_mirrored gm bn rfl rfl rfl (.inr rfl) (fun cdv A outer s H E h0 s0 b0 hr => ?_)
  exact (sb_cons (ss_expr (se_call F_look_row (hr.mono (by decide)) (sa_b (se_varB (i := 0) (hq := nq_row)) sa_nil) nq_look_row))
  (sb_cons (ss_ret (se_comp [("place", 1)] rfl nd_mirrored (si_reversed B.reversed (sq_bor (se_varB (i := 0) (hq := nq_row)))) (blkOk_by (N := N_mirrored) (sc := defScope st_mirrored) (own := [("place", 1)]) (by decide +kernel)) (by decide) (by decide) (fun _ _ _ _ _ => sg_name nd_mirrored) (fun _ _ _ _ _ => sp_nil) (fun _ _ _ _ _ => (se_neg ((se_var (i := 1) (hq := nq_place))).valBor))))
  sb_nil))
abbrev st_look_creel : Stmt := topS 22
abbrev N_look_creel : List Str := ["creel"]
theorem sc_look_creel : FnScope N_look_creel ["creel"] (defScope st_look_creel) := ⟨rfl, rfl, rfl, by decide +kernel, rfl, by decide +kernel, by decide +kernel⟩
theorem nd_look_creel : N_look_creel.Nodup := sc_look_creel.nd
theorem ok_look_creel [md : Md] {P : Program} {w : World} {K : PySem.W.Frag} {mg : Str → Option Value} {base : Heap} {cl : Cl} {fa : Addr} {fd : FuncData} (B : Bl mg) (hK : cl.K = K) (F : Fun K "look_creel" "look_creel" st_look_creel fa fd) (gm : mg "look_creel" = some (.ref fa)) (bn : Binds K fd ["creel"] []) (X_BadCreel : XPlain K mg cl "BadCreel") : Fi P w K mg base cl "look_creel" 1 [false] .val f_look_creel := by
  refine def_ok (ls := []) (m := m_look_creel) (ks' := [.bor]) F sc_look_creel gm bn rfl rfl rfl (.inl rfl) (fun cdv A outer s H E h0 s0 b0 hr => ?_)
  exact (sb_cons (ss_if (st_cmp op_lt opv_lt nox_lt (se_varB (i := 0) (hq := nq_creel)) (se_int).valBor)
  (sb_cons (ss_raise rfl X_BadCreel nq_BadCreel)
  sb_nil)
  sb_nil)
  sb_nil)
abbrev st_share : Stmt := topS 24
abbrev N_share : List Str := ["trains", "size", "own", "offset"]
theorem sc_share : FnScope N_share ["trains", "size"] (defScope st_share) := ⟨rfl, rfl, rfl, by decide +kernel, rfl, by decide +kernel, by decide +kernel⟩
theorem nd_share : N_share.Nodup := sc_share.nd
theorem ok_share [md : Md] {P : Program} {w : World} {K : PySem.W.Frag} {mg : Str → Option Value} {base : Heap} {cl : Cl} {fa : Addr} {fd : FuncData} (B : Bl mg) (hK : cl.K = K) (F : Fun K "share" "share" st_share fa fd) (gm : mg "share" = some (.ref fa)) (bn : Binds K fd ["trains", "size"] [])  : Fi P w K mg base cl "share" 1 [false, false] .val f_share := by
  refine def_ok (ls := [.val, .val]) (m := m_share) (ks' := []) F sc_share gm bn rfl rfl rfl (.inl rfl) (fun cdv A outer s H E h0 s0 b0 hr => ?_)
  exact (sb_cons (ss_ret (sf_Sum B (sa_b (SE.toBor (se_comp [("own", 2), ("offset", 3)] rfl nd_share (si_it (sq_bor (se_varB (i := 0) (hq := nq_trains)))) (blkOk_by (N := N_share) (sc := defScope st_share) (own := [("own", 2), ("offset", 3)]) (by decide +kernel)) (by decide) (by decide) (fun _ _ _ _ _ => sg_tup rfl (sgs_cons nd_share (sgs_cons nd_share sgs_nil))) (fun _ _ _ _ _ => sp_nil) (fun _ _ _ _ _ => (sf_Min2 B (sa_b (se_varB (i := 1) (hq := nq_size)) (sa_b ((se_var (i := 2) (hq := nq_own))).valBor sa_nil)))))) sa_nil)))
  sb_nil)
abbrev st_mark : Stmt := topS 25
abbrev N_mark : List Str := ["trains", "size", "place"]
theorem sc_mark : FnScope N_mark ["trains", "size", "place"] (defScope st_mark) := ⟨rfl, rfl, rfl, by decide +kernel, rfl, by decide +kernel, by decide +kernel⟩
theorem nd_mark : N_mark.Nodup := sc_mark.nd
theorem ok_mark [md : Md] {P : Program} {w : World} {K : PySem.W.Frag} {mg : Str → Option Value} {base : Heap} {cl : Cl} {fa : Addr} {fd : FuncData} (B : Bl mg) (hK : cl.K = K) (F : Fun K "mark" "mark" st_mark fa fd) (gm : mg "mark" = some (.ref fa)) (bn : Binds K fd ["trains", "size", "place"] []) (F_share : Fi P w K mg base cl "share" 1 [false, false] .val f_share) : Fi P w K mg base cl "mark" 2 [false, false, false] .val f_mark := by
  refine def_ok (ls := []) (m := m_mark) (ks' := []) F sc_mark gm bn rfl rfl rfl (.inl rfl) (fun cdv A outer s H E h0 s0 b0 hr => ?_)
  exact (sb_cons (ss_ret (se_sub (se_varB (i := 2) (hq := nq_place)) ((se_mul (se_int).valBor ((se_call F_share (hr.mono (by decide)) (sa_b (se_varB (i := 0) (hq := nq_trains)) (sa_b (se_varB (i := 1) (hq := nq_size)) sa_nil)) nq_share)).valBor)).toBor))
  sb_nil)
abbrev st_longest_ripe : Stmt := topS 26
abbrev N_longest_ripe : List Str := ["found", "place", "best", "size", "offset"]
theorem sc_longest_ripe : FnScope N_longest_ripe ["found", "place"] (defScope st_longest_ripe) := ⟨rfl, rfl, rfl, by decide +kernel, rfl, by decide +kernel, by decide +kernel⟩
theorem nd_longest_ripe : N_longest_ripe.Nodup := sc_longest_ripe.nd
theorem ok_longest_ripe [md : Md] {P : Program} {w : World} {K : PySem.W.Frag} {mg : Str → Option Value} {base : Heap} {cl : Cl} {fa : Addr} {fd : FuncData} (B : Bl mg) (hK : cl.K = K) (F : Fun K "longest_ripe" "longest_ripe" st_longest_ripe fa fd) (gm : mg "longest_ripe" = some (.ref fa)) (bn : Binds K fd ["found", "place"] []) (F_mark : Fi P w K mg base cl "mark" 2 [false, false, false] .val f_mark) : Fi P w K mg base cl "longest_ripe" 3 [false, false] .val f_longest_ripe := by
  refine def_ok (ls := [.val, .val, .val]) (m := m_longest_ripe) (ks' := []) F sc_longest_ripe gm bn rfl rfl rfl (.inl rfl) (fun cdv A outer s H E h0 s0 b0 hr => ?_)
  exact (sb_cons (ss_set (i := 2) nd_longest_ripe se_int)
  (sb_cons (ss_for (passes_of rfl) rfl (si_it (sq_par (i := 0) (hq := nq_found))) (sg_tup rfl (sgs_cons nd_longest_ripe (sgs_cons nd_longest_ripe sgs_nil))) (fun s => (sb_cons (ss_if (st_of (sw_and (st_cmp op_gt opv_gt nox_gt ((se_var (i := 3) (hq := nq_size))).valBor ((se_var (i := 2) (hq := nq_best))).valBor) (sw_and1 (st_cmp (op_eqD hr.units) opv_eq nox_eq ((se_var (i := 4) (hq := nq_offset))).valBor ((se_call F_mark (hr.mono (by decide)) (sa_b (se_varB (i := 0) (hq := nq_found)) (sa_b ((se_var (i := 3) (hq := nq_size))).valBor (sa_b (se_varB (i := 1) (hq := nq_place)) sa_nil))) nq_mark)).valBor))))
  (sb_cons (ss_set (i := 2) nd_longest_ripe (se_var (i := 3) (hq := nq_size)))
  sb_nil)
  sb_nil)
  sb_nil)) (by first | decide | simp [Tg.is]))
  (sb_cons (ss_ret (se_var (i := 2) (hq := nq_best)))
  sb_nil)))
abbrev st_grown : Stmt := topS 27
abbrev N_grown : List Str := ["found", "place", "size", "fresh", "many"]
theorem sc_grown : FnScope N_grown ["found", "place"] (defScope st_grown) := ⟨rfl, rfl, rfl, by decide +kernel, rfl, by decide +kernel, by decide +kernel⟩
theorem nd_grown : N_grown.Nodup := sc_grown.nd
theorem ok_grown [md : Md] {P : Program} {w : World} {K : PySem.W.Frag} {mg : Str → Option Value} {base : Heap} {cl : Cl} {fa : Addr} {fd : FuncData} (B : Bl mg) (hK : cl.K = K) (F : Fun K "grown" "grown" st_grown fa fd) (gm : mg "grown" = some (.ref fa)) (bn : Binds K fd ["found", "place"] []) (F_longest_ripe : Fi P w K mg base cl "longest_ripe" 3 [false, false] .val f_longest_ripe) (F_mark : Fi P w K mg base cl "mark" 2 [false, false, false] .val f_mark) (F_share : Fi P w K mg base cl "share" 1 [false, false] .val f_share) : Fi P w K mg base cl "grown" 4 [false, false] (.own none) f_grown := by
  refine def_ok (ls := [.val, .own none, .val]) (m := m_grown) (ks' := []) F sc_grown gm bn rfl rfl rfl (.inr rfl) (fun cdv A outer s H E h0 s0 b0 hr => ?_)
  exact (sb_cons (ss_set (i := 2) nd_grown (se_call F_longest_ripe (hr.mono (by decide)) (sa_b (se_varB (i := 0) (hq := nq_found)) (sa_b ((se_sub (se_varB (i := 1) (hq := nq_place)) (se_int).valBor)).valBor sa_nil)) nq_longest_ripe))
  (sb_cons (ss_set (i := 3) nd_grown (sf_List B (sa_b (se_varB (i := 0) (hq := nq_found)) sa_nil)))
  (sb_cons (ss_if (st_cmp op_gt opv_gt nox_gt ((se_var (i := 2) (hq := nq_size))).valBor (se_int).valBor)
  (sb_cons (ss_remove hr.units65 (i := 3) (hq := nq_fresh) (se_tup (n := 2) (sa_v (se_var (i := 2) (hq := nq_size)) (sa_v (se_call F_mark (hr.mono (by decide)) (sa_b (se_varB (i := 0) (hq := nq_found)) (sa_b ((se_var (i := 2) (hq := nq_size))).valBor (sa_b ((se_sub (se_varB (i := 1) (hq := nq_place)) (se_int).valBor)).valBor sa_nil))) nq_mark) sa_nil))))
  sb_nil)
  sb_nil)
  (sb_cons (ss_set (i := 4) nd_grown ((se_add ((se_add ((se_call F_share (hr.mono (by decide)) (sa_b (se_varB (i := 3) (hq := nq_fresh)) (sa_b ((se_add ((se_var (i := 2) (hq := nq_size))).valBor (se_int).valBor)).toBor sa_nil)) nq_share)).valBor ((se_var (i := 2) (hq := nq_size))).valBor)).toBor (se_int).valBor)).toVal)
  (sb_cons (ss_append (i := 3) (hq := nq_fresh) (se_tup (n := 2) (sa_v ((se_add ((se_var (i := 2) (hq := nq_size))).valBor (se_int).valBor)).toVal (sa_v (se_sub (se_varB (i := 1) (hq := nq_place)) ((se_mul (se_int).valBor ((se_var (i := 4) (hq := nq_many))).valBor)).toBor) sa_nil))))
  (sb_cons (ss_retV (i := 3) (hq := nq_fresh))
  sb_nil))))))
abbrev st_list_of : Stmt := topS 28
abbrev N_list_of : List Str := ["row", "found", "place"]
theorem sc_list_of : FnScope N_list_of ["row"] (defScope st_list_of) := ⟨rfl, rfl, rfl, by decide +kernel, rfl, by decide +kernel, by decide +kernel⟩
theorem nd_list_of : N_list_of.Nodup := sc_list_of.nd
theorem ok_list_of [md : Md] {P : Program} {w : World} {K : PySem.W.Frag} {mg : Str → Option Value} {base : Heap} {cl : Cl} {fa : Addr} {fd : FuncData} (B : Bl mg) (hK : cl.K = K) (F : Fun K "list_of" "list_of" st_list_of fa fd) (gm : mg "list_of" = some (.ref fa)) (bn : Binds K fd ["row"] []) (F_grown : Fi P w K mg base cl "grown" 4 [false, false] (.own none) f_grown) : Fi P w K mg base cl "list_of" 5 [false] (.own none) f_list_of := by
  refine def_ok (ls := [.val, .val]) (m := m_list_of) (ks' := []) F sc_list_of gm bn rfl rfl rfl (.inr rfl) (fun cdv A outer s H E h0 s0 b0 hr => ?_)
  exact (sb_cons (ss_set (i := 1) nd_list_of ((se_lst (n := 0) sa_nil)).toVal)
  (sb_cons (ss_for (passes_of rfl) rfl (si_it (sq_par (i := 0) (hq := nq_row))) (sg_name nd_list_of) (fun s => (sb_cons (ss_set (i := 1) nd_list_of ((se_call F_grown (hr.mono (by decide)) (sa_b ((se_var (i := 1) (hq := nq_found))).valBor (sa_b ((se_var (i := 2) (hq := nq_place))).valBor sa_nil)) nq_grown)).toVal)
  sb_nil)) (by first | decide | simp [Tg.is]))
  (sb_cons (ss_ret (sf_Sorted B (sa_b ((se_var (i := 1) (hq := nq_found))).valBor sa_nil)))
  sb_nil)))
abbrev st_next_place : Stmt := topS 29
abbrev N_next_place : List Str := ["left", "size", "offset"]
theorem sc_next_place : FnScope N_next_place ["left"] (defScope st_next_place) := ⟨rfl, rfl, rfl, by decide +kernel, rfl, by decide +kernel, by decide +kernel⟩
theorem nd_next_place : N_next_place.Nodup := sc_next_place.nd
theorem ok_next_place [md : Md] {P : Program} {w : World} {K : PySem.W.Frag} {mg : Str → Option Value} {base : Heap} {cl : Cl} {fa : Addr} {fd : FuncData} (B : Bl mg) (hK : cl.K = K) (F : Fun K "next_place" "next_place" st_next_place fa fd) (gm : mg "next_place" = some (.ref fa)) (bn : Binds K fd ["left"] []) (F_share : Fi P w K mg base cl "share" 1 [false, false] .val f_share) : Fi P w K mg base cl "next_place" 2 [false] .val f_next_place := by
  refine def_ok (ls := [.val, .val]) (m := m_next_place) (ks' := []) F sc_next_place gm bn rfl rfl rfl (.inl rfl) (fun cdv A outer s H E h0 s0 b0 hr => ?_)
  exact (sb_cons (ss_ret (sf_Max1 B (sa_b (SE.toBor (se_comp [("size", 1), ("offset", 2)] rfl nd_next_place (si_it (sq_bor (se_varB (i := 0) (hq := nq_left)))) (blkOk_by (N := N_next_place) (sc := defScope st_next_place) (own := [("size", 1), ("offset", 2)]) (by decide +kernel)) (by decide) (by decide) (fun _ _ _ _ _ => sg_tup rfl (sgs_cons nd_next_place (sgs_cons nd_next_place sgs_nil))) (fun _ _ _ _ _ => sp_nil) (fun _ _ _ _ _ => ((se_add ((se_var (i := 2) (hq := nq_offset))).valBor ((se_mul (se_int).valBor ((se_call F_share (hr.mono (by decide)) (sa_b (se_varB (i := 0) (hq := nq_left)) (sa_b ((se_var (i := 1) (hq := nq_size))).valBor sa_nil)) nq_share)).valBor)).toBor)).toVal))) sa_nil)))
  sb_nil)
abbrev st_shortest_ripe : Stmt := topS 30
abbrev N_shortest_ripe : List Str := ["left", "place", "size", "offset"]
theorem sc_shortest_ripe : FnScope N_shortest_ripe ["left", "place"] (defScope st_shortest_ripe) := ⟨rfl, rfl, rfl, by decide +kernel, rfl, by decide +kernel, by decide +kernel⟩
theorem nd_shortest_ripe : N_shortest_ripe.Nodup := sc_shortest_ripe.nd
theorem ok_shortest_ripe [md : Md] {P : Program} {w : World} {K : PySem.W.Frag} {mg : Str → Option Value} {base : Heap} {cl : Cl} {fa : Addr} {fd : FuncData} (B : Bl mg) (hK : cl.K = K) (F : Fun K "shortest_ripe" "shortest_ripe" st_shortest_ripe fa fd) (gm : mg "shortest_ripe" = some (.ref fa)) (bn : Binds K fd ["left", "place"] []) (F_mark : Fi P w K mg base cl "mark" 2 [false, false, false] .val f_mark) : Fi P w K mg base cl "shortest_ripe" 3 [false, false] .val f_shortest_ripe := by
  refine def_ok (ls := [.val, .val]) (m := m_shortest_ripe) (ks' := []) F sc_shortest_ripe gm bn rfl rfl rfl (.inl rfl) (fun cdv A outer s H E h0 s0 b0 hr => ?_)
  exact (sb_cons (ss_ret (sf_Min1 B (sa_b (SE.toBor (se_comp [("size", 2), ("offset", 3)] rfl nd_shortest_ripe (si_it (sq_bor (se_varB (i := 0) (hq := nq_left)))) (blkOk_by (N := N_shortest_ripe) (sc := defScope st_shortest_ripe) (own := [("size", 2), ("offset", 3)]) (by decide +kernel)) (by decide) (by decide) (fun _ _ _ _ _ => sg_tup rfl (sgs_cons nd_shortest_ripe (sgs_cons nd_shortest_ripe sgs_nil))) (fun _ _ _ _ _ => (sp_one (st_cmp (op_eqD hr.units) opv_eq nox_eq ((se_var (i := 3) (hq := nq_offset))).valBor ((se_call F_mark (hr.mono (by decide)) (sa_b (se_varB (i := 0) (hq := nq_left)) (sa_b ((se_var (i := 2) (hq := nq_size))).valBor (sa_b (se_varB (i := 1) (hq := nq_place)) sa_nil))) nq_mark)).valBor))) (fun _ _ _ _ _ => (se_var (i := 2) (hq := nq_size))))) sa_nil)))
  sb_nil)
abbrev st_shrunk : Stmt := topS 31
abbrev N_shrunk : List Str := ["left", "place", "size", "fresh", "many"]
theorem sc_shrunk : FnScope N_shrunk ["left", "place"] (defScope st_shrunk) := ⟨rfl, rfl, rfl, by decide +kernel, rfl, by decide +kernel, by decide +kernel⟩
theorem nd_shrunk : N_shrunk.Nodup := sc_shrunk.nd
theorem ok_shrunk [md : Md] {P : Program} {w : World} {K : PySem.W.Frag} {mg : Str → Option Value} {base : Heap} {cl : Cl} {fa : Addr} {fd : FuncData} (B : Bl mg) (hK : cl.K = K) (F : Fun K "shrunk" "shrunk" st_shrunk fa fd) (gm : mg "shrunk" = some (.ref fa)) (bn : Binds K fd ["left", "place"] []) (F_shortest_ripe : Fi P w K mg base cl "shortest_ripe" 3 [false, false] .val f_shortest_ripe) (F_mark : Fi P w K mg base cl "mark" 2 [false, false, false] .val f_mark) (F_share : Fi P w K mg base cl "share" 1 [false, false] .val f_share) : Fi P w K mg base cl "shrunk" 4 [false, false] (.own none) f_shrunk := by
  refine def_ok (ls := [.val, .own none, .val]) (m := m_shrunk) (ks' := []) F sc_shrunk gm bn rfl rfl rfl (.inr rfl) (fun cdv A outer s H E h0 s0 b0 hr => ?_)
  exact (sb_cons (ss_set (i := 2) nd_shrunk (se_call F_shortest_ripe (hr.mono (by decide)) (sa_b (se_varB (i := 0) (hq := nq_left)) (sa_b (se_varB (i := 1) (hq := nq_place)) sa_nil)) nq_shortest_ripe))
  (sb_cons (ss_set (i := 3) nd_shrunk (sf_List B (sa_b (se_varB (i := 0) (hq := nq_left)) sa_nil)))
  (sb_cons (ss_remove hr.units65 (i := 3) (hq := nq_fresh) (se_tup (n := 2) (sa_v (se_var (i := 2) (hq := nq_size)) (sa_v (se_call F_mark (hr.mono (by decide)) (sa_b (se_varB (i := 0) (hq := nq_left)) (sa_b ((se_var (i := 2) (hq := nq_size))).valBor (sa_b (se_varB (i := 1) (hq := nq_place)) sa_nil))) nq_mark) sa_nil))))
  (sb_cons (ss_if (st_cmp op_gt opv_gt nox_gt ((se_var (i := 2) (hq := nq_size))).valBor (se_int).valBor)
  (sb_cons (ss_set (i := 4) nd_shrunk (se_sub ((se_add ((se_call F_share (hr.mono (by decide)) (sa_b (se_varB (i := 3) (hq := nq_fresh)) (sa_b ((se_sub ((se_var (i := 2) (hq := nq_size))).valBor (se_int).valBor)).valBor sa_nil)) nq_share)).valBor ((se_var (i := 2) (hq := nq_size))).valBor)).toBor (se_int).valBor))
  (sb_cons (ss_append (i := 3) (hq := nq_fresh) (se_tup (n := 2) (sa_v (se_sub ((se_var (i := 2) (hq := nq_size))).valBor (se_int).valBor) (sa_v (se_sub ((se_sub (se_varB (i := 1) (hq := nq_place)) (se_int).valBor)).valBor ((se_mul (se_int).valBor ((se_var (i := 4) (hq := nq_many))).valBor)).toBor) sa_nil))))
  sb_nil))
  sb_nil)
  (sb_cons (ss_retV (i := 3) (hq := nq_fresh))
  sb_nil)))))
abbrev st_stones_of : Stmt := topS 32
abbrev N_stones_of : List Str := ["left", "found", "place"]
theorem sc_stones_of : FnScope N_stones_of ["left"] (defScope st_stones_of) := ⟨rfl, rfl, rfl, by decide +kernel, rfl, by decide +kernel, by decide +kernel⟩
theorem nd_stones_of : N_stones_of.Nodup := sc_stones_of.nd
theorem ok_stones_of [md : Md] {P : Program} {w : World} {K : PySem.W.Frag} {mg : Str → Option Value} {base : Heap} {cl : Cl} {fa : Addr} {fd : FuncData} (B : Bl mg) (hK : cl.K = K) (F : Fun K "stones_of" "stones_of" st_stones_of fa fd) (gm : mg "stones_of" = some (.ref fa)) (bn : Binds K fd ["left"] []) (F_next_place : Fi P w K mg base cl "next_place" 2 [false] .val f_next_place) (F_shrunk : Fi P w K mg base cl "shrunk" 4 [false, false] (.own none) f_shrunk) : Fi P w K mg base cl "stones_of" 5 [true] (.own none) f_stones_of := by
  refine def_ok (ls := [.own none, .val]) (m := m_stones_of) (ks' := []) F sc_stones_of gm bn rfl rfl rfl (.inr rfl) (fun cdv A outer s H E h0 s0 b0 hr => ?_)
  exact (sb_cons (ss_set (i := 1) nd_stones_of (se_lst (n := 0) sa_nil))
  (sb_cons (ss_while WB (passes_of rfl) (st_cmp (op_neD hr.units) opv_ne nox_ne ((se_var (i := 0) (hq := nq_left))).valBor ((se_lst (n := 0) sa_nil)).toBor)
  (sb_cons (ss_set (i := 2) nd_stones_of (se_call F_next_place (hr.mono (by decide)) (sa_b ((se_var (i := 0) (hq := nq_left))).valBor sa_nil) nq_next_place))
  (sb_cons (ss_append (i := 1) (hq := nq_found) (se_var (i := 2) (hq := nq_place)))
  (sb_cons (ss_set (i := 0) nd_stones_of ((se_call F_shrunk (hr.mono (by decide)) (sa_b ((se_var (i := 0) (hq := nq_left))).valBor (sa_b ((se_var (i := 2) (hq := nq_place))).valBor sa_nil)) nq_shrunk)).toVal)
  sb_nil))))
  (sb_cons (ss_ret (se_revL (se_varB (i := 1) (hq := nq_found))))
  sb_nil)))
abbrev st_look_walks : Stmt := topS 34
abbrev N_look_walks : List Str := ["walks", "creel", "count"]
theorem sc_look_walks : FnScope N_look_walks ["walks"] (defScope st_look_walks) := ⟨rfl, rfl, rfl, by decide +kernel, rfl, by decide +kernel, by decide +kernel⟩
theorem nd_look_walks : N_look_walks.Nodup := sc_look_walks.nd
theorem ok_look_walks [md : Md] {P : Program} {w : World} {K : PySem.W.Frag} {mg : Str → Option Value} {base : Heap} {cl : Cl} {fa : Addr} {fd : FuncData} (B : Bl mg) (hK : cl.K = K) (F : Fun K "look_walks" "look_walks" st_look_walks fa fd) (gm : mg "look_walks" = some (.ref fa)) (bn : Binds K fd ["walks"] []) (F_look_creel : Fi P w K mg base cl "look_creel" 1 [false] .val f_look_creel) : Fi P w K mg base cl "look_walks" 2 [false] .val f_look_walks := by
  refine def_ok (ls := [.val, .val]) (m := m_look_walks) (ks' := [.bor, .val, .val]) F sc_look_walks gm bn rfl rfl rfl (.inl rfl) (fun cdv A outer s H E h0 s0 b0 hr => ?_)
  exact (sb_cons (ss_for (passes_of rfl) rfl (si_it (sq_par (i := 0) (hq := nq_walks))) (sg_tup rfl (sgs_cons nd_look_walks (sgs_cons nd_look_walks sgs_nil))) (fun s => (sb_cons (ss_expr (se_call F_look_creel (hr.mono (by decide)) (sa_b ((se_var (i := 1) (hq := nq_creel))).valBor sa_nil) nq_look_creel))
  sb_nil)) (by first | decide | simp [Tg.is]))
  sb_nil)
abbrev st_by_walks : Stmt := topS 35
abbrev N_by_walks : List Str := ["walks", "size", "creel", "count"]
theorem sc_by_walks : FnScope N_by_walks ["walks", "size"] (defScope st_by_walks) := ⟨rfl, rfl, rfl, by decide +kernel, rfl, by decide +kernel, by decide +kernel⟩
theorem nd_by_walks : N_by_walks.Nodup := sc_by_walks.nd
theorem ok_by_walks [md : Md] {P : Program} {w : World} {K : PySem.W.Frag} {mg : Str → Option Value} {base : Heap} {cl : Cl} {fa : Addr} {fd : FuncData} (B : Bl mg) (hK : cl.K = K) (F : Fun K "by_walks" "by_walks" st_by_walks fa fd) (gm : mg "by_walks" = some (.ref fa)) (bn : Binds K fd ["walks", "size"] [])  : Fi P w K mg base cl "by_walks" 1 [false, false] .val f_by_walks := by
  refine def_ok (ls := [.val, .val]) (m := m_by_walks) (ks' := []) F sc_by_walks gm bn rfl rfl rfl (.inl rfl) (fun cdv A outer s H E h0 s0 b0 hr => ?_)
  exact (sb_cons (ss_ret (sf_Sum B (sa_b (SE.toBor (se_comp [("creel", 2), ("count", 3)] rfl nd_by_walks (si_it (sq_bor (se_varB (i := 0) (hq := nq_walks)))) (blkOk_by (N := N_by_walks) (sc := defScope st_by_walks) (own := [("creel", 2), ("count", 3)]) (by decide +kernel)) (by decide) (by decide) (fun _ _ _ _ _ => sg_tup rfl (sgs_cons nd_by_walks (sgs_cons nd_by_walks sgs_nil))) (fun _ _ _ _ _ => sp_nil) (fun _ _ _ _ _ => ((se_mul ((se_var (i := 3) (hq := nq_count))).valBor ((sf_Min2 B (sa_b ((se_var (i := 2) (hq := nq_creel))).valBor (sa_b (se_varB (i := 1) (hq := nq_size)) sa_nil)))).valBor)).toVal))) sa_nil)))
  sb_nil)
abbrev st_added_to : Stmt := topS 36
abbrev N_added_to : List Str := ["found", "walks", "size", "offset"]
theorem sc_added_to : FnScope N_added_to ["found", "walks"] (defScope st_added_to) := ⟨rfl, rfl, rfl, by decide +kernel, rfl, by decide +kernel, by decide +kernel⟩
theorem nd_added_to : N_added_to.Nodup := sc_added_to.nd
theorem ok_added_to [md : Md] {P : Program} {w : World} {K : PySem.W.Frag} {mg : Str → Option Value} {base : Heap} {cl : Cl} {fa : Addr} {fd : FuncData} (B : Bl mg) (hK : cl.K = K) (F : Fun K "added_to" "added_to" st_added_to fa fd) (gm : mg "added_to" = some (.ref fa)) (bn : Binds K fd ["found", "walks"] []) (F_by_walks : Fi P w K mg base cl "by_walks" 1 [false, false] .val f_by_walks) : Fi P w K mg base cl "added_to" 2 [false, false] (.own none) f_added_to := by
  refine def_ok (ls := [.val, .val]) (m := m_added_to) (ks' := []) F sc_added_to gm bn rfl rfl rfl (.inr rfl) (fun cdv A outer s H E h0 s0 b0 hr => ?_)
  exact (sb_cons (ss_ret (sf_Sorted B (sa_b (SE.toBor (se_comp [("size", 2), ("offset", 3)] rfl nd_added_to (si_it (sq_bor (se_varB (i := 0) (hq := nq_found)))) (blkOk_by (N := N_added_to) (sc := defScope st_added_to) (own := [("size", 2), ("offset", 3)]) (by decide +kernel)) (by decide) (by decide) (fun _ _ _ _ _ => sg_tup rfl (sgs_cons nd_added_to (sgs_cons nd_added_to sgs_nil))) (fun _ _ _ _ _ => sp_nil) (fun _ _ _ _ _ => (se_tup (n := 2) (sa_v (se_var (i := 2) (hq := nq_size)) (sa_v ((se_add ((se_var (i := 3) (hq := nq_offset))).valBor ((se_call F_by_walks (hr.mono (by decide)) (sa_b (se_varB (i := 1) (hq := nq_walks)) (sa_b ((se_var (i := 2) (hq := nq_size))).valBor sa_nil)) nq_by_walks)).valBor)).toVal sa_nil)))))) sa_nil)))
  sb_nil)
abbrev st_far : Stmt := topS 37
abbrev N_far : List Str := ["row", "walks"]
theorem sc_far : FnScope N_far ["row", "walks"] (defScope st_far) := ⟨rfl, rfl, rfl, by decide +kernel, rfl, by decide +kernel, by decide +kernel⟩
theorem nd_far : N_far.Nodup := sc_far.nd
theorem ok_far [md : Md] {P : Program} {w : World} {K : PySem.W.Frag} {mg : Str → Option Value} {base : Heap} {cl : Cl} {fa : Addr} {fd : FuncData} (B : Bl mg) (hK : cl.K = K) (F : Fun K "far" "far" st_far fa fd) (gm : mg "far" = some (.ref fa)) (bn : Binds K fd ["row", "walks"] []) (F_look_row : Fi P w K mg base cl "look_row" 3 [false] .val f_look_row) (F_look_walks : Fi P w K mg base cl "look_walks" 2 [false] .val f_look_walks) (F_list_of : Fi P w K mg base cl "list_of" 5 [false] (.own none) f_list_of) (F_added_to : Fi P w K mg base cl "added_to" 2 [false, false] (.own none) f_added_to) (F_stones_of : Fi P w K mg base cl "stones_of" 5 [true] (.own none) f_stones_of) : Fi P w K mg base cl "far" 6 [false, false] (.own none) f_far := by
  refine def_ok (ls := []) (m := m_far) (ks' := []) F sc_far gm bn rfl rfl rfl (.inr rfl) (fun cdv A outer s H E h0 s0 b0 hr => ?_)
  exact (sb_cons (ss_expr (se_call F_look_row (hr.mono (by decide)) (sa_b (se_varB (i := 0) (hq := nq_row)) sa_nil) nq_look_row))
  (sb_cons (ss_expr (se_call F_look_walks (hr.mono (by decide)) (sa_b (se_varB (i := 1) (hq := nq_walks)) sa_nil) nq_look_walks))
  (sb_cons (ss_ret (se_call F_stones_of (hr.mono (by decide)) (sa_v ((se_call F_added_to (hr.mono (by decide)) (sa_b ((se_call F_list_of (hr.mono (by decide)) (sa_b (se_varB (i := 0) (hq := nq_row)) sa_nil) nq_list_of)).toBor (sa_b (se_varB (i := 1) (hq := nq_walks)) sa_nil)) nq_added_to)).toVal sa_nil) nq_stones_of))
  sb_nil)))
abbrev st_laid_behind : Stmt := topS 39
abbrev N_laid_behind : List Str := ["one", "other", "gap", "by", "place"]
theorem sc_laid_behind : FnScope N_laid_behind ["one", "other", "gap"] (defScope st_laid_behind) := ⟨rfl, rfl, rfl, by decide +kernel, rfl, by decide +kernel, by decide +kernel⟩
theorem nd_laid_behind : N_laid_behind.Nodup := sc_laid_behind.nd
theorem ok_laid_behind [md : Md] {P : Program} {w : World} {K : PySem.W.Frag} {mg : Str → Option Value} {base : Heap} {cl : Cl} {fa : Addr} {fd : FuncData} (B : Bl mg) (hK : cl.K = K) (F : Fun K "laid_behind" "laid_behind" st_laid_behind fa fd) (gm : mg "laid_behind" = some (.ref fa)) (bn : Binds K fd ["one", "other", "gap"] []) {t_MOST_STONES : Tok} (C_MOST_STONES : mg "MOST_STONES" = some (.int 60 t_MOST_STONES)) (X_Bare : XPlain K mg cl "Bare") (X_TooMany : XPlain K mg cl "TooMany") (X_TooNear : XPlain K mg cl "TooNear") : Fi P w K mg base cl "laid_behind" 1 [false, false, false] (.own none) f_laid_behind := by
  refine def_ok (ls := [.val, .val]) (m := m_laid_behind) (ks' := []) F sc_laid_behind gm bn rfl rfl rfl (.inr rfl) (fun cdv A outer s H E h0 s0 b0 hr => ?_)
  exact (sb_cons (ss_if (st_of (sw_or (st_cmp (op_eqD hr.units) opv_eq nox_eq (se_varB (i := 0) (hq := nq_one)) ((se_lst (n := 0) sa_nil)).toBor) (sw_or1 (st_cmp (op_eqD hr.units) opv_eq nox_eq (se_varB (i := 1) (hq := nq_other)) ((se_lst (n := 0) sa_nil)).toBor))))
  (sb_cons (ss_raise rfl X_Bare nq_Bare)
  sb_nil)
  sb_nil)
  (sb_cons (ss_if (st_cmp op_gt opv_gt nox_gt ((se_add ((sf_Len B (sa_b (se_varB (i := 0) (hq := nq_one)) sa_nil))).valBor ((sf_Len B (sa_b (se_varB (i := 1) (hq := nq_other)) sa_nil))).valBor)).toBor ((se_globI C_MOST_STONES nq_MOST_STONES)).valBor)
  (sb_cons (ss_raise rfl X_TooMany nq_TooMany)
  sb_nil)
  sb_nil)
  (sb_cons (ss_if (st_cmp op_lt opv_lt nox_lt (se_varB (i := 2) (hq := nq_gap)) ((sf_Len B (sa_b (se_varB (i := 1) (hq := nq_other)) sa_nil))).valBor)
  (sb_cons (ss_raise rfl X_TooNear nq_TooNear)
  sb_nil)
  sb_nil)
  (sb_cons (ss_set (i := 3) nd_laid_behind (se_sub ((se_add ((se_add ((se_ix (se_varB (i := 0) (hq := nq_one)) ((se_neg (se_int).valBor)).valBor)).valBor (se_varB (i := 2) (hq := nq_gap)))).toBor (se_int).valBor)).toBor ((se_ix (se_varB (i := 1) (hq := nq_other)) (se_int).valBor)).valBor))
  (sb_cons (ss_ret (se_add (se_varB (i := 0) (hq := nq_one)) (SE.toBor (se_comp [("place", 4)] rfl nd_laid_behind (si_it (sq_bor (se_varB (i := 1) (hq := nq_other)))) (blkOk_by (N := N_laid_behind) (sc := defScope st_laid_behind) (own := [("place", 4)]) (by decide +kernel)) (by decide) (by decide) (fun _ _ _ _ _ => sg_name nd_laid_behind) (fun _ _ _ _ _ => sp_nil) (fun _ _ _ _ _ => ((se_add ((se_var (i := 4) (hq := nq_place))).valBor ((se_var (i := 3) (hq := nq_by))).valBor)).toVal)))))
  sb_nil)))))
abbrev st_put_in : Stmt := topS 41
abbrev N_put_in : List Str := ["row", "place"]
theorem sc_put_in : FnScope N_put_in ["row", "place"] (defScope st_put_in) := ⟨rfl, rfl, rfl, by decide +kernel, rfl, by decide +kernel, by decide +kernel⟩
theorem nd_put_in : N_put_in.Nodup := sc_put_in.nd
theorem ok_put_in [md : Md] {P : Program} {w : World} {K : PySem.W.Frag} {mg : Str → Option Value} {base : Heap} {cl : Cl} {fa : Addr} {fd : FuncData} (B : Bl mg) (hK : cl.K = K) (F : Fun K "put_in" "put_in" st_put_in fa fd) (gm : mg "put_in" = some (.ref fa)) (bn : Binds K fd ["row", "place"] []) {t_MOST_STONES : Tok} (C_MOST_STONES : mg "MOST_STONES" = some (.int 60 t_MOST_STONES)) (X_Laid : XPlain K mg cl "Laid") (X_TooMany : XPlain K mg cl "TooMany") : Fi P w K mg base cl "put_in" 1 [false, true] (.own none) f_put_in := by
  refine def_ok (ls := []) (m := m_put_in) (ks' := []) F sc_put_in gm bn rfl rfl rfl (.inr rfl) (fun cdv A outer s H E h0 s0 b0 hr => ?_)
  exact (sb_cons (ss_if (st_cmp ((op_inD hr.units65).or op_in_sign) opv_in nox_in ((se_var (i := 1) (hq := nq_place))).valBor (se_varB (i := 0) (hq := nq_row)))
  (sb_cons (ss_raise rfl X_Laid nq_Laid)
  sb_nil)
  sb_nil)
  (sb_cons (ss_if (st_cmp op_ge opv_ge nox_ge ((sf_Len B (sa_b (se_varB (i := 0) (hq := nq_row)) sa_nil))).valBor ((se_globI C_MOST_STONES nq_MOST_STONES)).valBor)
  (sb_cons (ss_raise rfl X_TooMany nq_TooMany)
  sb_nil)
  sb_nil)
  (sb_cons (ss_ret (sf_Sorted B (sa_b ((se_add (se_varB (i := 0) (hq := nq_row)) ((se_lst (n := 1) (sa_v (se_var (i := 1) (hq := nq_place)) sa_nil))).toBor)).toBor sa_nil)))
  sb_nil)))
abbrev st_taken_out : Stmt := topS 42
abbrev N_taken_out : List Str := ["row", "place", "own"]
theorem sc_taken_out : FnScope N_taken_out ["row", "place"] (defScope st_taken_out) := ⟨rfl, rfl, rfl, by decide +kernel, rfl, by decide +kernel, by decide +kernel⟩
theorem nd_taken_out : N_taken_out.Nodup := sc_taken_out.nd
theorem ok_taken_out [md : Md] {P : Program} {w : World} {K : PySem.W.Frag} {mg : Str → Option Value} {base : Heap} {cl : Cl} {fa : Addr} {fd : FuncData} (B : Bl mg) (hK : cl.K = K) (F : Fun K "taken_out" "taken_out" st_taken_out fa fd) (gm : mg "taken_out" = some (.ref fa)) (bn : Binds K fd ["row", "place"] []) (X_NoStone : XPlain K mg cl "NoStone") : Fi P w K mg base cl "taken_out" 1 [false, false] (.own none) f_taken_out := by
  refine def_ok (ls := [.val]) (m := m_taken_out) (ks' := []) F sc_taken_out gm bn rfl rfl rfl (.inr rfl) (fun cdv A outer s H E h0 s0 b0 hr => ?_)
  exact (sb_cons (ss_if (st_cmp (op_notInD hr.units65) opv_notIn nox_notIn (se_varB (i := 1) (hq := nq_place)) (se_varB (i := 0) (hq := nq_row)))
  (sb_cons (ss_raise rfl X_NoStone nq_NoStone)
  sb_nil)
  sb_nil)
  (sb_cons (ss_ret (se_comp [("own", 2)] rfl nd_taken_out (si_it (sq_bor (se_varB (i := 0) (hq := nq_row)))) (blkOk_by (N := N_taken_out) (sc := defScope st_taken_out) (own := [("own", 2)]) (by decide +kernel)) (by decide) (by decide) (fun _ _ _ _ _ => sg_name nd_taken_out) (fun _ _ _ _ _ => (sp_one (st_cmp (op_neD hr.units) opv_ne nox_ne ((se_var (i := 2) (hq := nq_own))).valBor (se_varB (i := 1) (hq := nq_place))))) (fun _ _ _ _ _ => (se_var (i := 2) (hq := nq_own)))))
  sb_nil))
abbrev st_behind_entry : Stmt := topS 43
abbrev N_behind_entry : List Str := ["row", "entry"]
theorem sc_behind_entry : FnScope N_behind_entry ["row", "entry"] (defScope st_behind_entry) := ⟨rfl, rfl, rfl, by decide +kernel, rfl, by decide +kernel, by decide +kernel⟩
theorem nd_behind_entry : N_behind_entry.Nodup := sc_behind_entry.nd
theorem ok_behind_entry [md : Md] {P : Program} {w : World} {K : PySem.W.Frag} {mg : Str → Option Value} {base : Heap} {cl : Cl} {fa : Addr} {fd : FuncData} (B : Bl mg) (hK : cl.K = K) (F : Fun K "behind_entry" "behind_entry" st_behind_entry fa fd) (gm : mg "behind_entry" = some (.ref fa)) (bn : Binds K fd ["row", "entry"] []) (F_far : Fi P w K mg base cl "far" 6 [false, false] (.own none) f_far) (F_put_in : Fi P w K mg base cl "put_in" 1 [false, true] (.own none) f_put_in) (F_taken_out : Fi P w K mg base cl "taken_out" 1 [false, false] (.own none) f_taken_out) (F_mirrored : Fi P w K mg base cl "mirrored" 4 [false] (.own none) f_mirrored) (F_laid_behind : Fi P w K mg base cl "laid_behind" 1 [false, false, false] (.own none) f_laid_behind) : Fi P w K mg base cl "behind_entry" 7 [false, false] (.own none) f_behind_entry := by
  refine def_ok (ls := []) (m := m_behind_entry) (ks' := []) F sc_behind_entry gm bn rfl rfl rfl (.inr rfl) (fun cdv A outer s H E h0 s0 b0 hr => ?_)
  exact (sb_cons (ss_if (st_cmp (op_eqD hr.units) opv_eq nox_eq ((se_ix (se_varB (i := 1) (hq := nq_entry)) (se_int).valBor)).valBor (se_str).valBor)
  (sb_cons (ss_ret (se_call F_far (hr.mono (by decide)) (sa_b (se_varB (i := 0) (hq := nq_row)) (sa_b ((se_lst (n := 1) (sa_v (se_tup (n := 2) (sa_v (se_ix (se_varB (i := 1) (hq := nq_entry)) (se_int).valBor) (sa_v (se_ix (se_varB (i := 1) (hq := nq_entry)) (se_int).valBor) sa_nil))) sa_nil))).toBor sa_nil)) nq_far))
  sb_nil)
  sb_nil)
  (sb_cons (ss_if (st_cmp (op_eqD hr.units) opv_eq nox_eq ((se_ix (se_varB (i := 1) (hq := nq_entry)) (se_int).valBor)).valBor (se_str).valBor)
  (sb_cons (ss_ret (se_call F_put_in (hr.mono (by decide)) (sa_b (se_varB (i := 0) (hq := nq_row)) (sa_v (se_ix (se_varB (i := 1) (hq := nq_entry)) (se_int).valBor) sa_nil)) nq_put_in))
  sb_nil)
  sb_nil)
  (sb_cons (ss_if (st_cmp (op_eqD hr.units) opv_eq nox_eq ((se_ix (se_varB (i := 1) (hq := nq_entry)) (se_int).valBor)).valBor (se_str).valBor)
  (sb_cons (ss_ret (se_call F_taken_out (hr.mono (by decide)) (sa_b (se_varB (i := 0) (hq := nq_row)) (sa_b ((se_ix (se_varB (i := 1) (hq := nq_entry)) (se_int).valBor)).valBor sa_nil)) nq_taken_out))
  sb_nil)
  sb_nil)
  (sb_cons (ss_if (st_cmp (op_eqD hr.units) opv_eq nox_eq ((se_ix (se_varB (i := 1) (hq := nq_entry)) (se_int).valBor)).valBor (se_str).valBor)
  (sb_cons (ss_ret (se_call F_mirrored (hr.mono (by decide)) (sa_b (se_varB (i := 0) (hq := nq_row)) sa_nil) nq_mirrored))
  sb_nil)
  sb_nil)
  (sb_cons (ss_ret (se_call F_laid_behind (hr.mono (by decide)) (sa_b (se_varB (i := 0) (hq := nq_row)) (sa_b ((sf_List B (sa_b ((se_ix (se_varB (i := 1) (hq := nq_entry)) (se_int).valBor)).valBor sa_nil))).toBor (sa_b ((se_ix (se_varB (i := 1) (hq := nq_entry)) (se_int).valBor)).valBor sa_nil))) nq_laid_behind))
  sb_nil)))))
abbrev st_gone_over : Stmt := topS 44
abbrev N_gone_over : List Str := ["row", "entries", "at"]
theorem sc_gone_over : FnScope N_gone_over ["row", "entries"] (defScope st_gone_over) := ⟨rfl, rfl, rfl, by decide +kernel, rfl, by decide +kernel, by decide +kernel⟩
theorem nd_gone_over : N_gone_over.Nodup := sc_gone_over.nd
open ModeZ in
theorem ok_gone_over {P : Program} {w : World} {K : PySem.W.Frag} {mg : Str → Option Value} {base : Heap} {cl : Cl} {fa : Addr} {fd : FuncData} (B : Bl mg) (hK : cl.K = K) (F : Fun K "gone_over" "gone_over" st_gone_over fa fd) (gm : mg "gone_over" = some (.ref fa)) (bn : Binds K fd ["row", "entries"] []) (X_Clash : XAt P w K mg base cl "Clash" 1) (HS_CreelError : HSub K mg cl "CreelError") (XH_Clash : XAtH P w K mg base cl "Clash" 1) (FN_behind_entry : Fi (md := mN) P w K mg base cl "behind_entry" 7 [false, false] (.own none) f_behind_entry) : Fi P w K mg base cl "gone_over" 8 [true, false] .val f_gone_over := by
  refine def_ok (ls := [.val]) (m := m_gone_over) (ks' := []) F sc_gone_over gm bn rfl rfl rfl (.inl rfl) (fun cdv A outer s H E h0 s0 b0 hr => ?_)
  exact (sb_cons (ss_for (passes_of rfl) rfl (si_range1 B.range ((sf_Len B (sa_b (se_varB (i := 1) (hq := nq_entries)) sa_nil))).valBor) (sg_name nd_gone_over) (fun s => (sb_cons (ss_tryR (k := 1) (fun pn xe => by
  letI : Md := mN
  exact (sb_cons (ss_set (i := 0) nd_gone_over ((se_call FN_behind_entry (hr.mono (by decide)) (sa_b ((se_var (i := 0) (hq := nq_row))).valBor (sa_b ((se_ix (se_varB (i := 1) (hq := nq_entries)) ((se_var (i := 2) (hq := nq_at))).valBor)).valBor sa_nil)) nq_behind_entry)).toVal)
  sb_nil)) (fun a pn => (se_var (i := 2) (hq := nq_at))) HS_CreelError XH_Clash (hr.mono (by decide)) nq_CreelError nq_Clash)
  sb_nil)) (by first | decide | simp [Tg.is]))
  (sb_cons (ss_ret (se_var (i := 0) (hq := nq_row)))
  sb_nil))
abbrev st_Road___init__ : Stmt := methS 45 0
abbrev N_Road___init__ : List Str := ["self", "first", "entries", "now"]
theorem sc_Road___init__ : FnScope N_Road___init__ ["self", "first", "entries", "now"] (defScope st_Road___init__) := ⟨rfl, rfl, rfl, by decide +kernel, rfl, by decide +kernel, by decide +kernel⟩
theorem nd_Road___init__ : N_Road___init__.Nodup := sc_Road___init__.nd
theorem ok_Road___init__ {P : Program} {w : World} {K : PySem.W.Frag} {mg : Str → Option Value} {base : Heap} {cl : Cl} {fa : Addr} {fd : FuncData} {c : Addr} (B : Bl mg) (hK : cl.K = K) (F : Fun K "__init__" "Road.__init__" st_Road___init__ fa fd) (bn : Binds K fd ["self", "first", "entries", "now"] []) (hc : cl.o "Road" = some c) (gc : mg "Road" = some (.ref c)) (mk : Mk K c fa) (O_Road_entries : FldOk K cl "Road" "entries") (O_Road_first : FldOk K cl "Road" "first") (O_Road_now : FldOk K cl "Road" "now") : MkM P w K mg base cl "Road" 1 kk_Road 3 f_Road___init__ :=
  ⟨c, fa, fd, _, hc, gc, mk, def_okI (md := mZ) (bs := List.replicate 3 true) (ls := []) (m := m_Road___init__) (kk := kk_Road) (ks' := fun a => [.obj (some a) [("first", .val), ("entries", .val), ("now", .val)], .val, .val, .val]) F sc_Road___init__ rfl rfl (fun a => rfl) (fun a cdv A outer s H E h0 s0 b0 hr =>
  (sb_cons (ss_fldNew (i := 0) (C := "Road") (k := .val) (kk := []) O_Road_first (se_var (i := 1) (hq := nq_first)) (by decide +kernel) nq_self)
  (sb_cons (ss_fldNew (i := 0) (C := "Road") (k := .val) (kk := [("first", .val)]) O_Road_entries (se_var (i := 2) (hq := nq_entries)) (by decide +kernel) nq_self)
  (sb_cons (ss_fldNew (i := 0) (C := "Road") (k := .val) (kk := [("first", .val), ("entries", .val)]) O_Road_now (se_var (i := 3) (hq := nq_now)) (by decide +kernel) nq_self)
  sb_nil)))), bn⟩
abbrev st_Road_behind_one : Stmt := methS 45 1
abbrev N_Road_behind_one : List Str := ["self", "entry"]
theorem sc_Road_behind_one : FnScope N_Road_behind_one ["self", "entry"] (defScope st_Road_behind_one) := ⟨rfl, rfl, rfl, by decide +kernel, rfl, by decide +kernel, by decide +kernel⟩
theorem nd_Road_behind_one : N_Road_behind_one.Nodup := sc_Road_behind_one.nd
theorem ok_Road_behind_one [md : Md] {P : Program} {w : World} {K : PySem.W.Frag} {mg : Str → Option Value} {base : Heap} {cl : Cl} {fa : Addr} {fd : FuncData} {c : Addr} (B : Bl mg) (hK : cl.K = K) (F : Fun K "behind_one" "Road.behind_one" st_Road_behind_one fa fd) (bn : Binds K fd ["self", "entry"] []) (hc : cl.o "Road" = some c) (h1 : Cls K c) (h2 : Meth K c "behind_one" fa) (O_Road_entries : FldOk K cl "Road" "entries") (O_Road_first : FldOk K cl "Road" "first") (O_Road_now : FldOk K cl "Road" "now") (K_Road : MkM P w K mg base cl "Road" 1 kk_Road 3 f_Road___init__) (F_behind_entry : Fi P w K mg base cl "behind_entry" 7 [false, false] (.own none) f_behind_entry) : FiR P w K mg base cl "Road" "behind_one" 8 true [true] .val f_Road_behind_one := by
  refine def_okR (ls := []) (m := m_Road_behind_one) (ks' := []) F sc_Road_behind_one bn hc h1 h2 rfl rfl rfl (.inl rfl) (fun cdv A outer s H E h0 s0 b0 hr => ?_)
  exact (sb_cons (ss_ret ((se_make (nb := 3) K_Road (hr.mono (by decide)) (sa_v (se_attV O_Road_first (se_var (i := 0) (hq := nq_self))) (sa_v ((se_add ((se_attV O_Road_entries (se_var (i := 0) (hq := nq_self)))).valBor ((se_lst (n := 1) (sa_v (se_var (i := 1) (hq := nq_entry)) sa_nil))).toBor)).toVal (sa_v ((se_call F_behind_entry (hr.mono (by decide)) (sa_b ((se_attV O_Road_now (se_var (i := 0) (hq := nq_self)))).valBor (sa_b ((se_var (i := 1) (hq := nq_entry))).valBor sa_nil)) nq_behind_entry)).toVal sa_nil))) nq_Road)).toVal)
  sb_nil)
abbrev st_Road_anew : Stmt := methS 45 2
abbrev N_Road_anew : List Str := ["self", "entries"]
theorem sc_Road_anew : FnScope N_Road_anew ["self", "entries"] (defScope st_Road_anew) := ⟨rfl, rfl, rfl, by decide +kernel, rfl, by decide +kernel, by decide +kernel⟩
theorem nd_Road_anew : N_Road_anew.Nodup := sc_Road_anew.nd
theorem ok_Road_anew [md : Md] {P : Program} {w : World} {K : PySem.W.Frag} {mg : Str → Option Value} {base : Heap} {cl : Cl} {fa : Addr} {fd : FuncData} {c : Addr} (B : Bl mg) (hK : cl.K = K) (F : Fun K "anew" "Road.anew" st_Road_anew fa fd) (bn : Binds K fd ["self", "entries"] []) (hc : cl.o "Road" = some c) (h1 : Cls K c) (h2 : Meth K c "anew" fa) (O_Road_first : FldOk K cl "Road" "first") (K_Road : MkM P w K mg base cl "Road" 1 kk_Road 3 f_Road___init__) (F_gone_over : Fi P w K mg base cl "gone_over" 8 [true, false] .val f_gone_over) : FiR P w K mg base cl "Road" "anew" 9 true [true] .val f_Road_anew := by
  refine def_okR (ls := []) (m := m_Road_anew) (ks' := []) F sc_Road_anew bn hc h1 h2 rfl rfl rfl (.inl rfl) (fun cdv A outer s H E h0 s0 b0 hr => ?_)
  exact (sb_cons (ss_ret ((se_make (nb := 3) K_Road (hr.mono (by decide)) (sa_v (se_attV O_Road_first (se_var (i := 0) (hq := nq_self))) (sa_v (se_var (i := 1) (hq := nq_entries)) (sa_v (se_call F_gone_over (hr.mono (by decide)) (sa_v (se_attV O_Road_first (se_var (i := 0) (hq := nq_self))) (sa_b ((se_var (i := 1) (hq := nq_entries))).valBor sa_nil)) nq_gone_over) sa_nil))) nq_Road)).toVal)
  sb_nil)
abbrev st_is_name : Stmt := topS 50
abbrev N_is_name : List Str := ["text", "sign"]
theorem sc_is_name : FnScope N_is_name ["text"] (defScope st_is_name) := ⟨rfl, rfl, rfl, by decide +kernel, rfl, by decide +kernel, by decide +kernel⟩
theorem nd_is_name : N_is_name.Nodup := sc_is_name.nd
theorem ok_is_name [md : Md] {P : Program} {w : World} {K : PySem.W.Frag} {mg : Str → Option Value} {base : Heap} {cl : Cl} {fa : Addr} {fd : FuncData} (B : Bl mg) (hK : cl.K = K) (F : Fun K "is_name" "is_name" st_is_name fa fd) (gm : mg "is_name" = some (.ref fa)) (bn : Binds K fd ["text"] []) {t_LETTERS : Tok} (C_LETTERS : mg "LETTERS" = some (.str "abcdefghijklmnopqrstuvwxyz" t_LETTERS)) {t_MOST_SIGNS : Tok} (C_MOST_SIGNS : mg "MOST_SIGNS" = some (.int 8 t_MOST_SIGNS)) : Fi P w K mg base cl "is_name" 1 [false] .val f_is_name := by
  refine def_ok (ls := [.val]) (m := m_is_name) (ks' := []) F sc_is_name gm bn rfl rfl rfl (.inl rfl) (fun cdv A outer s H E h0 s0 b0 hr => ?_)
  exact (sb_cons (ss_ret (se_and (se_chain op_le opv_le nox_le op_le opv_le nox_le (se_int).valBor ((sf_Len B (sa_b (se_varB (i := 0) (hq := nq_text)) sa_nil))).valBor ((se_globI C_MOST_SIGNS nq_MOST_SIGNS)).valBor) (se_one (sf_All B (sa_b (SE.toBor (se_comp [("sign", 1)] rfl nd_is_name (si_it (sq_bor (se_varB (i := 0) (hq := nq_text)))) (blkOk_by (N := N_is_name) (sc := defScope st_is_name) (own := [("sign", 1)]) (by decide +kernel)) (by decide) (by decide) (fun _ _ _ _ _ => sg_name nd_is_name) (fun _ _ _ _ _ => sp_nil) (fun _ _ _ _ _ => (se_cmp ((op_inD hr.units65).or op_in_sign) opv_in nox_in ((se_var (i := 1) (hq := nq_sign))).valBor ((se_globS C_LETTERS nq_LETTERS)).valBor)))) sa_nil)))))
  sb_nil)
abbrev st_House___init__ : Stmt := methS 51 0
abbrev N_House___init__ : List Str := ["self"]
theorem sc_House___init__ : FnScope N_House___init__ ["self"] (defScope st_House___init__) := ⟨rfl, rfl, rfl, by decide +kernel, rfl, by decide +kernel, by decide +kernel⟩
theorem nd_House___init__ : N_House___init__.Nodup := sc_House___init__.nd
theorem ok_House___init__ {P : Program} {w : World} {K : PySem.W.Frag} {mg : Str → Option Value} {base : Heap} {cl : Cl} {fa : Addr} {fd : FuncData} {c : Addr} (B : Bl mg) (hK : cl.K = K) (F : Fun K "__init__" "House.__init__" st_House___init__ fa fd) (bn : Binds K fd ["self"] []) (hc : cl.o "House" = some c) (gc : mg "House" = some (.ref c)) (mk : Mk K c fa) (O_House_by_name : FldOk K cl "House" "by_name") (O_House_done : FldOk K cl "House" "done") (O_House_gone : FldOk K cl "House" "gone") : MkM P w K mg base cl "House" 1 kk_House 0 f_House___init__ :=
  ⟨c, fa, fd, _, hc, gc, mk, def_okI (md := mZ) (bs := List.replicate 0 true) (ls := []) (m := m_House___init__) (kk := kk_House) (ks' := fun a => [.obj (some a) [("by_name", .val), ("done", .own none), ("gone", .own none)]]) F sc_House___init__ rfl rfl (fun a => rfl) (fun a cdv A outer s H E h0 s0 b0 hr =>
  (sb_cons (ss_fldNew (i := 0) (C := "House") (k := .val) (kk := []) O_House_by_name (se_dnew).toVal (by decide +kernel) nq_self)
  (sb_cons (ss_fldNew (i := 0) (C := "House") (k := .own none) (kk := [("by_name", .val)]) O_House_done (se_lst (n := 0) sa_nil) (by decide +kernel) nq_self)
  (sb_cons (ss_fldNew (i := 0) (C := "House") (k := .own none) (kk := [("by_name", .val), ("done", .own none)]) O_House_gone (se_lst (n := 0) sa_nil) (by decide +kernel) nq_self)
  sb_nil)))), bn⟩
abbrev st_House_road : Stmt := methS 51 1
abbrev N_House_road : List Str := ["self", "name"]
theorem sc_House_road : FnScope N_House_road ["self", "name"] (defScope st_House_road) := ⟨rfl, rfl, rfl, by decide +kernel, rfl, by decide +kernel, by decide +kernel⟩
theorem nd_House_road : N_House_road.Nodup := sc_House_road.nd
theorem ok_House_road [md : Md] {P : Program} {w : World} {K : PySem.W.Frag} {mg : Str → Option Value} {base : Heap} {cl : Cl} {fa : Addr} {fd : FuncData} {c : Addr} (B : Bl mg) (hK : cl.K = K) (F : Fun K "road" "House.road" st_House_road fa fd) (bn : Binds K fd ["self", "name"] []) (hc : cl.o "House" = some c) (h1 : Cls K c) (h2 : Meth K c "road" fa) (X_NoRoad : XPlain K mg cl "NoRoad") (O_House_by_name : FldOk K cl "House" "by_name") : FiR P w K mg base cl "House" "road" 1 false [false] .val f_House_road := by
  refine def_okR (ls := []) (m := m_House_road) (ks' := []) F sc_House_road bn hc h1 h2 rfl rfl rfl (.inl rfl) (fun cdv A outer s H E h0 s0 b0 hr => ?_)
  exact (sb_cons (ss_if (st_dout hr.units65 (se_varB (i := 1) (hq := nq_name)) (se_attB O_House_by_name (se_varB (i := 0) (hq := nq_self))))
  (sb_cons (ss_raise rfl X_NoRoad nq_NoRoad)
  sb_nil)
  sb_nil)
  (sb_cons (ss_ret (se_dix hr.units65 (se_attB O_House_by_name (se_varB (i := 0) (hq := nq_self))) (se_varB (i := 1) (hq := nq_name))))
  sb_nil))
abbrev st_House_become : Stmt := methS 51 2
abbrev N_House_become : List Str := ["self", "deed", "name", "road"]
theorem sc_House_become : FnScope N_House_become ["self", "deed", "name", "road"] (defScope st_House_become) := ⟨rfl, rfl, rfl, by decide +kernel, rfl, by decide +kernel, by decide +kernel⟩
theorem nd_House_become : N_House_become.Nodup := sc_House_become.nd
theorem ok_House_become [md : Md] {P : Program} {w : World} {K : PySem.W.Frag} {mg : Str → Option Value} {base : Heap} {cl : Cl} {fa : Addr} {fd : FuncData} (B : Bl mg) (hK : cl.K = K) (F : Fun K "become" "House.become" st_House_become fa fd) (bn : Binds K fd ["self", "deed", "name", "road"] []) (M : ∀ c, cl.o "House" = some c → Cls K c ∧ Meth K c "become" fa) (O_House_by_name : FldOk K cl "House" "by_name") (O_House_done : FldOk K cl "House" "done") (O_House_gone : FldOk K cl "House" "gone") : FiM P w K mg base cl "House" "become" 1 kk_House kk_House 3 .val f_House_become := by
  refine def_okS (ls := []) (m := m_House_become) (ks' := fun a => [.obj (some a) kk_House, .val, .val, .val]) F sc_House_become bn M rfl rfl rfl rfl (.inl rfl) (fun a => rfl) (fun a cdv A outer s H E h0 s0 b0 hr => ?_)
  exact (sb_cons (ss_fldApp (i := 0) (j := 1) (C := "House") O_House_done (se_tup (n := 2) (sa_v (se_var (i := 1) (hq := nq_deed)) (sa_v (se_fldV (i := 0) (j := 0) (C := "House") (hnd := knd_House) (hq := nq_self) O_House_by_name) sa_nil))) knd_House nq_self)
  (sb_cons (ss_fldPut (i := 0) (j := 2) (C := "House") (k := .own none) (kk2 := kk_House) O_House_gone (se_lst (n := 0) sa_nil) knd_House nq_self)
  (sb_cons (ss_fldPut (i := 0) (j := 0) (C := "House") (k := .own none) (kk2 := [("by_name", .own none), ("done", .own none), ("gone", .own none)]) O_House_by_name (sf_DictD B (sa_b ((se_fldV (i := 0) (j := 0) (C := "House") (hnd := knd_House) (hq := nq_self) O_House_by_name)).valBor sa_nil)) knd_House nq_self)
  (sb_cons (ss_ifN (st_isN ((se_var (i := 3) (hq := nq_road))).valBor)
  (sb_cons (ss_fldPopK (i := 0) (j := 0) (C := "House") (kk := [("by_name", .own none), ("done", .own none), ("gone", .own none)]) O_House_by_name ((se_var (i := 2) (hq := nq_name))).valBor (by decide +kernel) nq_self)
  sb_nil)
  (sb_cons (ss_fldPutK (i := 0) (j := 0) (C := "House") (kk := [("by_name", .own none), ("done", .own none), ("gone", .own none)]) hr.units65 O_House_by_name ((se_var (i := 2) (hq := nq_name))).valBor (se_var (i := 3) (hq := nq_road)) (by decide +kernel) nq_self)
  sb_nil))
  (sb_frzF 0 0 sb_nil)))))
abbrev st_House_build : Stmt := methS 51 3
abbrev N_House_build : List Str := ["self", "name", "row"]
theorem sc_House_build : FnScope N_House_build ["self", "name", "row"] (defScope st_House_build) := ⟨rfl, rfl, rfl, by decide +kernel, rfl, by decide +kernel, by decide +kernel⟩
theorem nd_House_build : N_House_build.Nodup := sc_House_build.nd
theorem ok_House_build [md : Md] {P : Program} {w : World} {K : PySem.W.Frag} {mg : Str → Option Value} {base : Heap} {cl : Cl} {fa : Addr} {fd : FuncData} (B : Bl mg) (hK : cl.K = K) (F : Fun K "build" "House.build" st_House_build fa fd) (bn : Binds K fd ["self", "name", "row"] []) (M : ∀ c, cl.o "House" = some c → Cls K c ∧ Meth K c "build" fa) {t_MOST_ROADS : Tok} (C_MOST_ROADS : mg "MOST_ROADS" = some (.int 8 t_MOST_ROADS)) (X_BadName : XPlain K mg cl "BadName") (X_Full : XPlain K mg cl "Full") (X_Taken : XPlain K mg cl "Taken") (O_House_by_name : FldOk K cl "House" "by_name") (F_is_name : Fi P w K mg base cl "is_name" 1 [false] .val f_is_name) (F_look_row : Fi P w K mg base cl "look_row" 3 [false] .val f_look_row) (F_House_become : FiM P w K mg base cl "House" "become" 1 kk_House kk_House 3 .val f_House_become) (K_Road : MkM P w K mg base cl "Road" 1 kk_Road 3 f_Road___init__) : FiMB P w K mg base cl "House" "build" 4 kk_House kk_House [true, false] .val f_House_build := by
  refine def_okSB (bs := [true, false]) (ls := []) (m := m_House_build) (ks' := fun a => [.obj (some a) kk_House, .val, .bor]) F sc_House_build bn M rfl rfl rfl rfl (.inl rfl) (fun a => rfl) (fun a cdv A outer s H E h0 s0 b0 hr => ?_)
  exact (sb_cons (ss_if (st_not (st_val ((se_call F_is_name (hr.mono (by decide)) (sa_b ((se_var (i := 1) (hq := nq_name))).valBor sa_nil) nq_is_name)).valBor))
  (sb_cons (ss_raise rfl X_BadName nq_BadName)
  sb_nil)
  sb_nil)
  (sb_cons (ss_if (st_din hr.units65 ((se_var (i := 1) (hq := nq_name))).valBor ((se_fldV (i := 0) (j := 0) (C := "House") (hnd := knd_House) (hq := nq_self) O_House_by_name)).valBor)
  (sb_cons (ss_raise rfl X_Taken nq_Taken)
  sb_nil)
  sb_nil)
  (sb_cons (ss_expr (se_call F_look_row (hr.mono (by decide)) (sa_b (se_varB (i := 2) (hq := nq_row)) sa_nil) nq_look_row))
  (sb_cons (ss_if (st_cmp op_ge opv_ge nox_ge ((sf_LenD B (sa_b ((se_fldV (i := 0) (j := 0) (C := "House") (hnd := knd_House) (hq := nq_self) O_House_by_name)).valBor sa_nil))).valBor ((se_globI C_MOST_ROADS nq_MOST_ROADS)).valBor)
  (sb_cons (ss_raise rfl X_Full nq_Full)
  sb_nil)
  sb_nil)
  (sb_cons (ss_exprX (sx_meth (i := 0) (C := "House") (nb := 3) F_House_become (hr.mono (by decide)) (sa_v (se_tup (n := 3) (sa_v se_str (sa_v (se_var (i := 1) (hq := nq_name)) (sa_v (sf_Tuple B (sa_b (se_varB (i := 2) (hq := nq_row)) sa_nil)) sa_nil)))) (sa_v (se_var (i := 1) (hq := nq_name)) (sa_v ((se_make (nb := 3) K_Road (hr.mono (by decide)) (sa_v ((sf_List B (sa_b (se_varB (i := 2) (hq := nq_row)) sa_nil))).toVal (sa_v ((se_lst (n := 0) sa_nil)).toVal (sa_v ((sf_List B (sa_b (se_varB (i := 2) (hq := nq_row)) sa_nil))).toVal sa_nil))) nq_Road)).toVal sa_nil))) nq_self kno_House_become))
  sb_nil)))))
abbrev st_House_shut : Stmt := methS 51 4
abbrev N_House_shut : List Str := ["self", "name"]
theorem sc_House_shut : FnScope N_House_shut ["self", "name"] (defScope st_House_shut) := ⟨rfl, rfl, rfl, by decide +kernel, rfl, by decide +kernel, by decide +kernel⟩
theorem nd_House_shut : N_House_shut.Nodup := sc_House_shut.nd
theorem ok_House_shut [md : Md] {P : Program} {w : World} {K : PySem.W.Frag} {mg : Str → Option Value} {base : Heap} {cl : Cl} {fa : Addr} {fd : FuncData} (B : Bl mg) (hK : cl.K = K) (F : Fun K "shut" "House.shut" st_House_shut fa fd) (bn : Binds K fd ["self", "name"] []) (M : ∀ c, cl.o "House" = some c → Cls K c ∧ Meth K c "shut" fa) (F_House_road : FiR P w K mg base cl "House" "road" 1 false [false] .val f_House_road) (F_House_become : FiM P w K mg base cl "House" "become" 1 kk_House kk_House 3 .val f_House_become) : FiM P w K mg base cl "House" "shut" 2 kk_House kk_House 1 .val f_House_shut := by
  refine def_okS (ls := []) (m := m_House_shut) (ks' := fun a => [.obj (some a) kk_House, .val]) F sc_House_shut bn M rfl rfl rfl rfl (.inl rfl) (fun a => rfl) (fun a cdv A outer s H E h0 s0 b0 hr => ?_)
  exact (sb_cons (ss_expr (se_methR F_House_road (hr.mono (by decide)) (se_varB (i := 0) (hq := nq_self)) (sa_b ((se_var (i := 1) (hq := nq_name))).valBor sa_nil)))
  (sb_cons (ss_exprX (sx_meth (i := 0) (C := "House") (nb := 3) F_House_become (hr.mono (by decide)) (sa_v (se_tup (n := 2) (sa_v se_str (sa_v (se_var (i := 1) (hq := nq_name)) sa_nil))) (sa_v (se_var (i := 1) (hq := nq_name)) (sa_v se_non sa_nil))) nq_self kno_House_become))
  sb_nil))
abbrev st_House_walk : Stmt := methS 51 5
abbrev N_House_walk : List Str := ["self", "name", "creel", "count", "own"]
theorem sc_House_walk : FnScope N_House_walk ["self", "name", "creel", "count"] (defScope st_House_walk) := ⟨rfl, rfl, rfl, by decide +kernel, rfl, by decide +kernel, by decide +kernel⟩
theorem nd_House_walk : N_House_walk.Nodup := sc_House_walk.nd
theorem ok_House_walk [md : Md] {P : Program} {w : World} {K : PySem.W.Frag} {mg : Str → Option Value} {base : Heap} {cl : Cl} {fa : Addr} {fd : FuncData} (B : Bl mg) (hK : cl.K = K) (F : Fun K "walk" "House.walk" st_House_walk fa fd) (bn : Binds K fd ["self", "name", "creel", "count"] []) (M : ∀ c, cl.o "House" = some c → Cls K c ∧ Meth K c "walk" fa) (F_House_road : FiR P w K mg base cl "House" "road" 1 false [false] .val f_House_road) (F_look_creel : Fi P w K mg base cl "look_creel" 1 [false] .val f_look_creel) (F_House_become : FiM P w K mg base cl "House" "become" 1 kk_House kk_House 3 .val f_House_become) (F_Road_behind_one : FiR P w K mg base cl "Road" "behind_one" 8 true [true] .val f_Road_behind_one) : FiM P w K mg base cl "House" "walk" 9 kk_House kk_House 3 .val f_House_walk := by
  refine def_okS (ls := [.val]) (m := m_House_walk) (ks' := fun a => [.obj (some a) kk_House, .val, .val, .val, .val]) F sc_House_walk bn M rfl rfl rfl rfl (.inl rfl) (fun a => rfl) (fun a cdv A outer s H E h0 s0 b0 hr => ?_)
  exact (sb_cons (ss_set (i := 4) nd_House_walk (se_methR F_House_road (hr.mono (by decide)) (se_varB (i := 0) (hq := nq_self)) (sa_b ((se_var (i := 1) (hq := nq_name))).valBor sa_nil)))
  (sb_cons (ss_expr (se_call F_look_creel (hr.mono (by decide)) (sa_b ((se_var (i := 2) (hq := nq_creel))).valBor sa_nil) nq_look_creel))
  (sb_cons (ss_exprX (sx_meth (i := 0) (C := "House") (nb := 3) F_House_become (hr.mono (by decide)) (sa_v (se_tup (n := 4) (sa_v se_str (sa_v (se_var (i := 1) (hq := nq_name)) (sa_v (se_var (i := 2) (hq := nq_creel)) (sa_v (se_var (i := 3) (hq := nq_count)) sa_nil))))) (sa_v (se_var (i := 1) (hq := nq_name)) (sa_v (se_methR F_Road_behind_one (hr.mono (by decide)) (se_var (i := 4) (hq := nq_own)) (sa_v (se_tup (n := 3) (sa_v se_str (sa_v (se_var (i := 2) (hq := nq_creel)) (sa_v (se_var (i := 3) (hq := nq_count)) sa_nil)))) sa_nil)) sa_nil))) nq_self kno_House_become))
  sb_nil)))
abbrev st_House_take : Stmt := methS 51 7
abbrev N_House_take : List Str := ["self", "name", "place", "own"]
theorem sc_House_take : FnScope N_House_take ["self", "name", "place"] (defScope st_House_take) := ⟨rfl, rfl, rfl, by decide +kernel, rfl, by decide +kernel, by decide +kernel⟩
theorem nd_House_take : N_House_take.Nodup := sc_House_take.nd
theorem ok_House_take [md : Md] {P : Program} {w : World} {K : PySem.W.Frag} {mg : Str → Option Value} {base : Heap} {cl : Cl} {fa : Addr} {fd : FuncData} (B : Bl mg) (hK : cl.K = K) (F : Fun K "take" "House.take" st_House_take fa fd) (bn : Binds K fd ["self", "name", "place"] []) (M : ∀ c, cl.o "House" = some c → Cls K c ∧ Meth K c "take" fa) (F_House_road : FiR P w K mg base cl "House" "road" 1 false [false] .val f_House_road) (F_House_become : FiM P w K mg base cl "House" "become" 1 kk_House kk_House 3 .val f_House_become) (F_Road_behind_one : FiR P w K mg base cl "Road" "behind_one" 8 true [true] .val f_Road_behind_one) : FiM P w K mg base cl "House" "take" 9 kk_House kk_House 2 .val f_House_take := by
  refine def_okS (ls := [.val]) (m := m_House_take) (ks' := fun a => [.obj (some a) kk_House, .val, .val, .val]) F sc_House_take bn M rfl rfl rfl rfl (.inl rfl) (fun a => rfl) (fun a cdv A outer s H E h0 s0 b0 hr => ?_)
  exact (sb_cons (ss_set (i := 3) nd_House_take (se_methR F_House_road (hr.mono (by decide)) (se_varB (i := 0) (hq := nq_self)) (sa_b ((se_var (i := 1) (hq := nq_name))).valBor sa_nil)))
  (sb_cons (ss_exprX (sx_meth (i := 0) (C := "House") (nb := 3) F_House_become (hr.mono (by decide)) (sa_v (se_tup (n := 3) (sa_v se_str (sa_v (se_var (i := 1) (hq := nq_name)) (sa_v (se_var (i := 2) (hq := nq_place)) sa_nil)))) (sa_v (se_var (i := 1) (hq := nq_name)) (sa_v (se_methR F_Road_behind_one (hr.mono (by decide)) (se_var (i := 3) (hq := nq_own)) (sa_v (se_tup (n := 2) (sa_v se_str (sa_v (se_var (i := 2) (hq := nq_place)) sa_nil))) sa_nil)) sa_nil))) nq_self kno_House_become))
  sb_nil))
abbrev st_House_lay : Stmt := methS 51 9
abbrev N_House_lay : List Str := ["self", "name", "other", "gap", "own", "laid"]
theorem sc_House_lay : FnScope N_House_lay ["self", "name", "other", "gap"] (defScope st_House_lay) := ⟨rfl, rfl, rfl, by decide +kernel, rfl, by decide +kernel, by decide +kernel⟩
theorem nd_House_lay : N_House_lay.Nodup := sc_House_lay.nd
theorem ok_House_lay [md : Md] {P : Program} {w : World} {K : PySem.W.Frag} {mg : Str → Option Value} {base : Heap} {cl : Cl} {fa : Addr} {fd : FuncData} (B : Bl mg) (hK : cl.K = K) (F : Fun K "lay" "House.lay" st_House_lay fa fd) (bn : Binds K fd ["self", "name", "other", "gap"] []) (M : ∀ c, cl.o "House" = some c → Cls K c ∧ Meth K c "lay" fa) (O_Road_now : FldOk K cl "Road" "now") (F_House_road : FiR P w K mg base cl "House" "road" 1 false [false] .val f_House_road) (F_House_become : FiM P w K mg base cl "House" "become" 1 kk_House kk_House 3 .val f_House_become) (F_Road_behind_one : FiR P w K mg base cl "Road" "behind_one" 8 true [true] .val f_Road_behind_one) : FiM P w K mg base cl "House" "lay" 9 kk_House kk_House 3 .val f_House_lay := by
  refine def_okS (ls := [.val, .val]) (m := m_House_lay) (ks' := fun a => [.obj (some a) kk_House, .val, .val, .val, .val, .val]) F sc_House_lay bn M rfl rfl rfl rfl (.inl rfl) (fun a => rfl) (fun a cdv A outer s H E h0 s0 b0 hr => ?_)
  exact (sb_cons (ss_set (i := 4) nd_House_lay (se_methR F_House_road (hr.mono (by decide)) (se_varB (i := 0) (hq := nq_self)) (sa_b ((se_var (i := 1) (hq := nq_name))).valBor sa_nil)))
  (sb_cons (ss_set (i := 5) nd_House_lay (sf_Tuple B (sa_b ((se_attV O_Road_now (se_methR F_House_road (hr.mono (by decide)) (se_varB (i := 0) (hq := nq_self)) (sa_b ((se_var (i := 2) (hq := nq_other))).valBor sa_nil)))).valBor sa_nil)))
  (sb_cons (ss_exprX (sx_meth (i := 0) (C := "House") (nb := 3) F_House_become (hr.mono (by decide)) (sa_v (se_tup (n := 4) (sa_v se_str (sa_v (se_var (i := 1) (hq := nq_name)) (sa_v (se_var (i := 2) (hq := nq_other)) (sa_v (se_var (i := 3) (hq := nq_gap)) sa_nil))))) (sa_v (se_var (i := 1) (hq := nq_name)) (sa_v (se_methR F_Road_behind_one (hr.mono (by decide)) (se_var (i := 4) (hq := nq_own)) (sa_v (se_tup (n := 3) (sa_v se_str (sa_v (se_var (i := 5) (hq := nq_laid)) (sa_v (se_var (i := 3) (hq := nq_gap)) sa_nil)))) sa_nil)) sa_nil))) nq_self kno_House_become))
  sb_nil)))
abbrev st_House_late : Stmt := methS 51 10
abbrev N_House_late : List Str := ["self", "name", "at", "creel", "count", "own", "fresh"]
theorem sc_House_late : FnScope N_House_late ["self", "name", "at", "creel", "count"] (defScope st_House_late) := ⟨rfl, rfl, rfl, by decide +kernel, rfl, by decide +kernel, by decide +kernel⟩
theorem nd_House_late : N_House_late.Nodup := sc_House_late.nd
theorem ok_House_late [md : Md] {P : Program} {w : World} {K : PySem.W.Frag} {mg : Str → Option Value} {base : Heap} {cl : Cl} {fa : Addr} {fd : FuncData} (B : Bl mg) (hK : cl.K = K) (F : Fun K "late" "House.late" st_House_late fa fd) (bn : Binds K fd ["self", "name", "at", "creel", "count"] []) (M : ∀ c, cl.o "House" = some c → Cls K c ∧ Meth K c "late" fa) (X_NoEntry : XPlain K mg cl "NoEntry") (O_Road_entries : FldOk K cl "Road" "entries") (F_House_road : FiR P w K mg base cl "House" "road" 1 false [false] .val f_House_road) (F_look_creel : Fi P w K mg base cl "look_creel" 1 [false] .val f_look_creel) (F_Road_anew : FiR P w K mg base cl "Road" "anew" 9 true [true] .val f_Road_anew) (F_House_become : FiM P w K mg base cl "House" "become" 1 kk_House kk_House 3 .val f_House_become) : FiM P w K mg base cl "House" "late" 10 kk_House kk_House 4 .val f_House_late := by
  refine def_okS (ls := [.val, .val]) (m := m_House_late) (ks' := fun a => [.obj (some a) kk_House, .val, .val, .val, .val, .val, .val]) F sc_House_late bn M rfl rfl rfl rfl (.inl rfl) (fun a => rfl) (fun a cdv A outer s H E h0 s0 b0 hr => ?_)
  exact (sb_cons (ss_set (i := 5) nd_House_late (se_methR F_House_road (hr.mono (by decide)) (se_varB (i := 0) (hq := nq_self)) (sa_b ((se_var (i := 1) (hq := nq_name))).valBor sa_nil)))
  (sb_cons (ss_if (st_of (sw_or (st_cmp op_lt opv_lt nox_lt ((se_var (i := 2) (hq := nq_at))).valBor (se_int).valBor) (sw_or1 (st_cmp op_gt opv_gt nox_gt ((se_var (i := 2) (hq := nq_at))).valBor ((sf_Len B (sa_b ((se_attV O_Road_entries (se_var (i := 5) (hq := nq_own)))).valBor sa_nil))).valBor))))
  (sb_cons (ss_raise rfl X_NoEntry nq_NoEntry)
  sb_nil)
  sb_nil)
  (sb_cons (ss_expr (se_call F_look_creel (hr.mono (by decide)) (sa_b ((se_var (i := 3) (hq := nq_creel))).valBor sa_nil) nq_look_creel))
  (sb_cons (ss_set (i := 6) nd_House_late (se_methR F_Road_anew (hr.mono (by decide)) (se_var (i := 5) (hq := nq_own)) (sa_v ((se_add ((se_add ((se_slL ((se_attV O_Road_entries (se_var (i := 5) (hq := nq_own)))).valBor so_none (so_some ((se_var (i := 2) (hq := nq_at))).valBor))).toBor ((se_lst (n := 1) (sa_v (se_tup (n := 3) (sa_v se_str (sa_v (se_var (i := 3) (hq := nq_creel)) (sa_v (se_var (i := 4) (hq := nq_count)) sa_nil)))) sa_nil))).toBor)).toBor ((se_slL ((se_attV O_Road_entries (se_var (i := 5) (hq := nq_own)))).valBor (so_some ((se_var (i := 2) (hq := nq_at))).valBor) so_none)).toBor)).toVal sa_nil)))
  (sb_cons (ss_exprX (sx_meth (i := 0) (C := "House") (nb := 3) F_House_become (hr.mono (by decide)) (sa_v (se_tup (n := 5) (sa_v se_str (sa_v (se_var (i := 1) (hq := nq_name)) (sa_v (se_var (i := 2) (hq := nq_at)) (sa_v (se_var (i := 3) (hq := nq_creel)) (sa_v (se_var (i := 4) (hq := nq_count)) sa_nil)))))) (sa_v (se_var (i := 1) (hq := nq_name)) (sa_v (se_var (i := 6) (hq := nq_fresh)) sa_nil))) nq_self kno_House_become))
  sb_nil)))))
abbrev st_House_back : Stmt := methS 51 12
abbrev N_House_back : List Str := ["self", "deed", "ahead"]
theorem sc_House_back : FnScope N_House_back ["self"] (defScope st_House_back) := ⟨rfl, rfl, rfl, by decide +kernel, rfl, by decide +kernel, by decide +kernel⟩
theorem nd_House_back : N_House_back.Nodup := sc_House_back.nd
theorem ok_House_back [md : Md] {P : Program} {w : World} {K : PySem.W.Frag} {mg : Str → Option Value} {base : Heap} {cl : Cl} {fa : Addr} {fd : FuncData} (B : Bl mg) (hK : cl.K = K) (F : Fun K "back" "House.back" st_House_back fa fd) (bn : Binds K fd ["self"] []) (M : ∀ c, cl.o "House" = some c → Cls K c ∧ Meth K c "back" fa) (X_NothingLeft : XPlain K mg cl "NothingLeft") (O_House_by_name : FldOk K cl "House" "by_name") (O_House_done : FldOk K cl "House" "done") (O_House_gone : FldOk K cl "House" "gone") : FiM P w K mg base cl "House" "back" 1 kk_House kk_House 0 .val f_House_back := by
  refine def_okS (ls := [.val, .val]) (m := m_House_back) (ks' := fun a => [.obj (some a) kk_House]) F sc_House_back bn M rfl rfl rfl rfl (.inl rfl) (fun a => rfl) (fun a cdv A outer s H E h0 s0 b0 hr => ?_)
  exact (sb_cons (ss_if (st_cmp (op_eqNil hr.units) opv_nil nox_nil (se_fldB (i := 0) (j := 1) (C := "House") (hnd := knd_House) (hq := nq_self) O_House_done) ((se_lst (n := 0) sa_nil)).toBor)
  (sb_cons (ss_raise rfl X_NothingLeft nq_NothingLeft)
  sb_nil)
  sb_nil)
  (sb_cons (ss_unpackX (sx_fldPop (i := 0) (j := 1) (C := "House") O_House_done knd_House nq_self) (sg_tup rfl (sgs_cons nd_House_back (sgs_cons nd_House_back sgs_nil))) (by simp [Tg.is, putsK]))
  (sb_cons (ss_fldApp (i := 0) (j := 2) (C := "House") O_House_gone (se_tup (n := 2) (sa_v (se_var (i := 1) (hq := nq_deed)) (sa_v (se_fldV (i := 0) (j := 0) (C := "House") (hnd := knd_House) (hq := nq_self) O_House_by_name) sa_nil))) knd_House nq_self)
  (sb_cons (ss_fldPut (i := 0) (j := 0) (C := "House") (k := .val) (kk2 := kk_House) O_House_by_name (se_var (i := 2) (hq := nq_ahead)) knd_House nq_self)
  (sb_cons (ss_ret (se_var (i := 1) (hq := nq_deed)))
  sb_nil)))))
abbrev st_House_roads : Stmt := methS 51 15
abbrev N_House_roads : List Str := ["self"]
theorem sc_House_roads : FnScope N_House_roads ["self"] (defScope st_House_roads) := ⟨rfl, rfl, rfl, by decide +kernel, rfl, by decide +kernel, by decide +kernel⟩
theorem nd_House_roads : N_House_roads.Nodup := sc_House_roads.nd
theorem ok_House_roads [md : Md] {P : Program} {w : World} {K : PySem.W.Frag} {mg : Str → Option Value} {base : Heap} {cl : Cl} {fa : Addr} {fd : FuncData} {c : Addr} (B : Bl mg) (hK : cl.K = K) (F : Fun K "roads" "House.roads" st_House_roads fa fd) (bn : Binds K fd ["self"] []) (hc : cl.o "House" = some c) (h1 : Cls K c) (h2 : Meth K c "roads" fa) (O_House_by_name : FldOk K cl "House" "by_name") : FiR P w K mg base cl "House" "roads" 1 false [] (.own none) f_House_roads := by
  refine def_okR (ls := []) (m := m_House_roads) (ks' := []) F sc_House_roads bn hc h1 h2 rfl rfl rfl (.inr rfl) (fun cdv A outer s H E h0 s0 b0 hr => ?_)
  exact (sb_cons (ss_ret (sf_ListD B (sa_b (se_attB O_House_by_name (se_varB (i := 0) (hq := nq_self))) sa_nil)))
  sb_nil)
abbrev st_House_row : Stmt := methS 51 16
abbrev N_House_row : List Str := ["self", "name"]
theorem sc_House_row : FnScope N_House_row ["self", "name"] (defScope st_House_row) := ⟨rfl, rfl, rfl, by decide +kernel, rfl, by decide +kernel, by decide +kernel⟩
theorem nd_House_row : N_House_row.Nodup := sc_House_row.nd
theorem ok_House_row [md : Md] {P : Program} {w : World} {K : PySem.W.Frag} {mg : Str → Option Value} {base : Heap} {cl : Cl} {fa : Addr} {fd : FuncData} {c : Addr} (B : Bl mg) (hK : cl.K = K) (F : Fun K "row" "House.row" st_House_row fa fd) (bn : Binds K fd ["self", "name"] []) (hc : cl.o "House" = some c) (h1 : Cls K c) (h2 : Meth K c "row" fa) (O_Road_now : FldOk K cl "Road" "now") (F_House_road : FiR P w K mg base cl "House" "road" 1 false [false] .val f_House_road) : FiR P w K mg base cl "House" "row" 2 false [false] (.own none) f_House_row := by
  refine def_okR (ls := []) (m := m_House_row) (ks' := []) F sc_House_row bn hc h1 h2 rfl rfl rfl (.inr rfl) (fun cdv A outer s H E h0 s0 b0 hr => ?_)
  exact (sb_cons (ss_ret (sf_List B (sa_b ((se_attV O_Road_now (se_methR F_House_road (hr.mono (by decide)) (se_varB (i := 0) (hq := nq_self)) (sa_b (se_varB (i := 1) (hq := nq_name)) sa_nil)))).valBor sa_nil)))
  sb_nil)
abbrev st_House_log : Stmt := methS 51 17
abbrev N_House_log : List Str := ["self", "name"]
theorem sc_House_log : FnScope N_House_log ["self", "name"] (defScope st_House_log) := ⟨rfl, rfl, rfl, by decide +kernel, rfl, by decide +kernel, by decide +kernel⟩
theorem nd_House_log : N_House_log.Nodup := sc_House_log.nd
theorem ok_House_log [md : Md] {P : Program} {w : World} {K : PySem.W.Frag} {mg : Str → Option Value} {base : Heap} {cl : Cl} {fa : Addr} {fd : FuncData} {c : Addr} (B : Bl mg) (hK : cl.K = K) (F : Fun K "log" "House.log" st_House_log fa fd) (bn : Binds K fd ["self", "name"] []) (hc : cl.o "House" = some c) (h1 : Cls K c) (h2 : Meth K c "log" fa) (O_Road_entries : FldOk K cl "Road" "entries") (F_House_road : FiR P w K mg base cl "House" "road" 1 false [false] .val f_House_road) : FiR P w K mg base cl "House" "log" 2 false [false] (.own none) f_House_log := by
  refine def_okR (ls := []) (m := m_House_log) (ks' := []) F sc_House_log bn hc h1 h2 rfl rfl rfl (.inr rfl) (fun cdv A outer s H E h0 s0 b0 hr => ?_)
  exact (sb_cons (ss_ret (sf_List B (sa_b ((se_attV O_Road_entries (se_methR F_House_road (hr.mono (by decide)) (se_varB (i := 0) (hq := nq_self)) (sa_b (se_varB (i := 1) (hq := nq_name)) sa_nil)))).valBor sa_nil)))
  sb_nil)
abbrev st_House_deeds : Stmt := methS 51 18
abbrev N_House_deeds : List Str := ["self", "deed", "ahead"]
theorem sc_House_deeds : FnScope N_House_deeds ["self"] (defScope st_House_deeds) := ⟨rfl, rfl, rfl, by decide +kernel, rfl, by decide +kernel, by decide +kernel⟩
theorem nd_House_deeds : N_House_deeds.Nodup := sc_House_deeds.nd
theorem ok_House_deeds [md : Md] {P : Program} {w : World} {K : PySem.W.Frag} {mg : Str → Option Value} {base : Heap} {cl : Cl} {fa : Addr} {fd : FuncData} {c : Addr} (B : Bl mg) (hK : cl.K = K) (F : Fun K "deeds" "House.deeds" st_House_deeds fa fd) (bn : Binds K fd ["self"] []) (hc : cl.o "House" = some c) (h1 : Cls K c) (h2 : Meth K c "deeds" fa) (O_House_done : FldOk K cl "House" "done") : FiR P w K mg base cl "House" "deeds" 1 false [] (.own none) f_House_deeds := by
  refine def_okR (ls := [.val, .val]) (m := m_House_deeds) (ks' := []) F sc_House_deeds bn hc h1 h2 rfl rfl rfl (.inr rfl) (fun cdv A outer s H E h0 s0 b0 hr => ?_)
  exact (sb_cons (ss_ret (se_comp [("deed", 1), ("ahead", 2)] rfl nd_House_deeds (si_it (sq_bor (se_attB O_House_done (se_varB (i := 0) (hq := nq_self))))) (blkOk_by (N := N_House_deeds) (sc := defScope st_House_deeds) (own := [("deed", 1), ("ahead", 2)]) (by decide +kernel)) (by decide) (by decide) (fun _ _ _ _ _ => sg_tup rfl (sgs_cons nd_House_deeds (sgs_cons nd_House_deeds sgs_nil))) (fun _ _ _ _ _ => sp_nil) (fun _ _ _ _ _ => (se_var (i := 1) (hq := nq_deed)))))
  sb_nil)
abbrev st_House_undone : Stmt := methS 51 19
abbrev N_House_undone : List Str := ["self", "deed", "there"]
theorem sc_House_undone : FnScope N_House_undone ["self"] (defScope st_House_undone) := ⟨rfl, rfl, rfl, by decide +kernel, rfl, by decide +kernel, by decide +kernel⟩
theorem nd_House_undone : N_House_undone.Nodup := sc_House_undone.nd
theorem ok_House_undone [md : Md] {P : Program} {w : World} {K : PySem.W.Frag} {mg : Str → Option Value} {base : Heap} {cl : Cl} {fa : Addr} {fd : FuncData} {c : Addr} (B : Bl mg) (hK : cl.K = K) (F : Fun K "undone" "House.undone" st_House_undone fa fd) (bn : Binds K fd ["self"] []) (hc : cl.o "House" = some c) (h1 : Cls K c) (h2 : Meth K c "undone" fa) (O_House_gone : FldOk K cl "House" "gone") : FiR P w K mg base cl "House" "undone" 1 false [] (.own none) f_House_undone := by
  refine def_okR (ls := [.val, .val]) (m := m_House_undone) (ks' := []) F sc_House_undone bn hc h1 h2 rfl rfl rfl (.inr rfl) (fun cdv A outer s H E h0 s0 b0 hr => ?_)
  exact (sb_cons (ss_ret (se_comp [("deed", 1), ("there", 2)] rfl nd_House_undone (si_reversed B.reversed (sq_bor (se_attB O_House_gone (se_varB (i := 0) (hq := nq_self))))) (blkOk_by (N := N_House_undone) (sc := defScope st_House_undone) (own := [("deed", 1), ("there", 2)]) (by decide +kernel)) (by decide) (by decide) (fun _ _ _ _ _ => sg_tup rfl (sgs_cons nd_House_undone (sgs_cons nd_House_undone sgs_nil))) (fun _ _ _ _ _ => sp_nil) (fun _ _ _ _ _ => (se_var (i := 1) (hq := nq_deed)))))
  sb_nil)
abbrev st_numbers_L : Stmt := topS 53
abbrev N_numbers_L : List Str := ["_law_script", "_law_many", "_law_row_here", "_law_seed", "_law_cell", "_law_rest", "_law_k"]
theorem sc_numbers_L : FnScope N_numbers_L ["_law_script", "_law_many"] (defScope st_numbers_L) := ⟨rfl, rfl, rfl, by decide +kernel, rfl, by decide +kernel, by decide +kernel⟩
theorem nd_numbers_L : N_numbers_L.Nodup := sc_numbers_L.nd
theorem ok_numbers_L [md : Md] {P : Program} {w : World} {K : PySem.W.Frag} {mg : Str → Option Value} {base : Heap} {cl : Cl} {fa : Addr} {fd : FuncData} (B : Bl mg) (hK : cl.K = K) (F : Fun K "_law_numbers" "_law_numbers" st_numbers_L fa fd) (gm : mg "_law_numbers" = some (.ref fa)) (bn : Binds K fd ["_law_script", "_law_many"] [])  : Fi P w K mg base cl "_law_numbers" 1 [false, false] (.own none) f_numbers_L := by
  refine def_ok (ls := [.own none, .val, .val, .val, .val]) (m := m_numbers_L) (ks' := []) F sc_numbers_L gm bn rfl rfl rfl (.inr rfl) (fun cdv A outer s H E h0 s0 b0 hr => ?_)
  exact (sb_cons (ss_set (i := 2) nd_numbers_L (se_lst (n := 0) sa_nil))
  (sb_cons (ss_set (i := 3) nd_numbers_L se_int)
  (sb_cons (ss_for (passes_of rfl) rfl (si_it (sq_val ((se_slS hK (se_varB (i := 0) (hq := nq__law_script)) so_none (so_some (se_int).valBor))).toVal)) (sg_name nd_numbers_L) (fun s => (sb_cons (ss_set (i := 3) nd_numbers_L (se_mod ((se_add ((se_add ((se_mul ((se_var (i := 3) (hq := nq__law_seed))).valBor (se_int).valBor)).toBor ((se_mod ((se_var (i := 4) (hq := nq__law_cell))).valBor (se_int).valBor)).valBor)).toBor (se_int).valBor)).toBor (se_int).valBor))
  (sb_cons (ss_set (i := 5) nd_numbers_L (se_sub ((se_var (i := 4) (hq := nq__law_cell))).valBor ((se_pow (se_int).valBor (se_int).valBor)).valBor))
  (sb_cons (ss_if (st_cmp op_lt opv_lt nox_lt ((se_var (i := 5) (hq := nq__law_rest))).valBor (se_int).valBor)
  (sb_cons (ss_append (i := 2) (hq := nq__law_row_here) (se_mod ((se_var (i := 4) (hq := nq__law_cell))).valBor (se_int).valBor))
  sb_nil)
  sb_nil)
  (sb_cons (ss_for (passes_of rfl) rfl (si_range1 B.range (se_int).valBor) (sg_name nd_numbers_L) (fun s => (sb_cons (ss_if (st_cmp op_gt opv_gt nox_gt ((se_var (i := 5) (hq := nq__law_rest))).valBor (se_int).valBor)
  (sb_cons (ss_append (i := 2) (hq := nq__law_row_here) (se_mod ((se_var (i := 5) (hq := nq__law_rest))).valBor (se_int).valBor))
  (sb_cons (ss_set (i := 5) nd_numbers_L (se_fdiv ((se_var (i := 5) (hq := nq__law_rest))).valBor (se_int).valBor))
  sb_nil))
  sb_nil)
  sb_nil)) (by first | decide | simp [Tg.is]))
  sb_nil))))) (by first | decide | simp [Tg.is]))
  (sb_cons (ss_while WB (passes_of rfl) (st_cmp op_lt opv_lt nox_lt ((sf_Len B (sa_b (se_varB (i := 2) (hq := nq__law_row_here)) sa_nil))).valBor (se_varB (i := 1) (hq := nq__law_many)))
  (sb_cons (ss_set (i := 3) nd_numbers_L (se_mod ((se_add ((se_add ((se_add ((se_mul ((se_var (i := 3) (hq := nq__law_seed))).valBor ((se_var (i := 3) (hq := nq__law_seed))).valBor)).toBor ((se_mul (se_int).valBor ((se_var (i := 3) (hq := nq__law_seed))).valBor)).toBor)).toBor ((se_mul (se_int).valBor ((sf_Len B (sa_b (se_varB (i := 2) (hq := nq__law_row_here)) sa_nil))).valBor)).toBor)).toBor (se_int).valBor)).toBor (se_int).valBor))
  (sb_cons (ss_append (i := 2) (hq := nq__law_row_here) (se_mod ((se_fdiv ((se_var (i := 3) (hq := nq__law_seed))).valBor (se_int).valBor)).valBor (se_int).valBor))
  sb_nil)))
  (sb_cons (ss_ret (se_slL (se_varB (i := 2) (hq := nq__law_row_here)) so_none (so_some (se_varB (i := 1) (hq := nq__law_many)))))
  sb_nil)))))
abbrev st_same_L : Stmt := topS 54
abbrev N_same_L : List Str := ["_law_found", "_law_due", "_law_k"]
theorem sc_same_L : FnScope N_same_L ["_law_found", "_law_due"] (defScope st_same_L) := ⟨rfl, rfl, rfl, by decide +kernel, rfl, by decide +kernel, by decide +kernel⟩
theorem nd_same_L : N_same_L.Nodup := sc_same_L.nd
theorem ok_same_L [md : Md] {P : Program} {w : World} {K : PySem.W.Frag} {mg : Str → Option Value} {base : Heap} {cl : Cl} {fa : Addr} {fd : FuncData} (B : Bl mg) (hK : cl.K = K) (F : Fun K "_law_same" "_law_same" st_same_L fa fd) (gm : mg "_law_same" = some (.ref fa)) (bn : Binds K fd ["_law_found", "_law_due"] [])  : ∀ n, Fi P w K mg base cl "_law_same" n [false, false] .val (f_same_L n)
  | 0 => fi_stuck gm F.kp bn
  | n + 1 => by
    have Fs := ok_same_L (w := w) (P := P) (base := base) (cl := cl) B hK F gm bn  n
    refine def_ok (ls := [.val]) (m := m_same_L (f_same_L n)) (ks' := []) F sc_same_L gm bn rfl rfl rfl (.inl rfl) (fun cdv A outer s H E h0 s0 b0 hr => ?_)
    exact (sb_cons (ss_if (st_isN (se_varB (i := 1) (hq := nq__law_due)))
  (sb_cons (ss_ret (se_isN (se_varB (i := 0) (hq := nq__law_found))))
  sb_nil)
  sb_nil)
  (sb_cons (ss_if (st_val ((se_isiLT (se_varB (i := 1) (hq := nq__law_due)) B.isinstance B.list B.tuple)).valBor)
  (sb_cons (ss_if (st_of (sw_or (st_cmp (op_neD hr.units) opv_ne nox_ne ((si_list B (se_varB (i := 0) (hq := nq__law_found)))).valBor ((si_list B (se_varB (i := 1) (hq := nq__law_due)))).valBor) (sw_or1 (st_cmp (op_neD hr.units) opv_ne nox_ne ((si_tuple B (se_varB (i := 0) (hq := nq__law_found)))).valBor ((si_tuple B (se_varB (i := 1) (hq := nq__law_due)))).valBor))))
  (sb_cons (ss_ret se_bl)
  sb_nil)
  sb_nil)
  (sb_cons (ss_ret (se_and (se_cmp (op_eqD hr.units) opv_eq nox_eq ((sf_Len B (sa_b (se_varB (i := 0) (hq := nq__law_found)) sa_nil))).valBor ((sf_Len B (sa_b (se_varB (i := 1) (hq := nq__law_due)) sa_nil))).valBor) (se_one (sf_All B (sa_b (SE.toBor (se_comp [("_law_k", 2)] rfl nd_same_L (si_range1 B.range ((sf_Len B (sa_b (se_varB (i := 1) (hq := nq__law_due)) sa_nil))).valBor) (blkOk_by (N := N_same_L) (sc := defScope st_same_L) (own := [("_law_k", 2)]) (by decide +kernel)) (by decide) (by decide) (fun _ _ _ _ _ => sg_name nd_same_L) (fun _ _ _ _ _ => sp_nil) (fun _ _ _ _ _ => (se_call Fs (hr.mono (by omega)) (sa_b ((se_ix (se_varB (i := 0) (hq := nq__law_found)) ((se_var (i := 2) (hq := nq__law_k))).valBor)).valBor (sa_b ((se_ix (se_varB (i := 1) (hq := nq__law_due)) ((se_var (i := 2) (hq := nq__law_k))).valBor)).valBor sa_nil)) nq__law_same)))) sa_nil)))))
  sb_nil))
  sb_nil)
  (sb_cons (ss_if (st_of (sw_or (st_cmp (op_neD hr.units) opv_ne nox_ne ((si_bool B (se_varB (i := 0) (hq := nq__law_found)))).valBor ((si_bool B (se_varB (i := 1) (hq := nq__law_due)))).valBor) (sw_or1 (st_cmp (op_neD hr.units) opv_ne nox_ne ((si_str B (se_varB (i := 0) (hq := nq__law_found)))).valBor ((si_str B (se_varB (i := 1) (hq := nq__law_due)))).valBor))))
  (sb_cons (ss_ret se_bl)
  sb_nil)
  sb_nil)
  (sb_cons (ss_ret (se_and (se_cmp (op_eqD hr.units) opv_eq nox_eq ((si_int B (se_varB (i := 0) (hq := nq__law_found)))).valBor ((si_int B (se_varB (i := 1) (hq := nq__law_due)))).valBor) (se_one (se_cmp (op_eqD hr.units) opv_eq nox_eq (se_varB (i := 0) (hq := nq__law_found)) (se_varB (i := 1) (hq := nq__law_due))))))
  sb_nil))))
abbrev st_row_L : Stmt := topS 55
abbrev N_row_L : List Str := ["_law_d", "_law_most", "_law_place", "_law_row_here", "_law_k", "_law_step"]
theorem sc_row_L : FnScope N_row_L ["_law_d", "_law_most"] (defScope st_row_L) := ⟨rfl, rfl, rfl, by decide +kernel, rfl, by decide +kernel, by decide +kernel⟩
theorem nd_row_L : N_row_L.Nodup := sc_row_L.nd
theorem ok_row_L [md : Md] {P : Program} {w : World} {K : PySem.W.Frag} {mg : Str → Option Value} {base : Heap} {cl : Cl} {fa : Addr} {fd : FuncData} (B : Bl mg) (hK : cl.K = K) (F : Fun K "_law_row" "_law_row" st_row_L fa fd) (gm : mg "_law_row" = some (.ref fa)) (bn : Binds K fd ["_law_d", "_law_most"] [])  : Fi P w K mg base cl "_law_row" 1 [false, false] (.own none) f_row_L := by
  refine def_ok (ls := [.val, .own none, .val, .val]) (m := m_row_L) (ks' := []) F sc_row_L gm bn rfl rfl rfl (.inr rfl) (fun cdv A outer s H E h0 s0 b0 hr => ?_)
  exact (sb_cons (ss_set (i := 2) nd_row_L (se_sub ((se_mod ((se_ix (se_varB (i := 0) (hq := nq__law_d)) (se_int).valBor)).valBor (se_int).valBor)).valBor (se_int).valBor))
  (sb_cons (ss_set (i := 3) nd_row_L (se_lst (n := 0) sa_nil))
  (sb_cons (ss_for (passes_of rfl) rfl (si_range1 B.range ((se_mod ((se_ix (se_varB (i := 0) (hq := nq__law_d)) (se_int).valBor)).valBor ((se_add (se_varB (i := 1) (hq := nq__law_most)) (se_int).valBor)).toBor)).valBor) (sg_name nd_row_L) (fun s => (sb_cons (ss_set (i := 5) nd_row_L (se_ix (se_varB (i := 0) (hq := nq__law_d)) ((se_add (se_int).valBor ((se_var (i := 4) (hq := nq__law_k))).valBor)).toBor))
  (sb_cons (ss_set (i := 2) nd_row_L ((se_add ((se_add ((se_var (i := 2) (hq := nq__law_place))).valBor (se_int).valBor)).toBor ((se_if (st_cmp (op_eqD hr.units) opv_eq nox_eq ((se_mod ((se_var (i := 5) (hq := nq__law_step))).valBor (se_int).valBor)).valBor (se_int).valBor) se_int (se_mod ((se_fdiv ((se_var (i := 5) (hq := nq__law_step))).valBor (se_int).valBor)).valBor ((se_ix ((se_lst (n := 4) (sa_v se_int (sa_v se_int (sa_v se_int (sa_v se_int sa_nil)))))).toBor ((se_mod ((se_ix (se_varB (i := 0) (hq := nq__law_d)) (se_int).valBor)).valBor (se_int).valBor)).valBor)).valBor))).valBor)).toVal)
  (sb_cons (ss_append (i := 3) (hq := nq__law_row_here) (se_var (i := 2) (hq := nq__law_place)))
  sb_nil)))) (by first | decide | simp [Tg.is]))
  (sb_cons (ss_retV (i := 3) (hq := nq__law_row_here))
  sb_nil))))
abbrev st_long_row_L : Stmt := topS 56
abbrev N_long_row_L : List Str := ["_law_d", "_law_most", "_law_row_here", "_law_cut", "_law_by", "_law_place"]
theorem sc_long_row_L : FnScope N_long_row_L ["_law_d", "_law_most"] (defScope st_long_row_L) := ⟨rfl, rfl, rfl, by decide +kernel, rfl, by decide +kernel, by decide +kernel⟩
theorem nd_long_row_L : N_long_row_L.Nodup := sc_long_row_L.nd
theorem ok_long_row_L [md : Md] {P : Program} {w : World} {K : PySem.W.Frag} {mg : Str → Option Value} {base : Heap} {cl : Cl} {fa : Addr} {fd : FuncData} (B : Bl mg) (hK : cl.K = K) (F : Fun K "_law_long_row" "_law_long_row" st_long_row_L fa fd) (gm : mg "_law_long_row" = some (.ref fa)) (bn : Binds K fd ["_law_d", "_law_most"] []) (F_row_L : Fi P w K mg base cl "_law_row" 1 [false, false] (.own none) f_row_L) : Fi P w K mg base cl "_law_long_row" 2 [false, false] (.own none) f_long_row_L := by
  refine def_ok (ls := [.val, .val, .val, .val]) (m := m_long_row_L) (ks' := []) F sc_long_row_L gm bn rfl rfl rfl (.inr rfl) (fun cdv A outer s H E h0 s0 b0 hr => ?_)
  exact (sb_cons (ss_set (i := 2) nd_long_row_L ((se_call F_row_L (hr.mono (by decide)) (sa_b (se_varB (i := 0) (hq := nq__law_d)) (sa_b (se_varB (i := 1) (hq := nq__law_most)) sa_nil)) nq__law_row)).toVal)
  (sb_cons (ss_set (i := 3) nd_long_row_L (se_mod ((se_fdiv ((se_ix (se_varB (i := 0) (hq := nq__law_d)) (se_int).valBor)).valBor (se_int).valBor)).valBor ((se_add ((sf_Len B (sa_b ((se_var (i := 2) (hq := nq__law_row_here))).valBor sa_nil))).valBor (se_int).valBor)).toBor))
  (sb_cons (ss_set (i := 4) nd_long_row_L (se_ix ((se_lst (n := 4) (sa_v se_int (sa_v (se_pow (se_int).valBor (se_int).valBor) (sa_v (se_pow (se_int).valBor (se_int).valBor) (sa_v (se_pow (se_int).valBor (se_int).valBor) sa_nil)))))).toBor ((se_mod ((se_fdiv ((se_ix (se_varB (i := 0) (hq := nq__law_d)) (se_int).valBor)).valBor (se_int).valBor)).valBor (se_int).valBor)).valBor))
  (sb_cons (ss_ret (se_add ((se_slL ((se_var (i := 2) (hq := nq__law_row_here))).valBor so_none (so_some ((se_var (i := 3) (hq := nq__law_cut))).valBor))).toBor (SE.toBor (se_comp [("_law_place", 5)] rfl nd_long_row_L (si_it (sq_val ((se_slL ((se_var (i := 2) (hq := nq__law_row_here))).valBor (so_some ((se_var (i := 3) (hq := nq__law_cut))).valBor) so_none)).toVal)) (blkOk_by (N := N_long_row_L) (sc := defScope st_long_row_L) (own := [("_law_place", 5)]) (by decide +kernel)) (by decide) (by decide) (fun _ _ _ _ _ => sg_name nd_long_row_L) (fun _ _ _ _ _ => sp_nil) (fun _ _ _ _ _ => ((se_add ((se_var (i := 5) (hq := nq__law_place))).valBor ((se_var (i := 4) (hq := nq__law_by))).valBor)).toVal)))))
  sb_nil))))
abbrev st_behind_L : Stmt := topS 57
abbrev N_behind_L : List Str := ["_law_one", "_law_other", "_law_gap", "_law_by", "_law_place"]
theorem sc_behind_L : FnScope N_behind_L ["_law_one", "_law_other", "_law_gap"] (defScope st_behind_L) := ⟨rfl, rfl, rfl, by decide +kernel, rfl, by decide +kernel, by decide +kernel⟩
theorem nd_behind_L : N_behind_L.Nodup := sc_behind_L.nd
theorem ok_behind_L [md : Md] {P : Program} {w : World} {K : PySem.W.Frag} {mg : Str → Option Value} {base : Heap} {cl : Cl} {fa : Addr} {fd : FuncData} (B : Bl mg) (hK : cl.K = K) (F : Fun K "_law_behind" "_law_behind" st_behind_L fa fd) (gm : mg "_law_behind" = some (.ref fa)) (bn : Binds K fd ["_law_one", "_law_other", "_law_gap"] [])  : Fi P w K mg base cl "_law_behind" 1 [false, false, false] (.own none) f_behind_L := by
  refine def_ok (ls := [.val, .val]) (m := m_behind_L) (ks' := []) F sc_behind_L gm bn rfl rfl rfl (.inr rfl) (fun cdv A outer s H E h0 s0 b0 hr => ?_)
  exact (sb_cons (ss_set (i := 3) nd_behind_L (se_sub ((se_add ((se_add ((se_ix (se_varB (i := 0) (hq := nq__law_one)) ((se_neg (se_int).valBor)).valBor)).valBor (se_int).valBor)).toBor (se_varB (i := 2) (hq := nq__law_gap)))).toBor ((se_ix (se_varB (i := 1) (hq := nq__law_other)) (se_int).valBor)).valBor))
  (sb_cons (ss_ret (se_add (se_varB (i := 0) (hq := nq__law_one)) (SE.toBor (se_comp [("_law_place", 4)] rfl nd_behind_L (si_it (sq_bor (se_varB (i := 1) (hq := nq__law_other)))) (blkOk_by (N := N_behind_L) (sc := defScope st_behind_L) (own := [("_law_place", 4)]) (by decide +kernel)) (by decide) (by decide) (fun _ _ _ _ _ => sg_name nd_behind_L) (fun _ _ _ _ _ => sp_nil) (fun _ _ _ _ _ => ((se_add ((se_var (i := 4) (hq := nq__law_place))).valBor ((se_var (i := 3) (hq := nq__law_by))).valBor)).toVal)))))
  sb_nil))
abbrev st_view_L : Stmt := topS 58
abbrev N_view_L : List Str := ["_law_house", "_law_some", "_law_name"]
theorem sc_view_L : FnScope N_view_L ["_law_house"] (defScope st_view_L) := ⟨rfl, rfl, rfl, by decide +kernel, rfl, by decide +kernel, by decide +kernel⟩
theorem nd_view_L : N_view_L.Nodup := sc_view_L.nd
theorem ok_view_L [md : Md] {P : Program} {w : World} {K : PySem.W.Frag} {mg : Str → Option Value} {base : Heap} {cl : Cl} {fa : Addr} {fd : FuncData} (B : Bl mg) (hK : cl.K = K) (F : Fun K "_law_view" "_law_view" st_view_L fa fd) (gm : mg "_law_view" = some (.ref fa)) (bn : Binds K fd ["_law_house"] []) (F_House_roads : FiR P w K mg base cl "House" "roads" 1 false [] (.own none) f_House_roads) (F_House_deeds : FiR P w K mg base cl "House" "deeds" 1 false [] (.own none) f_House_deeds) (F_House_undone : FiR P w K mg base cl "House" "undone" 1 false [] (.own none) f_House_undone) (F_House_row : FiR P w K mg base cl "House" "row" 2 false [false] (.own none) f_House_row) (F_House_log : FiR P w K mg base cl "House" "log" 2 false [false] (.own none) f_House_log) : Fi P w K mg base cl "_law_view" 3 [false] (.lls none (.own none)) f_view_L := by
  refine def_okO (ls := [.lls none (.own none), .val]) (m := m_view_L) (ks' := []) F sc_view_L gm bn rfl rfl rfl (fun cdv A outer s H E h0 s0 b0 hr => ?_)
  exact (sb_cons (ss_set (i := 1) nd_view_L (se_lls (so_cons (se_methR0 F_House_roads (hr.mono (by decide)) (se_varB (i := 0) (hq := nq__law_house))) (so_cons (se_methR0 F_House_deeds (hr.mono (by decide)) (se_varB (i := 0) (hq := nq__law_house))) (so_cons (se_methR0 F_House_undone (hr.mono (by decide)) (se_varB (i := 0) (hq := nq__law_house))) so_nil)))))
  (sb_cons (ss_for (passes_of rfl) rfl (si_it (sq_val ((se_methR0 F_House_roads (hr.mono (by decide)) (se_varB (i := 0) (hq := nq__law_house)))).toVal)) (sg_name nd_view_L) (fun s => (sb_cons (ss_catL (i := 1) (se_lls (so_cons (se_methR F_House_row (hr.mono (by decide)) (se_varB (i := 0) (hq := nq__law_house)) (sa_b ((se_var (i := 2) (hq := nq__law_name))).valBor sa_nil)) (so_cons (se_methR F_House_log (hr.mono (by decide)) (se_varB (i := 0) (hq := nq__law_house)) (sa_b ((se_var (i := 2) (hq := nq__law_name))).valBor sa_nil)) so_nil))) nd_view_L nq__law_some)
  sb_nil)) (by first | decide | simp [Tg.is]))
  (sb_cons (ss_retV (i := 1) (hq := nq__law_some))
  sb_nil)))
abbrev st_spoil_L : Stmt := topS 59
abbrev N_spoil_L : List Str := ["_law_house", "_law_one"]
theorem sc_spoil_L : FnScope N_spoil_L ["_law_house"] (defScope st_spoil_L) := ⟨rfl, rfl, rfl, by decide +kernel, rfl, by decide +kernel, by decide +kernel⟩
theorem nd_spoil_L : N_spoil_L.Nodup := sc_spoil_L.nd
theorem ok_spoil_L [md : Md] {P : Program} {w : World} {K : PySem.W.Frag} {mg : Str → Option Value} {base : Heap} {cl : Cl} {fa : Addr} {fd : FuncData} (B : Bl mg) (hK : cl.K = K) (F : Fun K "_law_spoil" "_law_spoil" st_spoil_L fa fd) (gm : mg "_law_spoil" = some (.ref fa)) (bn : Binds K fd ["_law_house"] []) (F_view_L : Fi P w K mg base cl "_law_view" 3 [false] (.lls none (.own none)) f_view_L) : Fi P w K mg base cl "_law_spoil" 4 [false] .val f_spoil_L := by
  refine def_ok (ls := [.val]) (m := m_spoil_L) (ks' := [.bor, .val]) F sc_spoil_L gm bn rfl rfl rfl (.inl rfl) (fun cdv A outer s H E h0 s0 b0 hr => ?_)
  exact (sb_cons (ss_forRvT (j := 1) (passes_of rfl) rfl (se_call F_view_L (hr.mono (by decide)) (sa_b (se_varB (i := 0) (hq := nq__law_house)) sa_nil) nq__law_view) (se_tup (n := 2) (sa_v se_int (sa_v se_int sa_nil))) nd_spoil_L nq__law_one)
  sb_nil)
abbrev st_law : Stmt := topS 60
abbrev N_law : List Str := ["_law_script", "_law_numbers_here", "_law_rows", "_law_house", "_law_handed", "_law_row_here", "_law_one", "_law_first", "_law_both", "_law_ahead", "_law_again"]
theorem sc_law : FnScope N_law ["_law_script"] (defScope st_law) := ⟨rfl, rfl, rfl, by decide +kernel, rfl, by decide +kernel, by decide +kernel⟩
theorem nd_law : N_law.Nodup := sc_law.nd
open ModeZ in
theorem ok_law {P : Program} {w : World} {K : PySem.W.Frag} {mg : Str → Option Value} {base : Heap} {cl : Cl} {fa : Addr} {fd : FuncData} (B : Bl mg) (hK : cl.K = K) (F : Fun K "law" "law" st_law fa fd) (F_numbers_L : Fi P w K mg base cl "_law_numbers" 1 [false, false] (.own none) f_numbers_L) (F_long_row_L : Fi P w K mg base cl "_law_long_row" 2 [false, false] (.own none) f_long_row_L) (F_row_L : Fi P w K mg base cl "_law_row" 1 [false, false] (.own none) f_row_L) (K_House : MkM P w K mg base cl "House" 1 kk_House 0 f_House___init__) (F_House_build : FiMB P w K mg base cl "House" "build" 4 kk_House kk_House [true, false] .val f_House_build) (F_House_row : FiR P w K mg base cl "House" "row" 2 false [false] (.own none) f_House_row) (F_same_L : Fi P w K mg base cl "_law_same" 8 [false, false] .val (f_same_L 8)) (F_view_L : Fi P w K mg base cl "_law_view" 3 [false] (.lls none (.own none)) f_view_L) (F_spoil_L : Fi P w K mg base cl "_law_spoil" 4 [false] .val f_spoil_L) (F_House_lay : FiM P w K mg base cl "House" "lay" 9 kk_House kk_House 3 .val f_House_lay) (F_behind_L : Fi P w K mg base cl "_law_behind" 1 [false, false, false] (.own none) f_behind_L) (F_House_walk : FiM P w K mg base cl "House" "walk" 9 kk_House kk_House 3 .val f_House_walk) (F_House_take : FiM P w K mg base cl "House" "take" 9 kk_House kk_House 2 .val f_House_take) (F_House_log : FiR P w K mg base cl "House" "log" 2 false [false] (.own none) f_House_log) (F_House_shut : FiM P w K mg base cl "House" "shut" 2 kk_House kk_House 1 .val f_House_shut) (F_House_back : FiM P w K mg base cl "House" "back" 1 kk_House kk_House 0 .val f_House_back) (F_House_late : FiM P w K mg base cl "House" "late" 10 kk_House kk_House 4 .val f_House_late) (F_far : Fi P w K mg base cl "far" 6 [false, false] (.own none) f_far) (F_House_deeds : FiR P w K mg base cl "House" "deeds" 1 false [] (.own none) f_House_deeds) : FnOk P w K mg base (L2.CX P w) 11 fa fd ["_law_script"] (spV cl [false] .val f_law) := by
  refine def_okF (md := mZ) (ls := [.val, .val, .val, .lls none (.own none), .val, .val, .val, .val, .val, .val]) (m := m_law) (ks' := []) F sc_law rfl rfl rfl (.inl rfl) (fun cdv A outer s H E h0 s0 b0 hr => ?_)
  exact (sb_cons (ss_set (i := 1) nd_law ((se_call F_numbers_L (hr.mono (by decide)) (sa_b (se_varB (i := 0) (hq := nq__law_script)) (sa_b (se_int).valBor sa_nil)) nq__law_numbers)).toVal)
  (sb_cons (ss_set (i := 2) nd_law ((se_lst (n := 2) (sa_v ((se_add ((se_call F_long_row_L (hr.mono (by decide)) (sa_b ((se_slL ((se_var (i := 1) (hq := nq__law_numbers_here))).valBor (so_some (se_int).valBor) so_none)).toBor (sa_b (se_int).valBor sa_nil)) nq__law_long_row)).toBor ((se_lst (n := 1) (sa_v (se_pow (se_int).valBor (se_int).valBor) sa_nil))).toBor)).toVal (sa_v ((se_add ((se_call F_row_L (hr.mono (by decide)) (sa_b ((se_slL ((se_var (i := 1) (hq := nq__law_numbers_here))).valBor (so_some (se_int).valBor) so_none)).toBor (sa_b (se_int).valBor sa_nil)) nq__law_row)).toBor ((se_lst (n := 2) (sa_v se_int (sa_v se_int sa_nil)))).toBor)).toVal sa_nil)))).toVal)
  (sb_cons (ss_set (i := 3) nd_law (se_make0 K_House (hr.mono (by decide)) nq_House))
  (sb_cons (ss_setLcO (i := 4) [("_law_row_here", 5)] rfl nd_law (si_it (sq_val (se_var (i := 2) (hq := nq__law_rows)))) (blkOk_by (N := N_law) (sc := defScope st_law) (own := [("_law_row_here", 5)]) (by decide +kernel)) (by decide) (by decide) (fun _ _ _ _ _ => sg_name nd_law) (fun _ _ _ _ _ => sp_nil) (fun _ _ _ _ _ => (sf_List B (sa_b ((se_var (i := 5) (hq := nq__law_row_here))).valBor sa_nil))) (sw_true rfl rfl rfl (by decide +kernel)))
  (sb_cons (ss_exprX (sx_methI (i := 3) (j := 4) (C := "House") F_House_build (hr.mono (by decide)) se_str (se_int).valBor nq__law_house nq__law_handed kno_House_build (by decide)))
  (sb_cons (ss_exprX (sx_methI (i := 3) (j := 4) (C := "House") F_House_build (hr.mono (by decide)) se_str (se_int).valBor nq__law_house nq__law_handed kno_House_build (by decide)))
  (sb_cons (ss_forARv (i := 4) (j := 6) (passes_of rfl) rfl se_int nd_law nq__law_handed nq__law_one (by decide))
  (sb_cons (ss_if (st_not (st_val ((se_call F_same_L (hr.mono (by decide)) (sa_b ((se_lst (n := 2) (sa_v ((se_methR F_House_row (hr.mono (by decide)) (se_varB (i := 3) (hq := nq__law_house)) (sa_b (se_str).valBor sa_nil))).toVal (sa_v ((se_methR F_House_row (hr.mono (by decide)) (se_varB (i := 3) (hq := nq__law_house)) (sa_b (se_str).valBor sa_nil))).toVal sa_nil)))).toBor (sa_b ((se_var (i := 2) (hq := nq__law_rows))).valBor sa_nil)) nq__law_same)).valBor))
  (sb_cons (ss_ret se_bl)
  sb_nil)
  sb_nil)
  (sb_cons (ss_set (i := 7) nd_law (SE.toVal (se_call F_view_L (hr.mono (by decide)) (sa_b (se_varB (i := 3) (hq := nq__law_house)) sa_nil) nq__law_view)))
  (sb_cons (ss_expr (se_call F_spoil_L (hr.mono (by decide)) (sa_b (se_varB (i := 3) (hq := nq__law_house)) sa_nil) nq__law_spoil))
  (sb_cons (ss_if (st_not (st_val ((se_call F_same_L (hr.mono (by decide)) (sa_b ((se_call F_view_L (hr.mono (by decide)) (sa_b (se_varB (i := 3) (hq := nq__law_house)) sa_nil) nq__law_view)).toBor (sa_b ((se_var (i := 7) (hq := nq__law_first))).valBor sa_nil)) nq__law_same)).valBor))
  (sb_cons (ss_ret se_bl)
  sb_nil)
  sb_nil)
  (sb_cons (ss_exprX (sx_meth (i := 3) (C := "House") (nb := 3) F_House_lay (hr.mono (by decide)) (sa_v se_str (sa_v se_str (sa_v ((se_add ((sf_Len B (sa_b ((se_ix ((se_var (i := 2) (hq := nq__law_rows))).valBor (se_int).valBor)).valBor sa_nil))).valBor ((se_mod ((se_ix ((se_var (i := 1) (hq := nq__law_numbers_here))).valBor (se_int).valBor)).valBor (se_int).valBor)).valBor)).toVal sa_nil))) nq__law_house kno_House_lay))
  (sb_cons (ss_set (i := 8) nd_law ((se_call F_behind_L (hr.mono (by decide)) (sa_b ((se_ix ((se_var (i := 2) (hq := nq__law_rows))).valBor (se_int).valBor)).valBor (sa_b ((se_ix ((se_var (i := 2) (hq := nq__law_rows))).valBor (se_int).valBor)).valBor (sa_b ((se_add ((sf_Len B (sa_b ((se_ix ((se_var (i := 2) (hq := nq__law_rows))).valBor (se_int).valBor)).valBor sa_nil))).valBor ((se_mod ((se_ix ((se_var (i := 1) (hq := nq__law_numbers_here))).valBor (se_int).valBor)).valBor (se_int).valBor)).valBor)).toBor sa_nil))) nq__law_behind)).toVal)
  (sb_cons (ss_exprX (sx_meth (i := 3) (C := "House") (nb := 3) F_House_walk (hr.mono (by decide)) (sa_v se_str (sa_v ((se_add (se_int).valBor ((se_mod ((se_ix ((se_var (i := 1) (hq := nq__law_numbers_here))).valBor (se_int).valBor)).valBor (se_int).valBor)).valBor)).toVal (sa_v (se_ix ((se_var (i := 1) (hq := nq__law_numbers_here))).valBor (se_int).valBor) sa_nil))) nq__law_house kno_House_walk))
  (sb_cons (ss_exprX (sx_meth (i := 3) (C := "House") (nb := 2) F_House_take (hr.mono (by decide)) (sa_v se_str (sa_v (se_ix ((se_methR F_House_row (hr.mono (by decide)) (se_varB (i := 3) (hq := nq__law_house)) (sa_b (se_str).valBor sa_nil))).toBor (se_int).valBor) sa_nil)) nq__law_house kno_House_take))
  (sb_cons (ss_exprX (sx_meth (i := 3) (C := "House") (nb := 3) F_House_lay (hr.mono (by decide)) (sa_v se_str (sa_v se_str (sa_v ((se_add (se_int).valBor ((se_mod ((se_ix ((se_var (i := 1) (hq := nq__law_numbers_here))).valBor (se_int).valBor)).valBor (se_int).valBor)).valBor)).toVal sa_nil))) nq__law_house kno_House_lay))
  (sb_cons (ss_expr (se_call F_spoil_L (hr.mono (by decide)) (sa_b (se_varB (i := 3) (hq := nq__law_house)) sa_nil) nq__law_spoil))
  (sb_cons (ss_if (st_of (sw_or (st_cmp (op_neD hr.units) opv_ne nox_ne ((se_methR F_House_row (hr.mono (by decide)) (se_varB (i := 3) (hq := nq__law_house)) (sa_b (se_str).valBor sa_nil))).toBor ((se_var (i := 8) (hq := nq__law_both))).valBor) (sw_or1 (st_cmp (op_neD hr.units) opv_ne nox_ne ((se_methR F_House_log (hr.mono (by decide)) (se_varB (i := 3) (hq := nq__law_house)) (sa_b (se_str).valBor sa_nil))).toBor ((se_lst (n := 1) (sa_v (se_tup (n := 3) (sa_v se_str (sa_v (sf_Tuple B (sa_b ((se_ix ((se_var (i := 2) (hq := nq__law_rows))).valBor (se_int).valBor)).valBor sa_nil)) (sa_v ((se_add ((sf_Len B (sa_b ((se_ix ((se_var (i := 2) (hq := nq__law_rows))).valBor (se_int).valBor)).valBor sa_nil))).valBor ((se_mod ((se_ix ((se_var (i := 1) (hq := nq__law_numbers_here))).valBor (se_int).valBor)).valBor (se_int).valBor)).valBor)).toVal sa_nil)))) sa_nil))).toBor))))
  (sb_cons (ss_ret se_bl)
  sb_nil)
  sb_nil)
  (sb_cons (ss_exprX (sx_meth (i := 3) (C := "House") (nb := 1) F_House_shut (hr.mono (by decide)) (sa_v se_str sa_nil) nq__law_house kno_House_shut))
  (sb_cons (ss_exprX (sx_meth0 (i := 3) (C := "House") F_House_back (hr.mono (by decide)) nq__law_house kno_House_back))
  (sb_cons (ss_exprX (sx_meth (i := 3) (C := "House") (nb := 4) F_House_late (hr.mono (by decide)) (sa_v se_str (sa_v se_int (sa_v se_int (sa_v (se_mod ((se_ix ((se_var (i := 1) (hq := nq__law_numbers_here))).valBor (se_int).valBor)).valBor (se_int).valBor) sa_nil)))) nq__law_house kno_House_late))
  (sb_cons (ss_set (i := 9) nd_law ((se_call F_far (hr.mono (by decide)) (sa_b ((sf_List B (sa_b ((se_ix ((se_var (i := 2) (hq := nq__law_rows))).valBor (se_int).valBor)).valBor sa_nil))).toBor (sa_b ((se_lst (n := 1) (sa_v (se_tup (n := 2) (sa_v se_int (sa_v (se_mod ((se_ix ((se_var (i := 1) (hq := nq__law_numbers_here))).valBor (se_int).valBor)).valBor (se_int).valBor) sa_nil))) sa_nil))).toBor sa_nil)) nq_far)).toVal)
  (sb_cons (ss_expr (se_call F_spoil_L (hr.mono (by decide)) (sa_b (se_varB (i := 3) (hq := nq__law_house)) sa_nil) nq__law_spoil))
  (sb_cons (ss_set (i := 10) nd_law ((se_call F_behind_L (hr.mono (by decide)) (sa_b ((se_var (i := 9) (hq := nq__law_ahead))).valBor (sa_b ((se_ix ((se_var (i := 2) (hq := nq__law_rows))).valBor (se_int).valBor)).valBor (sa_b ((se_add ((sf_Len B (sa_b ((se_ix ((se_var (i := 2) (hq := nq__law_rows))).valBor (se_int).valBor)).valBor sa_nil))).valBor ((se_mod ((se_ix ((se_var (i := 1) (hq := nq__law_numbers_here))).valBor (se_int).valBor)).valBor (se_int).valBor)).valBor)).toBor sa_nil))) nq__law_behind)).toVal)
  (sb_cons (ss_ret (se_and (se_cmp (op_eqD hr.units) opv_eq nox_eq ((se_methR F_House_row (hr.mono (by decide)) (se_varB (i := 3) (hq := nq__law_house)) (sa_b (se_str).valBor sa_nil))).toBor ((se_var (i := 10) (hq := nq__law_again))).valBor) (se_one (se_cmp (op_eqD hr.units) opv_eq nox_eq ((se_ix ((se_methR0 F_House_deeds (hr.mono (by decide)) (se_varB (i := 3) (hq := nq__law_house)))).toBor ((se_neg (se_int).valBor)).valBor)).valBor ((se_tup (n := 5) (sa_v se_str (sa_v se_str (sa_v se_int (sa_v se_int (sa_v (se_mod ((se_ix ((se_var (i := 1) (hq := nq__law_numbers_here))).valBor (se_int).valBor)).valBor (se_int).valBor) sa_nil))))))).valBor))))
  sb_nil)))))))))))))))))))))))))
abbrev in_BadRow : Stmt := initS 15
theorem isc_BadRow : FnScope ["self", "at"] ["self", "at"] (defScope in_BadRow) := ⟨rfl, rfl, rfl, by decide +kernel, rfl, by decide +kernel, by decide +kernel⟩
abbrev in_Clash : Stmt := initS 16
theorem isc_Clash : FnScope ["self", "at"] ["self", "at"] (defScope in_Clash) := ⟨rfl, rfl, rfl, by decide +kernel, rfl, by decide +kernel, by decide +kernel⟩
theorem bn_look_row {K : PySem.W.Frag} {fa : Addr} {fd : FuncData} (F : Fun K "look_row" "look_row" st_look_row fa fd) : Binds K fd ["row"] [] := F.binds fun _ _ _ _ _ _ us hl => match us, hl with | [_], _ => rfl
theorem bn_mirrored {K : PySem.W.Frag} {fa : Addr} {fd : FuncData} (F : Fun K "mirrored" "mirrored" st_mirrored fa fd) : Binds K fd ["row"] [] := F.binds fun _ _ _ _ _ _ us hl => match us, hl with | [_], _ => rfl
theorem bn_look_creel {K : PySem.W.Frag} {fa : Addr} {fd : FuncData} (F : Fun K "look_creel" "look_creel" st_look_creel fa fd) : Binds K fd ["creel"] [] := F.binds fun _ _ _ _ _ _ us hl => match us, hl with | [_], _ => rfl
theorem bn_share {K : PySem.W.Frag} {fa : Addr} {fd : FuncData} (F : Fun K "share" "share" st_share fa fd) : Binds K fd ["trains", "size"] [] := F.binds fun _ _ _ _ _ _ us hl => match us, hl with | [_, _], _ => rfl
theorem bn_mark {K : PySem.W.Frag} {fa : Addr} {fd : FuncData} (F : Fun K "mark" "mark" st_mark fa fd) : Binds K fd ["trains", "size", "place"] [] := F.binds fun _ _ _ _ _ _ us hl => match us, hl with | [_, _, _], _ => rfl
theorem bn_longest_ripe {K : PySem.W.Frag} {fa : Addr} {fd : FuncData} (F : Fun K "longest_ripe" "longest_ripe" st_longest_ripe fa fd) : Binds K fd ["found", "place"] [] := F.binds fun _ _ _ _ _ _ us hl => match us, hl with | [_, _], _ => rfl
theorem bn_grown {K : PySem.W.Frag} {fa : Addr} {fd : FuncData} (F : Fun K "grown" "grown" st_grown fa fd) : Binds K fd ["found", "place"] [] := F.binds fun _ _ _ _ _ _ us hl => match us, hl with | [_, _], _ => rfl
theorem bn_list_of {K : PySem.W.Frag} {fa : Addr} {fd : FuncData} (F : Fun K "list_of" "list_of" st_list_of fa fd) : Binds K fd ["row"] [] := F.binds fun _ _ _ _ _ _ us hl => match us, hl with | [_], _ => rfl
theorem bn_next_place {K : PySem.W.Frag} {fa : Addr} {fd : FuncData} (F : Fun K "next_place" "next_place" st_next_place fa fd) : Binds K fd ["left"] [] := F.binds fun _ _ _ _ _ _ us hl => match us, hl with | [_], _ => rfl
theorem bn_shortest_ripe {K : PySem.W.Frag} {fa : Addr} {fd : FuncData} (F : Fun K "shortest_ripe" "shortest_ripe" st_shortest_ripe fa fd) : Binds K fd ["left", "place"] [] := F.binds fun _ _ _ _ _ _ us hl => match us, hl with | [_, _], _ => rfl
theorem bn_shrunk {K : PySem.W.Frag} {fa : Addr} {fd : FuncData} (F : Fun K "shrunk" "shrunk" st_shrunk fa fd) : Binds K fd ["left", "place"] [] := F.binds fun _ _ _ _ _ _ us hl => match us, hl with | [_, _], _ => rfl
theorem bn_stones_of {K : PySem.W.Frag} {fa : Addr} {fd : FuncData} (F : Fun K "stones_of" "stones_of" st_stones_of fa fd) : Binds K fd ["left"] [] := F.binds fun _ _ _ _ _ _ us hl => match us, hl with | [_], _ => rfl
theorem bn_look_walks {K : PySem.W.Frag} {fa : Addr} {fd : FuncData} (F : Fun K "look_walks" "look_walks" st_look_walks fa fd) : Binds K fd ["walks"] [] := F.binds fun _ _ _ _ _ _ us hl => match us, hl with | [_], _ => rfl
theorem bn_by_walks {K : PySem.W.Frag} {fa : Addr} {fd : FuncData} (F : Fun K "by_walks" "by_walks" st_by_walks fa fd) : Binds K fd ["walks", "size"] [] := F.binds fun _ _ _ _ _ _ us hl => match us, hl with | [_, _], _ => rfl
theorem bn_added_to {K : PySem.W.Frag} {fa : Addr} {fd : FuncData} (F : Fun K "added_to" "added_to" st_added_to fa fd) : Binds K fd ["found", "walks"] [] := F.binds fun _ _ _ _ _ _ us hl => match us, hl with | [_, _], _ => rfl
theorem bn_far {K : PySem.W.Frag} {fa : Addr} {fd : FuncData} (F : Fun K "far" "far" st_far fa fd) : Binds K fd ["row", "walks"] [] := F.binds fun _ _ _ _ _ _ us hl => match us, hl with | [_, _], _ => rfl
theorem bn_laid_behind {K : PySem.W.Frag} {fa : Addr} {fd : FuncData} (F : Fun K "laid_behind" "laid_behind" st_laid_behind fa fd) : Binds K fd ["one", "other", "gap"] [] := F.binds fun _ _ _ _ _ _ us hl => match us, hl with | [_, _, _], _ => rfl
theorem bn_put_in {K : PySem.W.Frag} {fa : Addr} {fd : FuncData} (F : Fun K "put_in" "put_in" st_put_in fa fd) : Binds K fd ["row", "place"] [] := F.binds fun _ _ _ _ _ _ us hl => match us, hl with | [_, _], _ => rfl
theorem bn_taken_out {K : PySem.W.Frag} {fa : Addr} {fd : FuncData} (F : Fun K "taken_out" "taken_out" st_taken_out fa fd) : Binds K fd ["row", "place"] [] := F.binds fun _ _ _ _ _ _ us hl => match us, hl with | [_, _], _ => rfl
theorem bn_behind_entry {K : PySem.W.Frag} {fa : Addr} {fd : FuncData} (F : Fun K "behind_entry" "behind_entry" st_behind_entry fa fd) : Binds K fd ["row", "entry"] [] := F.binds fun _ _ _ _ _ _ us hl => match us, hl with | [_, _], _ => rfl
theorem bn_gone_over {K : PySem.W.Frag} {fa : Addr} {fd : FuncData} (F : Fun K "gone_over" "gone_over" st_gone_over fa fd) : Binds K fd ["row", "entries"] [] := F.binds fun _ _ _ _ _ _ us hl => match us, hl with | [_, _], _ => rfl
theorem bn_is_name {K : PySem.W.Frag} {fa : Addr} {fd : FuncData} (F : Fun K "is_name" "is_name" st_is_name fa fd) : Binds K fd ["text"] [] := F.binds fun _ _ _ _ _ _ us hl => match us, hl with | [_], _ => rfl
theorem bn_numbers_L {K : PySem.W.Frag} {fa : Addr} {fd : FuncData} (F : Fun K "_law_numbers" "_law_numbers" st_numbers_L fa fd) : Binds K fd ["_law_script", "_law_many"] [] := F.binds fun _ _ _ _ _ _ us hl => match us, hl with | [_, _], _ => rfl
theorem bn_same_L {K : PySem.W.Frag} {fa : Addr} {fd : FuncData} (F : Fun K "_law_same" "_law_same" st_same_L fa fd) : Binds K fd ["_law_found", "_law_due"] [] := F.binds fun _ _ _ _ _ _ us hl => match us, hl with | [_, _], _ => rfl
theorem bn_row_L {K : PySem.W.Frag} {fa : Addr} {fd : FuncData} (F : Fun K "_law_row" "_law_row" st_row_L fa fd) : Binds K fd ["_law_d", "_law_most"] [] := F.binds fun _ _ _ _ _ _ us hl => match us, hl with | [_, _], _ => rfl
theorem bn_long_row_L {K : PySem.W.Frag} {fa : Addr} {fd : FuncData} (F : Fun K "_law_long_row" "_law_long_row" st_long_row_L fa fd) : Binds K fd ["_law_d", "_law_most"] [] := F.binds fun _ _ _ _ _ _ us hl => match us, hl with | [_, _], _ => rfl
theorem bn_behind_L {K : PySem.W.Frag} {fa : Addr} {fd : FuncData} (F : Fun K "_law_behind" "_law_behind" st_behind_L fa fd) : Binds K fd ["_law_one", "_law_other", "_law_gap"] [] := F.binds fun _ _ _ _ _ _ us hl => match us, hl with | [_, _, _], _ => rfl
theorem bn_view_L {K : PySem.W.Frag} {fa : Addr} {fd : FuncData} (F : Fun K "_law_view" "_law_view" st_view_L fa fd) : Binds K fd ["_law_house"] [] := F.binds fun _ _ _ _ _ _ us hl => match us, hl with | [_], _ => rfl
theorem bn_spoil_L {K : PySem.W.Frag} {fa : Addr} {fd : FuncData} (F : Fun K "_law_spoil" "_law_spoil" st_spoil_L fa fd) : Binds K fd ["_law_house"] [] := F.binds fun _ _ _ _ _ _ us hl => match us, hl with | [_], _ => rfl
theorem bl_mk {K : PySem.W.Frag} {h : Heap} {mg : Str → Option Value} (X : K.In h) (G : h.Ns mainGlobals mg) (z_len : PySem.W.nsIn K mainGlobals "len" = some none) (z_range : PySem.W.nsIn K mainGlobals "range" = some none) (z_min : PySem.W.nsIn K mainGlobals "min" = some none) (z_max : PySem.W.nsIn K mainGlobals "max" = some none) (z_abs : PySem.W.nsIn K mainGlobals "abs" = some none) (z_sum : PySem.W.nsIn K mainGlobals "sum" = some none) (z_all : PySem.W.nsIn K mainGlobals "all" = some none) (z_any : PySem.W.nsIn K mainGlobals "any" = some none) (z_sorted : PySem.W.nsIn K mainGlobals "sorted" = some none) (z_list : PySem.W.nsIn K mainGlobals "list" = some none) (z_tuple : PySem.W.nsIn K mainGlobals "tuple" = some none) (z_int : PySem.W.nsIn K mainGlobals "int" = some none) (z_bool : PySem.W.nsIn K mainGlobals "bool" = some none) (z_str : PySem.W.nsIn K mainGlobals "str" = some none) (z_isinstance : PySem.W.nsIn K mainGlobals "isinstance" = some none) (z_zip : PySem.W.nsIn K mainGlobals "zip" = some none) (z_enumerate : PySem.W.nsIn K mainGlobals "enumerate" = some none) (z_reversed : PySem.W.nsIn K mainGlobals "reversed" = some none) (z_set : PySem.W.nsIn K mainGlobals "set" = some none) (z_dict : PySem.W.nsIn K mainGlobals "dict" = some none) : Bl mg := ⟨PySem.W.mg_none_of X G z_len, PySem.W.mg_none_of X G z_range, PySem.W.mg_none_of X G z_min, PySem.W.mg_none_of X G z_max, PySem.W.mg_none_of X G z_abs, PySem.W.mg_none_of X G z_sum, PySem.W.mg_none_of X G z_all, PySem.W.mg_none_of X G z_any, PySem.W.mg_none_of X G z_sorted, PySem.W.mg_none_of X G z_list, PySem.W.mg_none_of X G z_tuple, PySem.W.mg_none_of X G z_int, PySem.W.mg_none_of X G z_bool, PySem.W.mg_none_of X G z_str, PySem.W.mg_none_of X G z_isinstance, PySem.W.mg_none_of X G z_zip, PySem.W.mg_none_of X G z_enumerate, PySem.W.mg_none_of X G z_reversed, PySem.W.mg_none_of X G z_set, PySem.W.mg_none_of X G z_dict⟩
open ModeZ in
theorem all_mk {l : PySem.W.OpenLaw} {w : World} {K : PySem.W.Frag} {h : Heap} {mg : Str → Option Value} {fa : Addr} {t_LETTERS : Tok} {t_MOST_ROADS : Tok} {t_MOST_SIGNS : Tok} {t_MOST_STONES : Tok} {a_House : Addr} {a_Road : Addr} {i_Road___init__ : Addr} {oc_Road___init__ kV_Road___init__ dc_Road___init__ pm_Road___init__ cd_Road___init__ ct_Road___init__ : Value} {od_Road___init__ an_Road___init__ : Option Addr} {sl_Road___init__ : Array (Option Value)} {i_Road_behind_one : Addr} {oc_Road_behind_one kV_Road_behind_one dc_Road_behind_one pm_Road_behind_one cd_Road_behind_one ct_Road_behind_one : Value} {od_Road_behind_one an_Road_behind_one : Option Addr} {sl_Road_behind_one : Array (Option Value)} {i_Road_anew : Addr} {oc_Road_anew kV_Road_anew dc_Road_anew pm_Road_anew cd_Road_anew ct_Road_anew : Value} {od_Road_anew an_Road_anew : Option Addr} {sl_Road_anew : Array (Option Value)} {i_House___init__ : Addr} {oc_House___init__ kV_House___init__ dc_House___init__ pm_House___init__ cd_House___init__ ct_House___init__ : Value} {od_House___init__ an_House___init__ : Option Addr} {sl_House___init__ : Array (Option Value)} {i_House_road : Addr} {oc_House_road kV_House_road dc_House_road pm_House_road cd_House_road ct_House_road : Value} {od_House_road an_House_road : Option Addr} {sl_House_road : Array (Option Value)} {i_House_become : Addr} {oc_House_become kV_House_become dc_House_become pm_House_become cd_House_become ct_House_become : Value} {od_House_become an_House_become : Option Addr} {sl_House_become : Array (Option Value)} {i_House_build : Addr} {oc_House_build kV_House_build dc_House_build pm_House_build cd_House_build ct_House_build : Value} {od_House_build an_House_build : Option Addr} {sl_House_build : Array (Option Value)} {i_House_shut : Addr} {oc_House_shut kV_House_shut dc_House_shut pm_House_shut cd_House_shut ct_House_shut : Value} {od_House_shut an_House_shut : Option Addr} {sl_House_shut : Array (Option Value)} {i_House_walk : Addr} {oc_House_walk kV_House_walk dc_House_walk pm_House_walk cd_House_walk ct_House_walk : Value} {od_House_walk an_House_walk : Option Addr} {sl_House_walk : Array (Option Value)} {i_House_take : Addr} {oc_House_take kV_House_take dc_House_take pm_House_take cd_House_take ct_House_take : Value} {od_House_take an_House_take : Option Addr} {sl_House_take : Array (Option Value)} {i_House_lay : Addr} {oc_House_lay kV_House_lay dc_House_lay pm_House_lay cd_House_lay ct_House_lay : Value} {od_House_lay an_House_lay : Option Addr} {sl_House_lay : Array (Option Value)} {i_House_late : Addr} {oc_House_late kV_House_late dc_House_late pm_House_late cd_House_late ct_House_late : Value} {od_House_late an_House_late : Option Addr} {sl_House_late : Array (Option Value)} {i_House_back : Addr} {oc_House_back kV_House_back dc_House_back pm_House_back cd_House_back ct_House_back : Value} {od_House_back an_House_back : Option Addr} {sl_House_back : Array (Option Value)} {i_House_roads : Addr} {oc_House_roads kV_House_roads dc_House_roads pm_House_roads cd_House_roads ct_House_roads : Value} {od_House_roads an_House_roads : Option Addr} {sl_House_roads : Array (Option Value)} {i_House_row : Addr} {oc_House_row kV_House_row dc_House_row pm_House_row cd_House_row ct_House_row : Value} {od_House_row an_House_row : Option Addr} {sl_House_row : Array (Option Value)} {i_House_log : Addr} {oc_House_log kV_House_log dc_House_log pm_House_log cd_House_log ct_House_log : Value} {od_House_log an_House_log : Option Addr} {sl_House_log : Array (Option Value)} {i_House_deeds : Addr} {oc_House_deeds kV_House_deeds dc_House_deeds pm_House_deeds cd_House_deeds ct_House_deeds : Value} {od_House_deeds an_House_deeds : Option Addr} {sl_House_deeds : Array (Option Value)} {i_House_undone : Addr} {oc_House_undone kV_House_undone dc_House_undone pm_House_undone cd_House_undone ct_House_undone : Value} {od_House_undone an_House_undone : Option Addr} {sl_House_undone : Array (Option Value)} {a_BadRow : Addr} {i_BadRow : Addr} {nm_BadRow q_BadRow : Str} {N_BadRow : Addr} {bs_BadRow bm_BadRow sub_BadRow : List Value} {sn_BadRow : List Str} {ab_BadRow : Bool} {col_BadRow : Option Bool} {dd_BadRow : Option Addr} {m0_BadRow m1_BadRow m2_BadRow m3_BadRow m5_BadRow : Option Value} {oc_BadRow kV_BadRow dc_BadRow pm_BadRow cd_BadRow ct_BadRow : Value} {od_BadRow an_BadRow : Option Addr} {sl_BadRow : Array (Option Value)} {a_Clash : Addr} {i_Clash : Addr} {nm_Clash q_Clash : Str} {N_Clash : Addr} {bs_Clash bm_Clash sub_Clash : List Value} {sn_Clash : List Str} {ab_Clash : Bool} {col_Clash : Option Bool} {dd_Clash : Option Addr} {m0_Clash m1_Clash m2_Clash m3_Clash m5_Clash : Option Value} {oc_Clash kV_Clash dc_Clash pm_Clash cd_Clash ct_Clash : Value} {od_Clash an_Clash : Option Addr} {sl_Clash : Array (Option Value)} {a_BadCreel : Addr} {a_BadName : Addr} {a_Bare : Addr} {a_Full : Addr} {a_Laid : Addr} {a_NoEntry : Addr} {a_NoRoad : Addr} {a_NoStone : Addr} {a_NothingLeft : Addr} {a_Taken : Addr} {a_TooMany : Addr} {a_TooNear : Addr} {a_CreelError : Addr} (X : K.In h) (G : h.Ns mainGlobals mg) (hfa : mg "law" = some (.ref fa))  (C_LETTERS : PySem.W.nsIn K mainGlobals "LETTERS" = some (some (.str "abcdefghijklmnopqrstuvwxyz" t_LETTERS))) (C_MOST_ROADS : PySem.W.nsIn K mainGlobals "MOST_ROADS" = some (some (.int 8 t_MOST_ROADS))) (C_MOST_SIGNS : PySem.W.nsIn K mainGlobals "MOST_SIGNS" = some (some (.int 8 t_MOST_SIGNS))) (C_MOST_STONES : PySem.W.nsIn K mainGlobals "MOST_STONES" = some (some (.int 60 t_MOST_STONES))) (g_House : PySem.W.nsIn K mainGlobals "House" = some (some (.ref a_House))) (pg_House : PySem.W.plainGet K a_House Str.empty = true) (hd_House : PySem.W.hasDictIn K a_House = true) (po_House : PySem.W.plainOver K a_House = true) (sa_House : PySem.W.findIn K (.ref a_House) "__setattr__" = some (some (.builtin "object.__setattr__"))) (mk_House : PySem.W.makesIn K a_House = true) (kc_House : PySem.W.keepIn K (.ref a_House) = true) (g_Road : PySem.W.nsIn K mainGlobals "Road" = some (some (.ref a_Road))) (pg_Road : PySem.W.plainGet K a_Road Str.empty = true) (hd_Road : PySem.W.hasDictIn K a_Road = true) (po_Road : PySem.W.plainOver K a_Road = true) (sa_Road : PySem.W.findIn K (.ref a_Road) "__setattr__" = some (some (.builtin "object.__setattr__"))) (mk_Road : PySem.W.makesIn K a_Road = true) (kc_Road : PySem.W.keepIn K (.ref a_Road) = true) (nf_House_by_name : PySem.W.findIn K (.ref a_House) "by_name" = some none) (nf_House_done : PySem.W.findIn K (.ref a_House) "done" = some none) (nf_House_gone : PySem.W.findIn K (.ref a_House) "gone" = some none) (nf_Road_entries : PySem.W.findIn K (.ref a_Road) "entries" = some none) (nf_Road_first : PySem.W.findIn K (.ref a_Road) "first" = some none) (nf_Road_now : PySem.W.findIn K (.ref a_Road) "now" = some none) (fi_Road___init__ : PySem.W.findIn K (.ref a_Road) "__init__" = some (some (.ref i_Road___init__))) (ifn_Road___init__ : PySem.W.isFn K (.ref i_Road___init__) = true) (li_Road___init__ : K.lookup i_Road___init__ = some ⟨oc_Road___init__, od_Road___init__, .func (PySem.W.fnOf "__init__" "Road.__init__" (defArgs st_Road___init__) (defBody st_Road___init__) (defScope st_Road___init__) .none kV_Road___init__ dc_Road___init__ pm_Road___init__ an_Road___init__ cd_Road___init__ ct_Road___init__), sl_Road___init__⟩) (ci_Road___init__ : PySem.W.codeIn K cd_Road___init__ "Road.__init__" = true) (ki_Road___init__ : PySem.W.keepIn K (.ref i_Road___init__) = true) (fi_Road_behind_one : PySem.W.findIn K (.ref a_Road) "behind_one" = some (some (.ref i_Road_behind_one))) (ifn_Road_behind_one : PySem.W.isFn K (.ref i_Road_behind_one) = true) (li_Road_behind_one : K.lookup i_Road_behind_one = some ⟨oc_Road_behind_one, od_Road_behind_one, .func (PySem.W.fnOf "behind_one" "Road.behind_one" (defArgs st_Road_behind_one) (defBody st_Road_behind_one) (defScope st_Road_behind_one) .none kV_Road_behind_one dc_Road_behind_one pm_Road_behind_one an_Road_behind_one cd_Road_behind_one ct_Road_behind_one), sl_Road_behind_one⟩) (ci_Road_behind_one : PySem.W.codeIn K cd_Road_behind_one "Road.behind_one" = true) (ki_Road_behind_one : PySem.W.keepIn K (.ref i_Road_behind_one) = true) (fi_Road_anew : PySem.W.findIn K (.ref a_Road) "anew" = some (some (.ref i_Road_anew))) (ifn_Road_anew : PySem.W.isFn K (.ref i_Road_anew) = true) (li_Road_anew : K.lookup i_Road_anew = some ⟨oc_Road_anew, od_Road_anew, .func (PySem.W.fnOf "anew" "Road.anew" (defArgs st_Road_anew) (defBody st_Road_anew) (defScope st_Road_anew) .none kV_Road_anew dc_Road_anew pm_Road_anew an_Road_anew cd_Road_anew ct_Road_anew), sl_Road_anew⟩) (ci_Road_anew : PySem.W.codeIn K cd_Road_anew "Road.anew" = true) (ki_Road_anew : PySem.W.keepIn K (.ref i_Road_anew) = true) (fi_House___init__ : PySem.W.findIn K (.ref a_House) "__init__" = some (some (.ref i_House___init__))) (ifn_House___init__ : PySem.W.isFn K (.ref i_House___init__) = true) (li_House___init__ : K.lookup i_House___init__ = some ⟨oc_House___init__, od_House___init__, .func (PySem.W.fnOf "__init__" "House.__init__" (defArgs st_House___init__) (defBody st_House___init__) (defScope st_House___init__) .none kV_House___init__ dc_House___init__ pm_House___init__ an_House___init__ cd_House___init__ ct_House___init__), sl_House___init__⟩) (ci_House___init__ : PySem.W.codeIn K cd_House___init__ "House.__init__" = true) (ki_House___init__ : PySem.W.keepIn K (.ref i_House___init__) = true) (fi_House_road : PySem.W.findIn K (.ref a_House) "road" = some (some (.ref i_House_road))) (ifn_House_road : PySem.W.isFn K (.ref i_House_road) = true) (li_House_road : K.lookup i_House_road = some ⟨oc_House_road, od_House_road, .func (PySem.W.fnOf "road" "House.road" (defArgs st_House_road) (defBody st_House_road) (defScope st_House_road) .none kV_House_road dc_House_road pm_House_road an_House_road cd_House_road ct_House_road), sl_House_road⟩) (ci_House_road : PySem.W.codeIn K cd_House_road "House.road" = true) (ki_House_road : PySem.W.keepIn K (.ref i_House_road) = true) (fi_House_become : PySem.W.findIn K (.ref a_House) "become" = some (some (.ref i_House_become))) (ifn_House_become : PySem.W.isFn K (.ref i_House_become) = true) (li_House_become : K.lookup i_House_become = some ⟨oc_House_become, od_House_become, .func (PySem.W.fnOf "become" "House.become" (defArgs st_House_become) (defBody st_House_become) (defScope st_House_become) .none kV_House_become dc_House_become pm_House_become an_House_become cd_House_become ct_House_become), sl_House_become⟩) (ci_House_become : PySem.W.codeIn K cd_House_become "House.become" = true) (ki_House_become : PySem.W.keepIn K (.ref i_House_become) = true) (fi_House_build : PySem.W.findIn K (.ref a_House) "build" = some (some (.ref i_House_build))) (ifn_House_build : PySem.W.isFn K (.ref i_House_build) = true) (li_House_build : K.lookup i_House_build = some ⟨oc_House_build, od_House_build, .func (PySem.W.fnOf "build" "House.build" (defArgs st_House_build) (defBody st_House_build) (defScope st_House_build) .none kV_House_build dc_House_build pm_House_build an_House_build cd_House_build ct_House_build), sl_House_build⟩) (ci_House_build : PySem.W.codeIn K cd_House_build "House.build" = true) (ki_House_build : PySem.W.keepIn K (.ref i_House_build) = true) (fi_House_shut : PySem.W.findIn K (.ref a_House) "shut" = some (some (.ref i_House_shut))) (ifn_House_shut : PySem.W.isFn K (.ref i_House_shut) = true) (li_House_shut : K.lookup i_House_shut = some ⟨oc_House_shut, od_House_shut, .func (PySem.W.fnOf "shut" "House.shut" (defArgs st_House_shut) (defBody st_House_shut) (defScope st_House_shut) .none kV_House_shut dc_House_shut pm_House_shut an_House_shut cd_House_shut ct_House_shut), sl_House_shut⟩) (ci_House_shut : PySem.W.codeIn K cd_House_shut "House.shut" = true) (ki_House_shut : PySem.W.keepIn K (.ref i_House_shut) = true) (fi_House_walk : PySem.W.findIn K (.ref a_House) "walk" = some (some (.ref i_House_walk))) (ifn_House_walk : PySem.W.isFn K (.ref i_House_walk) = true) (li_House_walk : K.lookup i_House_walk = some ⟨oc_House_walk, od_House_walk, .func (PySem.W.fnOf "walk" "House.walk" (defArgs st_House_walk) (defBody st_House_walk) (defScope st_House_walk) .none kV_House_walk dc_House_walk pm_House_walk an_House_walk cd_House_walk ct_House_walk), sl_House_walk⟩) (ci_House_walk : PySem.W.codeIn K cd_House_walk "House.walk" = true) (ki_House_walk : PySem.W.keepIn K (.ref i_House_walk) = true) (fi_House_take : PySem.W.findIn K (.ref a_House) "take" = some (some (.ref i_House_take))) (ifn_House_take : PySem.W.isFn K (.ref i_House_take) = true) (li_House_take : K.lookup i_House_take = some ⟨oc_House_take, od_House_take, .func (PySem.W.fnOf "take" "House.take" (defArgs st_House_take) (defBody st_House_take) (defScope st_House_take) .none kV_House_take dc_House_take pm_House_take an_House_take cd_House_take ct_House_take), sl_House_take⟩) (ci_House_take : PySem.W.codeIn K cd_House_take "House.take" = true) (ki_House_take : PySem.W.keepIn K (.ref i_House_take) = true) (fi_House_lay : PySem.W.findIn K (.ref a_House) "lay" = some (some (.ref i_House_lay))) (ifn_House_lay : PySem.W.isFn K (.ref i_House_lay) = true) (li_House_lay : K.lookup i_House_lay = some ⟨oc_House_lay, od_House_lay, .func (PySem.W.fnOf "lay" "House.lay" (defArgs st_House_lay) (defBody st_House_lay) (defScope st_House_lay) .none kV_House_lay dc_House_lay pm_House_lay an_House_lay cd_House_lay ct_House_lay), sl_House_lay⟩) (ci_House_lay : PySem.W.codeIn K cd_House_lay "House.lay" = true) (ki_House_lay : PySem.W.keepIn K (.ref i_House_lay) = true) (fi_House_late : PySem.W.findIn K (.ref a_House) "late" = some (some (.ref i_House_late))) (ifn_House_late : PySem.W.isFn K (.ref i_House_late) = true) (li_House_late : K.lookup i_House_late = some ⟨oc_House_late, od_House_late, .func (PySem.W.fnOf "late" "House.late" (defArgs st_House_late) (defBody st_House_late) (defScope st_House_late) .none kV_House_late dc_House_late pm_House_late an_House_late cd_House_late ct_House_late), sl_House_late⟩) (ci_House_late : PySem.W.codeIn K cd_House_late "House.late" = true) (ki_House_late : PySem.W.keepIn K (.ref i_House_late) = true) (fi_House_back : PySem.W.findIn K (.ref a_House) "back" = some (some (.ref i_House_back))) (ifn_House_back : PySem.W.isFn K (.ref i_House_back) = true) (li_House_back : K.lookup i_House_back = some ⟨oc_House_back, od_House_back, .func (PySem.W.fnOf "back" "House.back" (defArgs st_House_back) (defBody st_House_back) (defScope st_House_back) .none kV_House_back dc_House_back pm_House_back an_House_back cd_House_back ct_House_back), sl_House_back⟩) (ci_House_back : PySem.W.codeIn K cd_House_back "House.back" = true) (ki_House_back : PySem.W.keepIn K (.ref i_House_back) = true) (fi_House_roads : PySem.W.findIn K (.ref a_House) "roads" = some (some (.ref i_House_roads))) (ifn_House_roads : PySem.W.isFn K (.ref i_House_roads) = true) (li_House_roads : K.lookup i_House_roads = some ⟨oc_House_roads, od_House_roads, .func (PySem.W.fnOf "roads" "House.roads" (defArgs st_House_roads) (defBody st_House_roads) (defScope st_House_roads) .none kV_House_roads dc_House_roads pm_House_roads an_House_roads cd_House_roads ct_House_roads), sl_House_roads⟩) (ci_House_roads : PySem.W.codeIn K cd_House_roads "House.roads" = true) (ki_House_roads : PySem.W.keepIn K (.ref i_House_roads) = true) (fi_House_row : PySem.W.findIn K (.ref a_House) "row" = some (some (.ref i_House_row))) (ifn_House_row : PySem.W.isFn K (.ref i_House_row) = true) (li_House_row : K.lookup i_House_row = some ⟨oc_House_row, od_House_row, .func (PySem.W.fnOf "row" "House.row" (defArgs st_House_row) (defBody st_House_row) (defScope st_House_row) .none kV_House_row dc_House_row pm_House_row an_House_row cd_House_row ct_House_row), sl_House_row⟩) (ci_House_row : PySem.W.codeIn K cd_House_row "House.row" = true) (ki_House_row : PySem.W.keepIn K (.ref i_House_row) = true) (fi_House_log : PySem.W.findIn K (.ref a_House) "log" = some (some (.ref i_House_log))) (ifn_House_log : PySem.W.isFn K (.ref i_House_log) = true) (li_House_log : K.lookup i_House_log = some ⟨oc_House_log, od_House_log, .func (PySem.W.fnOf "log" "House.log" (defArgs st_House_log) (defBody st_House_log) (defScope st_House_log) .none kV_House_log dc_House_log pm_House_log an_House_log cd_House_log ct_House_log), sl_House_log⟩) (ci_House_log : PySem.W.codeIn K cd_House_log "House.log" = true) (ki_House_log : PySem.W.keepIn K (.ref i_House_log) = true) (fi_House_deeds : PySem.W.findIn K (.ref a_House) "deeds" = some (some (.ref i_House_deeds))) (ifn_House_deeds : PySem.W.isFn K (.ref i_House_deeds) = true) (li_House_deeds : K.lookup i_House_deeds = some ⟨oc_House_deeds, od_House_deeds, .func (PySem.W.fnOf "deeds" "House.deeds" (defArgs st_House_deeds) (defBody st_House_deeds) (defScope st_House_deeds) .none kV_House_deeds dc_House_deeds pm_House_deeds an_House_deeds cd_House_deeds ct_House_deeds), sl_House_deeds⟩) (ci_House_deeds : PySem.W.codeIn K cd_House_deeds "House.deeds" = true) (ki_House_deeds : PySem.W.keepIn K (.ref i_House_deeds) = true) (fi_House_undone : PySem.W.findIn K (.ref a_House) "undone" = some (some (.ref i_House_undone))) (ifn_House_undone : PySem.W.isFn K (.ref i_House_undone) = true) (li_House_undone : K.lookup i_House_undone = some ⟨oc_House_undone, od_House_undone, .func (PySem.W.fnOf "undone" "House.undone" (defArgs st_House_undone) (defBody st_House_undone) (defScope st_House_undone) .none kV_House_undone dc_House_undone pm_House_undone an_House_undone cd_House_undone ct_House_undone), sl_House_undone⟩) (ci_House_undone : PySem.W.codeIn K cd_House_undone "House.undone" = true) (ki_House_undone : PySem.W.keepIn K (.ref i_House_undone) = true) (g_BadRow : PySem.W.nsIn K mainGlobals "BadRow" = some (some (.ref a_BadRow))) (k_BadRow : PySem.W.keepIn K (.ref a_BadRow) = true) (s_BadRow : PySem.W.subIn K (.ref a_BadRow) (.type "BaseException") = some true) (t_BadRow : PySem.W.typeIn K (.ref a_BadRow) = some (.type "type")) (l_BadRow : K.lookup a_BadRow = some (excClassObj nm_BadRow q_BadRow a_BadRow N_BadRow bs_BadRow bm_BadRow true sn_BadRow sub_BadRow ab_BadRow col_BadRow dd_BadRow m0_BadRow m1_BadRow m2_BadRow m3_BadRow m5_BadRow "ValueError.__new__")) (r_BadRow : PySem.HandSPX.refsVE bm_BadRow = true) (sa_BadRow : PySem.W.findIn K (.ref a_BadRow) "__setattr__" = some (some (.builtin "object.__setattr__"))) (no_BadRow : PySem.W.findIn K (.ref a_BadRow) "at" = some none) (jn_BadRow : PySem.W.findIn K (.ref a_BadRow) "__init__" = some (some (.ref i_BadRow))) (ti_BadRow : PySem.W.typeIn K (.ref i_BadRow) = some (.type "function")) (li_BadRow : K.lookup i_BadRow = some ⟨oc_BadRow, od_BadRow, .func (PySem.W.fnOf "__init__" "BadRow.__init__" (defArgs in_BadRow) (defBody in_BadRow) (defScope in_BadRow) .none kV_BadRow dc_BadRow pm_BadRow an_BadRow cd_BadRow ct_BadRow), sl_BadRow⟩) (ci_BadRow : PySem.W.codeIn K cd_BadRow "BadRow.__init__" = true) (ki_BadRow : PySem.W.keepIn K (.ref i_BadRow) = true) (g_Clash : PySem.W.nsIn K mainGlobals "Clash" = some (some (.ref a_Clash))) (k_Clash : PySem.W.keepIn K (.ref a_Clash) = true) (s_Clash : PySem.W.subIn K (.ref a_Clash) (.type "BaseException") = some true) (t_Clash : PySem.W.typeIn K (.ref a_Clash) = some (.type "type")) (l_Clash : K.lookup a_Clash = some (excClassObj nm_Clash q_Clash a_Clash N_Clash bs_Clash bm_Clash true sn_Clash sub_Clash ab_Clash col_Clash dd_Clash m0_Clash m1_Clash m2_Clash m3_Clash m5_Clash "ValueError.__new__")) (r_Clash : PySem.HandSPX.refsVE bm_Clash = true) (sa_Clash : PySem.W.findIn K (.ref a_Clash) "__setattr__" = some (some (.builtin "object.__setattr__"))) (no_Clash : PySem.W.findIn K (.ref a_Clash) "at" = some none) (jn_Clash : PySem.W.findIn K (.ref a_Clash) "__init__" = some (some (.ref i_Clash))) (ti_Clash : PySem.W.typeIn K (.ref i_Clash) = some (.type "function")) (li_Clash : K.lookup i_Clash = some ⟨oc_Clash, od_Clash, .func (PySem.W.fnOf "__init__" "Clash.__init__" (defArgs in_Clash) (defBody in_Clash) (defScope in_Clash) .none kV_Clash dc_Clash pm_Clash an_Clash cd_Clash ct_Clash), sl_Clash⟩) (ci_Clash : PySem.W.codeIn K cd_Clash "Clash.__init__" = true) (ki_Clash : PySem.W.keepIn K (.ref i_Clash) = true) (g_BadCreel : PySem.W.nsIn K mainGlobals "BadCreel" = some (some (.ref a_BadCreel))) (x_BadCreel : PySem.W.excIn K a_BadCreel [.type "ValueError", .type "Exception", .type "BaseException", .type "object"] "ValueError.__new__" = true) (k_BadCreel : PySem.W.keepIn K (.ref a_BadCreel) = true) (s_BadCreel : PySem.W.subIn K (.ref a_BadCreel) (.type "BaseException") = some true) (t_BadCreel : PySem.W.typeIn K (.ref a_BadCreel) = some (.type "type")) (g_BadName : PySem.W.nsIn K mainGlobals "BadName" = some (some (.ref a_BadName))) (x_BadName : PySem.W.excIn K a_BadName [.type "ValueError", .type "Exception", .type "BaseException", .type "object"] "ValueError.__new__" = true) (k_BadName : PySem.W.keepIn K (.ref a_BadName) = true) (s_BadName : PySem.W.subIn K (.ref a_BadName) (.type "BaseException") = some true) (t_BadName : PySem.W.typeIn K (.ref a_BadName) = some (.type "type")) (g_Bare : PySem.W.nsIn K mainGlobals "Bare" = some (some (.ref a_Bare))) (x_Bare : PySem.W.excIn K a_Bare [.type "ValueError", .type "Exception", .type "BaseException", .type "object"] "ValueError.__new__" = true) (k_Bare : PySem.W.keepIn K (.ref a_Bare) = true) (s_Bare : PySem.W.subIn K (.ref a_Bare) (.type "BaseException") = some true) (t_Bare : PySem.W.typeIn K (.ref a_Bare) = some (.type "type")) (g_Full : PySem.W.nsIn K mainGlobals "Full" = some (some (.ref a_Full))) (x_Full : PySem.W.excIn K a_Full [.type "ValueError", .type "Exception", .type "BaseException", .type "object"] "ValueError.__new__" = true) (k_Full : PySem.W.keepIn K (.ref a_Full) = true) (s_Full : PySem.W.subIn K (.ref a_Full) (.type "BaseException") = some true) (t_Full : PySem.W.typeIn K (.ref a_Full) = some (.type "type")) (g_Laid : PySem.W.nsIn K mainGlobals "Laid" = some (some (.ref a_Laid))) (x_Laid : PySem.W.excIn K a_Laid [.type "ValueError", .type "Exception", .type "BaseException", .type "object"] "ValueError.__new__" = true) (k_Laid : PySem.W.keepIn K (.ref a_Laid) = true) (s_Laid : PySem.W.subIn K (.ref a_Laid) (.type "BaseException") = some true) (t_Laid : PySem.W.typeIn K (.ref a_Laid) = some (.type "type")) (g_NoEntry : PySem.W.nsIn K mainGlobals "NoEntry" = some (some (.ref a_NoEntry))) (x_NoEntry : PySem.W.excIn K a_NoEntry [.type "ValueError", .type "Exception", .type "BaseException", .type "object"] "ValueError.__new__" = true) (k_NoEntry : PySem.W.keepIn K (.ref a_NoEntry) = true) (s_NoEntry : PySem.W.subIn K (.ref a_NoEntry) (.type "BaseException") = some true) (t_NoEntry : PySem.W.typeIn K (.ref a_NoEntry) = some (.type "type")) (g_NoRoad : PySem.W.nsIn K mainGlobals "NoRoad" = some (some (.ref a_NoRoad))) (x_NoRoad : PySem.W.excIn K a_NoRoad [.type "ValueError", .type "Exception", .type "BaseException", .type "object"] "ValueError.__new__" = true) (k_NoRoad : PySem.W.keepIn K (.ref a_NoRoad) = true) (s_NoRoad : PySem.W.subIn K (.ref a_NoRoad) (.type "BaseException") = some true) (t_NoRoad : PySem.W.typeIn K (.ref a_NoRoad) = some (.type "type")) (g_NoStone : PySem.W.nsIn K mainGlobals "NoStone" = some (some (.ref a_NoStone))) (x_NoStone : PySem.W.excIn K a_NoStone [.type "ValueError", .type "Exception", .type "BaseException", .type "object"] "ValueError.__new__" = true) (k_NoStone : PySem.W.keepIn K (.ref a_NoStone) = true) (s_NoStone : PySem.W.subIn K (.ref a_NoStone) (.type "BaseException") = some true) (t_NoStone : PySem.W.typeIn K (.ref a_NoStone) = some (.type "type")) (g_NothingLeft : PySem.W.nsIn K mainGlobals "NothingLeft" = some (some (.ref a_NothingLeft))) (x_NothingLeft : PySem.W.excIn K a_NothingLeft [.type "ValueError", .type "Exception", .type "BaseException", .type "object"] "ValueError.__new__" = true) (k_NothingLeft : PySem.W.keepIn K (.ref a_NothingLeft) = true) (s_NothingLeft : PySem.W.subIn K (.ref a_NothingLeft) (.type "BaseException") = some true) (t_NothingLeft : PySem.W.typeIn K (.ref a_NothingLeft) = some (.type "type")) (g_Taken : PySem.W.nsIn K mainGlobals "Taken" = some (some (.ref a_Taken))) (x_Taken : PySem.W.excIn K a_Taken [.type "ValueError", .type "Exception", .type "BaseException", .type "object"] "ValueError.__new__" = true) (k_Taken : PySem.W.keepIn K (.ref a_Taken) = true) (s_Taken : PySem.W.subIn K (.ref a_Taken) (.type "BaseException") = some true) (t_Taken : PySem.W.typeIn K (.ref a_Taken) = some (.type "type")) (g_TooMany : PySem.W.nsIn K mainGlobals "TooMany" = some (some (.ref a_TooMany))) (x_TooMany : PySem.W.excIn K a_TooMany [.type "ValueError", .type "Exception", .type "BaseException", .type "object"] "ValueError.__new__" = true) (k_TooMany : PySem.W.keepIn K (.ref a_TooMany) = true) (s_TooMany : PySem.W.subIn K (.ref a_TooMany) (.type "BaseException") = some true) (t_TooMany : PySem.W.typeIn K (.ref a_TooMany) = some (.type "type")) (g_TooNear : PySem.W.nsIn K mainGlobals "TooNear" = some (some (.ref a_TooNear))) (x_TooNear : PySem.W.excIn K a_TooNear [.type "ValueError", .type "Exception", .type "BaseException", .type "object"] "ValueError.__new__" = true) (k_TooNear : PySem.W.keepIn K (.ref a_TooNear) = true) (s_TooNear : PySem.W.subIn K (.ref a_TooNear) (.type "BaseException") = some true) (t_TooNear : PySem.W.typeIn K (.ref a_TooNear) = some (.type "type")) (g_CreelError : PySem.W.nsIn K mainGlobals "CreelError" = some (some (.ref a_CreelError))) (bb_CreelError : PySem.W.subIn K (.ref a_CreelError) (.type "BaseException") = some true) (ii_CreelError : PySem.W.isClsIn K a_CreelError = true) (tt_CreelError : PySem.W.typeIn K (.ref a_CreelError) = some (.type "type")) (e_BadRow_CreelError : PySem.W.subIn K (.ref a_BadRow) (.ref a_CreelError) = some true) (e_Clash_CreelError : PySem.W.subIn K (.ref a_Clash) (.ref a_CreelError) = some true) (e_BadCreel_CreelError : PySem.W.subIn K (.ref a_BadCreel) (.ref a_CreelError) = some true) (e_BadName_CreelError : PySem.W.subIn K (.ref a_BadName) (.ref a_CreelError) = some true) (e_Bare_CreelError : PySem.W.subIn K (.ref a_Bare) (.ref a_CreelError) = some true) (e_Full_CreelError : PySem.W.subIn K (.ref a_Full) (.ref a_CreelError) = some true) (e_Laid_CreelError : PySem.W.subIn K (.ref a_Laid) (.ref a_CreelError) = some true) (e_NoEntry_CreelError : PySem.W.subIn K (.ref a_NoEntry) (.ref a_CreelError) = some true) (e_NoRoad_CreelError : PySem.W.subIn K (.ref a_NoRoad) (.ref a_CreelError) = some true) (e_NoStone_CreelError : PySem.W.subIn K (.ref a_NoStone) (.ref a_CreelError) = some true) (e_NothingLeft_CreelError : PySem.W.subIn K (.ref a_NothingLeft) (.ref a_CreelError) = some true) (e_Taken_CreelError : PySem.W.subIn K (.ref a_Taken) (.ref a_CreelError) = some true) (e_TooMany_CreelError : PySem.W.subIn K (.ref a_TooMany) (.ref a_CreelError) = some true) (e_TooNear_CreelError : PySem.W.subIn K (.ref a_TooNear) (.ref a_CreelError) = some true) (A_look_row : AtF K mg "look_row" "look_row" st_look_row) (A_mirrored : AtF K mg "mirrored" "mirrored" st_mirrored) (A_look_creel : AtF K mg "look_creel" "look_creel" st_look_creel) (A_share : AtF K mg "share" "share" st_share) (A_mark : AtF K mg "mark" "mark" st_mark) (A_longest_ripe : AtF K mg "longest_ripe" "longest_ripe" st_longest_ripe) (A_grown : AtF K mg "grown" "grown" st_grown) (A_list_of : AtF K mg "list_of" "list_of" st_list_of) (A_next_place : AtF K mg "next_place" "next_place" st_next_place) (A_shortest_ripe : AtF K mg "shortest_ripe" "shortest_ripe" st_shortest_ripe) (A_shrunk : AtF K mg "shrunk" "shrunk" st_shrunk) (A_stones_of : AtF K mg "stones_of" "stones_of" st_stones_of) (A_look_walks : AtF K mg "look_walks" "look_walks" st_look_walks) (A_by_walks : AtF K mg "by_walks" "by_walks" st_by_walks) (A_added_to : AtF K mg "added_to" "added_to" st_added_to) (A_far : AtF K mg "far" "far" st_far) (A_laid_behind : AtF K mg "laid_behind" "laid_behind" st_laid_behind) (A_put_in : AtF K mg "put_in" "put_in" st_put_in) (A_taken_out : AtF K mg "taken_out" "taken_out" st_taken_out) (A_behind_entry : AtF K mg "behind_entry" "behind_entry" st_behind_entry) (A_gone_over : AtF K mg "gone_over" "gone_over" st_gone_over) (A_is_name : AtF K mg "is_name" "is_name" st_is_name) (A_numbers_L : AtF K mg "_law_numbers" "_law_numbers" st_numbers_L) (A_same_L : AtF K mg "_law_same" "_law_same" st_same_L) (A_row_L : AtF K mg "_law_row" "_law_row" st_row_L) (A_long_row_L : AtF K mg "_law_long_row" "_law_long_row" st_long_row_L) (A_behind_L : AtF K mg "_law_behind" "_law_behind" st_behind_L) (A_view_L : AtF K mg "_law_view" "_law_view" st_view_L) (A_spoil_L : AtF K mg "_law_spoil" "_law_spoil" st_spoil_L) (A_law : AtF K mg "law" "law" st_law) (z_len : PySem.W.nsIn K mainGlobals "len" = some none) (z_range : PySem.W.nsIn K mainGlobals "range" = some none) (z_min : PySem.W.nsIn K mainGlobals "min" = some none) (z_max : PySem.W.nsIn K mainGlobals "max" = some none) (z_abs : PySem.W.nsIn K mainGlobals "abs" = some none) (z_sum : PySem.W.nsIn K mainGlobals "sum" = some none) (z_all : PySem.W.nsIn K mainGlobals "all" = some none) (z_any : PySem.W.nsIn K mainGlobals "any" = some none) (z_sorted : PySem.W.nsIn K mainGlobals "sorted" = some none) (z_list : PySem.W.nsIn K mainGlobals "list" = some none) (z_tuple : PySem.W.nsIn K mainGlobals "tuple" = some none) (z_int : PySem.W.nsIn K mainGlobals "int" = some none) (z_bool : PySem.W.nsIn K mainGlobals "bool" = some none) (z_str : PySem.W.nsIn K mainGlobals "str" = some none) (z_isinstance : PySem.W.nsIn K mainGlobals "isinstance" = some none) (z_zip : PySem.W.nsIn K mainGlobals "zip" = some none) (z_enumerate : PySem.W.nsIn K mainGlobals "enumerate" = some none) (z_reversed : PySem.W.nsIn K mainGlobals "reversed" = some none) (z_set : PySem.W.nsIn K mainGlobals "set" = some none) (z_dict : PySem.W.nsIn K mainGlobals "dict" = some none) :
    ∃ fd : FuncData, (∀ (s : Shared) (v : Value), BindsTo s fd ⟨[v], []⟩ [("_law_script", v)]) ∧ ∀ base : Heap, K.In base → base.Ns mainGlobals mg → FnOk l.prog w K mg base (L2.CX l.prog w) 65 fa fd ["_law_script"] (spLaw K) := by
  obtain ⟨fa_look_row, fd_look_row, F_look_row, g_look_row⟩ := A_look_row.ex
  obtain ⟨fa_mirrored, fd_mirrored, F_mirrored, g_mirrored⟩ := A_mirrored.ex
  obtain ⟨fa_look_creel, fd_look_creel, F_look_creel, g_look_creel⟩ := A_look_creel.ex
  obtain ⟨fa_share, fd_share, F_share, g_share⟩ := A_share.ex
  obtain ⟨fa_mark, fd_mark, F_mark, g_mark⟩ := A_mark.ex
  obtain ⟨fa_longest_ripe, fd_longest_ripe, F_longest_ripe, g_longest_ripe⟩ := A_longest_ripe.ex
  obtain ⟨fa_grown, fd_grown, F_grown, g_grown⟩ := A_grown.ex
  obtain ⟨fa_list_of, fd_list_of, F_list_of, g_list_of⟩ := A_list_of.ex
  obtain ⟨fa_next_place, fd_next_place, F_next_place, g_next_place⟩ := A_next_place.ex
  obtain ⟨fa_shortest_ripe, fd_shortest_ripe, F_shortest_ripe, g_shortest_ripe⟩ := A_shortest_ripe.ex
  obtain ⟨fa_shrunk, fd_shrunk, F_shrunk, g_shrunk⟩ := A_shrunk.ex
  obtain ⟨fa_stones_of, fd_stones_of, F_stones_of, g_stones_of⟩ := A_stones_of.ex
  obtain ⟨fa_look_walks, fd_look_walks, F_look_walks, g_look_walks⟩ := A_look_walks.ex
  obtain ⟨fa_by_walks, fd_by_walks, F_by_walks, g_by_walks⟩ := A_by_walks.ex
  obtain ⟨fa_added_to, fd_added_to, F_added_to, g_added_to⟩ := A_added_to.ex
  obtain ⟨fa_far, fd_far, F_far, g_far⟩ := A_far.ex
  obtain ⟨fa_laid_behind, fd_laid_behind, F_laid_behind, g_laid_behind⟩ := A_laid_behind.ex
  obtain ⟨fa_put_in, fd_put_in, F_put_in, g_put_in⟩ := A_put_in.ex
  obtain ⟨fa_taken_out, fd_taken_out, F_taken_out, g_taken_out⟩ := A_taken_out.ex
  obtain ⟨fa_behind_entry, fd_behind_entry, F_behind_entry, g_behind_entry⟩ := A_behind_entry.ex
  obtain ⟨fa_gone_over, fd_gone_over, F_gone_over, g_gone_over⟩ := A_gone_over.ex
  obtain ⟨fa_is_name, fd_is_name, F_is_name, g_is_name⟩ := A_is_name.ex
  obtain ⟨fa_numbers_L, fd_numbers_L, F_numbers_L, g_numbers_L⟩ := A_numbers_L.ex
  obtain ⟨fa_same_L, fd_same_L, F_same_L, g_same_L⟩ := A_same_L.ex
  obtain ⟨fa_row_L, fd_row_L, F_row_L, g_row_L⟩ := A_row_L.ex
  obtain ⟨fa_long_row_L, fd_long_row_L, F_long_row_L, g_long_row_L⟩ := A_long_row_L.ex
  obtain ⟨fa_behind_L, fd_behind_L, F_behind_L, g_behind_L⟩ := A_behind_L.ex
  obtain ⟨fa_view_L, fd_view_L, F_view_L, g_view_L⟩ := A_view_L.ex
  obtain ⟨fa_spoil_L, fd_spoil_L, F_spoil_L, g_spoil_L⟩ := A_spoil_L.ex
  obtain ⟨fa_law, fd_law, F_law, g_law⟩ := A_law.ex
  have e := hfa.symm.trans g_law
  cases e
  have B := bl_mk X G z_len z_range z_min z_max z_abs z_sum z_all z_any z_sorted z_list z_tuple z_int z_bool z_str z_isinstance z_zip z_enumerate z_reversed z_set z_dict
  have F := F_law
  obtain ⟨oc, od, kV, doc, pm, an, cdv, ct, osl, e, lk, hcd⟩ := F_law.ex
  subst e
  refine ⟨PySem.W.fnOf "law" "law" (defArgs st_law) (defBody st_law) (defScope st_law) .none kV doc pm an cdv ct, fun s v => .of_eq rfl, fun base _ _ => ?_⟩
  let cl : Cl := ⟨fun n => List.lookup n [("BadRow", a_BadRow), ("Clash", a_Clash), ("BadCreel", a_BadCreel), ("BadName", a_BadName), ("Bare", a_Bare), ("Full", a_Full), ("Laid", a_Laid), ("NoEntry", a_NoEntry), ("NoRoad", a_NoRoad), ("NoStone", a_NoStone), ("NothingLeft", a_NothingLeft), ("Taken", a_Taken), ("TooMany", a_TooMany), ("TooNear", a_TooNear)], K, fun n => List.lookup n [("House", a_House), ("Road", a_Road)]⟩
  have hK : cl.K = K := rfl
  have cf_House : cl.o "House" = some a_House := by rfl
  have cc_House : Cls K a_House := ⟨pg_House, hd_House, po_House, sa_House⟩
  have gm_House := PySem.W.mg_of X G g_House
  have cf_Road : cl.o "Road" = some a_Road := by rfl
  have cc_Road : Cls K a_Road := ⟨pg_Road, hd_Road, po_Road, sa_Road⟩
  have gm_Road := PySem.W.mg_of X G g_Road
  have O_House_by_name : FldOk K cl "House" "by_name" := fun c hc => by rw [cf_House] at hc; cases hc; exact ⟨cc_House, nf_House_by_name⟩
  have O_House_done : FldOk K cl "House" "done" := fun c hc => by rw [cf_House] at hc; cases hc; exact ⟨cc_House, nf_House_done⟩
  have O_House_gone : FldOk K cl "House" "gone" := fun c hc => by rw [cf_House] at hc; cases hc; exact ⟨cc_House, nf_House_gone⟩
  have O_Road_entries : FldOk K cl "Road" "entries" := fun c hc => by rw [cf_Road] at hc; cases hc; exact ⟨cc_Road, nf_Road_entries⟩
  have O_Road_first : FldOk K cl "Road" "first" := fun c hc => by rw [cf_Road] at hc; cases hc; exact ⟨cc_Road, nf_Road_first⟩
  have O_Road_now : FldOk K cl "Road" "now" := fun c hc => by rw [cf_Road] at hc; cases hc; exact ⟨cc_Road, nf_Road_now⟩
  have F_Road___init__ := fun_mk (st := st_Road___init__) li_Road___init__ ci_Road___init__ ki_Road___init__
  have F_Road_behind_one := fun_mk (st := st_Road_behind_one) li_Road_behind_one ci_Road_behind_one ki_Road_behind_one
  have F_Road_anew := fun_mk (st := st_Road_anew) li_Road_anew ci_Road_anew ki_Road_anew
  have F_House___init__ := fun_mk (st := st_House___init__) li_House___init__ ci_House___init__ ki_House___init__
  have F_House_road := fun_mk (st := st_House_road) li_House_road ci_House_road ki_House_road
  have F_House_become := fun_mk (st := st_House_become) li_House_become ci_House_become ki_House_become
  have M_House_become : ∀ c, cl.o "House" = some c → Cls K c ∧ Meth K c "become" i_House_become := fun c hc => by rw [cf_House] at hc; cases hc; exact ⟨cc_House, ⟨fi_House_become, ifn_House_become, ki_House_become⟩⟩
  have F_House_build := fun_mk (st := st_House_build) li_House_build ci_House_build ki_House_build
  have M_House_build : ∀ c, cl.o "House" = some c → Cls K c ∧ Meth K c "build" i_House_build := fun c hc => by rw [cf_House] at hc; cases hc; exact ⟨cc_House, ⟨fi_House_build, ifn_House_build, ki_House_build⟩⟩
  have F_House_shut := fun_mk (st := st_House_shut) li_House_shut ci_House_shut ki_House_shut
  have M_House_shut : ∀ c, cl.o "House" = some c → Cls K c ∧ Meth K c "shut" i_House_shut := fun c hc => by rw [cf_House] at hc; cases hc; exact ⟨cc_House, ⟨fi_House_shut, ifn_House_shut, ki_House_shut⟩⟩
  have F_House_walk := fun_mk (st := st_House_walk) li_House_walk ci_House_walk ki_House_walk
  have M_House_walk : ∀ c, cl.o "House" = some c → Cls K c ∧ Meth K c "walk" i_House_walk := fun c hc => by rw [cf_House] at hc; cases hc; exact ⟨cc_House, ⟨fi_House_walk, ifn_House_walk, ki_House_walk⟩⟩
  have F_House_take := fun_mk (st := st_House_take) li_House_take ci_House_take ki_House_take
  have M_House_take : ∀ c, cl.o "House" = some c → Cls K c ∧ Meth K c "take" i_House_take := fun c hc => by rw [cf_House] at hc; cases hc; exact ⟨cc_House, ⟨fi_House_take, ifn_House_take, ki_House_take⟩⟩
  have F_House_lay := fun_mk (st := st_House_lay) li_House_lay ci_House_lay ki_House_lay
  have M_House_lay : ∀ c, cl.o "House" = some c → Cls K c ∧ Meth K c "lay" i_House_lay := fun c hc => by rw [cf_House] at hc; cases hc; exact ⟨cc_House, ⟨fi_House_lay, ifn_House_lay, ki_House_lay⟩⟩
  have F_House_late := fun_mk (st := st_House_late) li_House_late ci_House_late ki_House_late
  have M_House_late : ∀ c, cl.o "House" = some c → Cls K c ∧ Meth K c "late" i_House_late := fun c hc => by rw [cf_House] at hc; cases hc; exact ⟨cc_House, ⟨fi_House_late, ifn_House_late, ki_House_late⟩⟩
  have F_House_back := fun_mk (st := st_House_back) li_House_back ci_House_back ki_House_back
  have M_House_back : ∀ c, cl.o "House" = some c → Cls K c ∧ Meth K c "back" i_House_back := fun c hc => by rw [cf_House] at hc; cases hc; exact ⟨cc_House, ⟨fi_House_back, ifn_House_back, ki_House_back⟩⟩
  have F_House_roads := fun_mk (st := st_House_roads) li_House_roads ci_House_roads ki_House_roads
  have F_House_row := fun_mk (st := st_House_row) li_House_row ci_House_row ki_House_row
  have F_House_log := fun_mk (st := st_House_log) li_House_log ci_House_log ki_House_log
  have F_House_deeds := fun_mk (st := st_House_deeds) li_House_deeds ci_House_deeds ki_House_deeds
  have F_House_undone := fun_mk (st := st_House_undone) li_House_undone ci_House_undone ki_House_undone
  have C_LETTERS := PySem.W.mg_of X G C_LETTERS
  have C_MOST_ROADS := PySem.W.mg_of X G C_MOST_ROADS
  have C_MOST_SIGNS := PySem.W.mg_of X G C_MOST_SIGNS
  have C_MOST_STONES := PySem.W.mg_of X G C_MOST_STONES
  have FI_BadRow := fun_mk (st := in_BadRow) li_BadRow ci_BadRow ki_BadRow
  have X_BadRow : XAt l.prog w K mg base cl "BadRow" 1 := xat_mk (st := in_BadRow) ⟨⟨_, _, _, _, _, _, _, _, _, _, _, _, _, _, _, l_BadRow, r_BadRow⟩, sa_BadRow, s_BadRow, t_BadRow, k_BadRow⟩ rfl (PySem.W.mg_of X G g_BadRow) jn_BadRow ti_BadRow no_BadRow FI_BadRow isc_BadRow (FI_BadRow.binds fun _ _ _ _ _ _ us hl => match us, hl with | [_, _], _ => rfl) rfl (by first | exact Or.inl rfl | exact Or.inr (Or.inl rfl) | exact Or.inr (Or.inr rfl)) (by first | exact Or.inl rfl | exact Or.inr (Or.inl rfl) | exact Or.inr (Or.inr rfl)) (fun _ _ => rfl)
  have FI_Clash := fun_mk (st := in_Clash) li_Clash ci_Clash ki_Clash
  have X_Clash : XAt l.prog w K mg base cl "Clash" 1 := xat_mk (st := in_Clash) ⟨⟨_, _, _, _, _, _, _, _, _, _, _, _, _, _, _, l_Clash, r_Clash⟩, sa_Clash, s_Clash, t_Clash, k_Clash⟩ rfl (PySem.W.mg_of X G g_Clash) jn_Clash ti_Clash no_Clash FI_Clash isc_Clash (FI_Clash.binds fun _ _ _ _ _ _ us hl => match us, hl with | [_, _], _ => rfl) rfl (by first | exact Or.inl rfl | exact Or.inr (Or.inl rfl) | exact Or.inr (Or.inr rfl)) (by first | exact Or.inl rfl | exact Or.inr (Or.inl rfl) | exact Or.inr (Or.inr rfl)) (fun _ _ => rfl)
  have X_BadCreel : XPlain K mg cl "BadCreel" := ⟨a_BadCreel, rfl, PySem.W.mg_of X G g_BadCreel, x_BadCreel, k_BadCreel, s_BadCreel, t_BadCreel⟩
  have X_BadName : XPlain K mg cl "BadName" := ⟨a_BadName, rfl, PySem.W.mg_of X G g_BadName, x_BadName, k_BadName, s_BadName, t_BadName⟩
  have X_Bare : XPlain K mg cl "Bare" := ⟨a_Bare, rfl, PySem.W.mg_of X G g_Bare, x_Bare, k_Bare, s_Bare, t_Bare⟩
  have X_Full : XPlain K mg cl "Full" := ⟨a_Full, rfl, PySem.W.mg_of X G g_Full, x_Full, k_Full, s_Full, t_Full⟩
  have X_Laid : XPlain K mg cl "Laid" := ⟨a_Laid, rfl, PySem.W.mg_of X G g_Laid, x_Laid, k_Laid, s_Laid, t_Laid⟩
  have X_NoEntry : XPlain K mg cl "NoEntry" := ⟨a_NoEntry, rfl, PySem.W.mg_of X G g_NoEntry, x_NoEntry, k_NoEntry, s_NoEntry, t_NoEntry⟩
  have X_NoRoad : XPlain K mg cl "NoRoad" := ⟨a_NoRoad, rfl, PySem.W.mg_of X G g_NoRoad, x_NoRoad, k_NoRoad, s_NoRoad, t_NoRoad⟩
  have X_NoStone : XPlain K mg cl "NoStone" := ⟨a_NoStone, rfl, PySem.W.mg_of X G g_NoStone, x_NoStone, k_NoStone, s_NoStone, t_NoStone⟩
  have X_NothingLeft : XPlain K mg cl "NothingLeft" := ⟨a_NothingLeft, rfl, PySem.W.mg_of X G g_NothingLeft, x_NothingLeft, k_NothingLeft, s_NothingLeft, t_NothingLeft⟩
  have X_Taken : XPlain K mg cl "Taken" := ⟨a_Taken, rfl, PySem.W.mg_of X G g_Taken, x_Taken, k_Taken, s_Taken, t_Taken⟩
  have X_TooMany : XPlain K mg cl "TooMany" := ⟨a_TooMany, rfl, PySem.W.mg_of X G g_TooMany, x_TooMany, k_TooMany, s_TooMany, t_TooMany⟩
  have X_TooNear : XPlain K mg cl "TooNear" := ⟨a_TooNear, rfl, PySem.W.mg_of X G g_TooNear, x_TooNear, k_TooNear, s_TooNear, t_TooNear⟩
  have HS_CreelError : HSub K mg cl "CreelError" := ⟨a_CreelError, PySem.W.mg_of X G g_CreelError, (look_cons (sub_at (C := "BadRow") (exm_mk bb_CreelError ii_CreelError tt_CreelError e_BadRow_CreelError) (by decide)) (look_cons (sub_at (C := "Clash") (exm_mk bb_CreelError ii_CreelError tt_CreelError e_Clash_CreelError) (by decide)) (look_cons (sub_at (C := "BadCreel") (exm_mk bb_CreelError ii_CreelError tt_CreelError e_BadCreel_CreelError) (by decide)) (look_cons (sub_at (C := "BadName") (exm_mk bb_CreelError ii_CreelError tt_CreelError e_BadName_CreelError) (by decide)) (look_cons (sub_at (C := "Bare") (exm_mk bb_CreelError ii_CreelError tt_CreelError e_Bare_CreelError) (by decide)) (look_cons (sub_at (C := "Full") (exm_mk bb_CreelError ii_CreelError tt_CreelError e_Full_CreelError) (by decide)) (look_cons (sub_at (C := "Laid") (exm_mk bb_CreelError ii_CreelError tt_CreelError e_Laid_CreelError) (by decide)) (look_cons (sub_at (C := "NoEntry") (exm_mk bb_CreelError ii_CreelError tt_CreelError e_NoEntry_CreelError) (by decide)) (look_cons (sub_at (C := "NoRoad") (exm_mk bb_CreelError ii_CreelError tt_CreelError e_NoRoad_CreelError) (by decide)) (look_cons (sub_at (C := "NoStone") (exm_mk bb_CreelError ii_CreelError tt_CreelError e_NoStone_CreelError) (by decide)) (look_cons (sub_at (C := "NothingLeft") (exm_mk bb_CreelError ii_CreelError tt_CreelError e_NothingLeft_CreelError) (by decide)) (look_cons (sub_at (C := "Taken") (exm_mk bb_CreelError ii_CreelError tt_CreelError e_Taken_CreelError) (by decide)) (look_cons (sub_at (C := "TooMany") (exm_mk bb_CreelError ii_CreelError tt_CreelError e_TooMany_CreelError) (by decide)) (look_cons (sub_at (C := "TooNear") (exm_mk bb_CreelError ii_CreelError tt_CreelError e_TooNear_CreelError) (by decide)) look_nil))))))))))))))⟩
  have XH_Clash : XAtH l.prog w K mg base cl "Clash" 1 := xatH_mk (st := in_Clash) ⟨⟨_, _, _, _, _, _, _, _, _, _, _, _, _, _, _, l_Clash, r_Clash⟩, sa_Clash, s_Clash, t_Clash, k_Clash⟩ rfl (PySem.W.mg_of X G g_Clash) jn_Clash ti_Clash no_Clash FI_Clash isc_Clash (FI_Clash.binds fun _ _ _ _ _ _ us hl => match us, hl with | [_, _], _ => rfl) rfl (by first | exact Or.inl rfl | exact Or.inr (Or.inl rfl) | exact Or.inr (Or.inr rfl)) (by first | exact Or.inl rfl | exact Or.inr (Or.inl rfl) | exact Or.inr (Or.inr rfl)) (fun _ _ => rfl)
  have PN_look_row := ok_look_row (md := mN) (P := l.prog) (w := w) (base := base) (cl := cl) B hK F_look_row g_look_row (bn_look_row F_look_row) C_MOST_STONES X_BadRow X_TooMany
  have P_look_row := ok_look_row (P := l.prog) (w := w) (base := base) (cl := cl) B hK F_look_row g_look_row (bn_look_row F_look_row) C_MOST_STONES X_BadRow X_TooMany
  have PN_mirrored := ok_mirrored (md := mN) (P := l.prog) (w := w) (base := base) (cl := cl) B hK F_mirrored g_mirrored (bn_mirrored F_mirrored) PN_look_row
  have P_mirrored := ok_mirrored (P := l.prog) (w := w) (base := base) (cl := cl) B hK F_mirrored g_mirrored (bn_mirrored F_mirrored) P_look_row
  have PN_look_creel := ok_look_creel (md := mN) (P := l.prog) (w := w) (base := base) (cl := cl) B hK F_look_creel g_look_creel (bn_look_creel F_look_creel) X_BadCreel
  have P_look_creel := ok_look_creel (P := l.prog) (w := w) (base := base) (cl := cl) B hK F_look_creel g_look_creel (bn_look_creel F_look_creel) X_BadCreel
  have PN_share := ok_share (md := mN) (P := l.prog) (w := w) (base := base) (cl := cl) B hK F_share g_share (bn_share F_share) 
  have P_share := ok_share (P := l.prog) (w := w) (base := base) (cl := cl) B hK F_share g_share (bn_share F_share) 
  have PN_mark := ok_mark (md := mN) (P := l.prog) (w := w) (base := base) (cl := cl) B hK F_mark g_mark (bn_mark F_mark) PN_share
  have P_mark := ok_mark (P := l.prog) (w := w) (base := base) (cl := cl) B hK F_mark g_mark (bn_mark F_mark) P_share
  have PN_longest_ripe := ok_longest_ripe (md := mN) (P := l.prog) (w := w) (base := base) (cl := cl) B hK F_longest_ripe g_longest_ripe (bn_longest_ripe F_longest_ripe) PN_mark
  have P_longest_ripe := ok_longest_ripe (P := l.prog) (w := w) (base := base) (cl := cl) B hK F_longest_ripe g_longest_ripe (bn_longest_ripe F_longest_ripe) P_mark
  have PN_grown := ok_grown (md := mN) (P := l.prog) (w := w) (base := base) (cl := cl) B hK F_grown g_grown (bn_grown F_grown) PN_longest_ripe PN_mark PN_share
  have P_grown := ok_grown (P := l.prog) (w := w) (base := base) (cl := cl) B hK F_grown g_grown (bn_grown F_grown) P_longest_ripe P_mark P_share
  have PN_list_of := ok_list_of (md := mN) (P := l.prog) (w := w) (base := base) (cl := cl) B hK F_list_of g_list_of (bn_list_of F_list_of) PN_grown
  have P_list_of := ok_list_of (P := l.prog) (w := w) (base := base) (cl := cl) B hK F_list_of g_list_of (bn_list_of F_list_of) P_grown
  have PN_next_place := ok_next_place (md := mN) (P := l.prog) (w := w) (base := base) (cl := cl) B hK F_next_place g_next_place (bn_next_place F_next_place) PN_share
  have P_next_place := ok_next_place (P := l.prog) (w := w) (base := base) (cl := cl) B hK F_next_place g_next_place (bn_next_place F_next_place) P_share
  have PN_shortest_ripe := ok_shortest_ripe (md := mN) (P := l.prog) (w := w) (base := base) (cl := cl) B hK F_shortest_ripe g_shortest_ripe (bn_shortest_ripe F_shortest_ripe) PN_mark
  have P_shortest_ripe := ok_shortest_ripe (P := l.prog) (w := w) (base := base) (cl := cl) B hK F_shortest_ripe g_shortest_ripe (bn_shortest_ripe F_shortest_ripe) P_mark
  have PN_shrunk := ok_shrunk (md := mN) (P := l.prog) (w := w) (base := base) (cl := cl) B hK F_shrunk g_shrunk (bn_shrunk F_shrunk) PN_shortest_ripe PN_mark PN_share
  have P_shrunk := ok_shrunk (P := l.prog) (w := w) (base := base) (cl := cl) B hK F_shrunk g_shrunk (bn_shrunk F_shrunk) P_shortest_ripe P_mark P_share
  have PN_stones_of := ok_stones_of (md := mN) (P := l.prog) (w := w) (base := base) (cl := cl) B hK F_stones_of g_stones_of (bn_stones_of F_stones_of) PN_next_place PN_shrunk
  have P_stones_of := ok_stones_of (P := l.prog) (w := w) (base := base) (cl := cl) B hK F_stones_of g_stones_of (bn_stones_of F_stones_of) P_next_place P_shrunk
  have PN_look_walks := ok_look_walks (md := mN) (P := l.prog) (w := w) (base := base) (cl := cl) B hK F_look_walks g_look_walks (bn_look_walks F_look_walks) PN_look_creel
  have P_look_walks := ok_look_walks (P := l.prog) (w := w) (base := base) (cl := cl) B hK F_look_walks g_look_walks (bn_look_walks F_look_walks) P_look_creel
  have PN_by_walks := ok_by_walks (md := mN) (P := l.prog) (w := w) (base := base) (cl := cl) B hK F_by_walks g_by_walks (bn_by_walks F_by_walks) 
  have P_by_walks := ok_by_walks (P := l.prog) (w := w) (base := base) (cl := cl) B hK F_by_walks g_by_walks (bn_by_walks F_by_walks) 
  have PN_added_to := ok_added_to (md := mN) (P := l.prog) (w := w) (base := base) (cl := cl) B hK F_added_to g_added_to (bn_added_to F_added_to) PN_by_walks
  have P_added_to := ok_added_to (P := l.prog) (w := w) (base := base) (cl := cl) B hK F_added_to g_added_to (bn_added_to F_added_to) P_by_walks
  have PN_far := ok_far (md := mN) (P := l.prog) (w := w) (base := base) (cl := cl) B hK F_far g_far (bn_far F_far) PN_look_row PN_look_walks PN_list_of PN_added_to PN_stones_of
  have P_far := ok_far (P := l.prog) (w := w) (base := base) (cl := cl) B hK F_far g_far (bn_far F_far) P_look_row P_look_walks P_list_of P_added_to P_stones_of
  have PN_laid_behind := ok_laid_behind (md := mN) (P := l.prog) (w := w) (base := base) (cl := cl) B hK F_laid_behind g_laid_behind (bn_laid_behind F_laid_behind) C_MOST_STONES X_Bare X_TooMany X_TooNear
  have P_laid_behind := ok_laid_behind (P := l.prog) (w := w) (base := base) (cl := cl) B hK F_laid_behind g_laid_behind (bn_laid_behind F_laid_behind) C_MOST_STONES X_Bare X_TooMany X_TooNear
  have PN_put_in := ok_put_in (md := mN) (P := l.prog) (w := w) (base := base) (cl := cl) B hK F_put_in g_put_in (bn_put_in F_put_in) C_MOST_STONES X_Laid X_TooMany
  have P_put_in := ok_put_in (P := l.prog) (w := w) (base := base) (cl := cl) B hK F_put_in g_put_in (bn_put_in F_put_in) C_MOST_STONES X_Laid X_TooMany
  have PN_taken_out := ok_taken_out (md := mN) (P := l.prog) (w := w) (base := base) (cl := cl) B hK F_taken_out g_taken_out (bn_taken_out F_taken_out) X_NoStone
  have P_taken_out := ok_taken_out (P := l.prog) (w := w) (base := base) (cl := cl) B hK F_taken_out g_taken_out (bn_taken_out F_taken_out) X_NoStone
  have PN_behind_entry := ok_behind_entry (md := mN) (P := l.prog) (w := w) (base := base) (cl := cl) B hK F_behind_entry g_behind_entry (bn_behind_entry F_behind_entry) PN_far PN_put_in PN_taken_out PN_mirrored PN_laid_behind
  have P_behind_entry := ok_behind_entry (P := l.prog) (w := w) (base := base) (cl := cl) B hK F_behind_entry g_behind_entry (bn_behind_entry F_behind_entry) P_far P_put_in P_taken_out P_mirrored P_laid_behind
  have P_gone_over := ok_gone_over (P := l.prog) (w := w) (base := base) (cl := cl) B hK F_gone_over g_gone_over (bn_gone_over F_gone_over) X_Clash HS_CreelError XH_Clash PN_behind_entry
  have P_Road___init__ := ok_Road___init__ (P := l.prog) (w := w) (base := base) (cl := cl) B hK F_Road___init__ (F_Road___init__.binds (ps := ["self", "first", "entries", "now"]) fun _ _ _ _ _ _ us hl => match us, hl with | [_, _, _, _], _ => rfl) cf_Road gm_Road ⟨mk_Road, fi_Road___init__, ifn_Road___init__, kc_Road⟩ O_Road_entries O_Road_first O_Road_now
  have P_Road_behind_one := ok_Road_behind_one (P := l.prog) (w := w) (base := base) (cl := cl) B hK F_Road_behind_one (F_Road_behind_one.binds (ps := ["self", "entry"]) fun _ _ _ _ _ _ us hl => match us, hl with | [_, _], _ => rfl) cf_Road cc_Road ⟨fi_Road_behind_one, ifn_Road_behind_one, ki_Road_behind_one⟩ O_Road_entries O_Road_first O_Road_now P_Road___init__ P_behind_entry
  have P_Road_anew := ok_Road_anew (P := l.prog) (w := w) (base := base) (cl := cl) B hK F_Road_anew (F_Road_anew.binds (ps := ["self", "entries"]) fun _ _ _ _ _ _ us hl => match us, hl with | [_, _], _ => rfl) cf_Road cc_Road ⟨fi_Road_anew, ifn_Road_anew, ki_Road_anew⟩ O_Road_first P_Road___init__ P_gone_over
  have P_is_name := ok_is_name (P := l.prog) (w := w) (base := base) (cl := cl) B hK F_is_name g_is_name (bn_is_name F_is_name) C_LETTERS C_MOST_SIGNS
  have P_House___init__ := ok_House___init__ (P := l.prog) (w := w) (base := base) (cl := cl) B hK F_House___init__ (F_House___init__.binds (ps := ["self"]) fun _ _ _ _ _ _ us hl => match us, hl with | [_], _ => rfl) cf_House gm_House ⟨mk_House, fi_House___init__, ifn_House___init__, kc_House⟩ O_House_by_name O_House_done O_House_gone
  have P_House_road := ok_House_road (P := l.prog) (w := w) (base := base) (cl := cl) B hK F_House_road (F_House_road.binds (ps := ["self", "name"]) fun _ _ _ _ _ _ us hl => match us, hl with | [_, _], _ => rfl) cf_House cc_House ⟨fi_House_road, ifn_House_road, ki_House_road⟩ X_NoRoad O_House_by_name
  have P_House_become := ok_House_become (P := l.prog) (w := w) (base := base) (cl := cl) B hK F_House_become (F_House_become.binds (ps := ["self", "deed", "name", "road"]) fun _ _ _ _ _ _ us hl => match us, hl with | [_, _, _, _], _ => rfl) M_House_become O_House_by_name O_House_done O_House_gone
  have P_House_build := ok_House_build (P := l.prog) (w := w) (base := base) (cl := cl) B hK F_House_build (F_House_build.binds (ps := ["self", "name", "row"]) fun _ _ _ _ _ _ us hl => match us, hl with | [_, _, _], _ => rfl) M_House_build C_MOST_ROADS X_BadName X_Full X_Taken O_House_by_name P_is_name P_look_row P_House_become P_Road___init__
  have P_House_shut := ok_House_shut (P := l.prog) (w := w) (base := base) (cl := cl) B hK F_House_shut (F_House_shut.binds (ps := ["self", "name"]) fun _ _ _ _ _ _ us hl => match us, hl with | [_, _], _ => rfl) M_House_shut P_House_road P_House_become
  have P_House_walk := ok_House_walk (P := l.prog) (w := w) (base := base) (cl := cl) B hK F_House_walk (F_House_walk.binds (ps := ["self", "name", "creel", "count"]) fun _ _ _ _ _ _ us hl => match us, hl with | [_, _, _, _], _ => rfl) M_House_walk P_House_road P_look_creel P_House_become P_Road_behind_one
  have P_House_take := ok_House_take (P := l.prog) (w := w) (base := base) (cl := cl) B hK F_House_take (F_House_take.binds (ps := ["self", "name", "place"]) fun _ _ _ _ _ _ us hl => match us, hl with | [_, _, _], _ => rfl) M_House_take P_House_road P_House_become P_Road_behind_one
  have P_House_lay := ok_House_lay (P := l.prog) (w := w) (base := base) (cl := cl) B hK F_House_lay (F_House_lay.binds (ps := ["self", "name", "other", "gap"]) fun _ _ _ _ _ _ us hl => match us, hl with | [_, _, _, _], _ => rfl) M_House_lay O_Road_now P_House_road P_House_become P_Road_behind_one
  have P_House_late := ok_House_late (P := l.prog) (w := w) (base := base) (cl := cl) B hK F_House_late (F_House_late.binds (ps := ["self", "name", "at", "creel", "count"]) fun _ _ _ _ _ _ us hl => match us, hl with | [_, _, _, _, _], _ => rfl) M_House_late X_NoEntry O_Road_entries P_House_road P_look_creel P_Road_anew P_House_become
  have P_House_back := ok_House_back (P := l.prog) (w := w) (base := base) (cl := cl) B hK F_House_back (F_House_back.binds (ps := ["self"]) fun _ _ _ _ _ _ us hl => match us, hl with | [_], _ => rfl) M_House_back X_NothingLeft O_House_by_name O_House_done O_House_gone
  have P_House_roads := ok_House_roads (P := l.prog) (w := w) (base := base) (cl := cl) B hK F_House_roads (F_House_roads.binds (ps := ["self"]) fun _ _ _ _ _ _ us hl => match us, hl with | [_], _ => rfl) cf_House cc_House ⟨fi_House_roads, ifn_House_roads, ki_House_roads⟩ O_House_by_name
  have P_House_row := ok_House_row (P := l.prog) (w := w) (base := base) (cl := cl) B hK F_House_row (F_House_row.binds (ps := ["self", "name"]) fun _ _ _ _ _ _ us hl => match us, hl with | [_, _], _ => rfl) cf_House cc_House ⟨fi_House_row, ifn_House_row, ki_House_row⟩ O_Road_now P_House_road
  have P_House_log := ok_House_log (P := l.prog) (w := w) (base := base) (cl := cl) B hK F_House_log (F_House_log.binds (ps := ["self", "name"]) fun _ _ _ _ _ _ us hl => match us, hl with | [_, _], _ => rfl) cf_House cc_House ⟨fi_House_log, ifn_House_log, ki_House_log⟩ O_Road_entries P_House_road
  have P_House_deeds := ok_House_deeds (P := l.prog) (w := w) (base := base) (cl := cl) B hK F_House_deeds (F_House_deeds.binds (ps := ["self"]) fun _ _ _ _ _ _ us hl => match us, hl with | [_], _ => rfl) cf_House cc_House ⟨fi_House_deeds, ifn_House_deeds, ki_House_deeds⟩ O_House_done
  have P_House_undone := ok_House_undone (P := l.prog) (w := w) (base := base) (cl := cl) B hK F_House_undone (F_House_undone.binds (ps := ["self"]) fun _ _ _ _ _ _ us hl => match us, hl with | [_], _ => rfl) cf_House cc_House ⟨fi_House_undone, ifn_House_undone, ki_House_undone⟩ O_House_gone
  have P_numbers_L := ok_numbers_L (P := l.prog) (w := w) (base := base) (cl := cl) B hK F_numbers_L g_numbers_L (bn_numbers_L F_numbers_L) 
  have P_same_L := ok_same_L (P := l.prog) (w := w) (base := base) (cl := cl) B hK F_same_L g_same_L (bn_same_L F_same_L)  8
  have P_row_L := ok_row_L (P := l.prog) (w := w) (base := base) (cl := cl) B hK F_row_L g_row_L (bn_row_L F_row_L) 
  have P_long_row_L := ok_long_row_L (P := l.prog) (w := w) (base := base) (cl := cl) B hK F_long_row_L g_long_row_L (bn_long_row_L F_long_row_L) P_row_L
  have P_behind_L := ok_behind_L (P := l.prog) (w := w) (base := base) (cl := cl) B hK F_behind_L g_behind_L (bn_behind_L F_behind_L) 
  have P_view_L := ok_view_L (P := l.prog) (w := w) (base := base) (cl := cl) B hK F_view_L g_view_L (bn_view_L F_view_L) P_House_roads P_House_deeds P_House_undone P_House_row P_House_log
  have P_spoil_L := ok_spoil_L (P := l.prog) (w := w) (base := base) (cl := cl) B hK F_spoil_L g_spoil_L (bn_spoil_L F_spoil_L) P_view_L
  exact law_end hK (ok_law (P := l.prog) (w := w) (base := base) B hK F P_numbers_L P_long_row_L P_row_L P_House___init__ P_House_build P_House_row P_same_L P_view_L P_spoil_L P_House_lay P_behind_L P_House_walk P_House_take P_House_log P_House_shut P_House_back P_House_late P_far P_House_deeds) CW.law_ok (by decide)
end CW
end
open PySem PySem.W PyProof.Rows
set_option maxRecDepth 100000 in
set_option maxHeartbeats 0 in
theorem PySem.Challenge.cw_creelway_k46_nothing_handed_in_or_told_i_holds : PySem.Challenge.rw_creelway_k46_nothing_handed_in_or_told_i.Holds := by
  w_on; o_law; refine HandSHeadRun.head_any (r := PySem.W.OpenLaw.row PySem.Challenge.rw_creelway_k46_nothing_handed_in_or_told_i) (q := (PySem.W.view (PySem.W.OpenLaw.row PySem.Challenge.rw_creelway_k46_nothing_handed_in_or_told_i).prog [60])) (H := (PySem.W.kHook CW.pre.heap_39 CW.asL CW.asE)) (ob := fun s => List.map (HandSHeadRun.getT s) CW.asL) (M := 30000) (loose := CW.looseN) (d := HandSHeadRun.topDef (PySem.W.OpenLaw.row PySem.Challenge.rw_creelway_k46_nothing_handed_in_or_told_i).prog 60) (kwd := []) (fun s => List.map_congr_left fun b _ => HandSHeadRun.getT_eq s b) (by kernel_rfl) (fun s => by kernel_rfl) CW.kRun (by kernel_rfl) (by kernel_rfl) (by kernel_rfl) (by rfl) (by first | assumption | decide +kernel) (by decide +kernel) ⟨rfl, rfl, rfl, rfl, rfl, by decide +kernel⟩ ?hw ?hc; (case hw => w_witness2)
  k_fill
  refine VL.law_walk (l := PySem.Challenge.rw_creelway_k46_nothing_handed_in_or_told_i) (x := "_law_script") rfl (by kernel_rfl) (fun w h Y => PySem.W.kIn_of Y) ?F
  case F =>
    intro w mg fa h KX G hmg0
    have hmg : mg ("law" : PySem.Str) = some (.ref fa) := by
      have e : (HandSHeadRun.topDef (PySem.W.OpenLaw.row PySem.Challenge.rw_creelway_k46_nothing_handed_in_or_told_i).prog 60).name = ("law" : PySem.Str) := by kernel_rfl
      rw [← e]
      exact hmg0
    refine' CW.all_mk KX G hmg ?c_LETTERS ?c_MOST_ROADS ?c_MOST_SIGNS ?c_MOST_STONES ?g_House ?pg_House ?hd_House ?po_House ?sa_House ?mk_House ?kc_House ?g_Road ?pg_Road ?hd_Road ?po_Road ?sa_Road ?mk_Road ?kc_Road ?nf_House_by_name ?nf_House_done ?nf_House_gone ?nf_Road_entries ?nf_Road_first ?nf_Road_now ?fi_Road___init__ ?ifn_Road___init__ ?li_Road___init__ ?ci_Road___init__ ?ki_Road___init__ ?fi_Road_behind_one ?ifn_Road_behind_one ?li_Road_behind_one ?ci_Road_behind_one ?ki_Road_behind_one ?fi_Road_anew ?ifn_Road_anew ?li_Road_anew ?ci_Road_anew ?ki_Road_anew ?fi_House___init__ ?ifn_House___init__ ?li_House___init__ ?ci_House___init__ ?ki_House___init__ ?fi_House_road ?ifn_House_road ?li_House_road ?ci_House_road ?ki_House_road ?fi_House_become ?ifn_House_become ?li_House_become ?ci_House_become ?ki_House_become ?fi_House_build ?ifn_House_build ?li_House_build ?ci_House_build ?ki_House_build ?fi_House_shut ?ifn_House_shut ?li_House_shut ?ci_House_shut ?ki_House_shut ?fi_House_walk ?ifn_House_walk ?li_House_walk ?ci_House_walk ?ki_House_walk ?fi_House_take ?ifn_House_take ?li_House_take ?ci_House_take ?ki_House_take ?fi_House_lay ?ifn_House_lay ?li_House_lay ?ci_House_lay ?ki_House_lay ?fi_House_late ?ifn_House_late ?li_House_late ?ci_House_late ?ki_House_late ?fi_House_back ?ifn_House_back ?li_House_back ?ci_House_back ?ki_House_back ?fi_House_roads ?ifn_House_roads ?li_House_roads ?ci_House_roads ?ki_House_roads ?fi_House_row ?ifn_House_row ?li_House_row ?ci_House_row ?ki_House_row ?fi_House_log ?ifn_House_log ?li_House_log ?ci_House_log ?ki_House_log ?fi_House_deeds ?ifn_House_deeds ?li_House_deeds ?ci_House_deeds ?ki_House_deeds ?fi_House_undone ?ifn_House_undone ?li_House_undone ?ci_House_undone ?ki_House_undone ?g_BadRow ?k_BadRow ?s_BadRow ?t_BadRow ?l_BadRow ?r_BadRow ?sa_BadRow ?no_BadRow ?jn_BadRow ?ti_BadRow ?li_BadRow ?ci_BadRow ?ki_BadRow ?g_Clash ?k_Clash ?s_Clash ?t_Clash ?l_Clash ?r_Clash ?sa_Clash ?no_Clash ?jn_Clash ?ti_Clash ?li_Clash ?ci_Clash ?ki_Clash ?g_BadCreel ?x_BadCreel ?k_BadCreel ?s_BadCreel ?t_BadCreel ?g_BadName ?x_BadName ?k_BadName ?s_BadName ?t_BadName ?g_Bare ?x_Bare ?k_Bare ?s_Bare ?t_Bare ?g_Full ?x_Full ?k_Full ?s_Full ?t_Full ?g_Laid ?x_Laid ?k_Laid ?s_Laid ?t_Laid ?g_NoEntry ?x_NoEntry ?k_NoEntry ?s_NoEntry ?t_NoEntry ?g_NoRoad ?x_NoRoad ?k_NoRoad ?s_NoRoad ?t_NoRoad ?g_NoStone ?x_NoStone ?k_NoStone ?s_NoStone ?t_NoStone ?g_NothingLeft ?x_NothingLeft ?k_NothingLeft ?s_NothingLeft ?t_NothingLeft ?g_Taken ?x_Taken ?k_Taken ?s_Taken ?t_Taken ?g_TooMany ?x_TooMany ?k_TooMany ?s_TooMany ?t_TooMany ?g_TooNear ?x_TooNear ?k_TooNear ?s_TooNear ?t_TooNear ?g_CreelError ?bb_CreelError ?ii_CreelError ?tt_CreelError ?e_BadRow_CreelError ?e_Clash_CreelError ?e_BadCreel_CreelError ?e_BadName_CreelError ?e_Bare_CreelError ?e_Full_CreelError ?e_Laid_CreelError ?e_NoEntry_CreelError ?e_NoRoad_CreelError ?e_NoStone_CreelError ?e_NothingLeft_CreelError ?e_Taken_CreelError ?e_TooMany_CreelError ?e_TooNear_CreelError ?a_look_row ?a_mirrored ?a_look_creel ?a_share ?a_mark ?a_longest_ripe ?a_grown ?a_list_of ?a_next_place ?a_shortest_ripe ?a_shrunk ?a_stones_of ?a_look_walks ?a_by_walks ?a_added_to ?a_far ?a_laid_behind ?a_put_in ?a_taken_out ?a_behind_entry ?a_gone_over ?a_is_name ?a_numbers_L ?a_same_L ?a_row_L ?a_long_row_L ?a_behind_L ?a_view_L ?a_spoil_L ?a_law ?z_len ?z_range ?z_min ?z_max ?z_abs ?z_sum ?z_all ?z_any ?z_sorted ?z_list ?z_tuple ?z_int ?z_bool ?z_str ?z_isinstance ?z_zip ?z_enumerate ?z_reversed ?z_set ?z_dict
    (case c_LETTERS => k_is)
    (case c_MOST_ROADS => k_is)
    (case c_MOST_SIGNS => k_is)
    (case c_MOST_STONES => k_is)
    (case g_House => k_is)
    (case pg_House => k_is)
    (case hd_House => k_is)
    (case po_House => k_is)
    (case sa_House => k_is)
    (case mk_House => k_is)
    (case kc_House => k_is)
    (case g_Road => k_is)
    (case pg_Road => k_is)
    (case hd_Road => k_is)
    (case po_Road => k_is)
    (case sa_Road => k_is)
    (case mk_Road => k_is)
    (case kc_Road => k_is)
    (case nf_House_by_name => k_is)
    (case nf_House_done => k_is)
    (case nf_House_gone => k_is)
    (case nf_Road_entries => k_is)
    (case nf_Road_first => k_is)
    (case nf_Road_now => k_is)
    (case fi_Road___init__ => k_is)
    (case ifn_Road___init__ => k_is)
    (case li_Road___init__ => k_is)
    (case ci_Road___init__ => k_is)
    (case ki_Road___init__ => k_is)
    (case fi_Road_behind_one => k_is)
    (case ifn_Road_behind_one => k_is)
    (case li_Road_behind_one => k_is)
    (case ci_Road_behind_one => k_is)
    (case ki_Road_behind_one => k_is)
    (case fi_Road_anew => k_is)
    (case ifn_Road_anew => k_is)
    (case li_Road_anew => k_is)
    (case ci_Road_anew => k_is)
    (case ki_Road_anew => k_is)
    (case fi_House___init__ => k_is)
    (case ifn_House___init__ => k_is)
    (case li_House___init__ => k_is)
    (case ci_House___init__ => k_is)
    (case ki_House___init__ => k_is)
    (case fi_House_road => k_is)
    (case ifn_House_road => k_is)
    (case li_House_road => k_is)
    (case ci_House_road => k_is)
    (case ki_House_road => k_is)
    (case fi_House_become => k_is)
    (case ifn_House_become => k_is)
    (case li_House_become => k_is)
    (case ci_House_become => k_is)
    (case ki_House_become => k_is)
    (case fi_House_build => k_is)
    (case ifn_House_build => k_is)
    (case li_House_build => k_is)
    (case ci_House_build => k_is)
    (case ki_House_build => k_is)
    (case fi_House_shut => k_is)
    (case ifn_House_shut => k_is)
    (case li_House_shut => k_is)
    (case ci_House_shut => k_is)
    (case ki_House_shut => k_is)
    (case fi_House_walk => k_is)
    (case ifn_House_walk => k_is)
    (case li_House_walk => k_is)
    (case ci_House_walk => k_is)
    (case ki_House_walk => k_is)
    (case fi_House_take => k_is)
    (case ifn_House_take => k_is)
    (case li_House_take => k_is)
    (case ci_House_take => k_is)
    (case ki_House_take => k_is)
    (case fi_House_lay => k_is)
    (case ifn_House_lay => k_is)
    (case li_House_lay => k_is)
    (case ci_House_lay => k_is)
    (case ki_House_lay => k_is)
    (case fi_House_late => k_is)
    (case ifn_House_late => k_is)
    (case li_House_late => k_is)
    (case ci_House_late => k_is)
    (case ki_House_late => k_is)
    (case fi_House_back => k_is)
    (case ifn_House_back => k_is)
    (case li_House_back => k_is)
    (case ci_House_back => k_is)
    (case ki_House_back => k_is)
    (case fi_House_roads => k_is)
    (case ifn_House_roads => k_is)
    (case li_House_roads => k_is)
    (case ci_House_roads => k_is)
    (case ki_House_roads => k_is)
    (case fi_House_row => k_is)
    (case ifn_House_row => k_is)
    (case li_House_row => k_is)
    (case ci_House_row => k_is)
    (case ki_House_row => k_is)
    (case fi_House_log => k_is)
    (case ifn_House_log => k_is)
    (case li_House_log => k_is)
    (case ci_House_log => k_is)
    (case ki_House_log => k_is)
    (case fi_House_deeds => k_is)
    (case ifn_House_deeds => k_is)
    (case li_House_deeds => k_is)
    (case ci_House_deeds => k_is)
    (case ki_House_deeds => k_is)
    (case fi_House_undone => k_is)
    (case ifn_House_undone => k_is)
    (case li_House_undone => k_is)
    (case ci_House_undone => k_is)
    (case ki_House_undone => k_is)
    (case g_BadRow => k_is)
    (case k_BadRow => k_is)
    (case s_BadRow => k_is)
    (case t_BadRow => k_is)
    (case l_BadRow => k_is)
    (case r_BadRow => decide +kernel)
    (case sa_BadRow => k_is)
    (case no_BadRow => k_is)
    (case jn_BadRow => k_is)
    (case ti_BadRow => k_is)
    (case li_BadRow => k_is)
    (case ci_BadRow => k_is)
    (case ki_BadRow => k_is)
    (case g_Clash => k_is)
    (case k_Clash => k_is)
    (case s_Clash => k_is)
    (case t_Clash => k_is)
    (case l_Clash => k_is)
    (case r_Clash => decide +kernel)
    (case sa_Clash => k_is)
    (case no_Clash => k_is)
    (case jn_Clash => k_is)
    (case ti_Clash => k_is)
    (case li_Clash => k_is)
    (case ci_Clash => k_is)
    (case ki_Clash => k_is)
    (case g_BadCreel => k_is)
    (case x_BadCreel => k_exc)
    (case k_BadCreel => k_is)
    (case s_BadCreel => k_is)
    (case t_BadCreel => k_is)
    (case g_BadName => k_is)
    (case x_BadName => k_exc)
    (case k_BadName => k_is)
    (case s_BadName => k_is)
    (case t_BadName => k_is)
    (case g_Bare => k_is)
    (case x_Bare => k_exc)
    (case k_Bare => k_is)
    (case s_Bare => k_is)
    (case t_Bare => k_is)
    (case g_Full => k_is)
    (case x_Full => k_exc)
    (case k_Full => k_is)
    (case s_Full => k_is)
    (case t_Full => k_is)
    (case g_Laid => k_is)
    (case x_Laid => k_exc)
    (case k_Laid => k_is)
    (case s_Laid => k_is)
    (case t_Laid => k_is)
    (case g_NoEntry => k_is)
    (case x_NoEntry => k_exc)
    (case k_NoEntry => k_is)
    (case s_NoEntry => k_is)
    (case t_NoEntry => k_is)
    (case g_NoRoad => k_is)
    (case x_NoRoad => k_exc)
    (case k_NoRoad => k_is)
    (case s_NoRoad => k_is)
    (case t_NoRoad => k_is)
    (case g_NoStone => k_is)
    (case x_NoStone => k_exc)
    (case k_NoStone => k_is)
    (case s_NoStone => k_is)
    (case t_NoStone => k_is)
    (case g_NothingLeft => k_is)
    (case x_NothingLeft => k_exc)
    (case k_NothingLeft => k_is)
    (case s_NothingLeft => k_is)
    (case t_NothingLeft => k_is)
    (case g_Taken => k_is)
    (case x_Taken => k_exc)
    (case k_Taken => k_is)
    (case s_Taken => k_is)
    (case t_Taken => k_is)
    (case g_TooMany => k_is)
    (case x_TooMany => k_exc)
    (case k_TooMany => k_is)
    (case s_TooMany => k_is)
    (case t_TooMany => k_is)
    (case g_TooNear => k_is)
    (case x_TooNear => k_exc)
    (case k_TooNear => k_is)
    (case s_TooNear => k_is)
    (case t_TooNear => k_is)
    (case g_CreelError => k_is)
    (case bb_CreelError => k_is)
    (case ii_CreelError => k_is)
    (case tt_CreelError => k_is)
    (case e_BadRow_CreelError => k_is)
    (case e_Clash_CreelError => k_is)
    (case e_BadCreel_CreelError => k_is)
    (case e_BadName_CreelError => k_is)
    (case e_Bare_CreelError => k_is)
    (case e_Full_CreelError => k_is)
    (case e_Laid_CreelError => k_is)
    (case e_NoEntry_CreelError => k_is)
    (case e_NoRoad_CreelError => k_is)
    (case e_NoStone_CreelError => k_is)
    (case e_NothingLeft_CreelError => k_is)
    (case e_Taken_CreelError => k_is)
    (case e_TooMany_CreelError => k_is)
    (case e_TooNear_CreelError => k_is)
    (case a_look_row => refine' VL.at_mk KX G ?b1 ?b2 ?b3 ?b4; (case b1 => k_is); (case b2 => k_is); (case b3 => k_is); (case b4 => k_is))
    (case a_mirrored => refine' VL.at_mk KX G ?b1 ?b2 ?b3 ?b4; (case b1 => k_is); (case b2 => k_is); (case b3 => k_is); (case b4 => k_is))
    (case a_look_creel => refine' VL.at_mk KX G ?b1 ?b2 ?b3 ?b4; (case b1 => k_is); (case b2 => k_is); (case b3 => k_is); (case b4 => k_is))
    (case a_share => refine' VL.at_mk KX G ?b1 ?b2 ?b3 ?b4; (case b1 => k_is); (case b2 => k_is); (case b3 => k_is); (case b4 => k_is))
    (case a_mark => refine' VL.at_mk KX G ?b1 ?b2 ?b3 ?b4; (case b1 => k_is); (case b2 => k_is); (case b3 => k_is); (case b4 => k_is))
    (case a_longest_ripe => refine' VL.at_mk KX G ?b1 ?b2 ?b3 ?b4; (case b1 => k_is); (case b2 => k_is); (case b3 => k_is); (case b4 => k_is))
    (case a_grown => refine' VL.at_mk KX G ?b1 ?b2 ?b3 ?b4; (case b1 => k_is); (case b2 => k_is); (case b3 => k_is); (case b4 => k_is))
    (case a_list_of => refine' VL.at_mk KX G ?b1 ?b2 ?b3 ?b4; (case b1 => k_is); (case b2 => k_is); (case b3 => k_is); (case b4 => k_is))
    (case a_next_place => refine' VL.at_mk KX G ?b1 ?b2 ?b3 ?b4; (case b1 => k_is); (case b2 => k_is); (case b3 => k_is); (case b4 => k_is))
    (case a_shortest_ripe => refine' VL.at_mk KX G ?b1 ?b2 ?b3 ?b4; (case b1 => k_is); (case b2 => k_is); (case b3 => k_is); (case b4 => k_is))
    (case a_shrunk => refine' VL.at_mk KX G ?b1 ?b2 ?b3 ?b4; (case b1 => k_is); (case b2 => k_is); (case b3 => k_is); (case b4 => k_is))
    (case a_stones_of => refine' VL.at_mk KX G ?b1 ?b2 ?b3 ?b4; (case b1 => k_is); (case b2 => k_is); (case b3 => k_is); (case b4 => k_is))
    (case a_look_walks => refine' VL.at_mk KX G ?b1 ?b2 ?b3 ?b4; (case b1 => k_is); (case b2 => k_is); (case b3 => k_is); (case b4 => k_is))
    (case a_by_walks => refine' VL.at_mk KX G ?b1 ?b2 ?b3 ?b4; (case b1 => k_is); (case b2 => k_is); (case b3 => k_is); (case b4 => k_is))
    (case a_added_to => refine' VL.at_mk KX G ?b1 ?b2 ?b3 ?b4; (case b1 => k_is); (case b2 => k_is); (case b3 => k_is); (case b4 => k_is))
    (case a_far => refine' VL.at_mk KX G ?b1 ?b2 ?b3 ?b4; (case b1 => k_is); (case b2 => k_is); (case b3 => k_is); (case b4 => k_is))
    (case a_laid_behind => refine' VL.at_mk KX G ?b1 ?b2 ?b3 ?b4; (case b1 => k_is); (case b2 => k_is); (case b3 => k_is); (case b4 => k_is))
    (case a_put_in => refine' VL.at_mk KX G ?b1 ?b2 ?b3 ?b4; (case b1 => k_is); (case b2 => k_is); (case b3 => k_is); (case b4 => k_is))
    (case a_taken_out => refine' VL.at_mk KX G ?b1 ?b2 ?b3 ?b4; (case b1 => k_is); (case b2 => k_is); (case b3 => k_is); (case b4 => k_is))
    (case a_behind_entry => refine' VL.at_mk KX G ?b1 ?b2 ?b3 ?b4; (case b1 => k_is); (case b2 => k_is); (case b3 => k_is); (case b4 => k_is))
    (case a_gone_over => refine' VL.at_mk KX G ?b1 ?b2 ?b3 ?b4; (case b1 => k_is); (case b2 => k_is); (case b3 => k_is); (case b4 => k_is))
    (case a_is_name => refine' VL.at_mk KX G ?b1 ?b2 ?b3 ?b4; (case b1 => k_is); (case b2 => k_is); (case b3 => k_is); (case b4 => k_is))
    (case a_numbers_L => refine' VL.at_mk KX G ?b1 ?b2 ?b3 ?b4; (case b1 => k_is); (case b2 => k_is); (case b3 => k_is); (case b4 => k_is))
    (case a_same_L => refine' VL.at_mk KX G ?b1 ?b2 ?b3 ?b4; (case b1 => k_is); (case b2 => k_is); (case b3 => k_is); (case b4 => k_is))
    (case a_row_L => refine' VL.at_mk KX G ?b1 ?b2 ?b3 ?b4; (case b1 => k_is); (case b2 => k_is); (case b3 => k_is); (case b4 => k_is))
    (case a_long_row_L => refine' VL.at_mk KX G ?b1 ?b2 ?b3 ?b4; (case b1 => k_is); (case b2 => k_is); (case b3 => k_is); (case b4 => k_is))
    (case a_behind_L => refine' VL.at_mk KX G ?b1 ?b2 ?b3 ?b4; (case b1 => k_is); (case b2 => k_is); (case b3 => k_is); (case b4 => k_is))
    (case a_view_L => refine' VL.at_mk KX G ?b1 ?b2 ?b3 ?b4; (case b1 => k_is); (case b2 => k_is); (case b3 => k_is); (case b4 => k_is))
    (case a_spoil_L => refine' VL.at_mk KX G ?b1 ?b2 ?b3 ?b4; (case b1 => k_is); (case b2 => k_is); (case b3 => k_is); (case b4 => k_is))
    (case a_law => refine' VL.at_mk KX G ?b1 ?b2 ?b3 ?b4; (case b1 => k_is); (case b2 => k_is); (case b3 => k_is); (case b4 => k_is))
    (case z_len => k_is)
    (case z_range => k_is)
    (case z_min => k_is)
    (case z_max => k_is)
    (case z_abs => k_is)
    (case z_sum => k_is)
    (case z_all => k_is)
    (case z_any => k_is)
    (case z_sorted => k_is)
    (case z_list => k_is)
    (case z_tuple => k_is)
    (case z_int => k_is)
    (case z_bool => k_is)
    (case z_str => k_is)
    (case z_isinstance => k_is)
    (case z_zip => k_is)
    (case z_enumerate => k_is)
    (case z_reversed => k_is)
    (case z_set => k_is)
    (case z_dict => k_is)
