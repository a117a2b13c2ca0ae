import PyProof.Rows.All
import HandS.Head0
import HandS.Head1
import HandS.Head2
import Wide.All
import OpenK.AllK
import Wide.FinOn
import HandS.Comp
import HandS.Exc
import HandS.WordsList
import HandS.Dict
import HandS.TryMany
import HandS.Lambda
import HandS.ExcField
import HandS.ExcCtx
import HandS.SuiteRaise
import HandS.RaiseFrom
import HandS.ExcInitHot
import HandS.Wide
import HandS.TupAny
import HandS.Text
import HandS.WordsDict
import HandS.Iter
import PyProof.LongRange
import HandS.Style
import HandS.ExcInit
import HandS.WordsExc
import HandS.IsInst
import HandS.SortInts
import HandS.SortRule
import HandS.Deep
import HandS.SortKw
import KE.KMinBuiltin
import KE.DataFind
import HandS.EndTab
import KE.KExcIs
import HandS.SetFor
import HandS.Strs
import HandS.Conv
import HandS.More
import HandS.Zip
import KE.SortData
import KE.DataCmp
import HandS.RaiseMore
import HandS.FStr
import PyProof.ListRange
import HandS.HeadHook3
import PySem.Challenge.RW_creelway_k15_whole_tails_become_heads
set_option Elab.async false
set_option linter.all false
set_option maxRecDepth 100000
set_option maxHeartbeats 4000000

def CW.looseN : List PySem.Str := ([PySem.Str.ofString "CreelError", PySem.Str.ofString "TooMany", PySem.Str.ofString "BadCreel", PySem.Str.ofString "BadRow", PySem.Str.ofString "MOST_STONES", PySem.Str.ofString "look_row", PySem.Str.ofString "runs_of", PySem.Str.ofString "closings", PySem.Str.ofString "look_creel", PySem.Str.ofString "laid_from", PySem.Str.ofString "Walk", PySem.Str.ofString "walk_there", PySem.Str.ofString "walked", PySem.Str.ofString "peel", PySem.Str.ofString "rounds", PySem.Str.ofString "sizes_of", PySem.Str.ofString "sizes_by_rounds", PySem.Str.ofString "road_of", PySem.Str.ofString "joined_runs", PySem.Str.ofString "parted_run"] : List PySem.Str) ++ ([PySem.Str.ofString "heads", PySem.Str.ofString "_law_numbers", PySem.Str.ofString "_law_row", PySem.Str.ofString "_law_long_row", PySem.Str.ofString "_law_all"] : List PySem.Str)
set_option hygiene false in
local macro_rules
  | `(tactic| o_head ($_ $_ $_ $_)) => `(tactic| exact x.elim)
  | `(tactic| o_head ($_ $_ $_ $_ $_)) => `(tactic| exact x.elim)
set_option maxRecDepth 100000 in
set_option maxHeartbeats 0 in
theorem CW.pre (x : False) : PySem.Challenge.rw_creelway_k15_whole_tails_become_heads.Holds := by
  w_on; o_law; k_head
def CW.par0 : PySem.Params := { strHash := fun _ => 0, shareClass := fun _ => 0, mergeTok := fun t => t, idOf := fun _ => 0, idOfShared := fun _ _ => 0, followText := fun _ => false, idOfImm := fun _ => 0 }
noncomputable def CW.asL : List PySem.Addr := (CW.pre.heap_39 CW.par0).map (fun p => p.1)
theorem CW.asE : ∀ P, CW.asL = (CW.pre.heap_39 P).map (fun p => p.1) := fun _ => by kernel_rfl
set_option maxRecDepth 100000 in
set_option maxHeartbeats 0 in
theorem CW.kRunF (w : PySem.World) : HandSHeadRun.RunEq (PySem.W.OpenLaw.row PySem.Challenge.rw_creelway_k15_whole_tails_become_heads) (PySem.W.view (PySem.W.OpenLaw.row PySem.Challenge.rw_creelway_k15_whole_tails_become_heads).prog [30]) (PySem.W.kHook CW.pre.heap_39 CW.asL CW.asE) (fun s => List.map (HandSHeadRun.getT s) CW.asL) 30000 CW.looseN (PySem.World.withFollow w "special-get-raises" false) := by
  intro os
  kernel_rfl
set_option maxRecDepth 100000 in
set_option maxHeartbeats 0 in
theorem CW.kRunT (w : PySem.World) : HandSHeadRun.RunEq (PySem.W.OpenLaw.row PySem.Challenge.rw_creelway_k15_whole_tails_become_heads) (PySem.W.view (PySem.W.OpenLaw.row PySem.Challenge.rw_creelway_k15_whole_tails_become_heads).prog [30]) (PySem.W.kHook CW.pre.heap_39 CW.asL CW.asE) (fun s => List.map (HandSHeadRun.getT s) CW.asL) 30000 CW.looseN (PySem.World.withFollow w "special-get-raises" true) := by
  intro os
  kernel_rfl
theorem CW.kRun : ∀ w : PySem.World, HandSHeadRun.RunEq (PySem.W.OpenLaw.row PySem.Challenge.rw_creelway_k15_whole_tails_become_heads) (PySem.W.view (PySem.W.OpenLaw.row PySem.Challenge.rw_creelway_k15_whole_tails_become_heads).prog [30]) (PySem.W.kHook CW.pre.heap_39 CW.asL CW.asE) (fun s => List.map (HandSHeadRun.getT s) CW.asL) 30000 CW.looseN w := PySem.W.byRow2 "special-get-raises" (P := fun w => HandSHeadRun.RunEq (PySem.W.OpenLaw.row PySem.Challenge.rw_creelway_k15_whole_tails_become_heads) (PySem.W.view (PySem.W.OpenLaw.row PySem.Challenge.rw_creelway_k15_whole_tails_become_heads).prog [30]) (PySem.W.kHook CW.pre.heap_39 CW.asL CW.asE) (fun s => List.map (HandSHeadRun.getT s) CW.asL) 30000 CW.looseN w) CW.kRunF CW.kRunT

namespace VL
open PySem PySem.Spec PyProof.Rows L2

def NT (o : HO) : Prop := ∀ ps, o ≠ .tbl ps
structure Same (H H' : Hp) : Prop where
  k : ∀ b o, H b = some o → NT o ∨ H' b = none → H' b = some o
theorem Same.at {H H' : Hp} (e : Same H H') (b : Addr) (o : HO) (h : H b = some o) (nt : NT o := by intro _ z; cases z) : H' b = some o := e.k b o h (.inl nt)
theorem Same.refl (H : Hp) : Same H H := ⟨fun _ _ h _ => h⟩
theorem Same.free {H H' : Hp} (e : Same H H') {l : Addr} (h : H' l = none) : H l = none := by
  cases q : H l with
  | none => rfl
  | some o =>
    have z := e.k l o q (.inr h)
    rw [h] at z
    cases z
/-- a dict that lies open, or locked -/
theorem Same.rd {H H' : Hp} (e : Same H H') {a : Addr} {xs : List (Key × V)} (h : Rd H a (.dK xs)) : Rd H' a (.dK xs) := by
  rcases h with h | ⟨o, h⟩
  · exact .inl (e.at _ _ h)
  · exact .inr ⟨o, e.at _ _ h⟩
theorem Same.trans {H H1 H2 : Hp} (a : Same H H1) (b : Same H1 H2) : Same H H2 := ⟨fun c o h nt => by
  rcases nt with nt | nt
  · exact b.k c o (a.k c o h (.inl nt)) (.inl nt)
  · have z := a.k c o h (.inr (b.free nt))
    rw [b.free nt] at z
    cases z⟩
theorem Same.of {H H' : Hp} (e : L2.Same H H') : Same H H' := ⟨fun b o h _ => e b o h⟩
theorem Same.seq {K : PySem.W.Frag} {H H' : Hp} {a : Addr} {xs : List V} (e : Same H H') (h : SqL K H a xs) : SqL K H' a xs := by
  rcases h with (h | ⟨o, h⟩) | h
  · exact .inl (.inl (e.at _ _ h))
  · exact .inl (.inr ⟨o, e.at _ _ h⟩)
  · exact .inr h
/-- the name of a law's lambda -/
def lamQ : Str := "law.<locals>.<lambda>"

inductive D where
  | non
  | bl (b : Bool)
  | int (i : Int)
  | str (x : Str)
  | lst (xs : List D)
  | tup (xs : List D)
  | dct (kvs : List (Key × D))
  | obj (C : Str) (fs : List (Str × D))
  | scr (ns : List Int)
/-- the own classes by name; the written part -/
structure Cl where
  f : Str → Option Addr
  K : PySem.W.Frag
  o : Str → Option Addr

mutual
inductive Rep (cl : Cl) (H : Hp) : D → V → Prop
  | non : Rep cl H .non .non
  | bl (b : Bool) : Rep cl H (.bl b) (.bl b)
  | int (i : Int) : Rep cl H (.int i) (.int i)
  | str (x : Str) : Rep cl H (.str x) (.str x)
  | lst {a : Addr} {ds : List D} {xs : List V} : H a = some (.lst xs) → RepL cl H ds xs → Rep cl H (.lst ds) (.ref a)
  | tup {a : Addr} {ds : List D} {xs : List V} : H a = some (.tup xs) → RepL cl H ds xs → Rep cl H (.tup ds) (.ref a)
  | dct {a : Addr} {ds : List (Key × D)} {xs : List (Key × V)} : Rd H a (.dK xs) → RepK cl H ds xs → Rep cl H (.dct ds) (.ref a)
  | obj {a c dx : Addr} {C : Str} {ds : List (Str × D)} {xs : List (Str × V)} : cl.o C = some c → H a = some (.ins c dx xs) → RepF cl H ds xs → Rep cl H (.obj C ds) (.ref a)
  | scr {a : Addr} {ns : List Int} : SqL cl.K H a (ns.map V.int) → Rep cl H (.scr ns) (.ref a)
inductive RepL (cl : Cl) (H : Hp) : List D → List V → Prop
  | nil : RepL cl H [] []
  | cons {d : D} {ds : List D} {v : V} {vs : List V} : Rep cl H d v → RepL cl H ds vs → RepL cl H (d :: ds) (v :: vs)
inductive RepK (cl : Cl) (H : Hp) : List (Key × D) → List (Key × V) → Prop
  | nil : RepK cl H [] []
  | cons {k : Key} {d : D} {ds : List (Key × D)} {v : V} {vs : List (Key × V)} : Rep cl H d v → RepK cl H ds vs → RepK cl H ((k, d) :: ds) ((k, v) :: vs)
inductive RepF (cl : Cl) (H : Hp) : List (Str × D) → List (Str × V) → Prop
  | nil : RepF cl H [] []
  | cons {k : Str} {d : D} {ds : List (Str × D)} {v : V} {vs : List (Str × V)} : Rep cl H d v → RepF cl H ds vs → RepF cl H ((k, d) :: ds) ((k, v) :: vs)
end

section
variable {cl : Cl} {H H' : Hp}
mutual
theorem Rep.same (e : Same H H') : ∀ (d : D) (v : V), Rep cl H d v → Rep cl H' d v
  | .non, _, h => by cases h; exact .non
  | .bl b, _, h => by cases h; exact .bl b
  | .int i, _, h => by cases h; exact .int i
  | .str x, _, h => by cases h; exact .str x
  | .lst ds, _, h => by
    cases h with
    | lst h1 h2 => exact .lst (e.at _ _ h1) (RepL.same e ds _ h2)
  | .tup ds, _, h => by
    cases h with
    | tup h1 h2 => exact .tup (e.at _ _ h1) (RepL.same e ds _ h2)
  | .dct ds, _, h => by
    cases h with
    | dct h1 h2 => exact .dct (e.rd h1) (RepK.same e ds _ h2)
  | .obj C ds, _, h => by
    cases h with
    | obj h0 h1 h2 => exact .obj h0 (e.at _ _ h1) (RepF.same e ds _ h2)
  | .scr ns, _, h => by
    cases h with
    | scr h1 => exact .scr (e.seq h1)
theorem RepL.same (e : Same H H') : ∀ (ds : List D) (vs : List V), RepL cl H ds vs → RepL cl H' ds vs
  | [], _, h => by cases h; exact .nil
  | d :: ds, _, h => by
    cases h with
    | cons h1 h2 => exact .cons (Rep.same e d _ h1) (RepL.same e ds _ h2)
theorem RepK.same (e : Same H H') : ∀ (ds : List (Key × D)) (vs : List (Key × V)), RepK cl H ds vs → RepK cl H' ds vs
  | [], _, h => by cases h; exact .nil
  | (k, d) :: ds, _, h => by
    cases h with
    | cons h1 h2 => exact .cons (Rep.same e d _ h1) (RepK.same e ds _ h2)
theorem RepF.same (e : Same H H') : ∀ (ds : List (Str × D)) (vs : List (Str × V)), RepF cl H ds vs → RepF cl H' ds vs
  | [], _, h => by cases h; exact .nil
  | (k, d) :: ds, _, h => by
    cases h with
    | cons h1 h2 => exact .cons (Rep.same e d _ h1) (RepF.same e ds _ h2)
end
theorem RepL.length : ∀ {ds : List D} {vs : List V}, RepL cl H ds vs → vs.length = ds.length
  | [], _, h => by cases h; rfl
  | d :: ds, _, h => by
    cases h with
    | cons h1 h2 => rw [List.length_cons, List.length_cons, RepL.length h2]
theorem RepL.get : ∀ {ds : List D} {vs : List V} {i : Nat} {d : D}, RepL cl H ds vs → ds[i]? = some d → ∃ v, vs[i]? = some v ∧ Rep cl H d v
  | [], _, _, _, _, e => by simp at e
  | d :: ds, _, 0, _, h, e => by
    cases h with
    | cons h1 h2 =>
      simp at e
      subst e
      exact ⟨_, rfl, h1⟩
  | d :: ds, _, i + 1, _, h, e => by
    cases h with
    | cons h1 h2 =>
      obtain ⟨v, q, r⟩ := RepL.get (i := i) h2 (by simpa using e)
      exact ⟨v, by simpa using q, r⟩
theorem RepL.app : ∀ {ds ds' : List D} {vs vs' : List V}, RepL cl H ds vs → RepL cl H ds' vs' → RepL cl H (ds ++ ds') (vs ++ vs')
  | [], _, _, _, h, h' => by cases h; exact h'
  | d :: ds, _, _, _, h, h' => by
    cases h with
    | cons h1 h2 => exact .cons h1 (RepL.app h2 h')
theorem RepL.take : ∀ {ds : List D} {vs : List V} (n : Nat), RepL cl H ds vs → RepL cl H (ds.take n) (vs.take n)
  | _, _, 0, _ => .nil
  | [], _, _ + 1, h => by cases h; exact .nil
  | d :: ds, _, n + 1, h => by
    cases h with
    | cons h1 h2 => exact .cons h1 (RepL.take n h2)
theorem RepL.drop : ∀ {ds : List D} {vs : List V} (n : Nat), RepL cl H ds vs → RepL cl H (ds.drop n) (vs.drop n)
  | _, _, 0, h => h
  | [], _, _ + 1, h => by cases h; exact .nil
  | d :: ds, _, n + 1, h => by
    cases h with
    | cons h1 h2 => exact RepL.drop n h2
theorem RepL.set : ∀ {ds : List D} {vs : List V} {d : D} {v : V} (i : Nat), RepL cl H ds vs → Rep cl H d v → RepL cl H (ds.set i d) (vs.set i v)
  | [], _, _, _, _, h, _ => by cases h; exact .nil
  | d :: ds, _, _, _, 0, h, r => by
    cases h with
    | cons h1 h2 => exact .cons r h2
  | d :: ds, _, _, _, i + 1, h, r => by
    cases h with
    | cons h1 h2 => exact .cons h1 (RepL.set i h2 r)
theorem RepL.dropLast : ∀ {ds : List D} {vs : List V}, RepL cl H ds vs → RepL cl H ds.dropLast vs.dropLast := fun {ds vs} h => by
  rw [List.dropLast_eq_take, List.dropLast_eq_take, h.length]
  exact h.take _
theorem RepL.ints {ns : List Int} : ∀ {vs : List V}, RepL cl H (ns.map D.int) vs → vs = ns.map V.int := by
  induction ns with
  | nil =>
    intro vs h
    cases h
    rfl
  | cons n ns ih =>
    intro vs h
    cases h with
    | cons h1 h2 =>
      cases h1
      rw [ih h2]
      rfl
theorem RepL.ofInts (ns : List Int) : RepL cl H (ns.map D.int) (ns.map V.int) := by
  induction ns with
  | nil => exact .nil
  | cons n ns ih => exact .cons (.int n) ih
end

/-- numbers, texts, truths, None -/
def D.bare : D → Bool
  | .non => true
  | .bl _ => true
  | .int _ => true
  | .str _ => true
  | _ => false
/-- no list, dict, object: what never changes -/
def D.plain : D → Bool
  | .lst _ => false
  | .dct _ => false
  | .obj _ _ => false
  | _ => true
mutual
inductive RB (cl : Cl) (Hs H : Hp) : D → V → Prop
  | val {d : D} {v : V} : Rep cl Hs d v → RB cl Hs H d v
  | lst {a : Addr} {ds : List D} {xs : List V} : H a = some (.lst xs) → RepL cl Hs ds xs → RB cl Hs H (.lst ds) (.ref a)
  | dct {a : Addr} {ds : List (Key × D)} {xs : List (Key × V)} : Rd H a (.dK xs) → RepK cl Hs ds xs → RB cl Hs H (.dct ds) (.ref a)
  | obj {a c dx : Addr} {C : Str} {ds : List (Str × D)} {xs : List (Str × V)} : cl.o C = some c → H a = some (.ins c dx xs) → RBF cl Hs H ds xs → RB cl Hs H (.obj C ds) (.ref a)
inductive RBF (cl : Cl) (Hs H : Hp) : List (Str × D) → List (Str × V) → Prop
  | nil : RBF cl Hs H [] []
  | cons {k : Str} {d : D} {ds : List (Str × D)} {v : V} {vs : List (Str × V)} : RB cl Hs H d v → RBF cl Hs H ds vs → RBF cl Hs H ((k, d) :: ds) ((k, v) :: vs)
end
section
variable {cl : Cl} {Hs Hs' H H' : Hp}
mutual
theorem RB.same (e : Same Hs Hs') (h : Same H H') : ∀ {d : D} {v : V}, RB cl Hs H d v → RB cl Hs' H' d v
  | _, _, .val r => .val (Rep.same e _ _ r)
  | _, _, .lst h1 h2 => .lst (h.at _ _ h1) (RepL.same e _ _ h2)
  | _, _, .dct h1 h2 => .dct (h.rd h1) (RepK.same e _ _ h2)
  | _, _, .obj h0 h1 h2 => .obj h0 (h.at _ _ h1) (RBF.same e h h2)
theorem RBF.same (e : Same Hs Hs') (h : Same H H') : ∀ {ds : List (Str × D)} {vs : List (Str × V)}, RBF cl Hs H ds vs → RBF cl Hs' H' ds vs
  | _, _, .nil => .nil
  | _, _, .cons a b => .cons (RB.same e h a) (RBF.same e h b)
end
end
inductive Kd where
  | val
  | bor
  | own (n : Option Addr)
  | obj (n : Option Addr) (ks : List (Str × Kd))
  | adr (a : Addr)
  | lls (n : Option Addr) (k : Kd)

mutual
/-- d lies at v: cl the classes, N what is new, B what was borrowed at the entry, Hs what stays as it is, H all; As: what may be changed -/
inductive ORep (cl : Cl) (N : Addr → Prop) (B Hs H : Hp) : Kd → D → V → List Addr → Prop
  | val {d : D} {v : V} : Rep cl Hs d v → ORep cl N B Hs H .val d v []
  | borV {d : D} {v : V} : Rep cl Hs d v → ORep cl N B Hs H .bor d v []
  | borL {a : Addr} {ds : List D} {xs : List V} : B a = some (.lst xs) → RepL cl Hs ds xs → ORep cl N B Hs H .bor (.lst ds) (.ref a) []
  | borK {a : Addr} {ds : List (Key × D)} {xs : List (Key × V)} : Rd B a (.dK xs) → RepK cl Hs ds xs → ORep cl N B Hs H .bor (.dct ds) (.ref a) []
  | borO {a c dx : Addr} {C : Str} {ds : List (Str × D)} {xs : List (Str × V)} : cl.o C = some c → B a = some (.ins c dx xs) → RBF cl Hs B ds xs → ORep cl N B Hs H .bor (.obj C ds) (.ref a) []
  | ownL {n : Option Addr} {a : Addr} {ds : List D} {xs : List V} : (N a ∧ ∀ b, n = some b → b = a) → H a = some (.lst xs) → RepL cl Hs ds xs → ORep cl N B Hs H (.own n) (.lst ds) (.ref a) [a]
  | ownK {n : Option Addr} {a : Addr} {ds : List (Key × D)} {xs : List (Key × V)} : (N a ∧ ∀ b, n = some b → b = a) → H a = some (.dK xs) → RepK cl Hs ds xs → ORep cl N B Hs H (.own n) (.dct ds) (.ref a) [a]
  | ownV {d : D} {v : V} : d.plain = true → Rep cl Hs d v → ORep cl N B Hs H (.own none) d v []
  | obj {n : Option Addr} {ks : List (Str × Kd)} {a c dx : Addr} {C : Str} {ds : List (Str × D)} {xs : List (Str × V)} {As : List Addr} :
      (N a ∧ ∀ b, n = some b → b = a) → cl.o C = some c → H a = some (.ins c dx xs) → OFs cl N B Hs H ks ds xs As → ORep cl N B Hs H (.obj n ks) (.obj C ds) (.ref a) (a :: As)
  | adr {a : Addr} : ORep cl N B Hs H (.adr a) .non (.ref a) []
  | lls {n : Option Addr} {k : Kd} {a : Addr} {ds : List D} {xs : List V} {As : List Addr} : (N a ∧ ∀ b, n = some b → b = a) → H a = some (.lst xs) → OLs cl N B Hs H k ds xs As → ORep cl N B Hs H (.lls n k) (.lst ds) (.ref a) (a :: As)
  | llT {n : Option Addr} {k : Kd} {a : Addr} {ds : List D} {xs : List V} {As : List Addr} : (N a ∧ ∀ b, n = some b → b = a) → H a = some (.tup xs) → OLs cl N B Hs H k ds xs As → ORep cl N B Hs H (.lls n k) (.tup ds) (.ref a) (a :: As)
  | llV {k : Kd} {d : D} {v : V} : d.bare = true → Rep cl Hs d v → ORep cl N B Hs H (.lls none k) d v []
inductive OFs (cl : Cl) (N : Addr → Prop) (B Hs H : Hp) : List (Str × Kd) → List (Str × D) → List (Str × V) → List Addr → Prop
  | nil : OFs cl N B Hs H [] [] [] []
  | cons {f : Str} {k : Kd} {d : D} {v : V} {A As : List Addr} {ks : List (Str × Kd)} {ds : List (Str × D)} {xs : List (Str × V)} :
      ORep cl N B Hs H k d v A → OFs cl N B Hs H ks ds xs As → OFs cl N B Hs H ((f, k) :: ks) ((f, d) :: ds) ((f, v) :: xs) (A ++ As)
/-- a list's items, each of kind k -/
inductive OLs (cl : Cl) (N : Addr → Prop) (B Hs H : Hp) : Kd → List D → List V → List Addr → Prop
  | nil {k : Kd} : OLs cl N B Hs H k [] [] []
  | cons {k : Kd} {d : D} {v : V} {A As : List Addr} {ds : List D} {xs : List V} : ORep cl N B Hs H k d v A → OLs cl N B Hs H k ds xs As → OLs cl N B Hs H k (d :: ds) (v :: xs) (A ++ As)
end

section
variable {cl : Cl} {N N' : Addr → Prop} {B B' Hs Hs' H H' : Hp}
theorem OLs.imp {k : Kd} (T : List Addr → Prop) (t1 : ∀ A As, T (A ++ As) → T A) (t2 : ∀ A As, T (A ++ As) → T As) (f : ∀ d v A, T A → ORep cl N B Hs H k d v A → ORep cl N' B' Hs' H' k d v A) : ∀ {ds : List D} {xs : List V} {As : List Addr}, T As → OLs cl N B Hs H k ds xs As → OLs cl N' B' Hs' H' k ds xs As
  | [], _, _, _, h => by cases h; exact .nil
  | d :: ds, _, _, t, h => by
    cases h with
    | cons h1 h2 => exact .cons (f _ _ _ (t1 _ _ t) h1) (OLs.imp T t1 t2 f (t2 _ _ t) h2)
theorem OLs.all {k : Kd} {P : Addr → Prop} (f : ∀ d v A, ORep cl N B Hs H k d v A → ∀ a ∈ A, P a) : ∀ {ds : List D} {xs : List V} {As : List Addr}, OLs cl N B Hs H k ds xs As → ∀ a ∈ As, P a
  | [], _, _, h => by cases h; intro a z; cases z
  | d :: ds, _, _, h => by
    cases h with
    | cons h1 h2 =>
      intro a z
      rcases List.mem_append.mp z with z | z
      · exact f _ _ _ h1 a z
      · exact OLs.all f h2 a z
theorem OLs.length {k : Kd} : ∀ {ds : List D} {xs : List V} {As : List Addr}, OLs cl N B Hs H k ds xs As → xs.length = ds.length
  | [], _, _, h => by cases h; rfl
  | d :: ds, _, _, h => by
    cases h with
    | cons h1 h2 => rw [List.length_cons, List.length_cons, OLs.length h2]
mutual
theorem ORep.mono (e : Same Hs Hs') (b : Same B B') (nn : ∀ a, N a → N' a) : ∀ (k : Kd) (d : D) (v : V) (A : List Addr), (∀ a ∈ A, H' a = H a) → ORep cl N B Hs H k d v A → ORep cl N' B' Hs' H' k d v A
  | .val, d, v, _, _, h => by
    cases h with
    | val h1 => exact .val (Rep.same e _ _ h1)
  | .bor, d, v, _, _, h => by
    cases h with
    | borV h1 => exact .borV (Rep.same e _ _ h1)
    | borL h1 h2 => exact .borL (b.at _ _ h1) (RepL.same e _ _ h2)
    | borK h1 h2 => exact .borK (b.rd h1) (RepK.same e _ _ h2)
    | borO h0 h1 h2 => exact .borO h0 (b.at _ _ h1) (RBF.same e b h2)
  | .own n, d, v, _, k, h => by
    cases h with
    | ownL h0 h1 h2 => exact .ownL ⟨nn _ h0.1, h0.2⟩ ((k _ List.mem_cons_self).trans h1) (RepL.same e _ _ h2)
    | ownK h0 h1 h2 => exact .ownK ⟨nn _ h0.1, h0.2⟩ ((k _ List.mem_cons_self).trans h1) (RepK.same e _ _ h2)
    | ownV h0 h1 => exact .ownV h0 (Rep.same e _ _ h1)
  | .obj n ks, d, v, _, k, h => by
    cases h with
    | obj h0 h1 h2 h3 => exact .obj ⟨nn _ h0.1, h0.2⟩ h1 ((k _ List.mem_cons_self).trans h2) (OFs.mono e b nn ks _ _ _ (fun a ha => k a (List.mem_cons_of_mem _ ha)) h3)
  | .adr a, d, v, _, _, h => by
    cases h with
    | adr => exact .adr
  | .lls n kd, d, v, _, k, h => by
    cases h with
    | lls h0 h1 h2 => exact .lls ⟨nn _ h0.1, h0.2⟩ ((k _ List.mem_cons_self).trans h1) (OLs.imp (fun A => ∀ a ∈ A, H' a = H a) (fun _ _ t a ha => t a (List.mem_append_left _ ha)) (fun _ _ t a ha => t a (List.mem_append_right _ ha)) (fun d v A t o => ORep.mono e b nn kd d v A t o) (fun a ha => k a (List.mem_cons_of_mem _ ha)) h2)
    | llT h0 h1 h2 => exact .llT ⟨nn _ h0.1, h0.2⟩ ((k _ List.mem_cons_self).trans h1) (OLs.imp (fun A => ∀ a ∈ A, H' a = H a) (fun _ _ t a ha => t a (List.mem_append_left _ ha)) (fun _ _ t a ha => t a (List.mem_append_right _ ha)) (fun d v A t o => ORep.mono e b nn kd d v A t o) (fun a ha => k a (List.mem_cons_of_mem _ ha)) h2)
    | llV h0 h1 => exact .llV h0 (Rep.same e _ _ h1)
theorem OFs.mono (e : Same Hs Hs') (b : Same B B') (nn : ∀ a, N a → N' a) : ∀ (ks : List (Str × Kd)) (ds : List (Str × D)) (xs : List (Str × V)) (A : List Addr), (∀ a ∈ A, H' a = H a) → OFs cl N B Hs H ks ds xs A → OFs cl N' B' Hs' H' ks ds xs A
  | [], _, _, _, _, h => by cases h; exact .nil
  | (f, kd) :: ks, _, _, _, k, h => by
    cases h with
    | cons h1 h2 => exact .cons (ORep.mono e b nn kd _ _ _ (fun a ha => k a (List.mem_append_left _ ha)) h1) (OFs.mono e b nn ks _ _ _ (fun a ha => k a (List.mem_append_right _ ha)) h2)
end
end
end VL

namespace VL
open PySem PySem.Spec PyProof.Rows L2

/-- an exception: its class's name, its field -/
structure Exc where
  cls : Str
  at_ : Option D
inductive R (α : Type) where
  | stuck
  | exc (x : Exc)
  | ok (a : α)
@[reducible] def R.bind {α β : Type} (r : R α) (k : α → R β) : R β := match r with
  | .stuck => .stuck
  | .exc x => .exc x
  | .ok a => k a
instance : Monad R where
  pure := R.ok
  bind := R.bind
@[simp] theorem R.ok_bind {α β : Type} (a : α) (k : α → R β) : (R.ok a >>= k) = k a := rfl
@[simp] theorem R.stuck_bind {α β : Type} (k : α → R β) : ((R.stuck : R α) >>= k) = .stuck := rfl
@[simp] theorem R.exc_bind {α β : Type} (x : Exc) (k : α → R β) : ((R.exc x : R α) >>= k) = .exc x := rfl
@[simp] theorem R.pure_eq {α : Type} (a : α) : (pure a : R α) = .ok a := rfl
abbrev Sl := List (Option D)
/-- a statement's end -/
inductive O where
  | stuck
  | nx (r : Sl)
  | rt (d : D) (r : Sl)
  | exc (x : Exc) (r : Sl)

structure Grow (Hs H Hs' H' : Hp) : Prop where
  s : Same Hs Hs'
  h : Same H H'
  n : ∀ a, Hs' a ≠ none → Hs a ≠ none ∨ H a = none
  sub : Same Hs' H'
  t : ∀ P, LamX.TabS H P lamQ → LamX.TabS H' P lamQ
theorem Grow.refl {Hs H : Hp} (e : Same Hs H) : Grow Hs H Hs H := ⟨Same.refl _, Same.refl _, fun _ z => .inl z, e, fun _ z => z⟩
theorem tab_upd {H : Hp} {p : Addr} {o : HO} (hp : H p = none) (P : Addr) (z : LamX.TabS H P lamQ) : LamX.TabS (upd H p o) P lamQ := z.ext fun b u q => by
  rw [upd_ne (ne_of_none q hp)]
  exact q
theorem Grow.trans {Hs H H1s H1 H2s H2 : Hp} (a : Grow Hs H H1s H1) (b : Grow H1s H1 H2s H2) : Grow Hs H H2s H2 where
  s := a.s.trans b.s
  h := a.h.trans b.h
  n := fun c z => by
    rcases b.n c z with q | q
    · exact a.n c q
    · exact .inr (a.h.free q)
  sub := b.sub
  t := fun P z => b.t P (a.t P z)
theorem Same.updNew {H : Hp} {p : Addr} {o : HO} (hp : H p = none) : Same H (upd H p o) := ⟨fun b u q _ => by
  rw [upd_ne (ne_of_none q hp)]
  exact q⟩
theorem Same.updBoth {Hs H : Hp} (e : Same Hs H) {p : Addr} {o : HO} : Same (upd Hs p o) (upd H p o) := ⟨fun b u q nt => by
  by_cases h : b = p
  · rw [h, upd_same] at q
    rw [h, upd_same]
    exact q
  · rw [upd_ne h] at q nt
    rw [upd_ne h]
    exact e.k _ _ q nt⟩
theorem tab_mut {H : Hp} {D : Addr} {o o' : HO} (hD : H D = some o) (P : Addr) (z : LamX.TabS H P lamQ) (n1 : NT o := by intro _ z; cases z) (n2 : ∀ c q, o ≠ LamX.CodeO c q := by intro _ _ z; unfold LamX.CodeO at z; cases z) : LamX.TabS (upd H D o') P lamQ := by
  obtain ⟨ps, h1, h2, h3⟩ := z
  have e : ∀ b u, H b = some u → u ≠ o → upd H D o' b = some u := fun b u q n => by
    rw [upd_ne fun w => n (by rw [w, hD] at q; exact (Option.some.inj q).symm)]
    exact q
  refine ⟨ps, e _ _ h1 fun w => n1 ps w.symm, h2, fun pos cv hc => ?_⟩
  obtain ⟨c, e1, e2⟩ := h3 pos cv hc
  exact ⟨c, e1, e _ _ e2 fun w => n2 c lamQ w.symm⟩
/-- a new stable object -/
theorem Grow.new {Hs H : Hp} (e : Same Hs H) {p : Addr} {o : HO} (hp : H p = none) : Grow Hs H (upd Hs p o) (upd H p o) where
  s := Same.updNew (e.free hp)
  h := Same.updNew hp
  n := fun a z => by
    by_cases h : a = p
    · exact .inr (h ▸ hp)
    · rw [upd_ne h] at z
      exact .inl z
  sub := Same.updBoth e
  t := tab_upd hp
/-- a new object that may yet be changed -/
theorem Grow.fresh {Hs H : Hp} (e : Same Hs H) {p : Addr} {o : HO} (hp : H p = none) : Grow Hs H Hs (upd H p o) where
  s := Same.refl _
  h := Same.updNew hp
  n := fun a z => .inl z
  sub := e.trans (Same.updNew hp)
  t := tab_upd hp
theorem Grow.same {Hs H H' : Hp} (e : Same Hs H) (k : Same H H') (tt : ∀ P, LamX.TabS H P lamQ → LamX.TabS H' P lamQ) : Grow Hs H Hs H' where
  s := Same.refl _
  h := k
  n := fun _ z => .inl z
  sub := e.trans k
  t := tt

/-- the entry of a def: the classes, the heap, what stays as it is, what may be read -/
structure En where
  cl : Cl
  h : Hp
  s : Hp
  b : Hp
def En.N (E : En) (a : Addr) : Prop := E.h a = none
inductive Slots (E : En) (Hs H : Hp) : List Kd → Sl → L2.St → List Addr → Prop
  | nil : Slots E Hs H [] [] [] []
  | skip {k : Kd} {x : Option V} {ks : List Kd} {r : Sl} {t : L2.St} {As : List Addr} : Slots E Hs H ks r t As → Slots E Hs H (k :: ks) (none :: r) (x :: t) As
  | cons {k : Kd} {d : D} {v : V} {A : List Addr} {ks : List Kd} {r : Sl} {t : L2.St} {As : List Addr} : ORep E.cl E.N E.b Hs H k d v A → Slots E Hs H ks r t As → Slots E Hs H (k :: ks) (some d :: r) (some v :: t) (A ++ As)
structure StOk (E : En) (Hs H : Hp) (ks : List Kd) (r : Sl) (t : L2.St) (As : List Addr) : Prop where
  sl : Slots E Hs H ks r t As
  nd : As.Nodup
  dis : ∀ a ∈ As, Hs a = none ∧ E.b a = none
  es : Same E.s Hs
  sub : Same Hs H
  eb : Same E.b H
  new : ∀ a, Hs a ≠ none → E.s a ≠ none ∨ E.h a = none
  dom : ∀ a, H a = none → E.h a = none
  tb : ∀ P, LamX.TabS E.h P lamQ → LamX.TabS H P lamQ
def StRel (E : En) (Hs H : Hp) (ks : List Kd) (r : Sl) (t : L2.St) : Prop := ∃ As, StOk E Hs H ks r t As

section
variable {E : En} {Hs H Hs' H' : Hp} {ks : List Kd} {r : Sl} {t : L2.St} {As : List Addr}
theorem Slots.mono (e : Same Hs Hs') : ∀ {ks : List Kd} {r : Sl} {t : L2.St} {As : List Addr}, (∀ a ∈ As, H' a = H a) → Slots E Hs H ks r t As → Slots E Hs' H' ks r t As
  | _, _, _, _, _, .nil => .nil
  | _, _, _, _, k, .skip h => .skip (Slots.mono e k h)
  | _, _, _, _, k, .cons h1 h2 => .cons (ORep.mono e (Same.refl _) (fun _ z => z) _ _ _ _ (fun a ha => k a (List.mem_append_left _ ha)) h1) (Slots.mono e (fun a ha => k a (List.mem_append_right _ ha)) h2)
mutual
theorem ORep.here {cl : Cl} {N : Addr → Prop} {B Hs H : Hp} : ∀ (k : Kd) (d : D) (v : V) (A : List Addr), ORep cl N B Hs H k d v A → ∀ a ∈ A, ∃ o, H a = some o ∧ NT o
  | .val, _, _, _, h => by cases h; intro a z; cases z
  | .bor, _, _, _, h => by cases h <;> (intro a z; cases z)
  | .own n, _, _, _, h => by
    cases h with
    | ownL _ h1 _ => intro a z; simp at z; subst z; exact ⟨_, h1, by intro _ z; cases z⟩
    | ownK _ h1 _ => intro a z; simp at z; subst z; exact ⟨_, h1, by intro _ z; cases z⟩
    | ownV _ _ => intro a z; cases z
  | .obj n ks, _, _, _, h => by
    cases h with
    | obj _ _ h2 h3 =>
      intro a z
      rcases List.mem_cons.mp z with e | z
      · rw [e]; exact ⟨_, h2, by intro _ z; cases z⟩
      · exact OFs.here ks _ _ _ h3 a z
  | .adr _, _, _, _, h => by cases h; intro a z; cases z
  | .lls n k, _, _, _, h => by
    cases h with
    | lls _ h1 h2 =>
      intro a z
      rcases List.mem_cons.mp z with e | z
      · rw [e]; exact ⟨_, h1, by intro _ z; cases z⟩
      · exact OLs.all (fun d v A o => ORep.here k d v A o) h2 a z
    | llT _ h1 h2 =>
      intro a z
      rcases List.mem_cons.mp z with e | z
      · rw [e]; exact ⟨_, h1, by intro _ z; cases z⟩
      · exact OLs.all (fun d v A o => ORep.here k d v A o) h2 a z
    | llV _ _ => intro a z; cases z
theorem OFs.here {cl : Cl} {N : Addr → Prop} {B Hs H : Hp} : ∀ (ks : List (Str × Kd)) (ds : List (Str × D)) (xs : List (Str × V)) (A : List Addr), OFs cl N B Hs H ks ds xs A → ∀ a ∈ A, ∃ o, H a = some o ∧ NT o
  | [], _, _, _, h => by cases h; intro a z; cases z
  | (f, k) :: ks, _, _, _, h => by
    cases h with
    | cons h1 h2 =>
      intro a z
      rcases List.mem_append.mp z with z | z
      · exact ORep.here k _ _ _ h1 a z
      · exact OFs.here ks _ _ _ h2 a z
end
theorem Slots.here : ∀ {ks : List Kd} {r : Sl} {t : L2.St} {As : List Addr}, Slots E Hs H ks r t As → ∀ a ∈ As, ∃ o, H a = some o ∧ NT o
  | _, _, _, _, .nil, a, z => by cases z
  | _, _, _, _, .skip h, a, z => Slots.here h a z
  | _, _, _, _, .cons h1 h2, a, z => by
    rcases List.mem_append.mp z with z | z
    · exact ORep.here _ _ _ _ h1 a z
    · exact Slots.here h2 a z
theorem Slots.len : ∀ {ks : List Kd} {r : Sl} {t : L2.St} {As : List Addr}, Slots E Hs H ks r t As → r.length = ks.length ∧ t.length = ks.length
  | _, _, _, _, .nil => ⟨rfl, rfl⟩
  | _, _, _, _, .skip h => by simp [Slots.len h]
  | _, _, _, _, .cons _ h => by simp [Slots.len h]
theorem StOk.grow (S : StOk E Hs H ks r t As) (g : Grow Hs H Hs' H') : StOk E Hs' H' ks r t As := by
  have hh := S.sl.here
  refine ⟨S.sl.mono g.s fun a ha => ?_, S.nd, fun a ha => ⟨?_, (S.dis a ha).2⟩, S.es.trans g.s, g.sub, S.eb.trans g.h, fun a z => ?_, fun a z => S.dom a (g.h.free z), fun P z => g.t P (S.tb P z)⟩
  · obtain ⟨o, e, nt⟩ := hh a ha
    rw [e]
    exact g.h.at _ _ e nt
  · cases q : Hs' a with
    | none => rfl
    | some u =>
      rcases g.n a (by rw [q]; simp) with z | z
      · exact absurd (S.dis a ha).1 z
      · obtain ⟨o, e, _⟩ := hh a ha
        rw [e] at z
        cases z
  · rcases g.n a z with q | q
    · exact S.new a q
    · exact .inr (S.dom a q)
theorem StRel.grow (S : StRel E Hs H ks r t) (g : Grow Hs H Hs' H') : StRel E Hs' H' ks r t := let ⟨As, q⟩ := S; ⟨As, q.grow g⟩
theorem StRel.sub (S : StRel E Hs H ks r t) : Same Hs H := let ⟨_, q⟩ := S; q.sub
/-- the place i of the state -/
theorem Slots.at_ : ∀ {ks : List Kd} {r : Sl} {t : L2.St} {As : List Addr} (i : Nat) {k : Kd}, Slots E Hs H ks r t As → ks[i]? = some k →
    ∃ (pre A post : List Addr), As = pre ++ (A ++ post) ∧ (∀ d, r[i]? = some (some d) → ∃ v, t[i]? = some (some v) ∧ ORep E.cl E.N E.b Hs H k d v A) ∧
      (∀ k' d v A', ORep E.cl E.N E.b Hs H k' d v A' → Slots E Hs H (ks.set i k') (r.set i (some d)) (t.set i (some v)) (pre ++ (A' ++ post))) ∧
      (∀ k' x, Slots E Hs H (ks.set i k') (r.set i none) (t.set i x) (pre ++ post)) ∧
      (∀ Hs' H', Same Hs Hs' → (∀ a ∈ pre ++ post, H' a = H a) → ∀ k' d v A', ORep E.cl E.N E.b Hs' H' k' d v A' → Slots E Hs' H' (ks.set i k') (r.set i (some d)) (t.set i (some v)) (pre ++ (A' ++ post)))
  | _, _, _, _, i, k, .nil, e => by simp at e
  | _, _, _, _, 0, k, .skip (k := k0) (r := r) (t := t) (As := As) h, e => by
    refine ⟨[], [], As, rfl, fun d z => ?_, fun k' d v A' o => .cons (A := A') (As := As) o h, fun k' x => .skip h, fun Hs' H' s q k' d v A' o => .cons (A := A') (As := As) o (h.mono s q)⟩
    have z' : (some none : Option (Option D)) = some (some d) := z
    cases z'
  | _, _, _, _, 0, k, .cons (k := k0) (d := d0) (v := v0) (A := A0) (As := As) o h, e => by
    have e' : k0 = k := by simpa using e
    subst e'
    refine ⟨[], A0, As, rfl, fun d z => ?_, fun k' d v A' o' => .cons (A := A') (As := As) o' h, fun k' x => .skip h, fun Hs' H' s q k' d v A' o => .cons (A := A') (As := As) o (h.mono s q)⟩
    have z' : (some (some d0) : Option (Option D)) = some (some d) := z
    cases z'
    exact ⟨v0, rfl, o⟩
  | _, _, _, _, i + 1, k, .skip h, e => by
    obtain ⟨pre, A, post, e1, e2, e3, e4, e5⟩ := Slots.at_ i h (by simpa using e)
    exact ⟨pre, A, post, e1, fun d z => e2 d (by simpa using z), fun k' d v A' o => .skip (e3 k' d v A' o), fun k' x => .skip (e4 k' x), fun Hs' H' s q k' d v A' o => .skip (e5 Hs' H' s q k' d v A' o)⟩
  | _, _, _, _, i + 1, k, .cons (A := A0) o h, e => by
    obtain ⟨pre, A, post, e1, e2, e3, e4, e5⟩ := Slots.at_ i h (by simpa using e)
    refine ⟨A0 ++ pre, A, post, by rw [e1, List.append_assoc], fun d z => e2 d (by simpa using z), fun k' d v A' o' => ?_, fun k' x => ?_, fun Hs' H' s q k' d v A' o' => ?_⟩
    · rw [List.append_assoc]
      exact .cons o (e3 k' d v A' o')
    · rw [List.append_assoc]
      exact .cons o (e4 k' x)
    · rw [List.append_assoc]
      exact .cons (ORep.mono s (Same.refl _) (fun _ z => z) _ _ _ _ (fun a ha => q a (List.mem_append_left _ (List.mem_append_left _ ha))) o)
        (e5 Hs' H' s (fun a ha => q a (by
          rcases List.mem_append.mp ha with z | z
          · exact List.mem_append_left _ (List.mem_append_right _ z)
          · exact List.mem_append_right _ z)) k' d v A' o')
end
end VL

namespace VL
open PySem PySem.Spec PyProof.Rows L2

class Md where
  n : Bool
@[reducible] def mZ : Md := ⟨false⟩
namespace ModeZ
scoped instance mZi : Md := mZ
end ModeZ
variable {md : Md}
def Takes [md : Md] (X : Cx) (W : WX) : Prop := match md.n with
  | true => L2N.Takes X W
  | false => L2.Takes X W
def CXM [md : Md] (P : Program) (w : World) : CXT := match md.n with
  | true => L2N.CX P w
  | false => L2.CX P w
theorem passAt {X : Cx} {W : WX} (tk : Takes X W) (σ : L2.St) : PassesAt (CXM X.prog X.w) X σ (WE W σ) := by
  cases md with
  | mk n => cases n with
    | false => exact L2.passAt tk σ
    | true => exact L2N.passAt tk σ
theorem takes_of {X : Cx} {E : XK} (hs : X.stack = X.env :: X.outer) (hf : X.env.frame = some X.env.locals) (hex : X.ex = []) {E₁ : Value → Shared → Prop}
    (hx : X.xe = fun e s' => wpAny (model X.prog X.w) X.A (leaving X.env e) (fun _ s'' => CXM X.prog X.w X.outer X.H_0 X.s_0 E e s'') E₁ s') : Takes X (fun cls d _ H => E cls d H) := by
  cases md with
  | mk n => cases n with
    | false => exact L2.takes_of hs hf hex hx
    | true => exact L2N.takes_of hs hf hex hx
theorem takesF {X : Cx} : Takes X (fun _ _ _ _ => False) := by
  obtain ⟨n⟩ := md
  cases n
  · intro _ _ x
    obtain ⟨_, _, _, _, _, _, _, _, _, _, _, _, _, _, _, _, z⟩ := x
    exact z.elim
  · intro _ _ x
    obtain ⟨_, _, _, _, _, _, _, _, _, _, _, _, _, _, _, _, z⟩ := x
    exact z.elim
def WEx (X : Cx) (e : Expr) : TE := fun σ H Q => ∀ (pins : List (Addr × Obj)) (s : Shared), Inv X pins σ H s → wpAny (model X.prog X.w) X.A (eval e X.env) (EP X pins σ Q) X.xe s
theorem pe_we {X : Cx} {e : Expr} : PE X e (WEx X e) := ⟨fun pins s _ _ _ I h => h pins s I⟩
theorem we_of {X : Cx} {e : Expr} {t : TE} {σ : L2.St} {H : Hp} {Q : VK} (p : PE X e t) (h : t σ H Q) : WEx X e σ H Q := fun pins s I => p.run pins s σ H Q I h
def WTx (X : Cx) (e : Expr) : TT := fun σ H Q => ∀ (pins : List (Addr × Obj)) (s : Shared), Inv X pins σ H s → wpAny (model X.prog X.w) X.A (isTrue e X.env (eval e X.env)) (TP X pins σ Q) X.xe s
theorem pt_wt {X : Cx} {e : Expr} : PT X e (WTx X e) := ⟨fun pins s _ _ _ I h => h pins s I⟩
theorem wt_of {X : Cx} {e : Expr} {t : TT} {σ : L2.St} {H : Hp} {Q : Bool → Hp → Prop} (p : PT X e t) (h : t σ H Q) : WTx X e σ H Q := fun pins s I => p.run pins s σ H Q I h
def WAx (X : Cx) (es : List Expr) : TA := fun σ H Q => ∀ (pos : Pos) (pins : List (Addr × Obj)) (s : Shared), Inv X pins σ H s → wpAny (model X.prog X.w) X.A (spliced (backTo pos (starEach es X.env))) (AP X pins σ Q) X.xe s
theorem pa_wa {X : Cx} {es : List Expr} : PA X es (WAx X es) := ⟨fun pos pins s _ _ _ I h => h pos pins s I⟩
theorem wa_of {X : Cx} {es : List Expr} {t : TA} {σ : L2.St} {H : Hp} {Q : List V → Hp → Prop} (p : PA X es t) (h : t σ H Q) : WAx X es σ H Q := fun pos pins s I => p.run pos pins s σ H Q I h
def WSx (X : Cx) (st : Stmt) : TS := fun Dn σ H => ∀ (pins : List (Addr × Obj)) (s : Shared), Inv X pins σ H s → wpAny (model X.prog X.w) X.A (exec st X.env) (SP X pins Dn) X.xe s
theorem ps_ws {X : Cx} {st : Stmt} : PS X st (WSx X st) := ⟨fun pins s _ _ _ I h => h pins s I⟩
theorem ws_of {X : Cx} {st : Stmt} {t : TS} {σ : L2.St} {H : Hp} {Dn : Ends} (p : PS X st t) (h : t Dn σ H) : WSx X st Dn σ H := fun pins s I => p.run pins s σ H Dn I h
def WSs (X : Cx) (st : List Stmt) : TS := fun Dn σ H => ∀ (pins : List (Addr × Obj)) (s : Shared), Inv X pins σ H s → wpAny (model X.prog X.w) X.A (execs st X.env) (SP X pins Dn) X.xe s
theorem pss_ws {X : Cx} {st : List Stmt} : PSs X st (WSs X st) := ⟨fun pins s _ _ _ I h => h pins s I⟩
theorem wss_of {X : Cx} {st : List Stmt} {t : TS} {σ : L2.St} {H : Hp} {Dn : Ends} (p : PSs X st t) (h : t Dn σ H) : WSs X st Dn σ H := fun pins s I => p.run pins s σ H Dn I h

/-- d lies at v behind a step from the heap H0 -/
def RK (cl : Cl) (k : Kd) (H0 Hs H : Hp) (d : D) (v : V) : Prop :=
  ∃ A, ORep cl (fun a => H0 a = none) H Hs H k d v A ∧ A.Nodup ∧ ∀ a ∈ A, Hs a = none ∧ H0 a = none
def XRep (cl : Cl) (Hs H : Hp) (x : Exc) (c : Value) (dd : Option Addr) : Prop :=
  ∃ a, cl.f x.cls = some a ∧ c = .ref a ∧ match x.at_ with
    | none => dd = none
    | some d => ∃ p v, dd = some p ∧ Hs p = some (.xd [("at", v)]) ∧ Rep cl Hs d v
abbrev WX0 := Value → Option Addr → Hp → Prop
def Post (cl : Cl) (k : Kd) (Hs H : Hp) (Q : VK) (W : WX0) : R D → Prop
  | .stuck => False
  | .exc x => ∀ c dd Hs' H', Grow Hs H Hs' H' → XRep cl Hs' H' x c dd → W c dd H'
  | .ok d => ∀ v Hs' H', Grow Hs H Hs' H' → RK cl k H Hs' H' d v → Q v H'
section
variable {cl : Cl} {k k1 k2 : Kd} {Hs H Hs' H' : Hp} {Q Q1 : VK} {W : WX0}
theorem Post.grow {r : R D} (P : Post cl k Hs H Q W r) (g : Grow Hs H Hs' H') : Post cl k Hs' H' Q W r := by
  cases r with
  | stuck => exact P
  | exc x => exact fun c dd Hs2 H2 g2 x2 => P c dd Hs2 H2 (g.trans g2) x2
  | ok d =>
    intro v Hs2 H2 g2 ⟨A, o, nd, z⟩
    exact P v Hs2 H2 (g.trans g2) ⟨A, ORep.mono (Same.refl _) (Same.refl _) (fun a q => g.h.free q) _ _ _ _ (fun _ _ => rfl) o, nd, fun a ha => ⟨(z a ha).1, g.h.free (z a ha).2⟩⟩
theorem Post.imp {r : R D} {F : D → R D} (P : Post cl k2 Hs H Q W (r >>= F))
    (h : ∀ d v Hs' H', r = .ok d → Grow Hs H Hs' H' → RK cl k1 H Hs' H' d v → Post cl k2 Hs' H' Q W (F d) → Q1 v H') : Post cl k1 Hs H Q1 W r := by
  cases r with
  | stuck => exact P
  | exc x => exact P
  | ok d => exact fun v Hs' H' g rk => h d v Hs' H' rfl g rk (Post.grow (r := F d) P g)
/-- what was owned may be frozen -/
def Kd.fine : Kd → Bool
  | .bor => false
  | .adr _ => false
  | .obj _ ks => fines ks
  | .lls _ k => Kd.fine k
  | _ => true
where
  fines : List (Str × Kd) → Bool
    | [] => true
    | (_, k) :: r => Kd.fine k && fines r
theorem OLs.reps {N : Addr → Prop} {B Hs H T : Hp} {k : Kd} (Q : List Addr → Prop) (t1 : ∀ A As, Q (A ++ As) → Q A) (t2 : ∀ A As, Q (A ++ As) → Q As) (f : ∀ d v A, Q A → ORep cl N B Hs H k d v A → Rep cl T d v) : ∀ {ds : List D} {xs : List V} {As : List Addr}, Q As → OLs cl N B Hs H k ds xs As → RepL cl T ds xs
  | [], _, _, _, h => by cases h; exact .nil
  | d :: ds, _, _, t, h => by
    cases h with
    | cons h1 h2 => exact .cons (f _ _ _ (t1 _ _ t) h1) (OLs.reps Q t1 t2 f (t2 _ _ t) h2)
mutual
theorem ORep.freeze {N : Addr → Prop} {B T : Hp} (e : Same Hs T) : ∀ (k : Kd) (d : D) (v : V) (A : List Addr), k.fine = true → (∀ a ∈ A, T a = H a) → ORep cl N B Hs H k d v A → Rep cl T d v
  | .val, _, _, _, _, _, h => by
    cases h with
    | val h1 => exact Rep.same e _ _ h1
  | .bor, _, _, _, z, _, _ => by cases z
  | .own n, _, _, _, _, t, h => by
    cases h with
    | ownL _ h1 h2 => exact .lst ((t _ List.mem_cons_self).trans h1) (RepL.same e _ _ h2)
    | ownK _ h1 h2 => exact .dct (.inl ((t _ List.mem_cons_self).trans h1)) (RepK.same e _ _ h2)
    | ownV _ h1 => exact Rep.same e _ _ h1
  | .obj n ks, _, _, _, z, t, h => by
    cases h with
    | obj _ h1 h2 h3 => exact .obj h1 ((t _ List.mem_cons_self).trans h2) (OFs.freeze e ks _ _ _ (by simpa [Kd.fine] using z) (fun a ha => t a (List.mem_cons_of_mem _ ha)) h3)
  | .adr _, _, _, _, z, _, _ => by cases z
  | .lls n k, _, _, _, z, t, h => by
    cases h with
    | lls _ h1 h2 => exact .lst ((t _ List.mem_cons_self).trans h1) (OLs.reps (fun A => ∀ a ∈ A, T a = H a) (fun _ _ t a ha => t a (List.mem_append_left _ ha)) (fun _ _ t a ha => t a (List.mem_append_right _ ha)) (fun d v A t o => ORep.freeze e k d v A z t o) (fun a ha => t a (List.mem_cons_of_mem _ ha)) h2)
    | llT _ h1 h2 => exact .tup ((t _ List.mem_cons_self).trans h1) (OLs.reps (fun A => ∀ a ∈ A, T a = H a) (fun _ _ t a ha => t a (List.mem_append_left _ ha)) (fun _ _ t a ha => t a (List.mem_append_right _ ha)) (fun d v A t o => ORep.freeze e k d v A z t o) (fun a ha => t a (List.mem_cons_of_mem _ ha)) h2)
    | llV _ h1 => exact Rep.same e _ _ h1
theorem OFs.freeze {N : Addr → Prop} {B T : Hp} (e : Same Hs T) : ∀ (ks : List (Str × Kd)) (ds : List (Str × D)) (xs : List (Str × V)) (A : List Addr), Kd.fine.fines ks = true → (∀ a ∈ A, T a = H a) → OFs cl N B Hs H ks ds xs A → RepF cl T ds xs
  | [], _, _, _, _, _, h => by cases h; exact .nil
  | (f, k) :: ks, _, _, _, z, t, h => by
    have z' : k.fine = true ∧ Kd.fine.fines ks = true := by simpa [Kd.fine.fines] using z
    cases h with
    | cons h1 h2 => exact .cons (ORep.freeze e k _ _ _ z'.1 (fun a ha => t a (List.mem_append_left _ ha)) h1) (OFs.freeze e ks _ _ _ z'.2 (fun a ha => t a (List.mem_append_right _ ha)) h2)
end
/-- the stable heap with A -/
def plus (Hs H : Hp) (A : List Addr) : Hp := fun a => if a ∈ A then H a else Hs a
theorem plus_same {A : List Addr} (z : ∀ a ∈ A, Hs a = none) : Same Hs (plus Hs H A) := ⟨fun b o q _ => by
  unfold plus
  rw [if_neg fun h => by rw [z b h] at q; cases q]
  exact q⟩
theorem plus_sub {A : List Addr} (e : Same Hs H) : Same (plus Hs H A) H := ⟨fun b o q nt => by
  unfold plus at q
  split at q
  · exact q
  · exact e.k _ _ q nt⟩
theorem RK.freeze {H0 : Hp} {d : D} {v : V} (g : Grow Hs H Hs' H') (f : k.fine = true) (h : RK cl k H Hs' H' d v) : ∃ Hs2, Grow Hs H Hs2 H' ∧ RK cl .val H Hs2 H' d v := by
  obtain ⟨A, o, nd, z⟩ := h
  have e := plus_same (H := H') fun a ha => (z a ha).1
  refine ⟨plus Hs' H' A, ⟨g.s.trans e, g.h, fun a q => ?_, plus_sub g.sub, g.t⟩, [], .val (ORep.freeze e k _ _ A f (fun a ha => by unfold plus; rw [if_pos ha]) o), List.nodup_nil, fun a ha => nomatch ha⟩
  unfold plus at q
  split at q
  · rename_i ha
    exact .inr (z a ha).2
  · exact g.n a q
theorem RK.val {H0 : Hp} {d : D} {v : V} (h : Rep cl Hs d v) : RK cl .val H0 Hs H d v := ⟨[], .val h, List.nodup_nil, fun a ha => nomatch ha⟩
theorem RK.bor {H0 : Hp} {d : D} {v : V} (h : Rep cl Hs d v) : RK cl .bor H0 Hs H d v := ⟨[], .borV h, List.nodup_nil, fun a ha => nomatch ha⟩
theorem RK.rep {H0 : Hp} {d : D} {v : V} (h : RK cl .val H0 Hs H d v) : Rep cl Hs d v := by
  obtain ⟨A, o, _⟩ := h
  cases o with
  | val r => exact r
theorem RK.rb {H0 : Hp} {d : D} {v : V} (h : RK cl .bor H0 Hs H d v) : RB cl Hs H d v := by
  obtain ⟨A, o, _⟩ := h
  cases o with
  | borV r => exact .val r
  | borL h1 h2 => exact .lst h1 h2
  | borK h1 h2 => exact .dct h1 h2
  | borO h0 h1 h2 => exact .obj h0 h1 h2
theorem RB.grow {d : D} {v : V} (h : RB cl Hs H d v) (g : Grow Hs H Hs' H') : RB cl Hs' H' d v := by
  cases h with
  | val r => exact .val (Rep.same g.s _ _ r)
  | lst h1 h2 => exact .lst (g.h.at _ _ h1) (RepL.same g.s _ _ h2)
  | dct h1 h2 => exact .dct (g.h.rd h1) (RepK.same g.s _ _ h2)
  | obj h0 h1 h2 => exact .obj h0 (g.h.at _ _ h1) (RBF.same g.s g.h h2)
theorem RB.rk {H0 : Hp} {d : D} {v : V} (h : RB cl Hs H d v) : RK cl .bor H0 Hs H d v := by
  refine ⟨[], ?_, List.nodup_nil, fun a ha => nomatch ha⟩
  cases h with
  | val r => exact .borV r
  | lst h1 h2 => exact .borL h1 h2
  | dct h1 h2 => exact .borK h1 h2
  | obj h0 h1 h2 => exact .borO h0 h1 h2
/-- a borrowed list -/
theorem RB.lstInv {ds : List D} {v : V} (h : RB cl Hs H (.lst ds) v) (e : Same Hs H) : ∃ a xs, v = .ref a ∧ H a = some (.lst xs) ∧ RepL cl Hs ds xs := by
  cases h with
  | val r =>
    cases r with
    | lst h1 h2 => exact ⟨_, _, rfl, e.at _ _ h1, h2⟩
  | lst h1 h2 => exact ⟨_, _, rfl, h1, h2⟩
theorem RB.tupInv {ds : List D} {v : V} (h : RB cl Hs H (.tup ds) v) (e : Same Hs H) : ∃ a xs, v = .ref a ∧ H a = some (.tup xs) ∧ RepL cl Hs ds xs := by
  cases h with
  | val r =>
    cases r with
    | tup h1 h2 => exact ⟨_, _, rfl, e.at _ _ h1, h2⟩
theorem RB.dctInv {ds : List (Key × D)} {v : V} (h : RB cl Hs H (.dct ds) v) (e : Same Hs H) : ∃ a xs, v = .ref a ∧ Rd H a (.dK xs) ∧ RepK cl Hs ds xs := by
  cases h with
  | val r =>
    cases r with
    | dct h1 h2 => exact ⟨_, _, rfl, e.rd h1, h2⟩
  | dct h1 h2 => exact ⟨_, _, rfl, h1, h2⟩
theorem RB.intInv {i : Int} {v : V} (h : RB cl Hs H (.int i) v) : v = .int i := by
  cases h with
  | val r => cases r; rfl
theorem RB.blInv {i : Bool} {v : V} (h : RB cl Hs H (.bl i) v) : v = .bl i := by
  cases h with
  | val r => cases r; rfl
theorem RB.strInv {i : Str} {v : V} (h : RB cl Hs H (.str i) v) : v = .str i := by
  cases h with
  | val r => cases r; rfl
theorem RB.nonInv {v : V} (h : RB cl Hs H .non v) : v = .non := by
  cases h with
  | val r => cases r; rfl
/-- a new list, not yet stable -/
theorem RK.ownNew {ds : List D} {xs : List V} {p : Addr} (e : Same Hs H) (hp : H p = none) (r : RepL cl Hs ds xs) : RK cl (.own none) H Hs (upd H p (.lst xs)) (.lst ds) (.ref p) :=
  ⟨[p], .ownL ⟨hp, fun _ z => nomatch z⟩ upd_same r, by simp, fun a ha => by
    have q : a = p := by simpa using ha
    subst q
    exact ⟨e.free hp, hp⟩⟩
theorem RK.ownPlain {H0 : Hp} {d : D} {v : V} (p : d.plain = true) (r : Rep cl Hs d v) : RK cl (.own none) H0 Hs H d v := ⟨[], .ownV p r, List.nodup_nil, fun a ha => nomatch ha⟩
/-- the end of a value that is plain -/
theorem Post.fin {d : D} {v : V} (P : Post cl (.own none) Hs H Q W (.ok d)) (e : Same Hs H) (p : d.plain = true) (r : Rep cl Hs d v) : Q v H := P v Hs H (Grow.refl e) (RK.ownPlain p r)
theorem Post.finV {d : D} {v : V} (P : Post cl .val Hs H Q W (.ok d)) (e : Same Hs H) (r : Rep cl Hs d v) : Q v H := P v Hs H (Grow.refl e) (RK.val r)
theorem Post.finL {ds : List D} {xs : List V} {p : Addr} (P : Post cl (.own none) Hs H Q W (.ok (.lst ds))) (e : Same Hs H) (hp : H p = none) (r : RepL cl Hs ds xs) : Q (.ref p) (upd H p (.lst xs)) :=
  P _ Hs _ (Grow.fresh e hp) (RK.ownNew e hp r)
end

structure SE [md : Md] (X : Cx) (E : En) (ks : List Kd) (k : Kd) (e : Expr) (g : Sl → R D) : Prop where
  run : ∀ (Hs H : Hp) (r : Sl) (σ : L2.St) (W : WX) (Q : VK), Takes X W → StRel E Hs H ks r σ → Post E.cl k Hs H Q (fun c dd H' => W c dd σ H') (g r) → WEx X e σ H Q
section
variable {X : Cx} {E : En} {ks : List Kd} {e : Expr} {g : Sl → R D}
theorem SE.toVal {k : Kd} (h : SE X E ks k e g) (f : k.fine = true := by rfl) : SE X E ks .val e g := by
  refine ⟨fun Hs H r σ W Q tk S P => ?_⟩
  refine h.run Hs H r σ W Q tk S ?_
  cases q : g r with
  | stuck => rw [q] at P; exact P
  | exc x => rw [q] at P; exact P
  | ok d =>
    rw [q] at P
    intro v Hs' H' gr rk
    obtain ⟨Hs2, g2, rk2⟩ := rk.freeze (H0 := H) gr f
    exact P v Hs2 H' g2 rk2
theorem SE.valBor (h : SE X E ks .val e g) : SE X E ks .bor e g := by
  refine ⟨fun Hs H r σ W Q tk S P => ?_⟩
  refine h.run Hs H r σ W Q tk S ?_
  cases q : g r with
  | stuck => rw [q] at P; exact P
  | exc x => rw [q] at P; exact P
  | ok d =>
    rw [q] at P
    intro v Hs' H' gr rk
    exact P v Hs' H' gr (RK.bor rk.rep)
theorem SE.toBor {k : Kd} (h : SE X E ks k e g) (f : k.fine = true := by rfl) : SE X E ks .bor e g := (h.toVal f).valBor
end
end VL

noncomputable section
namespace VL
open PySem PySem.Spec PyProof.Rows L2
variable {md : Md}

def NmOk (x : Str) : Prop := (x == ("__debug__" : Str)) = false ∧ (x == ("__classdict__" : Str)) = false
@[simp] def gVar (i : Nat) : Sl → R D := fun r => match r[i]? with
  | some (some d) => .ok d
  | _ => .stuck
@[simp] def gC (d : D) : Sl → R D := fun _ => .ok d
/-- a kind that may be borrowed -/
def Kd.lends : Kd → Bool
  | .obj _ ks => lendf ks
  | .adr _ => false
  | .lls _ _ => false
  | _ => true
where
  lendf : List (Str × Kd) → Bool
    | [] => true
    | (_, k) :: r => Kd.lends k && lendf r
section
variable {cl : Cl} {N : Addr → Prop} {B Hs H : Hp}
mutual
theorem ORep.rb (eb : Same B H) : ∀ (k : Kd) (d : D) (v : V) (A : List Addr), k.lends = true → ORep cl N B Hs H k d v A → RB cl Hs H d v
  | .val, _, _, _, _, h => by cases h with | val rp => exact .val rp
  | .bor, _, _, _, _, h => by
    cases h with
    | borV rp => exact .val rp
    | borL h1 h2 => exact .lst (eb.at _ _ h1) h2
    | borK h1 h2 => exact .dct (eb.rd h1) h2
    | borO h0 h1 h2 => exact .obj h0 (eb.at _ _ h1) (RBF.same (Same.refl _) eb h2)
  | .own n, _, _, _, _, h => by
    cases h with
    | ownL h0 h1 h2 => exact .lst h1 h2
    | ownK h0 h1 h2 => exact .dct (.inl h1) h2
    | ownV h0 h1 => exact .val h1
  | .obj n ks, _, _, _, l, h => by
    cases h with
    | obj h0 h1 h2 h3 => exact .obj h1 h2 (OFs.rb eb ks _ _ _ (by simpa [Kd.lends] using l) h3)
  | .adr a, _, _, _, l, _ => by cases l
  | .lls n k, _, _, _, l, _ => by cases l
theorem OFs.rb (eb : Same B H) : ∀ (ks : List (Str × Kd)) (ds : List (Str × D)) (xs : List (Str × V)) (A : List Addr), Kd.lends.lendf ks = true → OFs cl N B Hs H ks ds xs A → RBF cl Hs H ds xs
  | [], _, _, _, _, h => by cases h; exact .nil
  | (f, k) :: ks, _, _, _, l, h => by
    have l' : k.lends = true ∧ Kd.lends.lendf ks = true := by simpa [Kd.lends.lendf] using l
    cases h with
    | cons h1 h2 => exact .cons (ORep.rb eb k _ _ _ l'.1 h1) (OFs.rb eb ks _ _ _ l'.2 h2)
end
end
section
variable {X : Cx} {E : En} {ks : List Kd}
theorem StRel.get {Hs H : Hp} {r : Sl} {σ : L2.St} {i : Nat} {k : Kd} {d : D} (S : StRel E Hs H ks r σ) (hk : ks[i]? = some k) (hd : r[i]? = some (some d)) : ∃ v A, σ[i]? = some (some v) ∧ ORep E.cl E.N E.b Hs H k d v A := by
  obtain ⟨As, s⟩ := S
  obtain ⟨pre, A, post, _, h, _⟩ := s.sl.at_ i hk
  obtain ⟨v, e, o⟩ := h d hd
  exact ⟨v, A, e, o⟩
theorem gVar_ok {i : Nat} {r : Sl} {d : D} (h : gVar i r = .ok d) : r[i]? = some (some d) := by
  unfold gVar at h
  split at h
  · rename_i d' e
    cases h
    exact e
  · cases h
theorem gVar_exc {i : Nat} {r : Sl} {x : Exc} (h : gVar i r = .exc x) : False := by
  unfold gVar at h
  split at h <;> cases h
theorem se_var {i : Nat} {x : Str} {pos : Pos} (hk : ks[i]? = some .val := by rfl) (hN : X.N[i]? = some x := by rfl) (hv : Vis X.env.scope x := by first | exact Or.inl rfl | exact Or.inr (Or.inl rfl) | exact Or.inr (Or.inr rfl))
    (hq : NmOk x) : SE X E ks .val (.Name x pos) (gVar i) := by
  refine ⟨fun Hs H r σ W Q tk S P => ?_⟩
  refine we_of (pe_var hN hv hq.1 hq.2) ?_
  cases q : gVar i r with
  | stuck => rw [q] at P; exact P.elim
  | exc x => exact (gVar_exc q).elim
  | ok d =>
    rw [q] at P
    obtain ⟨v, A, e, o⟩ := S.get hk (gVar_ok q)
    cases o with
    | val rp => exact ⟨v, e, P.finV S.sub rp⟩
theorem se_varB {i : Nat} {k : Kd} {x : Str} {pos : Pos} (hk : ks[i]? = some k := by rfl) (hl : k.lends = true := by rfl) (hN : X.N[i]? = some x := by rfl) (hv : Vis X.env.scope x := by first | exact Or.inl rfl | exact Or.inr (Or.inl rfl) | exact Or.inr (Or.inr rfl))
    (hq : NmOk x) : SE X E ks .bor (.Name x pos) (gVar i) := by
  refine ⟨fun Hs H r σ W Q tk S P => ?_⟩
  refine we_of (pe_var hN hv hq.1 hq.2) ?_
  cases q : gVar i r with
  | stuck => rw [q] at P; exact P.elim
  | exc x => exact (gVar_exc q).elim
  | ok d =>
    rw [q] at P
    obtain ⟨v, A, e, o⟩ := S.get hk (gVar_ok q)
    have eb : Same E.b H := let ⟨_, s⟩ := S; s.eb
    exact ⟨v, e, P v Hs H (Grow.refl S.sub) (RB.rk (ORep.rb eb k _ _ _ hl o))⟩
theorem se_int {i : Int} {j : Nat} {pos : Pos} : SE X E ks .val (.Constant (.int i) j pos) (gC (.int i)) := ⟨fun Hs H r σ W Q tk S P => we_of pe_int (P.finV S.sub (.int i))⟩
theorem se_bl {b : Bool} {j : Nat} {pos : Pos} : SE X E ks .val (.Constant (.bool b) j pos) (gC (.bl b)) := ⟨fun Hs H r σ W Q tk S P => we_of pe_bl (P.finV S.sub (.bl b))⟩
/-- a module's constant: a number, a text -/
theorem se_globI {x : Str} {i : Int} {t : Tok} {pos : Pos} (hm : X.mg x = some (.int i t)) (hq : NmOk x) (hg : Gl X x := by rfl) : SE X E ks .val (.Name x pos) (gC (.int i)) :=
  ⟨fun Hs H r σ W Q tk S P => we_of (pe_glob (v := .int i) hg hm ⟨t, rfl⟩ hq.1) (P.finV S.sub (.int i))⟩
end

def OpV (K : PySem.W.Frag) (rr : R2) (k : Kd) (f : D → D → R D) : Prop :=
  ∀ (cl : Cl) (Hs H : Hp) (d1 d2 : D) (v1 v2 : V) (Q : VK) (W : WX0), Same Hs H → RB cl Hs H d1 v1 → RB cl Hs H d2 v2 → Post cl k Hs H Q W (f d1 d2) → (∀ x, f d1 d2 ≠ .exc x) → rr v1 v2 H Q
@[simp] def gBin (f : D → D → R D) (ga gb : Sl → R D) : Sl → R D := fun r => do
  let a ← ga r
  let b ← gb r
  f a b
def NoX (f : D → D → R D) : Prop := ∀ a b x, f a b ≠ .exc x
section
variable {X : Cx} {E : En} {ks : List Kd} {k : Kd} {a b : Expr} {ga gb : Sl → R D} {f : D → D → R D} {pos : Pos}
theorem bin_read {rr : R2} (hv : OpV X.K rr k f) (nx : NoX f) (ha : SE X E ks .bor a ga) (hb : SE X E ks .bor b gb) {Hs H : Hp} {r : Sl} {σ : L2.St} {W : WX} {Q : VK} (tk : Takes X W) (S : StRel E Hs H ks r σ)
    (P : Post E.cl k Hs H Q (fun c dd H' => W c dd σ H') (gBin f ga gb r)) : WEx X a σ H fun x H1 => WEx X b σ H1 fun y H2 => rr x y H2 Q := by
  refine ha.run _ _ _ _ _ _ tk S (P.imp fun d1 v1 Hs1 H1 e1 g1 k1 P1 => ?_)
  refine hb.run _ _ _ _ _ _ tk (S.grow g1) (P1.imp fun d2 v2 Hs2 H2 e2 g2 k2 P2 => ?_)
  exact hv _ _ _ _ _ _ _ _ _ g2.sub (k1.rb.grow g2) k2.rb P2 (nx _ _)
theorem se_bin {op : Operator} {rr : R2} (ho : OpR X (binaryOp op) rr) (hv : OpV X.K rr k f) (nx : NoX f) (ha : SE X E ks .bor a ga) (hb : SE X E ks .bor b gb) : SE X E ks k (.BinOp a op b pos) (gBin f ga gb) :=
  ⟨fun Hs H r σ W Q tk S P => we_of (pe_op ho pe_we pe_we) (bin_read hv nx ha hb tk S P)⟩
end

theorem oN_ex (n : Nat) : ∃ m : Nat, m = n := ⟨n, rfl⟩
theorem oI_ex (n : Int) : ∃ m : Int, m = n := ⟨n, rfl⟩
def szL : Nat := Classical.choose (oN_ex 16777216)
theorem szL_val : szL = 16777216 := Classical.choose_spec (oN_ex 16777216)
def i63 : Int := Classical.choose (oI_ex (2 ^ 63))
theorem i63_val : i63 = 2 ^ 63 := Classical.choose_spec (oI_ex (2 ^ 63))
def i64 : Int := Classical.choose (oI_ex (2 ^ 64))
theorem i64_val : i64 = 2 ^ 64 := Classical.choose_spec (oI_ex (2 ^ 64))
def n64 : Nat := Classical.choose (oN_ex (2 ^ 64))
theorem n64_val : n64 = 2 ^ 64 := Classical.choose_spec (oN_ex (2 ^ 64))
def n30 : Nat := Classical.choose (oN_ex 1073741824)
theorem n30_val : n30 = 1073741824 := Classical.choose_spec (oN_ex 1073741824)
def iMil : Int := Classical.choose (oI_ex 1000000)
theorem iMil_val : iMil = 1000000 := Classical.choose_spec (oI_ex 1000000)
theorem szL_eq : (sizeLine : Nat) = szL := by rw [sizeLine_eq, szL_val]
theorem le_szL {n : Nat} (h : n ≤ 16777216) : n ≤ szL := by rw [szL_val]; exact h
theorem lt_szL {n : Nat} (h : n < 16777216) : n < szL := by rw [szL_val]; exact h
@[simp] def dAdd : D → D → R D
  | .int i, .int j => .ok (.int (i + j))
  | .str x, .str y => if x.length + y.length ≤ szL then .ok (.str (x ++ y)) else .stuck
  | .lst xs, .lst ys => if xs.length + ys.length ≤ szL then .ok (.lst (xs ++ ys)) else .stuck
  | .tup xs, .tup ys => if xs ≠ [] ∧ xs.length + ys.length ≤ szL then .ok (.tup (xs ++ ys)) else .stuck
  | _, _ => .stuck

theorem RepL.nilInv {cl : Cl} {H : Hp} {ds : List D} {xs : List V} (r : RepL cl H ds xs) : xs = [] ↔ ds = [] := by
  cases r with
  | nil => simp
  | cons _ _ => simp
theorem opv_add {X : Cx} : OpV X.K (fun x y H Q => (rI0 (fun i j => .int (i + j)) x y H Q ∨ (∃ i j, x = .str i ∧ y = .str j ∧ i.length + j.length ≤ sizeLine ∧ Q (.str (i ++ j)) H)) ∨ (rCat x y H Q ∨ rCatT X.K x y H Q)) (.own none) dAdd := by
  intro cl Hs H d1 d2 v1 v2 Q W e b1 b2 P nx
  cases d1 <;> cases d2 <;> first | exact P.elim | skip
  · cases b1.intInv
    cases b2.intInv
    exact .inl (.inl ⟨_, _, rfl, rfl, P.fin e rfl (.int _)⟩)
  · cases b1.strInv
    cases b2.strInv
    dsimp only [dAdd] at P
    split at P
    · rename_i h
      exact .inl (.inr ⟨_, _, rfl, rfl, by rw [szL_eq]; exact h, P.fin e rfl (.str _)⟩)
    · exact P.elim
  · dsimp only [dAdd] at P
    split at P
    · rename_i h
      obtain ⟨a, xs, rfl, h1, r1⟩ := b1.lstInv e
      obtain ⟨b, ys, rfl, h2, r2⟩ := b2.lstInv e
      exact .inr (.inl ⟨a, b, xs, ys, rfl, rfl, h1, h2, by rw [szL_eq, r1.length, r2.length]; exact h, fun p hp => P.finL e hp (r1.app r2)⟩)
    · exact P.elim
  · dsimp only [dAdd] at P
    split at P
    · rename_i h
      obtain ⟨n1, h⟩ := h
      have b1' := b1
      obtain ⟨a, xs, rfl, h1, r1⟩ := b1.tupInv e
      obtain ⟨b, ys, rfl, h2, r2⟩ := b2.tupInv e
      refine .inr (.inr ⟨a, b, xs, ys, rfl, rfl, SqT.of h1, SqT.of h2, fun z => n1 (r1.nilInv.mp z), by rw [szL_eq, r1.length, r2.length]; exact h, fun z => ?_, fun _ p hp => ?_⟩)
      · rw [r2.nilInv.mp z, List.append_nil] at P
        cases b1' with
        | val rr => exact P.fin e rfl rr
      · exact P _ _ _ (Grow.new e hp) (RK.ownPlain rfl (.tup upd_same (RepL.same (Same.updNew (e.free hp)) _ _ (r1.app r2))))
    · exact P.elim
@[simp] def dSub : D → D → R D
  | .int i, .int j => .ok (.int (i - j))
  | _, _ => .stuck
/-- a product that the model reckons -/
def w600 : Nat := Classical.choose (oN_ex (2 ^ 2000))
theorem w600_val : w600 = 2 ^ 2000 := Classical.choose_spec (oN_ex (2 ^ 2000))
def wideOk (i j : Int) : Bool := decide (i.natAbs < w600) && decide (j.natAbs < w600)
def mulOk (i j : Int) : Bool := ((decide (-i64 < i) && decide (i < i64)) || (decide (-i64 < j) && decide (j < i64))) || wideOk i j
@[simp] def dMul : D → D → R D
  | .int i, .int j => if mulOk i j then .ok (.int (i * j)) else .stuck
  | .lst xs, .int k => if -i63 ≤ k ∧ k < i63 ∧ xs.length * k.toNat ≤ szL then .ok (.lst (List.replicate k.toNat xs).flatten) else .stuck
  | _, _ => .stuck
@[simp] def dFdiv : D → D → R D
  | .int i, .int j => if (j ≠ 0 ∧ j.natAbs < n30) ∨ (0 < j ∧ j.natAbs < w600) then .ok (.int (i.fdiv j)) else .stuck
  | _, _ => .stuck
@[simp] def dMod : D → D → R D
  | .int i, .int j => if j ≠ 0 then .ok (.int (i.fmod j)) else .stuck
  | _, _ => .stuck
def dPow : D → D → R D
  | .int i, .int j => if 0 ≤ j ∧ j ≤ iMil ∧ i.natAbs < n64 then .ok (.int (i ^ j.toNat)) else .stuck
  | _, _ => .stuck
@[simp] def dNeg : D → R D
  | .int i => .ok (.int (-i))
  | _ => .stuck
theorem opv_int2 {K : PySem.W.Frag} {f : D → D → R D} {C : Int → Int → Prop} {g : Int → Int → Int} (h : ∀ d1 d2, f d1 d2 ≠ .stuck → ∃ i j, d1 = .int i ∧ d2 = .int j ∧ C i j ∧ f d1 d2 = .ok (.int (g i j))) : OpV K (rI C fun i j => .int (g i j)) .val f := by
  intro cl Hs H d1 d2 v1 v2 Q W e b1 b2 P nx
  have ns : f d1 d2 ≠ .stuck := fun z => by rw [z] at P; exact P
  obtain ⟨i, j, rfl, rfl, c, q⟩ := h _ _ ns
  cases b1.intInv
  cases b2.intInv
  rw [q] at P
  exact ⟨i, j, rfl, rfl, c, P.finV e (.int _)⟩
theorem opv_int0 {K : PySem.W.Frag} {f : D → D → R D} {g : Int → Int → V} {gd : Int → Int → D} (h : ∀ d1 d2, f d1 d2 ≠ .stuck → ∃ i j, d1 = .int i ∧ d2 = .int j ∧ f d1 d2 = .ok (gd i j)) (hr : ∀ cl H i j, Rep cl H (gd i j) (g i j)) : OpV K (rI0 g) .val f := by
  intro cl Hs H d1 d2 v1 v2 Q W e b1 b2 P nx
  have ns : f d1 d2 ≠ .stuck := fun z => by rw [z] at P; exact P
  obtain ⟨i, j, rfl, rfl, q⟩ := h _ _ ns
  cases b1.intInv
  cases b2.intInv
  rw [q] at P
  exact ⟨i, j, rfl, rfl, P.finV e (hr _ _ _ _)⟩
theorem opv_sub {X : Cx} : OpV X.K (rI0 fun i j => .int (i - j)) .val dSub := opv_int0 (gd := fun i j => .int (i - j)) (fun d1 d2 ns => by
  cases d1 <;> cases d2 <;> first | exact (ns rfl).elim | exact ⟨_, _, rfl, rfl, rfl⟩) fun _ _ _ _ => .int _
theorem opv_fdiv {X : Cx} : OpV X.K (fun x y H Q => rI CDivN (fun i j => .int (i.fdiv j)) x y H Q ∨ rI CDivW (fun i j => .int (i / j)) x y H Q) .val dFdiv := by
  intro cl Hs H d1 d2 v1 v2 Q W e b1 b2 P nx
  cases d1 <;> cases d2 <;> first | exact P.elim | skip
  cases b1.intInv
  cases b2.intInv
  rename_i i j
  dsimp only [dFdiv] at P
  split at P
  · rename_i h
    by_cases c : j ≠ 0 ∧ j.natAbs < n30
    · exact .inl ⟨_, _, rfl, rfl, by have z := c; rw [n30_val] at z; exact z, P.finV e (.int _)⟩
    · have h2 := h.resolve_left c
      rw [Int.fdiv_eq_ediv_of_nonneg i (by omega)] at P
      exact .inr ⟨_, _, rfl, rfl, wide_div (b := 2000) h2.1 (by have z := h2.2; rw [w600_val] at z; exact z) (by decide) (by decide), P.finV e (.int _)⟩
  · exact P.elim
theorem opv_mod {X : Cx} : OpV X.K (rI (fun _ j => j ≠ 0) fun i j => .int (i.fmod j)) .val dMod := opv_int2 fun d1 d2 ns => by
  cases d1 <;> cases d2 <;> first | exact (ns rfl).elim | skip
  dsimp only [dMod] at ns ⊢
  split at ns
  · rename_i h
    exact ⟨_, _, rfl, rfl, h, by rw [if_pos h]⟩
  · exact (ns rfl).elim
theorem opv_pow {X : Cx} : OpV X.K (rI CPow fun i j => .int (i ^ j.toNat)) .val dPow := opv_int2 fun d1 d2 ns => by
  cases d1 <;> cases d2 <;> first | exact (ns rfl).elim | skip
  dsimp only [dPow] at ns ⊢
  split at ns
  · rename_i h
    exact ⟨_, _, rfl, rfl, by have z := h; rw [iMil_val, n64_val] at z; exact z, by rw [if_pos h]⟩
  · exact (ns rfl).elim
theorem mulOk_iff {i j : Int} (h : mulOk i j = true) : CMul i j ∨ CMulW i j := by
  unfold mulOk wideOk at h
  simp only [Bool.or_eq_true, Bool.and_eq_true, decide_eq_true_eq, i64_val, w600_val] at h
  rcases h with h | h
  · exact .inl h
  · exact .inr (wide_mul (a := 2000) (b := 2000) h.1 h.2 (by decide) (by decide) (by decide))
theorem RepL.rep {cl : Cl} {H : Hp} {ds : List D} {vs : List V} (h : RepL cl H ds vs) : ∀ k : Nat, RepL cl H (List.replicate k ds).flatten (List.replicate k vs).flatten
  | 0 => .nil
  | k + 1 => by
    rw [List.replicate_succ, List.replicate_succ, List.flatten_cons, List.flatten_cons]
    exact h.app (RepL.rep h k)
theorem opv_mul {X : Cx} : OpV X.K (fun x y H Q => (rI CMul (fun i j => .int (i * j)) x y H Q ∨ rI CMulW (fun i j => .int (i * j)) x y H Q) ∨ rRep x y H Q) (.own none) dMul := by
  intro cl Hs H d1 d2 v1 v2 Q W e b1 b2 P nx
  cases d1 <;> cases d2 <;> first | exact P.elim | skip
  · cases b1.intInv
    cases b2.intInv
    dsimp only [dMul] at P
    split at P
    · rename_i h
      rcases mulOk_iff h with h | h
      · exact .inl (.inl ⟨_, _, rfl, rfl, h, P.fin e rfl (.int _)⟩)
      · exact .inl (.inr ⟨_, _, rfl, rfl, h, P.fin e rfl (.int _)⟩)
    · exact P.elim
  · cases b2.intInv
    dsimp only [dMul] at P
    split at P
    · rename_i h
      obtain ⟨a, xs, rfl, h1, r1⟩ := b1.lstInv e
      refine .inr ⟨a, _, xs, rfl, rfl, h1, by have := h.1; rw [i63_val] at this; exact this, by have := h.2.1; rw [i63_val] at this; exact this, by rw [szL_eq, r1.length]; exact h.2.2, fun p hp => P.finL e hp (r1.rep _)⟩
    · exact P.elim
theorem nox_add : NoX dAdd := fun a b x h => by
  cases a <;> cases b <;> dsimp only [dAdd] at h <;> first | (split at h <;> cases h) | cases h
theorem nox_sub : NoX dSub := fun a b x h => by cases a <;> cases b <;> exact (nomatch h)
theorem nox_mul : NoX dMul := fun a b x h => by
  cases a <;> cases b <;> dsimp only [dMul] at h <;> first | (split at h <;> cases h) | cases h
theorem nox_fdiv : NoX dFdiv := fun a b x h => by
  cases a <;> cases b <;> dsimp only [dFdiv] at h <;> first | (split at h <;> cases h) | cases h
theorem nox_mod : NoX dMod := fun a b x h => by
  cases a <;> cases b <;> dsimp only [dMod] at h <;> first | (split at h <;> cases h) | cases h
theorem nox_pow : NoX dPow := fun a b x h => by
  cases a <;> cases b <;> dsimp only [dPow] at h <;> first | (split at h <;> cases h) | cases h
section
variable {X : Cx} {E : En} {ks : List Kd} {a b : Expr} {ga gb : Sl → R D} {pos : Pos}
theorem se_add (ha : SE X E ks .bor a ga) (hb : SE X E ks .bor b gb) : SE X E ks (.own none) (.BinOp a .Add b pos) (gBin dAdd ga gb) :=
  se_bin ((op_add.or op_add_str).or (op_cat.or op_catT)) opv_add nox_add ha hb
theorem se_sub (ha : SE X E ks .bor a ga) (hb : SE X E ks .bor b gb) : SE X E ks .val (.BinOp a .Sub b pos) (gBin dSub ga gb) := se_bin op_sub opv_sub nox_sub ha hb
theorem se_mul (ha : SE X E ks .bor a ga) (hb : SE X E ks .bor b gb) : SE X E ks (.own none) (.BinOp a .Mult b pos) (gBin dMul ga gb) := se_bin ((op_mul.or op_mulW).or op_rep) opv_mul nox_mul ha hb
theorem se_fdiv (ha : SE X E ks .bor a ga) (hb : SE X E ks .bor b gb) : SE X E ks .val (.BinOp a .FloorDiv b pos) (gBin dFdiv ga gb) := se_bin (op_fdivN.or op_fdivW) opv_fdiv nox_fdiv ha hb
theorem se_mod (ha : SE X E ks .bor a ga) (hb : SE X E ks .bor b gb) : SE X E ks .val (.BinOp a .Mod b pos) (gBin dMod ga gb) := se_bin op_modN opv_mod nox_mod ha hb
theorem se_pow (ha : SE X E ks .bor a ga) (hb : SE X E ks .bor b gb) : SE X E ks .val (.BinOp a .Pow b pos) (gBin dPow ga gb) := se_bin op_pow opv_pow nox_pow ha hb
@[simp] def gUn (f : D → R D) (ga : Sl → R D) : Sl → R D := fun r => do
  let a ← ga r
  f a
theorem se_neg (ha : SE X E ks .bor a ga) : SE X E ks .val (.UnaryOp .USub a pos) (gUn dNeg ga) := by
  refine ⟨fun Hs H r σ W Q tk S P => ?_⟩
  refine we_of (pe_un un_neg pe_we) ?_
  refine ha.run _ _ _ _ _ _ tk S (P.imp fun d v Hs1 H1 e1 g1 k1 P1 => ?_)
  cases d <;> first | exact P1.elim | skip
  cases k1.rb.intInv
  exact ⟨_, rfl, P1.finV g1.sub (.int _)⟩
end

mutual
def toPy : D → PyData
  | .non => .none
  | .bl b => .bool b
  | .int i => .int i
  | .str x => .str x
  | .lst xs => .list (toPys xs)
  | .tup xs => .tuple (toPys xs)
  | .dct _ => .dict []
  | .obj _ _ => .dict []
  | .scr _ => .dict []
def toPys : List D → List PyData
  | [] => []
  | d :: ds => toPy d :: toPys ds
end
section
variable {cl : Cl} {K : PySem.W.Frag} {H : Hp}
mutual
theorem Rep.dp : ∀ (d : D) (v : V), (toPy d).canLay0 = true → Rep cl H d v → Dp K H v (toPy d)
  | .non, _, _, h => by cases h; exact .non
  | .bl b, _, _, h => by cases h; exact .bl b
  | .int i, _, _, h => by cases h; exact .int i
  | .str x, _, _, h => by cases h; exact .str x
  | .lst ds, _, c, h => by
    cases h with
    | lst h1 h2 => exact .lst (SqL.of h1) (RepL.dp ds _ c h2)
  | .tup ds, _, c, h => by
    cases h with
    | tup h1 h2 => exact .tup (SqT.of h1) (RepL.dp ds _ c h2)
  | .dct ds, _, c, h => by cases c
  | .obj C ds, _, c, h => by cases c
  | .scr ns, _, c, h => by cases c
theorem RepL.dp : ∀ (ds : List D) (vs : List V), PyData.canLayAll0 (toPys ds) = true → RepL cl H ds vs → DpAll K H vs (toPys ds)
  | [], _, _, h => by cases h; exact .nil
  | d :: ds, _, c, h => by
    have c' : (toPy d).canLay0 = true ∧ PyData.canLayAll0 (toPys ds) = true := by
      have q : ((toPy d).canLay0 && PyData.canLayAll0 (toPys ds)) = true := c
      simpa using q
    cases h with
    | cons h1 h2 => exact .cons (Rep.dp d _ c'.1 h1) (RepL.dp ds _ c'.2 h2)
end
theorem RB.dp {Hs : Hp} {d : D} {v : V} (e : Same Hs H) (c : (toPy d).canLay0 = true) (h : RB cl Hs H d v) : Dp K H v (toPy d) := by
  cases h with
  | val r => exact Rep.dp _ _ c (Rep.same e _ _ r)
  | lst h1 h2 => exact .lst (SqL.of h1) (RepL.dp _ _ c (RepL.same e _ _ h2))
  | dct _ _ => cases c
  | obj _ _ _ => cases c
end
def dEqB (a b : D) : Bool := PyData.eqv (toPy a) (toPy b)
def shp (a : D) : Bool := SeqAt.shaped (toPy a)
def dEq : D → D → R D := fun a b => if shp a && shp b then .ok (.bl (dEqB a b)) else .stuck
def dNe : D → D → R D := fun a b => if shp a && shp b then .ok (.bl (!dEqB a b)) else .stuck
theorem nox_eq : NoX dEq := fun a b x h => by unfold dEq at h; split at h <;> cases h
theorem nox_ne : NoX dNe := fun a b x h => by unfold dNe at h; split at h <;> cases h
theorem opv_eq {X : Cx} : OpV X.K (rEqD X.K) .val dEq := by
  intro cl Hs H d1 d2 v1 v2 Q W e b1 b2 P nx
  unfold dEq at P
  split at P
  · rename_i h
    have h' : shp d1 = true ∧ shp d2 = true := by simpa using h
    exact ⟨toPy d1, toPy d2, b1.dp e (SeqAt.canLay_of_shaped h'.1), b2.dp e (SeqAt.canLay_of_shaped h'.2), h'.1, h'.2, P.finV e (.bl _)⟩
  · exact P.elim
theorem opv_ne {X : Cx} : OpV X.K (rNeD X.K) .val dNe := by
  intro cl Hs H d1 d2 v1 v2 Q W e b1 b2 P nx
  unfold dNe at P
  split at P
  · rename_i h
    have h' : shp d1 = true ∧ shp d2 = true := by simpa using h
    exact ⟨toPy d1, toPy d2, b1.dp e (SeqAt.canLay_of_shaped h'.1), b2.dp e (SeqAt.canLay_of_shaped h'.2), h'.1, h'.2, P.finV e (.bl _)⟩
  · exact P.elim
@[simp] def dLt : D → D → R D
  | .int i, .int j => .ok (.bl (decide (i < j)))
  | _, _ => .stuck
@[simp] def dLe : D → D → R D
  | .int i, .int j => .ok (.bl (decide (i ≤ j)))
  | _, _ => .stuck
@[simp] def dGt : D → D → R D
  | .int i, .int j => .ok (.bl (decide (j < i)))
  | _, _ => .stuck
theorem nox_lt : NoX dLt := fun a b x h => by cases a <;> cases b <;> exact (nomatch h)
theorem nox_le : NoX dLe := fun a b x h => by cases a <;> cases b <;> exact (nomatch h)
theorem nox_gt : NoX dGt := fun a b x h => by cases a <;> cases b <;> exact (nomatch h)
theorem opv_lt {X : Cx} : OpV X.K (rI0 fun i j => .bl (decide (i < j))) .val dLt := opv_int0 (gd := fun i j => .bl (decide (i < j))) (fun d1 d2 ns => by
  cases d1 <;> cases d2 <;> first | exact (ns rfl).elim | exact ⟨_, _, rfl, rfl, rfl⟩) fun _ _ _ _ => .bl _
theorem opv_le {X : Cx} : OpV X.K (rI0 fun i j => .bl (decide (i ≤ j))) .val dLe := opv_int0 (gd := fun i j => .bl (decide (i ≤ j))) (fun d1 d2 ns => by
  cases d1 <;> cases d2 <;> first | exact (ns rfl).elim | exact ⟨_, _, rfl, rfl, rfl⟩) fun _ _ _ _ => .bl _
theorem opv_gt {X : Cx} : OpV X.K (rI0 fun i j => .bl (decide (j < i))) .val dGt := opv_int0 (gd := fun i j => .bl (decide (j < i))) (fun d1 d2 ns => by
  cases d1 <;> cases d2 <;> first | exact (ns rfl).elim | exact ⟨_, _, rfl, rfl, rfl⟩) fun _ _ _ _ => .bl _
section
variable {X : Cx} {E : En} {ks : List Kd} {a b : Expr} {ga gb : Sl → R D} {pos : Pos}
end
end VL
end

noncomputable section
namespace VL
open PySem PySem.Spec PyProof.Rows L2
variable {md : Md}

def PostT (cl : Cl) (Hs H : Hp) (Q : Bool → Hp → Prop) (W : WX0) : R Bool → Prop
  | .stuck => False
  | .exc x => ∀ c dd Hs' H', Grow Hs H Hs' H' → XRep cl Hs' H' x c dd → W c dd H'
  | .ok b => ∀ Hs' H', Grow Hs H Hs' H' → Q b H'
theorem PostT.grow {cl : Cl} {Hs H Hs' H' : Hp} {Q : Bool → Hp → Prop} {W : WX0} {r : R Bool} (P : PostT cl Hs H Q W r) (g : Grow Hs H Hs' H') : PostT cl Hs' H' Q W r := by
  cases r with
  | stuck => exact P
  | exc x => exact fun c dd Hs2 H2 g2 x2 => P c dd Hs2 H2 (g.trans g2) x2
  | ok d => exact fun Hs2 H2 g2 => P Hs2 H2 (g.trans g2)
structure ST [md : Md] (X : Cx) (E : En) (ks : List Kd) (e : Expr) (g : Sl → R Bool) : Prop where
  run : ∀ (Hs H : Hp) (r : Sl) (σ : L2.St) (W : WX) (Q : Bool → Hp → Prop), Takes X W → StRel E Hs H ks r σ → PostT E.cl Hs H Q (fun c dd H' => W c dd σ H') (g r) → WTx X e σ H Q
def WWx (X : Cx) (e : Expr) : TT := fun σ H Q => ∀ (whole : Sem Value) (pins : List (Addr × Obj)) (s : Shared), Inv X pins σ H s → wpAny (model X.prog X.w) X.A (isTrue e X.env whole) (TP X pins σ Q) X.xe s
theorem pw_ww {X : Cx} {e : Expr} : PW X e (WWx X e) := ⟨fun whole pins s _ _ _ I h => h whole pins s I⟩
theorem ww_of {X : Cx} {e : Expr} {t : TT} {σ : L2.St} {H : Hp} {Q : Bool → Hp → Prop} (p : PW X e t) (h : t σ H Q) : WWx X e σ H Q := fun whole pins s I => p.run whole pins s σ H Q I h
structure SW [md : Md] (X : Cx) (E : En) (ks : List Kd) (e : Expr) (g : Sl → R Bool) : Prop where
  run : ∀ (Hs H : Hp) (r : Sl) (σ : L2.St) (W : WX) (Q : Bool → Hp → Prop), Takes X W → StRel E Hs H ks r σ → PostT E.cl Hs H Q (fun c dd H' => W c dd σ H') (g r) → WWx X e σ H Q
/-- a bool -/
@[simp] def asB : D → R Bool
  | .bl b => .ok b
  | _ => .stuck
/-- truth -/
@[simp] def dTruth : D → R Bool
  | .non => .ok false
  | .bl b => .ok b
  | .int i => .ok (i != 0)
  | .str x => if x.length ≤ szL then .ok (((x.length : Nat) : Int) != 0) else .stuck
  | .lst xs => .ok (!xs.isEmpty)
  | .tup xs => .ok (!xs.isEmpty)
  | _ => .stuck
@[simp] def gTest (g : Sl → R D) : Sl → R Bool := fun r => do
  let d ← g r
  asB d
@[simp] def gTruth (g : Sl → R D) : Sl → R Bool := fun r => do
  let d ← g r
  dTruth d
section
variable {X : Cx} {E : En} {ks : List Kd} {a b c e : Expr} {ga gb g : Sl → R D} {ta tb tc : Sl → R Bool} {rest : List Expr} {pos : Pos}
theorem Post.ofT {cl : Cl} {k : Kd} {Hs H : Hp} {Q : Bool → Hp → Prop} {W : WX0} {r : R D} {f : D → R Bool} (P : PostT cl Hs H Q W (r >>= f)) {Q1 : VK}
    (h : ∀ d v Hs' H', r = .ok d → Grow Hs H Hs' H' → RK cl k H Hs' H' d v → PostT cl Hs' H' Q W (f d) → Q1 v H') : Post cl k Hs H Q1 W r := by
  cases r with
  | stuck => exact P
  | exc x => exact P
  | ok d => exact fun v Hs' H' g rk => h d v Hs' H' rfl g rk (PostT.grow (r := f d) P g)
theorem PostT.imp {cl : Cl} {Hs H : Hp} {Q Q1 : Bool → Hp → Prop} {W : WX0} {r : R Bool} {f : Bool → R Bool} (P : PostT cl Hs H Q W (r >>= f))
    (h : ∀ b Hs' H', r = .ok b → Grow Hs H Hs' H' → PostT cl Hs' H' Q W (f b) → Q1 b H') : PostT cl Hs H Q1 W r := by
  cases r with
  | stuck => exact P
  | exc x => exact P
  | ok d => exact fun Hs' H' g => h d Hs' H' rfl g (PostT.grow (r := f d) P g)
theorem PostT.to {cl : Cl} {k : Kd} {Hs H : Hp} {Q1 : Bool → Hp → Prop} {Q : VK} {W : WX0} {r : R Bool} {f : Bool → R D} (P : Post cl k Hs H Q W (r >>= f))
    (h : ∀ b Hs' H', r = .ok b → Grow Hs H Hs' H' → Post cl k Hs' H' Q W (f b) → Q1 b H') : PostT cl Hs H Q1 W r := by
  cases r with
  | stuck => exact P
  | exc x => exact P
  | ok d => exact fun Hs' H' g => h d Hs' H' rfl g (Post.grow (r := f d) P g)
/-- a comparison as a test -/
theorem st_cmp {op : CmpOp} {rr : R2} {f : D → D → R D} (ho : OpR X (compareOp op) rr) (hv : OpV X.K rr .val f) (nx : NoX f) (ha : SE X E ks .bor a ga) (hb : SE X E ks .bor b gb) (hm : behindInMarks op b = false := by rfl) : ST X E ks (.Compare a [op] [b] pos) (gTest (gBin f ga gb)) := by
  refine ⟨fun Hs H r σ W Q tk S P => ?_⟩
  refine wt_of (pt_cmpR ho pe_we pe_we hm) ?_
  refine bin_read hv nx ha hb tk S (Post.ofT P fun d v Hs' H' e1 g1 k1 P1 => ?_)
  cases d <;> first | exact P1.elim | skip
  have rp := k1.rep
  cases rp
  exact ⟨_, rfl, P1 Hs' H' (Grow.refl g1.sub)⟩
theorem st_truth (h : SE X E ks .bor e g) (he : ∀ whole, isTrue e X.env whole = (do let v ← whole; standAt e.pos; holding [v] (truthy v)) := by intro _; rfl) : ST X E ks e (gTruth g) := by
  refine ⟨fun Hs H r σ W Q tk S P => ?_⟩
  refine wt_of (pt_truth pe_we he) ?_
  refine h.run _ _ _ _ _ _ tk S (Post.ofT P fun d v Hs' H' e1 g1 k1 P1 => ?_)
  cases d with
  | non =>
    cases k1.rb.nonInv
    exact ⟨false, rfl, P1 Hs' H' (Grow.refl g1.sub)⟩
  | bl b =>
    cases k1.rb.blInv
    exact ⟨b, rfl, P1 Hs' H' (Grow.refl g1.sub)⟩
  | int i =>
    cases k1.rb.intInv
    exact ⟨_, rfl, P1 Hs' H' (Grow.refl g1.sub)⟩
  | str x =>
    cases k1.rb.strInv
    dsimp only [dTruth] at P1
    split at P1
    · rename_i h
      exact ⟨_, ⟨by rw [szL_eq]; exact h, rfl⟩, P1 Hs' H' (Grow.refl g1.sub)⟩
    · exact P1.elim
  | lst ds =>
    obtain ⟨l, xs, rfl, h1, r1⟩ := k1.rb.lstInv g1.sub
    have e : (!xs.isEmpty) = !ds.isEmpty := by
      cases r1 <;> rfl
    exact ⟨_, .inl ⟨xs, SqL.of h1, rfl⟩, by rw [e]; exact P1 Hs' H' (Grow.refl g1.sub)⟩
  | tup ds =>
    obtain ⟨l, xs, rfl, h1, r1⟩ := k1.rb.tupInv g1.sub
    have e : (!xs.isEmpty) = !ds.isEmpty := by
      cases r1 <;> rfl
    exact ⟨_, .inr (.inl ⟨xs, SqT.of h1, rfl⟩), by rw [e]; exact P1 Hs' H' (Grow.refl g1.sub)⟩
  | dct _ => exact P1.elim
  | obj _ _ => exact P1.elim
  | scr _ => exact P1.elim
theorem st_of (h : SW X E ks e ta) : ST X E ks e ta := ⟨fun Hs H r σ W Q tk S P => wt_of pw_ww.pt (h.run _ _ _ _ _ _ tk S P)⟩
@[simp] def gAnd (ta tb : Sl → R Bool) : Sl → R Bool := fun r => do
  let b ← ta r
  if b then tb r else .ok false
@[simp] def gOr (ta tb : Sl → R Bool) : Sl → R Bool := fun r => do
  let b ← ta r
  if b then .ok true else tb r
@[simp] def gNot (ta : Sl → R Bool) : Sl → R Bool := fun r => do
  let b ← ta r
  .ok (!b)
theorem sw_and1 (ha : ST X E ks a ta) : SW X E ks (.BoolOp .And [a] pos) ta := ⟨fun Hs H r σ W Q tk S P => ww_of (pw_and1 pt_wt) (ha.run _ _ _ _ _ _ tk S P)⟩
theorem sw_or1 (ha : ST X E ks a ta) : SW X E ks (.BoolOp .Or [a] pos) ta := ⟨fun Hs H r σ W Q tk S P => ww_of (pw_or1 pt_wt) (ha.run _ _ _ _ _ _ tk S P)⟩
theorem sw_and (ha : ST X E ks a ta) (hb : SW X E ks (.BoolOp .And (b :: rest) pos) tb) : SW X E ks (.BoolOp .And (a :: b :: rest) pos) (gAnd ta tb) := by
  refine ⟨fun Hs H r σ W Q tk S P => ?_⟩
  refine ww_of (pw_and pt_wt pw_ww) ?_
  refine ha.run _ _ _ _ _ _ tk S (PostT.imp P fun x Hs' H' e1 g1 P1 => ?_)
  cases x with
  | true => exact hb.run _ _ _ _ _ _ tk (S.grow g1) P1
  | false => exact P1 Hs' H' (Grow.refl g1.sub)
theorem sw_or (ha : ST X E ks a ta) (hb : SW X E ks (.BoolOp .Or (b :: rest) pos) tb) : SW X E ks (.BoolOp .Or (a :: b :: rest) pos) (gOr ta tb) := by
  refine ⟨fun Hs H r σ W Q tk S P => ?_⟩
  refine ww_of (pw_or pt_wt pw_ww) ?_
  refine ha.run _ _ _ _ _ _ tk S (PostT.imp P fun x Hs' H' e1 g1 P1 => ?_)
  cases x with
  | false => exact hb.run _ _ _ _ _ _ tk (S.grow g1) P1
  | true => exact P1 Hs' H' (Grow.refl g1.sub)
theorem st_not (ha : ST X E ks a ta) : ST X E ks (.UnaryOp .Not a pos) (gNot ta) := by
  refine ⟨fun Hs H r σ W Q tk S P => ?_⟩
  refine wt_of (pt_not pt_wt) ?_
  exact ha.run _ _ _ _ _ _ tk S (PostT.imp P fun x Hs' H' e1 g1 P1 => P1 Hs' H' (Grow.refl g1.sub))
@[simp] def gIf (tc : Sl → R Bool) (ga gb : Sl → R D) : Sl → R D := fun r => do
  let b ← tc r
  if b then ga r else gb r
theorem se_if {k : Kd} (hc : ST X E ks c tc) (ha : SE X E ks k a ga) (hb : SE X E ks k b gb) : SE X E ks k (.IfExp c a b pos) (gIf tc ga gb) := by
  refine ⟨fun Hs H r σ W Q tk S P => ?_⟩
  refine we_of (pe_ifExp pt_wt pe_we pe_we) ?_
  refine hc.run _ _ _ _ _ _ tk S (PostT.to P fun x Hs' H' e1 g1 P1 => ?_)
  have fin : ∀ {k : Kd}, Post E.cl k Hs' H' Q (fun c dd H' => W c dd σ H') (if x then ga r else gb r) → Post E.cl k Hs' H' Q (fun c dd H' => W c dd σ H') (if x then ga r else gb r) := fun z => z
  cases x with
  | true => exact iteT (ha.run _ _ _ _ _ _ tk (S.grow g1) P1)
  | false => exact iteF (hb.run _ _ _ _ _ _ tk (S.grow g1) P1)
end

section
variable {X : Cx} {E : En} {ks : List Kd} {a : Expr} {ga : Sl → R D} {pos pos' : Pos} {j : Nat}
end

theorem atI_rep {cl : Cl} {H : Hp} {ds : List D} {vs : List V} {i : Int} {d : D} (r : RepL cl H ds vs) (h : atI ds i = some d) : ∃ v, atI vs i = some v ∧ Rep cl H d v := by
  unfold atI at h ⊢
  rw [r.length]
  cases q : ixN ds.length i with
  | none => rw [q] at h; cases h
  | some j =>
    rw [q] at h
    have h' : ds[j]? = some d := h
    obtain ⟨v, e, rp⟩ := r.get h'
    exact ⟨v, e, rp⟩
@[simp] def dIdx : D → D → R D
  | .lst ds, .int i => match atI ds i with
    | some d => .ok d
    | none => .stuck
  | .tup ds, .int i => match atI ds i with
    | some d => .ok d
    | none => .stuck
  | .str z, .int i => if z.length ≤ szL then (match atI z.cps.toList i with
    | some c => .ok (.str ⟨#[c]⟩)
    | none => .stuck) else .stuck
  | _, _ => .stuck
theorem nox_idx : NoX dIdx := fun a b x h => by
  cases a <;> cases b <;> dsimp only [dIdx] at h <;> first | (split at h <;> first | cases h | (split at h <;> cases h)) | cases h
theorem opv_idx {X : Cx} : OpV X.K (rIx X.K) .val dIdx := by
  intro cl Hs H d1 d2 v1 v2 Q W e b1 b2 P nx
  cases d1 <;> cases d2 <;> first | exact P.elim | skip
  · cases b1.strInv
    cases b2.intInv
    dsimp only [dIdx] at P
    split at P
    · rename_i h
      split at P
      · rename_i c q
        exact .inr (.inr ⟨_, _, c, rfl, rfl, by rw [szL_eq]; exact h, q, P.finV e (.str _)⟩)
      · exact P.elim
    · exact P.elim
  · cases b2.intInv
    dsimp only [dIdx] at P
    split at P
    · rename_i d q
      obtain ⟨l, xs, rfl, h1, r1⟩ := b1.lstInv e
      obtain ⟨v, e2, rp⟩ := atI_rep r1 q
      exact .inl ⟨l, xs, _, v, rfl, rfl, SqL.of h1, e2, P.finV e rp⟩
    · exact P.elim
  · cases b2.intInv
    dsimp only [dIdx] at P
    split at P
    · rename_i d q
      obtain ⟨l, xs, rfl, h1, r1⟩ := b1.tupInv e
      obtain ⟨v, e2, rp⟩ := atI_rep r1 q
      exact .inr (.inl ⟨l, xs, _, v, rfl, rfl, SqT.of h1, e2, P.finV e rp⟩)
    · exact P.elim
theorem se_ix {X : Cx} {E : En} {ks : List Kd} {a b : Expr} {ga gb : Sl → R D} {pos : Pos} (ha : SE X E ks .bor a ga) (hb : SE X E ks .bor b gb) (hs : PlainIx b := by exact fun _ _ => rfl) : SE X E ks .val (.Subscript a b pos) (gBin dIdx ga gb) :=
  ⟨fun Hs H r σ W Q tk S P => we_of (pe_ix ix_seq pe_we pe_we hs) (bin_read opv_idx nox_idx ha hb tk S P)⟩

def cutL {α : Type} (xs : List α) (lo hi : Option Int) : List α := (xs.drop (HT.sIx xs.length 0 lo)).take (HT.sIx xs.length xs.length hi - HT.sIx xs.length 0 lo)
theorem cut_rep {cl : Cl} {H : Hp} {ds : List D} {vs : List V} {lo hi : Option Int} (r : RepL cl H ds vs) : RepL cl H (cutL ds lo hi) (cutV vs lo hi) := by
  unfold cutL cutV
  rw [r.length]
  exact (r.drop _).take _
/-- an end of a slice -/
def PostO (cl : Cl) (Hs H : Hp) (Q : Option Int → Hp → Prop) (W : WX0) : R (Option Int) → Prop
  | .stuck => False
  | .exc x => ∀ c dd Hs' H', Grow Hs H Hs' H' → XRep cl Hs' H' x c dd → W c dd H'
  | .ok b => ∀ Hs' H', Grow Hs H Hs' H' → Q b H'
theorem PostO.grow {cl : Cl} {Hs H Hs' H' : Hp} {Q : Option Int → Hp → Prop} {W : WX0} {r : R (Option Int)} (P : PostO cl Hs H Q W r) (g : Grow Hs H Hs' H') : PostO cl Hs' H' Q W r := by
  cases r with
  | stuck => exact P
  | exc x => exact fun c dd Hs2 H2 g2 x2 => P c dd Hs2 H2 (g.trans g2) x2
  | ok d => exact fun Hs2 H2 g2 => P Hs2 H2 (g.trans g2)
def WOx (X : Cx) (e : Option Expr) : TO := fun σ H Q => ∃ t, PO X e t ∧ t σ H Q
theorem po_wo {X : Cx} {e : Option Expr} : PO X e (WOx X e) := ⟨fun pins s σ H Q I ⟨t, p, h⟩ => p.run pins s σ H Q I h⟩
structure SO [md : Md] (X : Cx) (E : En) (ks : List Kd) (e : Option Expr) (g : Sl → R (Option Int)) : Prop where
  run : ∀ (Hs H : Hp) (r : Sl) (σ : L2.St) (W : WX) (Q : Option Int → Hp → Prop), Takes X W → StRel E Hs H ks r σ → PostO E.cl Hs H Q (fun c dd H' => W c dd σ H') (g r) → WOx X e σ H Q
@[simp] def gNoPart : Sl → R (Option Int) := fun _ => .ok none
@[simp] def dPart : D → R (Option Int)
  | .int i => .ok (some i)
  | _ => .stuck
@[simp] def gPart (g : Sl → R D) : Sl → R (Option Int) := fun r => do
  let d ← g r
  dPart d
section
variable {X : Cx} {E : En} {ks : List Kd} {a e : Expr} {ga g : Sl → R D} {pos p2 : Pos} {lo hi : Option Expr} {gl gh : Sl → R (Option Int)}
theorem so_none : SO X E ks none gNoPart := ⟨fun Hs H r σ W Q tk S P => ⟨_, po_none, P Hs H (Grow.refl S.sub)⟩⟩
theorem so_some (h : SE X E ks .bor e g) : SO X E ks (some e) (gPart g) := by
  refine ⟨fun Hs H r σ W Q tk S P => ?_⟩
  refine ⟨_, po_some pe_we, ?_⟩
  refine h.run _ _ _ _ _ _ tk S ?_
  unfold gPart at P
  cases q : g r with
  | stuck => rw [q] at P; exact P
  | exc x => rw [q] at P; exact P
  | ok d =>
    rw [q] at P
    intro v Hs' H' g1 k1
    cases d <;> first | exact False.elim P | skip
    cases k1.rb.intInv
    exact ⟨_, rfl, P Hs' H' g1⟩
@[simp] def dSlL (d : D) (lo hi : Option Int) : R D := match d with
  | .lst ds => .ok (.lst (cutL ds lo hi))
  | .tup ds => .ok (.tup (cutL ds lo hi))
  | .str x => if x.length ≤ szL then .ok (.str (cutS x lo hi)) else .stuck
  | _ => .stuck
theorem cutL_whole {α : Type} {xs : List α} {lo hi : Option Int} (h : HT.sIx xs.length 0 lo = 0 ∧ HT.sIx xs.length xs.length hi = xs.length) : cutL xs lo hi = xs := by
  unfold cutL
  rw [h.1, h.2, List.drop_zero, Nat.sub_zero, List.take_length]
@[simp] def gSl (ga : Sl → R D) (gl gh : Sl → R (Option Int)) : Sl → R D := fun r => do
  let d ← ga r
  let l ← gl r
  let h ← gh r
  dSlL d l h
theorem se_slL (ha : SE X E ks .bor a ga) (hl : SO X E ks lo gl) (hh : SO X E ks hi gh) : SE X E ks (.own none) (.Subscript a (.Slice lo hi none p2) pos) (gSl ga gl gh) := by
  refine ⟨fun Hs H r σ W Q tk S P => ?_⟩
  refine we_of (pe_slice ((sl_list.or sl_tupA).or sl_str) pe_we po_wo po_wo) ?_
  refine ha.run _ _ _ _ _ _ tk S (Post.imp (F := fun d => gl r >>= fun l => gh r >>= fun h => dSlL d l h) P fun d v Hs1 H1 e1 g1 k1 P1 => ?_)
  refine hl.run _ _ _ _ _ _ tk (S.grow g1) ?_
  cases q : gl r with
  | stuck => rw [q] at P1; exact P1
  | exc x => rw [q] at P1; exact P1
  | ok l =>
    rw [q] at P1
    intro Hs2 H2 g2
    refine hh.run _ _ _ _ _ _ tk ((S.grow g1).grow g2) ?_
    have P2 : Post E.cl (.own none) Hs2 H2 Q (fun c dd H' => W c dd σ H') (gh r >>= fun h => dSlL d l h) := Post.grow (r := gh r >>= fun h => dSlL d l h) P1 g2
    cases q2 : gh r with
    | stuck => rw [q2] at P2; exact P2
    | exc x => rw [q2] at P2; exact P2
    | ok h =>
      rw [q2] at P2
      intro Hs3 H3 g3
      have P3 : Post E.cl (.own none) Hs3 H3 Q (fun c dd H' => W c dd σ H') (dSlL d l h) := Post.grow (r := dSlL d l h) P2 g3
      cases d <;> first | exact P3.elim | skip
      · cases ((k1.rb.grow g2).grow g3).strInv
        dsimp only [dSlL] at P3
        split at P3
        · rename_i hz
          exact .inr ⟨_, rfl, by rw [szL_eq]; exact hz, P3.fin g3.sub rfl (.str _)⟩
        · exact P3.elim
      · obtain ⟨p, xs, rfl, h1, r1⟩ := ((k1.rb.grow g2).grow g3).lstInv g3.sub
        exact .inl (.inl ⟨p, xs, rfl, SqL.of h1, fun q hq => P3.finL g3.sub hq (cut_rep r1)⟩)
      · have b1 := (k1.rb.grow g2).grow g3
        have b1' := b1
        obtain ⟨p, xs, rfl, h1, r1⟩ := b1.tupInv g3.sub
        refine .inl (.inr ⟨p, xs, rfl, SqT.of h1, fun z => ?_, fun _ q hq => ?_⟩)
        · rw [r1.length] at z
          dsimp only [dSlL] at P3
          rw [cutL_whole z] at P3
          cases b1' with
          | val rr => exact P3.fin g3.sub rfl rr
        · exact P3 _ _ _ (Grow.new g3.sub hq) (RK.ownPlain rfl (.tup upd_same (RepL.same (Same.updNew (g3.sub.free hq)) _ _ (cut_rep r1))))
end
end VL
end

noncomputable section
namespace VL
open PySem PySem.Spec PyProof.Rows L2
variable {md : Md}

/-- how an argument lies: stable, or borrowed -/
inductive RAs (cl : Cl) (Hs H : Hp) : List Bool → List D → List V → Prop
  | nil : RAs cl Hs H [] [] []
  | val {d : D} {v : V} {bs : List Bool} {ds : List D} {vs : List V} : Rep cl Hs d v → RAs cl Hs H bs ds vs → RAs cl Hs H (true :: bs) (d :: ds) (v :: vs)
  | bor {d : D} {v : V} {bs : List Bool} {ds : List D} {vs : List V} : RB cl Hs H d v → RAs cl Hs H bs ds vs → RAs cl Hs H (false :: bs) (d :: ds) (v :: vs)
theorem RAs.grow {cl : Cl} {Hs H Hs' H' : Hp} (g : Grow Hs H Hs' H') : ∀ {bs : List Bool} {ds : List D} {vs : List V}, RAs cl Hs H bs ds vs → RAs cl Hs' H' bs ds vs
  | _, _, _, .nil => .nil
  | _, _, _, .val r t => .val (Rep.same g.s _ _ r) (RAs.grow g t)
  | _, _, _, .bor r t => .bor (r.grow g) (RAs.grow g t)
theorem RAs.len {cl : Cl} {Hs H : Hp} : ∀ {bs : List Bool} {ds : List D} {vs : List V}, RAs cl Hs H bs ds vs → vs.length = bs.length ∧ ds.length = bs.length
  | _, _, _, .nil => ⟨rfl, rfl⟩
  | _, _, _, .val r t => by simp [RAs.len t]
  | _, _, _, .bor r t => by simp [RAs.len t]
theorem RAs.reps {cl : Cl} {Hs H : Hp} : ∀ {n : Nat} {ds : List D} {vs : List V}, RAs cl Hs H (List.replicate n true) ds vs → RepL cl Hs ds vs
  | 0, _, _, h => by cases h; exact .nil
  | n + 1, _, _, h => by
    rw [List.replicate_succ] at h
    cases h with
    | val r t => exact .cons r (RAs.reps t)
def PostA (cl : Cl) (bs : List Bool) (Hs H : Hp) (Q : List V → Hp → Prop) (W : WX0) : R (List D) → Prop
  | .stuck => False
  | .exc x => ∀ c dd Hs' H', Grow Hs H Hs' H' → XRep cl Hs' H' x c dd → W c dd H'
  | .ok ds => ∀ vs Hs' H', Grow Hs H Hs' H' → RAs cl Hs' H' bs ds vs → Q vs H'
theorem PostA.grow {cl : Cl} {bs : List Bool} {Hs H Hs' H' : Hp} {Q : List V → Hp → Prop} {W : WX0} {r : R (List D)} (P : PostA cl bs Hs H Q W r) (g : Grow Hs H Hs' H') : PostA cl bs Hs' H' Q W r := by
  cases r with
  | stuck => exact P
  | exc x => exact fun c dd Hs2 H2 g2 x2 => P c dd Hs2 H2 (g.trans g2) x2
  | ok d => exact fun vs Hs2 H2 g2 => P vs Hs2 H2 (g.trans g2)
structure SA [md : Md] (X : Cx) (E : En) (ks : List Kd) (bs : List Bool) (es : List Expr) (g : Sl → R (List D)) : Prop where
  run : ∀ (Hs H : Hp) (r : Sl) (σ : L2.St) (W : WX) (Q : List V → Hp → Prop), Takes X W → StRel E Hs H ks r σ → PostA E.cl bs Hs H Q (fun c dd H' => W c dd σ H') (g r) → WAx X es σ H Q
@[simp] def gNil : Sl → R (List D) := fun _ => .ok []
@[simp] def gCons (g : Sl → R D) (t : Sl → R (List D)) : Sl → R (List D) := fun r => do
  let d ← g r
  let ds ← t r
  .ok (d :: ds)
/-- from an argument list to what is made of it -/
theorem PostA.of {cl : Cl} {k : Kd} {bs : List Bool} {Hs H : Hp} {Q : VK} {W : WX0} {r : R (List D)} {f : List D → R D} {Q1 : List V → Hp → Prop} (P : Post cl k Hs H Q W (r >>= f))
    (h : ∀ ds vs Hs' H', r = .ok ds → Grow Hs H Hs' H' → RAs cl Hs' H' bs ds vs → Post cl k Hs' H' Q W (f ds) → Q1 vs H') : PostA cl bs Hs H Q1 W r := by
  cases r with
  | stuck => exact P
  | exc x => exact P
  | ok ds => exact fun vs Hs' H' g a => h ds vs Hs' H' rfl g a (Post.grow (r := f ds) P g)
section
variable {X : Cx} {E : En} {ks : List Kd} {e : Expr} {es : List Expr} {g : Sl → R D} {t : Sl → R (List D)} {bs : List Bool} {pos : Pos}
theorem sa_nil : SA X E ks [] [] gNil := ⟨fun Hs H r σ W Q tk S P => wa_of pa_nil (P [] Hs H (Grow.refl S.sub) .nil)⟩
theorem sa_cons_core {k : Kd} {b : Bool} (he : SE X E ks k e g) (ht : SA X E ks bs es t) (hs : starEach (e :: es) X.env = (false, eval e X.env) :: starEach es X.env)
    (mk : ∀ {cl Hs H H0 d v ds vs}, RK cl k H0 Hs H d v → RAs cl Hs H bs ds vs → RAs cl Hs H (b :: bs) (d :: ds) (v :: vs))
    (gr : ∀ {cl : Cl} {Hs H Hs' H' H0 : Hp} {d : D} {v : V}, RK cl k H0 Hs H d v → Grow Hs H Hs' H' → RK cl k H0 Hs' H' d v) : SA X E ks (b :: bs) (e :: es) (gCons g t) := by
  refine ⟨fun Hs H r σ W Q tk S P => ?_⟩
  refine wa_of (pa_cons pe_we pa_wa hs) ?_
  refine he.run _ _ _ _ _ _ tk S ?_
  unfold gCons at P
  cases q : g r with
  | stuck => rw [q] at P; exact P
  | exc x => rw [q] at P; exact P
  | ok d =>
    rw [q] at P
    intro v Hs1 H1 g1 k1
    refine ht.run _ _ _ _ _ _ tk (S.grow g1) ?_
    have P1 := PostA.grow (r := t r >>= fun ds => R.ok (d :: ds)) P g1
    cases q2 : t r with
    | stuck => rw [q2] at P1; exact P1
    | exc x => rw [q2] at P1; exact P1
    | ok ds =>
      rw [q2] at P1
      exact fun vs Hs2 H2 g2 a2 => P1 _ Hs2 H2 g2 (mk (gr k1 g2) a2)
theorem sa_v (he : SE X E ks .val e g) (ht : SA X E ks bs es t) (hs : starEach (e :: es) X.env = (false, eval e X.env) :: starEach es X.env := by rfl) : SA X E ks (true :: bs) (e :: es) (gCons g t) :=
  sa_cons_core he ht hs (fun k a => .val k.rep a) fun k g => RK.val (Rep.same g.s _ _ k.rep)
theorem sa_b (he : SE X E ks .bor e g) (ht : SA X E ks bs es t) (hs : starEach (e :: es) X.env = (false, eval e X.env) :: starEach es X.env := by rfl) : SA X E ks (false :: bs) (e :: es) (gCons g t) :=
  sa_cons_core he ht hs (fun k a => .bor k.rb a) fun k g => (k.rb.grow g).rk

@[simp] def gLst (t : Sl → R (List D)) : Sl → R D := fun r => do
  let ds ← t r
  if ds.length ≤ szL then .ok (.lst ds) else .stuck
@[simp] def gTup (t : Sl → R (List D)) : Sl → R D := fun r => do
  let ds ← t r
  if ds.length ≤ szL then .ok (.tup ds) else .stuck
theorem se_lst {n : Nat} (h : SA X E ks (List.replicate n true) es t) : SE X E ks (.own none) (.List es pos) (gLst t) := by
  refine ⟨fun Hs H r σ W Q tk S P => ?_⟩
  refine we_of (pe_lst pa_wa) ?_
  refine h.run _ _ _ _ _ _ tk S (PostA.of P fun ds vs Hs' H' e1 g1 a P1 => ?_)
  have rp := a.reps
  split at P1
  · rename_i z
    exact ⟨by rw [szL_eq, rp.length]; exact z, fun p hp => P1.finL g1.sub hp rp⟩
  · exact P1.elim
theorem se_tup {n : Nat} {x1 : Nat} (h : SA X E ks (List.replicate n true) es t) : SE X E ks .val (.Tuple es x1 pos) (gTup t) := by
  refine ⟨fun Hs H r σ W Q tk S P => ?_⟩
  refine we_of (pe_tup pa_wa) ?_
  refine h.run _ _ _ _ _ _ tk S (PostA.of P fun ds vs Hs' H' e1 g1 a P1 => ?_)
  have rp := a.reps
  split at P1
  · rename_i z
    refine ⟨by rw [szL_eq, rp.length]; exact z, fun p hp => ?_⟩
    exact P1 _ _ _ (Grow.new g1.sub hp) (RK.val (.tup upd_same (RepL.same (Same.updNew (g1.sub.free hp)) _ _ rp)))
  · exact P1.elim

def CallV (K : PySem.W.Frag) (rr : List V → Hp → VK → Prop) (k : Kd) (bs : List Bool) (f : List D → R D) : Prop :=
  ∀ (cl : Cl) (Hs H : Hp) (ds : List D) (vs : List V) (Q : VK) (W : WX0), Same Hs H → RAs cl Hs H bs ds vs → Post cl k Hs H Q W (f ds) → rr vs H Q
@[simp] def gCall (f : List D → R D) (t : Sl → R (List D)) : Sl → R D := fun r => do
  let ds ← t r
  f ds
theorem se_callB {id : String} {x : Str} {p : Pos} {rr : List V → Hp → VK → Prop} {k : Kd} {f : List D → R D} (hc : CallR X (.builtin id) rr) (hv : CallV X.K rr k bs f) (hm : X.mg x = none) (hb : bootBuiltins x = some (.builtin id)) (ha : SA X E ks bs (e :: es) t)
    (hg : Gl X x := by rfl) (hn : x ≠ "__name__" := by decide) (hdb : (x == ("__debug__" : Str)) = false := by decide)
    (he : starEach (e :: es) X.env = (false, eval e X.env) :: starEach es X.env := by rfl) (hpl : (backTo pos (starEach es X.env)).any (·.1) = false := by rfl) : SE X E ks k (.Call (.Name x p) (e :: es) [] pos) (gCall f t) := by
  refine ⟨fun Hs H r σ W Q tk S P => ?_⟩
  refine we_of (pe_callB hc hg hm hb pa_wa hn hdb he hpl) ?_
  exact ha.run _ _ _ _ _ _ tk S (PostA.of P fun ds vs Hs' H' e1 g1 a P1 => hv _ _ _ _ _ _ _ g1.sub a P1)
theorem se_callTy {T : String} {x : Str} {p : Pos} {rr : List V → Hp → VK → Prop} {k : Kd} {f : List D → R D} (hc : CallR X (.type T) rr) (hv : CallV X.K rr k bs f) (hm : X.mg x = none) (hb : bootBuiltins x = some (.type T)) (ha : SA X E ks bs (e :: es) t)
    (hg : Gl X x := by rfl) (hn : x ≠ "__name__" := by decide) (hdb : (x == ("__debug__" : Str)) = false := by decide)
    (he : starEach (e :: es) X.env = (false, eval e X.env) :: starEach es X.env := by rfl) (hpl : (backTo pos (starEach es X.env)).any (·.1) = false := by rfl) : SE X E ks k (.Call (.Name x p) (e :: es) [] pos) (gCall f t) := by
  refine ⟨fun Hs H r σ W Q tk S P => ?_⟩
  refine we_of (pe_callTy hc hg hm hb pa_wa hn hdb he hpl) ?_
  exact ha.run _ _ _ _ _ _ tk S (PostA.of P fun ds vs Hs' H' e1 g1 a P1 => hv _ _ _ _ _ _ _ g1.sub a P1)
end

@[simp] def fLen : List D → R D
  | [.lst ds] => .ok (.int ds.length)
  | [.tup ds] => .ok (.int ds.length)
  | [.str x] => if x.length ≤ szL then .ok (.int x.length) else .stuck
  | [.dct ds] => .ok (.int ds.length)
  | _ => .stuck
theorem RAs.one {cl : Cl} {Hs H : Hp} {ds : List D} {vs : List V} (h : RAs cl Hs H [false] ds vs) : ∃ d v, ds = [d] ∧ vs = [v] ∧ RB cl Hs H d v := by
  cases h with
  | bor r t => cases t; exact ⟨_, _, rfl, rfl, r⟩
theorem RAs.two {cl : Cl} {Hs H : Hp} {ds : List D} {vs : List V} (h : RAs cl Hs H [false, false] ds vs) : ∃ d v d' v', ds = [d, d'] ∧ vs = [v, v'] ∧ RB cl Hs H d v ∧ RB cl Hs H d' v' := by
  cases h with
  | bor r t =>
    obtain ⟨d, v, rfl, rfl, r'⟩ := t.one
    exact ⟨_, _, _, _, rfl, rfl, r, r'⟩
theorem RepK.length {cl : Cl} {H : Hp} : ∀ {ds : List (Key × D)} {vs : List (Key × V)}, RepK cl H ds vs → vs.length = ds.length
  | [], _, h => by cases h; rfl
  | (k, d) :: ds, _, h => by
    cases h with
    | cons h1 h2 => rw [List.length_cons, List.length_cons, RepK.length h2]
theorem call_lenR {X : Cx} : CallR X (.builtin "len") (fun xs H Q => ∃ a kvs, xs = [V.ref a] ∧ Rd H a (.dK kvs) ∧ Q (.int kvs.length) H) := by
  intro pins s σ H xs us Q I r h
  obtain ⟨a, kvs, rfl, ha, q⟩ := h
  obtain ⟨u, rfl, ru⟩ := vals1 r
  cases ru
  exact d_len I ha fun t s' I' => ⟨.int kvs.length, H, I', ⟨t, rfl⟩, q⟩
theorem callv_len {X : Cx} : CallV X.K (fun xs H Q => (∃ x n, xs = [x] ∧ LenV X.K x H n ∧ Q (.int n) H) ∨ (∃ a kvs, xs = [V.ref a] ∧ Rd H a (.dK kvs) ∧ Q (.int kvs.length) H)) .val [false] fLen := by
  intro cl Hs H ds vs Q W e a P
  obtain ⟨d, v, rfl, rfl, r⟩ := a.one
  cases d <;> first | exact P.elim | skip
  · cases r.strInv
    dsimp only [fLen] at P
    split at P
    · rename_i h
      exact .inl ⟨_, _, rfl, ⟨by rw [szL_eq]; exact h, rfl⟩, P.finV e (.int _)⟩
    · exact P.elim
  · obtain ⟨p, xs, rfl, h1, r1⟩ := r.lstInv e
    refine .inl ⟨_, xs.length, rfl, .inl ⟨xs, SqL.of h1, rfl⟩, ?_⟩
    rw [r1.length]
    exact P.finV e (.int _)
  · obtain ⟨p, xs, rfl, h1, r1⟩ := r.tupInv e
    refine .inl ⟨_, xs.length, rfl, .inr ⟨xs, SqT.of h1, rfl⟩, ?_⟩
    rw [r1.length]
    exact P.finV e (.int _)
  · obtain ⟨p, xs, rfl, h1, r1⟩ := r.dctInv e
    refine .inr ⟨p, xs, rfl, h1, ?_⟩
    rw [r1.length]
    exact P.finV e (.int _)
@[simp] def fMin2 : List D → R D
  | [.int i, .int j] => .ok (.int (if j < i then j else i))
  | _ => .stuck
@[simp] def fMax2 : List D → R D
  | [.int i, .int j] => .ok (.int (if j > i then j else i))
  | _ => .stuck
theorem callv_min2 {X : Cx} : CallV X.K (fun xs H Q => ∃ i j, xs = [.int i, .int j] ∧ Q (.int (if j < i then j else i)) H) .val [false, false] fMin2 := by
  intro cl Hs H ds vs Q W e a P
  obtain ⟨d, v, d', v', rfl, rfl, r, r'⟩ := a.two
  cases d <;> cases d' <;> first | exact P.elim | skip
  cases r.intInv
  cases r'.intInv
  exact ⟨_, _, rfl, P.finV e (.int _)⟩
theorem callv_max2 {X : Cx} : CallV X.K (fun xs H Q => ∃ i j, xs = [.int i, .int j] ∧ Q (.int (if j > i then j else i)) H) .val [false, false] fMax2 := by
  intro cl Hs H ds vs Q W e a P
  obtain ⟨d, v, d', v', rfl, rfl, r, r'⟩ := a.two
  cases d <;> cases d' <;> first | exact P.elim | skip
  cases r.intInv
  cases r'.intInv
  exact ⟨_, _, rfl, P.finV e (.int _)⟩
/-- a list of whole numbers -/
def intsOf : List D → Option (List Int)
  | [] => some []
  | .int i :: r => (intsOf r).map (i :: ·)
  | _ :: _ => none
theorem intsOf_map (ns : List Int) : intsOf (ns.map D.int) = some ns := by
  induction ns with
  | nil => rfl
  | cons n ns ih => rw [List.map_cons, intsOf, ih]; rfl
theorem intsOf_eq : ∀ {ds : List D} {ns : List Int}, intsOf ds = some ns → ds = ns.map D.int
  | [], _, h => by cases h; rfl
  | d :: r, _, h => by
    cases d <;> first | cases h | skip
    rename_i i
    dsimp only [intsOf] at h
    cases q : intsOf r with
    | none => rw [q] at h; cases h
    | some ms =>
      rw [q] at h
      cases h
      rw [intsOf_eq q]
      rfl
def lmax : List Int → Int
  | [] => 0
  | [x] => x
  | x :: y :: r => max x (lmax (y :: r))
def lmin : List Int → Int
  | [] => 0
  | [x] => x
  | x :: y :: r => min x (lmin (y :: r))
theorem RB.intsInv {cl : Cl} {Hs H : Hp} {ds : List D} {ns : List Int} {v : V} (h : RB cl Hs H (.lst ds) v) (e : Same Hs H) (q : intsOf ds = some ns) : ∃ a, v = .ref a ∧ H a = some (.lst (ns.map V.int)) := by
  obtain ⟨p, xs, rfl, h1, r1⟩ := h.lstInv e
  rw [intsOf_eq q] at r1
  rw [r1.ints] at h1
  exact ⟨p, rfl, h1⟩
@[simp] def fList : List D → R D
  | [.lst ds] => .ok (.lst ds)
  | [.tup ds] => .ok (.lst ds)
  | _ => .stuck
@[simp] def fTuple : List D → R D
  | [.lst ds] => .ok (.tup ds)
  | [.tup ds] => .ok (.tup ds)
  | _ => .stuck
theorem callv_list {X : Cx} : CallV X.K (fun xs H Q => ∃ p ys, xs = [.ref p] ∧ (SqL X.K H p ys ∨ SqT X.K H p ys) ∧ ∀ l, H l = none → Q (.ref l) (upd H l (.lst ys))) (.own none) [false] fList := by
  intro cl Hs H ds vs Q W e a P
  obtain ⟨d, v, rfl, rfl, r⟩ := a.one
  cases d <;> first | exact P.elim | skip
  · obtain ⟨p, xs, rfl, h1, r1⟩ := r.lstInv e
    exact ⟨p, xs, rfl, .inl (SqL.of h1), fun l hl => P.finL e hl r1⟩
  · obtain ⟨p, xs, rfl, h1, r1⟩ := r.tupInv e
    exact ⟨p, xs, rfl, .inr (SqT.of h1), fun l hl => P.finL e hl r1⟩
theorem callv_tuple {X : Cx} : CallV X.K (fun xs H Q => ∃ p ys, xs = [.ref p] ∧ ((SqL X.K H p ys ∧ ∀ l, H l = none → Q (.ref l) (upd H l (.tup ys))) ∨ (SqT X.K H p ys ∧ Q (.ref p) H))) .val [false] fTuple := by
  intro cl Hs H ds vs Q W e a P
  obtain ⟨d, v, rfl, rfl, r⟩ := a.one
  cases d <;> first | exact P.elim | skip
  · obtain ⟨p, xs, rfl, h1, r1⟩ := r.lstInv e
    refine ⟨p, xs, rfl, .inl ⟨SqL.of h1, fun l hl => ?_⟩⟩
    exact P _ _ _ (Grow.new e hl) (RK.val (.tup upd_same (RepL.same (Same.updNew (e.free hl)) _ _ r1)))
  · cases r with
    | val r0 =>
      cases r0 with
      | tup h1 r1 => exact ⟨_, _, rfl, .inr ⟨SqT.of (e.at _ _ h1), P.finV e (.tup h1 r1)⟩⟩
end VL
end

noncomputable section
namespace VL
open PySem PySem.Spec PyProof.Rows L2
variable {md : Md}

theorem turn_longrange {P : Program} {w : World} {K : PySem.W.Frag} {tg : Expr} (it : Addr) (lo : Int) (n : Nat) : Turn P w K tg (Itr lo n) [it] it (fun i h => IsLongIter h it (lo + (i : Nat) * 1) ((n : Int) - (i : Nat)) 1) where
  mem := by simp
  obj := fun i h st b hb => by
    have e : b = it := by simpa using hb
    subst e
    exact ⟨_, st, fun v z => by
      have z' : Data.fields _ = Data.cell v := z
      cases z'⟩
  keep := fun i h h' st k => k it (by simp) _ st
  item := by
    intro X hP hw hK hc i pins s σ H E I hf st hg
    subst hP hw hK
    obtain ⟨f0, f1, f2, f3, f4, f5⟩ := hf it (by simp)
    have W := Walks.longrange (prog := X.prog) (w := X.w) (I.ok.hd hc) it lo 1 n
    refine W.item i s _ _ hg st fun v h' tk hv st' kk => ?_
    obtain ⟨t, rfl⟩ := hv
    have I1 : Inv X pins σ H { s with heap := h', toks := tk } := I.turned (fun b o hb e => kk b o (by simpa using hb) e) f0 f1 f3 f4 f5
    refine ⟨_, rfl, go_of (s := { s with heap := h', toks := tk }) (n := "longrange_iterator") st' rfl rfl (by decide) ⟨.int (lo + i), H, I1, ⟨t, ?_⟩, ⟨rfl, rfl⟩, st', fun b hb => (hf b hb).1⟩⟩
    rw [Int.mul_one]
  done := by
    intro X hP hw hK hc i pins s σ H E I hf st hg
    subst hP hw hK
    obtain ⟨f0, f1, f2, f3, f4, f5⟩ := hf it (by simp)
    exact wpAny_pyNext_long_end (I.ok.hd hc) st (by have : n ≤ i := hg; omega) fun h' eb => ⟨rfl, I.turned (t' := s.toks) (fun b o hb e => eb b o hb e) f0 f1 f3 f4 f5⟩
  self := fun _ _ _ _ _ st h => wpAny_pyIter_longiter st h
section
variable {X : Cx} {tg : Expr}
/-- a range object just made, walked, wherever its ends lie -/
theorem range_itA {pins : List (Addr × Obj)} {σ : L2.St} {H : Hp} {s : Shared} {R : It → Hp → Prop} {E : Value → Shared → Prop} {lo hi : Int} {t u v : Tok} {tk : Nat} (I : Inv X pins σ H s)
    (q : R (Itr lo (hi - lo).toNat) H) : wpAny (model X.prog X.w) X.A (pyIter (.ref s.heap.objs.size)) (PIE X pins σ tg R) E { s with heap := s.heap.push { cls := .type "range", data := .fields #[.int lo t, .int hi u, .int 1 v] }, toks := tk } := by
  have I1 : Inv X pins σ H { s with heap := s.heap.push { cls := .type "range", data := .fields #[.int lo t, .int hi u, .int 1 v] }, toks := tk } := I.kept fun b o e => Heap.get?_push_of_some _ e
  have e1 : lo + ((0 : Nat) : Int) * 1 = lo := by simp
  have e2 : (((hi - lo).toNat : Nat) : Int) - ((0 : Nat) : Int) = Builtin.Range.rangeSize lo hi 1 := by rw [rangeSize_one]; split <;> omega
  cases z : Builtin.Range.small lo hi 1 with
  | true =>
    refine wpAny_pyIter_range (IsRange.new ..) z ?_
    refine ⟨_, [_], _, _, H, rfl, I1.kept (t' := tk) fun b o e => Heap.get?_push_of_some _ e, turn_range _ lo (hi - lo).toNat, ?_, fun b hb => ?_, q⟩
    · show IsRangeIter _ _ (lo + ((0 : Nat) : Int) * 1) ((((hi - lo).toNat : Nat) : Int) - ((0 : Nat) : Int)) 1
      rw [e1, e2]
      exact Heap.get?_push_size _ rfl
    · have e := List.mem_singleton.mp hb
      subst e
      exact I1.fpOk (Nat.le_refl _) (I1.hok.fresh (Nat.le_refl _))
  | false =>
    refine wpAny_pyIter_longrange (IsRange.new ..) z ?_
    refine ⟨_, [_], _, _, H, rfl, I1.kept (t' := tk) fun b o e => Heap.get?_push_of_some _ e, turn_longrange _ lo (hi - lo).toNat, ?_, fun b hb => ?_, q⟩
    · show IsLongIter _ _ (lo + ((0 : Nat) : Int) * 1) ((((hi - lo).toNat : Nat) : Int) - ((0 : Nat) : Int)) 1
      rw [e1, e2]
      exact Heap.get?_push_size _ rfl
    · have e := List.mem_singleton.mp hb
      subst e
      exact I1.fpOk (Nat.le_refl _) (I1.hok.fresh (Nat.le_refl _))
def iRngA1 (ta : TA) : TI := fun σ H R => ta σ H fun vs H1 => ∃ j : Int, vs = [.int j] ∧ R (Itr 0 j.toNat) H1
def iRngA2 (ta : TA) : TI := fun σ H R => ta σ H fun vs H1 => ∃ i j : Int, vs = [.int i, .int j] ∧ R (Itr i (j - i).toNat) H1
theorem pi_rangeA1 {a : Expr} {ta : TA} {p pos : Pos} (hg : Gl X "range") (hm : X.mg "range" = none) (ha : PA X [a] ta) (hs : starEach [a] X.env = [(false, eval a X.env)] := by rfl) : PI X tg (.Call (.Name "range" p) [a] [] pos) (iRngA1 ta) := by
  refine ⟨fun pins s σ H R I h => ?_⟩
  refine Call_ (ld_blt I hg hm boot_range (PyProof.Rows.callWith_type1 (thn (ha.run pos pins s σ H _ I h) fun us s1 ⟨vs, H1, I1, r1, q1⟩ => ?_) hs rfl))
  obtain ⟨j, e, q⟩ := q1
  subst e
  cases r1 with
  | cons r rr =>
    cases rr
    obtain ⟨t, rfl⟩ := r
    exact call_range_1 (range_itA I1 (by simpa using q))
theorem pi_rangeA2 {a b : Expr} {ta : TA} {p pos : Pos} (hg : Gl X "range") (hm : X.mg "range" = none) (ha : PA X [a, b] ta) (hs : starEach [a, b] X.env = [(false, eval a X.env), (false, eval b X.env)] := by rfl) (hs2 : starEach [b] X.env = [(false, eval b X.env)] := by rfl) :
    PI X tg (.Call (.Name "range" p) [a, b] [] pos) (iRngA2 ta) := by
  refine ⟨fun pins s σ H R I h => ?_⟩
  refine Call_ (ld_blt I hg hm boot_range (PyProof.Rows.callWith_type1 (thn (ha.run pos pins s σ H _ I h) fun us s1 ⟨vs, H1, I1, r1, q1⟩ => ?_) (by rw [hs, hs2]) (by rw [hs2]; rfl)))
  obtain ⟨i, j, e, q⟩ := q1
  subst e
  cases r1 with
  | cons r rr =>
    cases rr with
    | cons r' rr =>
      cases rr
      obtain ⟨t, rfl⟩ := r
      obtain ⟨t', rfl⟩ := r'
      exact call_range_2 (range_itA I1 q)
end

def setV (σ : L2.St) : List Nat → List V → L2.St
  | i :: is, v :: vs => setV (σ.set i (some v)) is vs
  | _, _ => σ
@[simp] def setD (r : Sl) : List Nat → List D → Sl
  | i :: is, d :: ds => setD (r.set i (some d)) is ds
  | _, _ => r
def setK (ks : List Kd) : List Nat → List Kd
  | i :: is => setK (ks.set i .val) is
  | [] => ks
inductive Tg where
  | one (i : Nat)
  | tup (is : List Nat)
@[simp] def Tg.is : Tg → List Nat
  | .one i => [i]
  | .tup is => is
@[simp] def Tg.un : Tg → D → R (List D)
  | .one _, d => .ok [d]
  | .tup is, .tup ds => if ds.length = is.length then .ok ds else .stuck
  | .tup _, _ => .stuck
def WGx (X : Cx) (tg : Expr) : TG := fun v σ H Q => ∃ t, PG X tg t ∧ t v σ H Q
theorem pg_wg {X : Cx} {tg : Expr} : PG X tg (WGx X tg) := ⟨fun pins s σ H v u Q I r ⟨t, p, h⟩ => p.run pins s σ H v u Q I r h⟩
structure SG (X : Cx) (tg : Expr) (t : Tg) : Prop where
  run : ∀ (cl : Cl) (Hs H : Hp) (σ : L2.St) (d : D) (v : V) (ds : List D) (Q : L2.St → Hp → Prop), Same Hs H → Rep cl Hs d v → t.un d = .ok ds → (∀ vs, RepL cl Hs ds vs → Q (setV σ t.is vs) H) → WGx X tg v σ H Q
section
variable {X : Cx} {pos : Pos}
theorem sg_name {i : Nat} {x : Str} (hN : X.N.Nodup) (hi : X.N[i]? = some x := by rfl) (hx : Loc X.env.scope x := by first | exact Or.inl rfl | exact Or.inr rfl)
    (hf : X.fn x = true ∨ X.env.scope.names.lookup x = some .local := by first | exact .inl rfl | exact .inr rfl | assumption) : SG X (.Name x pos) (.one i) := by
  refine ⟨fun cl Hs H σ d v ds Q e r h q => ?_⟩
  cases h
  exact ⟨_, pg_name hN hi hx hf, q [v] (.cons r .nil)⟩
def gsN : List Nat → TGs
  | [] => L2.gNil
  | i :: is => L2.gCons (gName i) (gsN is)
theorem gsN_read : ∀ {is : List Nat} {vs : List V} {σ : L2.St} {H : Hp} {Q : L2.St → Hp → Prop}, vs.length = is.length → Q (setV σ is vs) H → gsN is vs σ H Q
  | [], [], _, _, _, _, q => ⟨rfl, q⟩
  | [], _ :: _, _, _, _, h, _ => by cases h
  | _ :: _, [], _, _, _, h, _ => by cases h
  | i :: is, v :: vs, σ, H, Q, h, q => ⟨v, vs, rfl, gsN_read (by simpa using h) q⟩
theorem sgs_nil : PGs X [] (gsN []) := pgs_nil
theorem sgs_cons {i : Nat} {x : Str} {es : List Expr} {is : List Nat} (hN : X.N.Nodup) (ht : PGs X es (gsN is)) (hi : X.N[i]? = some x := by rfl) (hx : Loc X.env.scope x := by first | exact Or.inl rfl | exact Or.inr rfl)
    (hf : X.fn x = true ∨ X.env.scope.names.lookup x = some .local := by first | exact .inl rfl | exact .inr rfl | assumption)
    (hs : (assignEach (.Name x pos :: es) X.env).map (·.2) = assign (.Name x pos) X.env :: (assignEach es X.env).map (·.2) := by rfl) : PGs X (.Name x pos :: es) (gsN (i :: is)) := pgs_cons (pg_name hN hi hx hf) ht hs
theorem sg_tup {es : List Expr} {is : List Nat} {k : Nat} (hc : X.calm = true) (h : PGs X es (gsN is)) (hn : (assignEach es X.env).length = is.length := by rfl) (hst : (assignEach es X.env).findIdx? (·.1) = none := by rfl) : SG X (.Tuple es k pos) (.tup is) := by
  refine ⟨fun cl Hs H σ d v ds Q e r hu q => ?_⟩
  cases d <;> first | (cases hu; done) | skip
  dsimp only [Tg.un] at hu
  split at hu
  · rename_i hl
    cases hu
    cases r with
    | tup h1 h2 => exact ⟨_, pg_tup hc h hn hst, _, _, rfl, SqT.of (e.at _ _ h1), by rw [h2.length]; exact hl, gsN_read (by rw [h2.length]; exact hl) (q _ h2)⟩
  · cases hu
end
section
variable {E : En} {Hs H : Hp} {ks : List Kd} {r : Sl} {σ : L2.St}
theorem StOk.put {As : List Addr} {i : Nat} {k : Kd} {d : D} {v : V} (S : StOk E Hs H ks r σ As) (hk : ks[i]? = some k) (rp : Rep E.cl Hs d v) : ∃ As', StOk E Hs H (ks.set i .val) (r.set i (some d)) (σ.set i (some v)) As' := by
  obtain ⟨pre, A, post, e, _, f, _, _⟩ := S.sl.at_ i hk
  have sub : (pre ++ ([] ++ post)).Sublist As := by
    rw [e]
    exact List.Sublist.append (List.Sublist.refl _) (by
      rw [List.nil_append]
      exact List.sublist_append_right _ _)
  exact ⟨_, f .val d v [] (.val rp), S.nd.sublist sub, fun a ha => S.dis a (sub.subset ha), S.es, S.sub, S.eb, S.new, S.dom, S.tb⟩
theorem StRel.put {i : Nat} {k : Kd} {d : D} {v : V} (S : StRel E Hs H ks r σ) (hk : ks[i]? = some k) (rp : Rep E.cl Hs d v) : StRel E Hs H (ks.set i .val) (r.set i (some d)) (σ.set i (some v)) :=
  let ⟨_, s⟩ := S
  s.put hk rp
theorem StRel.wipe1 {i : Nat} {k k' : Kd} (S : StRel E Hs H ks r σ) (hk : ks[i]? = some k) (x : Option V) : StRel E Hs H (ks.set i k') (r.set i none) (σ.set i x) := by
  obtain ⟨As, S⟩ := S
  obtain ⟨pre, A, post, e, _, _, f, _⟩ := S.sl.at_ i hk
  have sub : (pre ++ post).Sublist As := by
    rw [e]
    exact List.Sublist.append (List.Sublist.refl _) (List.sublist_append_right _ _)
  exact ⟨_, f k' x, S.nd.sublist sub, fun a ha => S.dis a (sub.subset ha), S.es, S.sub, S.eb, S.new, S.dom, S.tb⟩
theorem StRel.puts : ∀ {is : List Nat} {ks : List Kd} {r : Sl} {σ : L2.St} {ds : List D} {vs : List V}, StRel E Hs H ks r σ → (∀ i ∈ is, i < ks.length) → ds.length = is.length → RepL E.cl Hs ds vs → StRel E Hs H (setK ks is) (setD r is ds) (setV σ is vs)
  | [], _, _, _, [], _, S, _, _, rp => by cases rp; exact S
  | [], _, _, _, _ :: _, _, _, _, h, _ => by cases h
  | _ :: _, _, _, _, [], _, _, _, h, _ => by cases h
  | i :: is, ks, r, σ, d :: ds, _, S, hi, hl, rp => by
    cases rp with
    | cons r1 r2 =>
      have h0 := hi i List.mem_cons_self
      refine StRel.puts (is := is) (S.put (k := ks[i]) (by simp [h0]) r1) (fun j hj => ?_) (by simpa using hl) r2
      rw [List.length_set]
      exact hi j (List.mem_cons_of_mem _ hj)
end
theorem Tg.un_len {t : Tg} {d : D} {ds : List D} (h : t.un d = .ok ds) : ds.length = t.is.length := by
  cases t with
  | one i => cases h; rfl
  | tup is =>
    cases d <;> first | (cases h; done) | skip
    dsimp only [Tg.un] at h
    split at h
    · rename_i e
      cases h
      exact e
    · cases h

/-- all lists are within the line -/
def LenOk (H : Hp) : Prop := ∀ a xs, H a = some (.lst xs) → xs.length ≤ szL
def LenOkT (H : Hp) : Prop := ∀ a xs, H a = some (.tup xs) → xs.length ≤ szL
theorem Inv.lens {X : Cx} {pins : List (Addr × Obj)} {σ : L2.St} {H : Hp} {s : Shared} (I : Inv X pins σ H s) : LenOk H ∧ LenOkT H :=
  ⟨fun a xs e => by
    have q := (I.hok a _ e).1
    rw [szL_eq] at q
    exact q, fun a xs e => by
    have q := (I.hok a _ e).1
    rw [szL_eq] at q
    exact q⟩
theorem we_len {X : Cx} {e : Expr} {σ : L2.St} {H : Hp} {Q : VK} (h : WEx X e σ H fun v H' => LenOk H' ∧ LenOkT H' → Q v H') : WEx X e σ H Q := fun pins s I => thn (h pins s I) fun u s' ⟨v, H', I', r, q⟩ => ⟨v, H', I', r, q (VL.Inv.lens I')⟩
structure ItOk (cl : Cl) (J : It) (ds : List D) (Hs1 Bq : Hp) : Prop where
  len : ds.length ≤ szL
  go : ∀ Hs H, Same Hs1 Hs → Same Hs H → Same Bq H → ∀ i, i < ds.length → J.go i H
  stop : ∀ Hs H, Same Hs1 Hs → Same Hs H → Same Bq H → J.stop ds.length H
  yld : ∀ Hs H, Same Hs1 Hs → Same Hs H → Same Bq H → ∀ i d x H', ds[i]? = some d → J.yld i H x H' → ∃ Hs', Grow Hs H Hs' H' ∧ Rep cl Hs' d x
/-- what may be walked while others change: stable, or borrowed from the caller; md = false: while nothing is changed -/
inductive RQ (cl : Cl) (Hs Bq : Hp) : D → V → Prop
  | val {d : D} {v : V} : Rep cl Hs d v → RQ cl Hs Bq d v
  | lst {a : Addr} {ds : List D} {xs : List V} : Bq a = some (.lst xs) → RepL cl Hs ds xs → RQ cl Hs Bq (.lst ds) (.ref a)
  | dct {a : Addr} {ds : List (Key × D)} {xs : List (Key × V)} : Rd Bq a (.dK xs) → RepK cl Hs ds xs → RQ cl Hs Bq (.dct ds) (.ref a)
  | obj {C : Str} {ds : List (Str × D)} {v : V} : RQ cl Hs Bq (.obj C ds) v
def bq (E : En) (md : Bool) (H : Hp) : Hp := if md then E.b else H
def PostQ (E : En) (md : Bool) (Hs H : Hp) (Q : VK) (W : WX0) : R D → Prop
  | .stuck => False
  | .exc x => ∀ c dd Hs' H', Grow Hs H Hs' H' → XRep E.cl Hs' H' x c dd → W c dd H'
  | .ok d => ∀ v Hs' H', Grow Hs H Hs' H' → RQ E.cl Hs' (bq E md H') d v → Q v H'
theorem PostQ.grow {E : En} {md : Bool} {Hs H Hs' H' : Hp} {Q : VK} {W : WX0} {r : R D} (P : PostQ E md Hs H Q W r) (g : Grow Hs H Hs' H') : PostQ E md Hs' H' Q W r := by
  cases r with
  | stuck => exact P
  | exc x => exact fun c dd Hs2 H2 g2 x2 => P c dd Hs2 H2 (g.trans g2) x2
  | ok d => exact fun v Hs2 H2 g2 => P v Hs2 H2 (g.trans g2)
structure SQ [md : Md] (X : Cx) (E : En) (ks : List Kd) (md : Bool) (e : Expr) (g : Sl → R D) : Prop where
  run : ∀ (Hs H : Hp) (r : Sl) (σ : L2.St) (W : WX) (Q : VK), Takes X W → StRel E Hs H ks r σ → PostQ E md Hs H Q (fun c dd H' => W c dd σ H') (g r) → WEx X e σ H Q
section
variable {X : Cx} {E : En} {ks : List Kd} {md : Bool} {e : Expr} {g : Sl → R D} {pos : Pos}
theorem sq_val (h : SE X E ks .val e g) : SQ X E ks md e g := by
  refine ⟨fun Hs H r σ W Q tk S P => ?_⟩
  refine h.run _ _ _ _ _ _ tk S ?_
  cases q : g r with
  | stuck => rw [q] at P; exact P
  | exc x => rw [q] at P; exact P
  | ok d =>
    rw [q] at P
    exact fun v Hs' H' g1 k1 => P v Hs' H' g1 (.val k1.rep)
theorem sq_bor (h : SE X E ks .bor e g) : SQ X E ks false e g := by
  refine ⟨fun Hs H r σ W Q tk S P => ?_⟩
  refine h.run _ _ _ _ _ _ tk S ?_
  cases q : g r with
  | stuck => rw [q] at P; exact P
  | exc x => rw [q] at P; exact P
  | ok d =>
    rw [q] at P
    intro v Hs' H' g1 k1
    refine P v Hs' H' g1 ?_
    cases k1.rb with
    | val h1 => exact .val h1
    | lst h1 h2 => exact .lst h1 h2
    | dct h1 h2 => exact .dct h1 h2
    | obj _ _ _ => exact .obj
theorem sq_par {i : Nat} {x : Str} (hk : ks[i]? = some .bor := by rfl) (hN : X.N[i]? = some x := by rfl) (hv : Vis X.env.scope x := by first | exact Or.inl rfl | exact Or.inr (Or.inl rfl) | exact Or.inr (Or.inr rfl))
    (hq : NmOk x) : SQ X E ks true (.Name x pos) (gVar i) := by
  refine ⟨fun Hs H r σ W Q tk S P => ?_⟩
  refine we_of (pe_var hN hv hq.1 hq.2) ?_
  cases q : gVar i r with
  | stuck => rw [q] at P; exact P.elim
  | exc x => exact (gVar_exc q).elim
  | ok d =>
    rw [q] at P
    obtain ⟨v, A, e, o⟩ := S.get hk (gVar_ok q)
    refine ⟨v, e, P v Hs H (Grow.refl S.sub) ?_⟩
    cases o with
    | borV rp => exact .val rp
    | borL h1 h2 => exact .lst h1 h2
    | borK h1 h2 => exact .dct h1 h2
    | borO _ _ _ => exact .obj
end
def WIx (X : Cx) (tg iter : Expr) : TI := fun σ H R => ∃ wi, PI X tg iter wi ∧ wi σ H R
theorem pi_wi {X : Cx} {tg iter : Expr} : PI X tg iter (WIx X tg iter) := ⟨fun pins s σ H R I ⟨wi, p, h⟩ => p.run pins s σ H R I h⟩
def PostI (E : En) (md : Bool) (Hs H : Hp) (Rr : It → Hp → Prop) (W : WX0) : R (List D) → Prop
  | .stuck => False
  | .exc x => ∀ c dd Hs' H', Grow Hs H Hs' H' → XRep E.cl Hs' H' x c dd → W c dd H'
  | .ok ds => ∀ J Hs' H', Grow Hs H Hs' H' → ItOk E.cl J ds Hs' (bq E md H') → Rr J H'
theorem PostI.grow {E : En} {md : Bool} {Hs H Hs' H' : Hp} {Q : It → Hp → Prop} {W : WX0} {r : R (List D)} (P : PostI E md Hs H Q W r) (g : Grow Hs H Hs' H') : PostI E md Hs' H' Q W r := by
  cases r with
  | stuck => exact P
  | exc x => exact fun c dd Hs2 H2 g2 x2 => P c dd Hs2 H2 (g.trans g2) x2
  | ok d => exact fun v Hs2 H2 g2 => P v Hs2 H2 (g.trans g2)
structure SI [md : Md] (X : Cx) (E : En) (ks : List Kd) (md : Bool) (tg iter : Expr) (g : Sl → R (List D)) : Prop where
  run : ∀ (Hs H : Hp) (r : Sl) (σ : L2.St) (W : WX) (Q : It → Hp → Prop), Takes X W → StRel E Hs H ks r σ → PostI E md Hs H Q (fun c dd H' => W c dd σ H') (g r) → WIx X tg iter σ H Q
/-- what is walked of a value -/
@[simp] def dIter : D → R (List D)
  | .lst ds => .ok ds
  | .tup ds => .ok ds
  | .str x => if x.cps.size ≤ szL then .ok (x.cps.toList.map fun c => .str ⟨#[c]⟩) else .stuck
  | _ => .stuck
@[simp] def gIter (g : Sl → R D) : Sl → R (List D) := fun r => do
  let d ← g r
  dIter d
section
variable {X : Cx} {E : En} {ks : List Kd} {md : Bool} {tg e e2 : Expr} {g g2 : Sl → R D} {pos p : Pos}
theorem PostQ.ofI {Hs H : Hp} {Q : It → Hp → Prop} {W : WX0} {r : R D} {f : D → R (List D)} (P : PostI E md Hs H Q W (r >>= f)) {Q1 : VK}
    (h : ∀ d v Hs' H', r = .ok d → Grow Hs H Hs' H' → RQ E.cl Hs' (bq E md H') d v → PostI E md Hs' H' Q W (f d) → Q1 v H') : PostQ E md Hs H Q1 W r := by
  cases r with
  | stuck => exact P
  | exc x => exact P
  | ok d => exact fun v Hs' H' g rk => h d v Hs' H' rfl g rk (PostI.grow (r := f d) P g)
theorem RQ.root {cl : Cl} {Hs Bq H Hs' : Hp} {ds : List D} {v : V} (q : RQ cl Hs Bq (.lst ds) v) : ∃ a xs, v = .ref a ∧ RepL cl Hs ds xs ∧ ∀ Hs' H, Same Hs Hs' → Same Hs' H → Same Bq H → H a = some (.lst xs) := by
  cases q with
  | val r =>
    cases r with
    | lst h1 h2 => exact ⟨_, _, rfl, h2, fun Hs' H e1 e2 _ => e2.at _ _ (e1.at _ _ h1)⟩
  | lst h1 h2 => exact ⟨_, _, rfl, h2, fun Hs' H _ _ e3 => e3.at _ _ h1⟩
theorem bq_same {H : Hp} (hb : Same E.b H) : Same (bq E md H) H := by
  unfold bq
  split
  · exact hb
  · exact Same.refl _
theorem ItOk.lst {K : PySem.W.Frag} {cl : Cl} {a : Addr} {xs : List V} {ds : List D} {Hs Bq : Hp} (rp : RepL cl Hs ds xs) (rt : ∀ Hs' H, Same Hs Hs' → Same Hs' H → Same Bq H → H a = some (.lst xs)) (hz : xs.length ≤ szL) : ItOk cl (Itl K a) ds Hs Bq where
  len := by rw [← rp.length]; exact hz
  go := fun Hs' H e1 e2 e3 i hi => by
    obtain ⟨v, e, _⟩ := rp.get (d := ds[i]) (i := i) (by simp [hi])
    exact ⟨xs, v, SqL.of (rt Hs' H e1 e2 e3), e⟩
  stop := fun Hs' H e1 e2 e3 => ⟨xs, SqL.of (rt Hs' H e1 e2 e3), by rw [rp.length]; exact Nat.le_refl _⟩
  yld := fun Hs' H e1 e2 e3 i d x H' hd y => by
    obtain ⟨rfl, y⟩ := y
    obtain ⟨v, e, r⟩ := rp.get hd
    have q := y xs (SqL.of (rt Hs' _ e1 e2 e3))
    rw [e] at q
    cases q
    exact ⟨Hs', Grow.refl e2, Rep.same e1 _ _ r⟩
theorem ItOk.tup {K : PySem.W.Frag} {cl : Cl} {a : Addr} {xs : List V} {ds : List D} {Hs Bq : Hp} (rp : RepL cl Hs ds xs) (ha : Hs a = some (.tup xs)) (hz : xs.length ≤ szL) : ItOk cl (Itt K a) ds Hs Bq where
  len := by rw [← rp.length]; exact hz
  go := fun Hs' H e1 e2 e3 i hi => by
    obtain ⟨v, e, _⟩ := rp.get (d := ds[i]) (i := i) (by simp [hi])
    exact ⟨xs, v, SqT.of (e2.at _ _ (e1.at _ _ ha)), e⟩
  stop := fun Hs' H e1 e2 e3 => ⟨xs, SqT.of (e2.at _ _ (e1.at _ _ ha)), by rw [rp.length]; exact Nat.le_refl _⟩
  yld := fun Hs' H e1 e2 e3 i d x H' hd y => by
    obtain ⟨rfl, y⟩ := y
    obtain ⟨v, e, r⟩ := rp.get hd
    have q := y xs (SqT.of (e2.at _ _ (e1.at _ _ ha)))
    rw [e] at q
    cases q
    exact ⟨Hs', Grow.refl e2, Rep.same e1 _ _ r⟩
theorem ItOk.str {cl : Cl} {x : Str} {Hs Bq : Hp} (hz : x.cps.size ≤ szL) : ItOk cl (Its x) (x.cps.toList.map fun c => .str ⟨#[c]⟩) Hs Bq where
  len := by rw [List.length_map]; exact hz
  go := fun Hs' H e1 e2 e3 i hi => by
    rw [List.length_map] at hi
    exact hi
  stop := fun Hs' H e1 e2 e3 => by
    show x.cps.size ≤ _
    rw [List.length_map]
    exact Nat.le_refl _
  yld := fun Hs' H e1 e2 e3 i d v H' hd y => by
    obtain ⟨rfl, c, hc, rfl⟩ := y
    rw [List.getElem?_map, Array.getElem?_toList, hc] at hd
    cases hd
    exact ⟨Hs', Grow.refl e2, .str _⟩
theorem si_it (h : SQ X E ks md e g) : SI X E ks md tg e (gIter g) := by
  refine ⟨fun Hs H r σ W Q tk S P => ?_⟩
  have sb : Same E.b H := let ⟨_, s⟩ := S; s.eb
  unfold gIter at P
  have key : ∀ (wi : TI) (Q1 : VK), PI X tg e wi → (WEx X e σ H Q1 → wi σ H Q) → WEx X e σ H Q1 → WIx X tg e σ H Q := fun wi Q1 p f w => ⟨wi, p, f w⟩
  cases q : g r with
  | stuck => rw [q] at P; exact P.elim
  | exc x =>
    refine ⟨_, pi_list pe_we, ?_⟩
    refine h.run _ _ _ _ _ _ tk S ?_
    rw [q] at P ⊢
    exact P
  | ok d =>
    cases d with
    | lst ds =>
      refine ⟨_, pi_list pe_we, ?_⟩
      refine we_len (h.run _ _ _ _ _ _ tk S (PostQ.ofI P fun d v Hs1 H1 e1 g1 k1 P1 => ?_))
      rw [q] at e1
      cases e1
      obtain ⟨a, xs, rfl, rp, rt⟩ := k1.root (H := H1) (Hs' := Hs1)
      intro hl
      have e0 := rt Hs1 H1 (Same.refl _) g1.sub (bq_same (sb.trans g1.h))
      exact ⟨a, rfl, ⟨xs, SqL.of e0⟩, P1 _ Hs1 H1 (Grow.refl g1.sub) (ItOk.lst rp rt (hl.1 _ _ e0))⟩
    | tup ds =>
      refine ⟨_, pi_tup pe_we, ?_⟩
      refine we_len (h.run _ _ _ _ _ _ tk S (PostQ.ofI P fun d v Hs1 H1 e1 g1 k1 P1 => ?_))
      rw [q] at e1
      cases e1
      intro hl
      cases k1 with
      | val k =>
        cases k with
        | tup h1 h2 =>
          have e0 := g1.sub.at _ _ h1
          exact ⟨_, rfl, ⟨_, SqT.of e0⟩, P1 _ Hs1 H1 (Grow.refl g1.sub) (ItOk.tup h2 h1 (hl.2 _ _ e0))⟩
    | str x =>
      refine ⟨_, pi_str pe_we, ?_⟩
      refine h.run _ _ _ _ _ _ tk S (PostQ.ofI P fun d v Hs1 H1 e1 g1 k1 P1 => ?_)
      rw [q] at e1
      cases e1
      cases k1 with
      | val k =>
        cases k
        dsimp only [dIter] at P1
        split at P1
        · rename_i hz
          exact ⟨_, rfl, P1 _ Hs1 H1 (Grow.refl g1.sub) (ItOk.str hz)⟩
        · exact P1.elim
    | _ => rw [q] at P; exact P.elim
/-- lo, lo + 1, .. -/
def rangeD (lo : Int) (n : Nat) : List D := (List.range n).map fun (i : Nat) => D.int (lo + i)
theorem rangeD_len (lo : Int) (n : Nat) : (rangeD lo n).length = n := by simp [rangeD]
theorem ItOk.rng {cl : Cl} {lo : Int} {n : Nat} {Hs Bq : Hp} (hz : n ≤ szL) : ItOk cl (Itr lo n) (rangeD lo n) Hs Bq where
  len := by rw [rangeD_len]; exact hz
  go := fun Hs' H e1 e2 e3 i hi => by rw [rangeD_len] at hi; exact hi
  stop := fun Hs' H e1 e2 e3 => by rw [rangeD_len]; exact Nat.le_refl n
  yld := fun Hs' H e1 e2 e3 i d v H' hd y => by
    obtain ⟨rfl, rfl⟩ := y
    unfold rangeD at hd
    rw [List.getElem?_map] at hd
    by_cases hi : i < n
    · rw [List.getElem?_range hi] at hd
      cases hd
      exact ⟨Hs', Grow.refl e2, .int _⟩
    · rw [List.getElem?_eq_none (by simpa using hi)] at hd
      cases hd
def dRange1 : D → R (List D)
  | .int j => if j.toNat ≤ szL then .ok (rangeD 0 j.toNat) else .stuck
  | _ => .stuck
def dRange2 : D → D → R (List D)
  | .int i, .int j => if (j - i).toNat ≤ szL then .ok (rangeD i (j - i).toNat) else .stuck
  | _, _ => .stuck
@[simp] def gRange1 (g : Sl → R D) : Sl → R (List D) := fun r => do
  let d ← g r
  dRange1 d
@[simp] def gRange2 (g g2 : Sl → R D) : Sl → R (List D) := fun r => do
  let d ← g r
  let d2 ← g2 r
  dRange2 d d2
theorem Post.ofI {k : Kd} {Hs H : Hp} {Q : It → Hp → Prop} {W : WX0} {r : R D} {f : D → R (List D)} (P : PostI E md Hs H Q W (r >>= f)) {Q1 : VK}
    (h : ∀ d v Hs' H', r = .ok d → Grow Hs H Hs' H' → RK E.cl k H Hs' H' d v → PostI E md Hs' H' Q W (f d) → Q1 v H') : Post E.cl k Hs H Q1 W r := by
  cases r with
  | stuck => exact P
  | exc x => exact P
  | ok d => exact fun v Hs' H' g rk => h d v Hs' H' rfl g rk (PostI.grow (r := f d) P g)
theorem wa_one {σ : L2.St} {H : Hp} {Q : List V → Hp → Prop} (h : WEx X e σ H fun v H' => Q [v] H') (hs : starEach (e :: []) X.env = (false, eval e X.env) :: starEach [] X.env := by rfl) : WAx X [e] σ H Q := wa_of (pa_cons pe_we pa_nil hs) h
theorem wa_two {σ : L2.St} {H : Hp} {Q : List V → Hp → Prop} (h : WEx X e σ H fun v H' => WEx X e2 σ H' fun v2 H2 => Q [v, v2] H2) (hs : starEach (e :: [e2]) X.env = (false, eval e X.env) :: starEach [e2] X.env := by rfl) (hs2 : starEach (e2 :: []) X.env = (false, eval e2 X.env) :: starEach [] X.env := by rfl) : WAx X [e, e2] σ H Q :=
  wa_of (pa_cons pe_we (pa_cons pe_we pa_nil hs2) hs) h
theorem si_range1 (hm : X.mg "range" = none) (h : SE X E ks .bor e g) (hg : Gl X "range" := by rfl) (hs : starEach [e] X.env = [(false, eval e X.env)] := by rfl) : SI X E ks md tg (.Call (.Name "range" p) [e] [] pos) (gRange1 g) := by
  refine ⟨fun Hs H r σ W Q tk S P => ?_⟩
  refine ⟨_, pi_rangeA1 hg hm pa_wa hs, ?_⟩
  refine wa_one (h.run _ _ _ _ _ _ tk S (Post.ofI P fun d v Hs1 H1 e1 g1 k1 P1 => ?_)) hs
  cases d <;> first | exact P1.elim | skip
  cases k1.rb.intInv
  dsimp only [dRange1] at P1
  split at P1
  · rename_i z
    exact ⟨_, rfl, P1 _ Hs1 H1 (Grow.refl g1.sub) (ItOk.rng z)⟩
  · exact P1.elim
theorem si_range2 (hm : X.mg "range" = none) (h : SE X E ks .bor e g) (h2 : SE X E ks .bor e2 g2) (hg : Gl X "range" := by rfl) (hs : starEach [e, e2] X.env = [(false, eval e X.env), (false, eval e2 X.env)] := by rfl) (hs2 : starEach [e2] X.env = [(false, eval e2 X.env)] := by rfl) :
    SI X E ks md tg (.Call (.Name "range" p) [e, e2] [] pos) (gRange2 g g2) := by
  refine ⟨fun Hs H r σ W Q tk S P => ?_⟩
  refine ⟨_, pi_rangeA2 hg hm pa_wa hs hs2, ?_⟩
  refine wa_two (h.run _ _ _ _ _ _ tk S (Post.ofI (f := fun d => g2 r >>= fun d2 => dRange2 d d2) P fun d v Hs1 H1 e1 g1 k1 P1 => ?_)) (by rw [hs, hs2]) hs2
  refine h2.run _ _ _ _ _ _ tk (S.grow g1) (Post.ofI P1 fun d2 v2 Hs2 H2 e2 gg k2 P2 => ?_)
  cases d <;> cases d2 <;> first | exact P2.elim | skip
  cases k1.rb.intInv
  cases k2.rb.intInv
  dsimp only [dRange2] at P2
  split at P2
  · rename_i z
    exact ⟨_, _, rfl, P2 _ Hs2 H2 (Grow.refl gg.sub) (ItOk.rng z)⟩
  · exact P2.elim
end

def mapR {α β : Type} (f : α → R β) : List α → R (List β)
  | [] => .ok []
  | a :: l => do
    let b ← f a
    let bs ← mapR f l
    .ok (b :: bs)
theorem mapR_ok {α β : Type} {f : α → R β} : ∀ {l : List α} {bs : List β}, mapR f l = .ok bs → bs.length = l.length ∧ ∀ (i : Nat) a, l[i]? = some a → ∃ b, bs[i]? = some b ∧ f a = .ok b
  | [], bs, h => by
    cases h
    exact ⟨rfl, fun i a z => by simp at z⟩
  | a :: l, bs, h => by
    dsimp only [mapR] at h
    cases q : f a with
    | stuck => rw [q] at h; cases h
    | exc x => rw [q] at h; cases h
    | ok b =>
      rw [q] at h
      cases q2 : mapR f l with
      | stuck => rw [q2] at h; cases h
      | exc x => rw [q2] at h; cases h
      | ok bs' =>
        rw [q2] at h
        cases h
        obtain ⟨h1, h2⟩ := mapR_ok q2
        refine ⟨by simp [h1], fun i a' z => ?_⟩
        cases i with
        | zero =>
          simp at z
          subst z
          exact ⟨b, rfl, q⟩
        | succ i =>
          obtain ⟨b', e, e2⟩ := h2 i a' (by simpa using z)
          exact ⟨b', by simpa using e, e2⟩
def noX {α : Type} : R α → R α
  | .ok a => .ok a
  | _ => .stuck
theorem noX_ok {α : Type} {r : R α} {a : α} (h : noX r = .ok a) : r = .ok a := by
  cases r <;> first | cases h | skip
  rfl
@[simp] def wipeD (r : Sl) : List Nat → Sl
  | [] => r
  | v :: vs => (wipeD r vs).set v none
def wipeK (ks : List Kd) : List Nat → List Kd
  | [] => ks
  | v :: vs => (wipeK ks vs).set v .val
/-- one turn of a comprehension -/
def gTurn (t : Tg) (vs : List Nat) (tt : Sl → R Bool) (ge : Sl → R D) (r : Sl) (d : D) : R (Option D) := do
  let xs ← t.un d
  let b ← tt (setD (wipeD r vs) t.is xs)
  if b then (do
    let y ← ge (setD (wipeD r vs) t.is xs)
    .ok (some y)) else .ok none
def gComp (gi : Sl → R (List D)) (t : Tg) (vs : List Nat) (tt : Sl → R Bool) (ge : Sl → R D) : Sl → R D := fun r => do
  let ds ← gi r
  let os ← noX (mapR (gTurn t vs tt ge r) ds)
  .ok (.lst (os.filterMap id))

@[simp] def gYes : Sl → R Bool := fun _ => .ok true
def WPs (X : Cx) (ifs : List Expr) : TT := fun σ H Q => ∃ t, PTs X ifs t ∧ t σ H Q
theorem pts_wp {X : Cx} {ifs : List Expr} : PTs X ifs (WPs X ifs) := ⟨fun pins s σ H Q I ⟨t, p, h⟩ => p.run pins s σ H Q I h⟩
structure SP1 [md : Md] (X : Cx) (E : En) (ks : List Kd) (ifs : List Expr) (g : Sl → R Bool) : Prop where
  run : ∀ (Hs H : Hp) (r : Sl) (σ : L2.St) (W : WX) (Q : Bool → Hp → Prop), Takes X W → StRel E Hs H ks r σ → PostT E.cl Hs H Q (fun c dd H' => W c dd σ H') (g r) → WPs X ifs σ H Q
theorem sp_nil {X : Cx} {E : En} {ks : List Kd} : SP1 X E ks [] gYes := ⟨fun Hs H r σ W Q tk S P => ⟨_, pts_nil, P Hs H (Grow.refl S.sub)⟩⟩
theorem StRel.wipe {E : En} {Hs H : Hp} {r : Sl} {σ : L2.St} {ks : List Kd} (S : StRel E Hs H ks r σ) : ∀ (vs : List Nat), (∀ i ∈ vs, i < ks.length) → StRel E Hs H (wipeK ks vs) (wipeD r vs) (wipe σ vs) ∧ (wipeK ks vs).length = ks.length
  | [], _ => ⟨S, rfl⟩
  | v :: vs, h => by
    obtain ⟨q, l⟩ := StRel.wipe S vs fun i hi => h i (List.mem_cons_of_mem _ hi)
    have hv : v < (wipeK ks vs).length := by rw [l]; exact h v List.mem_cons_self
    refine ⟨q.wipe1 (k := (wipeK ks vs)[v]) (by simp [hv]) none, ?_⟩
    show ((wipeK ks vs).set v .val).length = _
    rw [List.length_set, l]
theorem wipe_set {σ : L2.St} {i : Nat} {x : V} : ∀ {vs : List Nat}, i ∈ vs → wipe (σ.set i (some x)) vs = wipe σ vs
  | [], h => by cases h
  | v :: vs, h => by
    by_cases hm : i ∈ vs
    · show (wipe (σ.set i (some x)) vs).set v none = (wipe σ vs).set v none
      rw [wipe_set hm]
    · have e : i = v := by
        rcases List.mem_cons.mp h with z | z
        · exact z
        · exact absurd z hm
      subst e
      have key : ∀ (vs : List Nat) (σ : L2.St), i ∉ vs → wipe (σ.set i (some x)) vs = (wipe σ vs).set i (some x) := by
        intro vs
        induction vs with
        | nil => intro σ _; rfl
        | cons w ws ih =>
          intro σ hn
          have h1 : i ≠ w := fun z => hn (z ▸ List.mem_cons_self)
          show (wipe (σ.set i (some x)) ws).set w none = ((wipe σ ws).set w none).set i (some x)
          rw [ih σ fun z => hn (List.mem_cons_of_mem _ z), List.set_comm _ _ h1]
      show (wipe (σ.set i (some x)) vs).set i none = (wipe σ vs).set i none
      rw [key vs σ hm, List.set_set]
theorem wipe_setV : ∀ {is : List Nat} {xs : List V} {σ : L2.St} {vs : List Nat}, (∀ i ∈ is, i ∈ vs) → wipe (setV σ is xs) vs = wipe σ vs
  | [], [], _, _, _ => rfl
  | [], _ :: _, _, _, _ => rfl
  | _ :: _, [], _, _, _ => rfl
  | i :: is, x :: xs, σ, vs, h => by
    show wipe (setV (σ.set i (some x)) is xs) vs = _
    rw [wipe_setV fun j hj => h j (List.mem_cons_of_mem _ hj), wipe_set (h i List.mem_cons_self)]
theorem wipe_idem {σ : L2.St} : ∀ (vs : List Nat), wipe (wipe σ vs) vs = wipe σ vs := fun vs => by
  have key : ∀ (ws : List Nat) (τ : L2.St), (∀ i ∈ ws, τ[i]? = some none ∨ τ[i]? = none) → wipe τ ws = τ := by
    intro ws
    induction ws with
    | nil => intro τ _; rfl
    | cons w ws ih =>
      intro τ h
      show (wipe τ ws).set w none = τ
      rw [ih τ fun i hi => h i (List.mem_cons_of_mem _ hi)]
      rcases h w List.mem_cons_self with e | e
      · obtain ⟨hw, e2⟩ := List.getElem?_eq_some_iff.mp e
        rw [← e2, List.set_getElem_self]
      · rw [List.set_eq_of_length_le (by simpa using e)]
  refine key vs _ fun i hi => ?_
  cases q : (wipe σ vs)[i]? with
  | none => exact .inr rfl
  | some o =>
    cases o with
    | none => exact .inl rfl
    | some x => exact absurd hi (wipe_some q).2
theorem filterMap_take {os : List (Option D)} {i : Nat} {o : Option D} (h : os[i]? = some o) : (os.take (i + 1)).filterMap id = (os.take i).filterMap id ++ o.toList := by
  rw [List.take_add_one, h, List.filterMap_append]
  cases o <;> rfl
def rdG (X : Cx) (scope : Scope) (tg : Expr) : TG := fun v σ H Q => ∀ (s : Shared) (H0 : Hp) (C : Addr) (cl : List (Str × Addr)) (fp : List Addr), WGx (X.blk s H0 scope (compEnvC scope cl C X.env) fp) tg v σ H Q
def rdT (X : Cx) (scope : Scope) (ifs : List Expr) : TT := fun σ H Q => ∀ (s : Shared) (H0 : Hp) (C : Addr) (cl : List (Str × Addr)) (fp : List Addr), WPs (X.blk s H0 scope (compEnvC scope cl C X.env) fp) ifs σ H Q
def rdE (X : Cx) (scope : Scope) (elt : Expr) : TE := fun σ H Q => ∀ (s : Shared) (H0 : Hp) (C : Addr) (cl : List (Str × Addr)) (fp : List Addr), WEx (X.blk s H0 scope (compEnvC scope cl C X.env) fp) elt σ H Q
theorem pg_rd {X : Cx} {scope : Scope} {tg : Expr} (s : Shared) (H : Hp) (C : Addr) (cl : List (Str × Addr)) (fp : List Addr) : PG (X.blk s H scope (compEnvC scope cl C X.env) fp) tg (rdG X scope tg) :=
  ⟨fun pins s' σ H' v u Q' I r h => pg_wg.run pins s' σ H' v u Q' I r (h s H C cl fp)⟩
theorem pts_rd {X : Cx} {scope : Scope} {ifs : List Expr} (s : Shared) (H : Hp) (C : Addr) (cl : List (Str × Addr)) (fp : List Addr) : PTs (X.blk s H scope (compEnvC scope cl C X.env) fp) ifs (rdT X scope ifs) :=
  ⟨fun pins s' σ H' Q' I h => pts_wp.run pins s' σ H' Q' I (h s H C cl fp)⟩
theorem pe_rd {X : Cx} {scope : Scope} {elt : Expr} (s : Shared) (H : Hp) (C : Addr) (cl : List (Str × Addr)) (fp : List Addr) : PE (X.blk s H scope (compEnvC scope cl C X.env) fp) elt (rdE X scope elt) :=
  ⟨fun pins s' σ H' Q' I h => h s H C cl fp pins s' I⟩
/-- the reading of a comprehension -/
theorem comp_read {X : Cx} {E : En} {ks : List Kd} {elt tg iter : Expr} {ifs : List Expr} {scope : Scope} {vs : List Nat} {t : Tg} {gi : Sl → R (List D)} {tt : Sl → R Bool} {ge : Sl → R D}
    (hi : SI X E ks false tg iter gi) (hv : ∀ i ∈ vs, i < ks.length) (hm : ∀ i ∈ t.is, i ∈ vs)
    (hg : ∀ (s : Shared) (H : Hp) (C : Addr) (cl : List (Str × Addr)) (fp : List Addr), SG (X.blk s H scope (compEnvC scope cl C X.env) fp) tg t)
    (ht : ∀ (s : Shared) (H : Hp) (C : Addr) (cl : List (Str × Addr)) (fp : List Addr), SP1 (X.blk s H scope (compEnvC scope cl C X.env) fp) E (setK (wipeK ks vs) t.is) ifs tt)
    (he : ∀ (s : Shared) (H : Hp) (C : Addr) (cl : List (Str × Addr)) (fp : List Addr), SE (X.blk s H scope (compEnvC scope cl C X.env) fp) E (setK (wipeK ks vs) t.is) .val elt ge)
    {Hs H : Hp} {r : Sl} {σ : L2.St} {W : WX} {Q : VK} (tk : Takes X W) (S : StRel E Hs H ks r σ) (P : Post E.cl (.own none) Hs H Q (fun c dd H' => W c dd σ H') (gComp gi t vs tt ge r)) :
    tLc (WIx X tg iter) (rdG X scope tg) (rdT X scope ifs) (rdE X scope elt) vs σ H Q := by
  refine hi.run _ _ _ _ _ _ tk S ?_
  unfold gComp at P
  cases q : gi r with
  | stuck => rw [q] at P; exact P
  | exc x => rw [q] at P; exact P
  | ok ds =>
    rw [q] at P
    intro J Hs1 H1 g1 J1 D hD
    have P1 := Post.grow (r := noX (mapR (gTurn t vs tt ge r) ds) >>= fun os => R.ok (VL.D.lst (os.filterMap id))) P g1
    cases q2 : noX (mapR (gTurn t vs tt ge r) ds) with
    | stuck => rw [q2] at P1; exact P1.elim
    | exc x =>
      cases q3 : mapR (gTurn t vs tt ge r) ds <;> rw [q3] at q2 <;> cases q2
    | ok os =>
      rw [q2] at P1
      obtain ⟨hlen, hturn⟩ := mapR_ok (noX_ok q2)
      have P1' : Post E.cl (.own none) Hs1 H1 Q (fun c dd H' => W c dd σ H') (R.ok (VL.D.lst (os.filterMap id))) := P1
      have S1 := S.grow g1
      refine ⟨fun i m H' => m = ds.length - i ∧ i ≤ ds.length ∧ ∃ Hs' acc, Grow Hs1 H1 Hs' H' ∧ H' D = some (.lst acc) ∧ Hs' D = none ∧ RepL E.cl Hs' ((os.take i).filterMap id) acc ∧ acc.length ≤ i,
        ⟨ds.length, by simp, Nat.zero_le _, Hs1, [], Grow.fresh g1.sub hD, upd_same, g1.sub.free hD, .nil, Nat.le_refl _⟩, ?_⟩
      rintro i m H' ⟨rfl, hi', Hs', acc, g2, eD, nD, rp, hacc⟩
      have sq : Same (bq E false H1) H' := g2.h
      by_cases hlt : i < ds.length
      · refine .inr ⟨J1.go Hs' H' g2.s g2.sub sq i hlt, fun H2 => ∃ Hs2 acc2, Grow Hs1 H1 Hs2 H2 ∧ H2 D = some (.lst acc2) ∧ Hs2 D = none ∧ RepL E.cl Hs2 ((os.take (i + 1)).filterMap id) acc2 ∧ acc2.length ≤ i + 1, ?_, ?_⟩
        · rintro H2 ⟨Hs2, acc2, z1, z2, z3, z4, z5⟩
          exact ⟨ds.length - (i + 1), by omega, rfl, hlt, Hs2, acc2, z1, z2, z3, z4, z5⟩
        · intro x H2 y s0 H0 C cl fp
          obtain ⟨d, hd⟩ : ∃ d, ds[i]? = some d := ⟨ds[i], by simp [hlt]⟩
          obtain ⟨Hs2, g3, rx⟩ := J1.yld Hs' H' g2.s g2.sub sq i d x H2 hd y
          obtain ⟨o, ho, hf⟩ := hturn i d hd
          unfold gTurn at hf
          cases q4 : t.un d with
          | stuck => rw [q4] at hf; cases hf
          | exc x => rw [q4] at hf; cases hf
          | ok xs =>
            rw [q4] at hf
            refine (hg s0 H0 C cl fp).run E.cl Hs2 H2 _ d x xs _ g3.sub rx q4 fun ys ry => ⟨by rw [wipe_setV hm, wipe_idem], fun s1 H01 C1 cl1 fp1 => ?_⟩
            have g23 := g2.trans g3
            obtain ⟨S2, hl2⟩ := StRel.wipe (S1.grow g23) vs hv
            have S3 : StRel E Hs2 H2 (setK (wipeK ks vs) t.is) (setD (wipeD r vs) t.is xs) (setV (wipe σ vs) t.is ys) :=
              StRel.puts S2 (fun j hj => by rw [hl2]; exact hv j (hm j hj)) (Tg.un_len q4) ry
            have eD2 : H2 D = some (.lst acc) := g3.h.at _ _ eD
            have nD2 : ∀ {Hsx Hx : Hp}, Grow Hs' H' Hsx Hx → Hsx D = none := fun {Hsx Hx} gx => by
              cases qq : Hsx D with
              | none => rfl
              | some u =>
                rcases gx.n D (by rw [qq]; simp) with z | z
                · exact absurd nD z
                · rw [eD] at z; cases z
            refine (ht s1 H01 C1 cl1 fp1).run _ _ _ _ (fun _ _ _ _ => False) _ takesF S3 ?_
            have hf' : (tt (setD (wipeD r vs) t.is xs) >>= fun b => if b then (ge (setD (wipeD r vs) t.is xs) >>= fun y => R.ok (some y)) else R.ok none) = R.ok o := hf
            cases q5 : tt (setD (wipeD r vs) t.is xs) with
            | stuck => rw [q5] at hf'; cases hf'
            | exc x => rw [q5] at hf'; cases hf'
            | ok b =>
              rw [q5] at hf'
              intro Hs3 H3 g4
              cases b with
              | false =>
                have e0 : (R.ok none : R (Option VL.D)) = R.ok o := hf'
                cases e0
                refine iteF ⟨Hs3, acc, g23.trans g4, g4.h.at _ _ eD2, nD2 (g3.trans g4), ?_, by omega⟩
                rw [filterMap_take ho]
                simpa using RepL.same (g3.trans g4).s _ _ rp
              | true =>
                refine iteT fun s2 H02 C2 cl2 fp2 => ?_
                refine (he s2 H02 C2 cl2 fp2).run _ _ _ _ (fun _ _ _ _ => False) _ takesF (S3.grow g4) ?_
                have hf2 : (ge (setD (wipeD r vs) t.is xs) >>= fun y => R.ok (some y)) = R.ok o := hf'
                cases q6 : ge (setD (wipeD r vs) t.is xs) with
                | stuck => rw [q6] at hf2; cases hf2
                | exc x => rw [q6] at hf2; cases hf2
                | ok y =>
                  rw [q6] at hf2
                  have e0 : (R.ok (some y) : R (Option VL.D)) = R.ok o := hf2
                  cases e0
                  intro v Hs4 H4 g5 k5
                  have g35 := (g3.trans g4).trans g5
                  have hD4 : H4 D = some (.lst acc) := g35.h.at _ _ eD
                  have hN4 := nD2 g35
                  have g25 := g2.trans g35
                  have hz : acc.length < sizeLine := by
                    rw [szL_eq]
                    have := J1.len
                    omega
                  refine ⟨acc, hD4, hz, Hs4, acc ++ [v], ⟨g25.s, ⟨fun b u e nt => ?_⟩, g25.n, ⟨fun b u e nt => ?_⟩, fun P z => tab_mut hD4 P (g25.t P z)⟩, upd_same, hN4, ?_, by simp; omega⟩
                  · rw [upd_ne (ne_of_none e hD)] at nt ⊢
                    exact g25.h.k _ _ e nt
                  · rw [upd_ne (ne_of_none e hN4)] at nt ⊢
                    exact g25.sub.k _ _ e nt
                  · rw [filterMap_take ho]
                    exact (RepL.same g35.s _ _ rp).app (.cons k5.rep .nil)
      · have e : i = ds.length := by omega
        subst e
        refine .inl ⟨J1.stop Hs' H' g2.s g2.sub sq, ?_⟩
        rw [← hlen, List.take_length] at rp
        refine P1' (.ref D) Hs' H' g2 ⟨[D], .ownL ⟨hD, fun _ z => nomatch z⟩ eD rp, by simp, fun a ha => ?_⟩
        have q : a = D := by simpa using ha
        subst q
        exact ⟨nD, hD⟩
theorem se_comp {X : Cx} {E : En} {ks : List Kd} {elt tg iter : Expr} {ifs : List Expr} {scope : Scope} {pos : Pos} {t : Tg} {gi : Sl → R (List D)} {tt : Sl → R Bool} {ge : Sl → R D}
    (own : List (Str × Nat)) (hc : X.calm = true) (hN : X.N.Nodup) (hi : SI X E ks false tg iter gi) (ok : BlkOk X.N X.env.scope scope own) (hv : ∀ i ∈ own.map (·.2), i < ks.length) (hm : ∀ i ∈ t.is, i ∈ own.map (·.2))
    (hg : ∀ (s : Shared) (H : Hp) (C : Addr) (cl : List (Str × Addr)) (fp : List Addr), SG (X.blk s H scope (compEnvC scope cl C X.env) fp) tg t)
    (ht : ∀ (s : Shared) (H : Hp) (C : Addr) (cl : List (Str × Addr)) (fp : List Addr), SP1 (X.blk s H scope (compEnvC scope cl C X.env) fp) E (setK (wipeK ks (own.map (·.2))) t.is) ifs tt)
    (he : ∀ (s : Shared) (H : Hp) (C : Addr) (cl : List (Str × Addr)) (fp : List Addr), SE (X.blk s H scope (compEnvC scope cl C X.env) fp) E (setK (wipeK ks (own.map (·.2))) t.is) .val elt ge)
    (hs : ∀ x, foldedSetIterable iter X.env x = pure x := by intro _; rfl) : SE X E ks (.own none) (.ListComp elt [⟨tg, iter, ifs, 0⟩] scope pos) (gComp gi t (own.map (·.2)) tt ge) := by
  refine ⟨fun Hs H r σ W Q tk S P => ?_⟩
  exact we_of (pe_lc hc hN pi_wi ok pg_rd pts_rd pe_rd hs) (comp_read hi hv hm hg ht he tk S P)
end VL
end

noncomputable section
namespace VL
open PySem PySem.Spec PyProof.Rows L2
variable {md : Md}

section
variable {cl : Cl}
mutual
theorem ORep.anyB {N : Addr → Prop} {B B' Hs H : Hp} : ∀ (k : Kd) (d : D) (v : V) (A : List Addr), k.fine = true → ORep cl N B Hs H k d v A → ORep cl N B' Hs H k d v A
  | .val, _, _, _, _, h => by
    cases h with
    | val h1 => exact .val h1
  | .bor, _, _, _, z, _ => by cases z
  | .own n, _, _, _, _, h => by
    cases h with
    | ownL h0 h1 h2 => exact .ownL h0 h1 h2
    | ownK h0 h1 h2 => exact .ownK h0 h1 h2
    | ownV h0 h1 => exact .ownV h0 h1
  | .obj n ks, _, _, _, z, h => by
    cases h with
    | obj h0 h1 h2 h3 => exact .obj h0 h1 h2 (OFs.anyB ks _ _ _ (by simpa [Kd.fine] using z) h3)
  | .lls n k, _, _, _, z, h => by
    cases h with
    | lls h0 h1 h2 => exact .lls h0 h1 (OLs.imp (fun _ => True) (fun _ _ _ => trivial) (fun _ _ _ => trivial) (fun d v A _ o => ORep.anyB k d v A z o) trivial h2)
    | llT h0 h1 h2 => exact .llT h0 h1 (OLs.imp (fun _ => True) (fun _ _ _ => trivial) (fun _ _ _ => trivial) (fun d v A _ o => ORep.anyB k d v A z o) trivial h2)
    | llV h0 h1 => exact .llV h0 h1
theorem OFs.anyB {N : Addr → Prop} {B B' Hs H : Hp} : ∀ (ks : List (Str × Kd)) (ds : List (Str × D)) (xs : List (Str × V)) (A : List Addr), Kd.fine.fines ks = true → OFs cl N B Hs H ks ds xs A → OFs cl N B' Hs H ks ds xs A
  | [], _, _, _, _, h => by cases h; exact .nil
  | (f, k) :: ks, _, _, _, z, h => by
    have z' : k.fine = true ∧ Kd.fine.fines ks = true := by simpa [Kd.fine.fines] using z
    cases h with
    | cons h1 h2 => exact .cons (ORep.anyB k _ _ _ z'.1 h1) (OFs.anyB ks _ _ _ z'.2 h2)
end
end

section
variable {E : En} {Hs H Hs' H' : Hp} {ks : List Kd} {r : Sl} {σ : L2.St}
theorem RK.new (S : StRel E Hs H ks r σ) (g : Grow Hs H Hs' H') {k : Kd} {d : D} {v : V} (f : k.fine = true) (rk : RK E.cl k H Hs' H' d v) :
    ∃ A, ORep E.cl E.N E.b Hs' H' k d v A ∧ A.Nodup ∧ (∀ a ∈ A, Hs' a = none ∧ E.b a = none ∧ H a = none) := by
  obtain ⟨As, S⟩ := S
  obtain ⟨A, o, nd, z⟩ := rk
  exact ⟨A, ORep.anyB k _ _ _ f (ORep.mono (Same.refl _) (Same.refl _) (fun a q => S.dom a q) k _ _ _ (fun _ _ => rfl) o), nd, fun a ha => ⟨(z a ha).1, S.eb.free (z a ha).2, (z a ha).2⟩⟩
theorem nodup_mid {α : Type} {pre A post A' : List α} (h : (pre ++ (A ++ post)).Nodup) (hA : A'.Nodup) (d : ∀ a ∈ A', a ∉ pre ++ post) : (pre ++ (A' ++ post)).Nodup := by
  have h1 : (pre ++ post).Nodup := h.sublist (List.Sublist.append (List.Sublist.refl _) (List.sublist_append_right _ _))
  have p : (pre ++ (A' ++ post)).Perm (A' ++ (pre ++ post)) := by
    rw [← List.append_assoc, ← List.append_assoc]
    exact List.Perm.append_right _ List.perm_append_comm
  exact p.nodup_iff.mpr (List.nodup_append.mpr ⟨hA, h1, fun a ha b hb z => d a ha (z ▸ hb)⟩)
theorem StRel.putK {i : Nat} {k0 k : Kd} {d : D} {v : V} (S : StRel E Hs H ks r σ) (g : Grow Hs H Hs' H') (hk : ks[i]? = some k0) (f : k.fine = true) (rk : RK E.cl k H Hs' H' d v) : StRel E Hs' H' (ks.set i k) (r.set i (some d)) (σ.set i (some v)) := by
  obtain ⟨A', o, nd, z⟩ := RK.new S g f rk
  obtain ⟨As, S0⟩ := S
  have hh := S0.sl.here
  have S1 := S0.grow g
  obtain ⟨pre, A, post, e, _, q, _, _⟩ := S1.sl.at_ i hk
  have d1 : ∀ a ∈ A', a ∉ pre ++ post := fun a ha hm => by
    have : a ∈ As := by
      rw [e]
      rcases List.mem_append.mp hm with w | w
      · exact List.mem_append_left _ w
      · exact List.mem_append_right _ (List.mem_append_right _ w)
    obtain ⟨u, hu, _⟩ := hh a this
    rw [(z a ha).2.2] at hu
    cases hu
  refine ⟨_, q k d v A' o, nodup_mid (e ▸ S1.nd) nd d1, fun a ha => ?_, S1.es, S1.sub, S1.eb, S1.new, S1.dom, S1.tb⟩
  rcases List.mem_append.mp ha with w | w
  · exact S1.dis a (by rw [e]; exact List.mem_append_left _ w)
  · rcases List.mem_append.mp w with w | w
    · exact ⟨(z a w).1, (z a w).2.1⟩
    · exact S1.dis a (by rw [e]; exact List.mem_append_right _ (List.mem_append_right _ w))
theorem StRel.push {k : Kd} {d : D} {v : V} (S : StRel E Hs H ks r σ) (g : Grow Hs H Hs' H') (f : k.fine = true) (rk : RK E.cl k H Hs' H' d v) : StRel E Hs' H' (k :: ks) (some d :: r) (some v :: σ) := by
  obtain ⟨A', o, nd, z⟩ := RK.new S g f rk
  obtain ⟨As, S0⟩ := S
  have hh := S0.sl.here
  have S1 := S0.grow g
  have d1 : ∀ a ∈ A', a ∉ As := fun a ha hm => by
    obtain ⟨u, hu, _⟩ := hh a hm
    rw [(z a ha).2.2] at hu
    cases hu
  refine ⟨_, .cons o S1.sl, List.nodup_append.mpr ⟨nd, S1.nd, fun a ha b hb z => d1 a ha (z ▸ hb)⟩, fun a ha => ?_, S1.es, S1.sub, S1.eb, S1.new, S1.dom, S1.tb⟩
  rcases List.mem_append.mp ha with w | w
  · exact ⟨(z a w).1, (z a w).2.1⟩
  · exact S1.dis a w
/-- the value of a slot leaves it -/
theorem StRel.take {i : Nat} {k : Kd} {d : D} (S : StRel E Hs H ks r σ) (hk : ks[i]? = some k) (hd : r[i]? = some (some d)) : ∃ v, σ[i]? = some (some v) ∧ StRel E Hs H (k :: ks) (some d :: r.set i none) (some v :: σ) := by
  obtain ⟨As, S⟩ := S
  obtain ⟨pre, A, post, e, q1, _, q2, _⟩ := S.sl.at_ i hk
  obtain ⟨v, ev, o⟩ := q1 d hd
  refine ⟨v, ev, _, .cons o (by
    have z := q2 k (some v)
    have e1 : ks.set i k = ks := by
      obtain ⟨h, e2⟩ := List.getElem?_eq_some_iff.mp hk
      rw [← e2, List.set_getElem_self]
    have e3 : σ.set i (some v) = σ := by
      obtain ⟨h, e2⟩ := List.getElem?_eq_some_iff.mp ev
      rw [← e2, List.set_getElem_self]
    rw [e1, e3] at z
    exact z), ?_, fun a ha => S.dis a ?_, S.es, S.sub, S.eb, S.new, S.dom, S.tb⟩
  · have p : (A ++ (pre ++ post)).Perm As := by
      rw [e, ← List.append_assoc, ← List.append_assoc]
      exact List.Perm.append_right _ List.perm_append_comm
    exact p.nodup_iff.mpr S.nd
  · rw [e]
    rcases List.mem_append.mp ha with w | w
    · exact List.mem_append_right _ (List.mem_append_left _ w)
    · rcases List.mem_append.mp w with w | w
      · exact List.mem_append_left _ w
      · exact List.mem_append_right _ (List.mem_append_right _ w)
/-- an owned list is changed where it lies -/
theorem StRel.mutL {i : Nat} {n : Option Addr} {ds : List D} (S : StRel E Hs H ks r σ) (hk : ks[i]? = some (.own n)) (hd : r[i]? = some (some (.lst ds))) :
    ∃ a xs, σ[i]? = some (some (.ref a)) ∧ H a = some (.lst xs) ∧ RepL E.cl Hs ds xs ∧ ∀ ds' xs', RepL E.cl Hs ds' xs' → StRel E Hs (upd H a (.lst xs')) ks (r.set i (some (.lst ds'))) σ := by
  obtain ⟨As, S⟩ := S
  obtain ⟨pre, A, post, e, q1, _, _, q3⟩ := S.sl.at_ i hk
  obtain ⟨v, ev, o⟩ := q1 _ hd
  cases o with
  | ownV h0 h1 => cases h0
  | ownL h0 h1 h2 =>
    rename_i a xs
    refine ⟨a, xs, ev, h1, h2, fun ds' xs' rp => ?_⟩
    have ha : a ∈ As := by rw [e]; exact List.mem_append_right _ (List.mem_append_left _ (by simp))
    have nd := S.nd
    rw [e] at nd
    have hn : ∀ b ∈ pre ++ post, b ≠ a := fun b hb z => by
      subst z
      rcases List.mem_append.mp hb with w | w
      · exact (List.nodup_append.mp nd).2.2 _ w _ (List.mem_append_left _ (by simp)) rfl
      · exact (List.nodup_append.mp (List.nodup_append.mp nd).2.1).2.2 _ (by simp) _ w rfl
    have z := q3 Hs (upd H a (.lst xs')) (Same.refl _) (fun b hb => upd_ne (hn b hb)) (.own n) (.lst ds') (.ref a) [a] (.ownL h0 upd_same rp)
    have e1 : ks.set i (.own n) = ks := by
      obtain ⟨h, e2⟩ := List.getElem?_eq_some_iff.mp hk
      rw [← e2, List.set_getElem_self]
    have e3 : σ.set i (some (.ref a)) = σ := by
      obtain ⟨h, e2⟩ := List.getElem?_eq_some_iff.mp ev
      rw [← e2, List.set_getElem_self]
    rw [e1, e3] at z
    have dz := S.dis a ha
    refine ⟨_, z, nd, fun b hb => S.dis b (by rw [e]; exact hb), S.es, ⟨fun b u q nt => ?_⟩, ⟨fun b u q nt => ?_⟩, S.new, fun b q => ?_, fun P z => tab_mut h1 P (S.tb P z)⟩
    · have : b ≠ a := fun w => by rw [w, dz.1] at q; cases q
      rw [upd_ne this] at nt ⊢
      exact S.sub.k _ _ q nt
    · have : b ≠ a := fun w => by rw [w, dz.2] at q; cases q
      rw [upd_ne this] at nt ⊢
      exact S.eb.k _ _ q nt
    · have : b ≠ a := fun w => by rw [w, upd_same] at q; cases q
      rw [upd_ne this] at q
      exact S.dom _ q
/-- an owned value is frozen where it lies -/
theorem StRel.freeze {i : Nat} {k : Kd} (S : StRel E Hs H ks r σ) (hk : ks[i]? = some k) (hf : k = .own none) : ∃ Hs2, StRel E Hs2 H (ks.set i .val) r σ := by
  subst hf
  obtain ⟨As, S⟩ := S
  cases hr : r[i]? with
  | none =>
    have l := S.sl.len
    have hi : i < ks.length := (List.getElem?_eq_some_iff.mp hk).1
    have : r.length ≤ i := List.getElem?_eq_none_iff.mp hr
    omega
  | some o =>
    obtain ⟨pre, A, post, e, q1, q2, q4, q3⟩ := S.sl.at_ i hk
    have e5 : r.set i o = r := by
      obtain ⟨h, e2⟩ := List.getElem?_eq_some_iff.mp hr
      rw [← e2, List.set_getElem_self]
    cases o with
    | none =>
      have l := S.sl.len
      have hi : i < σ.length := by rw [l.2]; exact (List.getElem?_eq_some_iff.mp hk).1
      have z := q4 .val σ[i]
      rw [e5, List.set_getElem_self] at z
      have sub : (pre ++ post).Sublist As := by
        rw [e]
        exact List.Sublist.append (List.Sublist.refl _) (List.sublist_append_right _ _)
      exact ⟨Hs, _, z, S.nd.sublist sub, fun a ha => S.dis a (sub.subset ha), S.es, S.sub, S.eb, S.new, S.dom, S.tb⟩
    | some d =>
      obtain ⟨v, ev, o⟩ := q1 d hr
      have e3 : σ.set i (some v) = σ := by
        obtain ⟨h, e2⟩ := List.getElem?_eq_some_iff.mp ev
        rw [← e2, List.set_getElem_self]
      have nd := S.nd
      rw [e] at nd
      have nA : ∀ a ∈ A, E.h a = none := by
        cases o with
        | ownL h0 h1 h2 => intro a ha; simp at ha; subst ha; exact h0.1
        | ownK h0 h1 h2 => intro a ha; simp at ha; subst ha; exact h0.1
        | ownV h0 h1 => intro a ha; cases ha
      have inA : ∀ a ∈ A, a ∈ As := fun a ha => by rw [e]; exact List.mem_append_right _ (List.mem_append_left _ ha)
      have pS : Same Hs (plus Hs H A) := plus_same fun a ha => (S.dis a (inA a ha)).1
      have rp : Rep E.cl (plus Hs H A) d v := ORep.freeze pS _ _ _ _ rfl (fun a ha => by unfold plus; rw [if_pos ha]) o
      have z := q3 (plus Hs H A) H pS (fun _ _ => rfl) .val d v [] (.val rp)
      rw [e5, e3] at z
      have sub : (pre ++ ([] ++ post)).Sublist As := by
        rw [e]
        exact List.Sublist.append (List.Sublist.refl _) (by rw [List.nil_append]; exact List.sublist_append_right _ _)
      refine ⟨plus Hs H A, _, z, S.nd.sublist sub, fun a ha => ⟨?_, (S.dis a (sub.subset ha)).2⟩, S.es.trans pS, plus_sub S.sub, S.eb, fun a q => ?_, S.dom, S.tb⟩
      · have hn : a ∉ A := fun w => by
          rcases List.mem_append.mp ha with u | u
          · exact (List.nodup_append.mp nd).2.2 _ u _ (List.mem_append_left _ w) rfl
          · exact (List.nodup_append.mp (List.nodup_append.mp nd).2.1).2.2 _ w _ (by simpa using u) rfl
        unfold plus
        rw [if_neg hn]
        exact (S.dis a (sub.subset ha)).1
      · unfold plus at q
        split at q
        · rename_i w
          exact .inr (nA a w)
        · exact S.new a q
/-- another bound of what is stable -/
def En.at_ (E : En) (s : Hp) : En := { E with s := s }
theorem Slots.env {E E' : En} (h1 : E'.cl = E.cl) (h2 : E'.b = E.b) (h3 : E'.h = E.h) : ∀ {ks : List Kd} {r : Sl} {σ : L2.St} {As : List Addr}, Slots E Hs H ks r σ As → Slots E' Hs H ks r σ As
  | _, _, _, _, .nil => .nil
  | _, _, _, _, .skip h => .skip (Slots.env h1 h2 h3 h)
  | _, _, _, _, .cons o h => .cons (by unfold En.N at *; rw [h1, h2, h3]; exact o) (Slots.env h1 h2 h3 h)
theorem StRel.down (S : StRel E Hs H ks r σ) : StRel (E.at_ Hs) Hs H ks r σ := by
  obtain ⟨As, S⟩ := S
  exact ⟨As, Slots.env (E := E) (E' := E.at_ Hs) rfl rfl rfl S.sl, S.nd, S.dis, Same.refl _, S.sub, S.eb, fun a z => .inl z, S.dom, S.tb⟩
theorem StRel.up {Hs1 : Hp} (es : Same E.s Hs1) (nw : ∀ a, Hs1 a ≠ none → E.s a ≠ none ∨ E.h a = none) (S : StRel (E.at_ Hs1) Hs H ks r σ) : StRel E Hs H ks r σ := by
  obtain ⟨As, S⟩ := S
  refine ⟨As, Slots.env (E := E.at_ Hs1) (E' := E) rfl rfl rfl S.sl, S.nd, S.dis, es.trans S.es, S.sub, S.eb, fun a z => ?_, S.dom, S.tb⟩
  rcases S.new a z with q | q
  · exact nw a q
  · exact .inr q
theorem StRel.facts (S : StRel E Hs H ks r σ) : Same E.s Hs ∧ Same E.b H ∧ (∀ a, Hs a ≠ none → E.s a ≠ none ∨ E.h a = none) ∧ ∀ P, LamX.TabS E.h P lamQ → LamX.TabS H P lamQ := let ⟨_, s⟩ := S; ⟨s.es, s.eb, s.new, s.tb⟩
end

def PostS (E : En) (ks : List Kd) (kr : Kd) (fin : List Kd → Prop) (W : WX) (Dn : Ends) : O → Prop
  | .stuck => False
  | .nx r => ∀ Hs H σ, StRel E Hs H ks r σ → Dn.nx σ H
  | .rt d r => ∀ Hs H σ v ks2, fin ks2 → StRel E Hs H (kr :: ks2) (some d :: r) (some v :: σ) → Dn.rt v H
  | .exc x r => ∀ Hs H σ c dd ks2, fin ks2 → StRel E Hs H ks2 r σ → XRep E.cl Hs H x c dd → W c dd σ H
/-- .. kr what a return hands out, fin what is asked of the slots at the def's end -/
structure SS [md : Md] (X : Cx) (E : En) (kr : Kd) (fin : List Kd → Prop) (ks : List Kd) (st : Stmt) (m : Sl → O) (ks' : List Kd) : Prop where
  run : ∀ (Hs H : Hp) (r : Sl) (σ : L2.St) (W : WX) (Dn : Ends), Takes X W → StRel E Hs H ks r σ → PostS E ks' kr fin W Dn (m r) → WSx X st Dn σ H
structure SB [md : Md] (X : Cx) (E : En) (kr : Kd) (fin : List Kd → Prop) (ks : List Kd) (st : List Stmt) (m : Sl → O) (ks' : List Kd) : Prop where
  run : ∀ (Hs H : Hp) (r : Sl) (σ : L2.St) (W : WX) (Dn : Ends), Takes X W → StRel E Hs H ks r σ → PostS E ks' kr fin W Dn (m r) → WSs X st Dn σ H
@[simp] def mNil : Sl → O := .nx
@[simp] def mSeq (m1 m2 : Sl → O) : Sl → O := fun r => match m1 r with
  | .nx r' => m2 r'
  | o => o
/-- behind an expression -/
@[simp] def onR {α : Type} (x : R α) (r : Sl) (k : α → O) : O := match x with
  | .ok a => k a
  | .exc x => .exc x r
  | .stuck => .stuck
section
variable {X : Cx} {E : En} {kr : Kd} {fin : List Kd → Prop} {ks ks' ks1 ks2 : List Kd} {st : Stmt} {sts : List Stmt} {m m1 m2 : Sl → O} {e : Expr} {g : Sl → R D} {pos : Pos}
theorem sb_nil : SB X E kr fin ks [] mNil ks := ⟨fun Hs H r σ W Dn tk S P => wss_of pss_nil (P Hs H σ S)⟩
theorem sb_cons (h1 : SS X E kr fin ks st m1 ks1) (h2 : SB X E kr fin ks1 sts m2 ks2) : SB X E kr fin ks (st :: sts) (mSeq m1 m2) ks2 := by
  refine ⟨fun Hs H r σ W Dn tk S P => ?_⟩
  refine wss_of (pss_cons ps_ws pss_ws) ?_
  refine h1.run _ _ _ _ _ _ tk S ?_
  unfold mSeq at P
  cases q : m1 r with
  | stuck => rw [q] at P; exact P
  | nx r' =>
    rw [q] at P
    exact fun Hs' H' σ' S' => h2.run _ _ _ _ _ _ tk S' P
  | rt d r' => rw [q] at P; exact P
  | exc x r' => rw [q] at P; exact P
/-- what an expression asks within a statement -/
theorem Post.ofS {k : Kd} {Hs H : Hp} {r : Sl} {σ : L2.St} {W : WX} {Dn : Ends} {x : R D} {kk : D → O} {Q1 : VK} (hf : fin ks) (S : StRel E Hs H ks r σ) (P : PostS E ks' kr fin W Dn (onR x r kk))
    (h : ∀ d v Hs' H', x = .ok d → Grow Hs H Hs' H' → RK E.cl k H Hs' H' d v → PostS E ks' kr fin W Dn (kk d) → Q1 v H') : Post E.cl k Hs H Q1 (fun c dd H' => W c dd σ H') x := by
  cases x with
  | stuck => exact P
  | exc x => exact fun c dd Hs' H' g z => P Hs' H' σ c dd ks hf (S.grow g) z
  | ok d => exact fun v Hs' H' g rk => h d v Hs' H' rfl g rk P
@[simp] def mSet (i : Nat) (g : Sl → R D) : Sl → O := fun r => onR (g r) r fun d => .nx (r.set i (some d))
/-- x = e -/
theorem ss_set {i : Nat} {k k0 : Kd} {x : Str} {pos' : Pos} (hN : X.N.Nodup) (he : SE X E ks k e g) (hf : fin ks := by trivial) (hk : ks[i]? = some k0 := by rfl) (fk : k.fine = true := by rfl) (hi : X.N[i]? = some x := by rfl) (hx : Loc X.env.scope x := by first | exact Or.inl rfl | exact Or.inr rfl)
    (hs : swapsWith e (some (.Name x pos')) pos.line X.env = pure false := by rfl) (hfn : X.fn x = true ∨ X.env.scope.names.lookup x = some .local := by first | exact .inl rfl | exact .inr rfl | assumption) :
    SS X E kr fin ks (.Assign [.Name x pos'] e pos) (mSet i g) (ks.set i k) := by
  refine ⟨fun Hs H r σ W Dn tk S P => ?_⟩
  refine ws_of (ps_set hN hi hx pe_we hs hfn) ?_
  exact he.run _ _ _ _ _ _ tk S (Post.ofS hf S P fun d v Hs' H' e1 g1 k1 P1 => P1 Hs' H' _ (S.putK g1 hk fk k1))
@[simp] def mRet (g : Sl → R D) : Sl → O := fun r => onR (g r) r fun d => .rt d r
theorem ss_ret (he : SE X E ks kr e g) (hf : fin ks := by trivial) (fk : kr.fine = true := by rfl) : SS X E kr fin ks (.Return (some e) pos) (mRet g) ks' := by
  refine ⟨fun Hs H r σ W Dn tk S P => ?_⟩
  refine ws_of (ps_ret pe_we) ?_
  exact he.run _ _ _ _ _ _ tk S (Post.ofS hf S P fun d v Hs' H' e1 g1 k1 P1 => P1 Hs' H' σ v ks hf (S.push g1 fk k1))
@[simp] def mRetV (i : Nat) : Sl → O := fun r => match r[i]? with
  | some (some d) => .rt d (r.set i none)
  | _ => .stuck
theorem ss_retV {i : Nat} {x : Str} {pos' : Pos} (hf : fin ks := by trivial) (hk : ks[i]? = some kr := by rfl) (hN : X.N[i]? = some x := by rfl) (hv : Vis X.env.scope x := by first | exact Or.inl rfl | exact Or.inr (Or.inl rfl) | exact Or.inr (Or.inr rfl))
    (hq : NmOk x) : SS X E kr fin ks (.Return (some (.Name x pos')) pos) (mRetV i) ks' := by
  refine ⟨fun Hs H r σ W Dn tk S P => ?_⟩
  refine ws_of (ps_ret (pe_var hN hv hq.1 hq.2)) ?_
  unfold mRetV at P
  split at P
  · rename_i d q
    obtain ⟨v, ev, S2⟩ := S.take hk q
    exact ⟨v, ev, P Hs H σ v ks hf S2⟩
  · exact P.elim
@[simp] def mExpr (g : Sl → R D) : Sl → O := fun r => onR (g r) r fun _ => .nx r
theorem ss_expr (he : SE X E ks .val e g) (hf : fin ks := by trivial) (hs : swapsWith e none pos.line X.env = pure false := by rfl) : SS X E kr fin ks (.Expr e pos) (mExpr g) ks := by
  refine ⟨fun Hs H r σ W Dn tk S P => ?_⟩
  refine ws_of (ps_expr pe_we hs) ?_
  exact he.run _ _ _ _ _ _ tk S (Post.ofS hf S P fun d v Hs' H' e1 g1 k1 P1 => P1 Hs' H' σ (S.grow g1))
@[simp] def mIf (tc : Sl → R Bool) (m1 m2 : Sl → O) : Sl → O := fun r => onR (tc r) r fun b => if b then m1 r else m2 r
theorem PostT.ofS {Hs H : Hp} {r : Sl} {σ : L2.St} {W : WX} {Dn : Ends} {x : R Bool} {kk : Bool → O} {Q1 : Bool → Hp → Prop} (hf : fin ks) (S : StRel E Hs H ks r σ) (P : PostS E ks' kr fin W Dn (onR x r kk))
    (h : ∀ b Hs' H', x = .ok b → Grow Hs H Hs' H' → PostS E ks' kr fin W Dn (kk b) → Q1 b H') : PostT E.cl Hs H Q1 (fun c dd H' => W c dd σ H') x := by
  cases x with
  | stuck => exact P
  | exc x => exact fun c dd Hs' H' g z => P Hs' H' σ c dd ks hf (S.grow g) z
  | ok d => exact fun Hs' H' g => h d Hs' H' rfl g P
theorem ss_if {c : Expr} {a b : List Stmt} {tc : Sl → R Bool} (hc : ST X E ks c tc) (ha : SB X E kr fin ks a m1 ks') (hb : SB X E kr fin ks b m2 ks') (hf : fin ks := by trivial) : SS X E kr fin ks (.If c a b pos) (mIf tc m1 m2) ks' := by
  refine ⟨fun Hs H r σ W Dn tk S P => ?_⟩
  refine ws_of (ps_if pt_wt pss_ws pss_ws) ?_
  refine hc.run _ _ _ _ _ _ tk S (PostT.ofS hf S P fun x Hs' H' e1 g1 P1 => ?_)
  cases x with
  | true => exact iteT (ha.run _ _ _ _ _ _ tk (S.grow g1) P1)
  | false => exact iteF (hb.run _ _ _ _ _ _ tk (S.grow g1) P1)
def forL (t : Tg) (mb : Sl → O) : List D → Sl → O
  | [], r => .nx r
  | d :: ds, r => match t.un d with
    | .ok xs => (match mb (setD r t.is xs) with
      | .nx r' => forL t mb ds r'
      | o => o)
    | _ => .stuck
@[simp] def mFor (gi : Sl → R (List D)) (t : Tg) (mb : Sl → O) : Sl → O := fun r => onR (gi r) r fun ds => forL t mb ds r
theorem PostI.ofS {md : Bool} {Hs H : Hp} {r : Sl} {σ : L2.St} {W : WX} {Dn : Ends} {x : R (List D)} {kk : List D → O} {Q1 : It → Hp → Prop} (hf : fin ks) (S : StRel E Hs H ks r σ) (P : PostS E ks' kr fin W Dn (onR x r kk))
    (h : ∀ ds J Hs' H', x = .ok ds → Grow Hs H Hs' H' → ItOk E.cl J ds Hs' (bq E md H') → PostS E ks' kr fin W Dn (kk ds) → Q1 J H') : PostI E md Hs H Q1 (fun c dd H' => W c dd σ H') x := by
  cases x with
  | stuck => exact P
  | exc x => exact fun c dd Hs' H' g z => P Hs' H' σ c dd ks hf (S.grow g) z
  | ok d => exact fun J Hs' H' g i => h d J Hs' H' rfl g i P
theorem ss_for {tg iter : Expr} {body : List Stmt} {gi : Sl → R (List D)} {t : Tg} {mb : Sl → O} (hp : PassesOwn (model X.prog X.w) X.A X.env X.xe) (hc : X.calm = true) (hi : SI X E ks true tg iter gi) (hg : SG X tg t)
    (hb : ∀ s, SB X (E.at_ s) kr fin ks body mb ks) (hl : ∀ i ∈ t.is, i < ks.length) (hk : setK ks t.is = ks := by rfl) (hf : fin ks := by trivial)
    (hs : ∀ x, foldedSetIterable iter X.env x = pure x := by intro _; rfl) : SS X E kr fin ks (.For tg iter body [] pos) (mFor gi t mb) ks := by
  refine ⟨fun Hs H r σ W Dn tk S P => ?_⟩
  refine ws_of (ps_for hp hc pi_wi pg_wg pss_ws hs) ?_
  refine hi.run _ _ _ _ _ _ tk S (PostI.ofS hf S P fun ds J Hs1 H1 e1 g1 J1 P1 => ?_)
  have S1 := S.grow g1
  have F1 := S1.facts
  have D1 := S1.down
  refine ⟨fun i m σ' H' => m = ds.length - i ∧ i ≤ ds.length ∧ ∃ Hs' r', StRel (E.at_ Hs1) Hs' H' ks r' σ' ∧ PostS E ks kr fin W Dn (forL t mb (ds.drop i) r'),
    ⟨ds.length, by simp, Nat.zero_le _, Hs1, r, D1, P1⟩, ?_⟩
  rintro i m σ' H' ⟨rfl, hi', Hs', r', S', P'⟩
  have fs := S'.facts
  by_cases hlt : i < ds.length
  · refine .inr ⟨J1.go Hs' H' fs.1 S'.sub fs.2.1 i hlt, fun σ2 H2 => ∃ Hs2 r2, StRel (E.at_ Hs1) Hs2 H2 ks r2 σ2 ∧ PostS E ks kr fin W Dn (forL t mb (ds.drop (i + 1)) r2), ?_, ?_⟩
    · rintro σ2 H2 ⟨Hs2, r2, z1, z2⟩
      exact ⟨ds.length - (i + 1), by omega, rfl, hlt, Hs2, r2, z1, z2⟩
    · intro x H2 y
      have hd : ds[i]? = some ds[i] := by simp [hlt]
      obtain ⟨Hs2, g3, rx⟩ := J1.yld Hs' H' fs.1 S'.sub fs.2.1 i _ x H2 hd y
      rw [List.drop_eq_getElem_cons hlt] at P'
      dsimp only [forL] at P'
      cases q : t.un ds[i] with
      | stuck => rw [q] at P'; exact P'.elim
      | exc z => rw [q] at P'; exact P'.elim
      | ok xs =>
        rw [q] at P'
        dsimp only at P'
        refine hg.run E.cl Hs2 H2 _ _ x xs _ g3.sub rx q fun ys ry => ?_
        have S3 : StRel (E.at_ Hs1) Hs2 H2 (setK ks t.is) (setD r' t.is xs) (setV σ' t.is ys) := StRel.puts (S'.grow g3) hl (Tg.un_len q) ry
        rw [hk] at S3
        refine (hb Hs1).run _ _ _ _ W _ tk S3 ?_
        cases q2 : mb (setD r' t.is xs) with
        | stuck => rw [q2] at P'; exact P'
        | nx r2 =>
          rw [q2] at P'
          exact fun Hs4 H4 σ4 S4 => ⟨Hs4, r2, S4, P'⟩
        | rt d r2 =>
          rw [q2] at P'
          exact fun Hs4 H4 σ4 v ks2 z S4 => P' Hs4 H4 σ4 v ks2 z (S4.up F1.1 F1.2.2.1)
        | exc z r2 =>
          rw [q2] at P'
          exact fun Hs4 H4 σ4 c dd ks2 w S4 xr => P' Hs4 H4 σ4 c dd ks2 w (S4.up F1.1 F1.2.2.1) xr
  · have e : i = ds.length := by omega
    subst e
    rw [List.drop_length] at P'
    exact .inl ⟨J1.stop Hs' H' fs.1 S'.sub fs.2.1, P' Hs' H' σ' (S'.up F1.1 F1.2.2.1)⟩
def whileL (tc : Sl → R Bool) (mb : Sl → O) : Nat → Sl → O
  | 0, _ => .stuck
  | n + 1, r => onR (tc r) r fun b => if b then (match mb r with
    | .nx r' => whileL tc mb n r'
    | o => o) else .nx r
theorem ss_while {c : Expr} {body : List Stmt} {tc : Sl → R Bool} {mb : Sl → O} (n : Nat) (hp : PassesOwn (model X.prog X.w) X.A X.env X.xe) (hc : ST X E ks c tc) (hb : SB X E kr fin ks body mb ks) (hf : fin ks := by trivial) :
    SS X E kr fin ks (.While c body [] pos) (whileL tc mb n) ks := by
  refine ⟨fun Hs H r σ W Dn tk S P => ?_⟩
  refine ws_of (ps_while hp pt_wt pss_ws) ?_
  refine ⟨fun m σ' H' => ∃ Hs' r', StRel E Hs' H' ks r' σ' ∧ PostS E ks kr fin W Dn (whileL tc mb m r'), ⟨n, Hs, r, S, P⟩, ?_⟩
  rintro m σ' H' ⟨Hs', r', S', P'⟩
  cases m with
  | zero => exact P'.elim
  | succ m =>
    dsimp only [whileL] at P'
    refine hc.run _ _ _ _ _ _ tk S' (PostT.ofS hf S' P' fun x Hs2 H2 e1 g1 P1 => ?_)
    cases x with
    | false => exact iteF (P1 Hs2 H2 σ' (S'.grow g1))
    | true =>
      refine iteT ⟨fun σ3 H3 => ∃ Hs3 r3, StRel E Hs3 H3 ks r3 σ3 ∧ PostS E ks kr fin W Dn (whileL tc mb m r3), fun σ3 H3 ⟨Hs3, r3, z1, z2⟩ => ⟨m, Nat.lt_succ_self m, Hs3, r3, z1, z2⟩, ?_⟩
      refine hb.run _ _ _ _ W _ tk (S'.grow g1) ?_
      rw [if_pos rfl] at P1
      cases q2 : mb r' with
      | stuck => rw [q2] at P1; exact P1
      | nx r2 =>
        rw [q2] at P1
        exact fun Hs4 H4 σ4 S4 => ⟨Hs4, r2, S4, P1⟩
      | rt d r2 => rw [q2] at P1; exact P1
      | exc z r2 => rw [q2] at P1; exact P1
end
end VL
end

noncomputable section
namespace VL
open PySem PySem.Spec PyProof.Rows L2
variable {md : Md}

section
variable {X : Cx} {E : En} {kr : Kd} {fin : List Kd → Prop} {ks ks' : List Kd} {e : Expr} {g : Sl → R D} {pos : Pos}
theorem tyV_lst {K : PySem.W.Frag} {H : Hp} {a : Addr} {xs : List V} (h : H a = some (.lst xs)) : tyV K "list" (.ref a) H := .inl ⟨rfl, xs, SqL.of h⟩
@[simp] def mApp (i : Nat) (g : Sl → R D) : Sl → O := fun r => match r[i]? with
  | some (some (.lst ds)) => onR (g r) r fun d => if ds.length < szL then .nx (r.set i (some (.lst (ds ++ [d])))) else .stuck
  | _ => .stuck
/-- x.append(e) -/
theorem ss_append {i : Nat} {n : Option Addr} {x : Str} {p1 p2 p3 : Pos} (he : SE X E ks .val e g) (hf : fin ks := by trivial) (hk : ks[i]? = some (.own n) := by rfl) (hN : X.N[i]? = some x := by rfl) (hv : Vis X.env.scope x := by first | exact Or.inl rfl | exact Or.inr (Or.inl rfl) | exact Or.inr (Or.inr rfl))
    (hq : NmOk x)
    (hs : swapsWith (.Call (.Attribute (.Name x p1) "append" p2) [e] [] p3) none pos.line X.env = pure false := by rfl)
    (hbase : attributeBase (.Name x p1) "append" X.env (eval (.Name x p1) X.env) = eval (.Name x p1) X.env := by rfl)
    (hfew : ((backTo p3 (starEach [e] X.env)).all (fun x => !x.1) && (backToKw p3 (keywordEach [] X.env)).all (fun x => x.1.isSome)
      && decide ([e].length + ([] : List Keyword).length + (if ([] : List Keyword).isEmpty then 0 else 1) < 30)) = true := by rfl)
    (hline : (p2.endLine == p3.line) = true := by rfl) (hst : starEach [e] X.env = (false, eval e X.env) :: starEach [] X.env := by rfl) (hplain : (backTo p3 (starEach [] X.env)).any (·.1) = false := by rfl) :
    SS X E kr fin ks (.Expr (.Call (.Attribute (.Name x p1) "append" p2) [e] [] p3) pos) (mApp i g) ks := by
  refine ⟨fun Hs H r σ W Dn tk S P => ?_⟩
  refine ws_of (ps_expr (pe_bm PySem.F.plainAttrs_list PySem.F.slot_list_append PySem.F.type_list_append mt_append (pe_var hN hv hq.1 hq.2) (pa_cons pe_we pa_nil hst) hbase hfew hline hst hplain) hs) ?_
  unfold mApp at P
  split at P
  · rename_i ds q
    obtain ⟨a, xs, ea, h1, r1, _⟩ := S.mutL hk q
    refine ⟨.ref a, ea, tyV_lst h1, ?_⟩
    refine he.run _ _ _ _ _ _ tk S (Post.ofS hf S P fun d v Hs' H' e1 g1 k1 P1 => ?_)
    obtain ⟨a', xs', ea', h2, r2, up⟩ := (S.grow g1).mutL hk q
    rw [ea] at ea'
    cases ea'
    split at P1
    · rename_i hz
      exact ⟨a, xs', v, rfl, rfl, h2, by rw [szL_eq, r2.length]; exact hz, P1 _ _ _ (up _ _ (r2.app (.cons k1.rep .nil)))⟩
    · exact P1.elim
  · exact P.elim
@[simp] def mSetI (i : Nat) (gi g : Sl → R D) : Sl → O := fun r => match r[i]? with
  | some (some (.lst ds)) => onR (g r) r fun d => onR (noX (gi r)) r fun z => (match z with
    | .int k => (match ixN ds.length k with
      | some j => .nx (r.set i (some (.lst (ds.set j d))))
      | none => .stuck)
    | _ => .stuck)
  | _ => .stuck
/-- x[b] = e -/
theorem ss_setI {i : Nat} {n : Option Addr} {x : Str} {b : Expr} {gb : Sl → R D} {p1 p2 : Pos} (hb : SE X E ks .bor b gb) (he : SE X E ks .val e g) (hf : fin ks := by trivial) (hk : ks[i]? = some (.own n) := by rfl) (hN : X.N[i]? = some x := by rfl) (hv : Vis X.env.scope x := by first | exact Or.inl rfl | exact Or.inr (Or.inl rfl) | exact Or.inr (Or.inr rfl))
    (hq : NmOk x)
    (hs : swapsWithSole [.Subscript (.Name x p1) b p2] e pos.line X.env = pure false := by rfl) (hw : swappedStores [.Subscript (.Name x p1) b p2] e X.env = pure none := by rfl)
    (h1 : (assignEach [.Subscript (.Name x p1) b p2] X.env).map (·.2) = [assign (.Subscript (.Name x p1) b p2) X.env] := by rfl)
    (ha : ∀ v, assign (.Subscript (.Name x p1) b p2) X.env v = (do
      let ov ← holding [v] (eval (.Name x p1) X.env)
      let iv ← holding [v, ov] (eval b X.env)
      standAt p2
      holding [v, ov, iv] (setItem ov iv v)
      release [v, ov, iv] []) := by intro _; rfl) :
    SS X E kr fin ks (.Assign [.Subscript (.Name x p1) b p2] e pos) (mSetI i gb g) ks := by
  refine ⟨fun Hs H r σ W Dn tk S P => ?_⟩
  refine ws_of (ps_asg pe_we (pg_sub (pe_var hN hv hq.1 hq.2) pe_we set_list ha) hs hw h1) ?_
  unfold mSetI at P
  split at P
  · rename_i ds q
    refine he.run _ _ _ _ _ _ tk S (Post.ofS hf S P fun d v Hs' H' e1 g1 k1 P1 => ?_)
    have S1 := S.grow g1
    obtain ⟨a, xs, ea, h1, r1, _⟩ := S1.mutL hk q
    refine ⟨.ref a, ea, ?_⟩
    refine hb.run _ _ _ _ _ _ tk S1 ?_
    cases q1 : gb r with
    | stuck => rw [q1] at P1; exact P1.elim
    | exc z => rw [q1] at P1; exact P1.elim
    | ok z =>
      rw [q1] at P1
      dsimp only [onR, noX] at P1
      intro v2 Hs2 H2 g2 k2
      cases z <;> first | exact P1.elim | skip
      rename_i k
      cases k2.rb.intInv
      obtain ⟨a', xs', ea', h3, r3, up⟩ := (S1.grow g2).mutL hk q
      rw [ea] at ea'
      cases ea'
      cases q3 : ixN ds.length k with
      | none => simp only [q3] at P1; exact P1.elim
      | some j =>
        simp only [q3] at P1
        exact ⟨a, xs', k, j, rfl, rfl, h3, by rw [r3.length]; exact q3, P1 _ _ _ (up _ _ (r3.set j (Rep.same g2.s _ _ k1.rep)))⟩
  · exact P.elim
@[simp] def dIAdd : D → D → R D
  | .int i, .int j => .ok (.int (i + j))
  | _, _ => .stuck
@[simp] def mAugI (i : Nat) (f : D → D → R D) (g : Sl → R D) : Sl → O := fun r => match r[i]? with
  | some (some d0) => onR (g r) r fun d => onR (noX (f d0 d)) r fun z => .nx (r.set i (some z))
  | _ => .stuck
theorem ss_augI {i : Nat} {x : Str} {op : Operator} {f : Int → Int → Int} {fd : D → D → R D} {p1 : Pos} (hN : X.N.Nodup) (ho : PIp X op (ipI f)) (hfd : ∀ a b c, fd a b = .ok c → ∃ i j, a = .int i ∧ b = .int j ∧ c = .int (f i j)) (he : SE X E ks .bor e g) (hf : fin ks := by trivial) (hk : ks[i]? = some .val := by rfl)
    (hi : X.N[i]? = some x := by rfl) (hx : Loc X.env.scope x := by first | exact Or.inl rfl | exact Or.inr rfl) (hfn : X.fn x = true ∨ X.env.scope.names.lookup x = some .local := by first | exact .inl rfl | exact .inr rfl | assumption) :
    SS X E kr fin ks (.AugAssign (.Name x p1) op e pos) (mAugI i fd g) ks := by
  refine ⟨fun Hs H r σ W Dn tk S P => ?_⟩
  refine ws_of (ps_aug (i := i) hN hi hx pe_we ho hfn) ?_
  unfold mAugI at P
  split at P
  · rename_i d0 q
    obtain ⟨v0, A, e0, o0⟩ := S.get hk q
    refine ⟨v0, e0, ?_⟩
    refine he.run _ _ _ _ _ _ tk S (Post.ofS hf S P fun d v Hs' H' e1 g1 k1 P1 => ?_)
    cases q2 : fd d0 d with
    | stuck => rw [q2] at P1; exact P1.elim
    | exc z => rw [q2] at P1; exact P1.elim
    | ok z =>
      rw [q2] at P1
      obtain ⟨n, m, rfl, rfl, rfl⟩ := hfd _ _ _ q2
      cases o0 with
      | val r0 =>
        cases r0
        cases k1.rb.intInv
        have S2 := (S.grow g1).putK (Grow.refl g1.sub) hk rfl (RK.val (H0 := H') (.int (f n m)))
        have ek : ks.set i Kd.val = ks := by
          obtain ⟨h, e2⟩ := List.getElem?_eq_some_iff.mp hk
          rw [← e2, List.set_getElem_self]
        rw [ek] at S2
        exact ⟨n, m, rfl, rfl, P1 _ _ _ S2⟩
  · exact P.elim
theorem ss_iadd {i : Nat} {x : Str} {p1 : Pos} (hN : X.N.Nodup) (he : SE X E ks .bor e g) (hf : fin ks := by trivial) (hk : ks[i]? = some .val := by rfl)
    (hi : X.N[i]? = some x := by rfl) (hx : Loc X.env.scope x := by first | exact Or.inl rfl | exact Or.inr rfl) (hfn : X.fn x = true ∨ X.env.scope.names.lookup x = some .local := by first | exact .inl rfl | exact .inr rfl | assumption) :
    SS X E kr fin ks (.AugAssign (.Name x p1) .Add e pos) (mAugI i dIAdd g) ks :=
  ss_augI hN ip_add (fun a b c h => by cases a <;> cases b <;> first | (cases h; done) | (cases h; exact ⟨_, _, rfl, rfl, rfl⟩)) he hf hk hi hx hfn
/-- x += e, an owned list -/
@[simp] def mExt (i : Nat) (g : Sl → R D) : Sl → O := fun r => match r[i]? with
  | some (some (.lst ds)) => onR (g r) r fun d => (match d with
    | .lst es => if ds.length + es.length ≤ szL then .nx (r.set i (some (.lst (ds ++ es)))) else .stuck
    | _ => .stuck)
  | _ => .stuck
theorem pip_of {op : Operator} {t : R2} (h : OpR X (inplaceOp op) t) : PIp X op t := fun pins s σ H x y v u Q I rx ry q => h pins s σ H x y v u Q I rx ry q
theorem ss_ext {i : Nat} {n : Option Addr} {x : Str} {p1 : Pos} (hN : X.N.Nodup) (he : SE X E ks .val e g) (hf : fin ks := by trivial) (hk : ks[i]? = some (.own n) := by rfl)
    (hi : X.N[i]? = some x := by rfl) (hx : Loc X.env.scope x := by first | exact Or.inl rfl | exact Or.inr rfl) (hfn : X.fn x = true ∨ X.env.scope.names.lookup x = some .local := by first | exact .inl rfl | exact .inr rfl | assumption) :
    SS X E kr fin ks (.AugAssign (.Name x p1) .Add e pos) (mExt i g) ks := by
  refine ⟨fun Hs H r σ W Dn tk S P => ?_⟩
  refine ws_of (ps_aug (i := i) hN hi hx pe_we (pip_of iop_ext) hfn) ?_
  unfold mExt at P
  split at P
  · rename_i ds q
    obtain ⟨a, xs, ea, h1, r1, _⟩ := S.mutL hk q
    refine ⟨.ref a, ea, ?_⟩
    refine he.run _ _ _ _ _ _ tk S (Post.ofS hf S P fun d v Hs' H' e1 g1 k1 P1 => ?_)
    obtain ⟨a', xs', ea', h2, r2, up⟩ := (S.grow g1).mutL hk q
    rw [ea] at ea'
    cases ea'
    cases d <;> first | exact P1.elim | skip
    rename_i es
    dsimp only at P1
    split at P1
    · rename_i hz
      have kr1 := k1.rep
      cases kr1 with
      | lst h3 r3 =>
        have eσ : σ.set i (some (.ref a)) = σ := by
          obtain ⟨h, e2⟩ := List.getElem?_eq_some_iff.mp ea
          rw [← e2, List.set_getElem_self]
        refine ⟨a, _, xs', _, rfl, rfl, h2, g1.sub.at _ _ h3, by rw [szL_eq, r2.length, r3.length]; exact hz, ?_⟩
        show Dn.nx (σ.set i (some (.ref a))) _
        rw [eσ]
        exact P1 _ _ _ (up _ _ (r2.app r3))
    · exact P1.elim
  · exact P.elim
end

theorem fun_okM {P : Program} {w : World} {K : PySem.W.Frag} {mg : Str → Option Value} {base : Heap} {x qual : Str} {st : Stmt} {f : Addr} {fd : FuncData} {N ps : List Str} {k : Nat} {sp : Sp} (F : Fun K x qual st f fd) (S : FnScope N ps (defScope st)) (len : ∀ vs H Q E, sp vs H Q E → vs.length = ps.length)
    (hbody : ∀ (cdv : Value) (A : Around) (outer : List Env) (s : Shared) (H : Hp) (vs : List V) (Q : VK) (E : XK), Room k (A.deeper (envOfC qual (defScope st) s.heap.objs.size f cdv)) → sp vs H Q E →
      ∃ t, PSs (cxOf (CXM P w) P w K mg base N qual (defScope st) f cdv A outer s H E) (defBody st) t ∧ t { nx := fun _ H' => Q .non H', rt := Q } (start N vs) H) : FnOk P w K mg base (CXM P w) (k + 1) f fd ps sp := by
  obtain ⟨oc, od, kV, doc, pm, an, cdv, ct, osl, rfl, lk, hcd⟩ := F.ex
  exact fn_of lk hcd S len fun A outer s H vs Q E hr hsp => hbody cdv A outer s H vs Q E hr hsp

theorem ps_raiseM {X : Cx} {W : WX} {e : Expr} {t : L2.St → Hp → XK → Prop} {pos : Pos} (hc : X.calm = true) (tk : Takes X W) (hz : L2.PMk X e t) (hn : L2N.PMk X e t) : PS X (.Raise (some e) none pos) (fun _ σ H => t σ H fun cls d H' => W cls d σ H') := by
  obtain ⟨n⟩ := md
  cases n
  · exact L2.ps_raise hc tk hz
  · exact L2N.ps_raise hc tk hn
/-- C(e, ..), its context None -/
theorem pmk_oexN {X : Cx} {e : Expr} {es : List Expr} {ta : TA} {p pos : Pos} {CX : CXT} {x : Str} {C fI : Addr} {k : Nat} {fd : FuncData} {ps : List Str} {sp : Sp} (T : OexC X.K C) (iC : PySem.W.findIn X.K (.ref C) "__init__" = some (some (.ref fI))) (tI : PySem.W.typeIn X.K (.ref fI) = some (.type "function"))
    (F1 : FnOk X.prog X.w X.K X.mg X.base CX k fI fd ps sp) (hr : Room (k + 1) X.A) (hb : Binds X.K fd ps []) (hx : Passes CX X (fun _ _ _ => False)) (hg : Gl X x) (hm : X.mg x = some (.ref C)) (ha : PA X (e :: es) ta)
    (hdb : (x == ("__debug__" : Str)) = false := by decide) (he : starEach (e :: es) X.env = (false, eval e X.env) :: starEach es X.env := by rfl) (hpl : (backTo pos (starEach es X.env)).any (·.1) = false := by rfl) :
    L2N.PMk X (.Call (.Name x p) (e :: es) [] pos) (tMkO C sp [] ta) := by
  intro pins s σ H Q I h
  obtain ⟨nm, q, N, bs, bm, sn, sub, ab, col, dd, k0, k1, k2, k3, k5, hC, hbm⟩ := T.cls
  refine wpAny_Call_Name_kw (ld_glob I hg hm ?_ hdb)
  refine PySem.W.callWith_K (h₀ := X.base) I.ok.mod.kin T.kC (thn (ha.run pos pins s σ H _ I h) fun us s1 ⟨vs, H1, I1, rv, hz, want⟩ => ⟨I1.kIn, ?_⟩) he hpl
  show wpAny _ _ (call (.ref C) us) _ _ _
  obtain ⟨hp, g, dr, tk, os⟩ := s1
  have lesz : hp.objs.size ≤ hp.objs.size + 1 := Nat.le_succ _
  have new1 : H1 (hp.objs.size + 1) = none := I1.hok.fresh lesz
  have hq := want (hp.objs.size + 1) new1
  rw [List.append_nil] at hq
  have keeps : ∀ b o, hp.get? b = some o → ((hp.push (PySem.W.kdv_tup us)).push (PySem.HandSPX.excO C hp.objs.size)).get? b = some o := fun b o e => Heap.get?_push_of_some _ (Heap.get?_push_of_some _ e)
  have there : ((hp.push (PySem.W.kdv_tup us)).push (PySem.HandSPX.excO C hp.objs.size)).get? (hp.objs.size + 1) = some (PySem.HandSPX.excO C hp.objs.size) := by heap_get
  have I2 : Inv X pins σ (upd H1 (hp.objs.size + 1) (exo (hp.objs.size + 1) C none)) ⟨(hp.push (PySem.W.kdv_tup us)).push (PySem.HandSPX.excO C hp.objs.size), g, dr, tk, os⟩ :=
    I1.laid (t' := tk) (a := hp.objs.size + 1) (o := exo (hp.objs.size + 1) C none) (h' := (hp.push (PySem.W.kdv_tup us)).push (PySem.HandSPX.excO C hp.objs.size)) keeps lesz (exo_ok there)
  have rv2 : Vals (V.ref (hp.objs.size + 1) :: vs) (Value.ref (hp.objs.size + 1) :: us) := .cons rfl rv
  have len2 : (Value.ref (hp.objs.size + 1) :: us ++ []).length = ps.length := by
    have e := rv2.length
    rw [F1.len _ _ _ _ hq] at e
    rw [List.append_nil]
    exact e.symm
  have short : us.length ≤ sizeLine := by
    rw [← Paired.length rv, sizeLine_eq]
    omega
  have bound := hb _ (Value.ref (hp.objs.size + 1) :: us) I2.kIn len2
  rw [List.append_nil] at bound
  refine wpAny_call (PySem.HandSPX.call_own F.excBase_ValueError (fun Y => PySem.HandSPX.refsVE_contains Y bm hbm) (I1.kIn _ _ hC) (PySem.W.looks_findIn I1.kIn iC) (fun self => PySem.W.bind_fn I1.kIn self tI) short
    (codeAny_mono (F1.run _ X.stack _ _ ⟨Value.ref (hp.objs.size + 1) :: us, []⟩ (Value.ref (hp.objs.size + 1) :: us) _ _ (fun _ _ _ => False) (hr.make C us []) (I2.env0.make C us []) bound rv2 hq) fun r s' ended => ?_))
  cases r with
  | error er => exact hx pins σ _ _ er s' I2 ended
  | ok fl =>
    cases fl with
    | next => exact ended.elim
    | brk => exact ended.elim
    | cont => exact ended.elim
    | ret u =>
      obtain ⟨v, H2, os2, bare2, un2, hok2, ru, ev, d, fs, ea, ed, hd1, q2⟩ := ended
      subst ev
      obtain ⟨h2, g2, d2, t2, os'⟩ := s'
      obtain ⟨t0, G, J, kG, ge, hoe, na⟩ := mk_end0 (d2 := d2) (t2 := t2) I1 lesz keeps un2 hok2 os2 bare2 ea ed hd1
      refine ⟨ru, ⟨hp.objs.size + 1, _, _, ⟨G, g2, d2, t2, os'⟩, _, .ref C, some d, rfl, J, kG, ge, hoe, ⟨rfl, rfl, fun vs hv => ?_⟩, rfl, rfl, na, rfl, bare2, raises_own T.exC T.tyC, q2⟩⟩
      cases hv
      rfl

section
variable {X : Cx} {E : En} {kr : Kd} {fin : List Kd → Prop} {ks ks' : List Kd} {e : Expr} {g : Sl → R D} {pos : Pos}
@[simp] def mRaise (C : Str) : Sl → O := fun r => .exc ⟨C, none⟩ r
/-- what is known of an own class without __init__ -/
structure XPlain (K : PySem.W.Frag) (mg : Str → Option Value) (cl : Cl) (C : Str) : Prop where
  ex : ∃ a, cl.f C = some a ∧ mg C = some (.ref a) ∧ PySem.W.excIn K a [.type "ValueError", .type "Exception", .type "BaseException", .type "object"] "ValueError.__new__" = true ∧ PySem.W.keepIn K (.ref a) = true ∧
    PySem.W.subIn K (.ref a) (.type "BaseException") = some true ∧ PySem.W.typeIn K (.ref a) = some (.type "type")
theorem ss_raise {C m : Str} {j : Nat} {p1 p2 p3 : Pos} (hc : X.calm = true) (T : XPlain X.K X.mg E.cl C) (hq : NmOk C) (hg : Gl X C := by rfl) (hf : fin ks := by trivial) :
    SS X E kr fin ks (.Raise (some (.Call (.Name C p1) [.Constant (.str m) j p2] [] p3)) none pos) (mRaise C) ks' := by
  refine ⟨fun Hs H r σ W Dn tk S P => ?_⟩
  obtain ⟨a, h1, h2, h3, h4, h5, h6⟩ := T.ex
  exact ws_of (ps_raiseM hc tk (L2.pmk_own PySem.F.excBase_ValueError h3 h2 h4 (raises_own h5 h6) hg hq.1) (L2N.pmk_own PySem.F.excBase_ValueError h3 h2 h4 (raises_own h5 h6) hg hq.1)) (P Hs H σ _ _ ks hf S ⟨a, h1, rfl, rfl⟩)
/-- an own class whose __init__ stores its one argument in the field «at» -/
structure XAt (P : Program) (w : World) (K : PySem.W.Frag) (mg : Str → Option Value) (base : Heap) (cl : Cl) (C : Str) (k : Nat) : Prop where
  ex : ∃ a fI fd ps, cl.f C = some a ∧ mg C = some (.ref a) ∧ OexC K a ∧ PySem.W.findIn K (.ref a) "__init__" = some (some (.ref fI)) ∧ PySem.W.typeIn K (.ref fI) = some (.type "function") ∧ Binds K fd ps [] ∧
    FnOk P w K mg base CX0 k fI fd ps (fun vs H Q _ => ∃ x v, vs = [.ref x, v] ∧ H x = some (exo x a none) ∧ ∀ dx, H dx = none → dx ≠ x → Q .non (upd (upd H x (exo x a (some dx))) dx (exd dx [("at", v)])))
@[simp] def mRaiseAt (C : Str) (g : Sl → R D) : Sl → O := fun r => onR (g r) r fun d => .exc ⟨C, some d⟩ r
theorem ss_raiseAt {C : Str} {k : Nat} {p1 p3 : Pos} (hc : X.calm = true) (T : XAt X.prog X.w X.K X.mg X.base E.cl C k) (hr : Room (k + 1) X.A) (he : SE X E ks .val e g) (hq : NmOk C) (hg : Gl X C := by rfl) (hf : fin ks := by trivial)
    (hst : starEach (e :: []) X.env = (false, eval e X.env) :: starEach [] X.env := by rfl) (hpl : (backTo p3 (starEach [] X.env)).any (·.1) = false := by rfl) :
    SS X E kr fin ks (.Raise (some (.Call (.Name C p1) [e] [] p3)) none pos) (mRaiseAt C g) ks' := by
  refine ⟨fun Hs H r σ W Dn tk S P => ?_⟩
  obtain ⟨a, fI, fd, ps, h1, h2, h3, h4, h5, h6, h7⟩ := T.ex
  refine ws_of (ps_raiseM hc tk (pmk_oex h3 h4 h5 h7 hr h6 .nil pass0 hg h2 pa_wa hq.1 hst hpl) (pmk_oexN h3 h4 h5 h7 hr h6 pass0 hg h2 pa_wa hq.1 hst hpl)) ?_
  refine wa_one (he.run _ _ _ _ _ _ tk S (Post.ofS hf S P fun d v Hs' H' e1 g1 k1 P1 => ?_)) hst
  refine ⟨by show 1 ≤ 1000; decide, fun x hx => ⟨x, v, rfl, upd_same, fun dx hd ne => ⟨rfl, dx, [("at", v)], ?_, upd_same, ?_, ?_⟩⟩⟩
  · rw [upd_ne ne.symm, upd_same]
  · rw [upd_ne ne] at hd
    exact hd
  · have hd' : H' dx = none := by
      rw [upd_ne ne] at hd
      exact hd
    have eq : upd (del (upd (upd (upd H' x (exo x a none)) x (exo x a (some dx))) dx (exd dx [("at", v)])) x) dx (.xd [("at", v)]) = upd H' dx (.xd [("at", v)]) := by
      funext b
      by_cases hb : b = dx
      · rw [hb, upd_same, upd_same]
      · rw [upd_ne hb, upd_ne hb]
        by_cases hx2 : b = x
        · rw [hx2, del_same, hx]
        · rw [del_ne hx2, upd_ne hb, upd_ne hx2, upd_ne hx2]
    rw [eq]
    have g2 := Grow.new g1.sub (o := .xd [("at", v)]) hd'
    exact P1 _ _ σ _ _ ks hf ((S.grow g1).grow g2) ⟨a, h1, rfl, dx, v, rfl, upd_same, Rep.same g2.s _ _ k1.rep⟩
end

/-- a def's promise by its plain function -/
def spV (cl : Cl) (bs : List Bool) (kr : Kd) (f : List D → R D) : Sp := fun vs H Q E => ∃ ds Hs, Same Hs H ∧ RAs cl Hs H bs ds vs ∧ Post cl kr Hs H Q E (f ds)
@[simp] def outF : O → R D
  | .nx _ => .ok .non
  | .rt d _ => .ok d
  | .exc x _ => .exc x
  | .stuck => .stuck
/-- the plain function of a body with n further names -/
@[simp] def runF (m : Sl → O) (n : Nat) : List D → R D := fun ds => outF (m (ds.map some ++ List.replicate n none))
structure Fi [md : Md] (P : Program) (w : World) (K : PySem.W.Frag) (mg : Str → Option Value) (base : Heap) (cl : Cl) (x : Str) (k : Nat) (bs : List Bool) (kr : Kd) (f : List D → R D) : Prop where
  ex : ∃ fa fd ps, FnOk P w K mg base (CXM P w) k fa fd ps (spV cl bs kr f) ∧ mg x = some (.ref fa) ∧ PySem.W.keepIn K (.ref fa) = true ∧ Binds K fd ps []
theorem Fi.mono {P : Program} {w : World} {K : PySem.W.Frag} {mg : Str → Option Value} {base : Heap} {cl : Cl} {x : Str} {k k' : Nat} {bs : List Bool} {kr : Kd} {f : List D → R D} (F : Fi P w K mg base cl x k bs kr f) (h : k ≤ k') : Fi P w K mg base cl x k' bs kr f := by
  obtain ⟨fa, fd, ps, h1, h2⟩ := F.ex
  exact ⟨fa, fd, ps, h1.mono h, h2⟩
def kdOf : Bool → Kd
  | true => .val
  | false => .bor
theorem slots_start {E : En} {Hs H : Hp} (eb : E.b = H) : ∀ {bs : List Bool} {ds : List D} {vs : List V}, RAs E.cl Hs H bs ds vs → ∀ (ls : List Kd), Slots E Hs H (bs.map kdOf ++ ls) (ds.map some ++ List.replicate ls.length none) (vs.map some ++ List.replicate ls.length none) []
  | _, _, _, .nil, ls => by
    induction ls with
    | nil => exact .nil
    | cons l ls ih => exact .skip ih
  | _, _, _, .val r t, ls => .cons (A := []) (.val r) (slots_start eb t ls)
  | _, _, _, .bor r t, ls => by
    refine .cons (A := []) ?_ (slots_start eb t ls)
    show ORep E.cl E.N E.b Hs H .bor _ _ []
    cases r with
    | val r => exact .borV r
    | lst h1 h2 => exact .borL (by rw [eb]; exact h1) h2
    | dct h1 h2 => exact .borK (by rw [eb]; exact h1) h2
    | obj h0 h1 h2 => exact .borO h0 (by rw [eb]; exact h1) (by rw [eb]; exact h2)
theorem def_okF {P : Program} {w : World} {K : PySem.W.Frag} {mg : Str → Option Value} {base : Heap} {cl : Cl} {x qual : Str} {st : Stmt} {fa : Addr} {fd : FuncData} {N ps : List Str} {k : Nat} {bs : List Bool} {kr : Kd} {ls ks' : List Kd} {m : Sl → O}
    (F : Fun K x qual st fa fd) (S : FnScope N ps (defScope st)) (hb : bs.length = ps.length) (hN : N.length = ps.length + ls.length) (fk : kr.fine = true) (ko : kr = .val ∨ kr = .own none)
    (body : ∀ (cdv : Value) (A : Around) (outer : List Env) (s : Shared) (H : Hp) (E : XK) (h0 s0 b0 : Hp), Room k (A.deeper (envOfC qual (defScope st) s.heap.objs.size fa cdv)) →
      SB (cxOf (CXM P w) P w K mg base N qual (defScope st) fa cdv A outer s H E) ⟨cl, h0, s0, b0⟩ kr (fun _ => True) (bs.map kdOf ++ ls) (defBody st) m ks') : FnOk P w K mg base (CXM P w) (k + 1) fa fd ps (spV cl bs kr (runF m ls.length)) := by
  refine fun_okM F S (fun vs H Q E h => ?_) (fun cdv A outer s H vs Q E hr h => ?_)
  · obtain ⟨ds, Hs, _, a, _⟩ := h
    rw [a.len.1, hb]
  · obtain ⟨ds, Hs, e, a, p⟩ := h
    refine ⟨_, pss_ws, ?_⟩
    have tk : Takes (cxOf (CXM P w) P w K mg base N qual (defScope st) fa cdv A outer s H E) (fun c dd _ H' => E c dd H') := takes_of rfl rfl rfl rfl
    have hst : L2.start N vs = vs.map some ++ List.replicate ls.length none := by
      unfold L2.start
      rw [a.len.1, hb, hN, Nat.add_sub_cancel_left]
    have S0 : StRel ⟨cl, H, Hs, H⟩ Hs H (bs.map kdOf ++ ls) (ds.map some ++ List.replicate ls.length none) (L2.start N vs) := by
      rw [hst]
      exact ⟨[], slots_start rfl a ls, List.nodup_nil, (fun a ha => nomatch ha), Same.refl _, e, Same.refl _, fun a z => .inl z, fun a z => z, fun _ z => z⟩
    refine (body cdv A outer s H E H Hs H hr).run _ _ _ _ _ _ tk S0 ?_
    unfold runF at p
    cases q : m (ds.map some ++ List.replicate ls.length none) with
    | stuck => rw [q] at p; exact p
    | nx r =>
      rw [q] at p
      intro Hs' H' σ' S'
      have f := S'.facts
      refine p .non Hs' H' ⟨f.1, f.2.1, f.2.2.1, S'.sub, f.2.2.2⟩ ?_
      rcases ko with rfl | rfl
      · exact RK.val .non
      · exact RK.ownPlain rfl .non
    | rt d r =>
      rw [q] at p
      intro Hs' H' σ' v ks2 _ S'
      have f := S'.facts
      refine p v Hs' H' ⟨f.1, f.2.1, f.2.2.1, S'.sub, f.2.2.2⟩ ?_
      obtain ⟨As, s'⟩ := S'
      have sl := s'.sl
      cases sl with
      | cons o t =>
        rename_i A As'
        refine ⟨A, ORep.anyB kr _ _ _ fk o, (List.nodup_append.mp s'.nd).1, fun a ha => ?_⟩
        have z := s'.dis a (List.mem_append_left _ ha)
        exact ⟨z.1, z.2⟩
    | exc z r =>
      rw [q] at p
      intro Hs' H' σ' c dd ks2 _ S' xr
      have f := S'.facts
      exact p c dd Hs' H' ⟨f.1, f.2.1, f.2.2.1, S'.sub, f.2.2.2⟩ xr
theorem def_ok {P : Program} {w : World} {K : PySem.W.Frag} {mg : Str → Option Value} {base : Heap} {cl : Cl} {x qual : Str} {st : Stmt} {fa : Addr} {fd : FuncData} {N ps : List Str} {k : Nat} {bs : List Bool} {kr : Kd} {ls ks' : List Kd} {m : Sl → O}
    (F : Fun K x qual st fa fd) (S : FnScope N ps (defScope st)) (gm : mg x = some (.ref fa)) (bn : Binds K fd ps []) (hb : bs.length = ps.length) (hN : N.length = ps.length + ls.length) (fk : kr.fine = true) (ko : kr = .val ∨ kr = .own none)
    (body : ∀ (cdv : Value) (A : Around) (outer : List Env) (s : Shared) (H : Hp) (E : XK) (h0 s0 b0 : Hp), Room k (A.deeper (envOfC qual (defScope st) s.heap.objs.size fa cdv)) →
      SB (cxOf (CXM P w) P w K mg base N qual (defScope st) fa cdv A outer s H E) ⟨cl, h0, s0, b0⟩ kr (fun _ => True) (bs.map kdOf ++ ls) (defBody st) m ks') : Fi P w K mg base cl x (k + 1) bs kr (runF m ls.length) :=
  ⟨fa, fd, ps, def_okF F S hb hN fk ko body, gm, F.kp, bn⟩
/-- f(e, ..) -/
theorem se_call {X : Cx} {E : En} {ks : List Kd} {x : Str} {k : Nat} {bs : List Bool} {kr : Kd} {f : List D → R D} {e : Expr} {es : List Expr} {t : Sl → R (List D)} {p pos : Pos} (F : Fi X.prog X.w X.K X.mg X.base E.cl x k bs kr f) (hr : Room k X.A) (ha : SA X E ks bs (e :: es) t)
    (hq : NmOk x) (hg : Gl X x := by rfl) (he : starEach (e :: es) X.env = (false, eval e X.env) :: starEach es X.env := by rfl) (hpl : (backTo pos (starEach es X.env)).any (·.1) = false := by rfl) :
    SE X E ks kr (.Call (.Name x p) (e :: es) [] pos) (gCall f t) := by
  refine ⟨fun Hs H r σ W Q tk S P => ?_⟩
  obtain ⟨fa, fd, ps, h1, h2, h3, h4⟩ := F.ex
  refine we_of (pe_callS h1 hr hg h2 h3 h4 (fun σ => passAt tk σ) pa_wa hq.1 he hpl) ?_
  refine ha.run _ _ _ _ _ _ tk S (PostA.of P fun ds vs Hs' H' e1 g1 a P1 => ?_)
  exact ⟨ds, Hs', g1.sub, a, P1⟩
end VL
end

noncomputable section
namespace VL
open PySem PySem.Spec PyProof.Rows L2
variable {md : Md}

theorem bb_len : bootBuiltins "len" = some (.builtin "len") := by decide +kernel
theorem bn_len : ("len" : Str) ≠ "__name__" := by decide
theorem bd_len : (("len" : Str) == ("__debug__" : Str)) = false := by decide
theorem bb_min : bootBuiltins "min" = some (.builtin "min") := by decide +kernel
theorem bn_min : ("min" : Str) ≠ "__name__" := by decide
theorem bd_min : (("min" : Str) == ("__debug__" : Str)) = false := by decide
theorem bb_max : bootBuiltins "max" = some (.builtin "max") := by decide +kernel
theorem bn_max : ("max" : Str) ≠ "__name__" := by decide
theorem bd_max : (("max" : Str) == ("__debug__" : Str)) = false := by decide
theorem bb_sorted : bootBuiltins "sorted" = some (.builtin "sorted") := by decide +kernel
theorem bn_sorted : ("sorted" : Str) ≠ "__name__" := by decide
theorem bd_sorted : (("sorted" : Str) == ("__debug__" : Str)) = false := by decide
theorem bb_list : bootBuiltins "list" = some (.type "list") := by decide +kernel
theorem bn_list : ("list" : Str) ≠ "__name__" := by decide
theorem bd_list : (("list" : Str) == ("__debug__" : Str)) = false := by decide
theorem bb_tuple : bootBuiltins "tuple" = some (.type "tuple") := by decide +kernel
theorem bn_tuple : ("tuple" : Str) ≠ "__name__" := by decide
theorem bd_tuple : (("tuple" : Str) == ("__debug__" : Str)) = false := by decide
inductive Ty5 where
  | list | tuple | bool | str | int
def Ty5.nm : Ty5 → String
  | .list => "list"
  | .tuple => "tuple"
  | .bool => "bool"
  | .str => "str"
  | .int => "int"
section
variable {X : Cx} {E : En} {ks : List Kd} {e : Expr} {g : Sl → R D} {p p1 p2 p3 pos : Pos}
end

def insBy {α : Type} (lt : α → α → Bool) (x : α) : List α → List α
  | [] => [x]
  | y :: r => if lt y x then y :: insBy lt x r else x :: y :: r
def sortBy {α : Type} (lt : α → α → Bool) : List α → List α
  | [] => []
  | x :: r => insBy lt x (sortBy lt r)
/-- a strict total order -/
structure Sto {α : Type} (lt : α → α → Bool) : Prop where
  irr : ∀ x, lt x x = false
  tr : ∀ x y z, lt x y = true → lt y z = true → lt x z = true
  tot : ∀ x y, lt x y = true ∨ x = y ∨ lt y x = true
section
variable {α : Type} {lt : α → α → Bool}
theorem insBy_perm (x : α) : ∀ l : List α, (insBy lt x l).Perm (x :: l)
  | [] => List.Perm.refl _
  | y :: r => by
    unfold insBy
    split
    · exact (List.Perm.cons y (insBy_perm x r)).trans (List.Perm.swap x y r)
    · exact List.Perm.refl _
theorem sortBy_perm : ∀ l : List α, (sortBy lt l).Perm l
  | [] => List.Perm.refl _
  | x :: r => (insBy_perm x _).trans (List.Perm.cons x (sortBy_perm r))
theorem insBy_srt (o : Sto lt) (x : α) : ∀ {l : List α}, l.Pairwise (fun a b => lt b a = false) → (insBy lt x l).Pairwise (fun a b => lt b a = false)
  | [], _ => List.pairwise_singleton _ _
  | y :: r, h => by
    obtain ⟨h1, h2⟩ := List.pairwise_cons.mp h
    unfold insBy
    split
    · rename_i q
      refine List.pairwise_cons.mpr ⟨fun z hz => ?_, insBy_srt o x h2⟩
      rcases List.mem_cons.mp ((insBy_perm x r).mem_iff.mp hz) with e | hz
      · rw [e]
        cases w : lt x y with
        | false => rfl
        | true =>
          have := o.tr _ _ _ q w
          rw [o.irr] at this
          cases this
      · exact h1 z hz
    · rename_i q
      have q' : lt y x = false := by simpa using q
      refine List.pairwise_cons.mpr ⟨fun z hz => ?_, h⟩
      rcases List.mem_cons.mp hz with e | hz
      · rw [e]; exact q'
      · cases w : lt z x with
        | false => rfl
        | true =>
          rcases o.tot x y with u | u | u
          · have := o.tr _ _ _ w u
            rw [h1 z hz] at this
            cases this
          · rw [u] at w
            rw [h1 z hz] at w
            cases w
          · rw [q'] at u; cases u
theorem sortBy_srt (o : Sto lt) : ∀ l : List α, (sortBy lt l).Pairwise (fun a b => lt b a = false)
  | [] => List.Pairwise.nil
  | x :: r => insBy_srt o x (sortBy_srt o r)
theorem srt_uniq (o : Sto lt) : ∀ {l m : List α}, l.Perm m → l.Pairwise (fun a b => lt b a = false) → m.Pairwise (fun a b => lt b a = false) → l = m
  | [], m, p, _, _ => (List.nil_perm.mp p).symm
  | x :: l, [], p, _, _ => absurd (List.perm_nil.mp p) (by simp)
  | x :: l, y :: m, p, h1, h2 => by
    obtain ⟨a1, a2⟩ := List.pairwise_cons.mp h1
    obtain ⟨b1, b2⟩ := List.pairwise_cons.mp h2
    have e : x = y := by
      rcases List.mem_cons.mp (p.mem_iff.mp (List.mem_cons_self (a := x) (l := l))) with e | hx
      · exact e
      · rcases List.mem_cons.mp (p.mem_iff.mpr (List.mem_cons_self (a := y) (l := m))) with e | hy
        · exact e.symm
        · rcases o.tot x y with u | u | u
          · rw [b1 x hx] at u; cases u
          · exact u
          · rw [a1 y hy] at u; cases u
    subst e
    rw [srt_uniq o ((List.perm_cons x).mp p) a2 b2]
theorem sortBy_of (o : Sto lt) {l m : List α} (p : m.Perm l) (h : m.Pairwise (fun a b => lt b a = false)) : m = sortBy lt l := srt_uniq o (p.trans (sortBy_perm l).symm) h (sortBy_srt o l)
end
def ltI (a b : Int) : Bool := decide (a < b)
def ltII (a b : Int × Int) : Bool := decide (a.1 < b.1) || (decide (a.1 = b.1) && decide (a.2 < b.2))
theorem sto_I : Sto ltI := ⟨fun x => by simp [ltI], fun x y z h1 h2 => by simp [ltI] at *; omega, fun x y => by simp [ltI]; omega⟩
theorem sto_II : Sto ltII := by
  refine ⟨fun x => by simp [ltII], fun x y z h1 h2 => ?_, fun x y => ?_⟩
  · simp [ltII] at *
    omega
  · obtain ⟨a, b⟩ := x
    obtain ⟨c, d⟩ := y
    simp [ltII]
    omega
def twoD (p : Int × Int) : D := .tup [.int p.1, .int p.2]
def pairsOf : List D → Option (List (Int × Int))
  | [] => some []
  | .tup [.int i, .int j] :: r => (pairsOf r).map ((i, j) :: ·)
  | _ :: _ => none
theorem pairsOf_eq : ∀ {ds : List D} {ps : List (Int × Int)}, pairsOf ds = some ps → ds = ps.map twoD
  | [], _, h => by cases h; rfl
  | d :: r, ps, h => by
    unfold pairsOf at h
    split at h
    · rename_i e
      cases e
    · rename_i i j r' e
      cases e
      cases q : pairsOf r with
      | none => rw [q] at h; cases h
      | some ms =>
        rw [q] at h
        cases h
        rw [pairsOf_eq q]
        rfl
    · cases h
def fSorted : List D → R D
  | [.lst ds] => match intsOf ds with
    | some ns => .ok (.lst ((sortBy ltI ns).map D.int))
    | none => match pairsOf ds with
      | some ps => .ok (.lst ((sortBy ltII ps).map twoD))
      | none => .stuck
  | _ => .stuck
theorem RepL.perm {cl : Cl} {H : Hp} : ∀ {vs us : List V}, us.Perm vs → ∀ {ds : List D}, RepL cl H ds vs → ∃ es, es.Perm ds ∧ RepL cl H es us := by
  intro vs us p
  induction p with
  | nil => intro ds h; exact ⟨ds, List.Perm.refl _, h⟩
  | cons x p ih =>
    intro ds h
    cases h with
    | cons h1 h2 =>
      obtain ⟨es, q, r⟩ := ih h2
      exact ⟨_ :: es, List.Perm.cons _ q, .cons h1 r⟩
  | swap x y l =>
    intro ds h
    cases h with
    | cons h1 h2 =>
      cases h2 with
      | cons h2 h3 => exact ⟨_, List.Perm.swap _ _ _, .cons h2 (.cons h1 h3)⟩
  | trans p q ih1 ih2 =>
    intro ds h
    obtain ⟨es, q1, r1⟩ := ih2 h
    obtain ⟨fs, q2, r2⟩ := ih1 r1
    exact ⟨fs, q2.trans q1, r2⟩
def keyV (H : Hp) : V → Int × Int
  | .ref t => match H t with
    | some (.tup [.int i, .int j]) => (i, j)
    | _ => (0, 0)
  | _ => (0, 0)
theorem pair_key {cl : Cl} {Hs H : Hp} (e : Same Hs H) : ∀ {ps : List (Int × Int)} {vs : List V}, RepL cl Hs (ps.map twoD) vs → ps = vs.map (keyV H) ∧ ∀ x ∈ vs, ∃ t, x = V.ref t ∧ H t = some (.tup [.int (keyV H x).1, .int (keyV H x).2])
  | [], _, h => by cases h; exact ⟨rfl, fun x hx => nomatch hx⟩
  | p :: ps, _, h => by
    cases h with
    | cons h1 h2 =>
      obtain ⟨q1, q2⟩ := pair_key e h2
      cases h1 with
      | tup h3 h4 =>
        cases h4 with
        | cons h5 h6 =>
          cases h6 with
          | cons h7 h8 =>
            cases h8
            cases h5
            cases h7
            have h3' := e.at _ _ h3
            rename_i a
            have hk : keyV H (.ref a) = p := by
              unfold keyV
              show (match H a with
                | some (.tup [.int i, .int j]) => (i, j)
                | _ => (0, 0)) = p
              rw [h3']
            refine ⟨by rw [List.map_cons, hk, ← q1], fun x hx => ?_⟩
            rcases List.mem_cons.mp hx with z | z
            · subst z
              exact ⟨a, rfl, by rw [hk]; exact h3'⟩
            · exact q2 x z
theorem callv_sorted {X : Cx} : CallV X.K (fun vs H Q => rSortedI X.K vs H Q ∨ rSortedPO X.K vs H Q) (.own none) [false] fSorted := by
  intro cl Hs H ds vs Q W e a P
  obtain ⟨d, v, rfl, rfl, r⟩ := a.one
  cases d <;> first | exact P.elim | skip
  dsimp only [fSorted] at P
  split at P
  · rename_i ns q
    obtain ⟨p, rfl, h1⟩ := r.intsInv e q
    refine .inl ⟨p, ns, rfl, SqL.of h1, fun ns' p' pm pw hp => ?_⟩
    have z : ns' = sortBy ltI ns := sortBy_of sto_I pm (pw.imp fun {a b} h => by simp [ltI]; omega)
    rw [z]
    exact P.finL e hp (RepL.ofInts _)
  · split at P
    · rename_i ps q
      obtain ⟨p, xs, rfl, h1, r1⟩ := r.lstInv e
      rw [pairsOf_eq q] at r1
      obtain ⟨k1, k2⟩ := pair_key e r1
      refine .inr ⟨p, xs, keyV H, rfl, SqL.of h1, k2, fun ys p' st sb hp => ?_⟩
      obtain ⟨es, pe, re⟩ := RepL.perm sb.perm r1
      have hes : ∃ qs : List (Int × Int), es = qs.map twoD := by
        have : ∀ z ∈ es, ∃ q : Int × Int, z = twoD q := fun z hz => by
          obtain ⟨q, _, hq⟩ := List.mem_map.mp (pe.mem_iff.mp hz)
          exact ⟨q, hq.symm⟩
        clear pe re
        induction es with
        | nil => exact ⟨[], rfl⟩
        | cons z zs ih =>
          obtain ⟨q, hq⟩ := this z List.mem_cons_self
          obtain ⟨qs, hqs⟩ := ih fun z hz => this z (List.mem_cons_of_mem _ hz)
          exact ⟨q :: qs, by rw [hq, hqs]; rfl⟩
      obtain ⟨qs, rfl⟩ := hes
      obtain ⟨k3, k4⟩ := pair_key e re
      have z : qs = sortBy ltII ps := by
        refine sortBy_of sto_II ?_ ?_
        · rw [k1, k3]
          exact sb.perm.map _
        · rw [k3, List.pairwise_map]
          refine List.Pairwise.imp (fun {a b} h => ?_) st
          have h' := SrtO.lexB_no.mp h
          simp [ltII]
          omega
      rw [← z] at P
      exact P.finL e hp re
    · exact P.elim
end VL
end

noncomputable section
namespace VL
open PySem PySem.Spec PyProof.Rows L2
variable {md : Md}

/-- the built-in names that no text here stores -/
structure Bl (mg : Str → Option Value) : Prop where
  len : mg "len" = none
  range : mg "range" = none
  min : mg "min" = none
  max : mg "max" = none
  abs : mg "abs" = none
  sum : mg "sum" = none
  all : mg "all" = none
  any : mg "any" = none
  sorted : mg "sorted" = none
  list : mg "list" = none
  tuple : mg "tuple" = none
  int : mg "int" = none
  bool : mg "bool" = none
  str : mg "str" = none
  isinstance : mg "isinstance" = none
  zip : mg "zip" = none
  enumerate : mg "enumerate" = none
  reversed : mg "reversed" = none
  set : mg "set" = none
  dict : mg "dict" = none
theorem _root_.L2.Room.units65 {k : Nat} {A : Around} (r : Room k A) : A.units + 65 < cLine := by have := r.un; omega
section
variable {X : Cx} {E : En} {kr : Kd} {fin : List Kd → Prop} {ks ks' ks1 : List Kd} {st : Stmt} {m : Sl → O} {a b c e e2 tg : Expr} {g g2 ga gb gc : Sl → R D} {pos p p2 : Pos} {md : Bool}
/-- a slice of the script -/
@[simp] def dSlS (d : D) (lo hi : Option Int) : R D := match d with
  | .scr ns => .ok (.lst ((cutL ns lo hi).map D.int))
  | _ => .stuck
@[simp] def gSlS (ga : Sl → R D) (gl gh : Sl → R (Option Int)) : Sl → R D := fun r => do
  let d ← ga r
  let l ← gl r
  let h ← gh r
  dSlS d l h
theorem cutV_ints (ns : List Int) (lo hi : Option Int) : cutV (ns.map V.int) lo hi = (cutL ns lo hi).map V.int := by
  unfold cutV cutL
  rw [List.map_take, List.map_drop, List.length_map]
theorem se_slS {lo hi : Option Expr} {gl gh : Sl → R (Option Int)} (hK : E.cl.K = X.K) (ha : SE X E ks .bor a ga) (hl : SO X E ks lo gl) (hh : SO X E ks hi gh) : SE X E ks (.own none) (.Subscript a (.Slice lo hi none p2) pos) (gSlS ga gl gh) := by
  refine ⟨fun Hs H r σ W Q tk S P => ?_⟩
  refine we_of (pe_slice sl_list pe_we po_wo po_wo) ?_
  refine ha.run _ _ _ _ _ _ tk S (Post.imp (F := fun d => gl r >>= fun l => gh r >>= fun h => dSlS d l h) P fun d v Hs1 H1 e1 g1 k1 P1 => ?_)
  refine hl.run _ _ _ _ _ _ tk (S.grow g1) ?_
  cases q : gl r with
  | stuck => rw [q] at P1; exact P1
  | exc x => rw [q] at P1; exact P1
  | ok l =>
    rw [q] at P1
    intro Hs2 H2 g2
    refine hh.run _ _ _ _ _ _ tk ((S.grow g1).grow g2) ?_
    have P2 : Post E.cl (.own none) Hs2 H2 Q (fun c dd H' => W c dd σ H') (gh r >>= fun h => dSlS d l h) := Post.grow (r := gh r >>= fun h => dSlS d l h) P1 g2
    cases q2 : gh r with
    | stuck => rw [q2] at P2; exact P2
    | exc x => rw [q2] at P2; exact P2
    | ok h =>
      rw [q2] at P2
      intro Hs3 H3 g3
      have P3 : Post E.cl (.own none) Hs3 H3 Q (fun c dd H' => W c dd σ H') (dSlS d l h) := Post.grow (r := dSlS d l h) P2 g3
      cases d <;> first | exact P3.elim | skip
      have k3 := (k1.rb.grow g2).grow g3
      cases k3 with
      | val k =>
        cases k with
        | scr h1 =>
          rw [hK] at h1
          refine ⟨_, _, rfl, g3.sub.seq h1, fun q hq => ?_⟩
          rw [cutV_ints]
          exact P3.finL g3.sub hq (RepL.ofInts _)
end

section
variable {X : Cx} {E : En} {ks : List Kd} {e : Expr} {es : List Expr} {t : Sl → R (List D)} {p pos : Pos}
theorem sf_Len (B : Bl X.mg) (ha : SA X E ks [false] (e :: es) t) (hc : X.calm = true := by rfl) (hg : Gl X "len" := by rfl) (he : starEach (e :: es) X.env = (false, eval e X.env) :: starEach es X.env := by rfl) (hpl : (backTo pos (starEach es X.env)).any (·.1) = false := by rfl) : SE X E ks (.val) (.Call (.Name "len" p) (e :: es) [] pos) (gCall fLen t) :=
  se_callB (call_len.or call_lenR) callv_len B.len bb_len ha hg bn_len bd_len he hpl
theorem sf_Min2 (B : Bl X.mg) (ha : SA X E ks [false, false] (e :: es) t) (hc : X.calm = true := by rfl) (hg : Gl X "min" := by rfl) (he : starEach (e :: es) X.env = (false, eval e X.env) :: starEach es X.env := by rfl) (hpl : (backTo pos (starEach es X.env)).any (·.1) = false := by rfl) : SE X E ks (.val) (.Call (.Name "min" p) (e :: es) [] pos) (gCall fMin2 t) :=
  se_callB (call_min2 hc) callv_min2 B.min bb_min ha hg bn_min bd_min he hpl
theorem sf_Max2 (B : Bl X.mg) (ha : SA X E ks [false, false] (e :: es) t) (hc : X.calm = true := by rfl) (hg : Gl X "max" := by rfl) (he : starEach (e :: es) X.env = (false, eval e X.env) :: starEach es X.env := by rfl) (hpl : (backTo pos (starEach es X.env)).any (·.1) = false := by rfl) : SE X E ks (.val) (.Call (.Name "max" p) (e :: es) [] pos) (gCall fMax2 t) :=
  se_callB (call_max2 hc) callv_max2 B.max bb_max ha hg bn_max bd_max he hpl
theorem sf_Sorted (B : Bl X.mg) (ha : SA X E ks [false] (e :: es) t) (hc : X.calm = true := by rfl) (hg : Gl X "sorted" := by rfl) (he : starEach (e :: es) X.env = (false, eval e X.env) :: starEach es X.env := by rfl) (hpl : (backTo pos (starEach es X.env)).any (·.1) = false := by rfl) : SE X E ks (.own none) (.Call (.Name "sorted" p) (e :: es) [] pos) (gCall fSorted t) :=
  se_callB (cr_sortedI.or cr_sortedPO) callv_sorted B.sorted bb_sorted ha hg bn_sorted bd_sorted he hpl
theorem sf_List (B : Bl X.mg) (ha : SA X E ks [false] (e :: es) t) (hc : X.calm = true := by rfl) (hg : Gl X "list" := by rfl) (he : starEach (e :: es) X.env = (false, eval e X.env) :: starEach es X.env := by rfl) (hpl : (backTo pos (starEach es X.env)).any (·.1) = false := by rfl) : SE X E ks (.own none) (.Call (.Name "list" p) (e :: es) [] pos) (gCall fList t) :=
  se_callTy call_list_of callv_list B.list bb_list ha hg bn_list bd_list he hpl
theorem sf_Tuple (B : Bl X.mg) (ha : SA X E ks [false] (e :: es) t) (hc : X.calm = true := by rfl) (hg : Gl X "tuple" := by rfl) (he : starEach (e :: es) X.env = (false, eval e X.env) :: starEach es X.env := by rfl) (hpl : (backTo pos (starEach es X.env)).any (·.1) = false := by rfl) : SE X E ks (.val) (.Call (.Name "tuple" p) (e :: es) [] pos) (gCall fTuple t) :=
  se_callTy call_tuple_of callv_tuple B.tuple bb_tuple ha hg bn_tuple bd_tuple he hpl
end
/-- how often a while may turn here -/
def WB : Nat := Classical.choose (oN_ex 100000)
theorem WB_eq : WB = 100000 := Classical.choose_spec (oN_ex 100000)
end VL
end

noncomputable section
namespace VL
open PySem PySem.Spec PyProof.Rows L2
variable {md : Md}

theorem whileL_inv (I : Sl → Prop) (μ : Sl → Nat) {tc : Sl → R Bool} {mb : Sl → O} (st : ∀ r, I r → ∃ b, tc r = .ok b ∧ (b = true → ∃ r', mb r = .nx r' ∧ I r' ∧ μ r' < μ r)) : ∀ (n : Nat) (r : Sl), I r → μ r < n → ∃ r', whileL tc mb n r = .nx r' ∧ I r' ∧ tc r' = .ok false
  | 0, r, _, h => absurd h (Nat.not_lt_zero _)
  | n + 1, r, hi, h => by
    obtain ⟨b, e, k⟩ := st r hi
    cases b with
    | false =>
      refine ⟨r, ?_, hi, e⟩
      unfold whileL
      rw [e]
      rfl
    | true =>
      obtain ⟨r', e2, hi', hm⟩ := k rfl
      obtain ⟨r'', e3, h3, h4⟩ := whileL_inv I μ st n r' hi' (by omega)
      refine ⟨r'', ?_, h3, h4⟩
      unfold whileL
      rw [e]
      show (match mb r with
        | .nx r' => whileL tc mb n r'
        | o => o) = _
      rw [e2]
      exact e3
/-- a comprehension over what is walked -/
theorem mapR_map {α β γ : Type} {f : α → R β} {l : List γ} {F : γ → α} {G : γ → β} (h : ∀ x ∈ l, f (F x) = .ok (G x)) : mapR f (l.map F) = .ok (l.map G) := by
  induction l with
  | nil => rfl
  | cons x l ih =>
    rw [List.map_cons]
    unfold mapR
    rw [h x List.mem_cons_self, ih fun y hy => h y (List.mem_cons_of_mem _ hy)]
    rfl
theorem gComp_map {γ : Type} {gi : Sl → R (List D)} {t : Tg} {vs : List Nat} {tt : Sl → R Bool} {ge : Sl → R D} {r : Sl} {l : List γ} {F : γ → D} {G : γ → D} (h : gi r = .ok (l.map F)) (hg : ∀ x ∈ l, gTurn t vs tt ge r (F x) = .ok (some (G x))) : gComp gi t vs tt ge r = .ok (.lst (l.map G)) := by
  unfold gComp
  rw [h]
  show (noX (mapR (gTurn t vs tt ge r) (l.map F)) >>= fun os => R.ok (D.lst (os.filterMap id))) = _
  rw [mapR_map (G := fun x => some (G x)) hg]
  show R.ok (D.lst ((l.map fun x => some (G x)).filterMap id)) = _
  rw [List.filterMap_map]
  congr 2
  induction l with
  | nil => rfl
  | cons x l ih =>
    rw [List.map_cons, List.filterMap_cons]
    simp
@[simp] theorem lt_n30 {k : Nat} (h : k < 1073741824) : k < n30 := by rw [n30_val]; exact h
@[simp] theorem lt_n64 {k : Nat} (h : k < 18446744073709551616) : k < n64 := by rw [n64_val]; exact h
@[simp] theorem le_iMil {k : Int} (h : k ≤ 1000000) : k ≤ iMil := by rw [iMil_val]; exact h
@[simp] theorem le_szL' {k : Nat} (h : k ≤ 16777216) : k ≤ szL := le_szL h
@[simp] theorem lt_szL' {k : Nat} (h : k < 16777216) : k < szL := lt_szL h
theorem mulOk_left {a b : Int} (h1 : -(2 ^ 64) < a) (h2 : a < 2 ^ 64) : mulOk a b = true := by
  unfold mulOk
  rw [i64_val, decide_eq_true h1, decide_eq_true h2]
  rfl
theorem mulOk_right {a b : Int} (h1 : -(2 ^ 64) < b) (h2 : b < 2 ^ 64) : mulOk a b = true := by
  unfold mulOk
  rw [i64_val, decide_eq_true h1, decide_eq_true h2]
  cases (decide (-(2 ^ 64) < a) && decide (a < 2 ^ 64)) <;> rfl
theorem fmod_pos {a b : Int} (hb : 0 < b) : 0 ≤ a.fmod b ∧ a.fmod b < b := ⟨Int.fmod_nonneg_of_pos a hb, Int.fmod_lt_of_pos a hb⟩
theorem dPow_ok {a : Int} {k : Nat} (h1 : k ≤ 1000000) (h2 : a.natAbs < 2 ^ 64) : dPow (.int a) (.int k) = .ok (.int (a ^ k)) := by
  dsimp only [dPow]
  rw [if_pos ⟨Int.natCast_nonneg k, by rw [iMil_val]; omega, by rw [n64_val]; exact h2⟩, Int.toNat_natCast]
theorem dRange1_nat {n : Nat} (h : n ≤ 16777216) : dRange1 (.int (n : Int)) = .ok ((List.range n).map fun (i : Nat) => D.int i) := by
  dsimp only [dRange1]
  rw [if_pos (by rw [Int.toNat_natCast, szL_val]; exact h)]
  unfold rangeD
  rw [Int.toNat_natCast]
  simp
theorem range_split (n : Nat) : List.range n = List.range' 0 n := List.range_eq_range'
theorem seq_nx {m1 m2 : Sl → O} {r r' : Sl} (h : m1 r = .nx r') : mSeq m1 m2 r = m2 r' := by
  unfold mSeq
  rw [h]
theorem cutL_from {α : Type} {xs : List α} {k : Nat} (h : k ≤ xs.length) {i : Int} (hi : i = (k : Int) := by rfl) : cutL xs (some i) none = xs.drop k := by
  subst hi
  unfold cutL
  rw [HT.sIx_nat, HT.sIx_none, Nat.min_eq_left h, List.take_of_length_le (by rw [List.length_drop]; omega)]
theorem cutL_to {α : Type} {xs : List α} {k : Nat} {i : Int} (hi : i = (k : Int) := by rfl) : cutL xs none (some i) = xs.take k := by
  subst hi
  unfold cutL
  rw [HT.sIx_nat, HT.sIx_none, List.drop_zero, Nat.sub_zero]
  rcases Nat.le_total k xs.length with h | h
  · rw [Nat.min_eq_left h]
  · rw [Nat.min_eq_right h, List.take_length, List.take_of_length_le h]
@[simp] theorem dEq_int (a b : Int) : dEq (.int a) (.int b) = .ok (.bl (a == b)) := rfl
@[simp] theorem dNe_int (a b : Int) : dNe (.int a) (.int b) = .ok (.bl (!(a == b))) := rfl
@[simp] theorem dEq_bl (a b : Bool) : dEq (.bl a) (.bl b) = .ok (.bl (a == b)) := rfl
@[simp] theorem dNe_bl (a b : Bool) : dNe (.bl a) (.bl b) = .ok (.bl (!(a == b))) := rfl
/-- what is plain data of a depth below n -/
def pl : Nat → D → Bool
  | 0, _ => false
  | n + 1, .lst xs => xs.all (pl n) && decide (xs.length ≤ szL)
  | n + 1, .tup xs => xs.all (pl n) && decide (xs.length ≤ szL)
  | _ + 1, .str x => (PyData.str x).canLay0 && decide (x.length ≤ szL)
  | _ + 1, .dct _ => false
  | _ + 1, .obj _ _ => false
  | _ + 1, .scr _ => false
  | _ + 1, _ => true
theorem toPys_lay : ∀ {ds : List D}, (∀ d ∈ ds, (toPy d).canLay0 = true) → PyData.canLayAll0 (toPys ds) = true
  | [], _ => rfl
  | d :: ds, h => by
    show ((toPy d).canLay0 && PyData.canLayAll0 (toPys ds)) = true
    rw [h d List.mem_cons_self, toPys_lay fun x hx => h x (List.mem_cons_of_mem _ hx)]
    rfl
theorem toPys_depth {n : Nat} : ∀ {ds : List D}, (∀ d ∈ ds, (toPy d).depth ≤ n) → PyData.depthAll (toPys ds) ≤ n
  | [], _ => Nat.zero_le _
  | d :: ds, h => by
    show max (toPy d).depth (PyData.depthAll (toPys ds)) ≤ n
    exact Nat.max_le.mpr ⟨h d List.mem_cons_self, toPys_depth fun x hx => h x (List.mem_cons_of_mem _ hx)⟩
theorem pl_lay : ∀ (n : Nat) (d : D), pl n d = true → (toPy d).canLay0 = true ∧ (toPy d).depth ≤ n
  | 0, _, h => by cases h
  | n + 1, .lst xs, h => by
    have h' : xs.all (pl n) = true := by
      have q : (xs.all (pl n) && decide (xs.length ≤ szL)) = true := h
      exact (Bool.and_eq_true_iff.mp q).1
    have k : ∀ d ∈ xs, (toPy d).canLay0 = true ∧ (toPy d).depth ≤ n := fun d hd => pl_lay n d (List.all_eq_true.mp h' d hd)
    exact ⟨toPys_lay fun d hd => (k d hd).1, Nat.succ_le_succ (toPys_depth fun d hd => (k d hd).2)⟩
  | n + 1, .tup xs, h => by
    have h' : xs.all (pl n) = true := by
      have q : (xs.all (pl n) && decide (xs.length ≤ szL)) = true := h
      exact (Bool.and_eq_true_iff.mp q).1
    have k : ∀ d ∈ xs, (toPy d).canLay0 = true ∧ (toPy d).depth ≤ n := fun d hd => pl_lay n d (List.all_eq_true.mp h' d hd)
    exact ⟨toPys_lay fun d hd => (k d hd).1, Nat.succ_le_succ (toPys_depth fun d hd => (k d hd).2)⟩
  | _ + 1, .str x, h => by
    have q : ((PyData.str x).canLay0 && decide (x.length ≤ szL)) = true := h
    exact ⟨(Bool.and_eq_true_iff.mp q).1, Nat.zero_le _⟩
  | _ + 1, .dct _, h => by cases h
  | _ + 1, .obj _ _, h => by cases h
  | _ + 1, .scr _, h => by cases h
  | _ + 1, .non, _ => ⟨rfl, Nat.zero_le _⟩
  | _ + 1, .bl _, _ => ⟨rfl, Nat.zero_le _⟩
  | _ + 1, .int _, _ => ⟨rfl, Nat.zero_le _⟩
theorem pl_shp {n : Nat} {d : D} (hn : n ≤ 64) (h : pl n d = true) : shp d = true := by
  obtain ⟨a, b⟩ := pl_lay n d h
  unfold shp SeqAt.shaped
  rw [a, decide_eq_true (Nat.le_trans b hn)]
  rfl
mutual
theorem eqv_self : ∀ (d : D), (toPy d).canLay0 = true → PyData.eqv (toPy d) (toPy d) = true
  | .non, _ => rfl
  | .bl b, _ => by show (b == b) = true; simp
  | .int i, _ => by show (i == i) = true; simp
  | .str x, _ => by show (x == x) = true; simp
  | .lst xs, h => eqvAll_self xs h
  | .tup xs, h => eqvAll_self xs h
  | .dct _, h => by cases h
  | .obj _ _, h => by cases h
  | .scr _, h => by cases h
theorem eqvAll_self : ∀ (ds : List D), PyData.canLayAll0 (toPys ds) = true → PyData.eqvAll (toPys ds) (toPys ds) = true
  | [], _ => rfl
  | d :: ds, h => by
    have q : ((toPy d).canLay0 && PyData.canLayAll0 (toPys ds)) = true := h
    obtain ⟨a, b⟩ := Bool.and_eq_true_iff.mp q
    show (PyData.eqv (toPy d) (toPy d) && PyData.eqvAll (toPys ds) (toPys ds)) = true
    rw [eqv_self d a, eqvAll_self ds b]
    rfl
end
theorem dNe_self {n : Nat} {d : D} (hn : n ≤ 64) (h : pl n d = true) : dNe d d = .ok (.bl false) := by
  unfold dNe dEqB
  rw [pl_shp hn h, eqv_self d (pl_lay n d h).1]
  rfl
theorem pl_ints {xs : List Int} {n : Nat} (h : xs.length ≤ szL) : pl (n + 2) (.lst (xs.map D.int)) = true := by
  show ((xs.map D.int).all (pl (n + 1)) && decide ((xs.map D.int).length ≤ szL)) = true
  rw [List.length_map, decide_eq_true h, Bool.and_true, List.all_eq_true]
  intro d hd
  obtain ⟨i, _, rfl⟩ := List.mem_map.mp hd
  rfl
theorem pl_pair {p : Int × Int} {n : Nat} : pl (n + 2) (twoD p) = true := by
  show (([D.int p.1, D.int p.2] : List D).all (pl (n + 1)) && decide (2 ≤ szL)) = true
  rw [decide_eq_true (by rw [szL_val]; omega)]
  rfl
theorem pl_pairs {ps : List (Int × Int)} {n : Nat} (h : ps.length ≤ szL) : pl (n + 3) (.lst (ps.map twoD)) = true := by
  show ((ps.map twoD).all (pl (n + 2)) && decide ((ps.map twoD).length ≤ szL)) = true
  rw [List.length_map, decide_eq_true h, Bool.and_true, List.all_eq_true]
  intro d hd
  obtain ⟨p, _, rfl⟩ := List.mem_map.mp hd
  exact pl_pair
theorem eqvAll_ints : ∀ (xs ys : List Int), PyData.eqvAll (toPys (xs.map D.int)) (toPys (ys.map D.int)) = decide (xs = ys)
  | [], [] => rfl
  | [], _ :: _ => rfl
  | _ :: _, [] => rfl
  | x :: xs, y :: ys => by
    show ((x == y) && PyData.eqvAll (toPys (xs.map D.int)) (toPys (ys.map D.int))) = _
    rw [eqvAll_ints xs ys]
    by_cases h : x = y <;> by_cases h2 : xs = ys <;> simp [h, h2]
theorem dNe_ints {xs ys : List Int} (h1 : xs.length ≤ szL) (h2 : ys.length ≤ szL) : dNe (.lst (xs.map D.int)) (.lst (ys.map D.int)) = .ok (.bl (!decide (xs = ys))) := by
  unfold dNe dEqB
  rw [pl_shp (n := 2) (by decide) (pl_ints h1), pl_shp (n := 2) (by decide) (pl_ints h2)]
  show R.ok (D.bl (!PyData.eqvAll (toPys (xs.map D.int)) (toPys (ys.map D.int)))) = _
  rw [eqvAll_ints]
end VL
end

noncomputable section
namespace VL
open PySem PySem.Spec PyProof.Rows L2
open ModeZ

/-- where a def stands -/
structure AtF (K : PySem.W.Frag) (mg : Str → Option Value) (x qual : Str) (st : Stmt) : Prop where
  ex : ∃ fa fd, Fun K x qual st fa fd ∧ mg x = some (.ref fa)
theorem at_mk {K : PySem.W.Frag} {h : Heap} {mg : Str → Option Value} (X : K.In h) (G : h.Ns mainGlobals mg) {x qual : Str} {st : Stmt} {f : Addr} {od an : Option Addr} {sl : Array (Option Value)} {oc kV dc pm cd ct : Value}
    (a : PySem.W.nsIn K mainGlobals x = some (some (.ref f))) (l : K.lookup f = some ⟨oc, od, .func (PySem.W.fnOf x qual (defArgs st) (defBody st) (defScope st) .none kV dc pm an cd ct), sl⟩) (c : PySem.W.codeIn K cd qual = true) (k : PySem.W.keepIn K (.ref f) = true) :
    AtF K mg x qual st := ⟨f, _, fun_mk l c k, PySem.W.mg_of X G a⟩
def spLaw (K : PySem.W.Frag) : Sp := fun vs H Q _ => ∃ (a : Addr) (ns : List Int), vs = [.ref a] ∧ SqL K H a (ns.map V.int) ∧ ns.length ≤ 63 ∧ ∀ H', Q (.bl true) H'
theorem cx_no {P : Program} {w : World} {outer : List Env} {H : Hp} {s s' : Shared} {u : Value} (h : L2.CX P w outer H s (fun _ _ _ => False) u s') : False := by
  obtain ⟨a, B, H', cls, d, h⟩ := h
  exact h.2.2.2.2.2.2.2
/-- a law's promise by its plain half -/
theorem law_end {P : Program} {w : World} {K : PySem.W.Frag} {mg : Str → Option Value} {base : Heap} {cl : Cl} {k : Nat} {b : Bool} {f : List D → R D} {fa : Addr} {fd : FuncData} {x : Str} (hK : cl.K = K) (F : FnOk P w K mg base (L2.CX P w) k fa fd [x] (spV cl [b] .val f))
    (hf : ∀ ns : List Int, ns.length ≤ 63 → f [.scr ns] = .ok (.bl true)) (hk : k ≤ 65) : FnOk P w K mg base (L2.CX P w) 65 fa fd [x] (spLaw K) := by
  refine (F.mono hk).imp ?_
  intro vs H Q E ⟨a, ns, e, hs, hl, q⟩
  subst e
  refine ⟨[.scr ns], H, Same.refl _, ?_, ?_⟩
  · have r : Rep cl H (.scr ns) (.ref a) := .scr (by rw [hK]; exact hs)
    cases b with
    | true => exact .val r .nil
    | false => exact .bor (.val r) .nil
  · rw [hf ns hl]
    intro v Hs' H' g rk
    obtain ⟨A, o, _⟩ := rk
    cases o with
    | val r =>
      cases r
      exact q H'
theorem law_walk {l : PySem.W.OpenLaw} {q : Program} {loose : List Str} {XP : (Str → Option Value) → Heap → Prop} {YP : World → Heap → Prop} {d : DefRec} {K : Params → PySem.W.Frag} {x : Str} (hn : l.most = some 63) (hdf : d.params.defaults = [])
    (hY : ∀ (w : World) (h : Heap), YP w h → (K w.params).In h)
    (F : ∀ (w : World) (mg : Str → Option Value) (fa : Addr) (h : Heap), (K w.params).In h → h.Ns mainGlobals mg → mg d.name = some (.ref fa) →
      ∃ fd : FuncData, (∀ (s : Shared) (u : Value), BindsTo s fd ⟨[u], []⟩ [(x, u)]) ∧ ∀ base : Heap, (K w.params).In base → base.Ns mainGlobals mg → FnOk l.prog w (K w.params) mg base (L2.CX l.prog w) 65 fa fd [x] (spLaw (K w.params))) :
    PySem.W.WalkO q loose XP YP l.row.toRowW d [] (fun f vs => PySem.call f vs) :=
  L2.walk_of (n := 63) (k := 65) (x := x) (CX := fun w => L2.CX l.prog w) (sp := fun w => spLaw (K w.params)) hn (by decide) hdf ⟨rfl, by decide, by decide⟩ hY F (fun _ _ a ns hl _ hS => ⟨a, ns, rfl, hS, hl, fun _ => rfl⟩) fun _ _ _ _ _ z => cx_no z
end VL
end

noncomputable section
namespace VL
open PySem PySem.Spec PyProof.Rows L2
variable {md : Md}

section
variable {prog : Program} {w : World} {A : Around} {R : Result → Shared → Prop} {I S : Addr} {fp wr : List Addr} {n : Nat} {P : Nat → Value → Prop} {St : Nat → Heap → Prop} {bt : Nat → Nat → Bool} {kw : List (Str × Value)} {E : Value → Shared → Prop}
end

section
variable {prog : Program} {w : World} {A : Around} {R : Result → Shared → Prop} {I S : Addr} {fp wr : List Addr} {n : Nat} {P : Nat → Value → Prop} {St : Nat → Heap → Prop} {bt : Nat → Nat → Bool} {kw : List (Str × Value)} {E : Value → Shared → Prop}
end

end VL
end

noncomputable section
namespace VL
open PySem PySem.Spec PyProof.Rows L2
variable {md : Md}
section
variable {X : Cx} {E : En} {ks : List Kd} {e e0 : Expr} {g g0 : Sl → R D} {p pos kp : Pos}
end
end VL
end

noncomputable section
namespace VL
open PySem PySem.Spec PyProof.Rows L2
variable {md : Md}

section
variable {X : Cx} {E : En} {kr : Kd} {fin : List Kd → Prop} {ks ks' : List Kd} {e : Expr} {g : Sl → R D} {pos : Pos}
end
end VL
end

noncomputable section
namespace VL
open PySem PySem.Spec PyProof.Rows L2
variable {md : Md}

theorem upd_comm {H : Hp} {a b : Addr} {o u : HO} (h : a ≠ b) : upd (upd H a o) b u = upd (upd H b u) a o := by
  funext c
  by_cases h1 : c = a
  · rw [h1, upd_ne h, upd_same, upd_same]
  · rw [upd_ne h1]
    by_cases h2 : c = b
    · rw [h2, upd_same, upd_same]
    · rw [upd_ne h2, upd_ne h2, upd_ne h1]
theorem xat_mk {P : Program} {w : World} {K : PySem.W.Frag} {mg : Str → Option Value} {base : Heap} {cl : Cl} {C qual : Str} {a fI : Addr} {fd : FuncData} {st : Stmt} {p p1 p2 p3 : Pos} (T : OexC K a) (hcl : cl.f C = some a) (gm : mg C = some (.ref a))
    (iC : PySem.W.findIn K (.ref a) "__init__" = some (some (.ref fI))) (tI : PySem.W.typeIn K (.ref fI) = some (.type "function")) (hno : PySem.W.findIn K (.ref a) "at" = some none)
    (F : Fun K "__init__" qual st fI fd) (S : FnScope ["self", "at"] ["self", "at"] (defScope st)) (bn : Binds K fd ["self", "at"] []) (hb : defBody st = [.Assign [.Attribute (.Name "self" p1) "at" p2] (.Name "at" p3) p])
    (v1 : Vis (defScope st) "self") (v2 : Vis (defScope st) "at")
    (hs : ∀ X : Cx, X.env.scope = defScope st → swapsWith (.Name "at" p3) (some (.Attribute (.Name "self" p1) "at" p2)) p.line X.env = pure false) : XAt P w K mg base cl C 1 := by
  refine ⟨a, fI, fd, ["self", "at"], hcl, gm, T, iC, tI, bn, F.ok S (fun vs H Q E ⟨x, v, e, _⟩ => by rw [e] <;> rfl) fun cdv A outer s H vs Q E hr ⟨x, v, e, hx, q⟩ => ?_⟩
  subst e
  rw [hb]
  refine ⟨_, pss_one (ps_ost (pe_var (i := 0) rfl v1 (by decide) (by decide)) (pe_var (i := 1) rfl v2 (by decide) (by decide)) (hs _ rfl)), ?_⟩
  refine ⟨v, rfl, .ref x, rfl, x, a, rfl, T, hno, .inl ⟨hx, fun dx hd ne => ?_⟩⟩
  have := q dx hd ne
  rw [upd_comm (Ne.symm ne)] at this
  exact this
end VL
end

noncomputable section
namespace VL
open PySem PySem.Spec PyProof.Rows L2
open ModeZ

abbrev HdT := Value × Option Nat × (Addr → Value → Option Addr → TS)
section
variable {X : Cx} {body : List Stmt} {hd0 : ExceptHandler} {hds : List ExceptHandler} {l : List HdT} {pos : Pos} {tb : WX → TS} {Wo : WX}
end
end VL
end

noncomputable section
namespace VL
open PySem PySem.Spec PyProof.Rows L2
open ModeZ

section
variable {X : Cx} {E : En} {kr : Kd} {fin : List Kd → Prop} {ks ks' : List Kd}
end
end VL
end

noncomputable section
namespace VL
open PySem PySem.Spec PyProof.Rows L2
open ModeZ

section
variable {X : Cx} {pins : List (Addr × Obj)} {σ : L2.St} {H : Hp} {s : Shared}
theorem codeO_tbl {c : Addr} {q : Str} (ps : Array Value) : LamX.CodeO c q ≠ .tbl ps := fun z => by
  unfold LamX.CodeO at z
  cases z
end

end VL
end

noncomputable section
namespace VL
open PySem PySem.Spec PyProof.Rows L2
open ModeZ

end VL
end

noncomputable section
namespace VL
open PySem PySem.Spec PyProof.Rows L2
open ModeZ

end VL
end

noncomputable section
namespace L2
open PySem PySem.Spec PyProof.Rows
section
variable {P : Program} {w : World} {A : Around} {E : Value → Shared → Prop} {s : Shared}
end
end L2
namespace VL
open PySem PySem.Spec PyProof.Rows L2
variable {md : Md}

section
variable {X : Cx} {E : En} {ks : List Kd} {e o : Expr} {g ga gb : Sl → R D} {p p1 p2 q pos apos cpos : Pos}
end
end VL
end

noncomputable section
namespace VL
open PySem PySem.Spec PyProof.Rows L2
variable {md : Md}

def keyOf : D → Option Key
  | .int i => some (.inl i)
  | .str x => some (.inr x)
  | _ => none
def valD (ds : List (Key × D)) (k : Key) : Option D := (ds.find? fun kv => decide (kv.1 = k)).map (·.2)
theorem valD_pos {p : Key × D} {r : List (Key × D)} {k : Key} (e : p.1 = k) : valD (p :: r) k = some p.2 := by simp [valD, List.find?_cons, e]
theorem valD_neg {p : Key × D} {r : List (Key × D)} {k : Key} (e : ¬ p.1 = k) : valD (p :: r) k = valD r k := by simp [valD, List.find?_cons, e]
def putD (ds : List (Key × D)) (k : Key) (d : D) : List (Key × D) :=
  if (ds.any fun kv => decide (kv.1 = k)) = true then ds.map (fun kv => if kv.1 = k then (kv.1, d) else kv) else ds ++ [(k, d)]
theorem keyOf_rb {cl : Cl} {Hs H : Hp} {d : D} {v : V} {k : Key} (h : RB cl Hs H d v) (q : keyOf d = some k) : v = kV k := by
  cases d <;> first | (cases q; done) | skip
  · cases q; exact h.intInv
  · cases q; exact h.strInv
section
variable {cl : Cl} {H : Hp}
theorem RepK.len : ∀ {ds : List (Key × D)} {xs : List (Key × V)}, RepK cl H ds xs → xs.length = ds.length
  | [], _, h => by cases h; rfl
  | _ :: _, _, h => by
    cases h with
    | cons _ h2 => rw [List.length_cons, List.length_cons, RepK.len h2]
theorem RepK.get : ∀ {ds : List (Key × D)} {xs : List (Key × V)} {i : Nat} {p : Key × D}, RepK cl H ds xs → ds[i]? = some p → ∃ v, xs[i]? = some (p.1, v) ∧ Rep cl H p.2 v
  | [], _, _, _, _, e => by simp at e
  | _ :: _, _, 0, _, h, e => by
    cases h with
    | cons h1 h2 => cases e; exact ⟨_, rfl, h1⟩
  | _ :: _, _, i + 1, _, h, e => by
    cases h with
    | cons h1 h2 => exact RepK.get (i := i) h2 e
theorem RepK.app : ∀ {ds es : List (Key × D)} {xs ys : List (Key × V)}, RepK cl H ds xs → RepK cl H es ys → RepK cl H (ds ++ es) (xs ++ ys)
  | [], _, _, _, h, g => by cases h; exact g
  | _ :: _, _, _, _, h, g => by
    cases h with
    | cons h1 h2 => exact .cons h1 (RepK.app h2 g)
theorem RepK.any (k : Key) : ∀ {ds : List (Key × D)} {xs : List (Key × V)}, RepK cl H ds xs → (xs.any fun kv => decide (kv.1 = k)) = ds.any fun kv => decide (kv.1 = k)
  | [], _, h => by cases h; rfl
  | _ :: _, _, h => by
    cases h with
    | cons h1 h2 => rw [List.any_cons, List.any_cons, RepK.any k h2]
theorem RepK.map (k : Key) {d : D} {v : V} (r : Rep cl H d v) : ∀ {ds : List (Key × D)} {xs : List (Key × V)}, RepK cl H ds xs → RepK cl H (ds.map fun kv => if kv.1 = k then (kv.1, d) else kv) (xs.map fun kv => if kv.1 = k then (kv.1, v) else kv)
  | [], _, h => by cases h; exact .nil
  | (k0, d0) :: _, _, h => by
    cases h with
    | cons h1 h2 =>
      rw [List.map_cons, List.map_cons]
      by_cases c : k0 = k
      · rw [if_pos c, if_pos c]; exact .cons r (RepK.map k r h2)
      · rw [if_neg c, if_neg c]; exact .cons h1 (RepK.map k r h2)
theorem RepK.put {ds : List (Key × D)} {xs : List (Key × V)} (h : RepK cl H ds xs) (k : Key) {d : D} {v : V} (r : Rep cl H d v) : RepK cl H (putD ds k d) (putK xs k v) := by
  unfold putD putK
  rw [h.any k]
  split
  · exact h.map k r
  · exact h.app (.cons r .nil)
theorem RepK.val (k : Key) : ∀ {ds : List (Key × D)} {xs : List (Key × V)}, RepK cl H ds xs → ∀ {d0 : D} {v0 : V}, Rep cl H d0 v0 → Rep cl H ((valD ds k).getD d0) ((valV xs k).getD v0)
  | [], _, h, _, _, r => by cases h; exact r
  | (k0, d0) :: _, _, h, _, _, r => by
    cases h with
    | cons h1 h2 =>
      by_cases c : k0 = k
      · rw [valD_pos c, valV_pos c]; exact h1
      · rw [valD_neg c, valV_neg c]; exact RepK.val k h2 r
end
section
variable {E : En} {Hs H : Hp} {ks : List Kd} {r : Sl} {σ : L2.St}
theorem StRel.mutK {i : Nat} {n : Option Addr} {ds : List (Key × D)} (S : StRel E Hs H ks r σ) (hk : ks[i]? = some (.own n)) (hd : r[i]? = some (some (.dct ds))) :
    ∃ a xs, σ[i]? = some (some (.ref a)) ∧ H a = some (.dK xs) ∧ RepK E.cl Hs ds xs ∧ ∀ ds' xs', RepK E.cl Hs ds' xs' → StRel E Hs (upd H a (.dK xs')) ks (r.set i (some (.dct ds'))) σ := by
  obtain ⟨As, S⟩ := S
  obtain ⟨pre, A, post, e, q1, _, _, q3⟩ := S.sl.at_ i hk
  obtain ⟨v, ev, o⟩ := q1 _ hd
  cases o with
  | ownV h0 h1 => cases h0
  | ownK h0 h1 h2 =>
    rename_i a xs
    refine ⟨a, xs, ev, h1, h2, fun ds' xs' rp => ?_⟩
    have ha : a ∈ As := by rw [e]; exact List.mem_append_right _ (List.mem_append_left _ (by simp))
    have nd := S.nd
    rw [e] at nd
    have hn : ∀ b ∈ pre ++ post, b ≠ a := fun b hb z => by
      subst z
      rcases List.mem_append.mp hb with w | w
      · exact (List.nodup_append.mp nd).2.2 _ w _ (List.mem_append_left _ (by simp)) rfl
      · exact (List.nodup_append.mp (List.nodup_append.mp nd).2.1).2.2 _ (by simp) _ w rfl
    have z := q3 Hs (upd H a (.dK xs')) (Same.refl _) (fun b hb => upd_ne (hn b hb)) (.own n) (.dct ds') (.ref a) [a] (.ownK h0 upd_same rp)
    have e1 : ks.set i (.own n) = ks := by
      obtain ⟨h, e2⟩ := List.getElem?_eq_some_iff.mp hk
      rw [← e2, List.set_getElem_self]
    have e3 : σ.set i (some (.ref a)) = σ := by
      obtain ⟨h, e2⟩ := List.getElem?_eq_some_iff.mp ev
      rw [← e2, List.set_getElem_self]
    rw [e1, e3] at z
    have dz := S.dis a ha
    refine ⟨_, z, nd, fun b hb => S.dis b (by rw [e]; exact hb), S.es, ⟨fun b u q nt => ?_⟩, ⟨fun b u q nt => ?_⟩, S.new, fun b q => ?_, fun P z => tab_mut h1 P (S.tb P z)⟩
    · have : b ≠ a := fun w => by rw [w, dz.1] at q; cases q
      rw [upd_ne this] at nt ⊢
      exact S.sub.k _ _ q nt
    · have : b ≠ a := fun w => by rw [w, dz.2] at q; cases q
      rw [upd_ne this] at nt ⊢
      exact S.eb.k _ _ q nt
    · have : b ≠ a := fun w => by rw [w, upd_same] at q; cases q
      rw [upd_ne this] at q
      exact S.dom _ q
theorem Slots.monoB {E' : En} (c : E'.cl = E.cl) (n : E'.h = E.h) (b : Same E.b E'.b) {H' : Hp} : ∀ {ks : List Kd} {r : Sl} {t : L2.St} {As : List Addr}, (∀ a ∈ As, H' a = H a) → Slots E Hs H ks r t As → Slots E' Hs H' ks r t As
  | _, _, _, _, _, .nil => .nil
  | _, _, _, _, k, .skip h => .skip (Slots.monoB c n b k h)
  | _, _, _, _, k, .cons h1 h2 => .cons (by rw [c]; exact ORep.mono (Same.refl _) b (fun a z => by show E'.h a = none; rw [n]; exact z) _ _ _ _ (fun a ha => k a (List.mem_append_left _ ha)) h1) (Slots.monoB c n b (fun a ha => k a (List.mem_append_right _ ha)) h2)
/-- the dict in slot i is locked: its name holds an address alone -/
theorem StRel.lock {i : Nat} {n : Option Addr} {ds : List (Key × D)} (S : StRel E Hs H ks r σ) (hk : ks[i]? = some (.own n)) (hd : r[i]? = some (some (.dct ds))) :
    ∃ a xs, σ[i]? = some (some (.ref a)) ∧ H a = some (.dK xs) ∧ RepK E.cl Hs ds xs ∧ Hs a = none ∧
      ∀ od, StRel ⟨E.cl, E.h, Hs, upd E.b a (.frz od (.dK xs))⟩ Hs (upd H a (.frz od (.dK xs))) (ks.set i (.adr a)) (r.set i (some .non)) σ := by
  obtain ⟨As, S⟩ := S
  obtain ⟨pre, A, post, e, q1, q2, _, _⟩ := S.sl.at_ i hk
  obtain ⟨v, ev, o⟩ := q1 _ hd
  cases o with
  | ownV h0 h1 => cases h0
  | ownK h0 h1 h2 =>
    rename_i a xs
    have ha : a ∈ As := by rw [e]; exact List.mem_append_right _ (List.mem_append_left _ (by simp))
    have dz := S.dis a ha
    refine ⟨a, xs, ev, h1, h2, dz.1, fun od => ?_⟩
    have nd := S.nd
    rw [e] at nd
    have hn : ∀ b ∈ pre ++ post, b ≠ a := fun b hb z => by
      subst z
      rcases List.mem_append.mp hb with w | w
      · exact (List.nodup_append.mp nd).2.2 _ w _ (List.mem_append_left _ (by simp)) rfl
      · exact (List.nodup_append.mp (List.nodup_append.mp nd).2.1).2.2 _ (by simp) _ w rfl
    have z0 := q2 (.adr a) .non (.ref a) [] .adr
    have e3 : σ.set i (some (.ref a)) = σ := by
      obtain ⟨h, e2⟩ := List.getElem?_eq_some_iff.mp ev
      rw [← e2, List.set_getElem_self]
    rw [e3, List.nil_append] at z0
    have bs : Same E.b (upd E.b a (.frz od (.dK xs))) := Same.updNew dz.2
    have z := Slots.monoB (E := E) (E' := ⟨E.cl, E.h, Hs, upd E.b a (.frz od (.dK xs))⟩) (H' := upd H a (.frz od (.dK xs))) rfl rfl bs (fun b hb => upd_ne (hn b hb)) z0
    have sub : (pre ++ post).Sublist As := by
      rw [e]
      exact List.Sublist.append (List.Sublist.refl _) (List.sublist_append_right _ _)
    refine ⟨_, z, S.nd.sublist sub, fun b hb => ⟨(S.dis b (sub.subset hb)).1, ?_⟩, Same.refl _, ⟨fun b u q nt => ?_⟩, S.eb.updBoth, fun b z => .inl z, fun b q => ?_, fun P z => tab_mut h1 P (S.tb P z)⟩
    · show upd E.b a _ b = none
      rw [upd_ne (hn b hb)]
      exact (S.dis b (sub.subset hb)).2
    · have : b ≠ a := fun w => by rw [w, dz.1] at q; cases q
      rw [upd_ne this] at nt ⊢
      exact S.sub.k _ _ q nt
    · have : b ≠ a := fun w => by rw [w, upd_same] at q; cases q
      rw [upd_ne this] at q
      exact S.dom _ q
end
section
variable {X : Cx} {E : En} {kr : Kd} {fin : List Kd → Prop} {ks ks' : List Kd} {e f b : Expr} {ge gf gb g : Sl → R D} {pos p1 p2 apos cpos : Pos}
theorem se_dnew : SE X E ks (.own none) (.Dict [] [] pos) (gC (.dct [])) :=
  ⟨fun Hs H r σ W Q tk S P => we_of pe_dnewK fun p hp => P _ Hs _ (Grow.fresh S.sub hp) ⟨[p], .ownK ⟨hp, fun _ z => nomatch z⟩ upd_same .nil, by simp, fun a ha => by
    have : a = p := by simpa using ha
    subst this
    exact ⟨S.sub.free hp, hp⟩⟩⟩
end
end VL
end

noncomputable section
namespace VL
open PySem PySem.Spec PyProof.Rows L2
variable {md : Md}

theorem rgV_rep {cl : Cl} {H : Hp} (i j : Int) : RepL cl H (rangeD i (j - i).toNat) (rgV i j) := by
  have e : rangeD i (j - i).toNat = ((List.range (j - i).toNat).map fun (k : Nat) => i + (k : Int)).map D.int := by
    unfold rangeD
    rw [List.map_map]
    rfl
  have e2 : rgV i j = ((List.range (j - i).toNat).map fun (k : Nat) => i + (k : Int)).map V.int := by
    unfold rgV
    rw [List.map_map]
    rfl
  rw [e, e2]
  exact RepL.ofInts _
section
variable {X : Cx} {E : En} {ks : List Kd} {a b : Expr} {ga gb : Sl → R D} {p p2 q pos : Pos}
end
end VL
end

noncomputable section
namespace VL
open PySem PySem.Spec PyProof.Rows L2
variable {md : Md}

def enumD (ds : List D) : List D := ds.zipIdx.map fun p => .tup [.int (p.2 : Nat), p.1]
def dEnumI : D → R (List D)
  | .lst ds => .ok (enumD ds)
  | _ => .stuck
def gEnumerate (g : Sl → R D) : Sl → R (List D) := fun r => do
  let d ← g r
  dEnumI d
theorem enumD_get {ds : List D} {i : Nat} {d : D} (h : (enumD ds)[i]? = some d) : ∃ d0, ds[i]? = some d0 ∧ d = .tup [.int (i : Nat), d0] := by
  unfold enumD at h
  rw [List.getElem?_map, List.getElem?_zipIdx] at h
  cases q : ds[i]? with
  | none => rw [q] at h; cases h
  | some d0 =>
    rw [q] at h
    refine ⟨d0, rfl, ?_⟩
    have h' : D.tup [.int ((0 + i : Nat) : Int), d0] = d := by simpa using h
    rw [← h', Nat.zero_add]
theorem ItOk.enum {K : PySem.W.Frag} {cl : Cl} {a : Addr} {xs : List V} {ds : List D} {Hs Bq : Hp} (rp : RepL cl Hs ds xs) (rt : ∀ Hs' H, Same Hs Hs' → Same Hs' H → Same Bq H → H a = some (.lst xs)) (hz : xs.length ≤ szL) : ItOk cl (Ite K a) (enumD ds) Hs Bq where
  len := by unfold enumD; rw [List.length_map, List.length_zipIdx, ← rp.length]; exact hz
  go := fun Hs' H e1 e2 e3 i hi => by
    have hi' : i < ds.length := by unfold enumD at hi; rwa [List.length_map, List.length_zipIdx] at hi
    obtain ⟨v, e, _⟩ := rp.get (d := ds[i]) (i := i) (by simp [hi'])
    exact ⟨xs, v, SqL.of (rt Hs' H e1 e2 e3), e⟩
  stop := fun Hs' H e1 e2 e3 => ⟨xs, SqL.of (rt Hs' H e1 e2 e3), by unfold enumD; rw [List.length_map, List.length_zipIdx, rp.length]; exact Nat.le_refl _⟩
  yld := fun Hs' H e1 e2 e3 i d x H' hd y => by
    obtain ⟨T, z, rfl, hT, rfl, y⟩ := y
    obtain ⟨d0, hd0, rfl⟩ := enumD_get hd
    obtain ⟨v, e, r⟩ := rp.get hd0
    have q := y xs (SqL.of (rt Hs' _ e1 e2 e3))
    rw [e] at q
    cases q
    exact ⟨_, Grow.new e2 hT, .tup upd_same (.cons (.int _) (.cons (Rep.same (e1.trans (Same.updNew (e2.free hT))) _ _ r) .nil))⟩
section
variable {X : Cx} {E : En} {ks : List Kd} {md : Bool} {tg e : Expr} {g : Sl → R D} {p pos : Pos}
theorem si_enumerate {elts : List Expr} {kk : Nat} {tpos : Pos} (hm : X.mg "enumerate" = none) (h : SQ X E ks md e g) (hg : Gl X "enumerate" := by rfl) (hs : starEach [e] X.env = [(false, eval e X.env)] := by rfl) : SI X E ks md (.Tuple elts kk tpos) (.Call (.Name "enumerate" p) [e] [] pos) (gEnumerate g) := by
  refine ⟨fun Hs H r σ W Q tk S P => ?_⟩
  have sb : Same E.b H := let ⟨_, s⟩ := S; s.eb
  unfold gEnumerate at P
  refine ⟨_, pi_enum hg hm (pa_cons pe_we pa_nil hs) hs, ?_⟩
  refine we_len (h.run _ _ _ _ _ _ tk S (PostQ.ofI (f := dEnumI) P fun d v Hs1 H1 e1 g1 k1 P1 => ?_))
  cases d <;> first | exact P1.elim | skip
  obtain ⟨a, xs, rfl, rp, rt⟩ := k1.root (H := H1) (Hs' := Hs1)
  intro hl
  have e0 := rt Hs1 H1 (Same.refl _) g1.sub (bq_same (sb.trans g1.h))
  exact ⟨a, xs, rfl, SqL.of e0, P1 _ Hs1 H1 (Grow.refl g1.sub) (ItOk.enum rp rt (hl.1 _ _ e0))⟩
end
end VL
end

noncomputable section
namespace VL
open PySem PySem.Spec PyProof.Rows L2
variable {md : Md}

def sans (H : Hp) (A : List Addr) : Hp := fun a => if a ∈ A then none else H a
section
variable {H H' Hs : Hp} {A : List Addr} {a : Addr}
theorem sans_in (h : a ∈ A) : sans H A a = none := by unfold sans; rw [if_pos h]
theorem sans_out (h : a ∉ A) : sans H A a = H a := by unfold sans; rw [if_neg h]
theorem sans_same : Same (sans H A) H := ⟨fun b o q _ => by
  by_cases h : b ∈ A
  · rw [sans_in h] at q; cases q
  · rw [sans_out h] at q; exact q⟩
theorem sans_none (h : sans H A a = none) : a ∈ A ∨ H a = none := by
  by_cases z : a ∈ A
  · exact .inl z
  · rw [sans_out z] at h; exact .inr h
theorem sans_of (h : H a = none) : sans H A a = none := by
  by_cases z : a ∈ A
  · exact sans_in z
  · rw [sans_out z]; exact h
theorem sans_sub (e : Same Hs H) (z : ∀ a ∈ A, Hs a = none) : Same Hs (sans H A) := ⟨fun b o q nt => by
  have hn : b ∉ A := fun w => by rw [z b w] at q; cases q
  rw [sans_out hn] at nt ⊢
  exact e.k _ _ q nt⟩
end
/-- no list, dict or instance is a code object -/
def Dat (o : HO) : Prop := NT o ∧ ∀ c q, o ≠ LamX.CodeO c q
mutual
theorem ORep.dat {cl : Cl} {N : Addr → Prop} {B Hs H : Hp} : ∀ (k : Kd) (d : D) (v : V) (A : List Addr), ORep cl N B Hs H k d v A → ∀ a ∈ A, (∃ o, H a = some o ∧ Dat o) ∧ N a
  | .val, _, _, _, h => by cases h; intro a z; cases z
  | .bor, _, _, _, h => by cases h <;> (intro a z; cases z)
  | .own n, _, _, _, h => by
    cases h with
    | ownL h0 h1 _ => intro a z; simp at z; subst z; exact ⟨⟨_, h1, (by intro _ z; cases z), by intro _ _ z; unfold LamX.CodeO at z; cases z⟩, h0.1⟩
    | ownK h0 h1 _ => intro a z; simp at z; subst z; exact ⟨⟨_, h1, (by intro _ z; cases z), by intro _ _ z; unfold LamX.CodeO at z; cases z⟩, h0.1⟩
    | ownV _ _ => intro a z; cases z
  | .obj n ks, _, _, _, h => by
    cases h with
    | obj h0 _ h2 h3 =>
      intro a z
      rcases List.mem_cons.mp z with e | z
      · rw [e]; exact ⟨⟨_, h2, (by intro _ z; cases z), by intro _ _ z; unfold LamX.CodeO at z; cases z⟩, h0.1⟩
      · exact OFs.dat ks _ _ _ h3 a z
  | .adr a, _, _, _, h => by cases h; intro a z; cases z
  | .lls n k, _, _, _, h => by
    cases h with
    | lls h0 h1 h2 =>
      intro a z
      rcases List.mem_cons.mp z with e | z
      · rw [e]; exact ⟨⟨_, h1, (by intro _ z; cases z), by intro _ _ z; unfold LamX.CodeO at z; cases z⟩, h0.1⟩
      · exact OLs.all (P := fun a => (∃ o, H a = some o ∧ Dat o) ∧ N a) (fun d v A o => ORep.dat k d v A o) h2 a z
    | llT h0 h1 h2 =>
      intro a z
      rcases List.mem_cons.mp z with e | z
      · rw [e]; exact ⟨⟨_, h1, (by intro _ z; cases z), by intro _ _ z; unfold LamX.CodeO at z; cases z⟩, h0.1⟩
      · exact OLs.all (P := fun a => (∃ o, H a = some o ∧ Dat o) ∧ N a) (fun d v A o => ORep.dat k d v A o) h2 a z
    | llV _ _ => intro a z; cases z
theorem OFs.dat {cl : Cl} {N : Addr → Prop} {B Hs H : Hp} : ∀ (ks : List (Str × Kd)) (ds : List (Str × D)) (xs : List (Str × V)) (A : List Addr), OFs cl N B Hs H ks ds xs A → ∀ a ∈ A, (∃ o, H a = some o ∧ Dat o) ∧ N a
  | [], _, _, _, h => by cases h; intro a z; cases z
  | (f, k) :: ks, _, _, _, h => by
    cases h with
    | cons h1 h2 =>
      intro a z
      rcases List.mem_append.mp z with z | z
      · exact ORep.dat k _ _ _ h1 a z
      · exact OFs.dat ks _ _ _ h2 a z
end
section
variable {cl : Cl} {N N' : Addr → Prop} {B B' Hs H : Hp}
mutual
/-- another way to say what is new -/
theorem ORep.renew : ∀ (k : Kd) (d : D) (v : V) (A : List Addr), k.fine = true → (∀ a ∈ A, N' a) → ORep cl N B Hs H k d v A → ORep cl N' B' Hs H k d v A
  | .val, _, _, _, _, _, h => by
    cases h with
    | val h1 => exact .val h1
  | .bor, _, _, _, z, _, _ => by cases z
  | .own n, _, _, _, _, z, h => by
    cases h with
    | ownL h0 h1 h2 => exact .ownL ⟨z _ List.mem_cons_self, h0.2⟩ h1 h2
    | ownK h0 h1 h2 => exact .ownK ⟨z _ List.mem_cons_self, h0.2⟩ h1 h2
    | ownV h0 h1 => exact .ownV h0 h1
  | .obj n ks, _, _, _, f, z, h => by
    cases h with
    | obj h0 h1 h2 h3 => exact .obj ⟨z _ List.mem_cons_self, h0.2⟩ h1 h2 (OFs.renew ks _ _ _ (by simpa [Kd.fine] using f) (fun a ha => z a (List.mem_cons_of_mem _ ha)) h3)
  | .adr _, _, _, _, z, _, _ => by cases z
  | .lls n k, _, _, _, f, z, h => by
    cases h with
    | lls h0 h1 h2 => exact .lls ⟨z _ List.mem_cons_self, h0.2⟩ h1 (OLs.imp (fun A => ∀ a ∈ A, N' a) (fun _ _ t a ha => t a (List.mem_append_left _ ha)) (fun _ _ t a ha => t a (List.mem_append_right _ ha)) (fun d v A t o => ORep.renew k d v A f t o) (fun a ha => z a (List.mem_cons_of_mem _ ha)) h2)
    | llT h0 h1 h2 => exact .llT ⟨z _ List.mem_cons_self, h0.2⟩ h1 (OLs.imp (fun A => ∀ a ∈ A, N' a) (fun _ _ t a ha => t a (List.mem_append_left _ ha)) (fun _ _ t a ha => t a (List.mem_append_right _ ha)) (fun d v A t o => ORep.renew k d v A f t o) (fun a ha => z a (List.mem_cons_of_mem _ ha)) h2)
    | llV h0 h1 => exact .llV h0 h1
theorem OFs.renew : ∀ (ks : List (Str × Kd)) (ds : List (Str × D)) (xs : List (Str × V)) (A : List Addr), Kd.fine.fines ks = true → (∀ a ∈ A, N' a) → OFs cl N B Hs H ks ds xs A → OFs cl N' B' Hs H ks ds xs A
  | [], _, _, _, _, _, h => by cases h; exact .nil
  | (f, k) :: ks, _, _, _, fz, z, h => by
    have z' : k.fine = true ∧ Kd.fine.fines ks = true := by simpa [Kd.fine.fines] using fz
    cases h with
    | cons h1 h2 => exact .cons (ORep.renew k _ _ _ z'.1 (fun a ha => z a (List.mem_append_left _ ha)) h1) (OFs.renew ks _ _ _ z'.2 (fun a ha => z a (List.mem_append_right _ ha)) h2)
end
/-- several things that are lent -/
inductive RM (cl : Cl) (N : Addr → Prop) (B Hs H : Hp) : List Kd → List D → List V → List Addr → Prop
  | nil : RM cl N B Hs H [] [] [] []
  | cons {k : Kd} {d : D} {v : V} {A As : List Addr} {ks : List Kd} {ds : List D} {vs : List V} : ORep cl N B Hs H k d v A → RM cl N B Hs H ks ds vs As → RM cl N B Hs H (k :: ks) (d :: ds) (v :: vs) (A ++ As)
theorem RM.renew : ∀ {ks : List Kd} {ds : List D} {vs : List V} {A : List Addr}, ks.all Kd.fine = true → (∀ a ∈ A, N' a) → RM cl N B Hs H ks ds vs A → RM cl N' B' Hs H ks ds vs A
  | _, _, _, _, _, _, .nil => .nil
  | _, _, _, _, f, z, .cons o t => by
    have f' := f
    rw [List.all_cons, Bool.and_eq_true] at f'
    exact .cons (ORep.renew _ _ _ _ f'.1 (fun a ha => z a (List.mem_append_left _ ha)) o) (RM.renew f'.2 (fun a ha => z a (List.mem_append_right _ ha)) t)
theorem RM.dat : ∀ {ks : List Kd} {ds : List D} {vs : List V} {A : List Addr}, RM cl N B Hs H ks ds vs A → ∀ a ∈ A, (∃ o, H a = some o ∧ Dat o) ∧ N a
  | _, _, _, _, .nil => fun a z => nomatch z
  | _, _, _, _, .cons o t => fun a z => by
    rcases List.mem_append.mp z with z | z
    · exact ORep.dat _ _ _ _ o a z
    · exact RM.dat t a z
theorem RM.mono {Hs' H' : Hp} (e : Same Hs Hs') : ∀ {ks : List Kd} {ds : List D} {vs : List V} {A : List Addr}, (∀ a ∈ A, H' a = H a) → RM cl N B Hs H ks ds vs A → RM cl N B Hs' H' ks ds vs A
  | _, _, _, _, _, .nil => .nil
  | _, _, _, _, q, .cons o t => .cons (ORep.mono e (Same.refl _) (fun _ z => z) _ _ _ _ (fun a ha => q a (List.mem_append_left _ ha)) o) (RM.mono e (fun a ha => q a (List.mem_append_right _ ha)) t)
theorem RM.len : ∀ {ks : List Kd} {ds : List D} {vs : List V} {A : List Addr}, RM cl N B Hs H ks ds vs A → ds.length = ks.length ∧ vs.length = ks.length
  | _, _, _, _, .nil => ⟨rfl, rfl⟩
  | _, _, _, _, .cons o t => by simp [RM.len t]
end
theorem tab_sans {H : Hp} {A : List Addr} (z : ∀ a ∈ A, ∃ o, H a = some o ∧ Dat o) (P : Addr) (t : LamX.TabS H P lamQ) : LamX.TabS (sans H A) P lamQ := by
  obtain ⟨ps, h1, h2, h3⟩ := t
  have e : ∀ b u, H b = some u → ¬ Dat u → sans H A b = some u := fun b u q n => by
    by_cases w : b ∈ A
    · obtain ⟨o, e1, e2⟩ := z b w
      rw [q] at e1
      cases e1
      exact (n e2).elim
    · rw [sans_out w]; exact q
  refine ⟨ps, e _ _ h1 fun w => w.1 ps rfl, h2, fun pos cv hc => ?_⟩
  obtain ⟨c, e1, e2⟩ := h3 pos cv hc
  exact ⟨c, e1, e _ _ e2 fun w => w.2 c lamQ rfl⟩

section
variable {E : En} {Hs H Hs' H' : Hp} {ks : List Kd} {r : Sl} {σ : L2.St} {As : List Addr}
theorem Slots.front : ∀ {kf : List Kd} {df : List D} {uf : List V} {As : List Addr}, df.length = kf.length → uf.length = kf.length → Slots E Hs H (kf ++ ks) (df.map some ++ r) (uf.map some ++ σ) As → ∃ Af Ar, As = Af ++ Ar ∧ RM E.cl E.N E.b Hs H kf df uf Af ∧ Slots E Hs H ks r σ Ar
  | [], [], [], As, _, _, h => ⟨[], As, rfl, .nil, h⟩
  | k :: kf, d :: df, u :: uf, As, l1, l2, h => by
    cases h with
    | cons o t =>
      obtain ⟨Af, Ar, e, m, s⟩ := Slots.front (by simpa using l1) (by simpa using l2) t
      exact ⟨_ ++ Af, Ar, by rw [e, List.append_assoc], .cons o m, s⟩
  | [], _ :: _, _, _, l1, _, _ => by cases l1
  | [], [], _ :: _, _, _, l2, _ => by cases l2
  | _ :: _, [], _, _, l1, _, _ => by cases l1
  | _ :: _, _ :: _, [], _, _, l2, _ => by cases l2
theorem Slots.join : ∀ {kf : List Kd} {df : List D} {uf : List V} {Af Ar : List Addr}, RM E.cl E.N E.b Hs H kf df uf Af → Slots E Hs H ks r σ Ar → Slots E Hs H (kf ++ ks) (df.map some ++ r) (uf.map some ++ σ) (Af ++ Ar)
  | _, _, _, _, _, .nil, s => s
  | _, _, _, _, _, .cons o m, s => by
    rw [List.append_assoc]
    exact .cons o (Slots.join m s)
theorem StRel.pop {k : Kd} {o : Option D} {v : Option V} (S : StRel E Hs H (k :: ks) (o :: r) (v :: σ)) : StRel E Hs H ks r σ := by
  obtain ⟨As, S⟩ := S
  have sl := S.sl
  cases sl with
  | skip t => exact ⟨_, t, S.nd, S.dis, S.es, S.sub, S.eb, S.new, S.dom, S.tb⟩
  | cons o t => exact ⟨_, t, (List.nodup_append.mp S.nd).2.1, fun a ha => S.dis a (List.mem_append_right _ ha), S.es, S.sub, S.eb, S.new, S.dom, S.tb⟩
/-- the front's value goes to slot i -/
theorem StRel.settle {k k0 : Kd} {d : D} {v : V} {i : Nat} (S : StRel E Hs H (k :: ks) (some d :: r) (some v :: σ)) (hk : ks[i]? = some k0) : StRel E Hs H (ks.set i k) (r.set i (some d)) (σ.set i (some v)) := by
  obtain ⟨As, S⟩ := S
  have sl := S.sl
  cases sl with
  | cons o t =>
    rename_i A Ar
    obtain ⟨pre, A0, post, e, _, q, _, _⟩ := t.at_ i hk
    have nd := S.nd
    subst e
    have p1 : (pre ++ (A ++ post)).Perm (A ++ (pre ++ post)) := by
      rw [← List.append_assoc, ← List.append_assoc]
      exact List.Perm.append_right _ List.perm_append_comm
    have s1 : (A ++ (pre ++ post)).Sublist (A ++ (pre ++ (A0 ++ post))) := List.Sublist.append (List.Sublist.refl _) (List.Sublist.append (List.Sublist.refl _) (List.sublist_append_right _ _))
    exact ⟨_, q k d v A o, p1.nodup_iff.mpr (nd.sublist s1), fun a ha => S.dis a (s1.subset (p1.mem_iff.mp ha)), S.es, S.sub, S.eb, S.new, S.dom, S.tb⟩
theorem grow_sans {Af : List Addr} (g : Grow Hs (sans H Af) Hs' H') {a : Addr} {o : HO} (h : H a = some o) (nt : NT o) (hn : a ∉ Af) : H' a = some o := g.h.at a o (by rw [sans_out hn]; exact h) nt
/-- the front is lent and comes back otherwise -/
theorem StRel.lend {kf : List Kd} {df : List D} {uf : List V} (S : StRel E Hs H (kf ++ ks) (df.map some ++ r) (uf.map some ++ σ)) (l1 : df.length = kf.length) (l2 : uf.length = kf.length) (fk : kf.all Kd.fine = true) :
    ∃ Af, RM E.cl (fun a => sans H Af a = none) (sans H Af) Hs H kf df uf Af ∧ Af.Nodup ∧ (∀ a ∈ Af, Hs a = none) ∧
      ∀ (Hs' H' : Hp) (k2 : List Kd) (d2 : List D) (u2 : List V) (A2 : List Addr), k2.all Kd.fine = true → Grow Hs (sans H Af) Hs' H' → RM E.cl (fun a => sans H Af a = none) (sans H Af) Hs' H' k2 d2 u2 A2 → A2.Nodup → (∀ a ∈ A2, Hs' a = none ∧ sans H Af a = none) →
        StRel E Hs' H' (k2 ++ ks) (d2.map some ++ r) (u2.map some ++ σ) ∧
        ∀ (k : Kd) (d : D) (v : V) (A0 : List Addr), k.fine = true → ORep E.cl (fun a => sans H Af a = none) (sans H Af) Hs' H' k d v A0 → (A0 ++ A2).Nodup → (∀ a ∈ A0, Hs' a = none ∧ sans H Af a = none) →
          StRel E Hs' H' (k :: (k2 ++ ks)) (some d :: (d2.map some ++ r)) (some v :: (u2.map some ++ σ)) := by
  obtain ⟨As, S⟩ := S
  obtain ⟨Af, Ar, e, m, t⟩ := S.sl.front l1 l2
  subst e
  have nd := List.nodup_append.mp S.nd
  have df' : ∀ a ∈ Af, Hs a = none ∧ E.b a = none := fun a ha => S.dis a (List.mem_append_left _ ha)
  refine ⟨Af, RM.renew fk (fun a ha => sans_in ha) m, nd.1, fun a ha => (df' a ha).1, fun Hs' H' k2 d2 u2 A2 fk2 g m2 nd2 di2 => ?_⟩
  have allN : ∀ a, sans H Af a = none → E.h a = none := fun a z => by
    rcases sans_none z with w | w
    · exact (m.dat a w).2
    · exact S.dom a w
  have hr : ∀ a ∈ Ar, a ∉ Af := fun a ha w => nd.2.2 a w a ha rfl
  have tz : ∀ a ∈ Ar, ∃ o, H a = some o ∧ NT o ∧ H' a = some o := fun a ha => by
    obtain ⟨o, e, nt⟩ := t.here a ha
    exact ⟨o, e, nt, grow_sans g e nt (hr a ha)⟩
  have t2 : Slots E Hs' H' ks r σ Ar := t.mono g.s fun a ha => by
    obtain ⟨o, e, _, e2⟩ := tz a ha
    rw [e, e2]
  have dr : ∀ a ∈ Ar, Hs' a = none ∧ E.b a = none := fun a ha => by
    have z := S.dis a (List.mem_append_right _ ha)
    refine ⟨?_, z.2⟩
    cases q : Hs' a with
    | none => rfl
    | some u =>
      rcases g.n a (by rw [q]; simp) with w | w
      · exact absurd z.1 w
      · rcases sans_none w with w | w
        · exact (hr a ha w).elim
        · obtain ⟨o, e, _⟩ := tz a ha
          rw [e] at w; cases w
  have sep : ∀ a, sans H Af a = none → a ∉ Ar := fun a z ha => by
    rcases sans_none z with w | w
    · exact hr a ha w
    · obtain ⟨o, e, _⟩ := tz a ha
      rw [e] at w; cases w
  have ebz : ∀ a, sans H Af a = none → E.b a = none := fun a z => by
    rcases sans_none z with w | w
    · exact (df' a w).2
    · exact S.eb.free w
  have eb : Same E.b H' := (sans_sub (A := Af) S.eb fun a ha => (df' a ha).2).trans g.h
  have new : ∀ a, Hs' a ≠ none → E.s a ≠ none ∨ E.h a = none := fun a z => by
    rcases g.n a z with w | w
    · exact S.new a w
    · exact .inr (allN a w)
  have dom : ∀ a, H' a = none → E.h a = none := fun a z => allN a (g.h.free z)
  have tb : ∀ P, LamX.TabS E.h P lamQ → LamX.TabS H' P lamQ := fun P z => g.t P (tab_sans (fun a ha => (m.dat a ha).1) P (S.tb P z))
  have m2' : RM E.cl E.N E.b Hs' H' k2 d2 u2 A2 := RM.renew fk2 (fun a ha => allN a (di2 a ha).2) m2
  have J := Slots.join m2' t2
  have nd3 : (A2 ++ Ar).Nodup := List.nodup_append.mpr ⟨nd2, nd.2.1, fun a ha b hb z => sep a (di2 a ha).2 (z ▸ hb)⟩
  have dis3 : ∀ a ∈ A2 ++ Ar, Hs' a = none ∧ E.b a = none := fun a ha => by
    rcases List.mem_append.mp ha with w | w
    · exact ⟨(di2 a w).1, ebz a (di2 a w).2⟩
    · exact dr a w
  refine ⟨⟨_, J, nd3, dis3, S.es.trans g.s, g.sub, eb, new, dom, tb⟩, fun k d v A0 fk0 o nd0 di0 => ?_⟩
  refine ⟨_, .cons (ORep.renew k _ _ _ fk0 (fun a ha => allN a (di0 a ha).2) o) J, ?_, fun a ha => ?_, S.es.trans g.s, g.sub, eb, new, dom, tb⟩
  · rw [← List.append_assoc]
    exact List.nodup_append.mpr ⟨nd0, nd.2.1, fun a ha b hb z => by
      rcases List.mem_append.mp ha with w | w
      · exact sep a (di0 a w).2 (z ▸ hb)
      · exact sep a (di2 a w).2 (z ▸ hb)⟩
  · rcases List.mem_append.mp ha with w | w
    · exact ⟨(di0 a w).1, ebz a (di0 a w).2⟩
    · exact dis3 a w
end
def Kd.re (n : Option Addr) : Kd → Kd
  | .own _ => .own n
  | .obj _ ks => .obj n ks
  | .lls _ k => .lls n k
  | k => k
section
variable {cl : Cl} {N : Addr → Prop} {B Hs H : Hp} {d : D} {v : V} {A : List Addr} {n : Option Addr} {kk : List (Str × Kd)}
theorem ORep.pinO (h : ORep cl N B Hs H (.obj n kk) d v A) : ∃ a, v = .ref a ∧ ORep cl N B Hs H (.obj (some a) kk) d (.ref a) A ∧ ∀ b, n = some b → b = a := by
  cases h with
  | obj h0 h1 h2 h3 => exact ⟨_, rfl, .obj ⟨h0.1, fun b z => (Option.some.inj z).symm⟩ h1 h2 h3, h0.2⟩
theorem ORep.unpinO {a : Addr} (h : ORep cl N B Hs H (.obj (some a) kk) d v A) (hn : ∀ b, n = some b → b = a) : ORep cl N B Hs H (.obj n kk) d v A := by
  cases h with
  | obj h0 h1 h2 h3 =>
    have e := h0.2 _ rfl
    subst e
    exact .obj ⟨h0.1, hn⟩ h1 h2 h3
theorem ORep.atO {a : Addr} (h : ORep cl N B Hs H (.obj (some a) kk) d v A) : v = .ref a := by
  cases h with
  | obj h0 h1 h2 h3 => rw [h0.2 _ rfl]
end
end VL
end

noncomputable section
namespace VL
open PySem PySem.Spec PyProof.Rows L2
variable {md : Md}

theorem lookup_at {α : Type} {f : Str} : ∀ {fs : List (Str × α)} {j : Nat} {v : α}, (fs.map (·.1)).Nodup → fs[j]? = some (f, v) → fs.lookup f = some v
  | [], _, _, _, h => by simp at h
  | (g, x) :: r, 0, v, _, h => by
    simp at h
    obtain ⟨rfl, rfl⟩ := h
    simp [List.lookup]
  | (g, x) :: r, j + 1, v, nd, h => by
    rw [List.map_cons, List.nodup_cons] at nd
    have h' : r[j]? = some (f, v) := by simpa using h
    have hm : f ∈ r.map (·.1) := List.mem_map.mpr ⟨(f, v), List.mem_of_getElem? h', rfl⟩
    have hb : (f == g) = false := beq_eq_false_iff_ne.mpr fun e => nd.1 (e ▸ hm)
    rw [List.lookup, hb]
    exact lookup_at nd.2 h'
theorem lookup_out {α : Type} {f : Str} : ∀ {fs : List (Str × α)}, f ∉ fs.map (·.1) → fs.lookup f = none
  | [], _ => rfl
  | (g, x) :: r, h => by
    rw [List.map_cons, List.mem_cons] at h
    have hb : (f == g) = false := beq_eq_false_iff_ne.mpr fun e => h (.inl e)
    rw [List.lookup, hb]
    exact lookup_out fun z => h (.inr z)
theorem putF_at {f : Str} {y : V} : ∀ {fs : List (Str × V)} {j : Nat} {v : V}, (fs.map (·.1)).Nodup → fs[j]? = some (f, v) → putF f y fs = fs.set j (f, y)
  | [], _, _, _, h => by simp at h
  | (g, x) :: r, 0, v, _, h => by
    simp at h
    obtain ⟨rfl, rfl⟩ := h
    simp [putF]
  | (g, x) :: r, j + 1, v, nd, h => by
    rw [List.map_cons, List.nodup_cons] at nd
    have h' : r[j]? = some (f, v) := by simpa using h
    have hm : f ∈ r.map (·.1) := List.mem_map.mpr ⟨(f, v), List.mem_of_getElem? h', rfl⟩
    have hb : ¬ g = f := fun e => nd.1 (e ▸ hm)
    rw [putF, if_neg hb, putF_at nd.2 h']
    rfl
theorem putF_out {f : Str} {y : V} : ∀ {fs : List (Str × V)}, f ∉ fs.map (·.1) → putF f y fs = fs ++ [(f, y)]
  | [], _ => rfl
  | (g, x) :: r, h => by
    rw [List.map_cons, List.mem_cons] at h
    rw [putF, if_neg fun e => h (.inl e.symm), putF_out fun z => h (.inr z)]
    rfl
section
variable {cl : Cl} {N : Addr → Prop} {B Hs H : Hp}
theorem OFs.names : ∀ {ks : List (Str × Kd)} {ds : List (Str × D)} {xs : List (Str × V)} {As : List Addr}, OFs cl N B Hs H ks ds xs As → xs.map (·.1) = ks.map (·.1) ∧ ds.map (·.1) = ks.map (·.1)
  | _, _, _, _, .nil => ⟨rfl, rfl⟩
  | _, _, _, _, .cons o t => by simp [t.names]
theorem OFs.pos {f : Str} {k : Kd} : ∀ {ks : List (Str × Kd)} {ds : List (Str × D)} {xs : List (Str × V)} {As : List Addr} (j : Nat), OFs cl N B Hs H ks ds xs As → ks[j]? = some (f, k) →
    ∃ pre A post d v, As = pre ++ (A ++ post) ∧ ds[j]? = some (f, d) ∧ xs[j]? = some (f, v) ∧ ORep cl N B Hs H k d v A ∧
      ∀ Hs' H', Same Hs Hs' → (∀ a ∈ pre ++ post, H' a = H a) → ∀ k' d' v' A', ORep cl N B Hs' H' k' d' v' A' → OFs cl N B Hs' H' (ks.set j (f, k')) (ds.set j (f, d')) (xs.set j (f, v')) (pre ++ (A' ++ post))
  | _, _, _, _, j, .nil, e => by simp at e
  | _, _, _, _, 0, .cons (A := A) (As := As) o t, e => by
    simp at e
    obtain ⟨rfl, rfl⟩ := e
    exact ⟨[], A, As, _, _, rfl, rfl, rfl, o, fun Hs' H' s q k' d' v' A' o' => .cons (A := A') (As := As) o' (OFs.mono s (Same.refl _) (fun _ z => z) _ _ _ As (fun a ha => q a ha) t)⟩
  | _, _, _, _, j + 1, .cons (A := A0) o t, e => by
    obtain ⟨pre, A, post, d, v, e1, e2, e3, e4, e5⟩ := OFs.pos j t (by simpa using e)
    refine ⟨A0 ++ pre, A, post, d, v, by rw [e1, List.append_assoc], by simpa using e2, by simpa using e3, e4, fun Hs' H' s q k' d' v' A' o' => ?_⟩
    rw [List.append_assoc]
    exact .cons (ORep.mono s (Same.refl _) (fun _ z => z) _ _ _ _ (fun a ha => q a (List.mem_append_left _ (List.mem_append_left _ ha))) o)
      (e5 Hs' H' s (fun a ha => q a (by
        rcases List.mem_append.mp ha with z | z
        · exact List.mem_append_left _ (List.mem_append_right _ z)
        · exact List.mem_append_right _ z)) k' d' v' A' o')
theorem OFs.snoc {f : Str} {k : Kd} {d : D} {v : V} {A : List Addr} (o : ORep cl N B Hs H k d v A) : ∀ {ks : List (Str × Kd)} {ds : List (Str × D)} {xs : List (Str × V)} {As : List Addr}, OFs cl N B Hs H ks ds xs As → OFs cl N B Hs H (ks ++ [(f, k)]) (ds ++ [(f, d)]) (xs ++ [(f, v)]) (As ++ A)
  | _, _, _, _, .nil => by
    have z := OFs.cons (f := f) o (.nil (cl := cl) (N := N) (B := B) (Hs := Hs) (H := H))
    rw [List.append_nil] at z
    exact z
  | _, _, _, _, .cons o1 t => by
    rw [List.append_assoc]
    exact .cons o1 (OFs.snoc o t)
end
theorem Grow.inside {Hs H : Hp} {Af : List Addr} {a : Addr} {o : HO} (e : Same Hs H) (ha : a ∈ Af) (hz : ∀ a ∈ Af, Hs a = none) : Grow Hs (sans H Af) Hs (upd H a o) where
  s := Same.refl _
  h := ⟨fun b u q _ => by
    have hb : b ∉ Af := fun w => by rw [sans_in w] at q; cases q
    have hne : b ≠ a := fun w => hb (by rw [w]; exact ha)
    rw [upd_ne hne]
    rw [sans_out hb] at q
    exact q⟩
  n := fun _ z => .inl z
  sub := ⟨fun b u q nt => by
    have hb : b ≠ a := fun w => by rw [w, hz a ha] at q; cases q
    rw [upd_ne hb] at nt ⊢
    exact e.k _ _ q nt⟩
  t := fun P z => z.ext fun b u q => by
    have hb : b ∉ Af := fun w => by rw [sans_in w] at q; cases q
    have hne : b ≠ a := fun w => hb (by rw [w]; exact ha)
    rw [upd_ne hne]
    rw [sans_out hb] at q
    exact q
theorem set_self {α : Type} {l : List α} {i : Nat} {x : α} (h : l[i]? = some x) : l.set i x = l := by
  obtain ⟨h, e⟩ := List.getElem?_eq_some_iff.mp h
  rw [← e, List.set_getElem_self]
section
variable {E : En} {Hs H Hs' H' : Hp} {ks : List Kd} {r : Sl} {σ : L2.St} {i j : Nat} {n : Option Addr} {kk : List (Str × Kd)} {k : Kd} {f C : Str} {d d0 : D} {ds : List (Str × D)} {v : V}
/-- slot i's value is lent, changed, comes back -/
theorem StRel.chg (S : StRel E Hs H ks r σ) (hk : ks[i]? = some k) (hd : r[i]? = some (some d)) (fk : k.fine = true) :
    ∃ v Af, σ[i]? = some (some v) ∧ ORep E.cl (fun a => sans H Af a = none) (sans H Af) Hs H k d v Af ∧ Af.Nodup ∧ (∀ a ∈ Af, Hs a = none) ∧ Same Hs H ∧
      ∀ (Hs' H' : Hp) (k2 : Kd) (d2 : D) (A2 : List Addr), k2.fine = true → Grow Hs (sans H Af) Hs' H' → ORep E.cl (fun a => sans H Af a = none) (sans H Af) Hs' H' k2 d2 v A2 → A2.Nodup → (∀ a ∈ A2, Hs' a = none ∧ sans H Af a = none) →
        StRel E Hs' H' (ks.set i k2) (r.set i (some d2)) σ := by
  obtain ⟨v, ev, S1⟩ := S.take hk hd
  obtain ⟨Af, m, nd, dz, back⟩ := StRel.lend (kf := [k]) (df := [d]) (uf := [v]) (r := r.set i none) S1 rfl rfl (by simp [fk])
  refine ⟨v, Af, ev, ?_, nd, dz, S.sub, fun Hs' H' k2 d2 A2 fk2 g o nd2 di2 => ?_⟩
  · cases m with
    | cons o t =>
      cases t
      rw [List.append_nil]
      rw [List.append_nil] at o
      exact o
  · have z := (back Hs' H' [k2] [d2] [v] A2 (by simp [fk2]) g (by
      have w := RM.cons o (.nil (cl := E.cl) (N := fun a => sans H Af a = none) (B := sans H Af) (Hs := Hs') (H := H'))
      rw [List.append_nil] at w
      exact w) nd2 di2).1
    have q := StRel.settle (ks := ks) (r := r.set i none) (σ := σ) z hk
    rw [List.set_set] at q
    rw [set_self ev] at q
    exact q
/-- what is known of an owned object -/
theorem StRel.objAt (S : StRel E Hs H ks r σ) (hk : ks[i]? = some (.obj n kk)) (hd : r[i]? = some (some (.obj C ds))) :
    ∃ a c dx xs As, σ[i]? = some (some (.ref a)) ∧ E.cl.o C = some c ∧ H a = some (.ins c dx xs) ∧ OFs E.cl E.N E.b Hs H kk ds xs As := by
  obtain ⟨v, A, e, o⟩ := S.get hk hd
  cases o with
  | obj h0 h1 h2 h3 => exact ⟨_, _, _, _, _, e, h1, h2, h3⟩
/-- a value goes into field j of slot i's object -/
theorem StRel.fldPut {k0 : Kd} (S : StRel E Hs H ks r σ) (g : Grow Hs H Hs' H') (hk : ks[i]? = some (.obj n kk)) (hd : r[i]? = some (some (.obj C ds))) (fo : (Kd.obj n kk).fine = true) (hj : kk[j]? = some (f, k0)) (fk : k.fine = true) (fo2 : (Kd.obj n (kk.set j (f, k))).fine = true) (rk : RK E.cl k H Hs' H' d v) :
    ∃ a c dx xs, σ[i]? = some (some (.ref a)) ∧ E.cl.o C = some c ∧ H' a = some (.ins c dx xs) ∧ xs.map (·.1) = kk.map (·.1) ∧ (∃ v0, xs[j]? = some (f, v0)) ∧
      StRel E Hs' (upd H' a (.ins c dx (xs.set j (f, v)))) (ks.set i (.obj n (kk.set j (f, k)))) (r.set i (some (.obj C (ds.set j (f, d))))) σ := by
  have S1 := S.push g fk rk
  obtain ⟨u, eu, S2⟩ := StRel.take (i := i + 1) S1 (by simpa using hk) (by simpa using hd)
  have eu' : σ[i]? = some (some u) := by simpa using eu
  obtain ⟨Af, m, nd, dz, back⟩ := StRel.lend (kf := [.obj n kk, k]) (df := [.obj C ds, d]) (uf := [u, v]) (ks := ks) (r := r.set i none) (σ := σ) S2 rfl rfl (by simp [fo, fk])
  cases m with
  | cons o t =>
    cases t with
    | cons o2 t2 =>
      cases t2
      cases o with
      | obj h0 h1 h2 h3 =>
        rename_i A2 a c dx xs As
        rw [List.append_nil] at nd dz back h3 o2 h0
        obtain ⟨pre, A, post, d1, v1, e1, e2, e3, e4, e5⟩ := OFs.pos j h3 hj
        subst e1
        have hin : a ∈ (a :: (pre ++ (A ++ post))) ++ A2 := by simp
        have na : ∀ b ∈ pre ++ (A ++ post), b ≠ a := fun b hb w => by
          have := (List.nodup_cons.mp (List.nodup_append.mp nd).1).1
          exact this (w ▸ hb)
        have na2 : ∀ b ∈ A2, b ≠ a := fun b hb w => (List.nodup_append.mp nd).2.2 a List.mem_cons_self b hb w.symm
        have nc : xs.map (·.1) = kk.map (·.1) := h3.names.1
        refine ⟨a, c, dx, xs, eu', h1, h2, nc, ⟨v1, e3⟩, ?_⟩
        have gr := Grow.inside (o := .ins c dx (xs.set j (f, v))) g.sub hin dz
        have o2' := ORep.mono (Same.refl Hs') (Same.refl _) (fun _ z => z) k d v A2 (fun b hb => upd_ne (H := H') (o := HO.ins c dx (xs.set j (f, v))) (na2 b hb)) o2
        have of' := e5 Hs' (upd H' a (.ins c dx (xs.set j (f, v)))) (Same.refl _) (fun b hb => upd_ne (na b (by
          rcases List.mem_append.mp hb with w | w
          · exact List.mem_append_left _ w
          · exact List.mem_append_right _ (List.mem_append_right _ w)))) k d v A2 o2'
        have ob : ORep E.cl _ _ Hs' (upd H' a (.ins c dx (xs.set j (f, v)))) (.obj n (kk.set j (f, k))) (.obj C (ds.set j (f, d))) (.ref a) (a :: (pre ++ (A2 ++ post))) := .obj h0 h1 upd_same of'
        have sub : ∀ b ∈ a :: (pre ++ (A2 ++ post)), b ∈ (a :: (pre ++ (A ++ post))) ++ A2 := fun b hb => by
          simp at hb ⊢
          rcases hb with w | w | w | w
          · exact .inl w
          · exact .inr (.inl w)
          · exact .inr (.inr (.inr (.inr w)))
          · exact .inr (.inr (.inr (.inl w)))
        have nd2 : (a :: (pre ++ (A2 ++ post))).Nodup := by
          have q := List.nodup_append.mp nd
          have q1 := List.nodup_cons.mp q.1
          refine List.nodup_cons.mpr ⟨fun w => ?_, nodup_mid q1.2 q.2.1 fun b hb w => ?_⟩
          · rcases List.mem_append.mp w with w | w
            · exact q1.1 (List.mem_append_left _ w)
            · rcases List.mem_append.mp w with w | w
              · exact na2 a w rfl
              · exact q1.1 (List.mem_append_right _ (List.mem_append_right _ w))
          · refine q.2.2 b (List.mem_cons_of_mem _ ?_) b hb rfl
            rcases List.mem_append.mp w with w | w
            · exact List.mem_append_left _ w
            · exact List.mem_append_right _ (List.mem_append_right _ w)
        have z := (back Hs' (upd H' a (.ins c dx (xs.set j (f, v)))) [.obj n (kk.set j (f, k))] [.obj C (ds.set j (f, d))] [.ref a] (a :: (pre ++ (A2 ++ post))) (by simp [fo2]) gr (by
          have w := RM.cons ob .nil
          rw [List.append_nil] at w
          exact w) nd2 fun b hb => ⟨dz b (sub b hb), sans_in (sub b hb)⟩).1
        have q := StRel.settle (ks := ks) (r := r.set i none) (σ := σ) z hk
        rw [List.set_set, set_self eu'] at q
        exact q
/-- .. into a new field -/
theorem StRel.fldNew (S : StRel E Hs H ks r σ) (g : Grow Hs H Hs' H') (hk : ks[i]? = some (.obj n kk)) (hd : r[i]? = some (some (.obj C ds))) (fo : (Kd.obj n kk).fine = true) (fk : k.fine = true) (fo2 : (Kd.obj n (kk ++ [(f, k)])).fine = true) (rk : RK E.cl k H Hs' H' d v) :
    ∃ a c dx xs, σ[i]? = some (some (.ref a)) ∧ E.cl.o C = some c ∧ H' a = some (.ins c dx xs) ∧ xs.map (·.1) = kk.map (·.1) ∧
      StRel E Hs' (upd H' a (.ins c dx (xs ++ [(f, v)]))) (ks.set i (.obj n (kk ++ [(f, k)]))) (r.set i (some (.obj C (ds ++ [(f, d)])))) σ := by
  have S1 := S.push g fk rk
  obtain ⟨u, eu, S2⟩ := StRel.take (i := i + 1) S1 (by simpa using hk) (by simpa using hd)
  have eu' : σ[i]? = some (some u) := by simpa using eu
  obtain ⟨Af, m, nd, dz, back⟩ := StRel.lend (kf := [.obj n kk, k]) (df := [.obj C ds, d]) (uf := [u, v]) (ks := ks) (r := r.set i none) (σ := σ) S2 rfl rfl (by simp [fo, fk])
  cases m with
  | cons o t =>
    cases t with
    | cons o2 t2 =>
      cases t2
      cases o with
      | obj h0 h1 h2 h3 =>
        rename_i A2 a c dx xs As
        rw [List.append_nil] at nd dz back h3 o2 h0
        have hin : a ∈ (a :: As) ++ A2 := by simp
        have na : ∀ b ∈ As, b ≠ a := fun b hb w => by
          have := (List.nodup_cons.mp (List.nodup_append.mp nd).1).1
          exact this (w ▸ hb)
        have na2 : ∀ b ∈ A2, b ≠ a := fun b hb w => (List.nodup_append.mp nd).2.2 a List.mem_cons_self b hb w.symm
        refine ⟨a, c, dx, xs, eu', h1, h2, h3.names.1, ?_⟩
        have gr := Grow.inside (o := .ins c dx (xs ++ [(f, v)])) g.sub hin dz
        have o2' := ORep.mono (Same.refl Hs') (Same.refl _) (fun _ z => z) k d v A2 (fun b hb => upd_ne (H := H') (o := HO.ins c dx (xs ++ [(f, v)])) (na2 b hb)) o2
        have h3' := OFs.mono (Same.refl Hs') (Same.refl _) (fun _ z => z) kk ds xs As (fun b hb => upd_ne (H := H') (o := HO.ins c dx (xs ++ [(f, v)])) (na b hb)) h3
        have ob : ORep E.cl _ _ Hs' (upd H' a (.ins c dx (xs ++ [(f, v)]))) (.obj n (kk ++ [(f, k)])) (.obj C (ds ++ [(f, d)])) (.ref a) (a :: (As ++ A2)) := .obj h0 h1 upd_same (OFs.snoc o2' h3')
        have z := (back Hs' (upd H' a (.ins c dx (xs ++ [(f, v)]))) [.obj n (kk ++ [(f, k)])] [.obj C (ds ++ [(f, d)])] [.ref a] (a :: (As ++ A2)) (by simp [fo2]) gr (by
          have w := RM.cons ob .nil
          rw [List.append_nil] at w
          exact w) nd fun b hb => ⟨dz b hb, sans_in hb⟩).1
        have q := StRel.settle (ks := ks) (r := r.set i none) (σ := σ) z hk
        rw [List.set_set, set_self eu'] at q
        exact q
/-- field j of slot i's object is a list that is changed where it lies -/
theorem StRel.fldMut {m : Option Addr} {es : List D} (S : StRel E Hs H ks r σ) (hk : ks[i]? = some (.obj n kk)) (hd : r[i]? = some (some (.obj C ds))) (fo : (Kd.obj n kk).fine = true) (hj : kk[j]? = some (f, .own m)) (he : ds[j]? = some (f, .lst es)) :
    ∃ a c dx xs b ys, σ[i]? = some (some (.ref a)) ∧ E.cl.o C = some c ∧ H a = some (.ins c dx xs) ∧ xs.map (·.1) = kk.map (·.1) ∧ xs[j]? = some (f, .ref b) ∧ a ≠ b ∧ H b = some (.lst ys) ∧ RepL E.cl Hs es ys ∧
      ∀ es' ys', RepL E.cl Hs es' ys' → StRel E Hs (upd H b (.lst ys')) ks (r.set i (some (.obj C (ds.set j (f, .lst es'))))) σ := by
  obtain ⟨u, Af, eu, o, nd, dz, sub, back⟩ := S.chg hk hd fo
  cases o with
  | obj h0 h1 h2 h3 =>
    rename_i a c dx xs As
    obtain ⟨pre, A, post, d1, v1, e1, e2, e3, e4, e5⟩ := OFs.pos j h3 hj
    rw [he] at e2
    cases e2
    cases e4 with
    | ownV q0 q1 => cases q0
    | ownL q0 q1 q2 =>
      rename_i b ys
      subst e1
      have nc := List.nodup_cons.mp nd
      have nb : a ≠ b := fun w => nc.1 (by rw [w]; simp)
      have hin : b ∈ a :: (pre ++ ([b] ++ post)) := by simp
      refine ⟨a, c, dx, xs, b, ys, eu, h1, h2, h3.names.1, e3, nb, q1, q2, fun es' ys' rp => ?_⟩
      have np : ∀ x ∈ pre ++ post, x ≠ b := fun x hx w => by
        have q := List.nodup_append.mp nc.2
        rcases List.mem_append.mp hx with z | z
        · exact q.2.2 x z b (by simp) w
        · have q' := List.nodup_append.mp q.2.1
          exact q'.2.2 b (by simp) x z w.symm
      have of' := e5 Hs (upd H b (.lst ys')) (Same.refl _) (fun x hx => upd_ne (np x hx)) (.own m) (.lst es') (.ref b) [b] (.ownL q0 upd_same rp)
      rw [set_self hj, set_self e3] at of'
      have z := back Hs (upd H b (.lst ys')) (.obj n kk) (.obj C (ds.set j (f, .lst es'))) (a :: (pre ++ ([b] ++ post))) fo (Grow.inside sub hin dz) (.obj h0 h1 ((upd_ne nb).trans h2) of') nd fun x hx => ⟨dz x hx, sans_in hx⟩
      rw [set_self hk] at z
      exact z
end
/-- a field of a class of one's own -/
def FldOk (K : PySem.W.Frag) (cl : Cl) (C f : Str) : Prop := ∀ c, cl.o C = some c → Cls K c ∧ NoAttr K c f
@[simp] def oFld (C : Str) (j : Nat) : D → R D
  | .obj C' fs => if C' = C then (match fs[j]? with
    | some (_, d) => .ok d
    | none => .stuck) else .stuck
  | _ => .stuck
@[simp] def gFld (C : Str) (i j : Nat) : Sl → R D := fun r => match r[i]? with
  | some (some d) => oFld C j d
  | _ => .stuck
theorem gFld_ok {C : Str} {i j : Nat} {r : Sl} {d : D} (h : gFld C i j r = .ok d) : ∃ fs g, r[i]? = some (some (.obj C fs)) ∧ fs[j]? = some (g, d) := by
  unfold gFld at h
  split at h
  · rename_i d0 e
    cases d0 <;> first | (cases h; done) | skip
    dsimp only [oFld] at h
    split at h
    · rename_i c
      subst c
      split at h
      · rename_i g d1 q
        cases h
        exact ⟨_, g, e, q⟩
      · cases h
    · cases h
  · cases h
theorem gFld_exc {C : Str} {i j : Nat} {r : Sl} {x : Exc} (h : gFld C i j r = .exc x) : False := by
  unfold gFld at h
  split at h
  · rename_i d0 e
    cases d0 <;> first | (cases h; done) | skip
    dsimp only [oFld] at h
    split at h
    · split at h <;> cases h
    · cases h
  · cases h
section
variable {X : Cx} {E : En} {fin : List Kd → Prop} {kr : Kd} {ks ks' : List Kd} {i j : Nat} {n : Option Addr} {kk : List (Str × Kd)} {k : Kd} {C f x : Str} {e : Expr} {g : Sl → R D} {p1 p2 p3 pos : Pos}
/-- x.f, slot i an owned object, its field j stable, or a list lent -/
theorem se_fldV (T : FldOk X.K E.cl C f) (hk : ks[i]? = some (.obj n kk) := by rfl) (hj : kk[j]? = some (f, .val) := by rfl) (hnd : (kk.map (·.1)).Nodup) (hN : X.N[i]? = some x := by rfl) (hv : Vis X.env.scope x := by first | exact Or.inl rfl | exact Or.inr (Or.inl rfl) | exact Or.inr (Or.inr rfl))
    (hq : NmOk x) (hb : attributeBase (.Name x p1) f X.env (eval (.Name x p1) X.env) = eval (.Name x p1) X.env := by rfl) : SE X E ks .val (.Attribute (.Name x p1) f pos) (gFld C i j) := by
  refine ⟨fun Hs H r σ W Q tk S P => ?_⟩
  refine we_of (pe_fld (pe_var hN hv hq.1 hq.2) hb) ?_
  cases q : gFld C i j r with
  | stuck => rw [q] at P; exact P.elim
  | exc x => exact (gFld_exc q).elim
  | ok d =>
    rw [q] at P
    obtain ⟨fs, g, e1, e2⟩ := gFld_ok q
    obtain ⟨a, c, dx, xs, As, e, h1, h2, h3⟩ := S.objAt hk e1
    obtain ⟨pre, A, post, d1, v1, _, e5, e6, e7, _⟩ := OFs.pos j h3 hj
    rw [e2] at e5
    cases e5
    cases e7 with
    | val rp => exact ⟨_, e, a, c, dx, xs, v1, rfl, h2, (T c h1).1, (T c h1).2, lookup_at (by rw [h3.names.1]; exact hnd) e6, P.finV S.sub rp⟩
/-- x.f = e -/
@[simp] def mFldPut (C f : Str) (i j : Nat) (g : Sl → R D) : Sl → O := fun r => onR (g r) r fun d => match r[i]? with
  | some (some (.obj C' fs)) => if C' = C then .nx (r.set i (some (.obj C (fs.set j (f, d))))) else .stuck
  | _ => .stuck
theorem ss_fldPut {k0 : Kd} {kk2 : List (Str × Kd)} (T : FldOk X.K E.cl C f) (he : SE X E ks k e g) (hnd : (kk.map (·.1)).Nodup) (hq : NmOk x) (hf : fin ks := by trivial) (hk : ks[i]? = some (.obj n kk) := by rfl) (hj : kk[j]? = some (f, k0) := by rfl) (h2 : kk.set j (f, k) = kk2 := by rfl)
    (fo : (Kd.obj n kk).fine = true := by rfl) (fk : k.fine = true := by rfl) (fo2 : (Kd.obj n kk2).fine = true := by rfl) (hl : kk.length < 1000 := by decide) (hN : X.N[i]? = some x := by rfl) (hv : Vis X.env.scope x := by first | exact Or.inl rfl | exact Or.inr (Or.inl rfl) | exact Or.inr (Or.inr rfl))
    (hs : swapsWith e (some (.Attribute (.Name x p1) f p2)) pos.line X.env = pure false := by rfl) :
    SS X E kr fin ks (.Assign [.Attribute (.Name x p1) f p2] e pos) (mFldPut C f i j g) (ks.set i (.obj n kk2)) := by
  subst h2
  refine ⟨fun Hs H r σ W Dn tk S P => ?_⟩
  refine ws_of (ps_fld (pe_var hN hv hq.1 hq.2) pe_we hs) ?_
  refine he.run _ _ _ _ _ _ tk S (Post.ofS hf S P fun d v Hs' H' e1 g1 k1 P1 => ?_)
  split at P1
  · rename_i C' fs hd
    split at P1
    · rename_i hc
      subst hc
      obtain ⟨a, c, dx, xs, e2, h1, h2, nm, ⟨v0, h3⟩, S2⟩ := S.fldPut (f := f) g1 hk hd fo hj fk fo2 k1
      refine ⟨_, e2, a, c, dx, xs, rfl, h2, (T c h1).1, (T c h1).2, ?_, ?_⟩
      · have := congrArg List.length nm
        simp at this
        omega
      · rw [putF_at (by rw [nm]; exact hnd) h3]
        exact P1 _ _ _ S2
    · exact P1.elim
  · exact P1.elim
@[simp] def mFldNew (C f : Str) (i : Nat) (g : Sl → R D) : Sl → O := fun r => onR (g r) r fun d => match r[i]? with
  | some (some (.obj C' fs)) => if C' = C then .nx (r.set i (some (.obj C (fs ++ [(f, d)])))) else .stuck
  | _ => .stuck
theorem ss_fldNew {kk2 : List (Str × Kd)} (T : FldOk X.K E.cl C f) (he : SE X E ks k e g) (hno : f ∉ kk.map (·.1)) (hq : NmOk x) (hf : fin ks := by trivial) (hk : ks[i]? = some (.obj n kk) := by rfl) (h2 : kk ++ [(f, k)] = kk2 := by rfl)
    (fo : (Kd.obj n kk).fine = true := by rfl) (fk : k.fine = true := by rfl) (fo2 : (Kd.obj n kk2).fine = true := by rfl) (hl : kk.length < 1000 := by decide) (hN : X.N[i]? = some x := by rfl) (hv : Vis X.env.scope x := by first | exact Or.inl rfl | exact Or.inr (Or.inl rfl) | exact Or.inr (Or.inr rfl))
    (hs : swapsWith e (some (.Attribute (.Name x p1) f p2)) pos.line X.env = pure false := by rfl) :
    SS X E kr fin ks (.Assign [.Attribute (.Name x p1) f p2] e pos) (mFldNew C f i g) (ks.set i (.obj n kk2)) := by
  subst h2
  refine ⟨fun Hs H r σ W Dn tk S P => ?_⟩
  refine ws_of (ps_fld (pe_var hN hv hq.1 hq.2) pe_we hs) ?_
  refine he.run _ _ _ _ _ _ tk S (Post.ofS hf S P fun d v Hs' H' e1 g1 k1 P1 => ?_)
  split at P1
  · rename_i C' fs hd
    split at P1
    · rename_i hc
      subst hc
      obtain ⟨a, c, dx, xs, e2, h1, h2, nm, S2⟩ := S.fldNew (f := f) g1 hk hd fo fk fo2 k1
      refine ⟨_, e2, a, c, dx, xs, rfl, h2, (T c h1).1, (T c h1).2, ?_, ?_⟩
      · have := congrArg List.length nm
        simp at this
        omega
      · rw [putF_out (by rw [nm]; exact hno)]
        exact P1 _ _ _ S2
    · exact P1.elim
  · exact P1.elim
/-- x.f += e, x.f -= e: whole numbers -/
@[simp] def mFldAug (C f : Str) (i j : Nat) (fd : D → D → R D) (g : Sl → R D) : Sl → O := fun r => onR (noX (gFld C i j r)) r fun d0 => onR (g r) r fun d => onR (noX (fd d0 d)) r fun z => match r[i]? with
  | some (some (.obj C' fs)) => .nx (r.set i (some (.obj C (fs.set j (f, z)))))
  | _ => .stuck
theorem ss_fldAug {op : Operator} {fi : Int → Int → Int} {fd : D → D → R D} (T : FldOk X.K E.cl C f) (hop : InOp X op (fun a b H Q => ∃ i j, a = .int i ∧ b = .int j ∧ Q (.int (fi i j)) H)) (hfd : ∀ a b c, fd a b = .ok c → ∃ i j, a = .int i ∧ b = .int j ∧ c = .int (fi i j))
    (he : SE X E ks .bor e g) (hnd : (kk.map (·.1)).Nodup) (hq : NmOk x) (hf : fin ks := by trivial) (hk : ks[i]? = some (.obj n kk) := by rfl) (hj : kk[j]? = some (f, .val) := by rfl)
    (fo : (Kd.obj n kk).fine = true := by rfl) (hl : kk.length < 1000 := by decide) (hN : X.N[i]? = some x := by rfl) (hv : Vis X.env.scope x := by first | exact Or.inl rfl | exact Or.inr (Or.inl rfl) | exact Or.inr (Or.inr rfl)) :
    SS X E kr fin ks (.AugAssign (.Attribute (.Name x p1) f p2) op e pos) (mFldAug C f i j fd g) ks := by
  refine ⟨fun Hs H r σ W Dn tk S P => ?_⟩
  refine ws_of (ps_fldaug (pe_var hN hv hq.1 hq.2) pe_we hop) ?_
  unfold mFldAug at P
  cases q : gFld C i j r with
  | stuck => rw [q] at P; exact P.elim
  | exc x => exact (gFld_exc q).elim
  | ok d0 =>
    rw [q] at P
    obtain ⟨fs, g0, e1, e2⟩ := gFld_ok q
    obtain ⟨a, c, dx, xs, As, e, h1, h2, h3⟩ := S.objAt hk e1
    obtain ⟨pre, A, post, d1, v1, _, e5, e6, e7, _⟩ := OFs.pos j h3 hj
    rw [e2] at e5
    cases e5
    refine ⟨_, e, a, c, dx, xs, v1, rfl, h2, (T c h1).1, (T c h1).2, lookup_at (by rw [h3.names.1]; exact hnd) e6, ?_⟩
    refine he.run _ _ _ _ _ _ tk S (Post.ofS hf S P fun d v Hs' H' e1' g1 k1 P1 => ?_)
    cases q2 : fd d0 d with
    | stuck => rw [q2] at P1; exact P1.elim
    | exc z => rw [q2] at P1; exact P1.elim
    | ok z =>
      rw [q2] at P1
      obtain ⟨m1, m2, rfl, rfl, rfl⟩ := hfd _ _ _ q2
      cases e7 with
      | val r0 =>
        cases r0
        cases k1.rb.intInv
        obtain ⟨a', c', dx', xs', ea', h1', h2', nm, ⟨v0, h3'⟩, S2⟩ := (S.grow g1).fldPut (f := f) (Grow.refl g1.sub) hk e1 fo hj (k := .val) rfl (by rw [set_self hj]; exact fo) (RK.val (H0 := H') (.int (fi m1 m2)))
        rw [e] at ea'
        cases ea'
        rw [h1] at h1'
        cases h1'
        refine ⟨m1, m2, rfl, rfl, dx', xs', h2', ?_, ?_⟩
        · have := congrArg List.length nm
          simp at this
          omega
        · rw [putF_at (by rw [nm]; exact hnd) h3']
          rw [set_self hj, set_self hk] at S2
          dsimp only [onR, noX] at P1
          rw [e1] at P1
          exact P1 _ _ _ S2
theorem ss_fldAdd (T : FldOk X.K E.cl C f) (he : SE X E ks .bor e g) (hnd : (kk.map (·.1)).Nodup) (hq : NmOk x) (hf : fin ks := by trivial) (hk : ks[i]? = some (.obj n kk) := by rfl) (hj : kk[j]? = some (f, .val) := by rfl)
    (fo : (Kd.obj n kk).fine = true := by rfl) (hl : kk.length < 1000 := by decide) (hN : X.N[i]? = some x := by rfl) (hv : Vis X.env.scope x := by first | exact Or.inl rfl | exact Or.inr (Or.inl rfl) | exact Or.inr (Or.inr rfl)) :
    SS X E kr fin ks (.AugAssign (.Attribute (.Name x p1) f p2) .Add e pos) (mFldAug C f i j dIAdd g) ks :=
  ss_fldAug T in_add (fun a b c h => by cases a <;> cases b <;> first | (cases h; done) | (cases h; exact ⟨_, _, rfl, rfl, rfl⟩)) he hnd hq hf hk hj fo hl hN hv
theorem ss_fldSub (T : FldOk X.K E.cl C f) (he : SE X E ks .bor e g) (hnd : (kk.map (·.1)).Nodup) (hq : NmOk x) (hf : fin ks := by trivial) (hk : ks[i]? = some (.obj n kk) := by rfl) (hj : kk[j]? = some (f, .val) := by rfl)
    (fo : (Kd.obj n kk).fine = true := by rfl) (hl : kk.length < 1000 := by decide) (hN : X.N[i]? = some x := by rfl) (hv : Vis X.env.scope x := by first | exact Or.inl rfl | exact Or.inr (Or.inl rfl) | exact Or.inr (Or.inr rfl)) :
    SS X E kr fin ks (.AugAssign (.Attribute (.Name x p1) f p2) .Sub e pos) (mFldAug C f i j dSub g) ks :=
  ss_fldAug T in_sub (fun a b c h => by cases a <;> cases b <;> first | (cases h; done) | (cases h; exact ⟨_, _, rfl, rfl, rfl⟩)) he hnd hq hf hk hj fo hl hN hv
/-- x.f.append(e) -/
@[simp] def mFldApp (C f : Str) (i j : Nat) (g : Sl → R D) : Sl → O := fun r => onR (noX (gFld C i j r)) r fun d0 => match d0 with
  | .lst es => onR (g r) r fun d => if es.length < szL then (match r[i]? with
    | some (some (.obj C' fs)) => .nx (r.set i (some (.obj C (fs.set j (f, .lst (es ++ [d]))))))
    | _ => .stuck) else .stuck
  | _ => .stuck
theorem names_at {cl : Cl} {N : Addr → Prop} {B Hs H : Hp} {kk : List (Str × Kd)} {fs : List (Str × D)} {xs : List (Str × V)} {As : List Addr} {j : Nat} {f g : Str} {k : Kd} {d : D} (h : OFs cl N B Hs H kk fs xs As) (hj : kk[j]? = some (f, k)) (e : fs[j]? = some (g, d)) : g = f := by
  have z := h.names.2
  have a : (fs.map (·.1))[j]? = some g := by rw [List.getElem?_map, e]; rfl
  rw [z, List.getElem?_map, hj] at a
  exact (Option.some.inj a).symm
theorem ss_fldApp {m : Option Addr} (T : FldOk X.K E.cl C f) (he : SE X E ks .val e g) (hnd : (kk.map (·.1)).Nodup) (hq : NmOk x) (hf : fin ks := by trivial) (hk : ks[i]? = some (.obj n kk) := by rfl) (hj : kk[j]? = some (f, .own m) := by rfl)
    (fo : (Kd.obj n kk).fine = true := by rfl) (hN : X.N[i]? = some x := by rfl) (hv : Vis X.env.scope x := by first | exact Or.inl rfl | exact Or.inr (Or.inl rfl) | exact Or.inr (Or.inr rfl))
    {p0 : Pos} (hs : swapsWith (.Call (.Attribute (.Attribute (.Name x p1) f p0) "append" p2) [e] [] p3) none pos.line X.env = pure false := by rfl)
    (hb : attributeBase (.Name x p1) f X.env (eval (.Name x p1) X.env) = eval (.Name x p1) X.env := by rfl)
    (hbase : attributeBase (.Attribute (.Name x p1) f p0) "append" X.env (eval (.Attribute (.Name x p1) f p0) X.env) = eval (.Attribute (.Name x p1) f p0) X.env := by rfl)
    (hfew : ((backTo p3 (starEach [e] X.env)).all (fun x => !x.1) && (backToKw p3 (keywordEach [] X.env)).all (fun x => x.1.isSome)
      && decide ([e].length + ([] : List Keyword).length + (if ([] : List Keyword).isEmpty then 0 else 1) < 30)) = true := by rfl)
    (hline : (p2.endLine == p3.line) = true := by rfl) (hst : starEach [e] X.env = (false, eval e X.env) :: starEach [] X.env := by rfl) (hplain : (backTo p3 (starEach [] X.env)).any (·.1) = false := by rfl) :
    SS X E kr fin ks (.Expr (.Call (.Attribute (.Attribute (.Name x p1) f p0) "append" p2) [e] [] p3) pos) (mFldApp C f i j g) ks := by
  refine ⟨fun Hs H r σ W Dn tk S P => ?_⟩
  refine ws_of (ps_expr (pe_bm PySem.F.plainAttrs_list PySem.F.slot_list_append PySem.F.type_list_append mt_append (pe_fld (pe_var hN hv hq.1 hq.2) hb) (pa_cons pe_we pa_nil hst) hbase hfew hline hst hplain) hs) ?_
  unfold mFldApp at P
  cases q : gFld C i j r with
  | stuck => rw [q] at P; exact P.elim
  | exc x => exact (gFld_exc q).elim
  | ok d0 =>
    rw [q] at P
    dsimp only [onR, noX] at P
    cases d0 <;> first | exact P.elim | skip
    rename_i es
    obtain ⟨fs, g0, e1, e2⟩ := gFld_ok q
    have hg : g0 = f := by
      obtain ⟨a, c, dx, xs, As, _, _, _, h3⟩ := S.objAt hk e1
      exact names_at h3 hj e2
    subst hg
    obtain ⟨a, c, dx, xs, b, ys, e, h1, h2, nm, h3, nb, h4, r1, _⟩ := S.fldMut hk e1 fo hj e2
    refine ⟨_, e, a, c, dx, xs, .ref b, rfl, h2, (T c h1).1, (T c h1).2, lookup_at (by rw [nm]; exact hnd) h3, tyV_lst h4, ?_⟩
    refine he.run _ _ _ _ _ _ tk S (Post.ofS hf S P fun d v Hs' H' _ g1 k1 P1 => ?_)
    obtain ⟨a', c', dx', xs', b', ys', e', h1', h2', nm', h3', nb', h4', r1', up⟩ := (S.grow g1).fldMut hk e1 fo hj e2
    rw [e] at e'
    cases e'
    have eb : b' = b := by
      have z := g1.h.at _ _ h2
      rw [h2'] at z
      cases z
      rw [h3] at h3'
      cases h3'
      rfl
    subst eb
    split at P1
    · rename_i hz
      rw [e1] at P1
      exact ⟨b', ys', v, rfl, rfl, h4', by rw [szL_eq, r1'.length]; exact hz, P1 _ _ _ (up _ _ (r1'.app (.cons k1.rep .nil)))⟩
    · exact P1.elim
/-- x.f += e, a list -/
@[simp] def mFldExt (C f : Str) (i j : Nat) (g : Sl → R D) : Sl → O := fun r => onR (noX (gFld C i j r)) r fun d0 => match d0 with
  | .lst es => onR (g r) r fun d => match d with
    | .lst zs => if es.length + zs.length ≤ szL then (match r[i]? with
      | some (some (.obj C' fs)) => .nx (r.set i (some (.obj C (fs.set j (f, .lst (es ++ zs))))))
      | _ => .stuck) else .stuck
    | _ => .stuck
  | _ => .stuck
theorem ss_fldExt {m : Option Addr} (T : FldOk X.K E.cl C f) (he : SE X E ks .val e g) (hnd : (kk.map (·.1)).Nodup) (hq : NmOk x) (hf : fin ks := by trivial) (hk : ks[i]? = some (.obj n kk) := by rfl) (hj : kk[j]? = some (f, .own m) := by rfl)
    (fo : (Kd.obj n kk).fine = true := by rfl) (hl : kk.length < 1000 := by decide) (hN : X.N[i]? = some x := by rfl) (hv : Vis X.env.scope x := by first | exact Or.inl rfl | exact Or.inr (Or.inl rfl) | exact Or.inr (Or.inr rfl)) :
    SS X E kr fin ks (.AugAssign (.Attribute (.Name x p1) f p2) .Add e pos) (mFldExt C f i j g) ks := by
  refine ⟨fun Hs H r σ W Dn tk S P => ?_⟩
  have hop : InOp X .Add rExt2 := fun pins s σ H x y u v Q I rx ry h => iop_ext pins s σ H x y u v Q I rx ry h
  refine ws_of (ps_fldaug (pe_var hN hv hq.1 hq.2) pe_we hop) ?_
  unfold mFldExt at P
  cases q : gFld C i j r with
  | stuck => rw [q] at P; exact P.elim
  | exc x => exact (gFld_exc q).elim
  | ok d0 =>
    rw [q] at P
    dsimp only [onR, noX] at P
    cases d0 <;> first | exact P.elim | skip
    rename_i es
    obtain ⟨fs, g0, e1, e2⟩ := gFld_ok q
    have hg : g0 = f := by
      obtain ⟨a, c, dx, xs, As, _, _, _, h3⟩ := S.objAt hk e1
      exact names_at h3 hj e2
    subst hg
    obtain ⟨a, c, dx, xs, b, ys, e, h1, h2, nm, h3, nb, h4, r1, _⟩ := S.fldMut hk e1 fo hj e2
    refine ⟨_, e, a, c, dx, xs, .ref b, rfl, h2, (T c h1).1, (T c h1).2, lookup_at (by rw [nm]; exact hnd) h3, ?_⟩
    refine he.run _ _ _ _ _ _ tk S (Post.ofS hf S P fun d v Hs' H' _ g1 k1 P1 => ?_)
    obtain ⟨a', c', dx', xs', b', ys', e', h1', h2', nm', h3', nb', h4', r1', up⟩ := (S.grow g1).fldMut hk e1 fo hj e2
    rw [e] at e'
    cases e'
    have z := g1.h.at _ _ h2
    rw [h2'] at z
    cases z
    rw [h3] at h3'
    cases h3'
    rw [h1] at h1'
    cases h1'
    cases d <;> first | exact P1.elim | skip
    rename_i zs
    dsimp only at P1
    split at P1
    · rename_i hz
      rw [e1] at P1
      have kr1 := k1.rep
      cases kr1 with
      | lst h5 r5 =>
        rename_i ws
        refine ⟨b, _, ys', _, rfl, rfl, h4', g1.sub.at _ _ h5, by rw [szL_eq, r1'.length, r5.length]; exact hz, dx, xs, ?_, ?_, ?_⟩
        · rw [upd_ne nb]; exact h2'
        · have := congrArg List.length nm
          simp at this
          omega
        · rw [putF_at (by rw [nm]; exact hnd) h3, set_self h3]
          have w := up _ _ (r1'.app r5)
          have same : upd (upd H' b (.lst (ys' ++ ws))) a (.ins c dx xs) = upd H' b (.lst (ys' ++ ws)) := by
            funext x
            by_cases hx : x = a
            · subst hx
              rw [upd_same, upd_ne nb, h2']
            · rw [upd_ne hx]
          rw [same]
          exact P1 _ _ _ w
    · exact P1.elim
end
end VL
end

noncomputable section
namespace VL
open PySem PySem.Spec PyProof.Rows L2
variable {md : Md}

theorem tab_of_sans {H : Hp} {Af : List Addr} {P : Addr} (z : LamX.TabS (sans H Af) P lamQ) : LamX.TabS H P lamQ := z.ext fun b o q => by
  by_cases w : b ∈ Af
  · rw [sans_in w] at q; cases q
  · rw [sans_out w] at q; exact q
def Kd.mutb : Kd → Bool
  | .own _ => true
  | .obj _ _ => true
  | .lls _ _ => true
  | _ => false
def pins (ks : List Kd) (as : List Addr) : List Kd := List.zipWith (fun k a => k.re (some a)) ks as
theorem pins_len {ks : List Kd} {as : List Addr} (h : as.length = ks.length) : (pins ks as).length = ks.length := by
  unfold pins
  rw [List.length_zipWith, h, Nat.min_self]
section
variable {cl : Cl} {N : Addr → Prop} {B Hs H : Hp}
theorem ORep.at1 {k : Kd} {a : Addr} {d : D} {v : V} {A : List Addr} (m : k.mutb = true) (h : ORep cl N B Hs H (k.re (some a)) d v A) : v = .ref a := by
  cases k <;> first | (cases m; done) | skip
  · cases h with
    | ownL h0 _ _ => rw [h0.2 _ rfl]
    | ownK h0 _ _ => rw [h0.2 _ rfl]
  · cases h with
    | obj h0 _ _ _ => rw [h0.2 _ rfl]
  · cases h with
    | lls h0 _ _ => rw [h0.2 _ rfl]
    | llT h0 _ _ => rw [h0.2 _ rfl]
theorem RM.ats : ∀ {ks : List Kd} {as : List Addr} {ds : List D} {vs : List V} {A : List Addr}, ks.all Kd.mutb = true → as.length = ks.length → RM cl N B Hs H (pins ks as) ds vs A → vs = as.map .ref
  | [], [], _, _, _, _, _, .nil => rfl
  | [], _ :: _, _, _, _, _, l, _ => by cases l
  | _ :: _, [], _, _, _, _, l, _ => by cases l
  | k :: ks, a :: as, _, _, _, m, l, .cons o t => by
    rw [List.all_cons, Bool.and_eq_true] at m
    rw [RM.ats m.2 (by simpa using l) t, ORep.at1 m.1 o]
    rfl
end
/-- how a call ends: its result, what was lent -/
def PostM (cl : Cl) (k2 : List Kd) (kr : Kd) (as : List Addr) (Hs H : Hp) (Af : List Addr) (Q : VK) (E : XK) : O → Prop
  | .stuck => False
  | .nx _ => False
  | .rt d es => ∃ dm, es = dm.map some ∧ ∀ v Hs' H' A0 A2, Grow Hs (sans H Af) Hs' H' → ORep cl (fun b => sans H Af b = none) (sans H Af) Hs' H' kr d v A0 → RM cl (fun b => sans H Af b = none) (sans H Af) Hs' H' (pins k2 as) dm (as.map .ref) A2 →
      (A0 ++ A2).Nodup → (∀ b ∈ A0 ++ A2, Hs' b = none ∧ sans H Af b = none) → Q v H'
  | .exc x es => ∃ dm, es = dm.map some ∧ ∀ c dd Hs' H' A2, Grow Hs (sans H Af) Hs' H' → RM cl (fun b => sans H Af b = none) (sans H Af) Hs' H' (pins k2 as) dm (as.map .ref) A2 →
      A2.Nodup → (∀ b ∈ A2, Hs' b = none ∧ sans H Af b = none) → XRep cl Hs' H' x c dd → E c dd H'
/-- a promise with things that are lent (ahead) -/
def spM (cl : Cl) (k1 k2 : List Kd) (bs : List Bool) (kr : Kd) (f : List D → O) : Sp := fun vs H Q E => ∃ (as : List Addr) (ws : List V) (dm ds : List D) (Hs : Hp) (Af : List Addr), vs = as.map .ref ++ ws ∧ as.length = k1.length ∧ Same Hs H ∧
  RM cl (fun b => sans H Af b = none) (sans H Af) Hs H (pins k1 as) dm (as.map .ref) Af ∧ Af.Nodup ∧ (∀ b ∈ Af, Hs b = none) ∧ RAs cl Hs (sans H Af) bs ds ws ∧ PostM cl k2 kr as Hs H Af Q E (f (dm ++ ds))
/-- the first n slots hold values -/
def allS : Sl → Option (List D)
  | [] => some []
  | some d :: r => (allS r).map (d :: ·)
  | none :: _ => none
theorem allS_eq : ∀ {r : Sl} {ds : List D}, allS r = some ds → r = ds.map some
  | [], _, h => by cases h; rfl
  | some d :: r, ds, h => by
    unfold allS at h
    cases q : allS r with
    | none => rw [q] at h; cases h
    | some e =>
      rw [q] at h
      cases h
      rw [allS_eq q]
      rfl
  | none :: _, _, h => by cases h
def outM (n : Nat) : O → O
  | .nx r => if (allS (r.take n)).isSome then .rt .non (r.take n) else .stuck
  | .rt d r => if (allS (r.take n)).isSome then .rt d (r.take n) else .stuck
  | .exc x r => if (allS (r.take n)).isSome then .exc x (r.take n) else .stuck
  | .stuck => .stuck
/-- the plain function of a def with n lent things and k further names -/
@[simp] def runM (m : Sl → O) (n k : Nat) : List D → O := fun ds => outM n (m (ds.map some ++ List.replicate k none))
theorem Slots.cut {E : En} {Hs H : Hp} : ∀ {kf kz : List Kd} {df : List D} {rz : Sl} {t : L2.St} {As : List Addr}, df.length = kf.length → Slots E Hs H (kf ++ kz) (df.map some ++ rz) t As → ∃ uf tz Af Ar, t = uf.map some ++ tz ∧ As = Af ++ Ar ∧ RM E.cl E.N E.b Hs H kf df uf Af
  | [], _, [], _, t, As, _, h => ⟨[], t, [], As, rfl, rfl, .nil⟩
  | k :: kf, _, d :: df, _, _, _, l, h => by
    cases h with
    | cons o t =>
      obtain ⟨uf, tz, Af, Ar, e1, e2, m⟩ := Slots.cut (by simpa using l) t
      exact ⟨_ :: uf, tz, _ ++ Af, Ar, by rw [e1]; rfl, by rw [e2, List.append_assoc], .cons o m⟩
  | [], _, _ :: _, _, _, _, l, _ => by cases l
  | _ :: _, _, [], _, _, _, l, _ => by cases l
section
variable {P : Program} {w : World} {K : PySem.W.Frag} {mg : Str → Option Value} {base : Heap} {cl : Cl} {x qual : Str} {st : Stmt} {fa : Addr} {fd : FuncData} {N ps : List Str} {k : Nat} {bs : List Bool} {kr : Kd} {k1 k2 ls : List Kd} {m : Sl → O}
/-- a def to which things are lent -/
theorem def_okM {ks' : List Addr → List Kd} (F : Fun K x qual st fa fd) (S : FnScope N ps (defScope st)) (hb : k1.length + bs.length = ps.length) (hN : N.length = ps.length + ls.length) (fk : kr.fine = true) (l2 : k2.length = k1.length) (f2 : k2.all Kd.fine = true) (m2 : k2.all Kd.mutb = true)
    (hn : kr = .val ∨ kr = .own none) (hk' : ∀ as, as.length = k1.length → (ks' as).take k1.length = pins k2 as)
    (body : ∀ (as : List Addr), as.length = k1.length → ∀ (cdv : Value) (A : Around) (outer : List Env) (s : Shared) (H : Hp) (E : XK) (h0 s0 b0 : Hp), Room k (A.deeper (envOfC qual (defScope st) s.heap.objs.size fa cdv)) →
      SB (cxOf (CXM P w) P w K mg base N qual (defScope st) fa cdv A outer s H E) ⟨cl, h0, s0, b0⟩ kr (fun ks2 => ks2.take k1.length = pins k2 as) (pins k1 as ++ (bs.map kdOf ++ ls)) (defBody st) m (ks' as)) : FnOk P w K mg base (CXM P w) (k + 1) fa fd ps (spM cl k1 k2 bs kr (runM m k1.length ls.length)) := by
  refine fun_okM F S (fun vs H Q E h => ?_) (fun cdv A outer s H vs Q E hr h => ?_)
  · obtain ⟨as, ws, dm, ds, Hs, Af, rfl, l, _, _, _, _, a, _⟩ := h
    rw [List.length_append, List.length_map, a.len.1, l, hb]
  · obtain ⟨as, ws, dm, ds, Hs, Af, rfl, l, e, rm, nd, dz, a, p⟩ := h
    refine ⟨_, pss_ws, ?_⟩
    have tk : Takes (cxOf (CXM P w) P w K mg base N qual (defScope st) fa cdv A outer s H E) (fun c dd _ H' => E c dd H') := takes_of rfl rfl rfl rfl
    have hst : L2.start N (as.map .ref ++ ws) = (as.map V.ref).map some ++ (ws.map some ++ List.replicate ls.length none) := by
      unfold L2.start
      rw [List.map_append, List.append_assoc, List.length_append, List.length_map, a.len.1, l, hN, ← hb, Nat.add_sub_cancel_left]
    have E0s : Same Hs (sans H Af) := sans_sub e dz
    have S0 : StRel ⟨cl, sans H Af, Hs, sans H Af⟩ Hs H (pins k1 as ++ (bs.map kdOf ++ ls)) ((dm ++ ds).map some ++ List.replicate ls.length none) (L2.start N (as.map .ref ++ ws)) := by
      rw [hst, List.map_append, List.append_assoc]
      have s1 : Slots ⟨cl, sans H Af, Hs, sans H Af⟩ Hs (sans H Af) (bs.map kdOf ++ ls) (ds.map some ++ List.replicate ls.length none) (ws.map some ++ List.replicate ls.length none) [] := slots_start rfl a ls
      have s2 := s1.mono (Same.refl Hs) (H' := H) (by intro a ha; cases ha)
      have j := Slots.join (E := ⟨cl, sans H Af, Hs, sans H Af⟩) rm s2
      rw [List.append_nil] at j
      exact ⟨Af, j, nd, fun a ha => ⟨dz a ha, sans_in ha⟩, Same.refl _, e, sans_same, fun a z => .inl z, fun a z => sans_of z, fun P z => tab_of_sans z⟩
    refine (body as l cdv A outer s H E (sans H Af) Hs (sans H Af) hr).run _ _ _ _ _ _ tk S0 ?_
    unfold runM at p
    have lp : (pins k2 as).length = k1.length := by rw [pins_len (by rw [l, l2]), l2]
    have cutR : ∀ (ks2 : List Kd) (r : Sl), ks2.take k1.length = pins k2 as → ∀ dm', allS (r.take k1.length) = some dm' → r.length = ks2.length → ∃ kz rz, ks2 = pins k2 as ++ kz ∧ r = dm'.map some ++ rz ∧ dm'.length = (pins k2 as).length := by
      intro ks2 r q dm' q2 ql
      have e1 := allS_eq q2
      refine ⟨ks2.drop k1.length, r.drop k1.length, by rw [← q, List.take_append_drop], by rw [← e1, List.take_append_drop], ?_⟩
      have := congrArg List.length e1
      rw [List.length_take, List.length_map] at this
      have h2 := congrArg List.length q
      rw [List.length_take] at h2
      omega
    cases q : m ((dm ++ ds).map some ++ List.replicate ls.length none) with
    | stuck => rw [q] at p; exact p.elim
    | nx r =>
      rw [q] at p
      dsimp only [outM] at p
      split at p
      · rename_i hs
        obtain ⟨dm', hd⟩ := Option.isSome_iff_exists.mp hs
        intro Hs' H' σ' S'
        obtain ⟨dq, eq, p⟩ := p
        have eq2 := allS_eq hd
        rw [eq] at eq2
        have edq : dq = dm' := List.map_inj_right (fun _ _ z => Option.some.inj z) |>.mp eq2
        subst edq
        have f := S'.facts
        obtain ⟨As, s'⟩ := S'
        obtain ⟨kz, rz, rfl', rfl2, ld⟩ := cutR _ r (hk' as l) dq hd s'.sl.len.1
        have sl := s'.sl
        rw [rfl', rfl2] at sl
        obtain ⟨uf, tz, Af', Ar, e1, e2, rm'⟩ := Slots.cut ld sl
        have eu := RM.ats m2 (by rw [l, l2]) rm'
        subst eu
        have ndd := s'.nd
        rw [e2] at ndd
        have dis' : ∀ a ∈ Af', Hs' a = none ∧ sans H Af a = none := fun a ha => s'.dis a (by rw [e2]; exact List.mem_append_left _ ha)
        have g : Grow Hs (sans H Af) Hs' H' := ⟨f.1, f.2.1, f.2.2.1, s'.sub, f.2.2.2⟩
        refine p .non Hs' H' [] Af' g ?_ rm' (by simpa using (List.nodup_append.mp ndd).1) (by simpa using dis')
        rcases hn with rfl | rfl
        · exact .val .non
        · exact .ownV rfl .non
      · exact p.elim
    | rt d r =>
      rw [q] at p
      dsimp only [outM] at p
      split at p
      · rename_i hs
        obtain ⟨dm', hd⟩ := Option.isSome_iff_exists.mp hs
        intro Hs' H' σ' v ks2 fz S'
        obtain ⟨dq, eq, p⟩ := p
        have eq2 := allS_eq hd
        rw [eq] at eq2
        have edq : dq = dm' := List.map_inj_right (fun _ _ z => Option.some.inj z) |>.mp eq2
        subst edq
        have f := S'.facts
        obtain ⟨As, s'⟩ := S'
        have sl0 := s'.sl
        have ndd := s'.nd
        have dis := s'.dis
        have sb := s'.sub
        cases sl0 with
        | cons o sl =>
          rename_i A0 As'
          obtain ⟨kz, rz, rfl', rfl2, ld⟩ := cutR _ r fz dq hd sl.len.1
          rw [rfl', rfl2] at sl
          obtain ⟨uf, tz, Af', Ar, e1, e2, rm'⟩ := Slots.cut ld sl
          have eu := RM.ats m2 (by rw [l, l2]) rm'
          subst eu
          rw [e2] at ndd
          have g : Grow Hs (sans H Af) Hs' H' := ⟨f.1, f.2.1, f.2.2.1, sb, f.2.2.2⟩
          refine p v Hs' H' A0 Af' g (ORep.anyB kr _ _ _ fk o) rm' ?_ fun b hb => ?_
          · rw [← List.append_assoc] at ndd
            exact (List.nodup_append.mp ndd).1
          · refine dis b ?_
            rw [e2]
            rcases List.mem_append.mp hb with z | z
            · exact List.mem_append_left _ z
            · exact List.mem_append_right _ (List.mem_append_left _ z)
      · exact p.elim
    | exc z r =>
      rw [q] at p
      dsimp only [outM] at p
      split at p
      · rename_i hs
        obtain ⟨dm', hd⟩ := Option.isSome_iff_exists.mp hs
        intro Hs' H' σ' c dd ks2 fz S' xr
        obtain ⟨dq, eq, p⟩ := p
        have eq2 := allS_eq hd
        rw [eq] at eq2
        have edq : dq = dm' := List.map_inj_right (fun _ _ z => Option.some.inj z) |>.mp eq2
        subst edq
        have f := S'.facts
        obtain ⟨As, s'⟩ := S'
        have sl := s'.sl
        obtain ⟨kz, rz, rfl', rfl2, ld⟩ := cutR _ r fz dq hd sl.len.1
        rw [rfl', rfl2] at sl
        obtain ⟨uf, tz, Af', Ar, e1, e2, rm'⟩ := Slots.cut ld sl
        have eu := RM.ats m2 (by rw [l, l2]) rm'
        subst eu
        have ndd := s'.nd
        rw [e2] at ndd
        have g : Grow Hs (sans H Af) Hs' H' := ⟨f.1, f.2.1, f.2.2.1, s'.sub, f.2.2.2⟩
        exact p c dd Hs' H' Af' g rm' (List.nodup_append.mp ndd).1 (fun b hb => s'.dis b (by rw [e2]; exact List.mem_append_left _ hb)) xr
      · exact p.elim
/-- __init__: nothing is raised, nothing returned; self has no field yet -/
@[simp] def runIni (m : Sl → O) (k : Nat) : List D → O := fun ds => match m (ds.map some ++ List.replicate k none) with
  | .nx r => (match r with
    | some d :: _ => .rt .non [some d]
    | _ => .stuck)
  | _ => .stuck
theorem def_okI {ks' : Addr → List Kd} {kk : List (Str × Kd)} (F : Fun K x qual st fa fd) (S : FnScope N ps (defScope st)) (hb : 1 + bs.length = ps.length) (hN : N.length = ps.length + ls.length) (hk' : ∀ a, (ks' a).head? = some (.obj (some a) kk))
    (body : ∀ (a : Addr) (cdv : Value) (A : Around) (outer : List Env) (s : Shared) (H : Hp) (E : XK) (h0 s0 b0 : Hp), Room k (A.deeper (envOfC qual (defScope st) s.heap.objs.size fa cdv)) →
      SB (cxOf CX0 P w K mg base N qual (defScope st) fa cdv A outer s H E).nox ⟨cl, h0, s0, b0⟩ .val (fun _ => True) (.obj (some a) [] :: (bs.map kdOf ++ ls)) (defBody st) m (ks' a)) : FnOk P w K mg base CX0 (k + 1) fa fd ps (spM cl [.obj none []] [.obj none kk] bs .val (runIni m ls.length)) := by
  refine F.ok S (fun vs H Q E h => ?_) (fun cdv A outer s H vs Q E hr h => ?_)
  · obtain ⟨as, ws, dm, ds, Hs, Af, rfl, l, _, _, _, _, a, _⟩ := h
    rw [List.length_append, List.length_map, a.len.1, l, ← hb]
    rfl
  · obtain ⟨as, ws, dm, ds, Hs, Af, rfl, l, e, rm, nd, dz, a, p⟩ := h
    obtain ⟨a0, rfl⟩ : ∃ a0, as = [a0] := by
      match as, l with
      | [a0], _ => exact ⟨a0, rfl⟩
    obtain ⟨d0, rfl⟩ : ∃ d0, dm = [d0] := by
      have := rm.len.1
      match dm, this with
      | [d0], _ => exact ⟨d0, rfl⟩
    refine ⟨_, pss_ws, ?_⟩
    have hst : L2.start N ([a0].map .ref ++ ws) = ([a0].map V.ref).map some ++ (ws.map some ++ List.replicate ls.length none) := by
      unfold L2.start
      rw [List.map_append, List.append_assoc, List.length_append, List.length_map, a.len.1, hN, ← hb]
      simp
    have S0 : StRel ⟨cl, sans H Af, Hs, sans H Af⟩ Hs H (.obj (some a0) [] :: (bs.map kdOf ++ ls)) (([d0] ++ ds).map some ++ List.replicate ls.length none) (L2.start N ([a0].map .ref ++ ws)) := by
      rw [hst, List.map_append, List.append_assoc]
      have s1 : Slots ⟨cl, sans H Af, Hs, sans H Af⟩ Hs (sans H Af) (bs.map kdOf ++ ls) (ds.map some ++ List.replicate ls.length none) (ws.map some ++ List.replicate ls.length none) [] := slots_start rfl a ls
      have s2 := s1.mono (Same.refl Hs) (H' := H) (by intro a ha; cases ha)
      have j := Slots.join (E := ⟨cl, sans H Af, Hs, sans H Af⟩) rm s2
      rw [List.append_nil] at j
      exact ⟨Af, j, nd, fun a ha => ⟨dz a ha, sans_in ha⟩, Same.refl _, e, sans_same, fun a z => .inl z, fun a z => sans_of z, fun P z => tab_of_sans z⟩
    refine (body a0 cdv A outer s H E (sans H Af) Hs (sans H Af) hr).run _ _ _ _ (fun _ _ _ _ => False) _ takesF S0 ?_
    unfold runIni at p
    cases q : m (([d0] ++ ds).map some ++ List.replicate ls.length none) with
    | stuck => rw [q] at p; exact p.elim
    | rt d r => rw [q] at p; exact p.elim
    | exc x r => rw [q] at p; exact p.elim
    | nx r =>
      rw [q] at p
      dsimp only at p
      split at p
      · rename_i d r'
        intro Hs' H' σ' S'
        obtain ⟨dq, eq, p⟩ := p
        have edq : dq = [d] := List.map_inj_right (fun _ _ z => Option.some.inj z) |>.mp (eq.symm.trans (show [some d] = [d].map some from rfl))
        subst edq
        have f := S'.facts
        obtain ⟨As, s'⟩ := S'
        have sl := s'.sl
        have hh := hk' a0
        obtain ⟨kz, ek⟩ : ∃ kz, ks' a0 = .obj (some a0) kk :: kz := by
          cases q2 : ks' a0 with
          | nil => rw [q2] at hh; cases hh
          | cons y ys =>
            rw [q2] at hh
            have hh' : some y = some _ := hh
            cases hh'
            exact ⟨ys, rfl⟩
        rw [ek] at sl
        cases sl with
        | cons o t =>
          rename_i v0 Af' t0 Ar
          have ev : v0 = .ref a0 := o.atO
          subst ev
          have ndd := s'.nd
          have dis := s'.dis
          have g : Grow Hs (sans H Af) Hs' H' := ⟨f.1, f.2.1, f.2.2.1, s'.sub, f.2.2.2⟩
          refine p .non Hs' H' [] (Af' ++ []) g (.val .non) (.cons o .nil) (by simpa using (List.nodup_append.mp ndd).1) fun b hb => dis b (List.mem_append_left _ (by simpa using hb))
      · exact p.elim
end
end VL
end

noncomputable section
namespace VL
open PySem PySem.Spec PyProof.Rows L2
variable {md : Md}

section
variable {E : En} {Hs H Hs' H' : Hp} {ks : List Kd} {r : Sl} {σ : L2.St} {i : Nat} {k ka kb : Kd} {d da db : D} {va vb : V}
theorem StRel.swap (S : StRel E Hs H (ka :: kb :: ks) (some da :: some db :: r) (some va :: some vb :: σ)) : StRel E Hs H (kb :: ka :: ks) (some db :: some da :: r) (some vb :: some va :: σ) := by
  obtain ⟨As, S⟩ := S
  have sl := S.sl
  cases sl with
  | cons o t =>
    cases t with
    | cons o2 t2 =>
      rename_i A A2 Ar
      have p : (A2 ++ (A ++ Ar)).Perm (A ++ (A2 ++ Ar)) := by
        rw [← List.append_assoc, ← List.append_assoc]
        exact List.Perm.append_right _ List.perm_append_comm
      exact ⟨_, .cons o2 (.cons o t2), p.nodup_iff.mpr S.nd, fun a ha => S.dis a (p.mem_iff.mp ha), S.es, S.sub, S.eb, S.new, S.dom, S.tb⟩
/-- slot i's value is lent; it comes back, with a result or without -/
theorem StRel.chgV (S : StRel E Hs H ks r σ) (hk : ks[i]? = some k) (hd : r[i]? = some (some d)) (fk : k.fine = true) :
    ∃ v Af, σ[i]? = some (some v) ∧ ORep E.cl (fun a => sans H Af a = none) (sans H Af) Hs H k d v Af ∧ Af.Nodup ∧ (∀ a ∈ Af, Hs a = none) ∧
      ∀ (Hs' H' : Hp) (k2 : Kd) (d2 : D) (A2 : List Addr), k2.fine = true → Grow Hs (sans H Af) Hs' H' → ORep E.cl (fun a => sans H Af a = none) (sans H Af) Hs' H' k2 d2 v A2 → A2.Nodup → (∀ a ∈ A2, Hs' a = none ∧ sans H Af a = none) →
        StRel E Hs' H' (ks.set i k2) (r.set i (some d2)) σ ∧
        ∀ (k0 : Kd) (d0 : D) (v0 : V) (A0 : List Addr), k0.fine = true → ORep E.cl (fun a => sans H Af a = none) (sans H Af) Hs' H' k0 d0 v0 A0 → (A0 ++ A2).Nodup → (∀ a ∈ A0, Hs' a = none ∧ sans H Af a = none) →
          StRel E Hs' H' (k0 :: ks.set i k2) (some d0 :: r.set i (some d2)) (some v0 :: σ) := by
  obtain ⟨v, ev, S1⟩ := S.take hk hd
  obtain ⟨Af, m, nd, dz, back⟩ := StRel.lend (kf := [k]) (df := [d]) (uf := [v]) (r := r.set i none) S1 rfl rfl (by simp [fk])
  refine ⟨v, Af, ev, ?_, nd, dz, fun Hs' H' k2 d2 A2 fk2 g o nd2 di2 => ?_⟩
  · cases m with
    | cons o t =>
      cases t
      rw [List.append_nil]
      rw [List.append_nil] at o
      exact o
  · have w := back Hs' H' [k2] [d2] [v] A2 (by simp [fk2]) g (by
      have w := RM.cons o (.nil (cl := E.cl) (N := fun a => sans H Af a = none) (B := sans H Af) (Hs := Hs') (H := H'))
      rw [List.append_nil] at w
      exact w) nd2 di2
    refine ⟨?_, fun k0 d0 v0 A0 f0 o0 nd0 di0 => ?_⟩
    · have q := StRel.settle (ks := ks) (r := r.set i none) (σ := σ) w.1 hk
      rw [List.set_set] at q
      rw [set_self ev] at q
      exact q
    · have z := StRel.swap (w.2 k0 d0 v0 A0 f0 o0 nd0 di0)
      have q := StRel.settle (ks := k0 :: ks) (r := some d0 :: r.set i none) (σ := some v0 :: σ) (i := i + 1) z (by simpa using hk)
      rw [List.set_cons_succ, List.set_cons_succ, List.set_cons_succ, List.set_set, set_self ev] at q
      exact q
end
theorem RAs.ofReps {cl : Cl} {Hs H : Hp} : ∀ {n : Nat} {ds : List D} {vs : List V}, RepL cl Hs ds vs → ds.length = n → RAs cl Hs H (List.replicate n true) ds vs
  | 0, [], _, r, _ => by cases r; exact .nil
  | n + 1, d :: ds, _, r, h => by
    cases r with
    | cons r1 r2 =>
      rw [List.replicate_succ]
      exact .val r1 (RAs.ofReps r2 (by simpa using h))
  | 0, _ :: _, _, _, h => by cases h
  | _ + 1, [], _, _, h => by cases h

def PostX (E : En) (ks' : List Kd) (k : Kd) (fin : List Kd → Prop) (W : WX) (σ : L2.St) (Q : VK) : O → Prop
  | .rt d r => ∀ v Hs' H', StRel E Hs' H' (k :: ks') (some d :: r) (some v :: σ) → Q v H'
  | .exc x r => ∀ Hs' H' c dd ks2, fin ks2 → StRel E Hs' H' ks2 r σ → XRep E.cl Hs' H' x c dd → W c dd σ H'
  | _ => False
/-- an expression that changes slots -/
structure SX [md : Md] (X : Cx) (E : En) (fin : List Kd → Prop) (ks : List Kd) (k : Kd) (e : Expr) (g : Sl → O) (ks' : List Kd) : Prop where
  run : ∀ (Hs H : Hp) (r : Sl) (σ : L2.St) (W : WX) (Q : VK), Takes X W → StRel E Hs H ks r σ → PostX E ks' k fin W σ Q (g r) → WEx X e σ H Q
@[simp] def onX (o : O) (k : D → Sl → O) : O := match o with
  | .rt d r => k d r
  | .exc x r => .exc x r
  | _ => .stuck
@[simp] def mExprX (g : Sl → O) : Sl → O := fun r => onX (g r) fun _ r' => .nx r'
section
variable {X : Cx} {E : En} {fin : List Kd → Prop} {kr : Kd} {ks ks' : List Kd} {i : Nat} {k k0 : Kd} {x : Str} {e : Expr} {g : Sl → O} {pos pos' : Pos}
theorem ss_exprX (he : SX X E fin ks k e g ks') (hs : swapsWith e none pos.line X.env = pure false := by rfl) : SS X E kr fin ks (.Expr e pos) (mExprX g) ks' := by
  refine ⟨fun Hs H r σ W Dn tk S P => ?_⟩
  refine ws_of (ps_expr pe_we hs) ?_
  refine he.run _ _ _ _ _ _ tk S ?_
  unfold mExprX at P
  cases q : g r with
  | rt d r' => rw [q] at P; exact fun v Hs' H' S' => P Hs' H' σ S'.pop
  | exc y r' => rw [q] at P; exact fun Hs' H' c dd ks2 f S' xr => P Hs' H' σ c dd ks2 f S' xr
  | nx r' => rw [q] at P; exact P.elim
  | stuck => rw [q] at P; exact P.elim
end
section
variable {X : Cx} {CX : CXT} {k : Nat} {f C : Addr} {fd : FuncData} {ps : List Str} {sp : Sp} {E : L2.St → XK} {x m : Str} {p pos apos : Pos} {e o : Expr} {es : List Expr} {ta : TE} {t : TA}
def tMethS (C : Addr) (m : Str) (sp : Sp) (E : L2.St → XK) (ta : TE) (t : TA) : TE := fun σ H Q => ta σ H fun x H1 => ∃ a dx fs, x = .ref a ∧ H1 a = some (.ins C dx fs) ∧ fs.lookup m = none ∧ t σ H1 fun vs H2 => sp (x :: vs) H2 Q (E σ)
theorem pe_mS {pl : Sem Bool} (he : PE X o ta) (c : Cls X.K C) (hm : Meth X.K C m f) (F : FnOk X.prog X.w X.K X.mg X.base CX k f fd ps sp) (hr : Room k X.A) (hb : Binds X.K fd ps []) (hx : ∀ σ, PassesAt CX X σ (E σ)) (ha : PA X (e :: es) t)
    (hst : starEach (e :: es) X.env = (false, eval e X.env) :: starEach es X.env := by rfl) (hpl : (backTo pos (starEach es X.env)).any (·.1) = false := by rfl)
    (ht : eval (.Call (.Attribute o m apos) (e :: es) [] pos) X.env = (do
      let ov ← eval o X.env
      standAt apos.atName
      let (f, first) ← holding [ov] (getMethod ov m pl)
      callWith pos f first (backTo pos (starEach (e :: es) X.env)) (backToKw pos (keywordEach [] X.env))) := by rfl) :
    PE X (.Call (.Attribute o m apos) (e :: es) [] pos) (tMethS C m sp E ta t) := by
  refine ⟨fun pins s σ H Q I h => ?_⟩
  refine PySem.W.methodCall_KW (pl := pl) (thn (he.run pins s σ H _ I h) fun u s1 ⟨x, H1, I1, rx, a, dx, fs, ex, ea, l, q⟩ => ?_) ht
  subst ex
  obtain rfl : u = Value.ref a := rx
  refine getmeth_ok I1 ea c hm l ?_
  refine PySem.W.callWith_K (first := [.ref a]) (h₀ := X.base) I.ok.mod.kin hm.kp (thn (ha.run pos pins s1 σ H1 _ I1 q) fun us s2 ⟨vs, H2, I2, r, q2⟩ => ⟨I2.kIn, ?_⟩) hst hpl
  exact run_fnS (us := .ref a :: us) (vs := .ref a :: vs) F hr hb (hx σ) I2 (.cons rfl r) q2
theorem pe_mS0 {pl : Sem Bool} (he : PE X o ta) (c : Cls X.K C) (hm : Meth X.K C m f) (F : FnOk X.prog X.w X.K X.mg X.base CX k f fd ps sp) (hr : Room k X.A) (hb : Binds X.K fd ps []) (hx : ∀ σ, PassesAt CX X σ (E σ))
    (ht : eval (.Call (.Attribute o m apos) [] [] pos) X.env = (do
      let ov ← eval o X.env
      standAt apos.atName
      let (f, first) ← holding [ov] (getMethod ov m pl)
      callWith pos f first (backTo pos (starEach [] X.env)) (backToKw pos (keywordEach [] X.env))) := by rfl) :
    PE X (.Call (.Attribute o m apos) [] [] pos) (tMethS C m sp E ta fun σ H Q => Q [] H) := by
  refine ⟨fun pins s σ H Q I h => ?_⟩
  refine PySem.W.methodCall_KW (pl := pl) (thn (he.run pins s σ H _ I h) fun u s1 ⟨x, H1, I1, rx, a, dx, fs, ex, ea, l, q⟩ => ?_) ht
  subst ex
  obtain rfl : u = Value.ref a := rx
  refine getmeth_ok I1 ea c hm l ?_
  exact PySem.W.callWith_K0 (first := [.ref a]) I1.kIn hm.kp (run_fnS (us := [.ref a]) (vs := [.ref a]) F hr hb (hx σ) I1 (.cons rfl .nil) q)
end
structure FiM [md : Md] (P : Program) (w : World) (K : PySem.W.Frag) (mg : Str → Option Value) (base : Heap) (cl : Cl) (C m : Str) (k : Nat) (k1 k2 : List (Str × Kd)) (nb : Nat) (kr : Kd) (f : List D → O) : Prop where
  ex : ∃ fa fd ps, (∀ c, cl.o C = some c → Cls K c ∧ Meth K c m fa) ∧ FnOk P w K mg base (CXM P w) k fa fd ps (spM cl [.obj none k1] [.obj none k2] (List.replicate nb true) kr f) ∧ Binds K fd ps []
@[simp] def mMeth (C : Str) (i : Nat) (f : List D → O) (t : Sl → R (List D)) : Sl → O := fun r => match r[i]? with
  | some (some (.obj C' fs)) => if C' = C then (match t r with
    | .ok ds => (match f (.obj C fs :: ds) with
      | .rt d [some d'] => .rt d (r.set i (some d'))
      | .exc x [some d'] => .exc x (r.set i (some d'))
      | _ => .stuck)
    | .exc x => .exc x r
    | .stuck => .stuck) else .stuck
  | _ => .stuck
section
variable {X : Cx} {E : En} {fin : List Kd → Prop} {kr : Kd} {ks ks' : List Kd} {i : Nat} {n : Option Addr} {k : Nat} {k1 k2 : List (Str × Kd)} {nb : Nat} {x C m : Str} {e : Expr} {es : List Expr} {f : List D → O} {t : Sl → R (List D)} {p1 apos pos : Pos}
/-- behind the arguments: the method's promise -/
theorem meth_call {Hs H : Hp} {r : Sl} {σ : L2.St} {W : WX} {Q : VK} {fs : List (Str × D)} {ds : List D} {vs : List V} (S : StRel E Hs H ks r σ) (hk : ks[i]? = some (.obj n k1)) (hd : r[i]? = some (some (.obj C fs))) (f1 : (Kd.obj n k1).fine = true) (f2 : (Kd.obj n k2).fine = true) (fr : kr.fine = true) (hf : fin (ks.set i (.obj n k2)))
    (a : RAs E.cl Hs H (List.replicate nb true) ds vs) {a0 : Addr} (ea : σ[i]? = some (some (.ref a0)))
    (P : PostX E (ks.set i (.obj n k2)) kr fin W σ Q (match f (.obj C fs :: ds) with
      | .rt d [some d'] => .rt d (r.set i (some d'))
      | .exc x [some d'] => .exc x (r.set i (some d'))
      | _ => .stuck)) : spM E.cl [.obj none k1] [.obj none k2] (List.replicate nb true) kr f (.ref a0 :: vs) H Q (WE W σ) := by
  obtain ⟨v, Af, ev, o, nd, dz, back⟩ := S.chgV hk hd f1
  rw [ea] at ev
  cases ev
  obtain ⟨b, eb, op, hn⟩ := o.pinO
  cases eb
  refine ⟨[a0], vs, [.obj C fs], ds, Hs, Af, rfl, rfl, S.sub, ?_, nd, dz, RAs.ofReps a.reps (by simpa using a.len.2), ?_⟩
  · have z := RM.cons op (.nil (cl := E.cl) (N := fun b => sans H Af b = none) (B := sans H Af) (Hs := Hs) (H := H))
    rw [List.append_nil] at z
    exact z
  · show PostM E.cl _ kr [a0] Hs H Af Q (WE W σ) (f (.obj C fs :: ds))
    cases q : f (.obj C fs :: ds) with
    | stuck => rw [q] at P; exact P.elim
    | nx r' => rw [q] at P; exact P.elim
    | rt d es =>
      rw [q] at P
      match es, P with
      | [some d'], P =>
        refine ⟨[d'], rfl, fun v Hs' H' A0 A2 g o0 rm nd2 di2 => ?_⟩
        cases rm with
        | cons o2 t2 =>
          cases t2
          rw [List.append_nil] at nd2 di2
          have ou := o2.unpinO (n := n) hn
          exact P v Hs' H' ((back Hs' H' (.obj n k2) d' _ f2 g ou (List.nodup_append.mp nd2).2.1 fun b hb => di2 b (List.mem_append_right _ hb)).2 kr d v A0 fr o0 nd2 fun b hb => di2 b (List.mem_append_left _ hb))
      | [], P => exact P.elim
      | [none], P => exact P.elim
      | none :: _ :: _, P => exact P.elim
      | some _ :: _ :: _, P => exact P.elim
    | exc y es =>
      rw [q] at P
      match es, P with
      | [some d'], P =>
        refine ⟨[d'], rfl, fun c dd Hs' H' A2 g rm nd2 di2 xr => ?_⟩
        cases rm with
        | cons o2 t2 =>
          cases t2
          rw [List.append_nil] at nd2 di2
          have ou := o2.unpinO (n := n) hn
          exact P Hs' H' c dd _ hf (back Hs' H' (.obj n k2) d' _ f2 g ou nd2 di2).1 xr
      | [], P => exact P.elim
      | [none], P => exact P.elim
      | none :: _ :: _, P => exact P.elim
      | some _ :: _ :: _, P => exact P.elim
/-- x.m(e, ..) -/
theorem sx_meth (F : FiM X.prog X.w X.K X.mg X.base E.cl C m k k1 k2 nb kr f) (hr : Room k X.A) (ha : SA X E ks (List.replicate nb true) (e :: es) t) (hq : NmOk x) (hno : m ∉ k1.map (·.1)) (hf0 : fin ks := by trivial) (hk : ks[i]? = some (.obj n k1) := by rfl)
    (h2 : ks.set i (.obj n k2) = ks' := by rfl) (hf : fin ks' := by trivial) (f1 : (Kd.obj n k1).fine = true := by rfl) (f2 : (Kd.obj n k2).fine = true := by rfl) (fr : kr.fine = true := by rfl) (hN : X.N[i]? = some x := by rfl) (hv : Vis X.env.scope x := by first | exact Or.inl rfl | exact Or.inr (Or.inl rfl) | exact Or.inr (Or.inr rfl)) {pl : Sem Bool}
    (hst : starEach (e :: es) X.env = (false, eval e X.env) :: starEach es X.env := by rfl) (hpl : (backTo pos (starEach es X.env)).any (·.1) = false := by rfl)
    (ht : eval (.Call (.Attribute (.Name x p1) m apos) (e :: es) [] pos) X.env = (do
      let ov ← eval (.Name x p1) X.env
      standAt apos.atName
      let (f, first) ← holding [ov] (getMethod ov m pl)
      callWith pos f first (backTo pos (starEach (e :: es) X.env)) (backToKw pos (keywordEach [] X.env))) := by rfl) :
    SX X E fin ks kr (.Call (.Attribute (.Name x p1) m apos) (e :: es) [] pos) (mMeth C i f t) ks' := by
  subst h2
  refine ⟨fun Hs H r σ W Q tk S P => ?_⟩
  obtain ⟨fa, fd, ps, F1, F2, F3⟩ := F.ex
  unfold mMeth at P
  split at P
  · rename_i C' fs hd
    split at P
    · rename_i hc
      subst hc
      obtain ⟨a, c, dx, xs, As, ea, hc, h1, h3⟩ := S.objAt hk hd
      obtain ⟨M1, M2⟩ := F1 c hc
      refine we_of (pe_mS (pe_var hN hv hq.1 hq.2) M1 M2 F2 hr F3 (fun σ => passAt tk σ) pa_wa hst hpl ht) ?_
      refine ⟨.ref a, ea, a, dx, xs, rfl, h1, lookup_out (by rw [h3.names.1]; exact hno), ?_⟩
      refine ha.run _ _ _ _ _ _ tk S ?_
      cases q : t r with
      | stuck => rw [q] at P; exact P.elim
      | exc y => rw [q] at P; exact fun c dd Hs' H' g xr => P Hs' H' c dd ks hf0 (S.grow g) xr
      | ok ds =>
        rw [q] at P
        exact fun vs Hs' H' g aa => meth_call (S.grow g) hk hd f1 f2 fr hf aa ea P
    · exact P.elim
  · exact P.elim
/-- x.m() -/
theorem sx_meth0 (F : FiM X.prog X.w X.K X.mg X.base E.cl C m k k1 k2 0 kr f) (hr : Room k X.A) (hq : NmOk x) (hno : m ∉ k1.map (·.1)) (hk : ks[i]? = some (.obj n k1) := by rfl)
    (h2 : ks.set i (.obj n k2) = ks' := by rfl) (hf : fin ks' := by trivial) (f1 : (Kd.obj n k1).fine = true := by rfl) (f2 : (Kd.obj n k2).fine = true := by rfl) (fr : kr.fine = true := by rfl) (hN : X.N[i]? = some x := by rfl) (hv : Vis X.env.scope x := by first | exact Or.inl rfl | exact Or.inr (Or.inl rfl) | exact Or.inr (Or.inr rfl)) {pl : Sem Bool}
    (ht : eval (.Call (.Attribute (.Name x p1) m apos) [] [] pos) X.env = (do
      let ov ← eval (.Name x p1) X.env
      standAt apos.atName
      let (f, first) ← holding [ov] (getMethod ov m pl)
      callWith pos f first (backTo pos (starEach [] X.env)) (backToKw pos (keywordEach [] X.env))) := by rfl) :
    SX X E fin ks kr (.Call (.Attribute (.Name x p1) m apos) [] [] pos) (mMeth C i f gNil) ks' := by
  subst h2
  refine ⟨fun Hs H r σ W Q tk S P => ?_⟩
  obtain ⟨fa, fd, ps, F1, F2, F3⟩ := F.ex
  unfold mMeth at P
  split at P
  · rename_i C' fs hd
    split at P
    · rename_i hc
      subst hc
      obtain ⟨a, c, dx, xs, As, ea, hc, h1, h3⟩ := S.objAt hk hd
      obtain ⟨M1, M2⟩ := F1 c hc
      refine we_of (pe_mS0 (pe_var hN hv hq.1 hq.2) M1 M2 F2 hr F3 (fun σ => passAt tk σ) ht) ?_
      refine ⟨.ref a, ea, a, dx, xs, rfl, h1, lookup_out (by rw [h3.names.1]; exact hno), ?_⟩
      exact meth_call S hk hd f1 f2 fr hf .nil ea P
    · exact P.elim
  · exact P.elim
end
structure MkM (P : Program) (w : World) (K : PySem.W.Frag) (mg : Str → Option Value) (base : Heap) (cl : Cl) (C : Str) (k : Nat) (kk : List (Str × Kd)) (nb : Nat) (f : List D → O) : Prop where
  ex : ∃ c fI fd ps, cl.o C = some c ∧ mg C = some (.ref c) ∧ Mk K c fI ∧ FnOk P w K mg base CX0 k fI fd ps (spM cl [.obj none []] [.obj none kk] (List.replicate nb true) .val f) ∧ Binds K fd ps []
@[simp] def dMake (C : Str) (f : List D → O) (ds : List D) : R D := match f (.obj C [] :: ds) with
  | .rt .non [some d] => .ok d
  | _ => .stuck
section
variable {X : Cx} {E : En} {ks : List Kd} {k nb : Nat} {kk : List (Str × Kd)} {C : Str} {f : List D → O} {t : Sl → R (List D)} {e : Expr} {es : List Expr} {p pos : Pos}
theorem made {Hs H : Hp} {Q : VK} {W : WX0} {ds : List D} {vs : List V} {c x dx : Addr} (e : Same Hs H) (hc : E.cl.o C = some c) (fk : (Kd.obj none kk).fine = true) (a : RAs E.cl Hs H (List.replicate nb true) ds vs) (nx : H x = none) (ndx : H dx = none) (ne : dx ≠ x)
    (P : Post E.cl (.obj none kk) Hs H Q W (dMake C f ds)) : spM E.cl [.obj none []] [.obj none kk] (List.replicate nb true) .val f (.ref x :: vs) (upd (upd H dx (.own x)) x (.ins c dx [])) (fun v H2 => v = .non ∧ Q (.ref x) H2) E0 := by
  have s1 : Same H (upd H dx (.own x)) := Same.updNew ndx
  have nx' : upd H dx (.own x) x = none := by rw [upd_ne ne.symm]; exact nx
  have s2 : Same H (upd (upd H dx (.own x)) x (.ins c dx [])) := s1.trans (Same.updNew nx')
  have dz : ∀ b ∈ [x], Hs b = none := fun b hb => by
    simp at hb
    subst hb
    exact e.free nx
  have back : ∀ b, sans (upd (upd H dx (.own x)) x (.ins c dx [])) [x] b = none → H b = none := fun b z => by
    rcases sans_none z with w | w
    · simp at w
      subst w
      exact nx
    · exact s2.free w
  refine ⟨[x], vs, [.obj C []], ds, Hs, [x], rfl, rfl, e.trans s2, ?_, by simp, dz, RAs.ofReps a.reps (by simpa using a.len.2), ?_⟩
  · have o : ORep E.cl (fun b => sans (upd (upd H dx (.own x)) x (.ins c dx [])) [x] b = none) (sans (upd (upd H dx (.own x)) x (.ins c dx [])) [x]) Hs (upd (upd H dx (.own x)) x (.ins c dx [])) (.obj (some x) []) (.obj C []) (.ref x) [x] :=
      .obj ⟨sans_in (by simp), fun b z => (Option.some.inj z).symm⟩ hc upd_same .nil
    exact .cons o .nil
  · show PostM E.cl _ .val [x] Hs _ [x] _ E0 (f (.obj C [] :: ds))
    unfold dMake at P
    cases q : f (.obj C [] :: ds) with
    | stuck => rw [q] at P; exact P.elim
    | nx r' => rw [q] at P; exact P.elim
    | exc y es => rw [q] at P; exact P.elim
    | rt d es =>
      rw [q] at P
      split at P
      · rename_i d1 e1
        cases e1
        refine ⟨[d1], rfl, fun v Hs' H' A0 A2 g o0 rm nd2 di2 => ?_⟩
        have ev : v = .non := by
          cases o0 with
          | val r => cases r; rfl
        refine ⟨ev, ?_⟩
        cases rm with
        | cons o2 t2 =>
          cases t2
          rw [List.append_nil] at nd2 di2
          have nd3 := (List.nodup_append.mp nd2).2.1
          refine P (.ref x) Hs' H' ⟨g.s, ?_, fun b z => ?_, g.sub, fun R z => ?_⟩ ⟨_, ORep.renew _ _ _ _ fk (fun b hb => back b (di2 b (List.mem_append_right _ hb)).2) (o2.unpinO (fun b z => nomatch z)), nd3, fun b hb => ?_⟩
          · exact ((sans_sub (A := [x]) s2 fun b hb => by simp at hb; subst hb; exact nx)).trans g.h
          · rcases g.n b z with w | w
            · exact .inl w
            · exact .inr (back b w)
          · refine g.t R (z.ext fun b u q => ?_)
            have hb1 : b ≠ x := ne_of_none q nx
            have hb2 : b ≠ dx := ne_of_none q ndx
            rw [sans_out fun w => by simp at w; exact hb1 w, upd_ne hb1, upd_ne hb2]
            exact q
          · have z := di2 b (List.mem_append_right _ hb)
            exact ⟨z.1, back b z.2⟩
      · exact P.elim
/-- C(e, ..) -/
theorem se_make (M : MkM X.prog X.w X.K X.mg X.base E.cl C k kk nb f) (hr : Room (k + 1) X.A) (ha : SA X E ks (List.replicate nb true) (e :: es) t) (hq : NmOk C) (fk : (Kd.obj none kk).fine = true := by rfl) (hg : Gl X C := by rfl)
    (he : starEach (e :: es) X.env = (false, eval e X.env) :: starEach es X.env := by rfl) (hpl : (backTo pos (starEach es X.env)).any (·.1) = false := by rfl) : SE X E ks (.obj none kk) (.Call (.Name C p) (e :: es) [] pos) (gCall (dMake C f) t) := by
  refine ⟨fun Hs H r σ W Q tk S P => ?_⟩
  obtain ⟨c, fI, fd, ps, h1, h2, h3, h4, h5⟩ := M.ex
  refine we_of (pe_make h3 h4 hr hg h2 h5 .nil pass0 pa_wa hq.1 he hpl) ?_
  refine ha.run _ _ _ _ _ _ tk S (PostA.of P fun ds vs Hs' H' e1 g1 a P1 => ?_)
  intro x dx nx ndx ne
  rw [List.append_nil]
  exact made g1.sub h1 fk a nx ndx ne P1
/-- e.f of an object that nobody else holds -/
theorem se_attrT {j : Nat} {kf : Kd} {F : Str} {g : Sl → R D} (T : FldOk X.K E.cl C F) (he : SE X E ks (.obj none kk) e g) (hj : kk[j]? = some (F, kf) := by rfl) (hnd : (kk.map (·.1)).Nodup) (hb : attributeBase e F X.env (eval e X.env) = eval e X.env := by rfl) :
    SE X E ks kf (.Attribute e F pos) (gUn (oFld C j) g) := by
  refine ⟨fun Hs H r σ W Q tk S P => ?_⟩
  refine we_of (pe_fld pe_we hb) ?_
  refine he.run _ _ _ _ _ _ tk S ?_
  unfold gUn at P
  cases q : g r with
  | stuck => rw [q] at P; exact P
  | exc y => rw [q] at P; exact P
  | ok d =>
  rw [q] at P
  have P1 : Post E.cl kf Hs H Q (fun c dd H' => W c dd σ H') (oFld C j d) := P
  intro v Hs1 H1 g1 k1
  obtain ⟨A, o, nd, dz⟩ := k1
  cases o with
  | obj h0 h1 h2 h3 =>
    rename_i a c dx C' ds xs As
    obtain ⟨pre, A, post, d1, v1, e4, e5, e6, e7, _⟩ := OFs.pos j h3 hj
    dsimp only [oFld] at P1
    split at P1
    · rename_i hc
      subst hc
      rw [e5] at P1
      refine ⟨a, c, dx, xs, v1, rfl, h2, (T c h1).1, (T c h1).2, lookup_at (by rw [h3.names.1]; exact hnd) e6, P1 v1 Hs1 H1 g1 ?_⟩
      subst e4
      have nd2 := (List.nodup_append.mp (List.nodup_append.mp (List.nodup_cons.mp nd).2).2.1).1
      have dz2 : ∀ b ∈ A, Hs1 b = none ∧ H b = none := fun b hb => dz b (List.mem_cons_of_mem _ (List.mem_append_right _ (List.mem_append_left _ hb)))
      exact ⟨A, e7, nd2, fun b hb => dz2 b hb⟩
    · exact P1.elim
end
end VL
end

noncomputable section
namespace VL
open PySem PySem.Spec PyProof.Rows L2
variable {md : Md}

@[simp] def outFO : O → R D
  | .rt d _ => .ok d
  | .exc x _ => .exc x
  | _ => .stuck
@[simp] def runFO (m : Sl → O) (n : Nat) : List D → R D := fun ds => outFO (m (ds.map some ++ List.replicate n none))
/-- a def that returns an object -/
theorem def_okO {P : Program} {w : World} {K : PySem.W.Frag} {mg : Str → Option Value} {base : Heap} {cl : Cl} {x qual : Str} {st : Stmt} {fa : Addr} {fd : FuncData} {N ps : List Str} {k : Nat} {bs : List Bool} {kr : Kd} {ls ks' : List Kd} {m : Sl → O}
    (F : Fun K x qual st fa fd) (S : FnScope N ps (defScope st)) (gm : mg x = some (.ref fa)) (bn : Binds K fd ps []) (hb : bs.length = ps.length) (hN : N.length = ps.length + ls.length) (fk : kr.fine = true)
    (body : ∀ (cdv : Value) (A : Around) (outer : List Env) (s : Shared) (H : Hp) (E : XK) (h0 s0 b0 : Hp), Room k (A.deeper (envOfC qual (defScope st) s.heap.objs.size fa cdv)) →
      SB (cxOf (CXM P w) P w K mg base N qual (defScope st) fa cdv A outer s H E) ⟨cl, h0, s0, b0⟩ kr (fun _ => True) (bs.map kdOf ++ ls) (defBody st) m ks') : Fi P w K mg base cl x (k + 1) bs kr (runFO m ls.length) := by
  refine ⟨fa, fd, ps, ?_, gm, F.kp, bn⟩
  refine fun_okM F S (fun vs H Q E h => ?_) (fun cdv A outer s H vs Q E hr h => ?_)
  · obtain ⟨ds, Hs, _, a, _⟩ := h
    rw [a.len.1, hb]
  · obtain ⟨ds, Hs, e, a, p⟩ := h
    refine ⟨_, pss_ws, ?_⟩
    have tk : Takes (cxOf (CXM P w) P w K mg base N qual (defScope st) fa cdv A outer s H E) (fun c dd _ H' => E c dd H') := takes_of rfl rfl rfl rfl
    have hst : L2.start N vs = vs.map some ++ List.replicate ls.length none := by
      unfold L2.start
      rw [a.len.1, hb, hN, Nat.add_sub_cancel_left]
    have S0 : StRel ⟨cl, H, Hs, H⟩ Hs H (bs.map kdOf ++ ls) (ds.map some ++ List.replicate ls.length none) (L2.start N vs) := by
      rw [hst]
      exact ⟨[], slots_start rfl a ls, List.nodup_nil, (fun a ha => nomatch ha), Same.refl _, e, Same.refl _, fun a z => .inl z, fun a z => z, fun _ z => z⟩
    refine (body cdv A outer s H E H Hs H hr).run _ _ _ _ _ _ tk S0 ?_
    unfold runFO at p
    cases q : m (ds.map some ++ List.replicate ls.length none) with
    | stuck => rw [q] at p; exact p
    | nx r => rw [q] at p; exact p.elim
    | rt d r =>
      rw [q] at p
      intro Hs' H' σ' v ks2 _ S'
      have f := S'.facts
      refine p v Hs' H' ⟨f.1, f.2.1, f.2.2.1, S'.sub, f.2.2.2⟩ ?_
      obtain ⟨As, s'⟩ := S'
      have sl := s'.sl
      cases sl with
      | cons o t =>
        rename_i A As'
        refine ⟨A, ORep.anyB kr _ _ _ fk o, (List.nodup_append.mp s'.nd).1, fun a ha => ?_⟩
        have z := s'.dis a (List.mem_append_left _ ha)
        exact ⟨z.1, z.2⟩
    | exc z r =>
      rw [q] at p
      intro Hs' H' σ' c dd ks2 _ S' xr
      have f := S'.facts
      exact p c dd Hs' H' ⟨f.1, f.2.1, f.2.2.1, S'.sub, f.2.2.2⟩ xr
/-- a method: self is lent -/
theorem def_okS {P : Program} {w : World} {K : PySem.W.Frag} {mg : Str → Option Value} {base : Heap} {cl : Cl} {C x qual : Str} {st : Stmt} {fa : Addr} {fd : FuncData} {N ps : List Str} {k nb : Nat} {kr : Kd} {k1 k2 : List (Str × Kd)} {ls : List Kd} {m : Sl → O} {ks' : Addr → List Kd}
    (F : Fun K x qual st fa fd) (S : FnScope N ps (defScope st)) (bn : Binds K fd ps []) (M : ∀ c, cl.o C = some c → Cls K c ∧ Meth K c x fa) (hb : 1 + nb = ps.length) (hN : N.length = ps.length + ls.length) (fk : kr.fine = true) (f2 : (Kd.obj none k2).fine = true)
    (hn : kr = .val ∨ kr = .own none) (hk' : ∀ a, (ks' a).take 1 = [.obj (some a) k2])
    (body : ∀ (a : Addr) (cdv : Value) (A : Around) (outer : List Env) (s : Shared) (H : Hp) (E : XK) (h0 s0 b0 : Hp), Room k (A.deeper (envOfC qual (defScope st) s.heap.objs.size fa cdv)) →
      SB (cxOf (CXM P w) P w K mg base N qual (defScope st) fa cdv A outer s H E) ⟨cl, h0, s0, b0⟩ kr (fun ks2 => ks2.take 1 = [.obj (some a) k2]) (.obj (some a) k1 :: ((List.replicate nb true).map kdOf ++ ls)) (defBody st) m (ks' a)) : FiM P w K mg base cl C x (k + 1) k1 k2 nb kr (runM m 1 ls.length) := by
  refine ⟨fa, fd, ps, M, def_okM (k1 := [.obj none k1]) (k2 := [.obj none k2]) (ks' := fun as => ks' (as.headD 0)) F S (by simpa using hb) hN fk rfl (by simp [f2]) rfl hn (fun as l => ?_) (fun as l => ?_), bn⟩
  · match as, l with
    | [a], _ => exact hk' a
  · match as, l with
    | [a], _ => exact body a
end VL
end

noncomputable section
namespace VL
open PySem PySem.Spec PyProof.Rows L2
variable {md : Md}

section
variable {X : Cx} {E : En} {kr : Kd} {fin : List Kd → Prop} {ks ks' : List Kd} {e : Expr} {g : Sl → R D} {pos : Pos}
end
end VL
end

noncomputable section
namespace VL
open PySem PySem.Spec PyProof.Rows L2
variable {md : Md}

@[simp] def dDix : D → D → R D
  | .dct kvs, kd => match keyOf kd with
    | some k => match valD kvs k with
      | some d => .ok d
      | none => .stuck
    | none => .stuck
  | _, _ => .stuck
theorem RepK.at_ {cl : Cl} {H : Hp} (k : Key) : ∀ {ds : List (Key × D)} {xs : List (Key × V)} {d : D}, RepK cl H ds xs → valD ds k = some d → ∃ v, valV xs k = some v ∧ Rep cl H d v
  | [], _, _, h, e => by cases e
  | (k0, d0) :: _, _, _, h, e => by
    cases h with
    | cons h1 h2 =>
      by_cases c : k0 = k
      · rw [valD_pos c] at e
        cases e
        rw [valV_pos c]
        exact ⟨_, rfl, h1⟩
      · rw [valD_neg c] at e
        rw [valV_neg c]
        exact RepK.at_ k h2 e
section
variable {X : Cx} {E : En} {ks : List Kd} {a b : Expr} {ga gb : Sl → R D} {pos : Pos}
theorem se_dix (hu : X.A.units + 65 < cLine) (ha : SE X E ks .bor a ga) (hb : SE X E ks .bor b gb) (hs : NoSl b := by intro _ _; rfl) : SE X E ks .val (.Subscript a b pos) (gBin dDix ga gb) := by
  refine ⟨fun Hs H r σ W Q tk S P => ?_⟩
  refine we_of (pe_dget (by omega) pe_we pe_we hs) ?_
  refine ha.run _ _ _ _ _ _ tk S (P.imp fun d1 v1 Hs1 H1 e1 g1 k1 P1 => ?_)
  refine hb.run _ _ _ _ _ _ tk (S.grow g1) (P1.imp fun d2 v2 Hs2 H2 e2 g2 k2 P2 => ?_)
  cases d1 <;> first | exact P2.elim | skip
  rename_i kvs
  dsimp only [dDix] at P2
  split at P2
  · rename_i k qk
    have ev := keyOf_rb k2.rb qk
    subst ev
    split at P2
    · rename_i d qd
      obtain ⟨p, xs, rfl, h1, r1⟩ := (k1.rb.grow g2).dctInv g2.sub
      obtain ⟨v, ev, rv⟩ := r1.at_ k qd
      refine ⟨p, v, rfl, ?_, P2.finV g2.sub rv⟩
      rw [← ev]
      exact .inl ⟨_, _, h1, rfl, rfl⟩
    · exact P2.elim
  · exact P2.elim
end

/-- what needs no heap -/
def D.scal : D → Bool
  | .non => true
  | .bl _ => true
  | .int _ => true
  | .str _ => true
  | _ => false
theorem Rep.scal {cl : Cl} {H H' : Hp} {d : D} {v : V} (h : Rep cl H d v) (s : d.scal = true) : Rep cl H' d v := by
  cases d <;> first | (cases s; done) | skip
  · cases h; exact .non
  · cases h; exact .bl _
  · cases h; exact .int _
  · cases h; exact .str _
theorem RepL.last {cl : Cl} {H : Hp} {ds : List D} {xs : List V} {d : D} (r : RepL cl H ds xs) (h : ds.getLast? = some d) : ∃ v, xs[xs.length - 1]? = some v ∧ Rep cl H d v := by
  rw [List.getLast?_eq_getElem?] at h
  rw [r.length]
  exact r.get h
section
variable {X : Cx} {E : En} {fin : List Kd → Prop} {kr : Kd} {ks ks' : List Kd} {i : Nat} {n : Option Addr} {x : Str} {e b : Expr} {g : Sl → R D} {m : Sl → O} {p1 p2 p3 pos : Pos}
@[simp] def mPop (i : Nat) : Sl → O := fun r => match r[i]? with
  | some (some (.lst ds)) => match ds.getLast? with
    | some d => .rt d (r.set i (some (.lst ds.dropLast)))
    | none => .stuck
  | _ => .stuck
theorem sx_pop (hq : NmOk x) (hk : ks[i]? = some (.own n) := by rfl) (hN : X.N[i]? = some x := by rfl) (hv : Vis X.env.scope x := by first | exact Or.inl rfl | exact Or.inr (Or.inl rfl) | exact Or.inr (Or.inr rfl))
    (hbase : attributeBase (.Name x p1) "pop" X.env (eval (.Name x p1) X.env) = eval (.Name x p1) X.env := by rfl) (hline : (p2.endLine == p3.line) = true := by rfl) :
    SX X E fin ks .val (.Call (.Attribute (.Name x p1) "pop" p2) [] [] p3) (mPop i) ks := by
  refine ⟨fun Hs H r σ W Q tk S P => ?_⟩
  refine we_of (pe_bm0 PySem.F.plainAttrs_list PySem.F.slot_list_pop PySem.F.type_list_pop mt_pop (pe_var hN hv hq.1 hq.2) hbase hline) ?_
  unfold mPop at P
  split at P
  · rename_i ds q
    obtain ⟨a, xs, ea, h1, r1, up⟩ := S.mutL hk q
    split at P
    · rename_i d qd
      obtain ⟨v, ev, rv⟩ := r1.last qd
      refine ⟨.ref a, ea, tyV_lst h1, a, xs, v, rfl, rfl, h1, ev, ?_⟩
      have S2 := up _ _ r1.dropLast
      exact P v _ _ (S2.push (k := .val) (Grow.refl S2.sub) rfl (RK.val rv))
    · exact P.elim
  · exact P.elim
/-- d[k] = v, the key asked of what changes slots -/
@[simp] def mPutX (i : Nat) (m : Sl → O) (g : Sl → R D) : Sl → O := fun r => match r[i]? with
  | some (some (.dct _)) => onR (g r) r fun d => if d.scal then (match m r with
    | .rt kd r' => (match keyOf kd with
      | some k => (match r'[i]? with
        | some (some (.dct ds)) => if ds.length < szL then .nx (r'.set i (some (.dct (putD ds k d)))) else .stuck
        | _ => .stuck)
      | none => .stuck)
    | _ => .stuck) else .stuck
  | _ => .stuck
theorem ss_dputX (hu : X.A.units + 65 < cLine) (hb : SX X E fin ks .val b m ks') (he : SE X E ks .val e g) (hq : NmOk x) (hf : fin ks := by trivial) (hk0 : ks[i]? = some (.own n) := by rfl) (hk : ks'[i]? = some (.own n) := by rfl) (hN : X.N[i]? = some x := by rfl) (hv : Vis X.env.scope x := by first | exact Or.inl rfl | exact Or.inr (Or.inl rfl) | exact Or.inr (Or.inr rfl))
    (hs : swapsWith e (some (.Subscript (.Name x p1) b p2)) pos.line X.env = pure false := by rfl) : SS X E kr fin ks (.Assign [.Subscript (.Name x p1) b p2] e pos) (mPutX i m g) ks' := by
  refine ⟨fun Hs H r σ W Dn tk S P => ?_⟩
  refine ws_of (ps_dput (by omega) (pe_var hN hv hq.1 hq.2) pe_we pe_we hs) ?_
  unfold mPutX at P
  split at P
  · rename_i ds0 q0
    refine he.run _ _ _ _ _ _ tk S (Post.ofS hf S P fun d v Hs' H' e1 g1 k1 P1 => ?_)
    have S1 := S.grow g1
    split at P1
    · rename_i sc
      have rv := k1.rep
      cases q : m r with
      | stuck => rw [q] at P1; exact P1.elim
      | nx r' => rw [q] at P1; exact P1.elim
      | exc y r' => rw [q] at P1; exact P1.elim
      | rt kd r' =>
        rw [q] at P1
        dsimp only at P1
        split at P1
        · rename_i k qk
          split at P1
          · rename_i ds qd
            split at P1
            · rename_i hz
              obtain ⟨a, xs, ea, h1, r1, _⟩ := S1.mutK hk0 q0
              refine ⟨.ref a, ea, ?_⟩
              refine hb.run _ _ _ _ _ _ tk S1 ?_
              rw [q]
              intro vk Hs2 H2 S2
              obtain ⟨wk, A, ek, ok⟩ := StRel.get (i := 0) S2 rfl rfl
              have ek' : vk = wk := by simpa using ek
              subst ek'
              have rk : Rep E.cl Hs2 kd vk := by
                cases ok with
                | val r0 => exact r0
              have ev := keyOf_rb (H := H2) (.val rk) qk
              subst ev
              have S3 := S2.pop
              obtain ⟨a', xs', ea', h2, r2, up⟩ := S3.mutK hk qd
              rw [ea] at ea'
              cases ea'
              exact ⟨a, _, rfl, DPut.k h2 (by rw [szL_eq, r2.len]; exact hz), P1 _ _ _ (up _ _ (r2.put k (Rep.scal rv sc)))⟩
            · exact P1.elim
          · exact P1.elim
        · exact P1.elim
    · exact P1.elim
  · exact P.elim
end
end VL
end

noncomputable section
namespace VL
open PySem PySem.Spec PyProof.Rows L2
variable {md : Md}

section
variable {cl : Cl} {k : Kd} {Hs H Hs' H' H0 : Hp}
theorem RK.growA {d : D} {v : V} {A : List Addr} (fk : k.fine = true) (g : Grow Hs H Hs' H') (o : ORep cl (fun a => H0 a = none) H Hs H k d v A) (z : ∀ a ∈ A, Hs a = none ∧ H0 a = none) :
    ORep cl (fun a => H0 a = none) H' Hs' H' k d v A ∧ ∀ a ∈ A, Hs' a = none ∧ H0 a = none := by
  have hr := ORep.here _ _ _ _ o
  have e : ∀ a ∈ A, H' a = H a := fun a ha => by
    obtain ⟨u, e1, e2⟩ := hr a ha
    rw [e1, g.h.at a u e1 e2]
  refine ⟨ORep.anyB _ _ _ _ fk (ORep.mono (B' := H) g.s (Same.refl _) (fun _ q => q) _ _ _ _ e o), fun a ha => ⟨?_, (z a ha).2⟩⟩
  obtain ⟨u, e1, e2⟩ := hr a ha
  cases q : Hs' a with
  | none => rfl
  | some w =>
    rcases g.n a (by rw [q]; simp) with y | y
    · exact absurd (z a ha).1 y
    · rw [e1] at y; cases y
theorem RK.grow {d : D} {v : V} (fk : k.fine = true) (g : Grow Hs H Hs' H') (h : RK cl k H0 Hs H d v) : RK cl k H0 Hs' H' d v := by
  obtain ⟨A, o, nd, z⟩ := h
  obtain ⟨o2, z2⟩ := RK.growA fk g o z
  exact ⟨A, o2, nd, z2⟩
def RLs (cl : Cl) (k : Kd) (H0 Hs H : Hp) (ds : List D) (vs : List V) : Prop := ∃ As, OLs cl (fun a => H0 a = none) H Hs H k ds vs As ∧ As.Nodup ∧ ∀ a ∈ As, Hs a = none ∧ H0 a = none
theorem OLs.anyB {N : Addr → Prop} {B B' : Hp} (fk : k.fine = true) {ds : List D} {xs : List V} {As : List Addr} (h : OLs cl N B Hs H k ds xs As) : OLs cl N B' Hs H k ds xs As :=
  OLs.imp (fun _ => True) (fun _ _ _ => trivial) (fun _ _ _ => trivial) (fun d v A _ o => ORep.anyB k d v A fk o) trivial h
theorem OLs.keep {N : Addr → Prop} {B : Hp} {ds : List D} {xs : List V} {As : List Addr} (s : Same Hs Hs') (e : ∀ a ∈ As, H' a = H a) (h : OLs cl N B Hs H k ds xs As) : OLs cl N B Hs' H' k ds xs As :=
  OLs.imp (fun A => ∀ a ∈ A, H' a = H a) (fun _ _ t a ha => t a (List.mem_append_left _ ha)) (fun _ _ t a ha => t a (List.mem_append_right _ ha)) (fun d v A t o => ORep.mono s (Same.refl _) (fun _ q => q) k d v A t o) e h
theorem OLs.here {N : Addr → Prop} {B : Hp} {ds : List D} {xs : List V} {As : List Addr} (h : OLs cl N B Hs H k ds xs As) : ∀ a ∈ As, ∃ o, H a = some o ∧ NT o := OLs.all (fun d v A o => ORep.here k d v A o) h
theorem OLs.pos : ∀ {N : Addr → Prop} {B : Hp} {ds : List D} {xs : List V} {As : List Addr} (j : Nat) {d : D}, OLs cl N B Hs H k ds xs As → ds[j]? = some d →
    ∃ pre A post v, As = pre ++ (A ++ post) ∧ xs[j]? = some v ∧ ORep cl N B Hs H k d v A ∧
      ∀ Hs' H', Same Hs Hs' → (∀ a ∈ pre ++ post, H' a = H a) → ∀ d' v' A', ORep cl N B Hs' H' k d' v' A' → OLs cl N B Hs' H' k (ds.set j d') (xs.set j v') (pre ++ (A' ++ post))
  | _, _, _, _, _, j, _, .nil, e => by simp at e
  | _, _, _, _, _, 0, _, .cons (A := A) (As := As) o t, e => by
    simp at e
    subst e
    exact ⟨[], A, As, _, rfl, rfl, o, fun Hs' H' s q d' v' A' o' => .cons (A := A') (As := As) o' (OLs.keep s (fun a ha => q a ha) t)⟩
  | _, _, _, _, _, j + 1, _, .cons (A := A0) o t, e => by
    obtain ⟨pre, A, post, v, e1, e2, e3, e4⟩ := OLs.pos j t (by simpa using e)
    refine ⟨A0 ++ pre, A, post, v, by rw [e1, List.append_assoc], by simpa using e2, e3, fun Hs' H' s q d' v' A' o' => ?_⟩
    rw [List.append_assoc]
    exact .cons (ORep.mono s (Same.refl _) (fun _ z => z) _ _ _ _ (fun a ha => q a (List.mem_append_left _ (List.mem_append_left _ ha))) o)
      (e4 Hs' H' s (fun a ha => q a (by
        rcases List.mem_append.mp ha with z | z
        · exact List.mem_append_left _ (List.mem_append_right _ z)
        · exact List.mem_append_right _ z)) d' v' A' o')
theorem RLs.grow {ds : List D} {vs : List V} (fk : k.fine = true) (g : Grow Hs H Hs' H') (h : RLs cl k H0 Hs H ds vs) : RLs cl k H0 Hs' H' ds vs := by
  obtain ⟨A, o, nd, z⟩ := h
  have hr := o.here
  have e : ∀ a ∈ A, H' a = H a := fun a ha => by
    obtain ⟨u, e1, e2⟩ := hr a ha
    rw [e1, g.h.at a u e1 e2]
  refine ⟨A, (OLs.keep g.s e o).anyB fk, nd, fun a ha => ⟨?_, (z a ha).2⟩⟩
  obtain ⟨u, e1, e2⟩ := hr a ha
  cases q : Hs' a with
  | none => rfl
  | some w =>
    rcases g.n a (by rw [q]; simp) with y | y
    · exact absurd (z a ha).1 y
    · rw [e1] at y; cases y
end
section
variable {X : Cx} {E : En} {ks : List Kd} {k : Kd} {e : Expr} {es : List Expr} {g : Sl → R D} {t : Sl → R (List D)} {pos : Pos}
end

section
variable {X : Cx} {E : En} {Hs H : Hp} {ks : List Kd} {r : Sl} {σ : L2.St} {i : Nat} {k : Kd}
end
section
variable {X : Cx} {E : En} {kr : Kd} {fin : List Kd → Prop} {ks : List Kd} {i j : Nat} {n m : Option Addr} {x y : Str} {e : Expr} {g : Sl → R D} {pos p1 p2 p3 p4 p5 p6 : Pos}
end
end VL
end

noncomputable section
namespace VL
open PySem PySem.Spec PyProof.Rows L2
variable {md : Md}

def leD : D → D → Bool := PySem.W.dataLe false toPy
def tup1 : D → Bool
  | .tup (_ :: _) => true
  | _ => false
def flat1 : D → Bool
  | .lst _ => true
  | .int _ => true
  | .str _ => true
  | _ => false
def okSort (ds : List D) : Bool := ds.all (fun a => shp a && decide ((toPy a).depth ≤ 60) && ds.all fun b => PySem.W.alike (toPy a) (toPy b)) && (ds.all tup1 || ds.all flat1)
def dSortD : D → R D
  | .lst ds => if okSort ds then .ok (.lst (ds.mergeSort leD)) else .stuck
  | _ => .stuck
def rSortD (K : PySem.W.Frag) : List V → Hp → VK → Prop := fun vs H Q => ∃ (a : Addr) (bs : List (V × D)), vs = [V.ref a] ∧ SqL K H a (bs.map (·.1)) ∧ (∀ b ∈ bs, Dp K H b.1 (toPy b.2) ∧ (toPy b.2).depth ≤ 60) ∧
  PySem.W.AllAlike (bs.map fun b => toPy b.2) ∧ PySem.W.Sortable (bs.map fun b => toPy b.2) ∧ ∀ p, H p = none → Q (.ref p) (upd H p (.lst ((bs.mergeSort (PySem.W.dataLe false fun b => toPy b.2)).map (·.1))))
section
variable {X : Cx}
theorem each_vals {pins : List (Addr × Obj)} {σ : L2.St} {H : Hp} {s : Shared} (I : Inv X pins σ H s) : ∀ {bs : List (V × D)} {its : List Value}, Vals (bs.map (·.1)) its → (∀ b ∈ bs, Dp X.K H b.1 (toPy b.2)) →
    PySem.W.EachIs (fun v (b : V × D) => RelV b.1 v) its bs ∧ PySem.W.EachIs (fun v (b : V × D) => ∃ as, Reads s.heap v (toPy b.2) as) its bs
  | [], _, .nil, _ => ⟨.nil, .nil⟩
  | b :: bs, _, .cons r t, h => by
    obtain ⟨i1, i2⟩ := each_vals I t fun c hc => h c (List.mem_cons_of_mem _ hc)
    exact ⟨.cons r i1, .cons (Dp.reads I _ _ _ (h b List.mem_cons_self) r) i2⟩
theorem each_back : ∀ {bs : List (V × D)} {out : List Value}, PySem.W.EachIs (fun v (b : V × D) => RelV b.1 v) out bs → Vals (bs.map (·.1)) out
  | _, _, .nil => .nil
  | _, _, .cons r t => .cons r (each_back t)
theorem cr_sortedD (hu : X.A.units + 65 < cLine) : CallR X (.builtin "sorted") (rSortD X.K) := by
  intro pins s σ H vs us Q I r h
  obtain ⟨a, bs, rfl, hs, hd, al, so, q⟩ := h
  obtain ⟨its, rv, hl, hz⟩ := I.list hs
  rw [Vals.ref1 r]
  obtain ⟨e1, e2⟩ := each_vals I rv fun b hb => (hd b hb).1
  refine PySem.W.sorted_data (bs := bs) (enc := fun b => toPy b.2) hl.isList e1 e2 al so (by rw [List.length_map] at hz; exact hz) (fun b hb => by have := (hd b hb).2; omega) fun out hlen hout => ?_
  obtain ⟨ep, he'⟩ := PyProof.Rows.sortedAll_at s.heap its out.toArray
  have hv := each_back hout
  have hz2 : ((bs.mergeSort (PySem.W.dataLe false fun b => toPy b.2)).map (·.1)).length ≤ sizeLine := by
    rw [List.length_map, List.length_mergeSort]
    rw [List.length_map] at hz
    exact hz
  exact ⟨.ref _, upd H (s.heap.objs.size + 1) (.lst ((bs.mergeSort (PySem.W.dataLe false fun b => toPy b.2)).map (·.1))), I.laid (t' := s.toks) (fun _ _ => PyProof.Rows.sortedAll_old) (Nat.le_succ _) ⟨hz2, out, ep, hv, he'⟩, rfl, q _ (I.hok.fresh (Nat.le_succ _))⟩
theorem RepL.zipV {cl : Cl} {H : Hp} : ∀ {ds : List D} {xs : List V}, RepL cl H ds xs → ∃ bs : List (V × D), bs.map (·.1) = xs ∧ bs.map (·.2) = ds ∧ ∀ b ∈ bs, Rep cl H b.2 b.1
  | [], _, h => by cases h; exact ⟨[], rfl, rfl, fun b hb => nomatch hb⟩
  | d :: ds, _, h => by
    cases h with
    | cons h1 h2 =>
      obtain ⟨bs, e1, e2, e3⟩ := RepL.zipV h2
      refine ⟨(_, d) :: bs, by rw [List.map_cons, e1], by rw [List.map_cons, e2], fun b hb => ?_⟩
      rcases List.mem_cons.mp hb with z | z
      · rw [z]; exact h1
      · exact e3 b z
theorem RepL.ofZip {cl : Cl} {H : Hp} : ∀ {bs : List (V × D)}, (∀ b ∈ bs, Rep cl H b.2 b.1) → RepL cl H (bs.map (·.2)) (bs.map (·.1))
  | [], _ => .nil
  | b :: bs, h => .cons (h b List.mem_cons_self) (RepL.ofZip fun c hc => h c (List.mem_cons_of_mem _ hc))
theorem se_sortedD {E : En} {ks : List Kd} {e : Expr} {g : Sl → R D} {p1 pos : Pos} (B : Bl X.mg) (hu : X.A.units + 65 < cLine) (he : SE X E ks .bor e g) (hg : Gl X "sorted" := by rfl)
    (hs : starEach [e] X.env = (false, eval e X.env) :: starEach [] X.env := by rfl) (hpl : (backTo pos (starEach [] X.env)).any (·.1) = false := by rfl) :
    SE X E ks (.own none) (.Call (.Name "sorted" p1) [e] [] pos) (gUn dSortD g) := by
  refine ⟨fun Hs H r σ W Q tk S P => ?_⟩
  refine we_of (pe_callB (cr_sortedD hu) hg B.sorted bb_sorted (pa_cons pe_we pa_nil hs) (by decide) (by decide) hs hpl) ?_
  refine he.run _ _ _ _ _ _ tk S (P.imp fun d v Hs1 H1 e1 g1 k1 P1 => ?_)
  unfold dSortD at P1
  cases d <;> first | exact P1.elim | skip
  rename_i ds
  dsimp only at P1
  split at P1
  · rename_i hk
    unfold okSort at hk
    rw [Bool.and_eq_true, List.all_eq_true] at hk
    obtain ⟨hk1, hk2⟩ := hk
    obtain ⟨a, xs, rfl, h1, r1⟩ := k1.rb.lstInv g1.sub
    obtain ⟨bs, b1, b2, b3⟩ := RepL.zipV r1
    subst b1
    subst b2
    have hb : ∀ b ∈ bs, shp b.2 = true ∧ (toPy b.2).depth ≤ 60 ∧ ∀ c ∈ bs, PySem.W.alike (toPy b.2) (toPy c.2) = true := fun b hb => by
      have := hk1 b.2 (List.mem_map.mpr ⟨b, hb, rfl⟩)
      simp only [Bool.and_eq_true, decide_eq_true_eq, List.all_eq_true] at this
      exact ⟨this.1.1, this.1.2, fun c hc => this.2 c.2 (List.mem_map.mpr ⟨c, hc, rfl⟩)⟩
    refine ⟨a, bs, rfl, SqL.of h1, fun b hb' => ⟨?_, (hb b hb').2.1⟩, ?_, ?_, fun p hp => ?_⟩
    · exact Rep.dp _ _ (SeqAt.canLay_of_shaped (hb b hb').1) (Rep.same g1.sub _ _ (b3 b hb'))
    · intro d hd d' hd'
      obtain ⟨b, h2, rfl⟩ := List.mem_map.mp hd
      obtain ⟨c, h3, rfl⟩ := List.mem_map.mp hd'
      exact (hb b h2).2.2 c h3
    · rw [Bool.or_eq_true, List.all_eq_true, List.all_eq_true] at hk2
      rcases hk2 with z | z
      · refine .inl fun d hd => ?_
        obtain ⟨b, h2, rfl⟩ := List.mem_map.mp hd
        have := z b.2 (List.mem_map.mpr ⟨b, h2, rfl⟩)
        cases q : b.2 <;> rw [q] at this <;> first | (cases this; done) | skip
        rename_i ys
        cases ys with
        | nil => cases this
        | cons y ys => exact ⟨_, _, rfl⟩
      · refine .inr fun d hd => ?_
        obtain ⟨b, h2, rfl⟩ := List.mem_map.mp hd
        have := z b.2 (List.mem_map.mpr ⟨b, h2, rfl⟩)
        cases q : b.2 <;> rw [q] at this <;> first | (cases this; done) | exact ⟨(by intro w; cases w), (by intro w u; cases u)⟩
    · have e2 : (bs.mergeSort (PySem.W.dataLe false fun b => toPy b.2)).map (·.2) = (bs.map (·.2)).mergeSort leD := List.map_mergeSort fun a _ b _ => rfl
      rw [← e2] at P1
      refine P1.finL g1.sub hp (RepL.ofZip fun b hb' => b3 b ?_)
      exact (List.mergeSort_perm bs _).mem_iff.mp hb'
  · exact P1.elim
end
end VL
end

noncomputable section
namespace VL
open PySem PySem.Spec PyProof.Rows L2
variable {md : Md}

section
variable {X : Cx} {E : En} {ks : List Kd} {e o : Expr} {g go : Sl → R D} {pos p apos cpos : Pos} {es : List Expr} {t : Sl → R (List D)}
end
section
variable {X : Cx} {E : En} {ks : List Kd} {e o : Expr} {g go : Sl → R D} {pos p apos cpos : Pos} {es : List Expr} {t : Sl → R (List D)}
end
end VL
end

noncomputable section
namespace VL
open PySem PySem.Spec PyProof.Rows L2
variable {md : Md}

open Classical in
def sw (a : Addr) (u o : HO) (f : Hp) : Hp := fun b => if b = a ∧ f b = some u then some o else f b
section
variable {a : Addr} {u o : HO} {f g : Hp}
theorem sw_at (h : f a = some u) : sw a u o f a = some o := by unfold sw; rw [if_pos ⟨rfl, h⟩]
theorem sw_ne {b : Addr} (h : b ≠ a) : sw a u o f b = f b := by unfold sw; rw [if_neg fun z => h z.1]
theorem sw_no {b : Addr} (h : f b ≠ some u) : sw a u o f b = f b := by unfold sw; rw [if_neg fun z => h z.2]
theorem sw_none {b : Addr} : sw a u o f b = none ↔ f b = none := by
  unfold sw
  split
  · rename_i z
    rw [z.2]
    exact ⟨fun w => (nomatch w), fun w => (nomatch w)⟩
  · exact Iff.rfl
theorem sw_keep {b : Addr} {y : HO} (h : f b = some y) (n : y ≠ u) : sw a u o f b = some y := by
  rw [sw_no fun z => n (by rw [h] at z; exact Option.some.inj z)]
  exact h
theorem Same.sw (nt : NT u) (e : Same f g) : Same (sw a u o f) (sw a u o g) := ⟨fun b y q n => by
  by_cases c : b = a ∧ f b = some u
  · obtain ⟨rfl, c⟩ := c
    rw [sw_at c] at q
    rw [sw_at (e.at _ _ c nt)]
    exact q
  · have q2 : f b = some y := by
      unfold VL.sw at q
      rw [if_neg c] at q
      exact q
    have g2 : g b = some y := e.k b y q2 (n.imp id fun z => sw_none.mp z)
    by_cases d : b = a
    · subst d
      exact sw_keep g2 fun z => c ⟨rfl, by rw [q2, z]⟩
    · rw [sw_ne d]; exact g2⟩
theorem tab_sw {P : Addr} (nt : NT u) (nc : ∀ c q, u ≠ LamX.CodeO c q) (z : LamX.TabS f P lamQ) : LamX.TabS (VL.sw a u o f) P lamQ := by
  obtain ⟨ps, h1, h2, h3⟩ := z
  refine ⟨ps, sw_keep h1 fun w => nt ps w.symm, h2, fun pos cv hc => ?_⟩
  obtain ⟨c, e1, e2⟩ := h3 pos cv hc
  exact ⟨c, e1, sw_keep e2 fun w => nc c lamQ w.symm⟩
end
/-- open, locked -/
inductive Two (xs : List (Key × V)) : HO → HO → Prop
  | lock {od : Obj} : Two xs (.dK xs) (.frz od (.dK xs))
  | open_ {od : Obj} : Two xs (.frz od (.dK xs)) (.dK xs)
section
variable {a : Addr} {u o : HO} {xs : List (Key × V)} {cl : Cl} {H Hs B : Hp}
theorem Two.ntU (t : Two xs u o) : NT u := by cases t <;> (intro _ z; cases z)
theorem Two.nc (t : Two xs u o) : ∀ c q, u ≠ LamX.CodeO c q := by
  cases t <;> (intro _ _ z; unfold LamX.CodeO at z; cases z)
theorem Two.ne (t : Two xs u o) : u ≠ o := by cases t <;> (intro z; cases z)
theorem Two.lst (t : Two xs u o) (ys : List V) : HO.lst ys ≠ u := by cases t <;> (intro z; cases z)
theorem Two.tup (t : Two xs u o) (ys : List V) : HO.tup ys ≠ u := by cases t <;> (intro z; cases z)
theorem Two.ins (t : Two xs u o) (c dx : Addr) (ys : List (Str × V)) : HO.ins c dx ys ≠ u := by cases t <;> (intro z; cases z)
theorem Two.xd (t : Two xs u o) (ys : List (Str × V)) : HO.xd ys ≠ u := by cases t <;> (intro z; cases z)
theorem Two.rd (t : Two xs u o) {p : Addr} {ys : List (Key × V)} (h : Rd H p (.dK ys)) : Rd (sw a u o H) p (.dK ys) := by
  by_cases c : p = a ∧ H p = some u
  · obtain ⟨rfl, c⟩ := c
    have e := sw_at (o := o) c
    cases t with
    | lock =>
      rename_i od
      rcases h with h | ⟨o2, h⟩
      · rw [c] at h; cases h; exact .inr ⟨od, e⟩
      · rw [c] at h; cases h
    | open_ =>
      rcases h with h | ⟨o2, h⟩
      · rw [c] at h; cases h
      · rw [c] at h; cases h; exact .inl e
  · have e : sw a u o H p = H p := by unfold sw; rw [if_neg c]
    unfold Rd
    rw [e]
    exact h
theorem Two.seq (t : Two xs u o) {K : PySem.W.Frag} {p : Addr} {ys : List V} (h : SqL K H p ys) : SqL K (sw a u o H) p ys := by
  rcases h with (h | ⟨o2, h⟩) | h
  · exact .inl (.inl (sw_keep h (t.lst _)))
  · exact .inl (.inr ⟨o2, sw_keep h (by cases t <;> (intro z; cases z))⟩)
  · exact .inr h
mutual
theorem Rep.sw (t : Two xs u o) : ∀ (d : D) (v : V), Rep cl H d v → Rep cl (sw a u o H) d v
  | .non, _, h => by cases h; exact .non
  | .bl b, _, h => by cases h; exact .bl b
  | .int i, _, h => by cases h; exact .int i
  | .str x, _, h => by cases h; exact .str x
  | .lst ds, _, h => by
    cases h with
    | lst h1 h2 => exact .lst (sw_keep h1 (t.lst _)) (RepL.sw t ds _ h2)
  | .tup ds, _, h => by
    cases h with
    | tup h1 h2 => exact .tup (sw_keep h1 (t.tup _)) (RepL.sw t ds _ h2)
  | .dct ds, _, h => by
    cases h with
    | dct h1 h2 => exact .dct (t.rd h1) (RepK.sw t ds _ h2)
  | .obj C ds, _, h => by
    cases h with
    | obj h0 h1 h2 => exact .obj h0 (sw_keep h1 (t.ins _ _ _)) (RepF.sw t ds _ h2)
  | .scr ns, _, h => by
    cases h with
    | scr h1 => exact .scr (t.seq h1)
theorem RepL.sw (t : Two xs u o) : ∀ (ds : List D) (vs : List V), RepL cl H ds vs → RepL cl (sw a u o H) ds vs
  | [], _, h => by cases h; exact .nil
  | d :: ds, _, h => by
    cases h with
    | cons h1 h2 => exact .cons (Rep.sw t d _ h1) (RepL.sw t ds _ h2)
theorem RepK.sw (t : Two xs u o) : ∀ (ds : List (Key × D)) (vs : List (Key × V)), RepK cl H ds vs → RepK cl (sw a u o H) ds vs
  | [], _, h => by cases h; exact .nil
  | (k, d) :: ds, _, h => by
    cases h with
    | cons h1 h2 => exact .cons (Rep.sw t d _ h1) (RepK.sw t ds _ h2)
theorem RepF.sw (t : Two xs u o) : ∀ (ds : List (Str × D)) (vs : List (Str × V)), RepF cl H ds vs → RepF cl (sw a u o H) ds vs
  | [], _, h => by cases h; exact .nil
  | (k, d) :: ds, _, h => by
    cases h with
    | cons h1 h2 => exact .cons (Rep.sw t d _ h1) (RepF.sw t ds _ h2)
end
mutual
theorem RB.sw (t : Two xs u o) : ∀ {d : D} {v : V}, RB cl Hs B d v → RB cl (sw a u o Hs) (sw a u o B) d v
  | _, _, .val r => .val (Rep.sw t _ _ r)
  | _, _, .lst h1 h2 => .lst (sw_keep h1 (t.lst _)) (RepL.sw t _ _ h2)
  | _, _, .dct h1 h2 => .dct (t.rd h1) (RepK.sw t _ _ h2)
  | _, _, .obj h0 h1 h2 => .obj h0 (sw_keep h1 (t.ins _ _ _)) (RBF.sw t h2)
theorem RBF.sw (t : Two xs u o) : ∀ {ds : List (Str × D)} {vs : List (Str × V)}, RBF cl Hs B ds vs → RBF cl (sw a u o Hs) (sw a u o B) ds vs
  | _, _, .nil => .nil
  | _, _, .cons x y => .cons (RB.sw t x) (RBF.sw t y)
end
variable {N : Addr → Prop}
mutual
theorem ORep.sw (t : Two xs u o) : ∀ (k : Kd) (d : D) (v : V) (A : List Addr), (∀ b ∈ A, b ≠ a) → ORep cl N B Hs H k d v A → ORep cl N (sw a u o B) (sw a u o Hs) (sw a u o H) k d v A
  | .val, d, v, _, _, h => by
    cases h with
    | val h1 => exact .val (Rep.sw t _ _ h1)
  | .bor, d, v, _, _, h => by
    cases h with
    | borV h1 => exact .borV (Rep.sw t _ _ h1)
    | borL h1 h2 => exact .borL (sw_keep h1 (t.lst _)) (RepL.sw t _ _ h2)
    | borK h1 h2 => exact .borK (t.rd h1) (RepK.sw t _ _ h2)
    | borO h0 h1 h2 => exact .borO h0 (sw_keep h1 (t.ins _ _ _)) (RBF.sw t h2)
  | .own n, d, v, _, k, h => by
    cases h with
    | ownL h0 h1 h2 => exact .ownL h0 (sw_keep h1 (t.lst _)) (RepL.sw t _ _ h2)
    | ownK h0 h1 h2 => exact .ownK h0 (by rw [sw_ne (k _ List.mem_cons_self)]; exact h1) (RepK.sw t _ _ h2)
    | ownV h0 h1 => exact .ownV h0 (Rep.sw t _ _ h1)
  | .obj n ks, d, v, _, k, h => by
    cases h with
    | obj h0 h1 h2 h3 => exact .obj h0 h1 (sw_keep h2 (t.ins _ _ _)) (OFs.sw t ks _ _ _ (fun b hb => k b (List.mem_cons_of_mem _ hb)) h3)
  | .adr p, d, v, _, _, h => by
    cases h with
    | adr => exact .adr
  | .lls n kd, d, v, _, k, h => by
    cases h with
    | lls h0 h1 h2 => exact .lls h0 (sw_keep h1 (t.lst _)) (OLs.imp (fun A => ∀ b ∈ A, b ≠ a) (fun _ _ t b hb => t b (List.mem_append_left _ hb)) (fun _ _ t b hb => t b (List.mem_append_right _ hb)) (fun d v A q r => ORep.sw t kd d v A q r) (fun b hb => k b (List.mem_cons_of_mem _ hb)) h2)
    | llT h0 h1 h2 => exact .llT h0 (sw_keep h1 (t.tup _)) (OLs.imp (fun A => ∀ b ∈ A, b ≠ a) (fun _ _ t b hb => t b (List.mem_append_left _ hb)) (fun _ _ t b hb => t b (List.mem_append_right _ hb)) (fun d v A q r => ORep.sw t kd d v A q r) (fun b hb => k b (List.mem_cons_of_mem _ hb)) h2)
    | llV h0 h1 => exact .llV h0 (Rep.sw t _ _ h1)
theorem OFs.sw (t : Two xs u o) : ∀ (ks : List (Str × Kd)) (ds : List (Str × D)) (vs : List (Str × V)) (A : List Addr), (∀ b ∈ A, b ≠ a) → OFs cl N B Hs H ks ds vs A → OFs cl N (sw a u o B) (sw a u o Hs) (sw a u o H) ks ds vs A
  | [], _, _, _, _, h => by cases h; exact .nil
  | (f, kd) :: ks, _, _, _, k, h => by
    cases h with
    | cons h1 h2 => exact .cons (ORep.sw t kd _ _ _ (fun b hb => k b (List.mem_append_left _ hb)) h1) (OFs.sw t ks _ _ _ (fun b hb => k b (List.mem_append_right _ hb)) h2)
end
end
/-- the entry, a dict's object exchanged -/
def En.sw (E : En) (a : Addr) (u o : HO) : En := ⟨E.cl, E.h, VL.sw a u o E.s, VL.sw a u o E.b⟩
section
variable {E : En} {Hs H : Hp} {ks : List Kd} {r : Sl} {σ : L2.St} {a : Addr} {u o : HO} {xs : List (Key × V)}
theorem Slots.sw (t : Two xs u o) : ∀ {ks : List Kd} {r : Sl} {σ : L2.St} {As : List Addr}, (∀ b ∈ As, b ≠ a) → Slots E Hs H ks r σ As → Slots (E.sw a u o) (VL.sw a u o Hs) (VL.sw a u o H) ks r σ As
  | _, _, _, _, _, .nil => .nil
  | _, _, _, _, k, .skip h => .skip (Slots.sw t k h)
  | _, _, _, _, k, .cons h1 h2 => .cons (ORep.sw t _ _ _ _ (fun b hb => k b (List.mem_append_left _ hb)) h1) (Slots.sw t (fun b hb => k b (List.mem_append_right _ hb)) h2)
theorem StRel.sw (t : Two xs u o) (ha : Hs a ≠ none) (S : StRel E Hs H ks r σ) : StRel (E.sw a u o) (VL.sw a u o Hs) (VL.sw a u o H) ks r σ := by
  obtain ⟨As, S⟩ := S
  have off : ∀ b ∈ As, b ≠ a := fun b hb z => ha (by rw [← z]; exact (S.dis b hb).1)
  exact ⟨As, Slots.sw t off S.sl, S.nd, fun b hb => ⟨sw_none.mpr (S.dis b hb).1, (sw_none (a := a) (u := u) (o := o) (f := E.b)).mpr (S.dis b hb).2⟩, S.es.sw t.ntU, S.sub.sw t.ntU, S.eb.sw t.ntU,
    fun b z => (S.new b (fun w => z (sw_none.mpr w))).imp (fun w q => w ((sw_none (a := a) (u := u) (o := o) (f := E.s)).mp q)) id, fun b z => S.dom b (sw_none.mp z), fun P z => tab_sw t.ntU t.nc (S.tb P z)⟩
end

section
variable {X : Cx} {E : En} {kr : Kd} {ks : List Kd} {pos p1 : Pos} {i : Nat} {x : Str}
end
end VL
end

noncomputable section
namespace VL
open PySem PySem.Spec PyProof.Rows L2
variable {md : Md}

section
variable {prog : Program} {w : World} {A : Around} {E : Value → Shared → Prop} {s : Shared}
theorem wpAny_extend_rangeL {R : Result → Shared → Prop} {r : Addr} {a b c : Int} {t u v : Tok} {n : Nat} (hh : A.handled = none) (hr : IsRange s.heap r a b c t u v) (hbig : Builtin.Range.small a b c = false)
    (hn : Builtin.Range.rangeSize a b c = n) (hlen : n ≤ 2 ^ 24) (S : Addr) (res : Value) (c₀ : Nat) (hS : s.heap.get? S = some { cls := .type "list", data := .seq #[] c₀ })
    (hR : ∀ h' tk acc' c', (∀ b o, b ≠ S → s.heap.get? b = some o → h'.get? b = some o) → h'.get? S = some { cls := .type "list", dict := none, data := .seq acc' c', slots := #[] } →
      ItemsOf (fun i v => ∃ t, v = .int (a + i * c) t) acc' n → R (.ok (.ret res)) { s with heap := h', toks := tk }) :
    wpAny (model prog w) A.in1 (Builtin.List.listExtendWith (.ref S) (.ref r) res)
      (fun fin s' => match fin with | .done f => R (.ok f) s' | .again c' => c'.quiet = true ∧ codeAny (model prog w) A c' R s') (fun e s' => R (.error e) s') s := by
  have hSr : S ≠ r := fun e => by rw [e, hr] at hS; simp at hS
  have hSlt : S < s.heap.objs.size := Heap.lt_size hS
  have hSI : S ≠ s.heap.objs.size := Nat.ne_of_lt hSlt
  have hSf : S ∉ [s.heap.objs.size] := fun hm => hSI (List.mem_singleton.mp hm)
  have W := (Walks.longrange (prog := prog) (w := w) (A := A.in1) hh s.heap.objs.size a c n).toS

  have key : ∀ (h : Heap) (c₁ tk : Nat), IsLongIter h s.heap.objs.size (a + ((0 : Nat) : Int) * c) ((n : Int) - ((0 : Nat) : Int)) c → (∀ b o, b ≠ S → s.heap.get? b = some o → h.get? b = some o) →
      h.get? S = some { cls := .type "list", data := .seq #[] c₁ } → codeAny (model prog w) A (.builtin "list.extend.loop" ⟨[.ref S, .ref s.heap.objs.size, res], []⟩) R { s with heap := h, toks := tk } := by
    intro h c₁ tk hit hk hS₁
    refine codeAny_extend_loopS W (by rw [sizeLine_eq]; omega) S hSf res n 0 _ #[] c₁ rfl (Nat.zero_le _) hit hS₁ (ItemsOf.nil _) fun s' acc' c' hm hS' hacc => ?_
    rw [Moved.eq_with hm]
    refine hR s'.heap s'.toks acc' c' (fun b o hb e => hm.heap b o (fun hmem => ?_) (hk b o hb e)) hS' hacc
    rcases List.mem_cons.mp hmem with e' | hmem
    · exact hb e'
    · exact absurd (Heap.lt_size e) (by rw [List.mem_singleton.mp hmem]; exact Nat.lt_irrefl _)
  unfold Builtin.List.listExtendWith
  refine wpAny_bind (wpAny_typeOf (T := "range") ⟨_, hr, rfl⟩ ?_)
  have h1 : Builtin.List.listSameRef (.ref S) (.ref r) = false := by simp [Builtin.List.listSameRef, hSr]
  have h2 : (Value.type "range" == Value.type "list") = false := by decide
  have h3 : (Value.type "range" == Value.type "tuple") = false := by decide
  simp only [h1, h2, h3, Bool.or_false, Bool.false_eq_true, if_false]
  refine wpAny_bind (wpAny_pyIter_longrange hr hbig ?_)
  refine wpAny_bind (wpAny_holding (wpAny_hint_range (n := n) (Heap.get?_push_of_some _ hr) hn hlen ?_))
  have hit₁ : IsLongIter (s.heap.push { cls := .type "longrange_iterator", data := .fields #[rawInt a, rawInt (Builtin.Range.rangeSize a b c), rawInt c] }) s.heap.objs.size (a + ((0 : Nat) : Int) * c) ((n : Int) - ((0 : Nat) : Int)) c := by
    show IsLongIter _ _ _ _ _; rw [hn]; simpa using Heap.get?_push_size _ rfl
  have hS₁ := Heap.get?_push_of_some { cls := .type "longrange_iterator", data := .fields #[rawInt a, rawInt (Builtin.Range.rangeSize a b c), rawInt c] } hS
  refine wpAny_ite_split (fun _ => ?_) (fun _ => wpAny_pure ⟨plainId_quiet F.plain_extend_loop _, key _ c₀ _ hit₁ (fun b o _ e => Heap.get?_push_of_some _ e) hS₁⟩)
  refine wpAny_bind (wpAny_rule ?_)
  refine wpAny_bind ?_
  show wpAny _ _ (updateSeq S (·.push .none) >>= fun _ => updateSeq S (·.pop)) _ _ _
  refine wpAny_bind (wpAny_updateSeq hS₁ rfl ?_)
  have hS₂ := Heap.get?_update_self (Obj.mapSeq (·.push Value.none)) hS₁ rfl
  refine wpAny_updateSeq (hz := by seq_fits) hS₂ rfl ?_
  have hS₃ := Heap.get?_update_self (Obj.mapSeq (·.pop)) hS₂ rfl
  refine wpAny_pure ⟨plainId_quiet F.plain_extend_loop _, key _ _ _ ?_ (fun b o hb e => ?_) hS₃⟩
  · exact (Heap.get?_update_other _ _ hSI).trans ((Heap.get?_update_other _ _ hSI).trans hit₁)
  · exact (Heap.get?_update_other _ _ (Ne.symm hb)).trans ((Heap.get?_update_other _ _ (Ne.symm hb)).trans (Heap.get?_push_of_some _ e))

theorem wpAny_list_init_rangeL {R : Result → Shared → Prop} {r : Addr} {a b c : Int} {t u v : Tok} {n : Nat} (hh : A.handled = none) (hr : IsRange s.heap r a b c t u v) (hbig : Builtin.Range.small a b c = false)
    (hn : Builtin.Range.rangeSize a b c = n) (hlen : n ≤ 2 ^ 24) (S : Addr) (hS : s.heap.get? S = some { cls := .type "list", data := .seq #[] })
    (hR : ∀ h' tk acc' c', (∀ b o, b ≠ S → s.heap.get? b = some o → h'.get? b = some o) → h'.get? S = some { cls := .type "list", dict := none, data := .seq acc' c', slots := #[] } →
      ItemsOf (fun i v => ∃ t, v = .int (a + i * c) t) acc' n → R (.ok (.ret .none)) { s with heap := h', toks := tk }) :
    wpAny (model prog w) A.in1 (Builtin.«list.__init__» ⟨[.ref S, .ref r], []⟩)
      (fun fin s' => match fin with | .done f => R (.ok f) s' | .again c' => c'.quiet = true ∧ codeAny (model prog w) A c' R s') (fun e s' => R (.error e) s') s := by
  have hSr : S ≠ r := fun e => by rw [e, hr] at hS; simp at hS
  show wpAny _ _ (do let old ← Builtin.List.listItems (.ref S); Builtin.List.listUpdate (.ref S) (fun _ => #[]); letGo old.toList.reverse; Builtin.List.listExtendWith (.ref S) (.ref r) .none) _ _ s
  refine wpAny_bind ?_
  unfold Builtin.List.listItems
  refine wpAny_bind (wpAny_seqItems hS rfl (wpAny_pure ?_))
  show wpAny _ _ (updateSeq S (fun _ => #[]) >>= fun _ => letGo (#[] : Array Value).toList.reverse >>= fun _ => Builtin.List.listExtendWith (.ref S) (.ref r) .none) _ _ s
  refine wpAny_bind (wpAny_updateSeq hS rfl ?_)
  have hS₂ := Heap.get?_update_self (Obj.mapSeq (fun _ => (#[] : Array Value))) hS rfl
  have oth : ∀ b o, b ≠ S → s.heap.get? b = some o → (s.heap.update S (Obj.mapSeq (fun _ => (#[] : Array Value)))).get? b = some o :=
    fun b o hb e => (Heap.get?_update_other _ _ (Ne.symm hb)).trans e
  refine wpAny_bind (wpAny_letGo ?_)
  refine wpAny_extend_rangeL hh (oth r _ (Ne.symm hSr) hr) hbig hn hlen S .none _ hS₂ fun h' tk acc' c' hk hS' hacc => ?_
  exact hR h' tk acc' c' (fun b o hb e => hk b o hb (oth b o hb e)) hS' hacc

theorem call_list_rangeL {Q : Value → Shared → Prop} {r : Addr} {a b c : Int} {t u v : Tok} {n : Nat} (hh : A.handled = none) (hr : IsRange s.heap r a b c t u v) (hbig : Builtin.Range.small a b c = false)
    (hn : Builtin.Range.rangeSize a b c = n) (hlen : n ≤ 2 ^ 24)
    (hQ : ∀ h' tk acc' c', (∀ b o, s.heap.get? b = some o → h'.get? b = some o) →
      h'.get? s.heap.objs.size = some { cls := .type "list", dict := none, data := .seq acc' c', slots := #[] } → ItemsOf (fun i v => ∃ t, v = .int (a + i * c) t) acc' n → Q (.ref s.heap.objs.size) { s with heap := h', toks := tk }) :
    wpAny (model prog w) A (call (.type "list") [.ref r]) Q E s := by
  refine callType_codes (Q₁ := fun obj s₁ => obj = .ref s.heap.objs.size ∧ s₁ = { s with heap := s.heap.push { cls := .type "list", data := .seq #[] } }) F.called_list (F.typeCall_list_1 _) F.entry_list_init
    (code_list_new _ ⟨rfl, rfl⟩) fun obj s₁ h₁ => ?_
  obtain ⟨rfl, rfl⟩ := h₁
  have hS : (s.heap.push { cls := .type "list", data := .seq #[] }).get? s.heap.objs.size = some { cls := .type "list", data := .seq #[] } := Heap.get?_push_size _ rfl
  refine ⟨⟨_, hS, rfl⟩, F.args_list_init_2 _ _, wpAny_list_init_rangeL (A := A.in1) hh (Heap.get?_push_of_some _ hr) hbig hn hlen _ hS fun h' tk acc' c' hk hS' hacc => ?_⟩
  exact ⟨rfl, hQ h' tk acc' c' (fun b o e => hk b o (Nat.ne_of_lt (Heap.lt_size e)) (Heap.get?_push_of_some _ e)) hS' hacc⟩
end
def tLstRgW (te : L2.St → Hp → (Int → Int → Hp → Prop) → Prop) : TE := fun σ H Q => te σ H fun a b H1 => (b - a).toNat ≤ 2 ^ 24 ∧ ∀ q, H1 q = none → Q (.ref q) (upd H1 q (.lst (rgV a b)))
theorem pe_listRgW {X : Cx} {e : Expr} {te : L2.St → Hp → (Int → Int → Hp → Prop) → Prop} {p pos : Pos} (hc : X.calm = true) (hg : Gl X "list") (hm : X.mg "list" = none) (he : PRg X e te) (na : starEach [e] X.env = (false, eval e X.env) :: starEach [] X.env := by rfl) : PE X (.Call (.Name "list" p) [e] [] pos) (tLstRgW te) := by
  refine ⟨fun pins s σ H Q I h => ?_⟩
  refine Call_ (ld_blt I hg hm boot_list (PyProof.Rows.callWith_type1 (args_cons (thn (he pins s σ H _ I h) fun x s1 ⟨r, a, b, t, u, v, H1, ex, hr, I1, ok, q⟩ => args_nil ?_) na) na))
  subst ex
  have fin : ∀ (h' : Heap) (tk : Nat) (acc : Array Value) (c' : Nat), (∀ b o, s1.heap.get? b = some o → h'.get? b = some o) → h'.get? s1.heap.objs.size = some { cls := .type "list", dict := none, data := .seq acc c', slots := #[] } →
      ItemsOf (fun i v => ∃ t, v = .int (a + i * 1) t) acc (b - a).toNat → ∃ y H', Inv X pins σ H' { s1 with heap := h', toks := tk } ∧ RelV y (.ref s1.heap.objs.size) ∧ Q y H' := fun h' tk acc c' hk e' hi => by
    refine ⟨.ref s1.heap.objs.size, upd H1 s1.heap.objs.size (.lst (rgV a b)), I1.laid hk (Nat.le_refl _) (show ObjOk X.prog X.w _ _ _ (.lst (rgV a b)) from ⟨?_, acc.toList, c', vals_rg hi, ?_⟩), rfl, q _ (I1.hok.fresh (Nat.le_refl _))⟩
    · rw [rgV_length, sizeLine_eq]; omega
    · rw [Array.toArray_toList]; exact e'
  cases z : Builtin.Range.small a b 1 with
  | true => exact call_list_range (n := (b - a).toNat) (I1.ok.hd hc) hr z (rangeSize_nat a b) ok fin
  | false => exact call_list_rangeL (n := (b - a).toNat) (I1.ok.hd hc) hr z (rangeSize_nat a b) ok fin
def dRgW (a b : D) : R D := match a, b with
  | .int i, .int j => if (j - i).toNat ≤ 1000000 then .ok (.lst (rangeD i (j - i).toNat)) else .stuck
  | _, _ => .stuck
section
variable {X : Cx} {E : En} {ks : List Kd} {a b : Expr} {ga gb : Sl → R D} {p p2 q pos : Pos}
theorem se_lrgW (B : Bl X.mg) (ha : SE X E ks .bor a ga) (hb : SE X E ks .bor b gb) (hc : X.calm = true := by rfl) (hg : Gl X "list" := by rfl) (hg2 : Gl X "range" := by rfl)
    (na : starEach [a, b] X.env = (false, eval a X.env) :: starEach [b] X.env := by rfl) (nb : starEach [b] X.env = (false, eval b X.env) :: starEach [] X.env := by rfl) (hp : (backTo q (starEach [b] X.env)).any (·.1) = false := by rfl)
    (ne : starEach [.Call (.Name "range" p2) [a, b] [] q] X.env = (false, eval (.Call (.Name "range" p2) [a, b] [] q) X.env) :: starEach [] X.env := by rfl) :
    SE X E ks (.own none) (.Call (.Name "list" p) [.Call (.Name "range" p2) [a, b] [] q] [] pos) (gBin dRgW ga gb) := by
  refine ⟨fun Hs H r σ W Q tk S P => ?_⟩
  refine we_of (pe_listRgW hc hg B.list (prg_2 hg2 B.range pe_we pe_we na nb hp) ne) ?_
  refine ha.run _ _ _ _ _ _ tk S (P.imp fun d1 v1 Hs1 H1 e1 g1 k1 P1 => ?_)
  refine hb.run _ _ _ _ _ _ tk (S.grow g1) (P1.imp fun d2 v2 Hs2 H2 e2 g2 k2 P2 => ?_)
  cases d1 <;> cases d2 <;> first | exact P2.elim | skip
  rename_i i j
  dsimp only [dRgW] at P2
  split at P2
  · rename_i h
    cases (k1.rb.grow g2).intInv
    cases k2.rb.intInv
    exact ⟨i, j, rfl, rfl, by omega, fun q hq => P2.finL g2.sub hq (rgV_rep i j)⟩
  · exact P2.elim
end
end VL
end

noncomputable section
namespace VL
open PySem PySem.Spec PyProof.Rows L2
variable {md : Md}

theorem OLs.app {cl : Cl} {N : Addr → Prop} {B Hs H : Hp} {k : Kd} : ∀ {ds : List D} {xs : List V} {As : List Addr} {es : List D} {ys : List V} {Bs : List Addr}, OLs cl N B Hs H k ds xs As → OLs cl N B Hs H k es ys Bs → OLs cl N B Hs H k (ds ++ es) (xs ++ ys) (As ++ Bs)
  | _, _, _, _, _, _, .nil, h => h
  | _, _, _, _, _, _, .cons o t, h => by
    rw [List.append_assoc]
    exact .cons o (OLs.app t h)
section
variable {E : En} {Hs H : Hp} {ks : List Kd} {r : Sl} {σ : L2.St} {n m : Option Addr} {k : Kd} {ds es : List D} {v w : V}
end
section
variable {X : Cx} {E : En} {kr : Kd} {fin : List Kd → Prop} {ks ks' : List Kd} {i : Nat} {k : Kd} {x : Str} {e : Expr} {g : Sl → R D} {pos p1 p2 p3 : Pos}
end
section
variable {X : Cx} {E : En} {kr : Kd} {fin : List Kd → Prop} {ks : List Kd} {i j : Nat} {n m : Option Addr} {x y : Str} {e : Expr} {g : Sl → R D} {pos p1 p2 p3 p4 p5 p6 p7 p8 p9 p10 : Pos}
end

section
variable {X : Cx} {E : En} {ks : List Kd} {i j : Nat} {n m : Option Addr} {x y : Str} {scope : Scope} {pos p1 p2 p3 p4 p5 : Pos}
end

end VL
end

noncomputable section
namespace VL
open PySem PySem.Spec PyProof.Rows L2
variable {md : Md}

section
variable {X : Cx} {E : En} {ks : List Kd} {e : Expr} {g : Sl → R D} {C f : Str} {pos : Pos}
end
section
variable {X : Cx} {E : En} {ks : List Kd} {o e : Expr} {es : List Expr} {go : Sl → R D} {t : Sl → R (List D)} {C m : Str} {k : Nat} {b0 : Bool} {bs : List Bool} {kr : Kd} {f : List D → R D} {apos pos : Pos}
theorem RK.kd {cl : Cl} {H0 Hs H : Hp} {d : D} {v : V} {b0 : Bool} (h : RK cl (kdOf b0) H0 Hs H d v) : RB cl Hs H d v := by
  cases b0 with
  | true => exact .val (RK.rep h)
  | false => exact RK.rb h
theorem RAs.kd {cl : Cl} {Hs H H0 Hs' H' : Hp} {d : D} {v : V} {b0 : Bool} {bs : List Bool} {ds : List D} {vs : List V} (h : RK cl (kdOf b0) H0 Hs H d v) (g : Grow Hs H Hs' H') (a : RAs cl Hs' H' bs ds vs) : RAs cl Hs' H' (b0 :: bs) (d :: ds) (v :: vs) := by
  cases b0 with
  | true => exact .val (Rep.same g.s _ _ (RK.rep h)) a
  | false => exact .bor ((RK.rb h).grow g) a
end
section
variable {X : Cx} {E : En} {ks : List Kd} {e o : Expr} {es : List Expr} {t : Sl → R (List D)} {p pos : Pos}
end

section
variable {E : En} {Hs H : Hp} {ks : List Kd} {r : Sl} {σ : L2.St} {i j : Nat} {n : Option Addr} {kk : List (Str × Kd)} {f C : Str} {ds : List (Str × D)}
end
def delD (ds : List (Key × D)) (k : Key) : List (Key × D) := ds.filter fun kv => decide (kv.1 ≠ k)
theorem RepK.del {cl : Cl} {H : Hp} (k : Key) : ∀ {ds : List (Key × D)} {xs : List (Key × V)}, RepK cl H ds xs → RepK cl H (delD ds k) (dropK xs k)
  | [], _, h => by cases h; exact .nil
  | (k0, d) :: ds, _, h => by
    cases h with
    | cons h1 h2 =>
      by_cases c : k0 = k
      · simpa [delD, dropK, List.filter_cons, c] using RepK.del k h2
      · have z := RepK.cons (k := k0) h1 (RepK.del k h2)
        simpa [delD, dropK, List.filter_cons, c] using z
section
variable {X : Cx} {E : En} {fin : List Kd → Prop} {kr : Kd} {ks ks' : List Kd} {i j : Nat} {n m0 : Option Addr} {kk : List (Str × Kd)} {C f x : Str} {e e2 : Expr} {g g2 : Sl → R D} {p0 p1 p2 p3 pos : Pos} {sts : List Stmt} {m : Sl → O}
end
end VL
end

noncomputable section
namespace VL
open PySem PySem.Spec PyProof.Rows L2
variable {md : Md}

section
variable {X : Cx} {E : En} {ks : List Kd} {e f o : Expr} {g gf go : Sl → R D} {pos apos cpos : Pos}
end
section
variable {X : Cx} {E : En} {fin : List Kd → Prop} {kr : Kd} {ks : List Kd} {i : Nat} {n : Option Addr} {x : Str} {e : Expr} {g : Sl → R D} {p1 p2 p3 pos : Pos}
end
end VL
end

noncomputable section
namespace VL
open PySem PySem.Spec PyProof.Rows L2
variable {md : Md}

section
variable {E : En} {Hs H Hs' H' : Hp} {ks : List Kd} {r : Sl} {σ : L2.St}
end
def Kd.nm : Kd → Option Addr
  | .own n => n
  | .obj n _ => n
  | .lls n _ => n
  | _ => none
section
variable {cl : Cl} {N : Addr → Prop} {B Hs H : Hp}
end
section
variable {X : Cx} {E : En} {ks : List Kd} {is : List Nat} {fr : Bool} {bs : List Bool} {es : List Expr} {t : Sl → R (List D)} {i : Nat} {x : Str} {p pos : Pos}
end
@[simp] def pickR : Sl → List Nat → Option (List D)
  | _, [] => some []
  | r, i :: is => match r[i]? with
    | some (some d) => if d.plain then none else (match pickR r is with
      | some ds => some (d :: ds)
      | none => none)
    | _ => none
section
variable {X : Cx} {E : En} {fin : List Kd → Prop} {kr : Kd} {ks ks' : List Kd} {is : List Nat} {kf : List Kd} {k n : Nat} {bs0 : Bool} {k1 k2 : List Kd} {bs : List Bool} {x : Str} {e : Expr} {es : List Expr} {f : List D → O} {t : Sl → R (List D)} {p pos : Pos}
end
end VL
end

noncomputable section
namespace VL
open PySem PySem.Spec PyProof.Rows L2
variable {md : Md}

section
variable {X : Cx} {E : En} {fin : List Kd → Prop} {kr : Kd} {ks ks' : List Kd} {i : Nat} {n : Option Addr} {x : Str} {p1 p2 p3 pos : Pos}
end

section
variable {X : Cx} {E : En} {fin : List Kd → Prop} {kr : Kd} {ks ks' : List Kd} {k : Nat} {b0 : Bool} {bs : List Bool} {x : Str} {e : Expr} {es : List Expr} {f : List D → R D} {g : Sl → O} {t : Sl → R (List D)} {p pos : Pos}
end

section
variable {X : Cx} {E : En} {fin : List Kd → Prop} {kr : Kd} {ks ks1 ks' : List Kd} {e a b : Expr} {rest : List Expr} {g ga : Sl → O} {tb : Sl → R Bool} {m1 m2 : Sl → O} {s1 s2 : List Stmt} {pos : Pos}
end
end VL
end

noncomputable section
namespace VL
open PySem PySem.Spec PyProof.Rows L2
open ModeZ

/-- the lambda object at f, with its code object at cN -/
def LamO (X : Cx) (f cN : Addr) (params : Arguments) (body : Expr) (scope : Scope) : HO := .ext fun h => ∃ pm ctv : Value, h.get? f = some (PySem.W.kla_obj "<lambda>" (X.env.qual ++ "<lambda>") params body scope (cloFrom X.env.cells scope.names []) pm cN ctv)
theorem lamO_nt {X : Cx} {f cN : Addr} {params : Arguments} {body : Expr} {scope : Scope} : NT (LamO X f cN params body scope) := fun ps z => by
  unfold LamO at z
  cases z
section
variable {X : Cx} {pins : List (Addr × Obj)} {σ : L2.St} {H : Hp} {s : Shared}
end
section
variable {X : Cx} {E : En} {fin : List Kd → Prop} {kr : Kd} {ks ks' : List Kd} {k : Nat}
/-- at f stands a lambda that does what g tells -/
def Acts (X : Cx) (E : En) (fin : List Kd → Prop) (kr : Kd) (ks ks' : List Kd) (k : Nat) (f : Addr) (H : Hp) (g : Sl → O) : Prop := ∃ (params : Arguments) (body : Expr) (scope : Scope) (cN : Addr), H f = some (LamO X f cN params body scope) ∧ H cN = some (LamX.CodeO cN (X.env.qual ++ "<lambda>")) ∧ LamX.LamS X.env.scope scope ∧
  (∀ (q : Str) (cl : List (Str × Addr)) (pm cv ctv : Value), bindArgs (PySem.W.kla_fn "<lambda>" q params body scope cl pm cv ctv) ⟨[], []⟩ = pure []) ∧
  ∀ (A : Around) (outer : List Env) (s1 : Shared) (H1 : Hp) (Ex : XK), Room k (A.deeper (LamX.lamEnv X scope s1.heap.objs.size f cN)) → SX (LamX.lamCx X A outer s1 H1 Ex scope f cN) E fin ks kr body g ks'
theorem Acts.same {f : Addr} {H H' : Hp} {g : Sl → O} (h : Acts X E fin kr ks ks' k f H g) (e : Same H H') : Acts X E fin kr ks ks' k f H' g := by
  obtain ⟨params, body, scope, cN, h1, h2, h3⟩ := h
  exact ⟨params, body, scope, cN, e.at _ _ h1 lamO_nt, e.at _ _ h2 (fun ps => codeO_tbl ps), h3⟩
def AllC (X : Cx) (E : En) (fin : List Kd → Prop) (kr : Kd) (ks ks' : List Kd) (k : Nat) (H : Hp) : List (Str × (Sl → O)) → List (Str × Addr) → Prop
  | [], [] => True
  | p :: gs, q :: fs => p.1 = q.1 ∧ Acts X E fin kr ks ks' k q.2 H p.2 ∧ AllC X E fin kr ks ks' k H gs fs
  | _, _ => False
theorem AllC.same {H H' : Hp} (e : Same H H') : ∀ {gs : List (Str × (Sl → O))} {fs : List (Str × Addr)}, AllC X E fin kr ks ks' k H gs fs → AllC X E fin kr ks ks' k H' gs fs
  | [], [], h => h
  | [], _ :: _, h => h.elim
  | _ :: _, [], h => h.elim
  | p :: gs, q :: fs, h => ⟨h.1, h.2.1.same e, AllC.same e h.2.2⟩
theorem AllC.imp {H H' : Hp} (e : ∀ b o, H b = some o → o ≠ .dK [] → H' b = some o) : ∀ {gs : List (Str × (Sl → O))} {fs : List (Str × Addr)}, AllC X E fin kr ks ks' k H gs fs → AllC X E fin kr ks ks' k H' gs fs
  | [], [], h => h
  | [], _ :: _, h => h.elim
  | _ :: _, [], h => h.elim
  | p :: gs, q :: fs, h => by
    obtain ⟨h1, ⟨params, body, scope, cN, b1, b2, b3⟩, h3⟩ := h
    exact ⟨h1, ⟨params, body, scope, cN, e _ _ b1 (fun z => by unfold LamO at z; cases z), e _ _ b2 (fun z => by unfold LamX.CodeO at z; cases z), b3⟩, AllC.imp e h3⟩
end
end VL
end

noncomputable section
namespace VL
open PySem PySem.Spec PyProof.Rows L2
open ModeZ

section
variable {X : Cx} {E : En} {kr : Kd} {fin : List Kd → Prop} {ks ks' : List Kd}
end
end VL
end

noncomputable section
namespace VL
open PySem PySem.Spec PyProof.Rows L2
open ModeZ

theorem XRep.same {cl : Cl} {Hs Hs' H H' : Hp} {x : Exc} {c : Value} {dd : Option Addr} (e : Same Hs Hs') (h : XRep cl Hs H x c dd) : XRep cl Hs' H' x c dd := by
  obtain ⟨a, e1, e2, e3⟩ := h
  refine ⟨a, e1, e2, ?_⟩
  cases q : x.at_ with
  | none => rw [q] at e3; exact e3
  | some d =>
    rw [q] at e3
    obtain ⟨p, v, f1, f2, f3⟩ := e3
    exact ⟨p, v, f1, e.at _ _ f2, Rep.same e _ _ f3⟩
end VL
end

noncomputable section
namespace VL
open PySem PySem.Spec PyProof.Rows L2
section
variable {md : Md}
section
variable {P : Program} {w : World} {K : PySem.W.Frag} {mg : Str → Option Value} {base : Heap} {cl : Cl} {x qual : Str} {st : Stmt} {fa : Addr} {fd : FuncData} {N ps : List Str} {k : Nat} {bs : List Bool} {kr : Kd} {k1 k2 ls : List Kd} {m : Sl → O}
end
section
variable {X : Cx} {E : En} {fin : List Kd → Prop} {kr : Kd} {ks ks' : List Kd} {is : List Nat} {kf : List Kd} {k n : Nat} {bs0 : Bool} {k1 k2 : List Kd} {bs : List Bool} {x : Str} {e : Expr} {es : List Expr} {f : List D → O} {t : Sl → R (List D)} {p pos : Pos} {kz : Kd}
end
end
open ModeZ
end VL
end

noncomputable section
namespace VL
open PySem PySem.Spec PyProof.Rows L2
variable {md : Md}

def zipD (ds es : List D) : List D := (ds.zip es).map fun p => .tup [p.1, p.2]
theorem zipD_get {ds es : List D} {i : Nat} {d : D} (h : (zipD ds es)[i]? = some d) : ∃ d0 e0, ds[i]? = some d0 ∧ es[i]? = some e0 ∧ d = .tup [d0, e0] := by
  unfold zipD at h
  rw [List.getElem?_map] at h
  cases q : (ds.zip es)[i]? with
  | none => rw [q] at h; cases h
  | some p =>
    rw [q] at h
    obtain ⟨h1, h2⟩ := List.getElem?_zip_eq_some.mp q
    cases h
    exact ⟨_, _, h1, h2, rfl⟩
theorem zipD_len (ds es : List D) : (zipD ds es).length = min ds.length es.length := by unfold zipD; rw [List.length_map, List.length_zip]
theorem ItOk.zip {K : PySem.W.Frag} {cl : Cl} {a b : Addr} {xs ys : List V} {ds es : List D} {Hs Bq : Hp} (rp : RepL cl Hs ds xs) (rp2 : RepL cl Hs es ys) (rt : ∀ Hs' H, Same Hs Hs' → Same Hs' H → Same Bq H → H a = some (.lst xs)) (rt2 : ∀ Hs' H, Same Hs Hs' → Same Hs' H → Same Bq H → H b = some (.lst ys)) (hz : xs.length ≤ szL) : ItOk cl (Itz K a b) (zipD ds es) Hs Bq where
  len := by rw [zipD_len, ← rp.length]; omega
  go := fun Hs' H e1 e2 e3 i hi => by
    rw [zipD_len] at hi
    obtain ⟨v, e, _⟩ := rp.get (d := ds[i]'(by omega)) (i := i) (by simp)
    obtain ⟨v2, e', _⟩ := rp2.get (d := es[i]'(by omega)) (i := i) (by simp)
    exact ⟨xs, ys, v, v2, SqL.of (rt Hs' H e1 e2 e3), SqL.of (rt2 Hs' H e1 e2 e3), e, e'⟩
  stop := fun Hs' H e1 e2 e3 => ⟨xs, ys, SqL.of (rt Hs' H e1 e2 e3), SqL.of (rt2 Hs' H e1 e2 e3), by rw [zipD_len, rp.length, rp2.length]; omega⟩
  yld := fun Hs' H e1 e2 e3 i d x H' hd y => by
    obtain ⟨T, v, v2, rfl, hT, rfl, y1, y2⟩ := y
    obtain ⟨d0, e0, h1, h2, rfl⟩ := zipD_get hd
    obtain ⟨u, eu, ru⟩ := rp.get h1
    obtain ⟨u2, eu2, ru2⟩ := rp2.get h2
    have q := y1 xs (SqL.of (rt Hs' _ e1 e2 e3))
    have q2 := y2 ys (SqL.of (rt2 Hs' _ e1 e2 e3))
    rw [eu] at q
    cases q
    rw [eu2] at q2
    cases q2
    have gs := e1.trans (Same.updNew (o := .tup [v, v2]) (e2.free hT))
    exact ⟨_, Grow.new e2 hT, .tup upd_same (.cons (Rep.same gs _ _ ru) (.cons (Rep.same gs _ _ ru2) .nil))⟩
section
variable {X : Cx} {E : En} {ks : List Kd} {mb : Bool} {e e2 : Expr} {g g2 : Sl → R D} {p pos : Pos}
end
end VL
end

noncomputable section
namespace VL
open PySem PySem.Spec PyProof.Rows L2
variable {md : Md}

section
variable {X : Cx} {E : En} {fin : List Kd → Prop} {kr : Kd} {ks ks' : List Kd} {i j : Nat} {n : Option Addr} {kk : List (Str × Kd)} {C f x : Str} {e : Expr} {g : Sl → O} {p0 p1 p2 p3 pos : Pos}
end

section
variable {X : Cx} {E : En} {fin : List Kd → Prop} {kr : Kd} {ks ks' ks1 : List Kd} {e a b : Expr} {rest : List Expr} {g ga gb : Sl → O} {gv : Sl → R D} {pos : Pos}
theorem PostX.bool {W : WX} {σ : L2.St} {Q1 Q : VK} {o : O} {kk : Bool → Sl → O} (P : PostX E ks1 .val fin W σ Q (onX o fun d r' => match d with
      | .bl b => kk b r'
      | _ => .stuck)) (h : ∀ b r' Hs' H', StRel E Hs' H' ks1 r' σ → PostX E ks1 .val fin W σ Q (kk b r') → Q1 (.bl b) H') : PostX E ks1 .val fin W σ Q1 o := by
  cases o with
  | stuck => exact P.elim
  | nx r => exact P.elim
  | exc x r => exact P
  | rt d r =>
    cases d <;> first | exact P.elim | skip
    rename_i b
    intro v Hs' H' S1
    obtain ⟨w, A, ew, o⟩ := S1.get (i := 0) rfl rfl
    cases ew
    cases o with
    | val rp =>
      cases rp
      exact h b r Hs' H' S1.pop P
end
end VL
end

noncomputable section
namespace VL
open PySem PySem.Spec PyProof.Rows L2
variable {md : Md}

section
variable {X : Cx} {E : En} {ks : List Kd} {a b : Expr} {ga gb : Sl → R D} {p p2 q pos : Pos}
end
end VL
end

noncomputable section
namespace VL
open PySem PySem.Spec PyProof.Rows L2
variable {md : Md}

section
variable {X : Cx} {E : En} {ks : List Kd} {a : Expr} {ga : Sl → R D} {x : Str} {l : List (Str × Str)} {p pos : Pos}
end
end VL
end

noncomputable section
namespace VL
open PySem PySem.Spec PyProof.Rows L2
variable {md : Md}

section
variable {X : Cx} {E : En} {ks : List Kd} {a b c : Expr} {ta : TA} {p p2 q pos : Pos} {t : Sl → R (List D)}
end
end VL
end

noncomputable section
namespace VL
open PySem PySem.Spec PyProof.Rows L2
variable {md : Md}

section
variable {X : Cx} {E : En} {ks : List Kd} {e : Expr} {g : Sl → R D} {x : Str} {j : Nat} {kp pos : Pos}
end
end VL
end

noncomputable section
namespace CW
open PySem PySem.Spec PyProof.Rows L2 VL
def b_look_row_1 : Sl → O := (mSeq (mIf (gTest (gBin dLe (gBin dIdx (gVar 0) (gVar 1)) (gBin dIdx (gVar 0) (gBin dSub (gVar 1) (gC (.int 1))))))
  (mSeq (mRaiseAt "BadRow" (gVar 1))
  mNil)
  mNil)
  mNil)
def m_look_row : Sl → O := (mSeq (mIf (gTest (gBin dGt (gCall fLen (gCons (gVar 0) gNil)) (gC (.int 60))))
  (mSeq (mRaise "TooMany")
  mNil)
  mNil)
  (mSeq (mFor (gRange2 (gC (.int 1)) (gCall fLen (gCons (gVar 0) gNil))) (.one 1) b_look_row_1)
  mNil))
def f_look_row : List D → R D := runF m_look_row 1

def b_runs_of_1 : Sl → O := (mSeq (mIf (gAnd (gTest (gBin dNe (gVar 1) (gLst gNil))) (gTest (gBin dEq (gBin dIdx (gBin dIdx (gVar 1) (gUn dNeg (gC (.int 1)))) (gC (.int 1))) (gBin dSub (gVar 2) (gC (.int 1))))))
  (mSeq (mSetI 1 (gUn dNeg (gC (.int 1))) (gTup (gCons (gBin dIdx (gBin dIdx (gVar 1) (gUn dNeg (gC (.int 1)))) (gC (.int 0))) (gCons (gVar 2) gNil))))
  mNil)
  (mSeq (mApp 1 (gTup (gCons (gVar 2) (gCons (gVar 2) gNil))))
  mNil))
  mNil)
def m_runs_of : Sl → O := (mSeq (mSet 1 (gLst gNil))
  (mSeq (mFor (gIter (gVar 0)) (.one 2) b_runs_of_1)
  (mSeq (mRetV 1)
  mNil)))
def f_runs_of : List D → R D := runF m_runs_of 2

def b_closings_1 : Sl → O := (mSeq (mPutX 1 (mPop 2) (gVar 5))
  (mSeq (mAugI 5 dIAdd (gC (.int 1)))
  mNil))
def b_closings_2 : Sl → O := (mSeq (mApp 2 (gVar 4))
  (mSeq (mSet 5 (gBin dAdd (gVar 4) (gC (.int 1))))
  (mSeq (whileL (gAnd (gTest (gBin dNe (gVar 2) (gLst gNil))) (gOr (gTest (gBin dEq (gBin dAdd (gVar 3) (gC (.int 1))) (gCall fLen (gCons (gVar 0) gNil)))) (gTest (gBin dLt (gVar 5) (gBin dIdx (gVar 0) (gBin dAdd (gVar 3) (gC (.int 1)))))))) b_closings_1 WB)
  mNil)))
def m_closings : Sl → O := (mSeq (mExpr (gCall f_look_row (gCons (gVar 0) gNil)))
  (mSeq (mSet 1 (gC (.dct [])))
  (mSeq (mSet 2 (gLst gNil))
  (mSeq (mFor (gEnumerate (gVar 0)) (.tup [3, 4]) b_closings_2)
  (mSeq (mRet (gComp (gIter (gVar 0)) (.one 4) [4] gYes (gTup (gCons (gVar 4) (gCons (gBin dDix (gVar 1) (gVar 4)) gNil)))))
  mNil)))))
def f_closings : List D → R D := runF m_closings 5

def m_look_creel : Sl → O := (mSeq (mIf (gTest (gBin dLt (gVar 0) (gC (.int 1))))
  (mSeq (mRaise "BadCreel")
  mNil)
  mNil)
  mNil)
def f_look_creel : List D → R D := runF m_look_creel 0

def m_laid_from : Sl → O := (mSeq (mRet (gComp (gRange1 (gVar 1)) (.one 2) [2] gYes (gBin dAdd (gVar 0) (gVar 2))))
  mNil)
def f_laid_from : List D → R D := runF m_laid_from 1

def m_Walk___init__ : Sl → O := (mSeq (mFldNew "Walk" "creel" 0 (gVar 1))
  (mSeq (mFldNew "Walk" "load" 0 (gC (.int 0)))
  (mSeq (mFldNew "Walk" "next_niche" 0 (gC (.int 0)))
  (mSeq (mFldNew "Walk" "fresh" 0 (gLst gNil))
  (mSeq (mFldNew "Walk" "picked" 0 (gC (.int 0)))
  mNil)))))
def f_Walk___init__ : List D → O := runIni m_Walk___init__ 0

def m_Walk_come_to : Sl → O := (mSeq (mSet 2 (gCall fMin2 (gCons (gFld "Walk" 0 1) (gCons (gBin dSub (gVar 1) (gFld "Walk" 0 2)) gNil))))
  (mSeq (mFldExt "Walk" "fresh" 0 3 (gCall f_laid_from (gCons (gFld "Walk" 0 2) (gCons (gVar 2) gNil))))
  (mSeq (mFldAug "Walk" "load" 0 1 dSub (gVar 2))
  mNil)))
def f_Walk_come_to : List D → O := runM m_Walk_come_to 1 1

def m_Walk_meet : Sl → O := (mSeq (mIf (gTest (gBin dGt (gFld "Walk" 0 1) (gC (.int 0))))
  (mSeq (mExprX (mMeth "Walk" 0 f_Walk_come_to (gCons (gVar 1) gNil)))
  mNil)
  mNil)
  (mSeq (mIf (gTest (gBin dLt (gFld "Walk" 0 1) (gFld "Walk" 0 0)))
  (mSeq (mFldAug "Walk" "load" 0 1 dIAdd (gC (.int 1)))
  (mSeq (mFldAug "Walk" "picked" 0 4 dIAdd (gC (.int 1)))
  mNil))
  (mSeq (mFldApp "Walk" "fresh" 0 3 (gVar 1))
  mNil))
  (mSeq (mFldPut "Walk" "next_niche" 0 2 (gBin dAdd (gVar 1) (gC (.int 1))))
  mNil)))
def f_Walk_meet : List D → O := runM m_Walk_meet 1 0

def m_Walk_end : Sl → O := (mSeq (mFldExt "Walk" "fresh" 0 3 (gCall f_laid_from (gCons (gFld "Walk" 0 2) (gCons (gFld "Walk" 0 1) gNil))))
  (mSeq (mFldPut "Walk" "load" 0 1 (gC (.int 0)))
  mNil))
def f_Walk_end : List D → O := runM m_Walk_end 1 0

def b_walk_there_1 : Sl → O := (mSeq (mExprX (mMeth "Walk" 2 f_Walk_meet (gCons (gVar 3) gNil)))
  mNil)
def m_walk_there : Sl → O := (mSeq (mSet 2 (gCall (dMake "Walk" f_Walk___init__) (gCons (gVar 1) gNil)))
  (mSeq (mFor (gIter (gVar 0)) (.one 3) b_walk_there_1)
  (mSeq (mExprX (mMeth "Walk" 2 f_Walk_end gNil))
  (mSeq (mRetV 2)
  mNil))))
def f_walk_there : List D → R D := runFO m_walk_there 2

def m_walked : Sl → O := (mSeq (mExpr (gCall f_look_row (gCons (gVar 0) gNil)))
  (mSeq (mExpr (gCall f_look_creel (gCons (gVar 1) gNil)))
  (mSeq (mRet (gUn (oFld "Walk" 3) (gCall f_walk_there (gCons (gVar 0) (gCons (gVar 1) gNil)))))
  mNil)))
def f_walked : List D → R D := runF m_walked 0

def b_peel_1 : Sl → O := (mSeq (mExt 1 (gComp (gRange2 (gVar 3) (gVar 4)) (.one 5) [5] gYes (gBin dSub (gVar 5) (gVar 2))))
  (mSeq (mAugI 2 dIAdd (gC (.int 2)))
  mNil))
def m_peel : Sl → O := (mSeq (mSet 1 (gLst gNil))
  (mSeq (mSet 2 (gC (.int 0)))
  (mSeq (mFor (gIter (gCall f_runs_of (gCons (gVar 0) gNil))) (.tup [3, 4]) b_peel_1)
  (mSeq (mRetV 1)
  mNil))))
def f_peel : List D → R D := runF m_peel 5

def b_rounds_1 : Sl → O := (mSeq (mApp 1 (gCall fLen (gCons (gCall f_runs_of (gCons (gVar 0) gNil)) gNil)))
  (mSeq (mSet 0 (gCall f_peel (gCons (gVar 0) gNil)))
  mNil))
def m_rounds : Sl → O := (mSeq (mExpr (gCall f_look_row (gCons (gVar 0) gNil)))
  (mSeq (mSet 1 (gLst gNil))
  (mSeq (whileL (gTest (gBin dNe (gVar 0) (gLst gNil))) b_rounds_1 WB)
  (mSeq (mRetV 1)
  mNil))))
def f_rounds : List D → R D := runF m_rounds 1

def b_sizes_of_1 : Sl → O := (mSeq (mSet 3 (gC (.int 0)))
  (mSeq (mIf (gTest (gBin dLt (gBin dAdd (gVar 2) (gC (.int 1))) (gCall fLen (gCons (gVar 0) gNil))))
  (mSeq (mSet 3 (gBin dIdx (gVar 0) (gBin dAdd (gVar 2) (gC (.int 1)))))
  mNil)
  mNil)
  (mSeq (mExt 1 (gBin dMul (gLst (gCons (gBin dAdd (gVar 2) (gC (.int 1))) gNil)) (gBin dSub (gBin dIdx (gVar 0) (gVar 2)) (gVar 3))))
  mNil)))
def m_sizes_of : Sl → O := (mSeq (mSet 1 (gLst gNil))
  (mSeq (mFor (gRange1 (gCall fLen (gCons (gVar 0) gNil))) (.one 2) b_sizes_of_1)
  (mSeq (mRetV 1)
  mNil)))
def f_sizes_of : List D → R D := runF m_sizes_of 3

def m_sizes_by_rounds : Sl → O := (mSeq (mRet (gCall f_sizes_of (gCons (gCall f_rounds (gCons (gVar 0) gNil)) gNil)))
  mNil)
def f_sizes_by_rounds : List D → R D := runF m_sizes_by_rounds 0

def b_road_of_1 : Sl → O := (mSeq (mIf (gTest (gBin dNe (gVar 1) (gLst gNil)))
  (mSeq (mSet 4 (gBin dIdx (gBin dIdx (gBin dIdx (gVar 1) (gUn dNeg (gC (.int 1)))) (gC (.int 1))) (gUn dNeg (gC (.int 1)))))
  (mSeq (mApp 1 (gTup (gCons (gC (.bl false)) (gCons (gBin dRgW (gBin dAdd (gVar 4) (gC (.int 1))) (gCall fMin2 (gCons (gVar 2) (gCons (gBin dAdd (gBin dAdd (gVar 4) (gC (.int 2))) (gCall fLen (gCons (gVar 0) gNil))) gNil)))) gNil))))
  mNil))
  mNil)
  (mSeq (mApp 1 (gTup (gCons (gC (.bl true)) (gCons (gBin dRgW (gVar 2) (gBin dAdd (gVar 3) (gC (.int 1)))) gNil))))
  mNil))
def m_road_of : Sl → O := (mSeq (mSet 1 (gLst gNil))
  (mSeq (mFor (gIter (gCall f_runs_of (gCons (gVar 0) gNil))) (.tup [2, 3]) b_road_of_1)
  (mSeq (mSet 4 (gBin dIdx (gBin dIdx (gBin dIdx (gVar 1) (gUn dNeg (gC (.int 1)))) (gC (.int 1))) (gUn dNeg (gC (.int 1)))))
  (mSeq (mApp 1 (gTup (gCons (gC (.bl false)) (gCons (gBin dRgW (gBin dAdd (gVar 4) (gC (.int 1))) (gBin dAdd (gBin dAdd (gVar 4) (gC (.int 1))) (gCall fLen (gCons (gVar 0) gNil)))) gNil))))
  (mSeq (mRetV 1)
  mNil)))))
def f_road_of : List D → R D := runF m_road_of 4

def b_joined_runs_1 : Sl → O := (mSeq (mIf (gAnd (gTest (gBin dNe (gVar 3) (gLst gNil))) (gOr (gTest (gBin dNe (gVar 1) (gLst gNil))) (gTruth (gVar 2))))
  (mSeq (mIf (gAnd (gTest (gBin dNe (gVar 1) (gLst gNil))) (gTest (gBin dEq (gBin dIdx (gBin dIdx (gVar 1) (gUn dNeg (gC (.int 1)))) (gC (.int 0))) (gVar 2))))
  (mSeq (mSetI 1 (gUn dNeg (gC (.int 1))) (gTup (gCons (gVar 2) (gCons (gBin dAdd (gBin dIdx (gBin dIdx (gVar 1) (gUn dNeg (gC (.int 1)))) (gC (.int 1))) (gVar 3)) gNil))))
  mNil)
  (mSeq (mApp 1 (gTup (gCons (gVar 2) (gCons (gVar 3) gNil))))
  mNil))
  mNil)
  mNil)
  mNil)
def m_joined_runs : Sl → O := (mSeq (mSet 1 (gLst gNil))
  (mSeq (mFor (gIter (gVar 0)) (.tup [2, 3]) b_joined_runs_1)
  (mSeq (mRetV 1)
  mNil)))
def f_joined_runs : List D → R D := runF m_joined_runs 3

def b_parted_run_1 : Sl → O := (mSeq (mAugI 1 dIAdd (gC (.int 1)))
  mNil)
def m_parted_run : Sl → O := (mSeq (mSet 1 (gC (.int 1)))
  (mSeq (whileL (gTest (gBin dLt (gCall fLen (gCons (gBin dIdx (gBin dIdx (gVar 0) (gVar 1)) (gC (.int 1))) gNil)) (gCall fLen (gCons (gBin dIdx (gBin dIdx (gVar 0) (gBin dSub (gVar 1) (gC (.int 1)))) (gC (.int 1))) gNil)))) b_parted_run_1 WB)
  (mSeq (mRet (gVar 1))
  mNil)))
def f_parted_run : List D → R D := runF m_parted_run 1

def b_heads_1 : Sl → O := (mSeq (mSet 3 (gCall f_parted_run (gCons (gVar 2) gNil)))
  (mSeq (mSet 4 (gBin dIdx (gVar 2) (gBin dSub (gVar 3) (gC (.int 1)))))
  (mSeq (mSet 5 (gCall fLen (gCons (gBin dIdx (gVar 4) (gC (.int 1))) gNil)))
  (mSeq (mSet 6 (gTup (gCons (gCall fTuple (gCons (gBin dIdx (gVar 4) (gC (.int 1))) gNil)) (gCons (gCall fTuple (gCons (gSl (gBin dIdx (gBin dIdx (gVar 2) (gVar 3)) (gC (.int 1))) gNoPart (gPart (gVar 5))) gNil)) gNil))))
  (mSeq (mIf (gNot (gTruth (gBin dIdx (gVar 4) (gC (.int 0)))))
  (mSeq (mSet 6 (gTup (gCons (gBin dIdx (gVar 6) (gC (.int 1))) (gCons (gBin dIdx (gVar 6) (gC (.int 0))) gNil))))
  mNil)
  mNil)
  (mSeq (mApp 1 (gBin dAdd (gTup (gCons (gVar 5) gNil)) (gVar 6)))
  (mSeq (mSetI 2 (gVar 3) (gTup (gCons (gBin dIdx (gBin dIdx (gVar 2) (gVar 3)) (gC (.int 0))) (gCons (gSl (gBin dIdx (gBin dIdx (gVar 2) (gVar 3)) (gC (.int 1))) (gPart (gVar 5)) gNoPart) gNil))))
  (mSeq (mSet 2 (gCall f_joined_runs (gCons (gBin dAdd (gSl (gVar 2) gNoPart (gPart (gBin dSub (gVar 3) (gC (.int 1))))) (gSl (gVar 2) (gPart (gVar 3)) gNoPart)) gNil)))
  mNil))))))))
def m_heads : Sl → O := (mSeq (mExpr (gCall f_look_row (gCons (gVar 0) gNil)))
  (mSeq (mSet 1 (gLst gNil))
  (mSeq (mSet 2 (gIf (gTest (gBin dEq (gVar 0) (gLst gNil))) (gLst gNil) (gCall f_road_of (gCons (gVar 0) gNil))))
  (mSeq (whileL (gTest (gBin dNe (gVar 2) (gLst gNil))) b_heads_1 WB)
  (mSeq (mRet (gComp (gIter (gUn dSortD (gVar 1))) (.tup [5, 7, 8]) [5, 7, 8] gYes (gTup (gCons (gVar 7) (gCons (gVar 8) gNil)))))
  mNil)))))
def f_heads : List D → R D := runF m_heads 8

def b_numbers_L_1 : Sl → O := (mSeq (mIf (gTest (gBin dGt (gVar 5) (gC (.int 0))))
  (mSeq (mApp 2 (gBin dMod (gVar 5) (gC (.int 1013))))
  (mSeq (mSet 5 (gBin dFdiv (gVar 5) (gC (.int 1013))))
  mNil))
  mNil)
  mNil)
def b_numbers_L_2 : Sl → O := (mSeq (mSet 3 (gBin dMod (gBin dAdd (gBin dAdd (gBin dMul (gVar 3) (gC (.int 40014))) (gBin dMod (gVar 4) (gC (.int 999983)))) (gC (.int 29))) (gC (.int 2147483563))))
  (mSeq (mSet 5 (gBin dSub (gVar 4) (gBin dPow (gC (.int 10)) (gC (.int 18)))))
  (mSeq (mIf (gTest (gBin dLt (gVar 5) (gC (.int 0))))
  (mSeq (mApp 2 (gBin dMod (gVar 4) (gC (.int 9967))))
  mNil)
  mNil)
  (mSeq (mFor (gRange1 (gC (.int 60))) (.one 6) b_numbers_L_1)
  mNil))))
def b_numbers_L_3 : Sl → O := (mSeq (mSet 3 (gBin dMod (gBin dAdd (gBin dAdd (gBin dAdd (gBin dMul (gVar 3) (gVar 3)) (gBin dMul (gC (.int 52774)) (gVar 3))) (gBin dMul (gC (.int 13)) (gCall fLen (gCons (gVar 2) gNil)))) (gC (.int 7))) (gC (.int 2147483629))))
  (mSeq (mApp 2 (gBin dMod (gBin dFdiv (gVar 3) (gC (.int 1019))) (gC (.int 9967))))
  mNil))
def m_numbers_L : Sl → O := (mSeq (mSet 2 (gLst gNil))
  (mSeq (mSet 3 (gC (.int 59)))
  (mSeq (mFor (gIter (gSlS (gVar 0) gNoPart (gPart (gC (.int 63))))) (.one 4) b_numbers_L_2)
  (mSeq (whileL (gTest (gBin dLt (gCall fLen (gCons (gVar 2) gNil)) (gVar 1))) b_numbers_L_3 WB)
  (mSeq (mRet (gSl (gVar 2) gNoPart (gPart (gVar 1))))
  mNil)))))
def f_numbers_L : List D → R D := runF m_numbers_L 5

def b_row_L_1 : Sl → O := (mSeq (mSet 5 (gBin dIdx (gVar 0) (gBin dAdd (gC (.int 3)) (gVar 4))))
  (mSeq (mSet 2 (gBin dAdd (gBin dAdd (gVar 2) (gC (.int 1))) (gIf (gTest (gBin dEq (gBin dMod (gVar 5) (gC (.int 3))) (gC (.int 0)))) (gC (.int 0)) (gBin dMod (gBin dFdiv (gVar 5) (gC (.int 3))) (gBin dIdx (gLst (gCons (gC (.int 2)) (gCons (gC (.int 3)) (gCons (gC (.int 5)) (gCons (gC (.int 12)) gNil))))) (gBin dMod (gBin dIdx (gVar 0) (gC (.int 2))) (gC (.int 4))))))))
  (mSeq (mApp 3 (gVar 2))
  mNil)))
def m_row_L : Sl → O := (mSeq (mSet 2 (gBin dSub (gBin dMod (gBin dIdx (gVar 0) (gC (.int 0))) (gC (.int 31))) (gC (.int 15))))
  (mSeq (mSet 3 (gLst gNil))
  (mSeq (mFor (gRange1 (gBin dMod (gBin dIdx (gVar 0) (gC (.int 1))) (gBin dAdd (gVar 1) (gC (.int 1))))) (.one 4) b_row_L_1)
  (mSeq (mRetV 3)
  mNil))))
def f_row_L : List D → R D := runF m_row_L 4

def m_long_row_L : Sl → O := (mSeq (mSet 2 (gCall f_row_L (gCons (gVar 0) (gCons (gVar 1) gNil))))
  (mSeq (mSet 3 (gBin dMod (gBin dFdiv (gBin dIdx (gVar 0) (gC (.int 2))) (gC (.int 4))) (gBin dAdd (gCall fLen (gCons (gVar 2) gNil)) (gC (.int 1)))))
  (mSeq (mSet 4 (gBin dIdx (gLst (gCons (gC (.int 0)) (gCons (gBin dPow (gC (.int 10)) (gC (.int 3))) (gCons (gBin dPow (gC (.int 10)) (gC (.int 12))) (gCons (gBin dPow (gC (.int 10)) (gC (.int 40))) gNil))))) (gBin dMod (gBin dFdiv (gBin dIdx (gVar 0) (gC (.int 2))) (gC (.int 64))) (gC (.int 4)))))
  (mSeq (mRet (gBin dAdd (gSl (gVar 2) gNoPart (gPart (gVar 3))) (gComp (gIter (gSl (gVar 2) (gPart (gVar 3)) gNoPart)) (.one 5) [5] gYes (gBin dAdd (gVar 5) (gVar 4)))))
  mNil))))
def f_long_row_L : List D → R D := runF m_long_row_L 4

def b_all_L_1 : Sl → O := (mSeq (mSet 2 (gBin dAdd (gVar 2) (gCall fList (gCons (gBin dIdx (gVar 3) (gVar 1)) gNil))))
  mNil)
def m_all_L : Sl → O := (mSeq (mSet 2 (gLst gNil))
  (mSeq (mFor (gIter (gVar 0)) (.one 3) b_all_L_1)
  (mSeq (mRet (gCall fSorted (gCons (gVar 2) gNil)))
  mNil)))
def f_all_L : List D → R D := runF m_all_L 2

def b_law_1 : Sl → O := (mSeq (mSet 4 (gCall f_heads (gCons (gCall fList (gCons (gVar 2) gNil)) gNil)))
  (mSeq (mIf (gTest (gBin dNe (gCall f_all_L (gCons (gVar 4) (gCons (gC (.int 0)) gNil))) (gVar 2)))
  (mSeq (mRet (gC (.bl false)))
  mNil)
  mNil)
  (mSeq (mIf (gTest (gBin dNe (gCall f_all_L (gCons (gVar 4) (gCons (gC (.int 1)) gNil))) (gCall fSorted (gCons (gComp (gIter (gCall f_closings (gCons (gCall fList (gCons (gVar 2) gNil)) gNil))) (.tup [5, 6]) [5, 6] gYes (gVar 6)) gNil))))
  (mSeq (mRet (gC (.bl false)))
  mNil)
  mNil)
  (mSeq (mIf (gTest (gBin dNe (gCall fSorted (gCons (gComp (gIter (gVar 4)) (.tup [7, 8]) [7, 8] gYes (gCall fLen (gCons (gVar 7) gNil))) gNil)) (gCall f_sizes_by_rounds (gCons (gCall fList (gCons (gVar 2) gNil)) gNil))))
  (mSeq (mRet (gC (.bl false)))
  mNil)
  mNil)
  (mSeq (mSet 2 (gCall f_walked (gCons (gCall fList (gCons (gVar 2) gNil)) (gCons (gCall fMax2 (gCons (gC (.int 1)) (gCons (gCall fLen (gCons (gVar 2) gNil)) gNil))) gNil))))
  (mSeq (mIf (gTest (gBin dNe (gUn dSortD (gComp (gIter (gVar 4)) (.tup [7, 8]) [7, 8] gYes (gVar 8))) (gUn dSortD (gComp (gIter (gCall f_heads (gCons (gCall fList (gCons (gVar 2) gNil)) gNil))) (.tup [7, 8]) [7, 8] gYes (gVar 7)))))
  (mSeq (mRet (gC (.bl false)))
  mNil)
  mNil)
  mNil))))))
def m_law : Sl → O := (mSeq (mSet 1 (gCall f_numbers_L (gCons (gVar 0) (gCons (gC (.int 50)) gNil))))
  (mSeq (mSet 2 (gCall f_long_row_L (gCons (gSl (gVar 1) (gPart (gC (.int 3))) gNoPart) (gCons (gBin dIdx (gLst (gCons (gC (.int 5)) (gCons (gC (.int 12)) (gCons (gC (.int 30)) gNil)))) (gBin dMod (gBin dIdx (gVar 1) (gC (.int 0))) (gC (.int 3)))) gNil))))
  (mSeq (mFor (gRange1 (gC (.int 3))) (.one 3) b_law_1)
  (mSeq (mRet (gC (.bl true)))
  mNil))))
def f_law : List D → R D := runF m_law 8

theorem dRange2_gen (a b : Nat) (ha : a ≤ 16777216) (h : b ≤ 16777216) : dRange2 (.int (a : Int)) (.int (b : Int)) = .ok ((List.range' a (b - a)).map fun (i : Nat) => D.int i) := by
  dsimp only [dRange2]
  rw [if_pos (by rw [szL_val]; omega), show ((b : Int) - (a : Int)).toNat = b - a by omega]
  unfold rangeD
  rw [List.range'_eq_map_range]
  simp
def Rising (r : List Int) : Prop := r.Pairwise (· < ·)
theorem dIdx_list {ds : List D} {i : Nat} {d : D} (h : ds[i]? = some d) : dIdx (.lst ds) (.int i) = .ok d := by
  dsimp only [dIdx]
  rw [atI_nat h]
theorem int_at {l : List Int} {i : Nat} {v : Int} (h : l[i]? = some v) {j : Int} (hj : j = (i : Int)) : dIdx (.lst (l.map D.int)) (.int j) = .ok (.int v) := by
  subst hj
  refine dIdx_list ?_
  rw [List.getElem?_map, h]
  rfl
theorem int_in {l : List Int} {i : Nat} (h : i < l.length) {j : Int} (hj : j = (i : Int)) : dIdx (.lst (l.map D.int)) (.int j) = .ok (.int l[i]) := int_at (List.getElem?_eq_getElem h) hj

theorem forL_foldI {α σ : Type} (F : α → D) (f : σ → α → σ) (R : Nat → σ → Sl → Prop) (t : Tg) (mb : Sl → O) : ∀ (l : List α) (n : Nat) (s : σ) (r : Sl), R n s r → (∀ i x, i < l.length → x ∈ l → ∀ s r, R (n + i) s r → ∃ xs r', t.un (F x) = .ok xs ∧ mb (setD r t.is xs) = .nx r' ∧ R (n + i + 1) (f s x) r') → ∃ r', forL t mb (l.map F) r = .nx r' ∧ R (n + l.length) (l.foldl f s) r'
  | [], n, s, r, h, _ => ⟨r, rfl, h⟩
  | x :: l, n, s, r, h, k => by
    obtain ⟨xs, r1, e1, e2, h1⟩ := k 0 x (by simp) List.mem_cons_self s r h
    obtain ⟨r', e3, h3⟩ := forL_foldI F f R t mb l (n + 1) (f s x) r1 h1 fun i y hi hy s r q => by
      have e : n + 1 + i = n + (i + 1) := by omega
      rw [e] at q ⊢
      exact k (i + 1) y (by simp; omega) (List.mem_cons_of_mem _ hy) s r q
    refine ⟨r', ?_, by rw [List.length_cons, show n + (l.length + 1) = n + 1 + l.length by omega]; exact h3⟩
    rw [← e3]
    show (match t.un (F x) with
      | .ok xs => (match mb (setD r t.is xs) with
        | .nx r' => forL t mb (l.map F) r'
        | o => o)
      | _ => .stuck) = _
    rw [e1]
    dsimp only
    rw [e2]
theorem forL_step {t : Tg} {mb : Sl → O} {d : D} {ds : List D} {r r' : Sl} {xs : List D} (h1 : t.un d = .ok xs) (h2 : mb (setD r t.is xs) = .nx r') : forL t mb (d :: ds) r = forL t mb ds r' := by
  show (match t.un d with
      | .ok xs => (match mb (setD r t.is xs) with
        | .nx r' => forL t mb ds r'
        | o => o)
      | _ => .stuck) = _
  rw [h1]
  dsimp only
  rw [h2]
theorem whileL_fin {tc : Sl → R Bool} {mb : Sl → O} {n : Nat} {r : Sl} (h : tc r = .ok false) : whileL tc mb (n + 1) r = .nx r := by
  show onR (tc r) r _ = _
  rw [h]
  rfl
theorem whileL_turn {tc : Sl → R Bool} {mb : Sl → O} {n : Nat} {r r' : Sl} (h : tc r = .ok true) (h2 : mb r = .nx r') : whileL tc mb (n + 1) r = whileL tc mb n r' := by
  show onR (tc r) r _ = _
  rw [h]
  dsimp only [onR]
  rw [if_pos rfl, h2]
/-- the item at -1 put anew -/
theorem ixN_last (n : Nat) (h : 0 < n) : ixN n (-1) = some (n - 1) := by
  unfold ixN
  simp
  omega
/-- alike as far as it matters -/
def Rc (N : Nat) (a b : List Int) : Prop := a = b ∨ ∃ C a' b', a = C ++ a' ∧ b = C ++ b' ∧ N ≤ C.length
theorem Rc.drop {N k : Nat} {a b : List Int} (h : Rc N a b) (l : k ≤ N) : Rc (N - k) (a.drop k) (b.drop k) := by
  rcases h with h | ⟨C, a', b', h1, h2, h3⟩
  · exact .inl (by rw [h])
  · refine .inr ⟨C.drop k, a', b', ?_, ?_, by rw [List.length_drop]; omega⟩
    · rw [h1, List.drop_append_of_le_length (by omega)]
    · rw [h2, List.drop_append_of_le_length (by omega)]
theorem cutL_fromG {α : Type} {xs : List α} {k : Nat} {i : Int} (hi : i = (k : Int) := by rfl) : cutL xs (some i) none = xs.drop k := by
  by_cases h : k ≤ xs.length
  · exact cutL_from h hi
  · subst hi
    unfold cutL
    rw [HT.sIx_nat, HT.sIx_none, Nat.min_eq_right (by omega), Nat.sub_self, List.take_zero, List.drop_eq_nil_of_le (by omega)]
theorem ne_nil_two (ps : List (Int × Int)) (hz : ps.length ≤ 1000) : dNe (.lst (ps.map twoD)) (.lst []) = .ok (.bl (decide (ps ≠ []))) := by
  have s1 : shp (.lst (ps.map twoD)) = true := pl_shp (n := 3) (by decide) (pl_pairs (le_szL (by omega)))
  have s2 : shp (.lst ([].map twoD)) = true := pl_shp (n := 3) (by decide) (pl_pairs (le_szL (by decide)))
  have s2' : shp (.lst []) = true := s2
  unfold dNe
  rw [s1, s2']
  cases ps with
  | nil => rfl
  | cons p r => rfl
theorem dIdx_tup {ds : List D} {i : Nat} {d : D} (h : ds[i]? = some d) : dIdx (.tup ds) (.int i) = .ok d := by
  dsimp only [dIdx]
  rw [atI_nat h]

theorem tup0 (a b : D) : dIdx (.tup [a, b]) (.int 0) = .ok a := dIdx_tup (i := 0) rfl
theorem tup1 (a b : D) : dIdx (.tup [a, b]) (.int 1) = .ok b := dIdx_tup (i := 1) rfl
theorem set_last (fr : List (Int × Int)) (x y : D) : (fr.map twoD ++ [x]).set fr.length y = fr.map twoD ++ [y] := by
  rw [List.set_append_right _ _ (by simp)]
  simp
theorem ixN_snoc (n : Nat) : ixN (n + 1) (-1) = some n := ixN_last (n + 1) (by omega)
theorem last_two (l : List (Int × Int)) (x : D) : dIdx (.lst (l.map twoD ++ [x])) (.int (-1)) = .ok x := by
  dsimp only [dIdx]
  rw [atI_last]
theorem ne_ints (r : List Int) (hz : r.length ≤ 1000) : dNe (.lst (r.map D.int)) (.lst (r.map D.int)) = .ok (.bl false) := dNe_self (n := 2) (by decide) (pl_ints (le_szL (by omega)))
theorem ne_nil_ints (r : List Int) (hz : r.length ≤ 1000) : dNe (.lst (r.map D.int)) (.lst []) = .ok (.bl (decide (r ≠ []))) := by
  have h := dNe_ints (xs := r) (ys := []) (le_szL (by omega)) (le_szL (by decide))
  have h' : dNe (.lst (r.map D.int)) (.lst []) = _ := h
  rw [h']
  by_cases e : r = [] <;> simp [e]
def opn (L : Option Int) (q : Int) : Bool := match L with
  | none => true
  | some l => decide (q < l)
/-- stones that wait (the last one first) and the niches from q on -/
def inn (L : Option Int) : List Int → Int → List (Int × Int) × List Int
  | [], _ => ([], [])
  | t :: T, q => if opn L q then ((t, q) :: (inn L T (q + 1)).1, (inn L T (q + 1)).2) else ([], t :: T)
def clo : List Int → List Int → List (Int × Int)
  | [], _ => []
  | p :: r, T => (inn r.head? (p :: T) (p + 1)).1 ++ clo r (inn r.head? (p :: T) (p + 1)).2
theorem inn_keys (L : Option Int) : ∀ (T : List Int) (q : Int), (inn L T q).1.map (·.1) ++ (inn L T q).2 = T
  | [], _ => rfl
  | t :: T, q => by
    unfold inn
    split
    · simp [inn_keys L T (q + 1)]
    · rfl
def laid (p : Int) (m : Nat) : List Int := (List.range m).map fun (i : Nat) => p + (i : Int)
theorem laid_succ (p : Int) (m : Nat) : laid p (m + 1) = p :: laid (p + 1) m := by
  unfold laid
  rw [List.range_succ_eq_map, List.map_cons, List.map_map]
  congr 1
  · simp
  · apply List.map_congr_left
    intro i _
    simp
    omega
theorem inn_vals (L : Option Int) : ∀ (T : List Int) (q : Int), (inn L T q).1.map (·.2) = laid q (inn L T q).1.length
  | [], _ => rfl
  | t :: T, q => by
    unfold inn
    split
    · rw [List.map_cons, List.length_cons, laid_succ, inn_vals L T (q + 1)]
    · rfl
theorem inn_len (L : Option Int) : ∀ (T : List Int) (q : Int), (inn L T q).1.length = match L with
    | none => T.length
    | some l => min T.length (l - q).toNat
  | [], q => by cases L <;> simp [inn]
  | t :: T, q => by
    have ih := inn_len L T (q + 1)
    unfold inn
    cases L with
    | none => simpa [opn] using ih
    | some l =>
      dsimp only at ih ⊢
      by_cases c : q < l
      · rw [if_pos (show opn (some l) q = true from decide_eq_true c), List.length_cons, ih, List.length_cons]
        omega
      · rw [if_neg (show ¬ opn (some l) q = true by simp [opn, c])]
        simp
        omega
theorem inn_none (T : List Int) (q : Int) : (inn none T q).2 = [] := by
  have a := congrArg List.length (inn_keys none T q)
  have b := inn_len none T q
  rw [List.length_append, List.length_map] at a
  dsimp only at b
  exact List.eq_nil_of_length_eq_zero (by omega)
theorem clo_keys : ∀ (r : List Int) (p : Int) (T : List Int), ((clo (p :: r) T).map (·.1)).Perm (p :: r ++ T)
  | [], p, T => by
    have k := inn_keys none (p :: T) (p + 1)
    rw [inn_none, List.append_nil] at k
    show ((((inn none (p :: T) (p + 1)).1 ++ clo [] _).map (·.1))).Perm _
    rw [List.map_append, k]
    simp [clo]
  | p2 :: r, p, T => by
    have k := inn_keys (some p2) (p :: T) (p + 1)
    have ih := clo_keys r p2 (inn (some p2) (p :: T) (p + 1)).2
    show ((((inn (some p2) (p :: T) (p + 1)).1 ++ clo (p2 :: r) (inn (some p2) (p :: T) (p + 1)).2).map (·.1))).Perm _
    rw [List.map_append]
    refine (List.Perm.append_left _ ih).trans ?_
    have e : (inn (some p2) (p :: T) (p + 1)).1.map (·.1) ++ (p2 :: r ++ (inn (some p2) (p :: T) (p + 1)).2) = ((inn (some p2) (p :: T) (p + 1)).1.map (·.1) ++ p2 :: r) ++ (inn (some p2) (p :: T) (p + 1)).2 := by simp
    rw [e]
    refine List.Perm.trans (List.Perm.append_right _ List.perm_append_comm) ?_
    rw [List.append_assoc, k]
    exact (List.perm_middle (a := p) (l₁ := p2 :: r) (l₂ := T))
structure Wk where
  load : Nat
  next : Int
  fresh : List Int
  picked : Nat
def comeM (s : Wk) (p : Int) : Nat := min s.load (p - s.next).toNat
def lsr (a s : Int) : Int := if a < s then a else s
def share (ps : List (Int × Int)) (s : Int) : Int := (ps.map fun p => if p.1 < s then p.1 else s).sum
theorem share_cons (p : Int × Int) (ps : List (Int × Int)) (s : Int) : share (p :: ps) s = lsr p.1 s + share ps s := by
  simp [share, lsr]
theorem share_app (ps qs : List (Int × Int)) (s : Int) : share (ps ++ qs) s = share ps s + share qs s := by
  simp [share]
theorem share_perm {ps qs : List (Int × Int)} (h : ps.Perm qs) (s : Int) : share ps s = share qs s := by
  induction h with
  | nil => rfl
  | cons x _ ih => rw [share_cons, share_cons, ih]
  | swap x y l => rw [share_cons, share_cons, share_cons, share_cons]; omega
  | trans _ _ h1 h2 => exact h1.trans h2
/-- where a train is ripe -/
def vac (ps : List (Int × Int)) (p : Int × Int) : Int := p.2 + 2 * share ps p.1
def ripes (ps : List (Int × Int)) (q : Int) : List Int := (ps.filter fun p => vac ps p == q).map (·.1)
def longest (ps : List (Int × Int)) (q : Int) : Int := if ripes ps q = [] then 0 else lmax (ripes ps q)
def grow (ps : List (Int × Int)) (p : Int) : List (Int × Int) :=
  (if 0 < longest ps (p - 1) then ps.erase (longest ps (p - 1), p - 1 - 2 * share ps (longest ps (p - 1))) else ps) ++
    [(longest ps (p - 1) + 1, p - 2 * (share (if 0 < longest ps (p - 1) then ps.erase (longest ps (p - 1), p - 1 - 2 * share ps (longest ps (p - 1))) else ps) (longest ps (p - 1) + 1) + longest ps (p - 1) + 1))]
def Posi (ps : List (Int × Int)) : Prop := ∀ p ∈ ps, 1 ≤ p.1
theorem lmax_le : ∀ {l : List Int} {x : Int}, x ∈ l → x ≤ lmax l
  | [], _, h => by cases h
  | [y], x, h => by
    have : x = y := by simpa using h
    subst this
    exact Int.le_refl _
  | y :: z :: r, x, h => by
    unfold lmax
    rcases List.mem_cons.mp h with e | h
    · subst e; exact Int.le_max_left _ _
    · exact Int.le_trans (lmax_le h) (Int.le_max_right _ _)
theorem mem_ripes {ps : List (Int × Int)} {q s : Int} : s ∈ ripes ps q ↔ (s, q - 2 * share ps s) ∈ ps := by
  constructor
  · intro h
    obtain ⟨p, hp, e⟩ := List.mem_map.mp h
    obtain ⟨h1, h2⟩ := List.mem_filter.mp hp
    have h3 : vac ps p = q := by simpa using h2
    unfold vac at h3
    have : p = (s, q - 2 * share ps s) := by
      subst e
      exact Prod.ext rfl (by show p.2 = _; omega)
    rw [← this]; exact h1
  · intro h
    refine List.mem_map.mpr ⟨_, List.mem_filter.mpr ⟨h, ?_⟩, rfl⟩
    have : vac ps (s, q - 2 * share ps s) = q := by unfold vac; show q - 2 * share ps s + 2 * share ps s = q; omega
    simpa using this
theorem lmax_mem : ∀ {l : List Int}, l ≠ [] → lmax l ∈ l
  | [], h => absurd rfl h
  | [x], _ => by simp [lmax]
  | x :: y :: r, _ => by
    have ih := lmax_mem (l := y :: r) (by simp)
    unfold lmax
    rcases Int.le_total x (lmax (y :: r)) with h | h
    · rw [Int.max_eq_right h]; exact List.mem_cons_of_mem _ ih
    · rw [Int.max_eq_left h]; exact List.mem_cons_self
theorem longest_nonneg {ps : List (Int × Int)} (h : Posi ps) (q : Int) : 0 ≤ longest ps q := by
  unfold longest
  split
  · exact Int.le_refl _
  · rename_i n
    have := h _ (mem_ripes.mp (lmax_mem n))
    have : 1 ≤ lmax (ripes ps q) := this
    omega
theorem longest_mem {ps : List (Int × Int)} {q : Int} (c : 0 < longest ps q) : (longest ps q, q - 2 * share ps (longest ps q)) ∈ ps := by
  have n : ripes ps q ≠ [] := fun z => by
    unfold longest at c
    rw [if_pos z] at c
    omega
  have e : longest ps q = lmax (ripes ps q) := by unfold longest; rw [if_neg n]
  have m := mem_ripes.mp (lmax_mem n)
  rw [← e] at m
  exact m
def zst (s o : Int) : List (Int × Int) := if 0 < s then [(s, o)] else []
theorem share_z {s o i : Int} (hs : 0 ≤ s) (hi : 0 ≤ i) : share (zst s o) i = lsr s i := by
  unfold zst
  by_cases h : 0 < s
  · rw [if_pos h, share_cons]
    simp [share]
  · rw [if_neg h]
    unfold lsr
    simp [share]
    split <;> omega
/-- a train of size s (0: none) grows at q; f what its mark is put forward by -/
structure Gro (f : Int → Int) (M : List (Int × Int)) (q s : Int) (R M' : List (Int × Int)) : Prop where
  s0 : 0 ≤ s
  m : M.Perm (zst s (q - 1 + f s - 2 * share M s) ++ R)
  m' : M'.Perm ((s + 1, q + f (s + 1) - 2 - 2 * share M (s + 1)) :: R)
  top : ∀ p ∈ M, s < p.1 → vac M p ≠ q - 1 + f p.1
theorem vac_perm {M N : List (Int × Int)} (h : M.Perm N) (p : Int × Int) : vac M p = vac N p := by
  unfold vac
  rw [share_perm h]
/-- stones less empty niches behind s, s itself counted -/
def balN (R : List Int) (s : Int) : Nat → Int
  | 0 => 1
  | d + 1 => balN R s d + (if s + ((d : Int) + 1) ∈ R then 1 else -1)
def Clo (R : List Int) (s n : Int) : Prop := ∃ d : Nat, n = s + d ∧ balN R s d = 0 ∧ ∀ e, e < d → 1 ≤ balN R s e
theorem Clo.uniq {R : List Int} {s n m : Int} (a : Clo R s n) (b : Clo R s m) : n = m := by
  obtain ⟨d, rfl, h1, h2⟩ := a
  obtain ⟨e, rfl, g1, g2⟩ := b
  rcases Nat.lt_trichotomy d e with z | z | z
  · have := g2 d z; omega
  · rw [z]
  · have := h2 e z; omega
def Stk (R : List Int) : Nat → List Int → Int → Prop
  | _, [], _ => True
  | k, s :: T, t => (∃ d : Nat, t = s + d ∧ balN R s d = (k : Int) + 1 ∧ ∀ e, e ≤ d → 1 ≤ balN R s e) ∧ Stk R (k + 1) T t
theorem Stk.new {R : List Int} {p : Int} {T : List Int} (h : Stk R 1 T p) : Stk R 0 (p :: T) p := ⟨⟨0, by omega, rfl, fun e he => by
  have : e = 0 := by omega
  rw [this]
  exact Int.le_refl 1⟩, h⟩
abbrev Run := Bool × List Int
/-- two runs alike, N places deep when they are empty ones -/
def R1 (N : Nat) (p q : Run) : Prop := p.1 = q.1 ∧ (p.1 = true → p.2 = q.2) ∧ Rc N p.2 q.2
theorem R1.refl (N : Nat) (p : Run) : R1 N p p := ⟨rfl, fun _ => rfl, .inl rfl⟩
theorem Rc.symm {N : Nat} {a b : List Int} (h : Rc N a b) : Rc N b a := by
  rcases h with h | ⟨C, a', b', h1, h2, h3⟩
  · exact .inl h.symm
  · exact .inr ⟨C, b', a', h2, h1, h3⟩
section
variable {f : Int → Int} {M M' N N' R R' E : List (Int × Int)} {q s t : Int}
theorem Gro.share (g : Gro f M q s R M') {i : Int} (hi : 0 ≤ i) : CW.share M' i = CW.share M i + (if s < i then 1 else 0) := by
  have h0 := g.s0
  have a := share_perm g.m' i
  have b := share_perm g.m i
  rw [share_cons] at a
  rw [share_app, share_z h0 hi] at b
  have a' : CW.share M' i = lsr (s + 1) i + CW.share R i := a
  rw [a', b]
  unfold lsr
  split <;> split <;> omega
theorem Gro.perm (g : Gro f M q s R M') (h : M.Perm N) (h' : M'.Perm N') : Gro f N q s R N' where
  s0 := g.s0
  m := by rw [← share_perm h]; exact h.symm.trans g.m
  m' := by rw [← share_perm h]; exact h'.symm.trans g.m'
  top := fun p hp hs => by rw [← vac_perm h]; exact g.top p (h.mem_iff.mpr hp) hs
theorem Gro.new (g : Gro f M q s R M') : (s + 1, q + f (s + 1) - 2 - 2 * CW.share M (s + 1)) ∈ M' ∧ vac M' (s + 1, q + f (s + 1) - 2 - 2 * CW.share M (s + 1)) = q + f (s + 1) := by
  have h0 := g.s0
  refine ⟨g.m'.mem_iff.mpr List.mem_cons_self, ?_⟩
  unfold vac
  rw [g.share (i := s + 1) (by omega), if_pos (by omega)]
  show _ - 2 - 2 * CW.share M (s + 1) + 2 * (CW.share M (s + 1) + 1) = _
  omega
theorem Gro.old (g : Gro f M q s R M') {p : Int × Int} (hp : p ∈ M') (h1 : 0 ≤ p.1) : p = (s + 1, q + f (s + 1) - 2 - 2 * CW.share M (s + 1)) ∨ p ∈ R ∧ p ∈ M ∧ vac M' p = vac M p + (if s < p.1 then 2 else 0) := by
  rcases List.mem_cons.mp (g.m'.mem_iff.mp hp) with e | hr
  · exact .inl e
  · refine .inr ⟨hr, g.m.mem_iff.mpr (List.mem_append_right _ hr), ?_⟩
    unfold vac
    rw [g.share h1]
    split <;> omega
theorem Gro.picked (g : Gro f M q s R M') (hs : 0 < s) : (s, q - 1 + f s - 2 * CW.share M s) ∈ M ∧ vac M (s, q - 1 + f s - 2 * CW.share M s) = q - 1 + f s := by
  refine ⟨g.m.mem_iff.mpr (List.mem_append_left _ (by unfold zst; rw [if_pos hs]; exact List.mem_cons_self)), ?_⟩
  unfold vac
  show q - 1 + f s - 2 * CW.share M s + 2 * CW.share M s = _
  omega
theorem Gro.posi (g : Gro f M q s R M') (h : Posi M) : Posi M' := fun p hp => by
  rcases List.mem_cons.mp (g.m'.mem_iff.mp hp) with e | hr
  · rw [e]
    have := g.s0
    show 1 ≤ s + 1
    omega
  · exact h p (g.m.mem_iff.mpr (List.mem_append_right _ hr))
theorem Gro.uniq (g : Gro f M q s R M') (g2 : Gro f N q t R' N') (h : M.Perm N) : s = t ∧ M'.Perm N' := by
  have a := g.s0
  have b := g2.s0
  have st : s = t := by
    rcases Int.lt_trichotomy s t with z | z | z
    · obtain ⟨p1, p2⟩ := g2.picked (by omega)
      exact absurd ((vac_perm h _).trans p2) (g.top _ (h.mem_iff.mpr p1) z)
    · exact z
    · obtain ⟨p1, p2⟩ := g.picked (by omega)
      exact absurd ((vac_perm h _).symm.trans p2) (g2.top _ (h.mem_iff.mp p1) z)
  subst st
  refine ⟨rfl, ?_⟩
  have e : ∀ i, CW.share M i = CW.share N i := fun i => share_perm h i
  have p1 : (zst s (q - 1 + f s - 2 * CW.share N s) ++ R).Perm (zst s (q - 1 + f s - 2 * CW.share N s) ++ R') := by
    have w := g.m.symm.trans (h.trans g2.m)
    rw [e s] at w
    exact w
  have p2 : R.Perm R' := (List.perm_append_left_iff _).mp p1
  have w := g.m'
  rw [e (s + 1)] at w
  exact w.trans ((List.Perm.cons _ p2).trans g2.m'.symm)
def shf (f : Int → Int) (ps : List (Int × Int)) : List (Int × Int) := ps.map fun p => (p.1, p.2 + f p.1)
theorem share_shf (f : Int → Int) (ps : List (Int × Int)) (i : Int) : CW.share (shf f ps) i = CW.share ps i := by
  unfold CW.share shf
  rw [List.map_map]
  rfl
theorem shf_perm (h : M.Perm N) : (shf f M).Perm (shf f N) := h.map _
theorem Gro.shift (g : Gro (fun _ => 0) M q s R M') : Gro f (shf f M) q s (shf f R) (shf f M') where
  s0 := g.s0
  m := by
    rw [share_shf]
    have w := shf_perm (f := f) g.m
    have e : shf f (zst s (q - 1 + 0 - 2 * CW.share M s) ++ R) = zst s (q - 1 + f s - 2 * CW.share M s) ++ shf f R := by
      unfold shf zst
      split
      · simp
        omega
      · simp
    rw [e] at w
    exact w
  m' := by
    rw [share_shf]
    have w := shf_perm (f := f) g.m'
    have e : shf f ((s + 1, q + 0 - 2 - 2 * CW.share M (s + 1)) :: R) = (s + 1, q + f (s + 1) - 2 - 2 * CW.share M (s + 1)) :: shf f R := by
      unfold shf
      simp
      omega
    rw [e] at w
    exact w
  top := fun p hp hs => by
    obtain ⟨p0, h0, rfl⟩ := List.mem_map.mp hp
    have := g.top p0 h0 hs
    unfold vac at this ⊢
    rw [share_shf]
    dsimp only at this ⊢
    omega
theorem gro_grow (h : Posi M) (q : Int) : ∃ R, Gro (fun _ => 0) M q (longest M (q - 1)) R (grow M q) := by
  have n0 := longest_nonneg h (q - 1)
  have top : ∀ p ∈ M, longest M (q - 1) < p.1 → vac M p ≠ q - 1 + 0 := fun p hp hs e => by
    have m : p.1 ∈ ripes M (q - 1) := List.mem_map.mpr ⟨p, List.mem_filter.mpr ⟨hp, by rw [e]; simp⟩, rfl⟩
    have n : ripes M (q - 1) ≠ [] := fun w => by rw [w] at m; cases m
    have : p.1 ≤ longest M (q - 1) := by
      unfold longest
      rw [if_neg n]
      exact lmax_le m
    omega
  have lss : ∀ a : Int, lsr a (a + 1) = a := fun a => by unfold lsr; split <;> omega
  by_cases c : 0 < longest M (q - 1)
  · have pc := List.perm_cons_erase (longest_mem c)
    have sh : CW.share M (longest M (q - 1) + 1) = longest M (q - 1) + CW.share (M.erase (longest M (q - 1), q - 1 - 2 * CW.share M (longest M (q - 1)))) (longest M (q - 1) + 1) := by
      rw [share_perm pc, share_cons, lss]
    have eg : grow M q = M.erase (longest M (q - 1), q - 1 - 2 * CW.share M (longest M (q - 1))) ++ [(longest M (q - 1) + 1, q - 2 * (CW.share (M.erase (longest M (q - 1), q - 1 - 2 * CW.share M (longest M (q - 1)))) (longest M (q - 1) + 1) + longest M (q - 1) + 1))] := by
      unfold grow
      rw [if_pos c]
    refine ⟨M.erase (longest M (q - 1), q - 1 - 2 * CW.share M (longest M (q - 1))), ⟨n0, ?_, ?_, top⟩⟩
    · unfold zst
      rw [if_pos c, show q - 1 + (0 : Int) - 2 * CW.share M (longest M (q - 1)) = q - 1 - 2 * CW.share M (longest M (q - 1)) by omega]
      exact pc
    · rw [eg]
      generalize longest M (q - 1) = L at *
      generalize M.erase (L, q - 1 - 2 * CW.share M L) = fr at *
      rw [sh, show q - 2 * (CW.share fr (L + 1) + L + 1) = q + 0 - 2 - 2 * (L + CW.share fr (L + 1)) by omega]
      exact List.perm_append_comm
  · have z : longest M (q - 1) = 0 := by omega
    refine ⟨M, ⟨n0, ?_, ?_, top⟩⟩
    · unfold zst
      rw [if_neg c]
      exact List.Perm.refl _
    · unfold grow
      rw [if_neg c, z, show q - 2 * (CW.share M (0 + 1) + 0 + 1) = q + 0 - 2 - 2 * CW.share M (0 + 1) by omega]
      exact List.perm_append_comm
end
def comeW (s : Wk) (p : Int) : Wk := ⟨s.load - comeM s p, s.next, s.fresh ++ laid s.next (comeM s p), s.picked⟩
def meetW (c : Int) (s : Wk) (p : Int) : Wk :=
  if ((comeW s p).load : Int) < c then ⟨(comeW s p).load + 1, p + 1, (comeW s p).fresh, s.picked + 1⟩ else ⟨(comeW s p).load, p + 1, (comeW s p).fresh ++ [p], s.picked⟩
def endW (s : Wk) : List Int := s.fresh ++ laid s.next s.load
/-- a walk with a creel that holds all lays the stones into the closing niches -/
theorem clo_walk {c : Int} : ∀ (r : List Int) (p : Int) (T : List Int) (s : Wk), (comeW s p).load = T.length → (T.length : Int) + (r.length + 1) ≤ c → endW ((p :: r).foldl (meetW c) s) = (comeW s p).fresh ++ (clo (p :: r) T).map (·.2)
  | r, p, T, s, hl, hc => by
    have em : meetW c s p = ⟨T.length + 1, p + 1, (comeW s p).fresh, s.picked + 1⟩ := by
      unfold meetW
      rw [hl, if_pos (by omega)]
    rw [List.foldl_cons, em]
    cases r with
    | nil =>
      have k := inn_keys none (p :: T) (p + 1)
      have v := inn_vals none (p :: T) (p + 1)
      rw [inn_len] at v
      show (comeW s p).fresh ++ laid (p + 1) (T.length + 1) = _ ++ ((inn none (p :: T) (p + 1)).1 ++ []).map (fun z : Int × Int => z.2)
      rw [List.append_nil, v]
      rfl
    | cons p2 r =>
      have il := inn_len (some p2) (p :: T) (p + 1)
      have k := congrArg List.length (inn_keys (some p2) (p :: T) (p + 1))
      have v := inn_vals (some p2) (p :: T) (p + 1)
      dsimp only at il
      rw [List.length_append, List.length_map, List.length_cons] at k
      rw [List.length_cons] at il
      have hcm : comeM ⟨T.length + 1, p + 1, (comeW s p).fresh, s.picked + 1⟩ p2 = (inn (some p2) (p :: T) (p + 1)).1.length := by
        rw [il]
        rfl
      have lo : (comeW ⟨T.length + 1, p + 1, (comeW s p).fresh, s.picked + 1⟩ p2).load = (inn (some p2) (p :: T) (p + 1)).2.length := by
        show T.length + 1 - comeM _ p2 = _
        rw [hcm]
        omega
      have fr : (comeW ⟨T.length + 1, p + 1, (comeW s p).fresh, s.picked + 1⟩ p2).fresh = (comeW s p).fresh ++ (inn (some p2) (p :: T) (p + 1)).1.map (·.2) := by
        show (comeW s p).fresh ++ laid (p + 1) (comeM _ p2) = _
        rw [hcm, v]
      rw [List.length_cons] at hc
      rw [clo_walk r p2 _ _ lo (by omega), fr]
      show _ = _ ++ ((inn (some p2) (p :: T) (p + 1)).1 ++ clo (p2 :: r) (inn (some p2) (p :: T) (p + 1)).2).map (fun z : Int × Int => z.2)
      rw [List.map_append, List.append_assoc]
def wk0 : Wk := ⟨0, 0, [], 0⟩
def goW (c : Int) (r : List Int) : Wk := r.foldl (meetW c) wk0
def walkR (c : Int) (r : List Int) : List Int := endW (goW c r)
theorem clo_all_walk {c : Int} {r : List Int} (h : (r.length : Int) ≤ c) : (clo r []).map (·.2) = walkR c r := by
  cases r with
  | nil => rfl
  | cons p r =>
    have z : comeM wk0 p = 0 := by unfold comeM wk0; simp
    have e := clo_walk (c := c) r p [] wk0 (by show wk0.load - comeM wk0 p = 0; rw [z]; rfl) (by simp at h ⊢; omega)
    have f : (comeW wk0 p).fresh = [] := by
      show wk0.fresh ++ laid wk0.next (comeM wk0 p) = []
      rw [z]
      rfl
    rw [f, List.nil_append] at e
    exact e.symm
theorem Stk.empty {R : List Int} {t : Int} (h : t + 1 ∉ R) : ∀ {T : List Int} {k : Nat}, Stk R (k + 1) T t → Stk R k T (t + 1)
  | [], _, _ => trivial
  | s :: T, k, ⟨⟨d, e1, e2, e3⟩, h2⟩ => by
    have b : balN R s (d + 1) = (k : Int) + 1 := by
      show balN R s d + _ = _
      rw [e2, if_neg (show ¬ s + ((d : Int) + 1) ∈ R by rw [show s + ((d : Int) + 1) = t + 1 by omega]; exact h)]
      omega
    refine ⟨⟨d + 1, by omega, b, fun e he => ?_⟩, Stk.empty h h2⟩
    by_cases c : e ≤ d
    · exact e3 e c
    · have : e = d + 1 := by omega
      rw [this, b]
      omega
theorem Stk.stone {R : List Int} {t : Int} (h : t + 1 ∈ R) : ∀ {T : List Int} {k : Nat}, Stk R k T t → Stk R (k + 1) T (t + 1)
  | [], _, _ => trivial
  | s :: T, k, ⟨⟨d, e1, e2, e3⟩, h2⟩ => by
    have b : balN R s (d + 1) = ((k + 1 : Nat) : Int) + 1 := by
      show balN R s d + _ = _
      rw [e2, if_pos (show s + ((d : Int) + 1) ∈ R by rw [show s + ((d : Int) + 1) = t + 1 by omega]; exact h)]
      omega
    refine ⟨⟨d + 1, by omega, b, fun e he => ?_⟩, Stk.stone h h2⟩
    by_cases c : e ≤ d
    · exact e3 e c
    · have : e = d + 1 := by omega
      rw [this, b]
      omega
theorem Stk.close {R : List Int} {t s : Int} {T : List Int} (h : t + 1 ∉ R) (g : Stk R 0 (s :: T) t) : Clo R s (t + 1) ∧ Stk R 0 T (t + 1) := by
  obtain ⟨⟨d, e1, e2, e3⟩, h2⟩ := g
  refine ⟨⟨d + 1, by omega, ?_, fun e he => e3 e (by omega)⟩, Stk.empty h h2⟩
  show balN R s d + _ = 0
  rw [e2, if_neg (show ¬ s + ((d : Int) + 1) ∈ R by rw [show s + ((d : Int) + 1) = t + 1 by omega]; exact h)]
  rfl
theorem inn_clo {R : List Int} (L : Option Int) : ∀ (T : List Int) (q : Int), Stk R 0 T (q - 1) → (∀ x, q ≤ x → opn L x = true → x ∉ R) → (∀ l, L = some l → q ≤ l) → (∀ z ∈ (inn L T q).1, Clo R z.1 z.2) ∧ ((inn L T q).2 = [] ∨ ∃ l, L = some l ∧ Stk R 0 (inn L T q).2 (l - 1))
  | [], _, _, _, _ => ⟨fun z hz => (nomatch hz), .inl rfl⟩
  | s :: T, q, h, ho, hl => by
    unfold inn
    by_cases c : opn L q = true
    · rw [if_pos c]
      have hq := ho q (Int.le_refl _) c
      obtain ⟨a, b⟩ := Stk.close (t := q - 1) (by rw [Int.sub_add_cancel]; exact hq) h
      rw [Int.sub_add_cancel] at a b
      obtain ⟨i1, i2⟩ := inn_clo L T (q + 1) (by rw [show q + 1 - 1 = q by omega]; exact b) (fun x hx => ho x (by omega)) fun l e => by
        have := hl l e
        rw [e] at c
        have : q < l := by simpa [opn] using c
        omega
      refine ⟨fun z hz => ?_, i2⟩
      rcases List.mem_cons.mp hz with w | w
      · rw [w]; exact a
      · exact i1 z w
    · rw [if_neg c]
      refine ⟨fun z hz => (nomatch hz), .inr ?_⟩
      cases L with
      | none => exact absurd rfl c
      | some l =>
        have h1 := hl l rfl
        have h2 : ¬ q < l := by simpa [opn] using c
        have e : l = q := by omega
        exact ⟨l, rfl, by rw [e]; exact h⟩
theorem clo_clo {R : List Int} : ∀ (r : List Int) (p : Int) (T : List Int), Rising (p :: r) → (∀ x, p ≤ x → (x ∈ R ↔ x ∈ p :: r)) → (T = [] ∨ Stk R 0 T (p - 1)) → ∀ z ∈ clo (p :: r) T, Clo R z.1 z.2
  | r, p, T, hr, hR, hT => by
    obtain ⟨r1, r2⟩ := List.pairwise_cons.mp hr
    have pR : p ∈ R := (hR p (Int.le_refl _)).mpr List.mem_cons_self
    have st : Stk R 0 (p :: T) p := by
      refine Stk.new ?_
      rcases hT with e | e
      · rw [e]; trivial
      · have := Stk.stone (t := p - 1) (by rw [Int.sub_add_cancel]; exact pR) e
        rw [Int.sub_add_cancel] at this
        exact this
    have nx : ∀ x, p + 1 ≤ x → opn r.head? x = true → x ∉ R := fun x hx ho hm => by
      have m := (hR x (by omega)).mp hm
      rcases List.mem_cons.mp m with z | z
      · omega
      · cases r with
        | nil => cases z
        | cons p2 r' =>
          have lt : x < p2 := by simpa [opn] using ho
          rcases List.mem_cons.mp z with w | w
          · omega
          · have := (List.pairwise_cons.mp r2).1 x w
            omega
    have hl : ∀ l, r.head? = some l → p + 1 ≤ l := fun l e => by
      have : l ∈ r := List.mem_of_head? e
      have := r1 l this
      omega
    obtain ⟨i1, i2⟩ := inn_clo r.head? (p :: T) (p + 1) (by rw [show p + 1 - 1 = p by omega]; exact st) nx hl
    intro z hz
    rcases List.mem_append.mp (show z ∈ (inn r.head? (p :: T) (p + 1)).1 ++ clo r (inn r.head? (p :: T) (p + 1)).2 from hz) with w | w
    · exact i1 z w
    · cases r with
      | nil => cases w
      | cons p2 r' =>
        have p12 := r1 p2 List.mem_cons_self
        refine clo_clo r' p2 _ r2 (fun x hx => ?_) ?_ z w
        · rw [hR x (by omega), List.mem_cons]
          constructor
          · rintro (e | e)
            · omega
            · exact e
          · exact .inr
        · rcases i2 with e | ⟨l, e, s⟩
          · exact .inl e
          · cases e
            exact .inr s
theorem clo_ok {r : List Int} (hr : Rising r) : (∀ z ∈ clo r [], Clo r z.1 z.2) ∧ ((clo r []).map (·.1)).Perm r := by
  cases r with
  | nil => exact ⟨fun z hz => (nomatch hz), List.Perm.refl _⟩
  | cons p r =>
    refine ⟨clo_clo r p [] hr (fun x _ => Iff.rfl) (.inl rfl), ?_⟩
    have := clo_keys r p []
    rw [List.append_nil] at this
    exact this
/-- a stone's closing niche -/
def cloF (r : List Int) (p : Int) : Int := (((clo r []).find? fun z => decide (z.1 = p)).map (·.2)).getD 0
theorem find_key {fs : List (Int × Int)} (nd : (fs.map (·.1)).Nodup) {z : Int × Int} (h : z ∈ fs) : (fs.find? fun y => decide (y.1 = z.1)) = some z := by
  induction fs with
  | nil => cases h
  | cons y fs ih =>
    rw [List.map_cons, List.nodup_cons] at nd
    rcases List.mem_cons.mp h with e | e
    · rw [e, List.find?_cons]
      simp
    · have ne : ¬ y.1 = z.1 := fun w => nd.1 (by rw [w]; exact List.mem_map.mpr ⟨z, e, rfl⟩)
      rw [List.find?_cons]
      simp [ne, ih nd.2 e]
theorem clo_nodup {r : List Int} (hr : Rising r) : ((clo r []).map (·.1)).Nodup := ((clo_ok hr).2.nodup_iff).mpr (List.Pairwise.imp (fun {a b} (h : a < b) => by omega) hr)
theorem cloF_at {r : List Int} (hr : Rising r) {z : Int × Int} (h : z ∈ clo r []) : cloF r z.1 = z.2 := by
  unfold cloF
  rw [find_key (clo_nodup hr) h]
  rfl
theorem cloF_ok {r : List Int} (hr : Rising r) {p : Int} (hp : p ∈ r) : (p, cloF r p) ∈ clo r [] ∧ Clo r p (cloF r p) := by
  obtain ⟨z, hz, e⟩ := List.mem_map.mp ((clo_ok hr).2.mem_iff.mpr hp)
  have q := cloF_at hr hz
  rw [e] at q
  have : z = (p, cloF r p) := Prod.ext e q.symm
  exact ⟨this ▸ hz, by have := (clo_ok hr).1 z hz; rw [e, ← q] at this; exact this⟩
theorem cloF_perm {r : List Int} (hr : Rising r) {c : Int} (hc : (r.length : Int) ≤ c) : (r.map (cloF r)).Perm (walkR c r) := by
  rw [← clo_all_walk hc]
  have a := ((clo_ok hr).2.map (cloF r)).symm
  rw [List.map_map] at a
  have e : (clo r []).map (cloF r ∘ fun z => z.1) = (clo r []).map (·.2) := List.map_congr_left fun z hz => cloF_at hr hz
  rw [e] at a
  exact a

def keyP (p : Int × Int) : Key × D := (.inl p.1, .int p.2)
theorem putD_new {ds : List (Key × D)} {k : Key} {d : D} (h : ∀ z ∈ ds, z.1 ≠ k) : putD ds k d = ds ++ [(k, d)] := by
  unfold putD
  rw [if_neg fun w => ?_]
  obtain ⟨z, hz, e⟩ := List.any_eq_true.mp w
  exact h z hz (by simpa using e)
theorem last_rev (t : Int) (T : List Int) : (((t :: T).reverse).map D.int).getLast? = some (.int t) := by simp
theorem drop_rev (t : Int) (T : List Int) : (((t :: T).reverse).map D.int).dropLast = (T.reverse).map D.int := by simp
def fz : Nat → Nat
  | 0 => 10 ^ 34
  | k + 1 => 6 * fz k
theorem clos_inner (r : List Int) (hl : r.length ≤ 60) (k : Nat) (hk : k < r.length) (pl_ : Option D) : ∀ (T : List Int) (fs : List (Int × Int)) (q : Int) (n : Nat), T.length < n → (fs.map (·.1) ++ T).Nodup → fs.length + T.length ≤ 1000 →
    ∃ q', whileL (gAnd (gTest (gBin dNe (gVar 2) (gLst VL.gNil))) (gOr (gTest (gBin dEq (gBin dAdd (gVar 3) (gC (.int 1))) (gCall fLen (VL.gCons (gVar 0) VL.gNil)))) (gTest (gBin dLt (gVar 5) (gBin dIdx (gVar 0) (gBin dAdd (gVar 3) (gC (.int 1)))))))) b_closings_1 n
      [some (.lst (r.map D.int)), some (.dct (fs.map keyP)), some (.lst (T.reverse.map D.int)), some (.int (k : Int)), pl_, some (.int q)] =
      .nx [some (.lst (r.map D.int)), some (.dct ((fs ++ (inn r[k + 1]? T q).1).map keyP)), some (.lst ((inn r[k + 1]? T q).2.reverse.map D.int)), some (.int (k : Int)), pl_, some (.int q')]
  | T, fs, q, 0, hn, _, _ => absurd hn (Nat.not_lt_zero _)
  | [], fs, q, n + 1, hn, nd, hz => by
    have ne := ne_nil_ints [] (by simp)
    refine ⟨q, ?_⟩
    show whileL _ _ (n + 1) _ = .nx [_, some (.dct ((fs ++ []).map keyP)), _, _, _, _]
    rw [List.append_nil, whileL_fin (by
      have ne' : dNe (.lst []) (.lst []) = .ok (.bl false) := ne
      generalize fs.map keyP = fd at *
      generalize r.map D.int = rr at *
      simp [ne', le_szL (n := 0) (by decide)])]
    rfl
  | t :: T, fs, q, n + 1, hn, nd, hz => by
    have ne := ne_nil_ints ((t :: T).reverse) (by simp at hz ⊢; omega)
    have ne' : dNe (.lst ((t :: T).reverse.map D.int)) (.lst []) = .ok (.bl true) := by rw [ne]; simp
    have ts : (gAnd (gTest (gBin dNe (gVar 2) (gLst VL.gNil))) (gOr (gTest (gBin dEq (gBin dAdd (gVar 3) (gC (.int 1))) (gCall fLen (VL.gCons (gVar 0) VL.gNil)))) (gTest (gBin dLt (gVar 5) (gBin dIdx (gVar 0) (gBin dAdd (gVar 3) (gC (.int 1)))))))) [some (.lst (r.map D.int)), some (.dct (fs.map keyP)), some (.lst ((t :: T).reverse.map D.int)), some (.int (k : Int)), pl_, some (.int q)] = .ok (opn r[k + 1]? q) := by
      by_cases c : k + 1 < r.length
      · have e1 := int_in (l := r) (i := k + 1) c (j := (k : Int) + 1) (by omega)
        rw [List.getElem?_eq_getElem c]
        have nk : ¬ (k : Int) + 1 = (r.length : Int) := by omega
        show _ = R.ok (decide (q < r[k + 1]))
        have ln : fLen [.lst (r.map D.int)] = .ok (.int (r.length : Nat)) := by simp
        generalize r[k + 1] = l at *
        generalize (t :: T).reverse.map D.int = td at *
        generalize fs.map keyP = fd at *
        generalize r.map D.int = rr at *
        simp [ne', le_szL (n := 0) (by decide), ln, nk, e1, -dIdx, -fLen]
      · rw [List.getElem?_eq_none (by omega)]
        have nk : (k : Int) + 1 = (r.length : Int) := by omega
        show _ = R.ok true
        have ln : fLen [.lst (r.map D.int)] = .ok (.int (r.length : Nat)) := by simp
        generalize (t :: T).reverse.map D.int = td at *
        generalize fs.map keyP = fd at *
        generalize r.map D.int = rr at *
        simp [ne', le_szL (n := 0) (by decide), ln, nk, -dIdx, -fLen]
    by_cases c : opn r[k + 1]? q = true
    · rw [c] at ts
      have nk : ∀ z ∈ fs.map keyP, z.1 ≠ Sum.inl t := fun z hz' w => by
        obtain ⟨y, hy, rfl⟩ := List.mem_map.mp hz'
        have e : y.1 = t := by simpa [keyP] using w
        exact (List.nodup_append.mp nd).2.2 y.1 (List.mem_map.mpr ⟨y, hy, rfl⟩) t List.mem_cons_self e
      have pn := putD_new (d := D.int q) nk
      have fz : (fs.map keyP).length < szL := lt_szL (by rw [List.length_map]; omega)
      have st : b_closings_1 [some (.lst (r.map D.int)), some (.dct (fs.map keyP)), some (.lst ((t :: T).reverse.map D.int)), some (.int (k : Int)), pl_, some (.int q)] = .nx [some (.lst (r.map D.int)), some (.dct ((fs ++ [(t, q)]).map keyP)), some (.lst (T.reverse.map D.int)), some (.int (k : Int)), pl_, some (.int (q + 1))] := by
        have l1 := last_rev t T
        have l2 := drop_rev t T
        have ek : (fs ++ [(t, q)]).map keyP = fs.map keyP ++ [(Sum.inl t, D.int q)] := by simp [keyP]
        rw [ek]
        generalize (t :: T).reverse.map D.int = td at *
        generalize T.reverse.map D.int = td2 at *
        generalize fs.map keyP = fd at *
        generalize r.map D.int = rr at *
        simp [b_closings_1, D.scal, l1, l2, VL.keyOf, fz, pn, noX]
      obtain ⟨q', ih⟩ := clos_inner r hl k hk pl_ T (fs ++ [(t, q)]) (q + 1) n (by simp at hn; omega) (by simpa using nd) (by simp at hz ⊢; omega)
      refine ⟨q', ?_⟩
      rw [whileL_turn ts st, ih, show inn r[k + 1]? (t :: T) q = ((t, q) :: (inn r[k + 1]? T (q + 1)).1, (inn r[k + 1]? T (q + 1)).2) from if_pos c]
      simp
    · have c' : opn r[k + 1]? q = false := by simpa using c
      rw [c'] at ts
      refine ⟨q, ?_⟩
      rw [whileL_fin ts, show inn r[k + 1]? (t :: T) q = ([], t :: T) from if_neg c, List.append_nil]
def okPair (a b : Int × Int) : Bool := !(decide (b.2 - b.1 + 1 < a.2 - a.1 + 1) || decide (b.1 - a.2 - 1 < a.2 - a.1 + 1))
def okAt (rs : List (Int × Int)) (k : Nat) : Bool := okPair (rs.getD (k - 1) (0, 0)) (rs.getD k (0, 0))
def rk (rs : List (Int × Int)) : Bool := (List.range' 1 (rs.length - 1)).all (okAt rs)
theorem clos_outer (r : List Int) (hr : Rising r) (hl : r.length ≤ 60) : ∀ (n k : Nat) (T : List Int) (fs : List (Int × Int)) (a b c : Option D), k + n = r.length → (fs.map (·.1) ++ T ++ r.drop k).Nodup → fs.length + T.length ≤ k →
    ∃ (T' : List Int) (a' b' c' : Option D), forL (.tup [3, 4]) b_closings_2 (((r.drop k).zipIdx k).map fun p => D.tup [.int (p.2 : Nat), .int p.1]) [some (.lst (r.map D.int)), some (.dct (fs.map keyP)), some (.lst (T.reverse.map D.int)), a, b, c] =
      .nx [some (.lst (r.map D.int)), some (.dct ((fs ++ clo (r.drop k) T).map keyP)), some (.lst (T'.reverse.map D.int)), a', b', c']
  | 0, k, T, fs, a, b, c, hk, _, _ => by
    have : r.drop k = [] := List.drop_eq_nil_of_le (by omega)
    rw [this]
    exact ⟨T, a, b, c, by simp [forL, clo]⟩
  | n + 1, k, T, fs, a, b, c, hk, nd, hz => by
    have hk' : k < r.length := by omega
    have ed := List.drop_eq_getElem_cons hk'
    have hd : (r.drop (k + 1)).head? = r[k + 1]? := by rw [List.head?_drop]
    have nd2 : (fs.map (·.1) ++ (r[k] :: T)).Nodup := by
      rw [ed] at nd
      have p : (fs.map (·.1) ++ T ++ r[k] :: r.drop (k + 1)).Perm ((fs.map (·.1) ++ (r[k] :: T)) ++ r.drop (k + 1)) := by
        rw [List.append_assoc, List.append_assoc]
        refine List.Perm.append_left _ ?_
        exact List.perm_middle
      exact (List.nodup_append.mp (p.nodup_iff.mp nd)).1
    obtain ⟨q', e1⟩ := clos_inner r hl k hk' (some (.int r[k])) (r[k] :: T) fs (r[k] + 1) WB (by rw [WB_eq]; simp; omega) nd2 (by simp; omega)
    have kk := inn_keys r[k + 1]? (r[k] :: T) (r[k] + 1)
    have kl := congrArg List.length kk
    rw [List.length_append, List.length_map, List.length_cons] at kl
    obtain ⟨T', a', b', c', ih⟩ := clos_outer r hr hl n (k + 1) (inn r[k + 1]? (r[k] :: T) (r[k] + 1)).2 (fs ++ (inn r[k + 1]? (r[k] :: T) (r[k] + 1)).1) (some (.int (k : Int))) (some (.int r[k])) (some (.int q')) (by omega) (by
      rw [ed] at nd
      rw [List.map_append, List.append_assoc (fs.map _), kk]
      have p : (fs.map (·.1) ++ T ++ r[k] :: r.drop (k + 1)).Perm (fs.map (·.1) ++ (r[k] :: T) ++ r.drop (k + 1)) := by
        rw [List.append_assoc, List.append_assoc]
        refine List.Perm.append_left _ ?_
        exact List.perm_middle
      exact p.nodup_iff.mp nd) (by rw [List.length_append]; omega)
    refine ⟨T', a', b', c', ?_⟩
    have ec : fs ++ clo (r.drop k) T = fs ++ (inn r[k + 1]? (r[k] :: T) (r[k] + 1)).1 ++ clo (r.drop (k + 1)) (inn r[k + 1]? (r[k] :: T) (r[k] + 1)).2 := by
      rw [ed]
      show fs ++ ((inn (r.drop (k + 1)).head? _ _).1 ++ clo _ (inn (r.drop (k + 1)).head? _ _).2) = _
      rw [hd, List.append_assoc]
    rw [ec, ed, List.zipIdx_cons, List.map_cons, ← ih]
    refine forL_step (xs := [.int (k : Int), .int r[k]]) rfl ?_
    have tz : (T.reverse.map D.int).length < szL := lt_szL (by simp; omega)
    have et : T.reverse.map D.int ++ [D.int r[k]] = (r[k] :: T).reverse.map D.int := by simp
    show b_closings_2 [some (.lst (r.map D.int)), some (.dct (fs.map keyP)), some (.lst (T.reverse.map D.int)), some (.int (k : Int)), some (.int r[k]), c] = _
    unfold b_closings_2
    rw [seq_nx (r' := [some (.lst (r.map D.int)), some (.dct (fs.map keyP)), some (.lst ((r[k] :: T).reverse.map D.int)), some (.int (k : Int)), some (.int r[k]), c]) (by
        rw [← et]
        generalize T.reverse.map D.int = td at *
        generalize fs.map keyP = fd at *
        generalize r[k] = rk at *
        generalize r.map D.int = rr at *
        simp [tz]),
      seq_nx (r' := [some (.lst (r.map D.int)), some (.dct (fs.map keyP)), some (.lst ((r[k] :: T).reverse.map D.int)), some (.int (k : Int)), some (.int r[k]), some (.int (r[k] + 1))]) (by
        generalize (r[k] :: T).reverse.map D.int = td at *
        generalize fs.map keyP = fd at *
        generalize r[k] = rk at *
        generalize r.map D.int = rr at *
        simp), seq_nx e1]
    rfl
theorem valD_key {fs : List (Int × Int)} {p : Int} {z : Int × Int} (h : (fs.find? fun y => decide (y.1 = p)) = some z) : valD (fs.map keyP) (.inl p) = some (.int z.2) := by
  induction fs with
  | nil => cases h
  | cons y fs ih =>
    rw [List.map_cons]
    rw [List.find?_cons] at h
    by_cases c : y.1 = p
    · rw [decide_eq_true c] at h
      cases h
      exact valD_pos (by simp [keyP, c])
    · rw [decide_eq_false c] at h
      rw [valD_neg (by simp [keyP, c])]
      exact ih h
theorem look_loop (r : List Int) (h : Rising r) : ∀ (n k : Nat) (a : Option D), 1 ≤ k → k + n ≤ r.length → ∃ a', forL (.one 1) b_look_row_1 ((List.range' k n).map fun (i : Nat) => D.int i) [some (.lst (r.map D.int)), a] = .nx [some (.lst (r.map D.int)), a']
  | 0, k, a, _, _ => ⟨a, rfl⟩
  | n + 1, k, a, h1, h2 => by
    obtain ⟨a', e⟩ := look_loop r h n (k + 1) (some (.int (k : Int))) (by omega) (by omega)
    refine ⟨a', ?_⟩
    have lt : r[k - 1] < r[k] := List.pairwise_iff_getElem.mp h (k - 1) k (by omega) (by omega) (by omega)
    have e1 := int_in (l := r) (i := k) (by omega) (j := (k : Int)) rfl
    have e2 := int_in (l := r) (i := k - 1) (by omega) (j := (k : Int) - 1) (by omega)
    have nle : ¬ r[k] ≤ r[k - 1] := by omega
    generalize r[k] = x at *
    generalize r[k - 1] = y at *
    have b : b_look_row_1 [some (.lst (r.map D.int)), some (.int (k : Int))] = .nx [some (.lst (r.map D.int)), some (.int (k : Int))] := by
      simp [b_look_row_1, e1, e2, nle, -dIdx]
    rw [List.range'_succ, List.map_cons, ← e]
    show (match b_look_row_1 [some (.lst (r.map D.int)), some (.int (k : Int))] with
      | .nx r' => forL (.one 1) b_look_row_1 ((List.range' (k + 1) n).map fun (i : Nat) => D.int i) r'
      | o => o) = _
    rw [b]
theorem look_row_ok (r : List Int) (h : Rising r) (hl : r.length ≤ 60) : f_look_row [.lst (r.map D.int)] = .ok .non := by
  have d : dRange2 (.int 1) (.int (r.length : Int)) = _ := dRange2_gen 1 r.length (by decide) (by omega)
  have c : ¬ (60 : Int) < (r.length : Int) := by omega
  by_cases z : r.length = 0
  · have z' : r = [] := List.length_eq_zero_iff.mp z
    subst z'
    have d' : dRange2 (.int 1) (.int 0) = .ok [] := d
    simp [f_look_row, m_look_row, d', forL]
  · obtain ⟨a', e⟩ := look_loop r h (r.length - 1) 1 none (by omega) (by omega)
    generalize (List.range' 1 (r.length - 1)).map (fun (i : Nat) => D.int i) = rr at *
    simp [f_look_row, m_look_row, d, e, c]
theorem closings_ok (r : List Int) (hr : Rising r) (hl : r.length ≤ 60) : f_closings [.lst (r.map D.int)] = .ok (.lst ((r.map fun p => (p, cloF r p)).map twoD)) := by
  have lo := look_row_ok r hr hl
  have nd : r.Nodup := List.Pairwise.imp (fun {a b} (h : a < b) => by omega) hr
  obtain ⟨T', a', b', c', e⟩ := clos_outer r hr hl r.length 0 [] [] none none none (by omega) (by simpa using nd) (by simp)
  rw [List.drop_zero, List.nil_append] at e
  have e' : forL (.tup [3, 4]) b_closings_2 ((r.zipIdx 0).map fun p => D.tup [.int (p.2 : Nat), .int p.1]) [some (.lst (r.map D.int)), some (.dct []), some (.lst []), none, none, none] = _ := e
  have en : dEnumI (.lst (r.map D.int)) = .ok ((r.zipIdx 0).map fun p => D.tup [.int (p.2 : Nat), .int p.1]) := by
    show R.ok (enumD _) = _
    unfold enumD
    rw [List.zipIdx_map, List.map_map]
    rfl
  have c : gComp (gIter (gVar 0)) (.one 4) [4] gYes (gTup (VL.gCons (gVar 4) (VL.gCons (gBin dDix (gVar 1) (gVar 4)) VL.gNil))) [some (.lst (r.map D.int)), some (.dct ((clo r []).map keyP)), some (.lst (T'.reverse.map D.int)), a', b', c'] = .ok (.lst ((r.map fun p => (p, cloF r p)).map twoD)) := by
    rw [List.map_map]
    refine gComp_map (l := r) (F := D.int) (G := twoD ∘ fun p => (p, cloF r p)) rfl fun p hp => ?_
    have h := (cloF_ok hr hp).1
    have v := valD_key (find_key (clo_nodup hr) h)
    dsimp only at v
    show gTurn _ _ _ _ _ _ = .ok (some (.tup [.int p, .int (cloF r p)]))
    generalize cloF r p = q at *
    generalize (clo r []).map keyP = fd at *
    generalize r.map D.int = rr at *
    simp [gTurn, VL.keyOf, v, le_szL (n := 2) (by decide)]
  generalize (r.map fun p => (p, cloF r p)).map twoD = rs at *
  generalize (r.zipIdx 0).map (fun p => D.tup [.int (p.2 : Nat), .int p.1]) = ez at *
  generalize (clo r []).map keyP = fd at *
  generalize T'.reverse.map D.int = td at *
  generalize r.map D.int = rr at *
  simp [f_closings, m_closings, lo, gEnumerate, en, e', c, le_szL (n := 0) (by decide), -dEnumI]

theorem look_creel_ok (c : Int) (hc : 1 ≤ c) : f_look_creel [.int c] = .ok .non := by
  have h : ¬ c < 1 := by omega
  simp [f_look_creel, m_look_creel, h]

/-- a list of drawn numbers -/
def Drawn (l : List Int) : Prop := ∀ d ∈ l, 0 ≤ d ∧ d < 9967
theorem drawn_get {l : List Int} (h : Drawn l) {i : Nat} (hi : i < l.length) {j : Int} (hj : j = (i : Int)) : ∃ v : Int, 0 ≤ v ∧ v < 9967 ∧ dIdx (.lst (l.map D.int)) (.int j) = .ok (.int v) := by
  subst hj
  refine ⟨l[i], (h _ (List.getElem_mem hi)).1, (h _ (List.getElem_mem hi)).2, dIdx_list ?_⟩
  rw [List.getElem?_map, List.getElem?_eq_getElem hi]
  rfl
theorem pick3 (a b c x : Int) : ∃ v : Int, (v = a ∨ v = b ∨ v = c) ∧ dIdx (.lst [.int a, .int b, .int c]) (.int (x.fmod 3)) = .ok (.int v) := by
  have f := fmod_pos (a := x) (b := 3) (by decide)
  rcases (show x.fmod 3 = 0 ∨ x.fmod 3 = 1 ∨ x.fmod 3 = 2 by omega) with h | h | h <;> rw [h]
  · exact ⟨a, .inl rfl, dIdx_list (i := 0) rfl⟩
  · exact ⟨b, .inr (.inl rfl), dIdx_list (i := 1) rfl⟩
  · exact ⟨c, .inr (.inr rfl), dIdx_list (i := 2) rfl⟩
theorem dEqB_ints : ∀ a b : List Int, dEqB (.lst (a.map D.int)) (.lst (b.map D.int)) = decide (a = b)
  | [], [] => rfl
  | [], y :: b => rfl
  | x :: a, [] => rfl
  | x :: a, y :: b => by
    show ((x == y) && dEqB (.lst (a.map D.int)) (.lst (b.map D.int))) = _
    rw [dEqB_ints a b, Bool.eq_iff_iff]
    simp
theorem eq_ints (a b : List Int) (ha : a.length ≤ 1000) (hb : b.length ≤ 1000) : dEq (.lst (a.map D.int)) (.lst (b.map D.int)) = .ok (.bl (decide (a = b))) := by
  unfold dEq
  rw [pl_shp (n := 2) (by decide) (pl_ints (n := 0) (le_szL (by omega))), pl_shp (n := 2) (by decide) (pl_ints (n := 0) (le_szL (by omega))), dEqB_ints]
  rfl
def triD (t : List Int × List Int) : D := .tup [.int (t.1.length : Nat), .tup (t.1.map D.int), .tup (t.2.map D.int)]
def pairD (t : List Int × List Int) : D := .tup [.tup (t.1.map D.int), .tup (t.2.map D.int)]
def tri2D (t : List Int × List Int) : D := .tup [.int (t.1.length : Nat), pairD t]
theorem ixN_natH {n k : Nat} (h : k < n) : ixN n (k : Int) = some k := by
  unfold ixN
  simp
  omega
/-- the first two neighbours of which the second is as long -/
def findR : List Run → Option (List Run × Run × Run × List Run)
  | x :: y :: r => if x.2.length ≤ y.2.length then some ([], x, y, r) else (findR (y :: r)).map fun q => (x :: q.1, q.2)
  | _ => none
/-- what is left -/
def leftR (q : List Run × Run × Run × List Run) : List Run := q.1 ++ (q.2.2.1.1, q.2.2.1.2.drop q.2.1.2.length) :: q.2.2.2
theorem findR_eq : ∀ {P : List Run} {q : List Run × Run × Run × List Run}, findR P = some q → P = q.1 ++ q.2.1 :: q.2.2.1 :: q.2.2.2 ∧ q.2.1.2.length ≤ q.2.2.1.2.length
  | [], _, h => by cases h
  | [_], _, h => by cases h
  | x :: y :: r, q, h => by
    unfold findR at h
    split at h
    · rename_i c
      cases h
      exact ⟨rfl, c⟩
    · cases e : findR (y :: r) with
      | none => rw [e] at h; cases h
      | some q1 =>
        rw [e] at h
        cases h
        obtain ⟨e1, e2⟩ := findR_eq e
        exact ⟨by show x :: y :: r = x :: (q1.1 ++ _); rw [← e1], e2⟩
def tpl (L : List Run) : Nat := (L.map fun r => r.2.length).sum
theorem tpl_cons (r : Run) (L : List Run) : tpl (r :: L) = r.2.length + tpl L := by unfold tpl; rw [List.map_cons, List.sum_cons]
theorem tpl_app (A B : List Run) : tpl (A ++ B) = tpl A + tpl B := by unfold tpl; rw [List.map_append, List.sum_append]
theorem tpl_left {P : List Run} {q : List Run × Run × Run × List Run} (h : findR P = some q) : tpl (leftR q) ≤ tpl P ∧ (leftR q).length ≤ P.length := by
  obtain ⟨e, l⟩ := findR_eq h
  obtain ⟨A, x, y, B⟩ := q
  dsimp only at e
  show tpl (A ++ (y.1, y.2.drop x.2.length) :: B) ≤ _ ∧ (A ++ (y.1, y.2.drop x.2.length) :: B).length ≤ _
  rw [e, tpl_app, tpl_app, tpl_cons, tpl_cons, tpl_cons, List.length_append, List.length_append]
  have : (y.2.drop x.2.length).length ≤ y.2.length := by rw [List.length_drop]; omega
  simp
  omega
def runD (p : Run) : D := .tup [.bl p.1, .lst (p.2.map D.int)]
/-- what is left, as the programs cut it -/
theorem left_cut (A : List Run) (x y : Run) (B : List Run) : (cutL (((A ++ x :: y :: B).map runD).set (A.length + 1) (runD (y.1, y.2.drop x.2.length))) none (some ((A.length : Nat) : Int))) ++ (cutL (((A ++ x :: y :: B).map runD).set (A.length + 1) (runD (y.1, y.2.drop x.2.length))) (some ((A.length : Nat) + 1 : Int)) none) = (leftR (A, x, y, B)).map runD := by
  have e : ((A ++ x :: y :: B).map runD).set (A.length + 1) (runD (y.1, y.2.drop x.2.length)) = A.map runD ++ runD x :: runD (y.1, y.2.drop x.2.length) :: B.map runD := by
    rw [List.map_append, List.set_append_right _ _ (by simp)]
    simp
  rw [e, cutL_to (k := A.length) rfl, cutL_fromG (k := A.length + 1) (by omega)]
  rw [List.take_append_of_le_length (by simp), List.take_of_length_le (by simp)]
  rw [List.drop_append, List.drop_of_length_le (by simp)]
  show A.map runD ++ ([] ++ _) = (A ++ (y.1, y.2.drop x.2.length) :: B).map runD
  rw [List.length_map, show A.length + 1 - A.length = 1 by omega]
  simp
/-- one run more, joined to the last when alike -/
def jn (f : List Run) (r : Run) : List Run :=
  if r.2 = [] then f else match f.getLast? with
    | some l => if l.1 = r.1 then f.dropLast ++ [(r.1, l.2 ++ r.2)] else f ++ [r]
    | none => if r.1 then [r] else []
def jns (L : List Run) : List Run := L.foldl jn []
theorem Rc.take {N k : Nat} {a b : List Int} (h : Rc N a b) (l : k ≤ N) : a.take k = b.take k := by
  rcases h with h | ⟨C, a', b', h1, h2, h3⟩
  · rw [h]
  · rw [h1, h2, List.take_append_of_le_length (by omega), List.take_append_of_le_length (by omega)]
/-- what is taken: full places, empty ones -/
def tookR (q : List Run × Run × Run × List Run) : List Int × List Int :=
  if q.2.1.1 then (q.2.1.2, q.2.2.1.2.take q.2.1.2.length) else (q.2.2.1.2.take q.2.1.2.length, q.2.1.2)
theorem jn_nil {f : List Run} {r : Run} (h : r.2 = []) : jn f r = f := by unfold jn; rw [if_pos h]
theorem jn_first {r : Run} (h : r.2 ≠ []) : jn [] r = if r.1 then [r] else [] := by unfold jn; rw [if_neg h]; rfl
theorem jn_snoc (f : List Run) (l : Run) {r : Run} (h : r.2 ≠ []) : jn (f ++ [l]) r = if l.1 = r.1 then f ++ [(r.1, l.2 ++ r.2)] else f ++ [l] ++ [r] := by
  unfold jn
  rw [if_neg h, List.getLast?_concat, List.dropLast_concat]
theorem tpl_mem {L : List Run} {p : Run} (h : p ∈ L) : p.2.length ≤ tpl L := by
  obtain ⟨A, B, rfl⟩ := List.append_of_mem h
  rw [tpl_app, tpl_cons]
  omega
theorem pl_runs (f : List Run) (hz : f.length ≤ 1000) (ht : tpl f ≤ 100000) : pl 5 (.lst (f.map runD)) = true := by
  have s2 : (2 : Nat) ≤ szL := le_szL (by decide)
  have hz2 : f.length ≤ szL := le_szL (by omega)
  simp only [pl, List.all_map, List.length_map, decide_eq_true hz2, Bool.and_true, List.all_eq_true]
  intro p hp
  have l := tpl_mem hp
  have lz : p.2.length ≤ szL := le_szL (by omega)
  simp [runD, pl, s2, lz]
theorem ne_nil_runs (f : List Run) (hz : f.length ≤ 1000) (ht : tpl f ≤ 100000) : dNe (.lst (f.map runD)) (.lst []) = .ok (.bl (decide (f ≠ []))) := by
  have s1 : shp (.lst (f.map runD)) = true := pl_shp (n := 5) (by decide) (pl_runs f hz ht)
  have s2 : shp (.lst ([].map runD)) = true := pl_shp (n := 5) (by decide) (pl_runs [] (by decide) (by decide))
  have s2' : shp (.lst []) = true := s2
  unfold dNe
  rw [s1, s2']
  cases f with
  | nil => rfl
  | cons p r => rfl
theorem ne_nil_big (r : List Int) (hz : r.length ≤ 100000) : dNe (.lst (r.map D.int)) (.lst []) = .ok (.bl (decide (r ≠ []))) := by
  have h := dNe_ints (xs := r) (ys := []) (le_szL (by omega)) (le_szL (by decide))
  have h' : dNe (.lst (r.map D.int)) (.lst []) = _ := h
  rw [h']
  cases r <;> simp
theorem eq_bool (a b : Bool) : dEq (.bl a) (.bl b) = .ok (.bl (decide (a = b))) := by cases a <;> cases b <;> rfl
theorem last_run (l : List Run) (x : D) : dIdx (.lst (l.map runD ++ [x])) (.int (-1)) = .ok x := by
  dsimp only [dIdx]
  rw [atI_last]
theorem set_lastR (fr : List Run) (x y : D) : (fr.map runD ++ [x]).set fr.length y = fr.map runD ++ [y] := by
  rw [List.set_append_right _ _ (by simp)]
  simp
theorem joined_step (f : List Run) (r : Run) (hz : f.length < 900) (ht : tpl f + r.2.length ≤ 10000) (R0 : Option D) : b_joined_runs_1 [R0, some (.lst (f.map runD)), some (.bl r.1), some (.lst (r.2.map D.int))] = .nx [R0, some (.lst ((jn f r).map runD)), some (.bl r.1), some (.lst (r.2.map D.int))] := by
  obtain ⟨full, ps⟩ := r
  dsimp only at ht ⊢
  have n1 := ne_nil_big ps (by omega)
  have n0 := ne_nil_runs f (by omega) (by omega)
  by_cases c : ps = []
  · rw [jn_nil c]
    subst c
    have n1' : dNe (.lst []) (.lst []) = .ok (.bl false) := n1
    generalize f.map runD = fl at *
    simp [b_joined_runs_1, n1']
  · have lz : f.length < szL := lt_szL (by omega)
    rcases List.eq_nil_or_concat f with w | ⟨f0, l, w⟩
    · subst w
      rw [jn_first (r := (full, ps)) c]
      have n0' : dNe (.lst []) (.lst []) = .ok (.bl false) := n0
      have e1 : decide (ps ≠ []) = true := by simp [c]
      rw [e1] at n1
      generalize hq : ps.map D.int = pl1 at *
      cases full with
      | true => simp [b_joined_runs_1, n1, n0', lz, runD, hq]
      | false => simp [b_joined_runs_1, n1, n0']
    · rw [List.concat_eq_append] at w
      subst w
      rw [jn_snoc f0 l (r := (full, ps)) c]
      have n0' : dNe (.lst (f0.map runD ++ [runD l])) (.lst []) = .ok (.bl true) := by
        rw [List.map_append] at n0
        simpa using n0
      have e1 : decide (ps ≠ []) = true := by simp [c]
      rw [e1] at n1
      have la := last_run f0 (runD l)
      have t0 : dIdx (runD l) (.int 0) = .ok (.bl l.1) := tup0 _ _
      have t1 : dIdx (runD l) (.int 1) = .ok (.lst (l.2.map D.int)) := tup1 _ _
      have eb := eq_bool l.1 full
      rw [tpl_app, tpl_cons] at ht
      have lz2 : (l.2.map D.int).length + (ps.map D.int).length ≤ szL := le_szL (by rw [List.length_map, List.length_map]; omega)
      have lz' : f0.length + 1 < szL := by simpa using lz
      have em : (l.2 ++ ps).map D.int = l.2.map D.int ++ ps.map D.int := List.map_append
      by_cases e : l.1 = full
      · rw [if_pos (show l.1 = (full, ps).1 from e)]
        rw [decide_eq_true e] at eb
        have s := set_lastR f0 (runD l) (runD (full, l.2 ++ ps))
        have er : runD (full, l.2 ++ ps) = .tup [.bl full, .lst (l.2.map D.int ++ ps.map D.int)] := by unfold runD; rw [em]
        rw [er] at s
        rw [List.map_append, List.map_append, List.map_singleton, List.map_singleton, er]
        generalize ps.map D.int = pl1 at *
        generalize l.2.map D.int = pl2 at *
        generalize runD l = ld at *
        simp [b_joined_runs_1, n1, n0', la, t0, t1, eb, lz2, ixN_snoc, s, noX, -dIdx]
      · rw [if_neg (show ¬ l.1 = (full, ps).1 from e)]
        rw [decide_eq_false e] at eb
        simp only [List.map_append, List.map_cons, List.map_nil]
        rw [show runD (full, ps) = .tup [.bl full, .lst (ps.map D.int)] from rfl]
        generalize ps.map D.int = pl1 at *
        generalize l.2.map D.int = pl2 at *
        generalize runD l = ld at *
        simp [b_joined_runs_1, n1, n0', la, t0, t1, eb, lz', -dIdx]
theorem tpl_jn (f : List Run) (r : Run) : tpl (jn f r) ≤ tpl f + r.2.length ∧ (jn f r).length ≤ f.length + 1 := by
  by_cases c : r.2 = []
  · rw [jn_nil c]
    exact ⟨by omega, by omega⟩
  · rcases List.eq_nil_or_concat f with w | ⟨f0, l, w⟩
    · subst w
      rw [jn_first c]
      split
      · rw [tpl_cons]
        exact ⟨Nat.le_of_eq (Nat.add_comm _ _), by simp⟩
      · exact ⟨Nat.zero_le _, Nat.zero_le _⟩
    · rw [List.concat_eq_append] at w
      subst w
      rw [jn_snoc f0 l c]
      split
      · rw [tpl_app, tpl_app, tpl_cons, tpl_cons, List.length_append]
        exact ⟨by omega, by simp⟩
      · rw [tpl_app, tpl_cons]
        exact ⟨by show _ + (r.2.length + 0) ≤ _; omega, by simp⟩
theorem jn_loop (mb : Sl → O) (R0 : Option D) (st : ∀ (f : List Run) (r : Run), f.length < 900 → tpl f + r.2.length ≤ 10000 → mb [R0, some (.lst (f.map runD)), some (.bl r.1), some (.lst (r.2.map D.int))] = .nx [R0, some (.lst ((jn f r).map runD)), some (.bl r.1), some (.lst (r.2.map D.int))]) : ∀ (L f : List Run) (x y : Option D), f.length + L.length < 900 → tpl f + tpl L ≤ 10000 →
    ∃ x' y', forL (.tup [2, 3]) mb (L.map runD) [R0, some (.lst (f.map runD)), x, y] = .nx [R0, some (.lst ((L.foldl jn f).map runD)), x', y']
  | [], f, x, y, _, _ => ⟨x, y, rfl⟩
  | r :: L, f, x, y, h1, h2 => by
    rw [List.length_cons] at h1
    rw [tpl_cons] at h2
    obtain ⟨j1, j2⟩ := tpl_jn f r
    obtain ⟨x', y', e⟩ := jn_loop mb R0 st L (jn f r) (some (.bl r.1)) (some (.lst (r.2.map D.int))) (by omega) (by omega)
    refine ⟨x', y', ?_⟩
    rw [List.map_cons, List.foldl_cons, ← e]
    exact forL_step (xs := [.bl r.1, .lst (r.2.map D.int)]) rfl (st f r (by omega) (by omega))
theorem joined_ok (L : List Run) (h1 : L.length < 900) (h2 : tpl L ≤ 10000) : f_joined_runs [.lst (L.map runD)] = .ok (.lst ((jns L).map runD)) := by
  obtain ⟨x, y, e⟩ := jn_loop b_joined_runs_1 (some (.lst (L.map runD))) (fun f r a b => joined_step f r a b _) L [] none none (by simpa using h1) (by simpa [tpl] using h2)
  have e' : forL (.tup [2, 3]) b_joined_runs_1 (L.map runD) [some (.lst (L.map runD)), some (.lst []), none, none] = _ := e
  unfold jns
  generalize (L.foldl jn []).map runD = q at *
  generalize L.map runD = l at *
  simp [f_joined_runs, m_joined_runs, e']
theorem run_at (A B : List Run) (x : Run) : dIdx (.lst ((A ++ x :: B).map runD)) (.int (A.length : Nat)) = .ok (runD x) := dIdx_list (i := A.length) (by simp)
theorem parted_loop (T : List Run) : ∀ (P : List Run) (q : List Run × Run × Run × List Run), findR P = some q → ∀ (A : List Run) (fuel : Nat), T = A ++ P → P.length ≤ fuel → 
    whileL (gTest (gBin dLt (gCall fLen (VL.gCons (gBin dIdx (gBin dIdx (gVar 0) (gVar 1)) (gC (.int 1))) VL.gNil)) (gCall fLen (VL.gCons (gBin dIdx (gBin dIdx (gVar 0) (gBin dSub (gVar 1) (gC (.int 1)))) (gC (.int 1))) VL.gNil)))) b_parted_run_1 fuel [some (.lst (T.map runD)), some (.int ((A.length : Nat) + 1))] = .nx [some (.lst (T.map runD)), some (.int ((A.length + q.1.length : Nat) + 1))]
  | [], q, h, _, _, _, _ => by cases h
  | [_], q, h, _, _, _, _ => by cases h
  | x :: y :: r, q, h, A, 0, e, hf => by simp at hf
  | x :: y :: r, q, h, A, fuel + 1, e, hf => by
    have i1 : dIdx (.lst (T.map runD)) (.int ((A.length : Nat) + 1)) = .ok (runD y) := by
      have := run_at (A ++ [x]) r y
      rw [e]
      simpa using this
    have i0 : dIdx (.lst (T.map runD)) (.int ((A.length : Nat) + 1 - 1)) = .ok (runD x) := by
      have := run_at A (y :: r) x
      rw [e, show ((A.length : Nat) : Int) + 1 - 1 = (A.length : Nat) by omega]
      exact this
    have tx : dIdx (runD x) (.int 1) = .ok (.lst (x.2.map D.int)) := tup1 _ _
    have ty : dIdx (runD y) (.int 1) = .ok (.lst (y.2.map D.int)) := tup1 _ _
    have lx : fLen [.lst (x.2.map D.int)] = .ok (.int (x.2.length : Nat)) := by simp [fLen]
    have ly : fLen [.lst (y.2.map D.int)] = .ok (.int (y.2.length : Nat)) := by simp [fLen]
    unfold findR at h
    by_cases c : x.2.length ≤ y.2.length
    · rw [if_pos c] at h
      cases h
      have cn : ¬ (y.2.length : Int) < (x.2.length : Int) := by omega
      refine whileL_fin ?_
      generalize T.map runD = tl at *
      generalize x.2.map D.int = xl at *
      generalize y.2.map D.int = yl at *
      generalize ((A.length : Nat) : Int) + 1 = k at *
      simp [i1, i0, tx, ty, lx, ly, cn, -dIdx, -fLen]
    · rw [if_neg c] at h
      cases e1 : findR (y :: r) with
      | none => rw [e1] at h; cases h
      | some q1 =>
        rw [e1] at h
        cases h
        have cn : (y.2.length : Int) < (x.2.length : Int) := by omega
        have ih := parted_loop T (y :: r) q1 e1 (A ++ [x]) fuel (by rw [e]; simp) (by simp at hf ⊢; omega)
        have el : (((A ++ [x]).length : Nat) : Int) + 1 = (A.length : Nat) + 1 + 1 := by simp
        have er : (((A ++ [x]).length + q1.1.length : Nat) : Int) + 1 = (A.length + (x :: q1.1).length : Nat) + 1 := by simp; omega
        rw [el, er] at ih
        rw [← ih]
        refine whileL_turn ?_ ?_
        · generalize T.map runD = tl at *
          generalize x.2.map D.int = xl at *
          generalize y.2.map D.int = yl at *
          generalize ((A.length : Nat) : Int) + 1 = k at *
          simp [i1, i0, tx, ty, lx, ly, cn, -dIdx, -fLen]
        · generalize T.map runD = tl at *
          simp [b_parted_run_1, noX, dIAdd]
theorem parted_ok (P : List Run) (hz : P.length ≤ 900) {q : List Run × Run × Run × List Run} (h : findR P = some q) : f_parted_run [.lst (P.map runD)] = .ok (.int ((q.1.length : Nat) + 1)) := by
  have e := parted_loop P P q h [] WB rfl (by rw [WB_eq]; omega)
  rw [show (([] : List Run).length + q.1.length : Nat) = q.1.length by simp] at e
  have e' : whileL (gTest (gBin dLt (gCall fLen (VL.gCons (gBin dIdx (gBin dIdx (gVar 0) (gVar 1)) (gC (.int 1))) VL.gNil)) (gCall fLen (VL.gCons (gBin dIdx (gBin dIdx (gVar 0) (gBin dSub (gVar 1) (gC (.int 1)))) (gC (.int 1))) VL.gNil)))) b_parted_run_1 WB [some (.lst (P.map runD)), some (.int 1)] = _ := e
  generalize P.map runD = l at *
  simp [f_parted_run, m_parted_run, e']

theorem heads_step (R0 : Option D) {P : List Run} {q : List Run × Run × Run × List Run} (hq : findR P = some q) (Ac : List (List Int × List Int)) (hP : P.length ≤ 200) (ht : tpl P ≤ 9000) (hA : Ac.length ≤ 500) (x3 x4 x5 x6 x7 x8 : Option D) :
    ∃ y3 y4 y5 y6, b_heads_1 [R0, some (.lst (Ac.map triD)), some (.lst (P.map runD)), x3, x4, x5, x6, x7, x8] = .nx [R0, some (.lst ((Ac ++ [tookR q]).map triD)), some (.lst ((jns (leftR q)).map runD)), y3, y4, y5, y6, x7, x8] := by
  have pa := parted_ok P (by omega) hq
  obtain ⟨t1, t2⟩ := tpl_left hq
  have jo := joined_ok (leftR q) (by omega) (by omega)
  obtain ⟨e, l⟩ := findR_eq hq
  obtain ⟨A, x, y, B⟩ := q
  dsimp only at e l pa
  have lc := left_cut A x y B
  have i0 := run_at A (y :: B) x
  have i1 : dIdx (.lst ((A ++ x :: y :: B).map runD)) (.int ((A.length : Nat) + 1)) = .ok (runD y) := by
    have := run_at (A ++ [x]) B y
    simpa using this
  rw [← e] at i0 i1 lc
  have tx0 : dIdx (runD x) (.int 0) = .ok (.bl x.1) := tup0 _ _
  have tx : dIdx (runD x) (.int 1) = .ok (.lst (x.2.map D.int)) := tup1 _ _
  have ty0 : dIdx (runD y) (.int 0) = .ok (.bl y.1) := tup0 _ _
  have ty : dIdx (runD y) (.int 1) = .ok (.lst (y.2.map D.int)) := tup1 _ _
  have lx : fLen [.lst (x.2.map D.int)] = .ok (.int (x.2.length : Nat)) := by simp [fLen]
  have cy : cutL (y.2.map D.int) none (some (x.2.length : Int)) = (y.2.take x.2.length).map D.int := by rw [cutL_to (k := x.2.length) rfl, List.map_take]
  have dy : cutL (y.2.map D.int) (some (x.2.length : Int)) none = (y.2.drop x.2.length).map D.int := by rw [cutL_fromG (k := x.2.length) rfl, List.map_drop]
  have il : ixN (P.map runD).length ((A.length : Nat) + 1 : Int) = some (A.length + 1) := by
    have := ixN_natH (n := (P.map runD).length) (k := A.length + 1) (by rw [e]; simp)
    rw [← this]
    congr 1
  have er : runD (y.1, y.2.drop x.2.length) = .tup [.bl y.1, .lst ((y.2.drop x.2.length).map D.int)] := rfl
  rw [er] at lc
  have ek : ((A.length : Nat) : Int) + 1 - 1 = (A.length : Nat) := by omega
  have lz : Ac.length < szL := lt_szL (by omega)
  have lzA : (cutL ((P.map runD).set (A.length + 1) (.tup [.bl y.1, .lst ((y.2.drop x.2.length).map D.int)])) none (some ((A.length : Nat) : Int))).length + (cutL ((P.map runD).set (A.length + 1) (.tup [.bl y.1, .lst ((y.2.drop x.2.length).map D.int)])) (some ((A.length : Nat) + 1 : Int)) none).length ≤ szL := le_szL (by
    rw [← List.length_append, lc, List.length_map]
    omega)
  have s3 : (3 : Nat) ≤ szL := le_szL (by decide)
  have s2 : (2 : Nat) ≤ szL := le_szL (by decide)
  have s12 : (1 + 2 : Nat) ≤ szL := le_szL (by decide)
  have tl : (y.2.take x.2.length).length = x.2.length := by rw [List.length_take]; omega
  have em : (Ac ++ [tookR (A, x, y, B)]).map triD = Ac.map triD ++ [triD (tookR (A, x, y, B))] := by simp
  rw [em]
  have lzA2 : (Ac.map triD).length < szL := by rw [List.length_map]; exact lz
  have u0 : ∀ a b : D, dIdx (.tup [a, b]) (.int 0) = .ok a := tup0
  have u1 : ∀ a b : D, dIdx (.tup [a, b]) (.int 1) = .ok b := tup1
  cases t : x.1 with
  | true =>
    have et : triD (tookR (A, x, y, B)) = .tup [.int (x.2.length : Nat), .tup (x.2.map D.int), .tup ((y.2.take x.2.length).map D.int)] := by
      unfold tookR triD
      simp [t]
    rw [et]
    rw [t] at tx0
    generalize (jns (leftR (A, x, y, B))).map runD = jl at *
    generalize (leftR (A, x, y, B)).map runD = ll at *
    generalize (y.2.drop x.2.length).map D.int = yd at *
    generalize (y.2.take x.2.length).map D.int = yt at *
    generalize (x.2.length : Int) = m at *
    generalize x.2.map D.int = xl at *
    generalize y.2.map D.int = yl at *
    generalize runD x = rx at *
    generalize runD y = ry at *
    generalize P.map runD = pl0 at *
    generalize hk : ((A.length : Nat) : Int) = k at *
    generalize Ac.map triD = al at *
    refine ⟨some (.int (k + 1)), some rx, some (.int m), some (.tup [.tup xl, .tup yt]), ?_⟩
    unfold b_heads_1
    rw [seq_nx (r' := [R0, some (.lst al), some (.lst pl0), some (.int (k + 1)), x4, x5, x6, x7, x8]) (by simp [pa]),
      seq_nx (r' := [R0, some (.lst al), some (.lst pl0), some (.int (k + 1)), some rx, x5, x6, x7, x8]) (by simp [ek, i0, -dIdx]),
      seq_nx (r' := [R0, some (.lst al), some (.lst pl0), some (.int (k + 1)), some rx, some (.int m), x6, x7, x8]) (by simp [tx, lx, -dIdx, -fLen]),
      seq_nx (r' := [R0, some (.lst al), some (.lst pl0), some (.int (k + 1)), some rx, some (.int m), some (.tup [.tup xl, .tup yt]), x7, x8]) (by simp [tx, i1, ty, cy, s2, -dIdx]),
      seq_nx (r' := [R0, some (.lst al), some (.lst pl0), some (.int (k + 1)), some rx, some (.int m), some (.tup [.tup xl, .tup yt]), x7, x8]) (by simp [tx0, -dIdx]),
      seq_nx (r' := [R0, some (.lst (al ++ [.tup [.int m, .tup xl, .tup yt]])), some (.lst pl0), some (.int (k + 1)), some rx, some (.int m), some (.tup [.tup xl, .tup yt]), x7, x8]) (by simp [lzA2, s12, s3, -dIdx]),
      seq_nx (r' := [R0, some (.lst (al ++ [.tup [.int m, .tup xl, .tup yt]])), some (.lst (pl0.set (A.length + 1) (.tup [.bl y.1, .lst yd]))), some (.int (k + 1)), some rx, some (.int m), some (.tup [.tup xl, .tup yt]), x7, x8]) (by simp [i1, ty0, ty, dy, il, s2, noX, -dIdx]),
      seq_nx (r' := [R0, some (.lst (al ++ [.tup [.int m, .tup xl, .tup yt]])), some (.lst jl), some (.int (k + 1)), some rx, some (.int m), some (.tup [.tup xl, .tup yt]), x7, x8]) (by simp [lc, lzA, jo, -dIdx])]
    rfl
  | false =>
    have et : triD (tookR (A, x, y, B)) = .tup [.int (x.2.length : Nat), .tup ((y.2.take x.2.length).map D.int), .tup (x.2.map D.int)] := by
      unfold tookR triD
      simp [t, tl]
    rw [et]
    rw [t] at tx0
    generalize (jns (leftR (A, x, y, B))).map runD = jl at *
    generalize (leftR (A, x, y, B)).map runD = ll at *
    generalize (y.2.drop x.2.length).map D.int = yd at *
    generalize (y.2.take x.2.length).map D.int = yt at *
    generalize (x.2.length : Int) = m at *
    generalize x.2.map D.int = xl at *
    generalize y.2.map D.int = yl at *
    generalize runD x = rx at *
    generalize runD y = ry at *
    generalize P.map runD = pl0 at *
    generalize hk : ((A.length : Nat) : Int) = k at *
    generalize Ac.map triD = al at *
    refine ⟨some (.int (k + 1)), some rx, some (.int m), some (.tup [.tup yt, .tup xl]), ?_⟩
    unfold b_heads_1
    rw [seq_nx (r' := [R0, some (.lst al), some (.lst pl0), some (.int (k + 1)), x4, x5, x6, x7, x8]) (by simp [pa]),
      seq_nx (r' := [R0, some (.lst al), some (.lst pl0), some (.int (k + 1)), some rx, x5, x6, x7, x8]) (by simp [ek, i0, -dIdx]),
      seq_nx (r' := [R0, some (.lst al), some (.lst pl0), some (.int (k + 1)), some rx, some (.int m), x6, x7, x8]) (by simp [tx, lx, -dIdx, -fLen]),
      seq_nx (r' := [R0, some (.lst al), some (.lst pl0), some (.int (k + 1)), some rx, some (.int m), some (.tup [.tup xl, .tup yt]), x7, x8]) (by simp [tx, i1, ty, cy, s2, -dIdx]),
      seq_nx (r' := [R0, some (.lst al), some (.lst pl0), some (.int (k + 1)), some rx, some (.int m), some (.tup [.tup yt, .tup xl]), x7, x8]) (by simp [tx0, u0, u1, s2, -dIdx]),
      seq_nx (r' := [R0, some (.lst (al ++ [.tup [.int m, .tup yt, .tup xl]])), some (.lst pl0), some (.int (k + 1)), some rx, some (.int m), some (.tup [.tup yt, .tup xl]), x7, x8]) (by simp [lzA2, s12, s3, -dIdx]),
      seq_nx (r' := [R0, some (.lst (al ++ [.tup [.int m, .tup yt, .tup xl]])), some (.lst (pl0.set (A.length + 1) (.tup [.bl y.1, .lst yd]))), some (.int (k + 1)), some rx, some (.int m), some (.tup [.tup yt, .tup xl]), x7, x8]) (by simp [i1, ty0, ty, dy, il, s2, noX, -dIdx]),
      seq_nx (r' := [R0, some (.lst (al ++ [.tup [.int m, .tup yt, .tup xl]])), some (.lst jl), some (.int (k + 1)), some rx, some (.int m), some (.tup [.tup yt, .tup xl]), x7, x8]) (by simp [lc, lzA, jo, -dIdx])]
    rfl
def hds : Nat → List Run → Option (List (List Int × List Int))
  | 0, P => if P = [] then some [] else none
  | n + 1, P => if P = [] then some [] else match findR P with
    | none => none
    | some q => (hds n (jns (leftR q))).map (tookR q :: ·)
theorem tpl_jns (L : List Run) : tpl (jns L) ≤ tpl L ∧ (jns L).length ≤ L.length := by
  have key : ∀ (L f : List Run), tpl (L.foldl jn f) ≤ tpl f + tpl L ∧ (L.foldl jn f).length ≤ f.length + L.length := by
    intro L
    induction L with
    | nil => intro f; exact ⟨Nat.le_add_right _ _, Nat.le_add_right _ _⟩
    | cons r L ih =>
      intro f
      obtain ⟨a, b⟩ := ih (jn f r)
      obtain ⟨c, d⟩ := tpl_jn f r
      rw [List.foldl_cons, tpl_cons, List.length_cons]
      omega
  have := key L []
  rw [show tpl ([] : List Run) = 0 from rfl] at this
  unfold jns
  simp at this
  omega
theorem heads_loop (R0 : Option D) : ∀ (n fuel : Nat) (P : List Run) (H Ac : List (List Int × List Int)) (x3 x4 x5 x6 x7 x8 : Option D), hds n P = some H → n < fuel → P.length ≤ 200 → tpl P ≤ 9000 → Ac.length + n ≤ 500 →
    ∃ y3 y4 y5 y6, whileL (gTest (gBin dNe (gVar 2) (VL.gLst VL.gNil))) b_heads_1 fuel [R0, some (.lst (Ac.map triD)), some (.lst (P.map runD)), x3, x4, x5, x6, x7, x8] = .nx [R0, some (.lst ((Ac ++ H).map triD)), some (.lst []), y3, y4, y5, y6, x7, x8]
  | n, 0, P, H, Ac, _, _, _, _, _, _, _, h, _, _, _ => by omega
  | n, fuel + 1, P, H, Ac, x3, x4, x5, x6, x7, x8, e, h, h1, h2, h3 => by
    have nn := ne_nil_runs P (by omega) (by omega)
    by_cases z : P = []
    · subst z
      have eH : H = [] := by
        cases n with
        | zero => unfold hds at e; rw [if_pos rfl] at e; exact (Option.some.inj e).symm
        | succ n => unfold hds at e; rw [if_pos rfl] at e; exact (Option.some.inj e).symm
      subst eH
      have nn' : dNe (.lst []) (.lst []) = .ok (.bl false) := nn
      refine ⟨x3, x4, x5, x6, ?_⟩
      rw [List.append_nil]
      exact whileL_fin (by simp [nn'])
    · cases n with
      | zero => unfold hds at e; rw [if_neg z] at e; cases e
      | succ n =>
        unfold hds at e
        rw [if_neg z] at e
        cases hq : findR P with
        | none => rw [hq] at e; cases e
        | some q =>
          rw [hq] at e
          dsimp only at e
          cases eH : hds n (jns (leftR q)) with
          | none => rw [eH] at e; cases e
          | some H2 =>
            rw [eH] at e
            cases e
            obtain ⟨y3, y4, y5, y6, st⟩ := heads_step R0 hq Ac h1 h2 (by omega) x3 x4 x5 x6 x7 x8
            obtain ⟨t1, t2⟩ := tpl_left hq
            obtain ⟨j1, j2⟩ := tpl_jns (leftR q)
            obtain ⟨z3, z4, z5, z6, ih⟩ := heads_loop R0 n fuel (jns (leftR q)) H2 (Ac ++ [tookR q]) y3 y4 y5 y6 x7 x8 eH (by omega) (by omega) (by omega) (by simp; omega)
            refine ⟨z3, z4, z5, z6, ?_⟩
            have ea : Ac ++ tookR q :: H2 = Ac ++ [tookR q] ++ H2 := by simp
            show _ = O.nx [R0, some (.lst ((Ac ++ tookR q :: H2).map triD)), _, _, _, _, _, _, _]
            rw [ea, ← ih]
            have e1 : decide (P ≠ []) = true := by simp [z]
            rw [e1] at nn
            refine whileL_turn ?_ st
            generalize P.map runD = pl0 at *
            simp [nn]

theorem alike_ints : ∀ a b : List Int, PySem.W.alikeAll (toPys (a.map D.int)) (toPys (b.map D.int)) = true
  | [], _ => by simp [toPys, PySem.W.alikeAll]
  | _ :: _, [] => by simp [toPys, PySem.W.alikeAll]
  | x :: a, y :: b => by
    have i := alike_ints a b
    simp only [List.map_cons, toPys, PySem.W.alikeAll, toPy, PySem.W.alike, Bool.true_and, i]
def mnR (a c : Int) : Int := if c < a then c else a
theorem mn_le (a c : Int) : mnR a c ≤ a ∧ mnR a c ≤ c ∧ (mnR a c = a ∨ mnR a c = c) := by unfold mnR; split <;> omega
def fullR (x : Int × Int) : Run := (true, laid x.1 (x.2 + 1 - x.1).toNat)
def gapR (cap : Int) (e a : Int) : Run := (false, laid (e + 1) (mnR a (e + cap) - (e + 1)).toNat)
def road1 (cap : Int) : Option (Int × Int) → Int × Int → List Run
  | none, x => [fullR x]
  | some l, x => [gapR cap l.2 x.1, fullR x]
def roadZ (cap : Int) : Option (Int × Int) → List (Int × Int) → List Run
  | _, [] => []
  | o, x :: rs => road1 cap o x ++ roadZ cap (some x) rs
def stn (L : List Run) : Nat := (L.map fun r => if r.1 then r.2.length else 0).sum
theorem stn_cons (r : Run) (L : List Run) : stn (r :: L) = (if r.1 then r.2.length else 0) + stn L := by unfold stn; rw [List.map_cons, List.sum_cons]
theorem stn_app (A B : List Run) : stn (A ++ B) = stn A + stn B := by unfold stn; rw [List.map_append, List.sum_append]
def rowC : List (Int × Int) → List Int
  | [] => []
  | x :: rs => laid x.1 (x.2 - x.1 + 1).toNat ++ rowC rs
theorem laid_len (p : Int) (m : Nat) : (laid p m).length = m := by simp [laid]
theorem road_stn (cap : Int) : ∀ (rs : List (Int × Int)) (o : Option (Int × Int)), (∀ x ∈ rs, x.1 ≤ x.2) → stn (roadZ cap o rs) = (rowC rs).length
  | [], o, _ => by cases o <;> rfl
  | x :: rs, o, h => by
    have ih := road_stn cap rs (some x) fun q hq => h q (List.mem_cons_of_mem _ hq)
    have hx := h x List.mem_cons_self
    have fl : (fullR x).2.length = (x.2 + 1 - x.1).toNat := laid_len _ _
    have rl : (rowC (x :: rs)).length = (x.2 + 1 - x.1).toNat + (rowC rs).length := by
      show (laid _ _ ++ rowC rs).length = _
      rw [List.length_append, laid_len]
      omega
    show stn (road1 cap o x ++ roadZ cap (some x) rs) = _
    rw [stn_app, ih, rl]
    cases o with
    | none =>
      show stn [fullR x] + _ = _
      rw [stn_cons, if_pos (show (fullR x).1 = true from rfl), fl]
      show _ + 0 + _ = _
      omega
    | some l =>
      show stn [gapR cap l.2 x.1, fullR x] + _ = _
      rw [stn_cons, stn_cons, if_neg (show ¬ (gapR cap l.2 x.1).1 = true by simp [gapR]), if_pos (show (fullR x).1 = true from rfl), fl]
      show 0 + (_ + 0) + _ = _
      omega
theorem full_ne {x : Int × Int} (h : x.1 ≤ x.2) : (fullR x).2 ≠ [] := fun z => by
  have : (fullR x).2.length = (x.2 + 1 - x.1).toNat := laid_len _ _
  rw [z] at this
  simp at this
  omega
/-- joined runs alternate, none is empty, the first is full -/
structure Alt (L : List Run) : Prop where
  ne : ∀ p ∈ L, p.2 ≠ []
  hd : ∀ p, L.head? = some p → p.1 = true
  ch : ∀ (A B : List Run) (p q : Run), L = A ++ p :: q :: B → p.1 ≠ q.1
abbrev Apart (rs : List (Int × Int)) : Prop := rs.Pairwise fun a b => a.2 + 2 ≤ b.1
/-- .. all as deep -/
inductive RA (M : Nat) : List Run → List Run → Prop
  | nil : RA M [] []
  | cons {p q : Run} {P L : List Run} : R1 (M + 1) p q → RA M P L → RA M (p :: P) (q :: L)
theorem Drawn.snoc {l : List Int} {x : Int} (h : Drawn l) (h1 : 0 ≤ x) (h2 : x < 9967) : Drawn (l ++ [x]) := fun d hd => by
  rcases List.mem_append.mp hd with z | z
  · exact h d z
  · have : d = x := by simpa using z
    subst this
    exact ⟨h1, h2⟩
def OkU : List Run → Prop
  | [] => True
  | [t] => t.1 = true ∧ t.2 ≠ []
  | t :: u :: S => t.2 ≠ [] ∧ t.1 = !u.1 ∧ t.2.length < u.2.length ∧ OkU (u :: S)
theorem OkU.ne {t : Run} {S : List Run} (h : OkU (t :: S)) : 0 < t.2.length := by
  cases S with
  | nil => exact List.length_pos_iff.mpr h.2
  | cons u S => exact List.length_pos_iff.mpr h.1
theorem Alt.snoc {f : List Run} {l r : Run} (h : Alt (f ++ [l])) (e1 : l.1 ≠ r.1) (e2 : r.2 ≠ []) : Alt (f ++ [l] ++ [r]) := by
  refine ⟨fun p hp => ?_, fun p hp => ?_, fun A B p q e => ?_⟩
  · rcases List.mem_append.mp hp with w | w
    · exact h.ne p w
    · rw [List.mem_singleton.mp w]; exact e2
  · cases f with
    | nil => exact h.hd p hp
    | cons a f => exact h.hd p hp
  · rcases List.eq_nil_or_concat B with w | ⟨B0, b, w⟩
    · subst w
      have e3 : f ++ [l] ++ [r] = (A ++ [p]) ++ [q] := by rw [e]; simp
      obtain ⟨e4, e5⟩ := List.append_inj' e3 rfl
      cases e5
      obtain ⟨_, e7⟩ := List.append_inj' e4 rfl
      cases e7
      exact e1
    · rw [List.concat_eq_append] at w
      subst w
      have e3 : f ++ [l] ++ [r] = (A ++ p :: q :: B0) ++ [b] := by rw [e]; simp
      obtain ⟨e4, _⟩ := List.append_inj' e3 rfl
      exact h.ch A B0 p q e4
theorem RA.snoc {M : Nat} {P L : List Run} (h : RA M P L) : (P = [] ∧ L = []) ∨ ∃ P0 p L0 q, P = P0 ++ [p] ∧ L = L0 ++ [q] ∧ RA M P0 L0 ∧ R1 (M + 1) p q := by
  induction h with
  | nil => exact .inl ⟨rfl, rfl⟩
  | cons h hr ih =>
    right
    rcases ih with ⟨rfl, rfl⟩ | ⟨P0, p, L0, q, rfl, rfl, h1, h2⟩
    · exact ⟨[], _, [], _, rfl, rfl, .nil, h⟩
    · exact ⟨_ :: P0, p, _ :: L0, q, rfl, rfl, .cons h h1, h2⟩
theorem road_alt (cap : Int) (hc : 2 ≤ cap) : ∀ (rs : List (Int × Int)) (l : Int × Int) (F0 : List Run), Alt (F0 ++ [fullR l]) → Apart (l :: rs) → (∀ x ∈ rs, x.1 ≤ x.2) → ∃ F1 m, F0 ++ [fullR l] ++ roadZ cap (some l) rs = F1 ++ [fullR m] ∧ Alt (F1 ++ [fullR m])
  | [], l, F0, h, _, _ => ⟨F0, l, by rw [show roadZ cap (some l) [] = [] from rfl, List.append_nil], h⟩
  | x :: rs, l, F0, h, ha, hx => by
    obtain ⟨a1, a2⟩ := List.pairwise_cons.mp ha
    have lx := a1 x List.mem_cons_self
    have hxx := hx x List.mem_cons_self
    have g : (gapR cap l.2 x.1).2 ≠ [] := fun z => by
      have : (gapR cap l.2 x.1).2.length = (mnR x.1 (l.2 + cap) - (l.2 + 1)).toNat := laid_len _ _
      rw [z] at this
      obtain ⟨b1, b2, b3⟩ := mn_le x.1 (l.2 + cap)
      simp at this
      omega
    have h1 : Alt (F0 ++ [fullR l] ++ [gapR cap l.2 x.1]) := h.snoc (by show true ≠ false; decide) g
    have h2 : Alt ((F0 ++ [fullR l]) ++ [gapR cap l.2 x.1] ++ [fullR x]) := h1.snoc (by show false ≠ true; decide) (full_ne hxx)
    obtain ⟨F1, m, e1, e2⟩ := road_alt cap hc rs x (F0 ++ [fullR l] ++ [gapR cap l.2 x.1]) h2 a2 fun q hq => hx q (List.mem_cons_of_mem _ hq)
    refine ⟨F1, m, ?_, e2⟩
    rw [← e1]
    show F0 ++ [fullR l] ++ ([gapR cap l.2 x.1, fullR x] ++ roadZ cap (some x) rs) = _
    simp
def wholeR (cap : Int) (n : Nat) (rs : List (Int × Int)) (e : Int) : List Run := roadZ cap none rs ++ [(false, laid (e + 1) n)]
theorem Rc.le {N k : Nat} {a b : List Int} (h : Rc N a b) (l : k ≤ N) : k ≤ a.length ↔ k ≤ b.length := by
  rcases h with h | ⟨C, a', b', h1, h2, h3⟩
  · rw [h]
  · rw [h1, h2, List.length_append, List.length_append]
    omega
theorem R1.nil {N : Nat} {p q : Run} (h : R1 N p q) (hN : 1 ≤ N) : p.2 = [] ↔ q.2 = [] := by
  have := h.2.2.le (k := 1) hN
  rw [← List.length_eq_zero_iff, ← List.length_eq_zero_iff]
  omega
theorem Alt.nil : Alt [] := ⟨(fun p h => nomatch h), (fun p h => nomatch h), fun A B p q e => by
  have := congrArg List.length e
  simp at this⟩
theorem Alt.snocL {f : List Run} {l : Run} (h : Alt (f ++ [l])) {l2 : Run} (e1 : l2.1 = l.1) (e2 : l2.2 ≠ []) : Alt (f ++ [l2]) := by
  refine ⟨fun p hp => ?_, fun p hp => ?_, fun A B p q e => ?_⟩
  · rcases List.mem_append.mp hp with w | w
    · exact h.ne p (List.mem_append_left _ w)
    · rw [List.mem_singleton.mp w]; exact e2
  · cases f with
    | nil =>
      have := h.hd l rfl
      cases hp
      rw [e1]; exact this
    | cons a f => exact h.hd p hp
  · rcases List.eq_nil_or_concat B with w | ⟨B0, b, w⟩
    · subst w
      have e3 : f ++ [l2] = (A ++ [p]) ++ [q] := by rw [e]; simp
      obtain ⟨e4, e5⟩ := List.append_inj' e3 rfl
      cases e5
      have := h.ch A [] p l (by rw [e4]; simp)
      rw [e1]; exact this
    · rw [List.concat_eq_append] at w
      subst w
      have e3 : f ++ [l2] = (A ++ p :: q :: B0) ++ [b] := by rw [e]; simp
      obtain ⟨e4, e5⟩ := List.append_inj' e3 rfl
      exact h.ch A (B0 ++ [l]) p q (by rw [e4]; simp)
theorem jn_alt {f : List Run} (h : Alt f) (r : Run) : Alt (jn f r) := by
  by_cases c : r.2 = []
  · rw [jn_nil c]; exact h
  · rcases List.eq_nil_or_concat f with w | ⟨f0, l, w⟩
    · subst w
      rw [jn_first c]
      split
      · rename_i t
        refine ⟨fun p hp => by rw [List.mem_singleton.mp hp]; exact c, fun p hp => ?_, fun A B p q e => ?_⟩
        · cases hp; exact t
        · have := congrArg List.length e
          simp at this
          omega
      · exact Alt.nil
    · rw [List.concat_eq_append] at w
      subst w
      rw [jn_snoc f0 l c]
      split
      · rename_i e
        exact h.snocL (l2 := (r.1, l.2 ++ r.2)) e.symm (by
          intro z
          exact c (List.append_eq_nil_iff.mp z).2)
      · rename_i e
        exact h.snoc e c
structure Good (P : List Run) : Prop where
  alt : Alt P
  en : P = [] ∨ ∃ Q e, P = Q ++ [(false, e)] ∧ stn P ≤ e.length
def runStep (fs : List (Int × Int)) (p : Int) : List (Int × Int) := match fs.getLast? with
  | some x => if x.2 = p - 1 then fs.dropLast ++ [(x.1, p)] else fs ++ [(p, p)]
  | none => [(p, p)]
theorem runStep_nil (p : Int) : runStep [] p = [(p, p)] := rfl
theorem runStep_snoc (l : List (Int × Int)) (x : Int × Int) (p : Int) : runStep (l ++ [x]) p = if x.2 = p - 1 then l ++ [(x.1, p)] else l ++ [x] ++ [(p, p)] := by
  unfold runStep
  simp
theorem runs_apart_aux : ∀ (r : List Int) (fs : List (Int × Int)), Rising r → Apart fs → (∀ x ∈ fs, x.1 ≤ x.2) → (∀ x ∈ fs, ∀ p ∈ r, x.2 < p) → Apart (r.foldl runStep fs)
  | [], fs, _, h, _, _ => h
  | p :: r, fs, hr, h, h1, h2 => by
    obtain ⟨p1, p2⟩ := List.pairwise_cons.mp hr
    have key : Apart (runStep fs p) ∧ (∀ x ∈ runStep fs p, x.1 ≤ x.2) ∧ ∀ x ∈ runStep fs p, x.2 ≤ p := by
      rcases List.eq_nil_or_concat fs with e | ⟨l, x, e⟩
      · subst e
        rw [runStep_nil]
        refine ⟨List.pairwise_singleton _ _, fun x hx => ?_, fun x hx => ?_⟩
        · have : x = (p, p) := by simpa using hx
          subst this
          exact Int.le_refl _
        · have : x = (p, p) := by simpa using hx
          subst this
          exact Int.le_refl _
      · rw [List.concat_eq_append] at e
        subst e
        obtain ⟨q1, _, q2⟩ := List.pairwise_append.mp h
        have hx1 := h1 x (by simp)
        have hx2 := h2 x (by simp) p List.mem_cons_self
        rw [runStep_snoc]
        by_cases c : x.2 = p - 1
        · rw [if_pos c]
          refine ⟨List.pairwise_append.mpr ⟨q1, List.pairwise_singleton _ _, fun a ha b hb => ?_⟩, fun y hy => ?_, fun y hy => ?_⟩
          · have : b = (x.1, p) := by simpa using hb
            subst this
            exact q2 a ha x (by simp)
          · rcases List.mem_append.mp hy with z | z
            · exact h1 y (List.mem_append_left _ z)
            · have : y = (x.1, p) := by simpa using z
              subst this
              show x.1 ≤ p
              omega
          · rcases List.mem_append.mp hy with z | z
            · exact Int.le_of_lt (h2 y (List.mem_append_left _ z) p List.mem_cons_self)
            · have : y = (x.1, p) := by simpa using z
              subst this
              exact Int.le_refl _
        · rw [if_neg c]
          refine ⟨List.pairwise_append.mpr ⟨h, List.pairwise_singleton _ _, fun a ha b hb => ?_⟩, fun y hy => ?_, fun y hy => ?_⟩
          · have : b = (p, p) := by simpa using hb
            subst this
            show a.2 + 2 ≤ p
            rcases List.mem_append.mp ha with z | z
            · have := q2 a z x (by simp)
              omega
            · have : a = x := by simpa using z
              subst this
              omega
          · rcases List.mem_append.mp hy with z | z
            · exact h1 y z
            · have : y = (p, p) := by simpa using z
              subst this
              exact Int.le_refl _
          · rcases List.mem_append.mp hy with z | z
            · exact Int.le_of_lt (h2 y z p List.mem_cons_self)
            · have : y = (p, p) := by simpa using z
              subst this
              exact Int.le_refl _
    rw [List.foldl_cons]
    exact runs_apart_aux r _ p2 key.1 key.2.1 fun x hx y hy => by
      have := key.2.2 x hx
      have := p1 y hy
      omega
def runs (r : List Int) : List (Int × Int) := r.foldl runStep []
theorem runs_apart {r : List Int} (hr : Rising r) : Apart (runs r) := runs_apart_aux r [] hr List.Pairwise.nil (fun x hx => nomatch hx) fun x hx => nomatch hx
theorem laid_snoc (p : Int) (m : Nat) : laid p (m + 1) = laid p m ++ [p + m] := by
  unfold laid
  rw [List.range_succ, List.map_append]
  rfl
theorem rowC_app : ∀ (as bs : List (Int × Int)), rowC (as ++ bs) = rowC as ++ rowC bs
  | [], _ => rfl
  | a :: as, bs => by
    show laid _ _ ++ rowC (as ++ bs) = laid _ _ ++ rowC as ++ rowC bs
    rw [rowC_app as bs, List.append_assoc]
theorem laid_zero (p : Int) : laid p 0 = [] := rfl
/-- the stretches are the row -/
theorem runs_rowC : ∀ (r : List Int) (fs : List (Int × Int)), (∀ x ∈ fs, x.1 ≤ x.2) → rowC (r.foldl runStep fs) = rowC fs ++ r ∧ ∀ x ∈ r.foldl runStep fs, x.1 ≤ x.2
  | [], fs, h => ⟨by rw [List.foldl_nil, List.append_nil], h⟩
  | p :: r, fs, h => by
    have key : rowC (runStep fs p) = rowC fs ++ [p] ∧ ∀ x ∈ runStep fs p, x.1 ≤ x.2 := by
      have one : rowC [(p, p)] = [p] := by
        show laid p (p - p + 1).toNat ++ [] = [p]
        rw [show (p - p + 1).toNat = 0 + 1 by omega, laid_succ, laid_zero]
        rfl
      rcases List.eq_nil_or_concat fs with e | ⟨l, x, e⟩
      · subst e
        rw [runStep_nil]
        exact ⟨one, fun x hx => by
          have : x = (p, p) := List.mem_singleton.mp hx
          subst this
          exact Int.le_refl _⟩
      · rw [List.concat_eq_append] at e
        subst e
        have hx := h x (by simp)
        rw [runStep_snoc]
        by_cases c : x.2 = p - 1
        · rw [if_pos c, rowC_app, rowC_app, List.append_assoc]
          refine ⟨?_, fun y hy => ?_⟩
          · congr 1
            show laid x.1 (p - x.1 + 1).toNat ++ [] = laid x.1 (x.2 - x.1 + 1).toNat ++ [] ++ [p]
            rw [show (p - x.1 + 1).toNat = (x.2 - x.1 + 1).toNat + 1 by omega, laid_snoc, List.append_nil, List.append_nil, show x.1 + ((x.2 - x.1 + 1).toNat : Int) = p by omega]
          · rcases List.mem_append.mp hy with z | z
            · exact h y (List.mem_append_left _ z)
            · have : y = (x.1, p) := List.mem_singleton.mp z
              subst this
              show x.1 ≤ p
              omega
        · rw [if_neg c, rowC_app, one]
          refine ⟨rfl, fun y hy => ?_⟩
          rcases List.mem_append.mp hy with z | z
          · exact h y z
          · have : y = (p, p) := List.mem_singleton.mp z
            subst this
            exact Int.le_refl _
    obtain ⟨a, b⟩ := runs_rowC r (runStep fs p) key.2
    exact ⟨by rw [List.foldl_cons, a, key.1, List.append_assoc]; rfl, b⟩
theorem runs_row (r : List Int) : rowC (runs r) = r ∧ ∀ x ∈ runs r, x.1 ≤ x.2 := runs_rowC r [] fun x hx => nomatch hx
theorem runs_nil {r : List Int} : runs r = [] ↔ r = [] := by
  constructor
  · intro h
    have := (runs_row r).1
    rw [h] at this
    exact this.symm
  · intro h
    subst h
    rfl
theorem whole_good (r : List Int) (hr : Rising r) (hn : r ≠ []) (e : Int) (cap : Int) (hc : 2 ≤ cap) (n : Nat) (hnl : r.length ≤ n) : Good (wholeR cap n (runs r) e) ∧ stn (wholeR cap n (runs r) e) = r.length := by
  obtain ⟨er, h⟩ := runs_row r
  have ap := runs_apart hr
  have st := road_stn cap (runs r) none h
  rw [er] at st
  have sw : stn (wholeR cap n (runs r) e) = r.length := by
    unfold wholeR
    rw [stn_app, st, stn_cons]
    simp [stn]
  have ln : (laid (e + 1) n).length = n := laid_len _ _
  have rp : 1 ≤ r.length := by
    cases r with
    | nil => exact absurd rfl hn
    | cons _ _ => simp
  have ne : ((false, laid (e + 1) n) : Run).2 ≠ [] := fun z => by
    have z2 : laid (e + 1) n = [] := z
    rw [z2] at ln
    simp at ln
    omega
  cases q : runs r with
  | nil => exact absurd (runs_nil.mp q) hn
  | cons x rs =>
    rw [q] at ap h
    have hx := h x List.mem_cons_self
    have a0 : Alt ([] ++ [fullR x]) := by
      have := jn_alt Alt.nil (fullR x)
      rw [jn_first (full_ne hx), if_pos (show (fullR x).1 = true from rfl)] at this
      exact this
    obtain ⟨F1, m, e1, e2⟩ := road_alt cap hc rs x [] a0 ap fun y hy => h y (List.mem_cons_of_mem _ hy)
    have ew : wholeR cap n (x :: rs) e = F1 ++ [fullR m] ++ [(false, laid (e + 1) n)] := by
      unfold wholeR
      rw [← e1]
      rfl
    rw [q] at sw
    refine ⟨⟨?_, .inr ⟨F1 ++ [fullR m], laid (e + 1) n, ew, by rw [sw, ln]; exact hnl⟩⟩, sw⟩
    rw [ew]
    exact e2.snoc (by show true ≠ false; decide) ne
def headsZ (H : List (List Int × List Int)) : List (List Int × List Int) := H.mergeSort fun a b => leD (triD a) (triD b)
/-- what the taking finds -/
def TakeOk (B : Nat) (t : List Int × List Int) : Prop := t.1.length = t.2.length ∧ t.1.length ≤ B
theorem sort_tri (H : List (List Int × List Int)) (hH : ∀ t ∈ H, TakeOk 60 t) (F : List Int × List Int → D) (hF : ∀ t, TakeOk 60 t → pl 6 (F t) = true) (ht : ∀ t, VL.tup1 (F t) = true) (hal : ∀ a b, PySem.W.alike (toPy (F a)) (toPy (F b)) = true) (hle : ∀ a b, PySem.W.dataLt (toPy (F a)) (toPy (F b)) = PySem.W.dataLt (toPy (triD a)) (toPy (triD b))) : dSortD (.lst (H.map F)) = .ok (.lst ((headsZ H).map F)) := by
  have ok : okSort (H.map F) = true := by
    unfold okSort
    rw [Bool.and_eq_true, List.all_eq_true]
    refine ⟨fun d hd => ?_, ?_⟩
    · obtain ⟨t, h1, rfl⟩ := List.mem_map.mp hd
      have p := hF t (hH t h1)
      have l := (pl_lay 6 _ p).2
      rw [pl_shp (n := 6) (by decide) p, decide_eq_true (by omega), Bool.true_and, Bool.true_and, List.all_eq_true]
      intro d2 hd2
      obtain ⟨t2, h2, rfl⟩ := List.mem_map.mp hd2
      exact hal t t2
    · rw [Bool.or_eq_true]
      left
      rw [List.all_eq_true]
      intro d hd
      obtain ⟨t, h1, rfl⟩ := List.mem_map.mp hd
      exact ht t
  unfold dSortD
  dsimp only
  rw [if_pos ok]
  congr 2
  unfold headsZ
  refine (List.map_mergeSort fun a _ b _ => ?_).symm
  show (!PySem.W.dataLt (toPy (triD b)) (toPy (triD a))) = !PySem.W.dataLt (toPy (F b)) (toPy (F a))
  rw [hle]
theorem alike_tri (a b : List Int × List Int) : PySem.W.alike (toPy (triD a)) (toPy (triD b)) = true ∧ PySem.W.alike (toPy (tri2D a)) (toPy (tri2D b)) = true := by
  have aF : PySem.W.alike (.tuple (toPys (a.1.map D.int))) (.tuple (toPys (b.1.map D.int))) = true := by rw [PySem.W.alike]; exact alike_ints _ _
  have aE : PySem.W.alike (.tuple (toPys (a.2.map D.int))) (.tuple (toPys (b.2.map D.int))) = true := by rw [PySem.W.alike]; exact alike_ints _ _
  constructor
  · show PySem.W.alike (.tuple [.int (a.1.length : Nat), .tuple (toPys (a.1.map D.int)), .tuple (toPys (a.2.map D.int))]) (.tuple [.int (b.1.length : Nat), .tuple (toPys (b.1.map D.int)), .tuple (toPys (b.2.map D.int))]) = true
    generalize toPys (a.1.map D.int) = F at *
    generalize toPys (b.1.map D.int) = F' at *
    generalize toPys (a.2.map D.int) = G at *
    generalize toPys (b.2.map D.int) = G' at *
    rw [PySem.W.alike, PySem.W.alikeAll, PySem.W.alikeAll, PySem.W.alikeAll, aF, aE]
    simp [PySem.W.alike, PySem.W.alikeAll]
  · show PySem.W.alike (.tuple [.int (a.1.length : Nat), .tuple [.tuple (toPys (a.1.map D.int)), .tuple (toPys (a.2.map D.int))]]) (.tuple [.int (b.1.length : Nat), .tuple [.tuple (toPys (b.1.map D.int)), .tuple (toPys (b.2.map D.int))]]) = true
    generalize toPys (a.1.map D.int) = F at *
    generalize toPys (b.1.map D.int) = F' at *
    generalize toPys (a.2.map D.int) = G at *
    generalize toPys (b.2.map D.int) = G' at *
    rw [PySem.W.alike, PySem.W.alikeAll, PySem.W.alikeAll, PySem.W.alike.eq_def (.tuple [_, _]) (.tuple [_, _])]
    simp only
    rw [PySem.W.alikeAll, PySem.W.alikeAll, aF, aE]
    simp [PySem.W.alike, PySem.W.alikeAll]
theorem pl_tri {t : List Int × List Int} (h : TakeOk 60 t) : pl 6 (triD t) = true ∧ pl 6 (tri2D t) = true ∧ pl 5 (pairD t) = true ∧ pl 7 (pairD t) = true := by
  obtain ⟨h1, h2⟩ := h
  have l1 : t.1.length ≤ szL := le_szL (by omega)
  have l2 : t.2.length ≤ szL := le_szL (by omega)
  have s3 : (3 : Nat) ≤ szL := le_szL (by decide)
  have s2 : (2 : Nat) ≤ szL := le_szL (by decide)
  refine ⟨?_, ?_, ?_, ?_⟩ <;> simp [triD, tri2D, pairD, pl, l1, l2, s2, s3]
def Prev (o : Option (Int × Int)) (F : List Run) : Prop := match o with
  | none => F = []
  | some l => ∃ F0, F = F0 ++ [fullR l] ∧ l.1 ≤ l.2
theorem full_last {x : Int × Int} (h : x.1 ≤ x.2) : dIdx (.lst ((fullR x).2.map D.int)) (.int (-1)) = .ok (.int x.2) := by
  obtain ⟨m, hm⟩ : ∃ m : Nat, (x.2 + 1 - x.1).toNat = m + 1 := ⟨(x.2 - x.1).toNat, by omega⟩
  show dIdx (.lst ((laid x.1 (x.2 + 1 - x.1).toNat).map D.int)) (.int (-1)) = _
  rw [hm, laid_snoc, List.map_append]
  dsimp only [dIdx]
  rw [show [x.1 + (m : Int)].map D.int = [D.int x.2] from by simp; omega, atI_last]
theorem rgW_ok (i j : Int) (h : (j - i).toNat ≤ 1000000) : dRgW (.int i) (.int j) = .ok (.lst ((laid i (j - i).toNat).map D.int)) := by
  unfold dRgW
  dsimp only
  rw [if_pos h]
  unfold rangeD laid
  rw [List.map_map]
  rfl
theorem road_of_step (r : List Int) (hr : r.length ≤ 60) (o : Option (Int × Int)) (F : List Run) (hF : Prev o F) (x : Int × Int) (hx : x.1 ≤ x.2) (hx2 : x.2 - x.1 ≤ 1000) (hz : F.length < 800) (ht : tpl F ≤ 100000) (x4 : Option D) :
    ∃ y4, b_road_of_1 [some (.lst (r.map D.int)), some (.lst (F.map runD)), some (.int x.1), some (.int x.2), x4] = .nx [some (.lst (r.map D.int)), some (.lst ((F ++ road1 ((r.length : Int) + 2) o x).map runD)), some (.int x.1), some (.int x.2), y4] := by
  have g2 := rgW_ok x.1 (x.2 + 1) (by omega)
  have ln : fLen [.lst (r.map D.int)] = .ok (.int (r.length : Nat)) := by simp [fLen]
  have n0 := ne_nil_runs F (by omega) ht
  have lz : F.length < szL := lt_szL (by omega)
  have lz1 : F.length + 1 < szL := lt_szL (by omega)
  have ef : runD (fullR x) = .tup [.bl true, .lst ((laid x.1 (x.2 + 1 - x.1).toNat).map D.int)] := rfl
  cases o with
  | none =>
    have e : F = [] := hF
    subst e
    have n0' : dNe (.lst []) (.lst []) = .ok (.bl false) := n0
    refine ⟨x4, ?_⟩
    show _ = O.nx [_, some (.lst [runD (fullR x)]), _, _, _]
    rw [ef]
    generalize (laid x.1 (x.2 + 1 - x.1).toNat).map D.int = l1 at *
    generalize r.map D.int = rl at *
    have s0 : (0 : Nat) < szL := lt_szL (by decide)
    simp [b_road_of_1, n0', g2, s0]
  | some l =>
    obtain ⟨F0, rfl, hl⟩ := hF
    have n0' : dNe (.lst (F0.map runD ++ [runD (fullR l)])) (.lst []) = .ok (.bl true) := by
      rw [List.map_append] at n0
      simpa using n0
    have la := last_run F0 (runD (fullR l))
    have t1 : dIdx (runD (fullR l)) (.int 1) = .ok (.lst ((fullR l).2.map D.int)) := tup1 _ _
    have fl := full_last hl
    have mn : fMin2 [.int x.1, .int (l.2 + 2 + (r.length : Int))] = .ok (.int (mnR x.1 (l.2 + ((r.length : Int) + 2)))) := by
      unfold mnR
      rw [show l.2 + 2 + (r.length : Int) = l.2 + ((r.length : Int) + 2) by omega]
      by_cases c : l.2 + ((r.length : Int) + 2) < x.1 <;> simp [fMin2, c]
    have g1 := rgW_ok (l.2 + 1) (mnR x.1 (l.2 + ((r.length : Int) + 2))) (by
      unfold mnR
      split <;> omega)
    have eg : runD (gapR ((r.length : Int) + 2) l.2 x.1) = .tup [.bl false, .lst ((laid (l.2 + 1) (mnR x.1 (l.2 + ((r.length : Int) + 2)) - (l.2 + 1)).toNat).map D.int)] := rfl
    refine ⟨some (.int l.2), ?_⟩
    have em : (F0 ++ [fullR l] ++ road1 ((r.length : Int) + 2) (some l) x).map runD = F0.map runD ++ [runD (fullR l)] ++ [runD (gapR ((r.length : Int) + 2) l.2 x.1)] ++ [runD (fullR x)] := by
      unfold road1
      simp
    have em0 : (F0 ++ [fullR l]).map runD = F0.map runD ++ [runD (fullR l)] := by simp
    rw [em, em0, ef, eg]
    have lz2 : (F0.map runD ++ [runD (fullR l)]).length < szL := by simpa using lz
    have lz3 : (F0.map runD ++ [runD (fullR l)]).length + 1 < szL := by simpa using lz1
    generalize (laid x.1 (x.2 + 1 - x.1).toNat).map D.int = l1 at *
    generalize (laid (l.2 + 1) (mnR x.1 (l.2 + ((r.length : Int) + 2)) - (l.2 + 1)).toNat).map D.int = l2 at *
    generalize mnR x.1 (l.2 + ((r.length : Int) + 2)) = mm at *
    generalize (r.length : Int) = rn at *
    generalize r.map D.int = rl at *
    generalize (fullR l).2.map D.int = fl2 at *
    generalize runD (fullR l) = fd at *
    generalize hG : F0.map runD ++ [fd] = G at *
    simp [b_road_of_1, n0', la, t1, fl, mn, g1, g2, ln, lz2, lz3, -dIdx, -fMin2, -fLen]
theorem road1_prev (cap : Int) (o : Option (Int × Int)) (F : List Run) (x : Int × Int) (hx : x.1 ≤ x.2) : Prev (some x) (F ++ road1 cap o x) := by
  cases o with
  | none => exact ⟨F, rfl, hx⟩
  | some l => exact ⟨F ++ [gapR cap l.2 x.1], by unfold road1; simp, hx⟩
theorem road1_bd (cap : Int) (hc : cap ≤ 100) (o : Option (Int × Int)) (x : Int × Int) : tpl (road1 cap o x) ≤ 100 + (x.2 + 1 - x.1).toNat ∧ (road1 cap o x).length ≤ 2 := by
  have gl : ∀ e : Int, (gapR cap e x.1).2.length ≤ 100 := fun e => by
    show (laid _ _).length ≤ 100
    rw [laid_len]
    unfold mnR
    split <;> omega
  have fl : (fullR x).2.length = (x.2 + 1 - x.1).toNat := laid_len _ _
  cases o with
  | none =>
    unfold road1
    rw [tpl_cons, fl]
    exact ⟨by show _ + 0 ≤ _; omega, by simp⟩
  | some l =>
    have := gl l.2
    unfold road1
    rw [tpl_cons, tpl_cons, fl]
    exact ⟨by show _ + (_ + 0) ≤ _; omega, by simp⟩
theorem roadZ_bd (cap : Int) (hc : cap ≤ 100) : ∀ (rs : List (Int × Int)) (o : Option (Int × Int)), (∀ x ∈ rs, x.1 ≤ x.2) → tpl (roadZ cap o rs) ≤ 100 * rs.length + (rowC rs).length ∧ (roadZ cap o rs).length ≤ 2 * rs.length
  | [], _, _ => ⟨Nat.zero_le _, Nat.zero_le _⟩
  | x :: rs, o, h => by
    obtain ⟨a, b⟩ := road1_bd cap hc o x
    obtain ⟨c, d⟩ := roadZ_bd cap hc rs (some x) fun q hq => h q (List.mem_cons_of_mem _ hq)
    have hx := h x List.mem_cons_self
    have rl : (rowC (x :: rs)).length = (x.2 + 1 - x.1).toNat + (rowC rs).length := by
      show (laid _ _ ++ rowC rs).length = _
      rw [List.length_append, laid_len]
      omega
    show tpl (road1 cap o x ++ roadZ cap (some x) rs) ≤ _ ∧ (road1 cap o x ++ roadZ cap (some x) rs).length ≤ _
    rw [tpl_app, List.length_append, List.length_cons, rl]
    omega
theorem road_loop (mb : Sl → O) (cap : Int) (hc : cap ≤ 100) (R0 : Option D) (st : ∀ (o : Option (Int × Int)) (F : List Run), Prev o F → ∀ (x : Int × Int), x.1 ≤ x.2 → x.2 - x.1 ≤ 1000 → F.length < 800 → tpl F ≤ 100000 → ∀ (x4 : Option D), ∃ y4, mb [R0, some (.lst (F.map runD)), some (.int x.1), some (.int x.2), x4] = .nx [R0, some (.lst ((F ++ road1 cap o x).map runD)), some (.int x.1), some (.int x.2), y4]) :
    ∀ (rs : List (Int × Int)) (o : Option (Int × Int)) (F : List Run) (x2 x3 x4 : Option D), Prev o F → (∀ x ∈ rs, x.1 ≤ x.2) → (rowC rs).length ≤ 500 → F.length + 2 * rs.length < 800 → tpl F + 100 * rs.length + (rowC rs).length ≤ 100000 →
    ∃ y2 y3 y4, forL (.tup [2, 3]) mb (rs.map twoD) [R0, some (.lst (F.map runD)), x2, x3, x4] = .nx [R0, some (.lst ((F ++ roadZ cap o rs).map runD)), y2, y3, y4]
  | [], o, F, x2, x3, x4, _, _, _, _, _ => ⟨x2, x3, x4, by rw [show roadZ cap o [] = [] from by cases o <;> rfl, List.append_nil]; rfl⟩
  | x :: rs, o, F, x2, x3, x4, hF, h, h1, h2, h3 => by
    have hx := h x List.mem_cons_self
    have rl : (rowC (x :: rs)).length = (x.2 + 1 - x.1).toNat + (rowC rs).length := by
      show (laid _ _ ++ rowC rs).length = _
      rw [List.length_append, laid_len]
      omega
    rw [List.length_cons] at h2 h3
    rw [rl] at h1 h3
    obtain ⟨b1, b2⟩ := road1_bd cap hc o x
    obtain ⟨y4, e1⟩ := st o F hF x hx (by omega) (by omega) (by omega) x4
    obtain ⟨z2, z3, z4, e⟩ := road_loop mb cap hc R0 st rs (some x) (F ++ road1 cap o x) (some (.int x.1)) (some (.int x.2)) y4 (road1_prev cap o F x hx) (fun q hq => h q (List.mem_cons_of_mem _ hq)) (by omega) (by rw [List.length_append]; omega) (by rw [tpl_app]; omega)
    refine ⟨z2, z3, z4, ?_⟩
    have ez : F ++ roadZ cap o (x :: rs) = F ++ road1 cap o x ++ roadZ cap (some x) rs := by
      show F ++ (road1 cap o x ++ roadZ cap (some x) rs) = _
      rw [List.append_assoc]
    rw [ez, List.map_cons, ← e]
    exact forL_step (xs := [.int x.1, .int x.2]) rfl e1
theorem roadZ_last (cap : Int) : ∀ (rs : List (Int × Int)) (o : Option (Int × Int)) (x : Int × Int), ∃ F0, roadZ cap o (rs ++ [x]) = F0 ++ [fullR x]
  | [], o, x => by
    cases o with
    | none => exact ⟨[], rfl⟩
    | some l => exact ⟨[gapR cap l.2 x.1], rfl⟩
  | y :: rs, o, x => by
    obtain ⟨F0, e⟩ := roadZ_last cap rs (some y) x
    exact ⟨road1 cap o y ++ F0, by show road1 cap o y ++ roadZ cap (some y) (rs ++ [x]) = _; rw [e, List.append_assoc]⟩
theorem runs_step_ok (fs : List (Int × Int)) (p : Int) (hz : fs.length < 900) (R0 : Option D) : b_runs_of_1 [R0, some (.lst (fs.map twoD)), some (.int p)] = .nx [R0, some (.lst ((runStep fs p).map twoD)), some (.int p)] := by
  have n0 := ne_nil_two fs (by omega)
  have lz : fs.length < szL := lt_szL (by omega)
  rcases List.eq_nil_or_concat fs with e | ⟨l, x, e⟩
  · subst e
    have n0' : dNe (.lst []) (.lst []) = .ok (.bl false) := n0
    simp [b_runs_of_1, n0', runStep_nil, twoD]
  · rw [List.concat_eq_append] at e
    subst e
    have n0' : dNe (.lst (l.map twoD ++ [twoD x])) (.lst []) = .ok (.bl true) := by
      rw [List.map_append] at n0
      simpa using n0
    have la := last_two l (twoD x)
    have t0 : dIdx (twoD x) (.int 0) = .ok (.int x.1) := tup0 _ _
    have t1 : dIdx (twoD x) (.int 1) = .ok (.int x.2) := tup1 _ _
    have lz' : l.length + 1 < szL := by simpa using lz
    rw [runStep_snoc]
    by_cases c : x.2 = p - 1
    · rw [if_pos c]
      have s := set_last l (twoD x) (D.tup [.int x.1, .int p])
      simp [b_runs_of_1, n0', la, t0, t1, c, ixN_snoc, s, noX, -dIdx]
      rfl
    · rw [if_neg c]
      simp [b_runs_of_1, n0', la, t0, t1, c, lz', -dIdx]
      rfl
theorem runStep_len (fs : List (Int × Int)) (p : Int) : (runStep fs p).length ≤ fs.length + 1 := by
  rcases List.eq_nil_or_concat fs with e | ⟨l, x, e⟩
  · subst e; simp [runStep_nil]
  · rw [List.concat_eq_append] at e
    subst e
    rw [runStep_snoc]
    split <;> simp
theorem runs_of_ok (r : List Int) (hl : r.length ≤ 500) : f_runs_of [.lst (r.map D.int)] = .ok (.lst ((runs r).map twoD)) := by
  obtain ⟨r', e, _, a, hr⟩ := forL_foldI D.int runStep (fun n s t => s.length ≤ n ∧ ∃ x, t = [some (.lst (r.map D.int)), some (.lst (s.map twoD)), x]) (.one 2) b_runs_of_1 r 0 [] [some (.lst (r.map D.int)), some (.lst []), none] ⟨by simp, none, rfl⟩ (fun i p hi hp s t ⟨h2, x, e⟩ => by
    subst e
    exact ⟨[.int p], _, rfl, runs_step_ok s p (by omega) _, by have := runStep_len s p; omega, some (.int p), rfl⟩)
  subst hr
  simp [f_runs_of, m_runs_of, e, runs]

theorem runs_len_aux : ∀ (r : List Int) (fs : List (Int × Int)), (r.foldl runStep fs).length ≤ fs.length + r.length
  | [], _ => Nat.le_refl _
  | p :: r, fs => by
    have a := runs_len_aux r (runStep fs p)
    have b := runStep_len fs p
    simp
    omega
theorem runs_len (r : List Int) : (runs r).length ≤ r.length := Nat.le_trans (runs_len_aux r []) (by simp)
theorem road_of_ok (r : List Int) (hr : r.length ≤ 60) (rs : List (Int × Int)) (x : Int × Int) (hx : runs r = rs ++ [x]) : f_road_of [.lst (r.map D.int)] = .ok (.lst ((wholeR ((r.length : Int) + 2) r.length (runs r) x.2).map runD)) := by
  obtain ⟨e, h⟩ := runs_row r
  have ro := runs_of_ok r (by omega)
  have rl := runs_len r
  obtain ⟨y2, y3, y4, lp⟩ := road_loop b_road_of_1 ((r.length : Int) + 2) (by omega) (some (.lst (r.map D.int))) (fun o F hF x hx h2 h3 h4 x4 => road_of_step r hr o F hF x hx h2 h3 h4 x4) (runs r) none [] none none none rfl h (by rw [e]; omega) (by simp; omega) (by rw [e]; simp [tpl]; omega)
  rw [List.nil_append] at lp
  have lp' : forL (.tup [2, 3]) b_road_of_1 ((runs r).map twoD) [some (.lst (r.map D.int)), some (.lst []), none, none, none] = _ := lp
  obtain ⟨F0, eF⟩ := roadZ_last ((r.length : Int) + 2) rs none x
  rw [← hx] at eF
  have hx1 : x.1 ≤ x.2 := h x (by rw [hx]; simp)
  have bd := roadZ_bd ((r.length : Int) + 2) (by omega) (runs r) none h
  unfold wholeR
  rw [eF] at lp' bd ⊢
  have la := last_run F0 (runD (fullR x))
  have t1 : dIdx (runD (fullR x)) (.int 1) = .ok (.lst ((fullR x).2.map D.int)) := tup1 _ _
  have fl := full_last hx1
  have ln : fLen [.lst (r.map D.int)] = .ok (.int (r.length : Nat)) := by simp [fLen]
  have g1 := rgW_ok (x.2 + 1) (x.2 + 1 + (r.length : Int)) (by omega)
  rw [show (x.2 + 1 + (r.length : Int) - (x.2 + 1)).toNat = r.length by omega] at g1
  have em0 : (F0 ++ [fullR x]).map runD = F0.map runD ++ [runD (fullR x)] := by simp
  have em : (F0 ++ [fullR x] ++ [(false, laid (x.2 + 1) r.length)]).map runD = F0.map runD ++ [runD (fullR x)] ++ [.tup [.bl false, .lst ((laid (x.2 + 1) r.length).map D.int)]] := by simp [runD]
  have lz2 : (F0.map runD ++ [runD (fullR x)]).length < szL := lt_szL (by
    have := bd.2
    rw [List.length_append, List.length_map]
    rw [List.length_append] at this
    simp at this ⊢
    omega)
  rw [em0] at lp'
  rw [em]
  generalize (laid (x.2 + 1) r.length).map D.int = l2 at *
  generalize (r.length : Int) = rn at *
  generalize (fullR x).2.map D.int = fl2 at *
  generalize runD (fullR x) = fd at *
  generalize (runs r).map twoD = rr at *
  generalize r.map D.int = rl2 at *
  generalize hG : F0.map runD ++ [fd] = G at *
  simp [f_road_of, m_road_of, ro, lp', la, t1, fl, g1, ln, lz2, -dIdx, -fLen]
theorem Rc.mono {N M : Nat} {a b : List Int} (h : Rc N a b) (l : M ≤ N) : Rc M a b := by
  rcases h with h | ⟨C, a', b', h1, h2, h3⟩
  · exact .inl h
  · exact .inr ⟨C, a', b', h1, h2, by omega⟩
/-- the train of two runs just as long, the first one below -/
def pairU (u t : Run) : List Int × List Int := if u.1 then (u.2, t.2) else (t.2, u.2)
def shutU : List Run → List Run × List (List Int × List Int)
  | t :: u :: S => if t.2.length = u.2.length then (S, [pairU u t]) else (t :: u :: S, [])
  | S => (S, [])
def putU (S : List Run) (x : Bool × Int) : List Run × List (List Int × List Int) := match S with
  | [] => if x.1 then ([(true, [x.2])], []) else ([], [])
  | t :: S => if t.1 = x.1 then shutU ((t.1, t.2 ++ [x.2]) :: S) else shutU ((x.1, [x.2]) :: t :: S)
def stU : List Run → List (Bool × Int) → List Run
  | S, [] => S
  | S, x :: l => stU (putU S x).1 l
theorem stU_app : ∀ (a b : List (Bool × Int)) (S : List Run), stU S (a ++ b) = stU (stU S a) b
  | [], _, _ => rfl
  | x :: a, b, S => stU_app a b _
def emU : List Run → List (Bool × Int) → List (List Int × List Int)
  | _, [] => []
  | S, x :: l => (putU S x).2 ++ emU (putU S x).1 l
theorem emU_app : ∀ (a b : List (Bool × Int)) (S : List Run), emU S (a ++ b) = emU S a ++ emU (stU S a) b
  | [], _, _ => rfl
  | x :: a, b, S => by
    show (putU S x).2 ++ emU _ (a ++ b) = (putU S x).2 ++ emU _ a ++ _
    rw [emU_app a b, List.append_assoc]
    rfl
/-- alike from an empty stack on -/
def EqU (a b : List (Bool × Int)) : Prop := stU [] a = stU [] b ∧ emU [] a = emU [] b
theorem EqU.app {a b : List (Bool × Int)} (h : EqU a b) (c : List (Bool × Int)) : EqU (a ++ c) (b ++ c) := by
  unfold EqU
  rw [stU_app, stU_app, emU_app, emU_app, h.1, h.2]
  exact ⟨rfl, rfl⟩
theorem RA.app {M : Nat} {P L : List Run} (h : RA M P L) {p q : Run} (h2 : R1 (M + 1) p q) : RA M (P ++ [p]) (L ++ [q]) := by
  induction h with
  | nil => exact .cons h2 .nil
  | cons h _ ih => exact .cons h ih
theorem Rc.app {N : Nat} {a b x y : List Int} (h : Rc N a b) (h2 : Rc N x y) : Rc N (a ++ x) (b ++ y) := by
  rcases h with h | ⟨C, a', b', e1, e2, e3⟩
  · subst h
    rcases h2 with h2 | ⟨C, a', b', e1, e2, e3⟩
    · exact .inl (by rw [h2])
    · exact .inr ⟨a ++ C, a', b', by rw [e1, List.append_assoc], by rw [e2, List.append_assoc], by rw [List.length_append]; omega⟩
  · exact .inr ⟨C, a' ++ x, b' ++ y, by rw [e1, List.append_assoc], by rw [e2, List.append_assoc], e3⟩
theorem R1.mono {N M : Nat} {p q : Run} (h : R1 N p q) (l : M ≤ N) : R1 M p q := ⟨h.1, h.2.1, Rc.mono h.2.2 l⟩
/-- lists of runs, the last one place less deep -/
inductive RR (M : Nat) : List Run → List Run → Prop
  | nil : RR M [] []
  | last {p q : Run} : R1 M p q → RR M [p] [q]
  | cons {p q : Run} {P L : List Run} : R1 (M + 1) p q → RR M P L → RR M (p :: P) (q :: L)
theorem RR.mono {M N : Nat} {P L : List Run} (h : RR M P L) (l : N ≤ M) : RR N P L := by
  induction h with
  | nil => exact .nil
  | last h => exact .last (R1.mono h l)
  | cons h _ ih => exact .cons (R1.mono h (by omega)) ih
theorem RA.toR {M : Nat} {P L : List Run} (h : RA M P L) : RR M P L := by
  induction h with
  | nil => exact .nil
  | cons h _ ih => exact .cons h ih
theorem RA.appL {M : Nat} {P L : List Run} (h : RA M P L) {p q : Run} (h2 : R1 M p q) : RR M (P ++ [p]) (L ++ [q]) := by
  induction h with
  | nil => exact .last h2
  | cons h _ ih => exact .cons h ih
theorem jns_alt : ∀ (A : List Run) {f : List Run}, Alt f → Alt (A.foldl jn f)
  | [], _, h => h
  | a :: A, _, h => jns_alt A (jn_alt h a)
theorem jn_stn {f : List Run} (h : Alt f) (r : Run) : stn (jn f r) = stn f + if r.1 then r.2.length else 0 := by
  by_cases c : r.2 = []
  · rw [jn_nil c, c]
    simp
  · rcases List.eq_nil_or_concat f with w | ⟨f0, l, w⟩
    · subst w
      rw [jn_first c]
      by_cases t : r.1 = true
      · rw [if_pos t, if_pos t, stn_cons, if_pos t]
        exact Nat.add_comm _ _
      · rw [if_neg t, if_neg t]
        rfl
    · rw [List.concat_eq_append] at w
      subst w
      rw [jn_snoc f0 l c]
      split
      · rename_i e
        rw [stn_app, stn_app, stn_cons, stn_cons]
        by_cases t : r.1 = true
        · have t2 : l.1 = true := e.trans t
          simp [t, t2, stn]
          omega
        · have t2 : ¬ l.1 = true := fun w => t (e.symm.trans w)
          simp [t, t2, stn]
      · rw [stn_app, stn_cons]
        rfl
theorem jns_stn : ∀ (A : List Run) {f : List Run}, Alt f → stn (A.foldl jn f) = stn f + stn A
  | [], _, _ => rfl
  | a :: A, f, h => by
    rw [List.foldl_cons, jns_stn A (jn_alt h a), jn_stn h a, stn_cons]
    omega
theorem alt_zero {L : List Run} (h : Alt L) (z : stn L = 0) : L = [] := by
  cases L with
  | nil => rfl
  | cons p L =>
    have t := h.hd p rfl
    have n := h.ne p List.mem_cons_self
    rw [stn_cons, if_pos t] at z
    exact absurd (List.eq_nil_of_length_eq_zero (by omega)) n
theorem findR_some (x y : Run) (B : List Run) (h : x.2.length ≤ y.2.length) : ∀ A : List Run, ∃ q, findR (A ++ x :: y :: B) = some q
  | [] => ⟨([], x, y, B), by rw [List.nil_append]; unfold findR; rw [if_pos h]⟩
  | [a] => by
    rw [show [a] ++ x :: y :: B = a :: x :: y :: B from rfl]
    unfold findR
    split
    · exact ⟨_, rfl⟩
    · obtain ⟨q, e⟩ := findR_some x y B h []
      rw [List.nil_append] at e
      rw [e]
      exact ⟨_, rfl⟩
  | a :: b :: A => by
    rw [show (a :: b :: A) ++ x :: y :: B = a :: b :: (A ++ x :: y :: B) from rfl]
    unfold findR
    split
    · exact ⟨_, rfl⟩
    · obtain ⟨q, e⟩ := findR_some x y B h (b :: A)
      rw [show (b :: A) ++ x :: y :: B = b :: (A ++ x :: y :: B) from rfl] at e
      rw [e]
      exact ⟨_, rfl⟩
theorem len_stn {P : List Run} {p : Run} (h : p ∈ P) (t : p.1 = true) : p.2.length ≤ stn P := by
  obtain ⟨A, B, rfl⟩ := List.append_of_mem h
  rw [stn_app, stn_cons, if_pos t]
  omega
theorem left_stn {P : List Run} (ha : Alt P) {q : List Run × Run × Run × List Run} (h : findR P = some q) : stn (leftR q) + q.2.1.2.length = stn P ∧ 1 ≤ q.2.1.2.length := by
  obtain ⟨e, l⟩ := findR_eq h
  obtain ⟨A, x, y, B⟩ := q
  dsimp only at e l ⊢
  have ne := ha.ch A B x y e
  have n1 := ha.ne x (by rw [e]; simp)
  have n2 : 1 ≤ x.2.length := by
    cases z : x.2 with
    | nil => exact absurd z n1
    | cons _ _ => simp
  refine ⟨?_, n2⟩
  show stn (A ++ (y.1, y.2.drop x.2.length) :: B) + _ = _
  rw [e, stn_app, stn_app, stn_cons, stn_cons, stn_cons]
  cases t : x.1 with
  | true =>
    have t2 : y.1 = false := by cases w : y.1 with
      | true => exact absurd (t.trans w.symm) ne
      | false => rfl
    simp [t2]
    omega
  | false =>
    have t2 : y.1 = true := by cases w : y.1 with
      | false => exact absurd (t.trans w.symm) ne
      | true => rfl
    simp [t2]
    omega
theorem good_step {P : List Run} (g : Good P) (n : P ≠ []) : ∃ q, findR P = some q ∧ Good (jns (leftR q)) ∧ stn (jns (leftR q)) = stn (leftR q) ∧ stn (leftR q) < stn P := by
  rcases g.en with z | ⟨Q, e, eP, le⟩
  · exact absurd z n
  have hQ : ∃ Q0 l, Q = Q0 ++ [l] := by
    rcases List.eq_nil_or_concat Q with w | ⟨Q0, l, w⟩
    · subst w
      have := g.alt.hd (false, e) (by rw [eP]; rfl)
      cases this
    · exact ⟨Q0, l, by rw [w, List.concat_eq_append]⟩
  obtain ⟨Q0, l, rfl⟩ := hQ
  have eP2 : P = Q0 ++ l :: (false, e) :: [] := by rw [eP]; simp
  have hl : l.1 = true := by
    have := g.alt.ch Q0 [] l (false, e) eP2
    cases w : l.1 with
    | true => rfl
    | false => exact absurd w this
  have ls := len_stn (P := P) (p := l) (by rw [eP]; simp) hl
  obtain ⟨q, hq⟩ : ∃ q, findR P = some q := by
    rw [eP2]
    exact findR_some l (false, e) [] (by show l.2.length ≤ e.length; omega) Q0
  obtain ⟨s1, s2⟩ := left_stn g.alt hq
  have js : stn (jns (leftR q)) = stn (leftR q) := by
    have := jns_stn (leftR q) Alt.nil
    rw [show stn ([] : List Run) = 0 from rfl, Nat.zero_add] at this
    exact this
  have ja : Alt (jns (leftR q)) := jns_alt (leftR q) Alt.nil
  refine ⟨q, hq, ⟨ja, ?_⟩, js, by omega⟩
  by_cases z : stn (leftR q) = 0
  · exact .inl (alt_zero ja (js.trans z))
  · right
    obtain ⟨L0, e', eL, le'⟩ : ∃ L0 e', leftR q = L0 ++ [(false, e')] ∧ stn (leftR q) ≤ e'.length := by
      obtain ⟨f1, f2⟩ := findR_eq hq
      obtain ⟨A, x, y, B⟩ := q
      dsimp only at f1 f2 s1 s2
      rcases List.eq_nil_or_concat B with w | ⟨B0, b, w⟩
      · subst w
        have e3 : (A ++ [x]) ++ [y] = (Q0 ++ [l]) ++ [(false, e)] := by rw [← eP, f1]; simp
        obtain ⟨_, e5⟩ := List.append_inj' e3 rfl
        have ey : y = (false, e) := by injection e5
        refine ⟨A, e.drop x.2.length, ?_, by rw [List.length_drop]; omega⟩
        show A ++ (y.1, y.2.drop x.2.length) :: [] = _
        rw [ey]
      · rw [List.concat_eq_append] at w
        subst w
        have e3 : (A ++ x :: y :: B0) ++ [b] = (Q0 ++ [l]) ++ [(false, e)] := by rw [← eP, f1]; simp
        obtain ⟨_, e5⟩ := List.append_inj' e3 rfl
        have eb : b = (false, e) := by injection e5
        refine ⟨A ++ (y.1, y.2.drop x.2.length) :: B0, e, ?_, by omega⟩
        show A ++ (y.1, y.2.drop x.2.length) :: (B0 ++ [b]) = _
        rw [eb]
        simp
    have s0 : stn L0 = stn (leftR q) := by
      rw [eL, stn_app, stn_cons]
      simp [stn]
    have eJ : jns (leftR q) = jn (jns L0) (false, e') := by
      unfold jns
      rw [eL, List.foldl_append]
      rfl
    have j0 : stn (jns L0) = stn L0 := by
      have := jns_stn L0 Alt.nil
      rw [show stn ([] : List Run) = 0 from rfl, Nat.zero_add] at this
      exact this
    have ne' : (false, e').2 ≠ ([] : List Int) := fun w => by
      have w2 : e' = [] := w
      rw [w2] at le'
      exact z (by simpa using le')
    rw [js]
    rcases List.eq_nil_or_concat (jns L0) with w | ⟨F, l2, w⟩
    · rw [w] at j0
      exact absurd (s0.symm.trans j0.symm) z
    · rw [List.concat_eq_append] at w
      rw [eJ, w, jn_snoc F l2 ne']
      split
      · exact ⟨F, l2.2 ++ e', rfl, by rw [List.length_append]; omega⟩
      · exact ⟨F ++ [l2], e', rfl, le'⟩
theorem took_ok {P : List Run} (ha : Alt P) {q : List Run × Run × Run × List Run} (h : findR P = some q) : TakeOk (stn P) (tookR q) ∧ (tookR q).1.length = q.2.1.2.length := by
  obtain ⟨e, l⟩ := findR_eq h
  obtain ⟨s1, s2⟩ := left_stn ha h
  obtain ⟨A, x, y, B⟩ := q
  dsimp only at e l s1
  have tl : (y.2.take x.2.length).length = x.2.length := by rw [List.length_take]; omega
  unfold tookR TakeOk
  dsimp only
  have s3 : x.2.length ≤ stn P := by
    have : stn (leftR (A, x, y, B)) + x.2.length = stn P := s1
    omega
  split
  · exact ⟨⟨tl.symm, s3⟩, rfl⟩
  · exact ⟨⟨tl, Nat.le_trans (Nat.le_of_eq tl) s3⟩, tl⟩
theorem hds_some : ∀ (n : Nat) {P : List Run}, Good P → stn P ≤ n → ∃ H, hds n P = some H ∧ H.length ≤ stn P ∧ ∀ t ∈ H, TakeOk (stn P) t
  | 0, P, g, h => by
    have z := alt_zero g.alt (by omega)
    exact ⟨[], by unfold hds; rw [if_pos z], Nat.zero_le _, fun t ht => nomatch ht⟩
  | n + 1, P, g, h => by
    by_cases z : P = []
    · exact ⟨[], by unfold hds; rw [if_pos z], Nat.zero_le _, fun t ht => nomatch ht⟩
    · obtain ⟨q, hq, g2, js, lt⟩ := good_step g z
      obtain ⟨H, eH, hl, ht⟩ := hds_some n g2 (by omega)
      refine ⟨tookR q :: H, ?_, by rw [List.length_cons]; omega, fun t m => ?_⟩
      · unfold hds
        rw [if_neg z, hq]
        dsimp only
        rw [eH]
        rfl
      · rcases List.mem_cons.mp m with w | w
        · rw [w]; exact (took_ok g.alt hq).1
        · obtain ⟨a, b⟩ := ht t w
          exact ⟨a, by omega⟩
def shortest (ps : List (Int × Int)) (q : Int) : Int := lmin (ripes ps q)
def rest (ps : List (Int × Int)) (p : Int) : List (Int × Int) := ps.erase (shortest ps p, p - 2 * share ps (shortest ps p))
theorem ripes_perm {ps qs : List (Int × Int)} (h : ps.Perm qs) (q : Int) : (ripes ps q).Perm (ripes qs q) := by
  unfold ripes
  have e : (fun p => vac ps p == q) = fun p => vac qs p == q := by
    funext p
    unfold vac
    rw [share_perm h]
  rw [e]
  exact (h.filter _).map _
theorem lmax_perm {l m : List Int} (h : l.Perm m) : lmax l = lmax m := by
  by_cases e : l = []
  · subst e
    rw [List.nil_perm.mp h]
  · have e' : m ≠ [] := fun z => by subst z; exact e (List.perm_nil.mp h)
    exact Int.le_antisymm (lmax_le (h.mem_iff.mp (lmax_mem e))) (lmax_le (h.mem_iff.mpr (lmax_mem e')))
theorem longest_perm {ps qs : List (Int × Int)} (h : ps.Perm qs) (q : Int) : longest ps q = longest qs q := by
  have r := ripes_perm h q
  unfold longest
  by_cases e : ripes ps q = []
  · have e' : ripes qs q = [] := by rw [e] at r; exact List.nil_perm.mp r
    rw [if_pos e, if_pos e']
  · have e' : ripes qs q ≠ [] := fun z => by rw [z] at r; exact e (List.perm_nil.mp r)
    rw [if_neg e, if_neg e', lmax_perm r]
theorem grow_perm {ps qs : List (Int × Int)} (h : ps.Perm qs) (p : Int) : (grow ps p).Perm (grow qs p) := by
  unfold grow
  rw [longest_perm h, share_perm h]
  by_cases c : 0 < longest qs (p - 1)
  · rw [if_pos c, if_pos c, share_perm (h.erase _)]
    exact List.Perm.append_right _ (h.erase _)
  · rw [if_neg c, if_neg c, share_perm h]
    exact List.Perm.append_right _ h
/-- all stones together -/
def weight (ps : List (Int × Int)) : Nat := (ps.map fun p => p.1.toNat).sum
theorem weight_perm {ps qs : List (Int × Int)} (h : ps.Perm qs) : weight ps = weight qs := by
  induction h with
  | nil => rfl
  | cons x _ ih => simp [weight] at *; omega
  | swap x y l => simp [weight]; omega
  | trans _ _ h1 h2 => exact h1.trans h2
theorem grow_posi {ps : List (Int × Int)} (h : Posi ps) (q : Int) : Posi (grow ps q) := by
  have l0 : 0 ≤ longest ps (q - 1) := by
    unfold longest
    split
    · exact Int.le_refl _
    · rename_i n
      have := h _ (mem_ripes.mp (lmax_mem n))
      have : 1 ≤ lmax (ripes ps (q - 1)) := this
      omega
  intro p hp
  unfold grow at hp
  rcases List.mem_append.mp hp with z | z
  · split at z
    · exact h p (List.mem_of_mem_erase z)
    · exact h p z
  · have : p = _ := List.mem_singleton.mp z
    rw [this]
    show 1 ≤ longest ps (q - 1) + 1
    omega
theorem grows_posi : ∀ (r : List Int) {ps : List (Int × Int)}, Posi ps → Posi (r.foldl grow ps)
  | [], _, h => h
  | p :: r, _, h => grows_posi r (grow_posi h p)
theorem weight_app (ps qs : List (Int × Int)) : weight (ps ++ qs) = weight ps + weight qs := by simp [weight]

theorem pick4 (a b c d x : Int) : ∃ v : Int, (v = a ∨ v = b ∨ v = c ∨ v = d) ∧ dIdx (.lst [.int a, .int b, .int c, .int d]) (.int (x.fmod 4)) = .ok (.int v) := by
  have f := fmod_pos (a := x) (b := 4) (by decide)
  rcases (show x.fmod 4 = 0 ∨ x.fmod 4 = 1 ∨ x.fmod 4 = 2 ∨ x.fmod 4 = 3 by omega) with h | h | h | h <;> rw [h]
  · exact ⟨a, .inl rfl, dIdx_list (i := 0) rfl⟩
  · exact ⟨b, .inr (.inl rfl), dIdx_list (i := 1) rfl⟩
  · exact ⟨c, .inr (.inr (.inl rfl)), dIdx_list (i := 2) rfl⟩
  · exact ⟨d, .inr (.inr (.inr rfl)), dIdx_list (i := 3) rfl⟩
theorem app_ints (l : List Int) (x : Int) : l.map D.int ++ [D.int x] = (l ++ [x]).map D.int := by simp
theorem row_loop (l : List Int) (h : Drawn l) (M : D) : ∀ (n k : Nat) (p : Int) (acc : List Int) (a b : Option D), 3 + k + n ≤ l.length → acc.length + n ≤ 1000 → Rising acc → (∀ x ∈ acc, x ≤ p) → 3 ≤ l.length → (∀ x ∈ acc, -15 ≤ x) → -15 ≤ p → ∃ p' acc' a' b',
    forL (.one 4) b_row_L_1 ((List.range' k n).map fun (i : Nat) => D.int i) [some (.lst (l.map D.int)), some M, some (.int p), some (.lst (acc.map D.int)), a, b] =
      .nx [some (.lst (l.map D.int)), some M, some (.int p'), some (.lst (acc'.map D.int)), a', b'] ∧ acc'.length = acc.length + n ∧ Rising acc' ∧ (∀ x ∈ acc', x ≤ p') ∧ p' ≤ p + 12 * (n : Int) ∧ ∀ x ∈ acc', -15 ≤ x
  | 0, k, p, acc, a, b, _, _, h3, h4, _, h6, _ => ⟨p, acc, a, b, rfl, rfl, h3, h4, by omega, h6⟩
  | n + 1, k, p, acc, a, b, h1, h2, h3, h4, h5, h6, h7 => by
    obtain ⟨v, v1, v2, e1⟩ := drawn_get h (i := 3 + k) (by omega) (j := 3 + (k : Int)) (by omega)
    obtain ⟨w, w1, w2, e2⟩ := drawn_get h (i := 2) (by omega) (j := 2) rfl
    obtain ⟨m, hm, em⟩ := pick4 2 3 5 12 w
    have m0 : ¬ m = 0 := by omega
    have f := fmod_pos (a := v.fdiv 3) (b := m) (by omega)
    have hz : acc.length < szL := lt_szL (by omega)
    have key : ∃ p2, p < p2 ∧ p2 ≤ p + 12 ∧ b_row_L_1 [some (.lst (l.map D.int)), some M, some (.int p), some (.lst (acc.map D.int)), some (.int (k : Int)), b] =
        .nx [some (.lst (l.map D.int)), some M, some (.int p2), some (.lst ((acc ++ [p2]).map D.int)), some (.int (k : Int)), some (.int v)] := by
      by_cases c : v.fmod 3 = 0
      · refine ⟨p + 1 + 0, by omega, by omega, ?_⟩
        rw [← app_ints]
        simp [b_row_L_1, e1, e2, em, c, hz, -dIdx]
      · refine ⟨p + 1 + (v.fdiv 3).fmod m, by omega, by omega, ?_⟩
        rw [← app_ints]
        simp [b_row_L_1, e1, e2, em, c, hz, m0, -dIdx]
    obtain ⟨p2, lt, le12, eb⟩ := key
    obtain ⟨p', acc', a', b', f1, f2, f3, f4, f5, f6⟩ := row_loop l h M n (k + 1) p2 (acc ++ [p2]) (some (.int (k : Int))) (some (.int v)) (by omega) (by simp; omega)
      (List.pairwise_append.mpr ⟨h3, List.pairwise_singleton _ _, fun x hx y hy => by
        have : y = p2 := by simpa using hy
        subst this
        exact Int.lt_of_le_of_lt (h4 x hx) lt⟩) (fun x hx => by
        rcases List.mem_append.mp hx with z | z
        · exact Int.le_trans (h4 x z) (by omega)
        · have : x = p2 := by simpa using z
          omega) h5 (fun x hx => by
        rcases List.mem_append.mp hx with z | z
        · exact h6 x z
        · have : x = p2 := by simpa using z
          omega) (by omega)
    refine ⟨p', acc', a', b', ?_, by rw [f2]; simp; omega, f3, f4, by omega, f6⟩
    rw [List.range'_succ, List.map_cons, ← f1]
    show (match b_row_L_1 [some (.lst (l.map D.int)), some M, some (.int p), some (.lst (acc.map D.int)), some (.int (k : Int)), b] with
      | .nx r' => forL (.one 4) b_row_L_1 ((List.range' (k + 1) n).map fun (i : Nat) => D.int i) r'
      | o => o) = _
    rw [eb]
theorem row_okC (l : List Int) (h : Drawn l) (most : Nat) (hm : most ≤ 500) (hl : 3 + most ≤ l.length) : ∃ r : List Int, f_row_L [.lst (l.map D.int), .int most] = .ok (.lst (r.map D.int)) ∧ r.length ≤ most ∧ Rising r ∧ (∀ x ∈ r, x ≤ 15 + 12 * (most : Int)) ∧ ∀ x ∈ r, -15 ≤ x := by
  obtain ⟨v0, p0, q0, e0⟩ := drawn_get h (i := 0) (by omega) (j := 0) rfl
  obtain ⟨v1, p1, q1, e1⟩ := drawn_get h (i := 1) (by omega) (j := 1) rfl
  have f := fmod_pos (a := v1) (b := (most : Int) + 1) (by omega)
  have d := dRange1_nat (n := (v1.fmod ((most : Int) + 1)).toNat) (by omega)
  rw [Int.toNat_of_nonneg f.1, range_split] at d
  have f31 := fmod_pos (a := v0) (b := 31) (by decide)
  obtain ⟨p', acc', a', b', g1, g2, g3, g4, g5, g6⟩ := row_loop l h (.int most) (v1.fmod ((most : Int) + 1)).toNat 0 (v0.fmod 31 - 15) [] none none (by omega) (by simp; omega) List.Pairwise.nil (fun x hx => nomatch hx) (by omega) (fun x hx => nomatch hx) (by omega)
  refine ⟨acc', ?_, by rw [g2]; simp; omega, g3, (fun x hx => by have := g4 x hx; omega), g6⟩
  have g1' : forL (.one 4) b_row_L_1 ((List.range' 0 (v1.fmod ((most : Int) + 1)).toNat).map fun (i : Nat) => D.int i) [some (.lst (l.map D.int)), some (.int most), some (.int (v0.fmod 31 - 15)), some (.lst []), none, none] = _ := g1
  have m0 : ¬ (most : Int) + 1 = 0 := by omega
  generalize (List.range' 0 (v1.fmod ((most : Int) + 1)).toNat).map (fun (i : Nat) => D.int i) = rr at *
  generalize l.map D.int = ll at *
  simp [f_row_L, m_row_L, e0, e1, m0, d, g1', -dIdx]
theorem rising_shift {r : List Int} (h : Rising r) (by_ : Int) : Rising (r.map (· + by_)) := by
  refine List.pairwise_map.mpr (h.imp fun {a b} z => ?_)
  omega
theorem rising_cut {r : List Int} (h : Rising r) (k : Nat) (by_ : Int) (hb : 0 ≤ by_) : Rising (r.take k ++ (r.drop k).map (· + by_)) := by
  refine List.pairwise_append.mpr ⟨h.take, rising_shift h.drop by_, fun x hx y hy => ?_⟩
  obtain ⟨z, hz, rfl⟩ := List.mem_map.mp hy
  have e : Rising (r.take k ++ r.drop k) := by rw [List.take_append_drop]; exact h
  have := (List.pairwise_append.mp e).2.2 x hx z hz
  omega

theorem long_row_okC (l : List Int) (h : Drawn l) (most : Nat) (hm : most ≤ 500) (hl : 3 + most ≤ l.length) : ∃ r : List Int, f_long_row_L [.lst (l.map D.int), .int most] = .ok (.lst (r.map D.int)) ∧ r.length ≤ most ∧ Rising r ∧ (∀ x ∈ r, x ≤ 15 + 12 * (most : Int) + 10 ^ 40) ∧ ∀ x ∈ r, -15 ≤ x := by
  obtain ⟨r, e, hr1, hr2, hr3, hr4⟩ := row_okC l h most hm hl
  obtain ⟨v2, p2, q2, e2⟩ := drawn_get h (i := 2) (by omega) (j := 2) rfl
  have k3 := dPow_ok (a := 10) (k := 3) (by decide) (by decide)
  have k12 := dPow_ok (a := 10) (k := 12) (by decide) (by decide)
  have k40 := dPow_ok (a := 10) (k := 40) (by decide) (by decide)
  have g3 : (0 : Int) ≤ 10 ^ 3 := by decide
  have g12 : (0 : Int) ≤ 10 ^ 12 := by decide
  have g40 : (0 : Int) ≤ 10 ^ 40 := by decide
  have h3 : (10 : Int) ^ 3 ≤ 10 ^ 40 := by decide
  have h12 : (10 : Int) ^ 12 ≤ 10 ^ 40 := by decide
  generalize (10 : Int) ^ 3 = c3 at k3 g3 h3
  generalize (10 : Int) ^ 12 = c12 at k12 g12 h12
  generalize (10 : Int) ^ 40 = c40 at *
  have k3' : dPow (.int 10) (.int 3) = .ok (.int c3) := k3
  have k12' : dPow (.int 10) (.int 12) = .ok (.int c12) := k12
  have k40' : dPow (.int 10) (.int 40) = .ok (.int c40) := k40
  obtain ⟨by_, hb, eb⟩ := pick4 0 c3 c12 c40 (v2.fdiv 64)
  have f := fmod_pos (a := v2.fdiv 4) (b := (r.length : Int) + 1) (by omega)
  have m0 : ¬ (r.length : Int) + 1 = 0 := by omega
  obtain ⟨k, hk⟩ : ∃ k : Nat, (v2.fdiv 4).fmod ((r.length : Int) + 1) = k := ⟨_, (Int.toNat_of_nonneg f.1).symm⟩
  have c1 : cutL (r.map D.int) none (some (k : Int)) = (r.take k).map D.int := by rw [cutL_to, List.map_take]
  have c2 : cutL (r.map D.int) (some (k : Int)) none = (r.drop k).map D.int := by rw [cutL_from (k := k) (by simp; omega), List.map_drop]
  have g : gComp (gIter (gSl (gVar 2) (gPart (gVar 3)) gNoPart)) (.one 5) [5] gYes (gBin dAdd (gVar 5) (gVar 4)) [some (.lst (l.map D.int)), some (.int most), some (.lst (r.map D.int)), some (.int k), some (.int by_), none] = .ok (.lst ((r.drop k).map fun x => D.int (x + by_))) :=
    gComp_map (F := D.int) (by simp [c2]) fun x _ => by simp [gTurn]
  refine ⟨r.take k ++ (r.drop k).map (· + by_), ?_, by simp; omega, rising_cut hr2 k by_ (by omega), fun x hx => ?_, fun x hx => ?_⟩
  rotate_left
  · rcases List.mem_append.mp hx with z | z
    · have := hr3 x (List.mem_of_mem_take z)
      omega
    · obtain ⟨y, hy, rfl⟩ := List.mem_map.mp z
      have := hr3 y (List.mem_of_mem_drop hy)
      show y + by_ ≤ _
      omega
  · rcases List.mem_append.mp hx with z | z
    · exact hr4 x (List.mem_of_mem_take z)
    · obtain ⟨y, hy, rfl⟩ := List.mem_map.mp z
      have := hr4 y (List.mem_of_mem_drop hy)
      show -15 ≤ y + by_
      omega
  have fin : (r.take k ++ (r.drop k).map (· + by_)).map D.int = (r.take k).map D.int ++ (r.drop k).map fun x => D.int (x + by_) := by
    rw [List.map_append, List.map_map]
    rfl
  have lz : ((r.take k).map D.int).length + ((r.drop k).map fun x => D.int (x + by_)).length ≤ szL := le_szL (by simp; omega)
  rw [fin]
  generalize (r.drop k).map (fun x => D.int (x + by_)) = dd at *
  generalize (r.take k).map D.int = tt at *
  generalize l.map D.int = ll at *
  simp [f_long_row_L, m_long_row_L, e, e2, eb, k3', k12', k40', m0, hk, c1, g, lz, -dIdx]
theorem long_row_okB (l : List Int) (h : Drawn l) (most : Nat) (hm : most ≤ 500) (hl : 3 + most ≤ l.length) : ∃ r : List Int, f_long_row_L [.lst (l.map D.int), .int most] = .ok (.lst (r.map D.int)) ∧ r.length ≤ most ∧ Rising r ∧ ∀ x ∈ r, x ≤ 15 + 12 * (most : Int) + 10 ^ 40 := by
  obtain ⟨r, h1, h2, h3, h4, _⟩ := long_row_okC l h most hm hl
  exact ⟨r, h1, h2, h3, h4⟩
theorem long_row_ok (l : List Int) (h : Drawn l) (most : Nat) (hm : most ≤ 500) (hl : 3 + most ≤ l.length) : ∃ r : List Int, f_long_row_L [.lst (l.map D.int), .int most] = .ok (.lst (r.map D.int)) ∧ r.length ≤ most ∧ Rising r := by
  obtain ⟨r, h1, h2, h3, _⟩ := long_row_okB l h most hm hl
  exact ⟨r, h1, h2, h3⟩

theorem pow_ok1 : dPow (.int 10) (.int 18) = .ok (.int 1000000000000000000) := dPow_ok (k := 18) (by decide) (by decide)
theorem range60 : dRange1 (.int 60) = .ok ((List.range 60).map fun (i : Nat) => D.int i) := dRange1_nat (n := 60) (by decide)
theorem len60 : ((List.range 60).map fun (i : Nat) => D.int i).length = 60 := by simp
theorem numbers_in (s m : D) (c : Option D) : ∀ (js : List D) (acc : List Int) (rest : Int) (seed : Option D) (k : Option D), acc.length + js.length ≤ 200000 → Drawn acc → ∃ acc' rest' k',
    forL (.one 6) b_numbers_L_1 js [some s, some m, some (.lst (acc.map D.int)), seed, c, some (.int rest), k] = .nx [some s, some m, some (.lst (acc'.map D.int)), seed, c, some (.int rest'), k'] ∧ acc'.length ≤ acc.length + js.length ∧ Drawn acc'
  | [], acc, rest, seed, k, h1, h2 => ⟨acc, rest, k, rfl, by simp, h2⟩
  | j :: js, acc, rest, seed, k, h1, h2 => by
    rw [List.length_cons] at h1
    by_cases hr : 0 < rest
    · have f := fmod_pos (a := rest) (b := 1013) (by decide)
      obtain ⟨acc', rest', k', e1, e2, e3⟩ := numbers_in s m c js (acc ++ [rest.fmod 1013]) (rest.fdiv 1013) seed (some j) (by simp; omega) (h2.snoc f.1 (by omega))
      refine ⟨acc', rest', k', ?_, by simp at e2; rw [List.length_cons]; omega, e3⟩
      have hz : acc.length < szL := by exact lt_szL (by omega)
      have b : b_numbers_L_1 [some s, some m, some (.lst (acc.map D.int)), seed, c, some (.int rest), some j] = .nx [some s, some m, some (.lst ((acc ++ [rest.fmod 1013]).map D.int)), seed, c, some (.int (rest.fdiv 1013)), some j] := by
        simp [b_numbers_L_1, hr, hz]
      rw [← e1]
      simp [forL, b]
    · obtain ⟨acc', rest', k', e1, e2, e3⟩ := numbers_in s m c js acc rest seed (some j) (by omega) h2
      refine ⟨acc', rest', k', ?_, by rw [List.length_cons]; omega, e3⟩
      have b : b_numbers_L_1 [some s, some m, some (.lst (acc.map D.int)), seed, c, some (.int rest), some j] = .nx [some s, some m, some (.lst (acc.map D.int)), seed, c, some (.int rest), some j] := by
        simp [b_numbers_L_1, hr]
      rw [← e1]
      simp [forL, b]
theorem numbers_s1 (seed d : Int) (s m a x k : Option D) (hmul : mulOk seed 40014 = true) : mSet 3 (gBin dMod (gBin dAdd (gBin dAdd (gBin dMul (gVar 3) (gC (.int 40014))) (gBin dMod (gVar 4) (gC (.int 999983)))) (gC (.int 29))) (gC (.int 2147483563))) [s, m, a, some (.int seed), some (.int d), x, k] =
    .nx [s, m, a, some (.int ((seed * 40014 + d.fmod 999983 + 29).fmod 2147483563)), some (.int d), x, k] := by
  simp [hmul]
theorem numbers_s2 (d C18 : Int) (s m a sd x k : Option D) (p18 : dPow (.int 10) (.int 18) = .ok (.int C18)) : mSet 5 (gBin dSub (gVar 4) (gBin dPow (gC (.int 10)) (gC (.int 18)))) [s, m, a, sd, some (.int d), x, k] = .nx [s, m, a, sd, some (.int d), some (.int (d - C18)), k] := by
  simp [p18]
theorem numbers_s3 (d x : Int) (s m sd k : Option D) (acc : List Int) (hz : acc.length < szL) : mIf (gTest (gBin dLt (gVar 5) (gC (.int 0)))) (mSeq (mApp 2 (gBin dMod (gVar 4) (gC (.int 9967)))) mNil) mNil [s, m, some (.lst (acc.map D.int)), sd, some (.int d), some (.int x), k] =
    .nx [s, m, some (.lst ((if x < 0 then acc ++ [d.fmod 9967] else acc).map D.int)), sd, some (.int d), some (.int x), k] := by
  by_cases h : x < 0 <;> simp [h, hz]
theorem numbers_step (s m : D) (acc : List Int) (seed d : Int) (x k : Option D) (hmul : mulOk seed 40014 = true) (hz : acc.length < szL) (h2 : Drawn acc) (fd : 0 ≤ d.fmod 9967 ∧ d.fmod 9967 < 9967) :
    ∃ acc1, acc1.length ≤ acc.length + 1 ∧ Drawn acc1 ∧ ∀ a1 r1 k1, forL (.one 6) b_numbers_L_1 (((List.range 60).map fun (i : Nat) => D.int i)) [some s, some m, some (.lst (acc1.map D.int)), some (.int ((seed * 40014 + d.fmod 999983 + 29).fmod 2147483563)), some (.int d), some (.int (d - 1000000000000000000)), k] = .nx [some s, some m, some (.lst (List.map D.int a1)), some (.int ((seed * 40014 + d.fmod 999983 + 29).fmod 2147483563)), some (.int d), some (.int r1), k1] →
        b_numbers_L_2 [some s, some m, some (.lst (acc.map D.int)), some (.int seed), some (.int d), x, k] = .nx [some s, some m, some (.lst (List.map D.int a1)), some (.int ((seed * 40014 + d.fmod 999983 + 29).fmod 2147483563)), some (.int d), some (.int r1), k1] := by
  refine ⟨if d - 1000000000000000000 < 0 then acc ++ [d.fmod 9967] else acc, ?_, ?_, fun a1 r1 k1 e1 => ?_⟩
  · split <;> simp
  · split
    · exact h2.snoc fd.1 fd.2
    · exact h2
  · unfold b_numbers_L_2
    rw [seq_nx (numbers_s1 _ _ _ _ _ _ _ hmul), seq_nx (numbers_s2 _ _ _ _ _ _ _ _ pow_ok1), seq_nx (numbers_s3 _ _ _ _ _ _ _ hz)]
    have e2 : mFor (gRange1 (gC (.int 60))) (.one 6) b_numbers_L_1 [some s, some m, some (.lst ((if d - 1000000000000000000 < 0 then acc ++ [d.fmod 9967] else acc).map D.int)), some (.int ((seed * 40014 + d.fmod 999983 + 29).fmod 2147483563)), some (.int d), some (.int (d - 1000000000000000000)), k] = .nx [some s, some m, some (.lst (List.map D.int a1)), some (.int ((seed * 40014 + d.fmod 999983 + 29).fmod 2147483563)), some (.int d), some (.int r1), k1] := by
      show onR (dRange1 (.int 60)) _ _ = _
      rw [range60]
      exact e1
    rw [seq_nx e2]
    rfl
theorem numbers_out (s m : D) : ∀ (ds : List Int) (acc : List Int) (seed : Int) (c x k : Option D), acc.length + 61 * ds.length ≤ 100000 → Drawn acc → 0 ≤ seed → seed < 2147483563 → ∃ acc' seed' c' x' k',
    forL (.one 4) b_numbers_L_2 (ds.map D.int) [some s, some m, some (.lst (acc.map D.int)), some (.int seed), c, x, k] =
      .nx [some s, some m, some (.lst (acc'.map D.int)), some (.int seed'), c', x', k'] ∧ acc'.length ≤ acc.length + 61 * ds.length ∧ Drawn acc' ∧ 0 ≤ seed' ∧ seed' < 2147483563
  | [], acc, seed, c, x, k, h1, h2, h3, h4 => ⟨acc, seed, c, x, k, rfl, by simp, h2, h3, h4⟩
  | d :: ds, acc, seed, c, x, k, h1, h2, h3, h4 => by
    rw [List.length_cons] at h1
    have fs := fmod_pos (a := seed * 40014 + d.fmod 999983 + 29) (b := 2147483563) (by decide)
    have fd := fmod_pos (a := d) (b := 9967) (by decide)
    have hmul : mulOk seed 40014 = true := mulOk_right (by decide) (by decide)
    have hz : acc.length < szL := by exact lt_szL (by omega)
    obtain ⟨acc1, l1, d1, kk⟩ := numbers_step s m acc seed d x k hmul hz h2 fd
    obtain ⟨a1, r1, k1, e1, e2, e3⟩ := numbers_in s m (some (.int d)) (((List.range 60).map fun (i : Nat) => D.int i)) acc1 (d - 1000000000000000000) (some (.int ((seed * 40014 + d.fmod 999983 + 29).fmod 2147483563))) k (by rw [len60]; omega) d1
    rw [len60] at e2
    obtain ⟨a2, s2, c2, x2, k2, f1, f2, f3, f4, f5⟩ := numbers_out s m ds a1 _ (some (.int d)) (some (.int r1)) k1 (by omega) e3 fs.1 fs.2
    refine ⟨a2, s2, c2, x2, k2, ?_, by rw [List.length_cons]; omega, f3, f4, f5⟩
    rw [← f1]
    have b := kk a1 r1 k1 e1
    show (match b_numbers_L_2 [some s, some m, some (.lst (acc.map D.int)), some (.int seed), some (.int d), x, k] with
      | .nx r' => forL (.one 4) b_numbers_L_2 (ds.map D.int) r'
      | o => o) = _
    rw [b]
theorem sIx_hi (n k : Nat) : HT.sIx n n (some (k : Int)) = min k n := HT.sIx_nat n n k
theorem numbers_ok (ns : List Int) (hn : ns.length ≤ 63) (many : Nat) (hm : many ≤ 2000) : ∃ l : List Int, f_numbers_L [.scr ns, .int many] = .ok (.lst (l.map D.int)) ∧ l.length = many ∧ Drawn l := by
  have hc : (cutL ns none (some 63)).length ≤ 63 := by
    unfold cutL
    rw [List.length_take, List.length_drop]
    omega
  obtain ⟨a1, s1, c1, x1, k1, e1, e2, e3, e4, e5⟩ := numbers_out (.scr ns) (.int many) (cutL ns none (some 63)) [] 59 none none none (by simp; omega) (fun d hd => nomatch hd) (by decide) (by decide)
  rw [List.length_nil] at e2
  -- the filling up
  obtain ⟨r', w1, ⟨acc, seed, rfl, w2, w3, w4, w5⟩, w6⟩ := whileL_inv (fun r => ∃ (acc : List Int) (seed : Int), r = [some (.scr ns), some (.int many), some (.lst (acc.map D.int)), some (.int seed), c1, x1, k1] ∧ acc.length ≤ 6000 ∧ Drawn acc ∧ 0 ≤ seed ∧ seed < 2147483629)
    (fun r => match r with
      | [_, _, some (.lst a), _, _, _, _] => many - a.length
      | _ => 0) (tc := gTest (gBin dLt (gCall fLen (gCons (gVar 2) gNil)) (gVar 1))) (mb := b_numbers_L_3) (fun r ⟨acc, seed, e, h1, h2, h3, h4⟩ => by
      subst e
      refine ⟨decide ((acc.length : Int) < many), by simp, fun hb => ?_⟩
      have hb' : acc.length < many := by
        have := of_decide_eq_true hb
        omega
      have m1 : mulOk seed seed = true := mulOk_left (by omega) (by omega)
      have m2 : mulOk 52774 seed = true := mulOk_left (by decide) (by decide)
      have m3 : mulOk 13 (acc.length : Int) = true := mulOk_left (by decide) (by decide)
      have hz : acc.length < szL := by exact lt_szL (by omega)
      have f1 := fmod_pos (a := seed * seed + 52774 * seed + 13 * acc.length + 7) (b := 2147483629) (by decide)
      have f2 := fmod_pos (a := ((seed * seed + 52774 * seed + 13 * acc.length + 7).fmod 2147483629).fdiv 1019) (b := 9967) (by decide)
      refine ⟨[some (.scr ns), some (.int many), some (.lst ((acc ++ [(((seed * seed + 52774 * seed + 13 * acc.length + 7).fmod 2147483629).fdiv 1019).fmod 9967]).map D.int)), some (.int ((seed * seed + 52774 * seed + 13 * acc.length + 7).fmod 2147483629)), c1, x1, k1], ?_, ⟨_, _, rfl, by simp; omega, h2.snoc f2.1 f2.2, f1.1, f1.2⟩, ?_⟩
      · simp [b_numbers_L_3, m1, m2, m3, hz]
      · simp
        omega) WB [some (.scr ns), some (.int many), some (.lst (a1.map D.int)), some (.int s1), c1, x1, k1] ⟨a1, s1, rfl, by omega, e3, e4, by omega⟩ (by
      rw [WB_eq]
      show many - _ < 100000
      omega)
  have w7 : ¬ acc.length < many := by
    simp at w6
    omega
  refine ⟨acc.take many, ?_, by rw [List.length_take]; omega, fun d hd => w3 d (List.mem_of_mem_take hd)⟩
  have hcut : cutL (acc.map D.int) none (some (many : Int)) = (acc.take many).map D.int := by
    unfold cutL
    rw [HT.sIx_none, sIx_hi, List.drop_zero, Nat.sub_zero, List.map_take, List.length_map, Nat.min_eq_left (by omega)]
  have e1' : forL (.one 4) b_numbers_L_2 ((cutL ns none (some 63)).map D.int) [some (.scr ns), some (.int (many : Int)), some (.lst []), some (.int 59), none, none, none] = _ := e1
  simp [f_numbers_L, m_numbers_L, e1', w1, hcut, le_szL (n := 0) (by decide)]

def sitU (r : Run) : List (Bool × Int) := r.2.map fun p => (r.1, p)
def sitL (L : List Run) : List (Bool × Int) := L.flatMap sitU
theorem sitL_cons (r : Run) (L : List Run) : sitL (r :: L) = sitU r ++ sitL L := by unfold sitL; rw [List.flatMap_cons]
theorem sitL_app (A B : List Run) : sitL (A ++ B) = sitL A ++ sitL B := by unfold sitL; rw [List.flatMap_append]
theorem sitL_one (r : Run) : sitL [r] = sitU r := by rw [sitL_cons]; exact List.append_nil _
theorem shut_two (t u : Run) (S : List Run) : shutU (t :: u :: S) = if t.2.length = u.2.length then (S, [pairU u t]) else (t :: u :: S, []) := rfl
theorem put_like {t : Run} {S : List Run} {x : Bool × Int} (h : t.1 = x.1) : putU (t :: S) x = shutU ((t.1, t.2 ++ [x.2]) :: S) := by unfold putU; dsimp only; rw [if_pos h]
theorem put_other {t : Run} {S : List Run} {x : Bool × Int} (h : t.1 ≠ x.1) : putU (t :: S) x = shutU ((x.1, [x.2]) :: t :: S) := by unfold putU; dsimp only; rw [if_neg h]
/-- no shorter one below -/
def Below (n : Nat) (S : List Run) : Prop := ∀ u, S.head? = some u → n < u.2.length
theorem shut_below {t : Run} {S : List Run} (h : Below t.2.length S) : shutU (t :: S) = (t :: S, []) := by
  cases S with
  | nil => rfl
  | cons u S =>
    have := h u rfl
    rw [shut_two, if_neg (by omega)]
theorem grow_st (b : Bool) (S : List Run) : ∀ (ps acc : List Int), Below (acc.length + ps.length) S → stU ((b, acc) :: S) (ps.map fun p => (b, p)) = (b, acc ++ ps) :: S ∧ emU ((b, acc) :: S) (ps.map fun p => (b, p)) = []
  | [], acc, _ => ⟨by rw [List.append_nil]; rfl, rfl⟩
  | p :: ps, acc, h => by
    have e : putU ((b, acc) :: S) (b, p) = ((b, acc ++ [p]) :: S, []) := by
      rw [put_like (by rfl)]
      exact shut_below fun u hu => by
        have := h u hu
        simp at this ⊢
        omega
    obtain ⟨h1, h2⟩ := grow_st b S ps (acc ++ [p]) (fun u hu => by
      have := h u hu
      simp at this ⊢
      omega)
    rw [List.map_cons]
    show stU (putU ((b, acc) :: S) (b, p)).1 _ = _ ∧ (putU ((b, acc) :: S) (b, p)).2 ++ emU (putU ((b, acc) :: S) (b, p)).1 _ = _
    rw [e]
    dsimp only
    rw [h1, h2, List.append_assoc]
    exact ⟨rfl, rfl⟩
theorem grow_eq (b : Bool) (S : List Run) (u : Run) (ps acc : List Int) (hn : ps ≠ []) (h : acc.length + ps.length = u.2.length) : stU ((b, acc) :: u :: S) (ps.map fun p => (b, p)) = S ∧ emU ((b, acc) :: u :: S) (ps.map fun p => (b, p)) = [pairU u (b, acc ++ ps)] := by
  rcases List.eq_nil_or_concat ps with w | ⟨qs, p, w⟩
  · exact absurd w hn
  · rw [List.concat_eq_append] at w
    subst w
    simp at h
    obtain ⟨h1, h2⟩ := grow_st b (u :: S) qs acc (fun v hv => by cases hv; omega)
    rw [List.map_append, stU_app, emU_app, h1, h2]
    have e : putU ((b, acc ++ qs) :: u :: S) (b, p) = (S, [pairU u (b, acc ++ (qs ++ [p]))]) := by
      rw [put_like (by rfl), shut_two, if_pos (by simp; omega), List.append_assoc]
    show (putU ((b, acc ++ qs) :: u :: S) (b, p)).1 = _ ∧ [] ++ ((putU ((b, acc ++ qs) :: u :: S) (b, p)).2 ++ []) = _
    rw [e]
    exact ⟨rfl, rfl⟩
/-- fits on top -/
def Fits (r : Run) (S : List Run) : Prop := r.2 ≠ [] ∧ (S = [] → r.1 = true) ∧ ∀ u, S.head? = some u → u.1 ≠ r.1 ∧ r.2.length < u.2.length
theorem run_st {r : Run} {S : List Run} (h : Fits r S) : stU S (sitU r) = r :: S ∧ emU S (sitU r) = [] := by
  obtain ⟨b, ps⟩ := r
  obtain ⟨h1, h2, h3⟩ := h
  cases ps with
  | nil => exact absurd rfl h1
  | cons p ps =>
    have e : putU S (b, p) = ((b, [p]) :: S, []) := by
      cases S with
      | nil =>
        have : b = true := h2 rfl
        subst this
        rfl
      | cons u S =>
        obtain ⟨n, l⟩ := h3 u rfl
        rw [put_other n]
        exact shut_below fun v hv => by cases hv; simp at l ⊢; omega
    obtain ⟨g1, g2⟩ := grow_st b S ps [p] (fun u hu => by
      have := (h3 u hu).2
      simp at this ⊢
      omega)
    show stU (putU S (b, p)).1 (ps.map fun p => (b, p)) = _ ∧ (putU S (b, p)).2 ++ emU (putU S (b, p)).1 (ps.map fun p => (b, p)) = _
    rw [e]
    exact ⟨g1, by rw [g2]; rfl⟩
theorem run_eq {r u : Run} {S : List Run} (h1 : r.2 ≠ []) (h2 : u.1 ≠ r.1) (h3 : r.2.length = u.2.length) : stU (u :: S) (sitU r) = S ∧ emU (u :: S) (sitU r) = [pairU u r] := by
  obtain ⟨b, ps⟩ := r
  cases ps with
  | nil => exact absurd rfl h1
  | cons p ps =>
    show stU (putU (u :: S) (b, p)).1 (ps.map fun p => (b, p)) = _ ∧ (putU (u :: S) (b, p)).2 ++ emU (putU (u :: S) (b, p)).1 (ps.map fun p => (b, p)) = _
    rw [put_other h2, shut_two]
    by_cases c : ps = []
    · subst c
      rw [if_pos (by simpa using h3)]
      exact ⟨rfl, rfl⟩
    · have lp : 0 < ps.length := List.length_pos_iff.mpr c
      simp at h3
      rw [if_neg (by simp; omega)]
      obtain ⟨g1, g2⟩ := grow_eq b S u ps [p] c (by simp; omega)
      exact ⟨g1, by rw [g2]; rfl⟩
/-- runs that only pile up -/
def DecU : List Run → List Run → Prop
  | _, [] => True
  | S, x :: A => Fits x S ∧ DecU (x :: S) A
theorem dec_st : ∀ (A S : List Run), DecU S A → stU S (sitL A) = A.reverse ++ S ∧ emU S (sitL A) = []
  | [], S, _ => ⟨rfl, rfl⟩
  | x :: A, S, h => by
    obtain ⟨h1, h2⟩ := run_st h.1
    obtain ⟨g1, g2⟩ := dec_st A (x :: S) h.2
    rw [sitL_cons, stU_app, emU_app, h1, h2, g1, g2]
    simp
theorem dec_app : ∀ (A B S : List Run), DecU S (A ++ B) → DecU S A
  | [], _, _, _ => trivial
  | x :: A, B, S, h => ⟨h.1, dec_app A B _ h.2⟩
theorem find_dec : ∀ (P S : List Run) (q : List Run × Run × Run × List Run), findR P = some q → (∀ (A B : List Run) (p r : Run), P = A ++ p :: r :: B → p.1 ≠ r.1) → (∀ p ∈ P, p.2 ≠ []) → (∀ p, P.head? = some p → Fits p S) → DecU S (q.1 ++ [q.2.1])
  | [], _, _, h, _, _, _ => by cases h
  | [_], _, _, h, _, _, _ => by cases h
  | x :: y :: r, S, q, h, hc, hn, hf => by
    have fx := hf x rfl
    unfold findR at h
    split at h
    · cases h
      exact ⟨fx, trivial⟩
    · rename_i c
      cases e : findR (y :: r) with
      | none => rw [e] at h; cases h
      | some q1 =>
        rw [e] at h
        cases h
        refine ⟨fx, find_dec (y :: r) (x :: S) q1 e (fun A B p t ht => hc (x :: A) B p t (by rw [ht]; rfl)) (fun p hp => hn p (List.mem_cons_of_mem _ hp)) fun p hp => ?_⟩
        cases hp
        refine ⟨hn y (by simp), (fun z => nomatch z), fun u hu => ?_⟩
        cases hu
        exact ⟨hc [] r x y rfl, by omega⟩
theorem skip_st : ∀ ps : List Int, stU [] (ps.map fun p => (false, p)) = [] ∧ emU [] (ps.map fun p => (false, p)) = []
  | [] => ⟨rfl, rfl⟩
  | p :: ps => skip_st ps
theorem jn_eq (f : List Run) (r : Run) : EqU (sitL (jn f r)) (sitL f ++ sitU r) := by
  by_cases c : r.2 = []
  · rw [jn_nil c, show sitU r = [] by unfold sitU; rw [c]; rfl, List.append_nil]
    exact ⟨rfl, rfl⟩
  · rcases List.eq_nil_or_concat f with w | ⟨f0, l, w⟩
    · subst w
      rw [jn_first c]
      obtain ⟨b, ps⟩ := r
      cases b with
      | true =>
        rw [if_pos rfl, sitL_one]
        exact ⟨rfl, rfl⟩
      | false =>
        rw [if_neg (by intro z; cases z)]
        obtain ⟨h1, h2⟩ := skip_st ps
        exact ⟨h1.symm, h2.symm⟩
    · rw [List.concat_eq_append] at w
      subst w
      rw [jn_snoc f0 l c]
      split
      · rename_i e
        have : sitL (f0 ++ [(r.1, l.2 ++ r.2)]) = sitL (f0 ++ [l]) ++ sitU r := by
          rw [sitL_app, sitL_app, sitL_one, sitL_one, List.append_assoc]
          congr 1
          unfold sitU
          dsimp only
          rw [List.map_append, e]
        rw [this]
        exact ⟨rfl, rfl⟩
      · rw [sitL_app, sitL_one]
        exact ⟨rfl, rfl⟩
theorem jns_eq : ∀ (L f : List Run), EqU (sitL (L.foldl jn f)) (sitL f ++ sitL L)
  | [], f => by rw [show sitL [] = [] from rfl, List.append_nil]; exact ⟨rfl, rfl⟩
  | r :: L, f => by
    have h1 := jns_eq L (jn f r)
    have h2 := (jn_eq f r).app (sitL L)
    rw [List.foldl_cons, sitL_cons, ← List.append_assoc]
    exact ⟨h1.1.trans h2.1, h1.2.trans h2.2⟩
/-- the taking out is the stack's -/
theorem hds_stack : ∀ (n : Nat) {P : List Run} {H : List (List Int × List Int)}, Alt P → hds n P = some H → stU [] (sitL P) = [] ∧ emU [] (sitL P) = H
  | 0, P, H, a, h => by
    unfold hds at h
    split at h
    · rename_i z
      cases h
      subst z
      exact ⟨rfl, rfl⟩
    · cases h
  | n + 1, P, H, a, h => by
    by_cases z : P = []
    · unfold hds at h
      rw [if_pos z] at h
      cases h
      subst z
      exact ⟨rfl, rfl⟩
    · unfold hds at h
      rw [if_neg z] at h
      cases hq : findR P with
      | none => rw [hq] at h; cases h
      | some q =>
        rw [hq] at h
        dsimp only at h
        cases eH : hds n (jns (leftR q)) with
        | none => rw [eH] at h; cases h
        | some H2 =>
          rw [eH] at h
          cases h
          have aj : Alt (jns (leftR q)) := jns_alt _ Alt.nil
          obtain ⟨i1, i2⟩ := hds_stack n aj eH
          have je := jns_eq (leftR q) []
          have je1 : stU [] (sitL (leftR q)) = [] := je.1.symm.trans i1
          have je2 : emU [] (sitL (leftR q)) = H2 := je.2.symm.trans i2
          obtain ⟨e, l⟩ := findR_eq hq
          have dc := find_dec P [] q hq a.ch a.ne fun p hp => ⟨a.ne p (by cases P with
            | nil => cases hp
            | cons x P => cases hp; exact List.mem_cons_self), fun _ => a.hd p hp, fun u hu => nomatch hu⟩
          obtain ⟨A, x, y, B⟩ := q
          dsimp only at e l dc
          have ne := a.ch A B x y e
          have n1 := a.ne x (by rw [e]; simp)
          have lx : 0 < x.2.length := List.length_pos_iff.mpr n1
          obtain ⟨d1, d2⟩ := dec_st _ _ dc
          obtain ⟨c1, c2⟩ := dec_st _ _ (dec_app _ _ _ dc)
          have tl : (y.2.take x.2.length).length = x.2.length := by rw [List.length_take]; omega
          have tn : y.2.take x.2.length ≠ [] := fun w => by rw [w] at tl; simp at tl; omega
          obtain ⟨r1, r2⟩ := run_eq (r := (y.1, y.2.take x.2.length)) (u := x) (S := A.reverse) tn ne tl
          have sp : sitL P = sitL (A ++ [x]) ++ (sitU (y.1, y.2.take x.2.length) ++ sitL ((y.1, y.2.drop x.2.length) :: B)) := by
            rw [e, sitL_app, sitL_app, sitL_one, sitL_cons, sitL_cons, sitL_cons, List.append_assoc]
            congr 2
            rw [← List.append_assoc]
            congr 1
            unfold sitU
            dsimp only
            rw [← List.map_append, List.take_append_drop]
          have sl : sitL (leftR (A, x, y, B)) = sitL A ++ sitL ((y.1, y.2.drop x.2.length) :: B) := by
            unfold leftR
            rw [sitL_app]
          rw [List.append_nil] at c1
          rw [List.append_nil, List.reverse_append] at d1
          have d1' : stU [] (sitL (A ++ [x])) = x :: A.reverse := d1
          rw [sl, stU_app, c1] at je1
          rw [sl, emU_app, c1, c2, List.nil_append] at je2
          rw [sp, stU_app, stU_app, emU_app, emU_app, d1', d2, r1, r2, je1, je2]
          exact ⟨rfl, by
            rw [List.nil_append]
            show [pairU x (y.1, y.2.take x.2.length)] ++ H2 = tookR (A, x, y, B) :: H2
            unfold tookR pairU
            rfl⟩

theorem OkU.tail {t : Run} {S : List Run} (h : OkU (t :: S)) : OkU S := by
  cases S with
  | nil => trivial
  | cons u S => exact h.2.2.2
/-- some weight of a run by its length -/
def ldF (f : Nat → Nat) : List Run → Int
  | [] => 0
  | t :: S => (if t.1 then (f t.2.length : Int) else -(f t.2.length : Int)) + ldF f S
theorem ldF_full (f : Nat → Nat) (u : Run) (S : List Run) (h : u.1 = true) : ldF f (u :: S) = (f u.2.length : Int) + ldF f S := by show (if u.1 then _ else _) + _ = _; rw [if_pos h]
theorem ldF_empty (f : Nat → Nat) (u : Run) (S : List Run) (h : u.1 = false) : ldF f (u :: S) = -(f u.2.length : Int) + ldF f S := by show (if u.1 then _ else _) + _ = _; rw [h]; rfl
theorem shut_ok {t : Run} {S : List Run} (h1 : t.2 ≠ []) (h2 : S = [] → t.1 = true) (h3 : ∀ u, S.head? = some u → t.1 = !u.1 ∧ t.2.length ≤ u.2.length) (hS : OkU S) (f : Nat → Nat) : OkU (shutU (t :: S)).1 ∧ ldF f (shutU (t :: S)).1 = ldF f (t :: S) := by
  cases S with
  | nil => exact ⟨⟨h2 rfl, h1⟩, rfl⟩
  | cons u S =>
    obtain ⟨a, b⟩ := h3 u rfl
    rw [shut_two]
    by_cases c : t.2.length = u.2.length
    · rw [if_pos c]
      refine ⟨hS.tail, ?_⟩
      show ldF f S = _
      cases q : u.1 with
      | true => rw [ldF_empty f t _ (by rw [a, q]; rfl), ldF_full f u _ q, c]; omega
      | false => rw [ldF_full f t _ (by rw [a, q]; rfl), ldF_empty f u _ q, c]; omega
    · rw [if_neg c]
      exact ⟨⟨h1, a, by omega, hS⟩, rfl⟩
/-- the stack that is shut behind a niche -/
def preU (S : List Run) (x : Bool × Int) : List Run := match S with
  | [] => if x.1 then [(true, [x.2])] else []
  | t :: S => if t.1 = x.1 then (t.1, t.2 ++ [x.2]) :: S else (x.1, [x.2]) :: t :: S
theorem put_pre (S : List Run) (x : Bool × Int) : putU S x = shutU (preU S x) := by
  cases S with
  | nil => unfold putU preU; dsimp only; split <;> rfl
  | cons t S => unfold putU preU; dsimp only; split <;> rfl
theorem putU_ok {S : List Run} (hS : OkU S) (x : Bool × Int) (f : Nat → Nat) : OkU (putU S x).1 ∧ ldF f (putU S x).1 = ldF f (preU S x) := by
  obtain ⟨b, p⟩ := x
  rw [put_pre]
  cases S with
  | nil =>
    cases b with
    | true => exact ⟨⟨rfl, by simp⟩, rfl⟩
    | false => exact ⟨trivial, rfl⟩
  | cons t S =>
    have ht := hS.ne
    unfold preU
    dsimp only
    by_cases c : t.1 = b
    · rw [if_pos c]
      refine shut_ok (by simp) (fun z => ?_) (fun u hu => ?_) hS.tail f
      · subst z
        exact hS.1
      · cases S with
        | nil => cases hu
        | cons v S =>
          cases hu
          have := hS.2.2.1
          exact ⟨hS.2.1, by simp; omega⟩
    · rw [if_neg c]
      refine shut_ok (S := t :: S) (t := (b, [p])) (by simp) (fun z => by cases z) (fun u hu => ?_) hS f
      cases hu
      exact ⟨by cases q : t.1 <;> cases b <;> simp_all, by simp; omega⟩
/-- what stands in the creel that holds all -/
def ldU (S : List Run) : Int := ldF id S
theorem ldU_pos : ∀ {S : List Run}, OkU S → 0 ≤ ldU S ∧ (S ≠ [] → 0 < ldU S) ∧ ∀ t, S.head? = some t → t.1 = true → (t.2.length : Int) ≤ ldU S
  | [], _ => ⟨Int.le_refl _, fun z => absurd rfl z, fun t h => nomatch h⟩
  | [t], h => by
    have l := h.ne
    have e : ldU [t] = t.2.length := by
      unfold ldU
      rw [ldF_full _ _ _ h.1]
      show (t.2.length : Int) + 0 = _
      omega
    rw [e]
    exact ⟨by omega, fun _ => by omega, fun u hu _ => by cases hu; exact Int.le_refl _⟩
  | t :: u :: S, h => by
    have l := h.ne
    obtain ⟨i1, i2, i3⟩ := ldU_pos h.2.2.2
    have k := h.2.2.1
    have a := h.2.1
    cases q : u.1 with
    | true =>
      have tf : t.1 = false := by rw [a, q]; rfl
      have e : ldU (t :: u :: S) = -(t.2.length : Int) + ldU (u :: S) := ldF_empty _ _ _ tf
      have := i3 u rfl q
      rw [e]
      exact ⟨by omega, fun _ => by omega, fun v hv z => by cases hv; rw [tf] at z; cases z⟩
    | false =>
      have tf : t.1 = true := by rw [a, q]; rfl
      have e : ldU (t :: u :: S) = (t.2.length : Int) + ldU (u :: S) := ldF_full _ _ _ tf
      rw [e]
      exact ⟨by omega, fun _ => by omega, fun v hv z => by cases hv; omega⟩
theorem ldU_put {S : List Run} (h : OkU S) (b : Bool) (p : Int) : ldU (putU S (b, p)).1 = if b then ldU S + 1 else if S = [] then 0 else ldU S - 1 := by
  have e := (putU_ok h (b, p) id).2
  show ldF id _ = _
  rw [e]
  cases S with
  | nil => cases b <;> rfl
  | cons t S =>
    unfold preU
    dsimp only
    by_cases c : t.1 = b
    · rw [if_pos c]
      cases b with
      | true =>
        rw [if_pos rfl, ldF_full id (t.1, t.2 ++ [p]) S c]
        show _ = ldF id (t :: S) + 1
        rw [ldF_full id t S c]
        simp
        omega
      | false =>
        rw [if_neg (by decide), if_neg (by simp), ldF_empty id (t.1, t.2 ++ [p]) S c]
        show _ = ldF id (t :: S) - 1
        rw [ldF_empty id t S c]
        simp
        omega
    · rw [if_neg c]
      cases b with
      | true =>
        rw [if_pos rfl, ldF_full id (true, [p]) _ rfl]
        show _ = ldF id (t :: S) + 1
        simp
        omega
      | false =>
        rw [if_neg (by decide), if_neg (by simp), ldF_empty id (false, [p]) _ rfl]
        show _ = ldF id (t :: S) - 1
        simp
        omega
def gapU (e : Int) (m : Nat) : List (Bool × Int) := (laid (e + 1) m).map fun p => (false, p)
theorem gapU_zero (e : Int) : gapU e 0 = [] := rfl
theorem gapU_succ (e : Int) (m : Nat) : gapU e (m + 1) = (false, e + 1) :: gapU (e + 1) m := by
  unfold gapU
  rw [laid_succ]
  rfl
theorem laid_add (p : Int) (m n : Nat) : laid p (m + n) = laid p m ++ laid (p + m) n := by
  induction m generalizing p with
  | zero => simp [laid_zero]
  | succ m ih =>
    rw [show m + 1 + n = (m + n) + 1 by omega, laid_succ, laid_succ, ih, List.cons_append]
    congr 2
    rw [show p + 1 + (m : Int) = p + ((m + 1 : Nat) : Int) by omega]
theorem gapU_add (e : Int) (m n : Nat) : gapU e (m + n) = gapU e m ++ gapU (e + m) n := by
  unfold gapU
  rw [laid_add, List.map_append, show e + 1 + (m : Int) = e + m + 1 by omega]
theorem gap_nil (e : Int) (m : Nat) : stU [] (gapU e m) = [] ∧ emU [] (gapU e m) = [] := skip_st _
theorem gap_ok : ∀ (m : Nat) (S : List Run) (e : Int), OkU S → OkU (stU S (gapU e m)) ∧ (ldU S ≤ m → stU S (gapU e m) = [])
  | 0, S, e, h => ⟨h, fun l => by
    by_cases z : S = []
    · exact z
    · have := (ldU_pos h).2.1 z
      omega⟩
  | m + 1, S, e, h => by
    rw [gapU_succ]
    obtain ⟨i1, i2⟩ := gap_ok m (putU S (false, e + 1)).1 (e + 1) (putU_ok h _ id).1
    refine ⟨i1, fun l => i2 ?_⟩
    rw [ldU_put h, if_neg (by decide)]
    split <;> omega
theorem gap_em {S : List Run} (h : OkU S) (e : Int) {m n : Nat} (h1 : ldU S ≤ m) (h2 : ldU S ≤ n) : emU S (gapU e m) = emU S (gapU e n) := by
  have key : ∀ k : Nat, ldU S ≤ k → emU S (gapU e k) = emU S (gapU e (ldU S).toNat) := fun k hk => by
    have p := (ldU_pos h).1
    have g := (gap_ok (ldU S).toNat S e h).2 (by omega)
    rw [show k = (ldU S).toNat + (k - (ldU S).toNat) by omega, gapU_add, emU_app, g, (gap_nil _ _).2, List.append_nil]
  rw [key m h1, key n h2]
/-- the niches of a row, its gaps told by g -/
def seqU (g : Int → Int → Nat) (m : Nat) : Int → List Int → List (Bool × Int)
  | e, [] => gapU e m
  | e, a :: r => gapU e (g e a) ++ (true, a) :: seqU g m a r
theorem seq_em (N : Nat) (g1 g2 : Int → Int → Nat) (m1 m2 : Nat) (hm1 : N ≤ m1) (hm2 : N ≤ m2) (hg : ∀ e a, g1 e a = g2 e a ∨ (N ≤ g1 e a ∧ N ≤ g2 e a)) : ∀ (r : List Int) (e : Int) (S : List Run), OkU S → ldU S + r.length ≤ N → emU S (seqU g1 m1 e r) = emU S (seqU g2 m2 e r) ∧ stU S (seqU g1 m1 e r) = [] ∧ stU S (seqU g2 m2 e r) = []
  | [], e, S, h, l => by
    simp at l
    exact ⟨gap_em h e (by omega) (by omega), (gap_ok m1 S e h).2 (by omega), (gap_ok m2 S e h).2 (by omega)⟩
  | a :: r, e, S, h, l => by
    rw [List.length_cons] at l
    show emU S (gapU e (g1 e a) ++ (true, a) :: seqU g1 m1 a r) = emU S (gapU e (g2 e a) ++ (true, a) :: seqU g2 m2 a r) ∧ stU S (gapU e (g1 e a) ++ (true, a) :: seqU g1 m1 a r) = [] ∧ stU S (gapU e (g2 e a) ++ (true, a) :: seqU g2 m2 a r) = []
    have both : stU S (gapU e (g1 e a)) = stU S (gapU e (g2 e a)) ∧ emU S (gapU e (g1 e a)) = emU S (gapU e (g2 e a)) := by
      rcases hg e a with q | ⟨q1, q2⟩
      · rw [q]; exact ⟨rfl, rfl⟩
      · rw [(gap_ok (g1 e a) S e h).2 (by omega), (gap_ok (g2 e a) S e h).2 (by omega)]
        exact ⟨rfl, gap_em h e (by omega) (by omega)⟩
    have ld : ∀ k, ldU (stU S (gapU e k)) ≤ ldU S := fun k => by
      have : ∀ (k : Nat) (S : List Run) (e : Int), OkU S → ldU (stU S (gapU e k)) ≤ ldU S := by
        intro k
        induction k with
        | zero => intro S e _; exact Int.le_refl _
        | succ k ih =>
          intro S e h
          rw [gapU_succ]
          have i := ih (putU S (false, e + 1)).1 (e + 1) (putU_ok h _ id).1
          rw [ldU_put h, if_neg (by decide)] at i
          have p := (ldU_pos h).1
          show ldU (stU (putU S (false, e + 1)).1 (gapU (e + 1) k)) ≤ _
          split at i <;> omega
      exact this k S e h
    have o1 := (gap_ok (g1 e a) S e h).1
    have l1 := ld (g1 e a)
    have o2 := (putU_ok o1 (true, a) id).1
    have l2 := ldU_put o1 true a
    rw [if_pos rfl] at l2
    obtain ⟨i1, i2, i3⟩ := seq_em N g1 g2 m1 m2 hm1 hm2 hg r a (putU (stU S (gapU e (g1 e a))) (true, a)).1 o2 (by omega)
    rw [emU_app, emU_app, stU_app, stU_app, ← both.1, ← both.2]
    refine ⟨?_, i2, i3⟩
    show _ ++ (_ ++ emU _ (seqU g1 m1 a r)) = _ ++ (_ ++ emU _ (seqU g2 m2 a r))
    rw [i1]
/-- from the first stone on -/
theorem seq_first (g : Int → Int → Nat) (m : Nat) (e a : Int) (r : List Int) : stU [] (seqU g m e (a :: r)) = stU [] ((true, a) :: seqU g m a r) ∧ emU [] (seqU g m e (a :: r)) = emU [] ((true, a) :: seqU g m a r) := by
  have g1 := gap_nil e (g e a)
  show stU [] (gapU e (g e a) ++ (true, a) :: seqU g m a r) = _ ∧ emU [] (gapU e (g e a) ++ (true, a) :: seqU g m a r) = _
  rw [stU_app, emU_app, g1.1, g1.2, List.nil_append]
  exact ⟨rfl, rfl⟩
def gapC (cap e a : Int) : Nat := (mnR a (e + cap) - (e + 1)).toNat
theorem seq_laid (cap : Int) (n : Nat) (hc : 2 ≤ cap) : ∀ (k : Nat) (e : Int) (R : List Int), seqU (gapC cap) n e (laid (e + 1) k ++ R) = (laid (e + 1) k).map (fun p => (true, p)) ++ seqU (gapC cap) n (e + k) R
  | 0, e, R => by
    rw [laid_zero]
    simp
  | k + 1, e, R => by
    have g0 : gapC cap e (e + 1) = 0 := by
      unfold gapC mnR
      split <;> omega
    rw [laid_succ, List.cons_append]
    show gapU e (gapC cap e (e + 1)) ++ (true, e + 1) :: seqU (gapC cap) n (e + 1) _ = _
    rw [g0, gapU_zero, List.nil_append, seq_laid cap n hc k (e + 1) R, show e + 1 + (k : Int) = e + ((k + 1 : Nat) : Int) by omega]
    rfl
theorem road_seq (cap : Int) (n : Nat) (hc : 2 ≤ cap) : ∀ (rs : List (Int × Int)) (l : Int × Int), (∀ x ∈ rs, x.1 ≤ x.2) → ∀ z : Int × Int, (l :: rs).getLast? = some z → sitL (roadZ cap (some l) rs ++ [(false, laid (z.2 + 1) n)]) = seqU (gapC cap) n l.2 (rowC rs)
  | [], l, _, z, hz => by
    cases hz
    rw [show roadZ cap (some l) [] = [] from rfl, List.nil_append, sitL_one]
    rfl
  | x :: rs, l, h, z, hz => by
    have hx := h x List.mem_cons_self
    have ih := road_seq cap n hc rs x (fun y hy => h y (List.mem_cons_of_mem _ hy)) z (by rw [List.getLast?_cons_cons] at hz; exact hz)
    show sitL ([gapR cap l.2 x.1, fullR x] ++ roadZ cap (some x) rs ++ [(false, laid (z.2 + 1) n)]) = seqU (gapC cap) n l.2 (laid x.1 (x.2 - x.1 + 1).toNat ++ rowC rs)
    rw [List.append_assoc, sitL_app, ih, sitL_cons, sitL_one]
    obtain ⟨k, hk⟩ : ∃ k : Nat, (x.2 - x.1 + 1).toNat = k + 1 := ⟨(x.2 - x.1).toNat, by omega⟩
    have hk2 : (x.2 + 1 - x.1).toNat = k + 1 := by omega
    have e1 : sitU (gapR cap l.2 x.1) = gapU l.2 (gapC cap l.2 x.1) := rfl
    have e2 : sitU (fullR x) = (laid x.1 (k + 1)).map fun p => (true, p) := by
      unfold sitU fullR
      dsimp only
      rw [hk2]
    rw [e1, e2, hk, laid_succ, List.cons_append]
    show _ = gapU l.2 (gapC cap l.2 x.1) ++ (true, x.1) :: seqU (gapC cap) n x.1 (laid (x.1 + 1) k ++ rowC rs)
    rw [seq_laid cap n hc, List.map_cons, show x.1 + (k : Int) = x.2 by omega]
    simp
theorem whole_seq (cap : Int) (n : Nat) (hc : 2 ≤ cap) {r : List Int} {rs : List (Int × Int)} (hr : rowC rs = r) (h : ∀ x ∈ rs, x.1 ≤ x.2) {z : Int × Int} (hz : rs.getLast? = some z) : ∃ a t, r = a :: t ∧ sitL (wholeR cap n rs z.2) = (true, a) :: seqU (gapC cap) n a t := by
  cases rs with
  | nil => cases hz
  | cons x rs =>
    have hx := h x List.mem_cons_self
    obtain ⟨k, hk⟩ : ∃ k : Nat, (x.2 - x.1 + 1).toNat = k + 1 := ⟨(x.2 - x.1).toNat, by omega⟩
    have hk2 : (x.2 + 1 - x.1).toNat = k + 1 := by omega
    have e2 : sitU (fullR x) = (laid x.1 (k + 1)).map fun p => (true, p) := by
      unfold sitU fullR
      dsimp only
      rw [hk2]
    have ih := road_seq cap n hc rs x (fun y hy => h y (List.mem_cons_of_mem _ hy)) z hz
    refine ⟨x.1, laid (x.1 + 1) k ++ rowC rs, ?_, ?_⟩
    · rw [← hr]
      show laid x.1 (x.2 - x.1 + 1).toNat ++ rowC rs = _
      rw [hk, laid_succ]
      rfl
    · show sitL ([fullR x] ++ roadZ cap (some x) rs ++ [(false, laid (z.2 + 1) n)]) = _
      rw [List.append_assoc, sitL_app, ih, sitL_one, e2, seq_laid cap n hc, laid_succ, List.map_cons, show x.1 + (k : Int) = x.2 by omega]
      rfl
def sitB : Int → List Bool → List (Bool × Int)
  | _, [] => []
  | lo, b :: bs => (b, lo) :: sitB (lo + 1) bs
def gapW (e a : Int) : Nat := (a - e - 1).toNat
theorem sitB_gap : ∀ (n : Nat) (lo : Int), sitB lo (List.replicate n false) = gapU (lo - 1) n
  | 0, _ => rfl
  | n + 1, lo => by
    rw [List.replicate_succ, gapU_succ, show lo - 1 + 1 = lo by omega]
    show (false, lo) :: sitB (lo + 1) _ = _
    rw [sitB_gap n, show lo + 1 - 1 = lo by omega]
def rowOf : Int → List Bool → List Int
  | _, [] => []
  | lo, b :: bs => if b then lo :: rowOf (lo + 1) bs else rowOf (lo + 1) bs
theorem rowOf_mem : ∀ {bs : List Bool} {lo x : Int}, x ∈ rowOf lo bs → lo ≤ x ∧ x < lo + bs.length
  | [], _, _, h => by cases h
  | b :: bs, lo, x, h => by
    have key : x ∈ rowOf (lo + 1) bs → lo ≤ x ∧ x < lo + (b :: bs).length := fun z => by
      have := rowOf_mem z
      simp
      omega
    cases b with
    | true =>
      rcases List.mem_cons.mp (show x ∈ lo :: rowOf (lo + 1) bs from h) with e | z
      · subst e; simp; omega
      · exact key z
    | false => exact key h
theorem bits_seq (n : Nat) : ∀ (bs : List Bool) (lo : Int), ∃ m, n ≤ m ∧ sitB lo (bs ++ List.replicate n false) = seqU gapW m (lo - 1) (rowOf lo bs)
  | [], lo => ⟨n, Nat.le_refl _, sitB_gap n lo⟩
  | true :: bs, lo => by
    obtain ⟨m, h1, h2⟩ := bits_seq n bs (lo + 1)
    refine ⟨m, h1, ?_⟩
    show (true, lo) :: sitB (lo + 1) (bs ++ List.replicate n false) = gapU (lo - 1) (gapW (lo - 1) lo) ++ (true, lo) :: seqU gapW m lo (rowOf (lo + 1) bs)
    rw [h2, show gapW (lo - 1) lo = 0 by unfold gapW; omega, show lo + 1 - 1 = lo by omega]
    rfl
  | false :: bs, lo => by
    obtain ⟨m, h1, h2⟩ := bits_seq n bs (lo + 1)
    rw [show lo + 1 - 1 = lo by omega] at h2
    have e : sitB lo (false :: bs ++ List.replicate n false) = (false, lo) :: seqU gapW m lo (rowOf (lo + 1) bs) := by
      rw [← h2]
      rfl
    rw [e]
    show ∃ m, n ≤ m ∧ _ = seqU gapW m (lo - 1) (rowOf (lo + 1) bs)
    cases q : rowOf (lo + 1) bs with
    | nil =>
      refine ⟨m + 1, by omega, ?_⟩
      show (false, lo) :: gapU lo m = gapU (lo - 1) (m + 1)
      rw [gapU_succ, show lo - 1 + 1 = lo by omega]
    | cons a R =>
      refine ⟨m, h1, ?_⟩
      have : a ∈ rowOf (lo + 1) bs := by rw [q]; exact List.mem_cons_self
      have := (rowOf_mem this).1
      show (false, lo) :: (gapU lo (gapW lo a) ++ (true, a) :: seqU gapW m a R) = gapU (lo - 1) (gapW (lo - 1) a) ++ (true, a) :: seqU gapW m a R
      rw [show gapW (lo - 1) a = gapW lo a + 1 by unfold gapW; omega, gapU_succ, show lo - 1 + 1 = lo by omega]
      rfl
/-- heads and tails by the niches from any one ahead of all stones to far behind them -/
theorem heads_bits {r : List Int} (hn : r ≠ []) {rs : List (Int × Int)} (hr : rowC rs = r) (h : ∀ x ∈ rs, x.1 ≤ x.2) {z : Int × Int} (hz : rs.getLast? = some z) (lo : Int) (bs : List Bool) (hb : rowOf lo bs = r) (n : Nat) (hl : r.length ≤ n) : emU [] (sitL (wholeR ((r.length : Int) + 2) r.length rs z.2)) = emU [] (sitB lo (bs ++ List.replicate n false)) ∧ stU [] (sitB lo (bs ++ List.replicate n false)) = [] := by
  obtain ⟨a, t, e1, e2⟩ := whole_seq ((r.length : Int) + 2) r.length (by omega) hr h hz
  obtain ⟨m, m1, m2⟩ := bits_seq n bs lo
  have lr : r.length = t.length + 1 := by rw [e1]; rfl
  have hs := seq_em r.length (gapC ((r.length : Int) + 2)) gapW r.length m (Nat.le_refl _) (by omega) (fun e a => by
    unfold gapC gapW mnR
    split <;> omega) t a (putU [] (true, a)).1 ⟨rfl, by simp⟩ (by
      show (1 : Int) + _ ≤ _
      omega)
  rw [hb, e1] at m2
  obtain ⟨f1, f2⟩ := seq_first gapW m (lo - 1) a t
  rw [m2, f1, f2, e2]
  refine ⟨?_, hs.2.2⟩
  show (putU [] (true, a)).2 ++ emU (putU [] (true, a)).1 _ = (putU [] (true, a)).2 ++ emU (putU [] (true, a)).1 _
  rw [hs.1]

def flipU (r : Run) : Run := (!r.1, r.2)
/-- full runs that wait -/
def pend : List Run → List (List Int)
  | [] => []
  | t :: S => if t.1 then t.2 :: pend S else pend S
theorem pend_full {t : Run} (S : List Run) (h : t.1 = true) : pend (t :: S) = t.2 :: pend S := by show (if t.1 then _ else _) = _; rw [if_pos h]
theorem pend_empty {t : Run} (S : List Run) (h : t.1 = false) : pend (t :: S) = pend S := by show (if t.1 then _ else _) = _; rw [h]; rfl
/-- an empty run of some length on top, or nothing -/
def Low (n : Nat) (V : List Run) : Prop := V = [] ∨ ∃ v W, V = v :: W ∧ v.1 = false ∧ n ≤ v.2.length
theorem pairU_flip {u x : Run} (h : u.1 = !x.1) : (pairU (flipU u) (flipU x)).1 = (pairU u x).2 := by
  unfold pairU flipU
  cases q : u.1 <;> simp
/-- an empty niche on the lower part -/
theorem low_put {V : List Run} (h : OkU V) (p : Int) (n : Nat) (hn : Low n V) : Low (n + 1) (putU V (false, p)).1 ∧ (pend V).Perm ((putU V (false, p)).2.map (·.1) ++ pend (putU V (false, p)).1) := by
  cases V with
  | nil => exact ⟨.inl rfl, .refl _⟩
  | cons v W =>
    obtain ⟨v1, W1, e, vf, vl⟩ := hn.resolve_left (by simp)
    cases e
    cases W with
    | nil =>
      have := h.1
      rw [vf] at this
      cases this
    | cons w W =>
      have wt : w.1 = true := by
        have := h.2.1
        rw [vf] at this
        cases q : w.1
        · rw [q] at this; cases this
        · rfl
      rw [put_like vf, shut_two]
      split
      · rename_i c
        simp at c
        refine ⟨?_, ?_⟩
        · have o := h.2.2.2
          cases W with
          | nil => exact .inl rfl
          | cons x W =>
            have a := o.2.1
            have b := o.2.2.1
            rw [wt] at a
            refine .inr ⟨x, W, rfl, ?_, by omega⟩
            cases q : x.1
            · rfl
            · rw [q] at a; cases a
        · rw [pend_empty _ vf, pend_full _ wt]
          have : (pairU w (v.1, v.2 ++ [p])).1 = w.2 := by unfold pairU; rw [if_pos wt]
          show (w.2 :: pend W).Perm ((pairU w (v.1, v.2 ++ [p])).1 :: ([] ++ pend W))
          rw [this]
          exact .refl _
      · refine ⟨.inr ⟨_, _, rfl, vf, by simp; omega⟩, ?_⟩
        rw [pend_empty _ vf]
        show (pend (w :: W)).Perm ([] ++ pend ((v.1, v.2 ++ [p]) :: w :: W))
        rw [pend_empty _ (show ((v.1, v.2 ++ [p]) : Run).1 = false from vf)]
        exact .refl _
/-- .. while nothing stands above -/
theorem low_nil {V : List Run} (h : OkU V) (p : Int) : Low 1 (putU V (false, p)).1 ∧ (pend V).Perm ((putU V (false, p)).2.map (·.1) ++ pend (putU V (false, p)).1) := by
  cases V with
  | nil => exact ⟨.inl rfl, .refl _⟩
  | cons v W =>
    cases vf : v.1 with
    | false =>
      obtain ⟨a, b⟩ := low_put h p 0 (.inr ⟨v, W, rfl, vf, Nat.zero_le _⟩)
      exact ⟨a, b⟩
    | true =>
      rw [put_other (by show v.1 ≠ false; rw [vf]; decide), shut_two]
      split
      · refine ⟨?_, ?_⟩
        · cases W with
          | nil => exact .inl rfl
          | cons x W =>
            have a := h.2.1
            have b := h.2.2.1
            rw [vf] at a
            refine .inr ⟨x, W, rfl, ?_, by omega⟩
            cases q : x.1
            · rfl
            · rw [q] at a; cases a
        · rw [pend_full _ vf]
          have : (pairU v (false, [p])).1 = v.2 := by unfold pairU; rw [if_pos vf]
          show (v.2 :: pend W).Perm ((pairU v (false, [p])).1 :: ([] ++ pend W))
          rw [this]
          exact .refl _
      · refine ⟨.inr ⟨_, _, rfl, rfl, by simp⟩, ?_⟩
        show (pend (v :: W)).Perm ([] ++ pend ((false, [p]) :: v :: W))
        rw [pend_empty _ (show ((false, [p]) : Run).1 = false from rfl)]
        exact .refl _
/-- the two stacks -/
def RelU (S T V : List Run) : Prop := OkU S ∧ OkU V ∧ (S = [] ∧ T = V ∨ ∃ C w, S = C ++ [w] ∧ w.1 = true ∧ T = C.map flipU ++ V ∧ Low w.2.length V)
/-- the lowest run closed, or not yet -/
theorem close_ok {t w : Run} {V : List Run} (hw : w.1 = true) (ht : t.1 = false) (hl : 0 < t.2.length) (hle : t.2.length ≤ w.2.length) (hV : OkU V) (hL : Low w.2.length V) (hO : OkU (shutU [t, w]).1) : ∃ V1, RelU (shutU [t, w]).1 (shutU (flipU t :: V)).1 V1 ∧ ((shutU [t, w]).2.map (·.2) ++ pend V).Perm ((shutU (flipU t :: V)).2.map (·.1) ++ pend V1) := by
  have ft : (flipU t).1 = true := by unfold flipU; rw [ht]; rfl
  have fl : (flipU t).2 = t.2 := rfl
  have hne : t.2 ≠ [] := List.length_pos_iff.mp hl
  rw [shut_two] at hO ⊢
  by_cases c : t.2.length = w.2.length
  · rw [if_pos c] at hO ⊢
    have p2 : (pairU w t).2 = t.2 := by unfold pairU; rw [if_pos hw]
    rcases hL with z | ⟨v, W, z, vf, vl⟩
    · subst z
      refine ⟨[flipU t], ⟨trivial, ⟨ft, hne⟩, .inl ⟨rfl, rfl⟩⟩, ?_⟩
      rw [pend_full _ ft]
      show ((pairU w t).2 :: []).Perm _
      rw [p2]
      exact .refl _
    · subst z
      rw [shut_two, fl]
      by_cases d : t.2.length = v.2.length
      · rw [if_pos d]
        refine ⟨W, ⟨trivial, hV.tail, .inl ⟨rfl, rfl⟩⟩, ?_⟩
        have p1 : (pairU v (flipU t)).1 = t.2 := by unfold pairU; rw [vf]; rfl
        rw [pend_empty _ vf]
        show ((pairU w t).2 :: pend W).Perm ((pairU v (flipU t)).1 :: pend W)
        rw [p1, p2]
      · rw [if_neg d]
        refine ⟨flipU t :: v :: W, ⟨trivial, ⟨hne, by rw [ft, vf]; rfl, by rw [fl]; omega, hV⟩, .inl ⟨rfl, rfl⟩⟩, ?_⟩
        rw [pend_full _ ft]
        show ((pairU w t).2 :: pend (v :: W)).Perm ([] ++ ((flipU t).2 :: pend (v :: W)))
        rw [p2]
        exact .refl _
  · rw [if_neg c] at hO ⊢
    have e : shutU (flipU t :: V) = (flipU t :: V, []) := by
      rcases hL with z | ⟨v, W, z, vf, vl⟩
      · subst z; rfl
      · subst z
        rw [shut_two, fl, if_neg (by omega)]
    rw [e]
    exact ⟨V, ⟨hO, hV, .inr ⟨[t], w, rfl, hw, rfl, hL⟩⟩, .refl _⟩
/-- two runs above the lowest one, closed or not yet -/
theorem inner_ok {x u w : Run} {C V : List Run} (hw : w.1 = true) (hx : u.1 = !x.1) (hV : OkU V) (hL : Low w.2.length V) (hO : OkU (shutU (x :: u :: C ++ [w])).1) : ∃ V1, RelU (shutU (x :: u :: C ++ [w])).1 (shutU ((x :: u :: C).map flipU ++ V)).1 V1 ∧ ((shutU (x :: u :: C ++ [w])).2.map (·.2) ++ pend V).Perm ((shutU ((x :: u :: C).map flipU ++ V)).2.map (·.1) ++ pend V1) := by
  have e1 : shutU (x :: u :: C ++ [w]) = if x.2.length = u.2.length then (C ++ [w], [pairU u x]) else (x :: u :: C ++ [w], []) := rfl
  have e2 : shutU ((x :: u :: C).map flipU ++ V) = if x.2.length = u.2.length then (C.map flipU ++ V, [pairU (flipU u) (flipU x)]) else ((x :: u :: C).map flipU ++ V, []) := rfl
  rw [e1] at hO ⊢
  rw [e2]
  by_cases c : x.2.length = u.2.length
  · rw [if_pos c] at hO ⊢
    rw [if_pos c]
    refine ⟨V, ⟨hO, hV, .inr ⟨C, w, rfl, hw, rfl, hL⟩⟩, ?_⟩
    show ((pairU u x).2 :: pend V).Perm ((pairU (flipU u) (flipU x)).1 :: pend V)
    rw [pairU_flip hx]
  · rw [if_neg c] at hO ⊢
    rw [if_neg c]
    exact ⟨V, ⟨hO, hV, .inr ⟨x :: u :: C, w, rfl, hw, rfl, hL⟩⟩, .refl _⟩
theorem flip_bool {a b : Bool} (h : a ≠ b) : a = !b := by cases a <;> cases b <;> simp_all
/-- a niche, in the row and behind the walk -/
theorem rel_step {S T V : List Run} (h : RelU S T V) (b : Bool) (p : Int) : ∃ V1, RelU (putU S (b, p)).1 (putU T (!b && decide (S ≠ []), p)).1 V1 ∧ ((putU S (b, p)).2.map (·.2) ++ pend V).Perm ((putU T (!b && decide (S ≠ []), p)).2.map (·.1) ++ pend V1) := by
  obtain ⟨hS, hV, hT⟩ := h
  have hO := (putU_ok hS (b, p) id).1
  rcases hT with ⟨eS, eT⟩ | ⟨C, w, eS, hw, eT, hL⟩
  · subst eS eT
    rw [show (!b && decide (([] : List Run) ≠ [])) = false by simp]
    obtain ⟨l1, l2⟩ := low_nil hV p
    have o := (putU_ok hV (false, p) id).1
    refine ⟨(putU T (false, p)).1, ⟨hO, o, ?_⟩, ?_⟩
    · cases b with
      | true => exact .inr ⟨[], (true, [p]), rfl, rfl, rfl, l1⟩
      | false => exact .inl ⟨rfl, rfl⟩
    · cases b <;> exact l2
  · subst eS eT
    rw [show (!b && decide (C ++ [w] ≠ [])) = !b by simp]
    cases C with
    | nil =>
      rw [List.nil_append] at hO hS ⊢
      rw [List.map_nil, List.nil_append]
      have lw := hS.ne
      cases b with
      | true =>
        obtain ⟨l1, l2⟩ := low_put hV p _ hL
        have e : putU [w] (true, p) = ([(w.1, w.2 ++ [p])], []) := by rw [put_like hw]; rfl
        rw [e] at hO ⊢
        refine ⟨(putU V (!true, p)).1, ⟨hO, (putU_ok hV (false, p) id).1, .inr ⟨[], _, rfl, hw, rfl, ?_⟩⟩, l2⟩
        simpa using l1
      | false =>
        have e : putU [w] (false, p) = shutU [(false, [p]), w] := put_other (by show w.1 ≠ false; rw [hw]; decide)
        have e2 : putU V (!false, p) = shutU (flipU (false, [p]) :: V) := by
          rcases hL with z | ⟨v, W, z, vf, vl⟩
          · subst z; rfl
          · subst z
            exact put_other (by show v.1 ≠ true; rw [vf]; decide)
        rw [e] at hO ⊢
        rw [e2]
        exact close_ok hw rfl (by simp) (by simp; omega) hV hL hO
    | cons t C =>
      have lt := hS.ne
      by_cases c : t.1 = b
      · have e : putU (t :: C ++ [w]) (b, p) = shutU ((t.1, t.2 ++ [p]) :: (C ++ [w])) := put_like c
        have e2 : putU ((t :: C).map flipU ++ V) (!b, p) = shutU (flipU (t.1, t.2 ++ [p]) :: (C.map flipU ++ V)) := put_like (by show (!t.1) = !b; rw [c])
        rw [e] at hO ⊢
        rw [e2]
        cases C with
        | nil =>
          have hS' : OkU [t, w] := hS
          have a := hS'.2.1
          have l := hS'.2.2.1
          rw [hw] at a
          exact close_ok (t := (t.1, t.2 ++ [p])) hw a (by simp) (by simp; omega) hV hL hO
        | cons u C =>
          have hS' : OkU (t :: u :: (C ++ [w])) := hS
          have a := hS'.2.1
          exact inner_ok (x := (t.1, t.2 ++ [p])) hw (by show u.1 = !t.1; rw [a]; cases u.1 <;> rfl) hV hL hO
      · have e : putU (t :: C ++ [w]) (b, p) = shutU ((b, [p]) :: t :: C ++ [w]) := put_other c
        have e2 : putU ((t :: C).map flipU ++ V) (!b, p) = shutU (((b, [p]) :: t :: C).map flipU ++ V) := put_other (by
          show (!t.1) ≠ !b
          cases q : t.1 <;> cases b <;> simp_all)
        rw [e] at hO ⊢
        rw [e2]
        exact inner_ok (x := (b, [p])) hw (flip_bool c) hV hL hO
def stepB (c : Int) (h : Nat) (b : Bool) : Bool × Nat := match b with
  | true => if (h : Int) < c then (false, h + 1) else (true, h)
  | false => if 0 < h then (true, h - 1) else (false, 0)
def outB (c : Int) : Nat → List Bool → List Bool
  | _, [] => []
  | h, b :: bs => (stepB c h b).1 :: outB c (stepB c h b).2 bs
/-- all niches, the walk's creel great enough -/
theorem rel_bits {c : Int} : ∀ (bs : List Bool) (lo : Int) (S T V : List Run) (h : Nat), RelU S T V → (h : Int) = ldU S → (h : Int) + (rowOf lo bs).length ≤ c → ∃ V1, RelU (stU S (sitB lo bs)) (stU T (sitB lo (outB c h bs))) V1 ∧ ((emU S (sitB lo bs)).map (·.2) ++ pend V).Perm ((emU T (sitB lo (outB c h bs))).map (·.1) ++ pend V1)
  | [], lo, S, T, V, h, r, _, _ => ⟨V, r, .refl _⟩
  | b :: bs, lo, S, T, V, h, r, hh, hc => by
    have ps := ldU_pos r.1
    have e : (stepB c h b).1 = (!b && decide (S ≠ [])) ∧ (((stepB c h b).2 : Nat) : Int) = ldU (putU S (b, lo)).1 ∧ (((stepB c h b).2 : Nat) : Int) + (rowOf (lo + 1) bs).length ≤ c := by
      rw [ldU_put r.1]
      cases b with
      | true =>
        have hc' : (h : Int) + ((rowOf (lo + 1) bs).length + 1 : Nat) ≤ c := hc
        have : stepB c h true = (false, h + 1) := by
          unfold stepB
          dsimp only
          rw [if_pos (by omega)]
        rw [this]
        exact ⟨by simp, by simp; omega, by simp; omega⟩
      | false =>
        have hc' : (h : Int) + (rowOf (lo + 1) bs).length ≤ c := hc
        by_cases z : S = []
        · subst z
          have h0 : h = 0 := by
            have : ldU [] = 0 := rfl
            omega
          subst h0
          have : stepB c 0 false = (false, 0) := by simp [stepB]
          rw [this]
          exact ⟨by simp, by simp, by simpa using hc'⟩
        · have hp := ps.2.1 z
          have : stepB c h false = (true, h - 1) := by
            unfold stepB
            dsimp only
            rw [if_pos (by omega)]
          rw [this, if_neg (by decide), if_neg z]
          exact ⟨by simp [z], by simp; omega, by simp; omega⟩
    obtain ⟨e1, e2, e3⟩ := e
    obtain ⟨V1, r1, p1⟩ := rel_step r b lo
    rw [← e1] at r1 p1
    obtain ⟨V2, r2, p2⟩ := rel_bits bs (lo + 1) _ _ V1 _ r1 e2 e3
    refine ⟨V2, r2, ?_⟩
    show (((putU S (b, lo)).2 ++ emU (putU S (b, lo)).1 (sitB (lo + 1) bs)).map (·.2) ++ pend V).Perm (((putU T ((stepB c h b).1, lo)).2 ++ emU (putU T ((stepB c h b).1, lo)).1 (sitB (lo + 1) (outB c (stepB c h b).2 bs))).map (·.1) ++ pend V2)
    rw [List.map_append, List.map_append, List.append_assoc, List.append_assoc]
    generalize (emU (putU S (b, lo)).1 (sitB (lo + 1) bs)).map (·.2) = A2 at *
    generalize (emU (putU T ((stepB c h b).1, lo)).1 (sitB (lo + 1) (outB c (stepB c h b).2 bs))).map (·.1) = B2 at *
    generalize (putU S (b, lo)).2.map (·.2) = A1 at *
    generalize (putU T ((stepB c h b).1, lo)).2.map (·.1) = B1 at *
    -- A1 ++ (A2 ++ pend V) ~ A2 ++ (A1 ++ pend V) ~ A2 ++ (B1 ++ pend V1) ~ B1 ++ (A2 ++ pend V1) ~ B1 ++ (B2 ++ pend V2)
    have s1 : (A1 ++ (A2 ++ pend V)).Perm (A2 ++ (A1 ++ pend V)) := by
      rw [← List.append_assoc, ← List.append_assoc]
      exact List.perm_append_comm.append_right _
    have s2 : (A2 ++ (B1 ++ pend V1)).Perm (B1 ++ (A2 ++ pend V1)) := by
      rw [← List.append_assoc, ← List.append_assoc]
      exact List.perm_append_comm.append_right _
    exact s1.trans ((p1.append_left A2).trans (s2.trans (p2.append_left B1)))
def fulU : List Run → List Int
  | [] => []
  | t :: S => (if t.1 then t.2 else []) ++ fulU S
theorem shut_full {t : Run} {S : List Run} (h : ∀ u, S.head? = some u → t.1 = !u.1) : (fulU (t :: S)).Perm (((shutU (t :: S)).2.map (·.1)).flatten ++ fulU (shutU (t :: S)).1) := by
  cases S with
  | nil => exact .refl _
  | cons u S =>
    have a := h u rfl
    rw [shut_two]
    split
    · show ((if t.1 then t.2 else []) ++ ((if u.1 then u.2 else []) ++ fulU S)).Perm (((pairU u t).1 ++ []) ++ fulU S)
      unfold pairU
      cases q : u.1
      · rw [q] at a
        simp [a]
      · rw [q] at a
        simp [a]
    · exact .refl _
theorem put_full {S : List Run} (h : OkU S) (b : Bool) (p : Int) : ((if b then [p] else []) ++ fulU S).Perm (((putU S (b, p)).2.map (·.1)).flatten ++ fulU (putU S (b, p)).1) := by
  have key : ((if b then [p] else []) ++ fulU S).Perm (fulU (preU S (b, p))) := by
    cases S with
    | nil => cases b <;> exact .refl _
    | cons t S =>
      unfold preU
      dsimp only
      by_cases c : t.1 = b
      · rw [if_pos c]
        show (_ ++ ((if t.1 then t.2 else []) ++ fulU S)).Perm ((if t.1 then t.2 ++ [p] else []) ++ fulU S)
        cases b with
        | true =>
          rw [if_pos c, if_pos rfl, if_pos c, ← List.append_assoc]
          exact List.perm_append_comm.append_right _
        | false =>
          rw [c]
          exact .refl _
      · rw [if_neg c]
        exact .refl _
  refine key.trans ?_
  rw [put_pre]
  cases S with
  | nil =>
    cases b <;> exact .refl _
  | cons t S =>
    unfold preU
    dsimp only
    by_cases c : t.1 = b
    · rw [if_pos c]
      refine shut_full fun u hu => ?_
      cases S with
      | nil => cases hu
      | cons v S => cases hu; exact h.2.1
    · rw [if_neg c]
      refine shut_full fun u hu => ?_
      cases hu
      show b = !t.1
      cases q : t.1 <;> cases b <;> simp_all
theorem bits_full : ∀ (bs : List Bool) (lo : Int) (S : List Run), OkU S → (rowOf lo bs ++ fulU S).Perm (((emU S (sitB lo bs)).map (·.1)).flatten ++ fulU (stU S (sitB lo bs)))
  | [], lo, S, _ => .refl _
  | b :: bs, lo, S, h => by
    have p1 := put_full h b lo
    have ih := bits_full bs (lo + 1) _ (putU_ok h (b, lo) id).1
    have er : rowOf lo (b :: bs) = (if b then [lo] else []) ++ rowOf (lo + 1) bs := by cases b <;> rfl
    show List.Perm _ ((((putU S (b, lo)).2 ++ emU (putU S (b, lo)).1 (sitB (lo + 1) bs)).map (·.1)).flatten ++ fulU (stU (putU S (b, lo)).1 (sitB (lo + 1) bs)))
    rw [List.map_append, List.flatten_append, List.append_assoc, er]
    refine List.Perm.trans ?_ (ih.append_left _)
    refine List.Perm.trans ?_ ((List.perm_append_comm_assoc _ _ _))
    refine List.Perm.trans ?_ (p1.append_left _)
    rw [List.append_assoc]
    exact List.perm_append_comm_assoc _ _ _

def pkB (k : Nat) : Nat → List Bool → Nat
  | _, [] => 0
  | h, b :: bs => (if b = true ∧ h < k then 1 else 0) + pkB k (stepB (k : Int) h b).2 bs
theorem come_pick {c : Int} {h : Nat} {lo : Int} {fr : List Int} {k : Nat} {l : List Int} (hl : ∀ x ∈ l, lo + 1 ≤ x) : (l.foldl (meetW c) ⟨h + 1, lo, fr, k⟩).picked = (l.foldl (meetW c) ⟨h, lo + 1, fr ++ [lo], k⟩).picked := by
  cases l with
  | nil => rfl
  | cons p l =>
    have hp := hl p List.mem_cons_self
    have e : meetW c ⟨h + 1, lo, fr, k⟩ p = meetW c ⟨h, lo + 1, fr ++ [lo], k⟩ p := by
      have m : comeM ⟨h + 1, lo, fr, k⟩ p = comeM ⟨h, lo + 1, fr ++ [lo], k⟩ p + 1 := by
        unfold comeM
        dsimp only
        omega
      have c1 : (comeW ⟨h + 1, lo, fr, k⟩ p).load = (comeW ⟨h, lo + 1, fr ++ [lo], k⟩ p).load := by
        unfold comeW
        rw [m]
        dsimp only
        omega
      have c2 : (comeW ⟨h + 1, lo, fr, k⟩ p).fresh = (comeW ⟨h, lo + 1, fr ++ [lo], k⟩ p).fresh := by
        unfold comeW
        rw [m]
        dsimp only
        rw [laid_succ, List.append_assoc]
        rfl
      unfold meetW
      rw [c1, c2]
    rw [List.foldl_cons, List.foldl_cons, e]
theorem come_zero {s : Wk} {p : Int} (h : s.next = p ∨ s.load = 0) : comeW s p = s := by
  have e : comeM s p = 0 := by
    unfold comeM
    rcases h with h | h <;> omega
  unfold comeW
  rw [e, laid_zero, List.append_nil]
  rfl
theorem bits_pick {k : Nat} : ∀ (bs : List Bool) (lo : Int) (s : Wk), (s.next = lo ∨ s.load = 0) → ((rowOf lo bs).foldl (meetW (k : Int)) s).picked = s.picked + pkB k s.load bs
  | [], lo, s, _ => rfl
  | true :: bs, lo, s, h => by
    show ((rowOf (lo + 1) bs).foldl (meetW (k : Int)) (meetW (k : Int) s lo)).picked = s.picked + ((if true = true ∧ s.load < k then 1 else 0) + pkB k (stepB (k : Int) s.load true).2 bs)
    have cz := come_zero h
    by_cases q : (s.load : Int) < (k : Int)
    · have m : meetW (k : Int) s lo = ⟨s.load + 1, lo + 1, s.fresh, s.picked + 1⟩ := by
        unfold meetW
        rw [cz, if_pos q]
      have sb : stepB (k : Int) s.load true = (false, s.load + 1) := by unfold stepB; dsimp only; rw [if_pos q]
      rw [m, sb, bits_pick bs (lo + 1) _ (.inl rfl), if_pos ⟨rfl, by omega⟩]
      show s.picked + 1 + pkB k (s.load + 1) bs = _
      dsimp only
      omega
    · have m : meetW (k : Int) s lo = ⟨s.load, lo + 1, s.fresh ++ [lo], s.picked⟩ := by
        unfold meetW
        rw [cz, if_neg q]
      have sb : stepB (k : Int) s.load true = (true, s.load) := by unfold stepB; dsimp only; rw [if_neg q]
      rw [m, sb, bits_pick bs (lo + 1) _ (.inl rfl), if_neg fun z => q (by omega)]
      show s.picked + pkB k s.load bs = _
      dsimp only
      omega
  | false :: bs, lo, s, h => by
    show ((rowOf (lo + 1) bs).foldl (meetW (k : Int)) s).picked = s.picked + ((if false = true ∧ s.load < k then 1 else 0) + pkB k (stepB (k : Int) s.load false).2 bs)
    rw [if_neg fun z => by cases z.1]
    obtain ⟨ld, nx, fr, pk⟩ := s
    dsimp only at h ⊢
    cases ld with
    | zero =>
      have sb : stepB (k : Int) 0 false = (false, 0) := by simp [stepB]
      rw [sb, bits_pick bs (lo + 1) _ (.inr rfl)]
      show pk + pkB k 0 bs = _
      dsimp only
      omega
    | succ ld =>
      have h' : nx = lo := by
        rcases h with h | h
        · exact h
        · cases h
      subst h'
      have sb : stepB (k : Int) (ld + 1) false = (true, ld) := by simp [stepB]
      rw [sb, come_pick fun x hx => (rowOf_mem hx).1, bits_pick bs (nx + 1) ⟨ld, nx + 1, fr ++ [nx], pk⟩ (.inl rfl)]
      show pk + pkB k ld bs = _
      dsimp only
      omega
def mnK (k n : Nat) : Nat := if n < k then n else k
theorem ldK_in (k : Nat) : ∀ {S : List Run}, OkU S → 0 ≤ ldF (mnK k) S ∧ ldF (mnK k) S ≤ k ∧ ∀ t, S.head? = some t → (t.1 = true → (mnK k t.2.length : Int) ≤ ldF (mnK k) S ∧ (t.2.length < k → ldF (mnK k) S < k)) ∧ (t.1 = false → ldF (mnK k) S + mnK k t.2.length ≤ k ∧ (t.2.length < k → 0 < ldF (mnK k) S))
  | [], _ => ⟨Int.le_refl _, by show (0 : Int) ≤ k; omega, fun t h => nomatch h⟩
  | [t], h => by
    have e : ldF (mnK k) [t] = mnK k t.2.length := by
      rw [ldF_full _ _ _ h.1]
      show (mnK k t.2.length : Int) + 0 = _
      omega
    have u : mnK k t.2.length = if t.2.length < k then t.2.length else k := rfl
    rw [e]
    refine ⟨by omega, by split at u <;> omega, fun v hv => ?_⟩
    cases hv
    exact ⟨fun _ => ⟨Int.le_refl _, fun q => by rw [if_pos q] at u; omega⟩, fun z => by rw [h.1] at z; cases z⟩
  | t :: u :: S, h => by
    have l := h.ne
    obtain ⟨i1, i2, i3⟩ := ldK_in k h.2.2.2
    have kk := h.2.2.1
    have a := h.2.1
    obtain ⟨i4, i5⟩ := i3 u rfl
    have m1 : mnK k t.2.length = if t.2.length < k then t.2.length else k := rfl
    have m2 : mnK k u.2.length = if u.2.length < k then u.2.length else k := rfl
    cases q : u.1 with
    | true =>
      have tf : t.1 = false := by rw [a, q]; rfl
      rw [ldF_empty _ t _ tf]
      obtain ⟨i6, i7⟩ := i4 q
      refine ⟨by split at m1 <;> split at m2 <;> omega, by omega, fun v hv => ?_⟩
      cases hv
      exact ⟨fun z => by rw [tf] at z; (cases z), fun _ => ⟨by omega, fun w => by split at m1 <;> split at m2 <;> omega⟩⟩
    | false =>
      have tf : t.1 = true := by rw [a, q]; rfl
      rw [ldF_full _ t _ tf]
      obtain ⟨i6, i7⟩ := i5 q
      refine ⟨by omega, by split at m1 <;> split at m2 <;> omega, fun v hv => ?_⟩
      cases hv
      exact ⟨fun _ => ⟨by omega, fun w => by split at m1 <;> split at m2 <;> omega⟩, fun z => by rw [tf] at z; (cases z)⟩
/-- what the full runs of the stack count -/
def fuK (k : Nat) : List Run → Nat
  | [] => 0
  | t :: S => (if t.1 then mnK k t.2.length else 0) + fuK k S
def shE (k : Nat) (L : List (List Int × List Int)) : Nat := (L.map fun t => mnK k t.1.length).sum
theorem shE_app (k : Nat) (a b : List (List Int × List Int)) : shE k (a ++ b) = shE k a + shE k b := by unfold shE; rw [List.map_append, List.sum_append]
theorem shut_fuK (k : Nat) {t : Run} {S : List Run} (h : ∀ u, S.head? = some u → t.1 = !u.1) : shE k (shutU (t :: S)).2 + fuK k (shutU (t :: S)).1 = fuK k (t :: S) := by
  cases S with
  | nil => exact Nat.zero_add _
  | cons u S =>
    have a := h u rfl
    rw [shut_two]
    split
    · rename_i c
      show (mnK k (pairU u t).1.length + 0) + fuK k S = (if t.1 then mnK k t.2.length else 0) + ((if u.1 then mnK k u.2.length else 0) + fuK k S)
      unfold pairU
      cases q : u.1
      · rw [q] at a
        rw [a]
        simp
      · rw [q] at a
        rw [a]
        simp
    · exact Nat.zero_add _
theorem put_fuK (k : Nat) {S : List Run} (hS : OkU S) (b : Bool) (p : Int) : shE k (putU S (b, p)).2 + fuK k (putU S (b, p)).1 = fuK k (preU S (b, p)) := by
  rw [put_pre]
  cases S with
  | nil =>
    cases b <;> exact Nat.zero_add _
  | cons t S =>
    unfold preU
    dsimp only
    by_cases c : t.1 = b
    · rw [if_pos c]
      refine shut_fuK k fun u hu => ?_
      cases S with
      | nil => cases hu
      | cons v S => cases hu; exact hS.2.1
    · rw [if_neg c]
      refine shut_fuK k fun u hu => ?_
      cases hu
      show b = !t.1
      cases q : t.1 <;> cases b <;> simp_all
theorem step_fuK (k : Nat) {S : List Run} (hS : OkU S) (b : Bool) (p : Int) (h : Nat) (hh : (h : Int) = ldF (mnK k) S) : (((stepB (k : Int) h b).2 : Nat) : Int) = ldF (mnK k) (putU S (b, p)).1 ∧ shE k (putU S (b, p)).2 + fuK k (putU S (b, p)).1 = fuK k S + if b = true ∧ h < k then 1 else 0 := by
  rw [(putU_ok hS (b, p) (mnK k)).2, put_fuK k hS]
  obtain ⟨i1, i2, i3⟩ := ldK_in k hS
  rw [← hh] at i1 i2 i3
  have st : stepB (k : Int) h true = if (h : Int) < k then (false, h + 1) else (true, h) := rfl
  have sf : stepB (k : Int) h false = if 0 < h then (true, h - 1) else (false, 0) := rfl
  have k1 : mnK k 1 = if 1 < k then 1 else k := rfl
  have nf : ¬ (false = true ∧ h < k) := fun z => by cases z.1
  cases S with
  | nil =>
    have h0 : h = 0 := by
      have : ldF (mnK k) [] = 0 := rfl
      omega
    subst h0
    cases b with
    | true =>
      show _ = (mnK k 1 : Int) + 0 ∧ mnK k 1 + 0 = 0 + _
      rw [st]
      by_cases q : 0 < k
      · rw [if_pos (by omega), if_pos ⟨rfl, q⟩]
        split at k1 <;> (constructor <;> omega)
      · rw [if_neg (by omega), if_neg fun z => q z.2]
        split at k1 <;> (constructor <;> omega)
    | false =>
      rw [sf, if_neg (by omega), if_neg nf]
      exact ⟨rfl, rfl⟩
  | cons t S =>
    have lt := hS.ne
    obtain ⟨i4, i5⟩ := i3 t rfl
    have m1 : mnK k t.2.length = if t.2.length < k then t.2.length else k := rfl
    have m2 : mnK k (t.2.length + 1) = if t.2.length + 1 < k then t.2.length + 1 else k := rfl
    have ln : (t.2 ++ [p]).length = t.2.length + 1 := by simp
    unfold preU
    dsimp only
    cases q : t.1 with
    | true =>
      obtain ⟨j1, j2⟩ := i4 q
      rw [ldF_full _ t _ q] at hh
      have f0 : fuK k (t :: S) = mnK k t.2.length + fuK k S := by show (if t.1 then _ else _) + _ = _; rw [if_pos q]
      rw [f0]
      cases b with
      | true =>
        rw [if_pos rfl, ldF_full _ (true, t.2 ++ [p]) _ rfl, st]
        show _ = (mnK k (t.2 ++ [p]).length : Int) + _ ∧ mnK k (t.2 ++ [p]).length + fuK k S = _
        rw [ln]
        by_cases z : t.2.length < k
        · have := j2 z
          rw [if_pos this, if_pos ⟨rfl, by omega⟩]
          rw [if_pos z] at m1
          split at m2 <;> (constructor <;> omega)
        · rw [if_neg z] at m1
          rw [if_neg (by omega), if_neg fun w => by omega]
          rw [if_neg (by omega)] at m2
          constructor <;> omega
      | false =>
        rw [if_neg (by decide), ldF_empty _ (false, [p]) _ rfl, ldF_full _ t _ q, sf, if_neg nf]
        show _ = -(mnK k 1 : Int) + _ ∧ 0 + fuK k (t :: S) = _
        rw [f0]
        by_cases z : 0 < k
        · have : 1 ≤ mnK k t.2.length := by split at m1 <;> omega
          rw [if_pos (by omega)]
          split at k1 <;> (constructor <;> omega)
        · rw [if_neg (by omega)]
          have : mnK k 1 = 0 := by split at k1 <;> omega
          constructor <;> omega
    | false =>
      obtain ⟨j1, j2⟩ := i5 q
      rw [ldF_empty _ t _ q] at hh
      have f0 : fuK k (t :: S) = fuK k S := by show (if t.1 then _ else _) + _ = _; rw [q]; exact Nat.zero_add _
      rw [f0]
      cases b with
      | true =>
        rw [if_neg (by decide), ldF_full _ (true, [p]) _ rfl, ldF_empty _ t _ q, st]
        show _ = (mnK k 1 : Int) + _ ∧ mnK k 1 + fuK k (t :: S) = _
        rw [f0]
        by_cases z : 0 < k
        · have : 1 ≤ mnK k t.2.length := by split at m1 <;> omega
          rw [if_pos (by omega), if_pos ⟨rfl, by omega⟩]
          split at k1 <;> (constructor <;> omega)
        · rw [if_neg (by omega), if_neg fun w => by omega]
          have : mnK k 1 = 0 := by split at k1 <;> omega
          constructor <;> omega
      | false =>
        rw [if_pos rfl, ldF_empty _ (false, t.2 ++ [p]) _ rfl, sf, if_neg nf]
        show _ = -(mnK k (t.2 ++ [p]).length : Int) + _ ∧ 0 + fuK k S = _
        rw [ln]
        by_cases z : t.2.length < k
        · have := j2 z
          rw [if_pos (by omega)]
          rw [if_pos z] at m1
          split at m2 <;> (constructor <;> omega)
        · rw [if_neg z] at m1
          rw [if_neg (by omega)]
          rw [if_neg (by omega)] at m2
          constructor <;> omega
theorem bits_fuK (k : Nat) : ∀ (bs : List Bool) (lo : Int) (S : List Run) (h : Nat), OkU S → (h : Int) = ldF (mnK k) S → shE k (emU S (sitB lo bs)) + fuK k (stU S (sitB lo bs)) = fuK k S + pkB k h bs
  | [], lo, S, h, _, _ => by
    show 0 + fuK k S = fuK k S + 0
    omega
  | b :: bs, lo, S, h, hS, hh => by
    obtain ⟨e1, e2⟩ := step_fuK k hS b lo h hh
    have ih := bits_fuK k bs (lo + 1) _ _ (putU_ok hS (b, lo) id).1 e1
    show shE k ((putU S (b, lo)).2 ++ emU (putU S (b, lo)).1 (sitB (lo + 1) bs)) + fuK k (stU (putU S (b, lo)).1 (sitB (lo + 1) bs)) = fuK k S + ((if b = true ∧ h < k then 1 else 0) + pkB k (stepB (k : Int) h b).2 bs)
    rw [shE_app]
    omega
/-- what a creel takes up is the sum over the trains -/
theorem pick_trains (k : Nat) (lo : Int) (bs : List Bool) (h : stU [] (sitB lo bs) = []) : (goW (k : Int) (rowOf lo bs)).picked = shE k (emU [] (sitB lo bs)) := by
  have a := bits_fuK k bs lo [] 0 trivial rfl
  rw [h] at a
  unfold goW
  rw [bits_pick bs lo wk0 (.inr rfl)]
  show 0 + pkB k 0 bs = _
  have e : fuK k [] = 0 := rfl
  rw [e] at a
  omega

theorem out_false (c : Int) : ∀ n : Nat, outB c 0 (List.replicate n false) = List.replicate n false
  | 0 => rfl
  | n + 1 => by
    rw [List.replicate_succ]
    show (stepB c 0 false).1 :: outB c (stepB c 0 false).2 _ = _
    have : stepB c 0 false = (false, 0) := by simp [stepB]
    rw [this, out_false c n]
/-- the trains by the niches -/
def trsU (r : List Int) (H : List (List Int × List Int)) : Prop := ∀ (lo : Int) (bs : List Bool) (n : Nat), rowOf lo bs = r → r.length ≤ n → H = emU [] (sitB lo (bs ++ List.replicate n false)) ∧ stU [] (sitB lo (bs ++ List.replicate n false)) = []
theorem heads_em (r : List Int) (hr : Rising r) (hl : r.length ≤ 60) : ∃ H : List (List Int × List Int), f_heads [.lst (r.map D.int)] = .ok (.lst ((headsZ H).map pairD)) ∧ H.length ≤ 60 ∧ (∀ t ∈ H, TakeOk 60 t) ∧ trsU r H := by
  have lr := look_row_ok r hr hl
  obtain ⟨P, H, hP, eP, bP, hH1, hH2, hT⟩ : ∃ (P : List Run) (H : List (List Int × List Int)), (∀ x, gIf (gTest (gBin dEq (gVar 0) (VL.gLst VL.gNil))) (VL.gLst VL.gNil) (gCall f_road_of (VL.gCons (gVar 0) VL.gNil)) (some (.lst (r.map D.int)) :: x) = .ok (.lst (P.map runD))) ∧ hds 60 P = some H ∧ (P.length ≤ 200 ∧ tpl P ≤ 9000) ∧ H.length ≤ 60 ∧ (∀ t ∈ H, TakeOk 60 t) ∧ trsU r H := by
    by_cases n : r = []
    · subst n
      have eq0 : dEq (.lst []) (.lst []) = .ok (.bl true) := eq_ints [] [] (by decide) (by decide)
      refine ⟨[], [], fun x => by simp [eq0], by unfold hds; rw [if_pos rfl], ⟨by decide, by decide⟩, by decide, (fun t ht => nomatch ht), fun lo bs n e _ => ?_⟩
      obtain ⟨m, _, e2⟩ := bits_seq n bs lo
      rw [e2, e]
      obtain ⟨g1, g2⟩ := gap_nil (lo - 1) m
      exact ⟨g2.symm, g1⟩
    · obtain ⟨rs, x, hx⟩ : ∃ rs x, runs r = rs ++ [x] := by
        rcases List.eq_nil_or_concat (runs r) with w | ⟨rs, x, w⟩
        · exact absurd (runs_nil.mp w) n
        · exact ⟨rs, x, by rw [w, List.concat_eq_append]⟩
      have a := road_of_ok r hl rs x hx
      obtain ⟨er, h⟩ := runs_row r
      have rl := runs_len r
      have bd1 := roadZ_bd ((r.length : Int) + 2) (by omega) (runs r) none h
      rw [er] at bd1
      obtain ⟨g, s⟩ := whole_good r hr n x.2 ((r.length : Int) + 2) (by omega) r.length (Nat.le_refl _)
      obtain ⟨H, eH, h1, h2⟩ := hds_some 60 g (by omega)
      have q1 : (laid (x.2 + 1) r.length).length = r.length := laid_len _ _
      refine ⟨_, H, fun y => ?_, eH, ⟨?_, ?_⟩, by omega, fun t ht => ?_, fun lo bs m e hm => ?_⟩
      · have eq0 := eq_ints r [] (by omega) (by decide)
        have eq0' : dEq (.lst (r.map D.int)) (.lst []) = .ok (.bl false) := by
          have : decide (r = []) = false := decide_eq_false n
          rw [← this]
          exact eq0
        generalize (wholeR ((r.length : Int) + 2) r.length (runs r) x.2).map runD = w at *
        generalize r.map D.int = rl2 at *
        simp [eq0', a]
      · unfold wholeR
        rw [List.length_append, List.length_singleton]
        omega
      · unfold wholeR
        rw [tpl_app, tpl_cons, q1]
        show _ + (_ + 0) ≤ _
        omega
      · obtain ⟨t1, t2⟩ := h2 t ht
        exact ⟨t1, by omega⟩
      · have hz : (runs r).getLast? = some x := by rw [hx, List.getLast?_concat]
        obtain ⟨b1, b2⟩ := heads_bits n er h hz lo bs e m hm
        have b3 := (hds_stack 60 g.alt eH).2
        exact ⟨b3.symm.trans b1, b2⟩
  have s1 := sort_tri H hH2 triD (fun t h => (pl_tri h).1) (fun t => rfl) (fun a b => (alike_tri a b).1) (fun a b => rfl)
  have sz2 : (2 : Nat) ≤ szL := le_szL (by decide)
  obtain ⟨y3, y4, y5, y6, lp⟩ := heads_loop (some (.lst (r.map D.int))) 60 WB P H [] none none none none none none eP (by rw [WB_eq]; omega) bP.1 bP.2 (by simp)
  rw [List.nil_append] at lp
  have lp' : whileL (gTest (gBin dNe (gVar 2) (VL.gLst VL.gNil))) b_heads_1 WB [some (.lst (r.map D.int)), some (.lst []), some (.lst (P.map runD)), none, none, none, none, none, none] = _ := lp
  have cp : gComp (gIter (gUn dSortD (gVar 1))) (.tup [5, 7, 8]) [5, 7, 8] gYes (VL.gTup (VL.gCons (gVar 7) (VL.gCons (gVar 8) VL.gNil))) [some (.lst (r.map D.int)), some (.lst (H.map triD)), some (.lst []), y3, y4, y5, y6, none, none] = .ok (.lst ((headsZ H).map pairD)) := by
    refine gComp_map (l := headsZ H) (F := triD) (G := pairD) ?_ fun t _ => by simp [gTurn, triD, pairD, sz2]
    generalize (headsZ H).map triD = zz at *
    generalize H.map triD = hh at *
    simp [s1]
  have hP' := hP [some (.lst []), none, none, none, none, none, none, none]
  refine ⟨H, ?_, hH1, hH2, hT⟩
  generalize (headsZ H).map pairD = zz at *
  generalize H.map triD = hh at *
  generalize P.map runD = pp at *
  generalize r.map D.int = rr at *
  unfold f_heads runF m_heads
  show outF (mSeq _ _ [some (.lst rr), none, none, none, none, none, none, none, none]) = _
  rw [seq_nx (r' := [some (.lst rr), none, none, none, none, none, none, none, none]) (by simp [lr]),
    seq_nx (r' := [some (.lst rr), some (.lst []), none, none, none, none, none, none, none]) (by simp),
    seq_nx (r' := [some (.lst rr), some (.lst []), some (.lst pp), none, none, none, none, none, none]) (by unfold mSet; rw [hP']; rfl), seq_nx lp']
  simp [cp]
theorem rowOf_app : ∀ (as bs : List Bool) (lo : Int), rowOf lo (as ++ bs) = rowOf lo as ++ rowOf (lo + as.length) bs
  | [], bs, lo => by simp [rowOf]
  | a :: as, bs, lo => by
    have ih := rowOf_app as bs (lo + 1)
    have e : lo + 1 + (as.length : Int) = lo + ((a :: as).length : Int) := by simp; omega
    rw [e] at ih
    cases a with
    | true =>
      show lo :: rowOf (lo + 1) (as ++ bs) = lo :: rowOf (lo + 1) as ++ _
      rw [ih, List.cons_append]
    | false => exact ih
theorem rowOf_false : ∀ (n : Nat) (lo : Int), rowOf lo (List.replicate n false) = []
  | 0, _ => rfl
  | n + 1, lo => rowOf_false n (lo + 1)
def endB (c : Int) : Nat → List Bool → Nat
  | h, [] => h
  | h, b :: bs => endB c (stepB c h b).2 bs
theorem endB_app (c : Int) : ∀ (as bs : List Bool) (h : Nat), endB c h (as ++ bs) = endB c (endB c h as) bs
  | [], _, _ => rfl
  | a :: as, bs, h => by rw [List.cons_append, endB, endB_app c as bs, endB]
def bitsOf (r : List Int) : Int → Nat → List Bool
  | _, 0 => []
  | lo, n + 1 => decide (lo ∈ r) :: bitsOf r (lo + 1) n
theorem bitsOf_drop (x : Int) (r : List Int) : ∀ (n : Nat) (lo : Int), x < lo → bitsOf (x :: r) lo n = bitsOf r lo n
  | 0, _, _ => rfl
  | n + 1, lo, h => by
    have e : decide (lo ∈ x :: r) = decide (lo ∈ r) := by
      rw [decide_eq_decide, List.mem_cons]
      constructor
      · rintro (z | z)
        · omega
        · exact z
      · exact .inr
    rw [bitsOf, bitsOf, e, bitsOf_drop x r n (lo + 1) (by omega)]
theorem rowOf_bits : ∀ (n : Nat) (lo : Int) (r : List Int), Rising r → (∀ x ∈ r, lo ≤ x ∧ x < lo + n) → rowOf lo (bitsOf r lo n) = r
  | 0, lo, r, _, h => by
    cases r with
    | nil => rfl
    | cons x r =>
      have := h x List.mem_cons_self
      omega
  | n + 1, lo, r, hr, h => by
    rw [bitsOf]
    by_cases m : lo ∈ r
    · rw [decide_eq_true m]
      show lo :: rowOf (lo + 1) (bitsOf r (lo + 1) n) = r
      cases r with
      | nil => cases m
      | cons x t =>
        obtain ⟨p1, p2⟩ := List.pairwise_cons.mp hr
        have e : x = lo := by
          rcases List.mem_cons.mp m with z | z
          · exact z.symm
          · have a := p1 lo z
            have b := (h x List.mem_cons_self).1
            omega
        subst e
        rw [bitsOf_drop x t n (x + 1) (by omega), rowOf_bits n (x + 1) t p2 fun y hy => by
          have a := p1 y hy
          have b := h y (List.mem_cons_of_mem _ hy)
          omega]
    · rw [decide_eq_false m]
      show rowOf (lo + 1) (bitsOf r (lo + 1) n) = r
      exact rowOf_bits n (lo + 1) r hr fun y hy => by
        have b := h y hy
        have : y ≠ lo := fun z => m (z ▸ hy)
        omega
theorem endB_le {c : Int} : ∀ (bs : List Bool) (lo : Int) (h : Nat), endB c h bs ≤ h + (rowOf lo bs).length
  | [], _, _ => Nat.le_refl _
  | true :: bs, lo, h => by
    have e : (stepB c h true).2 ≤ h + 1 := by
      unfold stepB
      dsimp only
      split <;> dsimp only <;> omega
    have := endB_le (c := c) bs (lo + 1) (stepB c h true).2
    show endB c (stepB c h true).2 bs ≤ h + ((rowOf (lo + 1) bs).length + 1)
    omega
  | false :: bs, lo, h => by
    have e : (stepB c h false).2 ≤ h := by
      unfold stepB
      dsimp only
      split <;> dsimp only <;> omega
    have := endB_le (c := c) bs (lo + 1) (stepB c h false).2
    show endB c (stepB c h false).2 bs ≤ h + (rowOf (lo + 1) bs).length
    omega
theorem endB_false {c : Int} : ∀ (n h : Nat), endB c h (List.replicate n false) = h - n
  | 0, h => rfl
  | n + 1, h => by
    rw [List.replicate_succ, endB, endB_false n]
    unfold stepB
    dsimp only
    split <;> dsimp only <;> omega
/-- a row as bits, with room behind -/
theorem row_bits (r : List Int) (hr : Rising r) : ∃ (lo : Int) (bs : List Bool), rowOf lo bs = r ∧ ∀ c : Int, endB c 0 bs = 0 := by
  obtain ⟨lo, n, h⟩ : ∃ (lo : Int) (n : Nat), ∀ x ∈ r, lo ≤ x ∧ x < lo + n := by
    clear hr
    induction r with
    | nil => exact ⟨0, 0, fun x hx => nomatch hx⟩
    | cons y r ih =>
      obtain ⟨lo, n, h⟩ := ih
      refine ⟨min lo y, (max (lo + n) (y + 1) - min lo y).toNat, fun x hx => ?_⟩
      rcases List.mem_cons.mp hx with e | z
      · subst e
        omega
      · have := h x z
        omega
  refine ⟨lo, bitsOf r lo n ++ List.replicate r.length false, ?_, fun c => ?_⟩
  · rw [rowOf_app, rowOf_false, List.append_nil, rowOf_bits n lo r hr h]
  · rw [endB_app, endB_false]
    have := endB_le (c := c) (bitsOf r lo n) lo 0
    rw [rowOf_bits n lo r hr h] at this
    omega
theorem trs_full {r : List Int} (hr : Rising r) {H : List (List Int × List Int)} (h : trsU r H) : ((H.map (·.1)).flatten).Perm r := by
  obtain ⟨lo, bs, e, _⟩ := row_bits r hr
  obtain ⟨e1, e2⟩ := h lo bs r.length e (Nat.le_refl _)
  have a := bits_full (bs ++ List.replicate r.length false) lo [] trivial
  rw [e2, ← e1, rowOf_app, rowOf_false, e] at a
  have z : fulU [] = [] := rfl
  rw [z, List.append_nil, List.append_nil, List.append_nil] at a
  exact a.symm
theorem outB_app (c : Int) : ∀ (as bs : List Bool) (h : Nat), outB c h (as ++ bs) = outB c h as ++ outB c (endB c h as) bs
  | [], _, _ => rfl
  | a :: as, bs, h => by
    rw [List.cons_append, outB, outB_app c as bs, outB, endB, List.cons_append]
/-- an empty niche while the creel holds something -/
theorem come_step {c : Int} {h : Nat} {lo : Int} {fr : List Int} {k : Nat} {l : List Int} (hl : ∀ x ∈ l, lo + 1 ≤ x) : endW (l.foldl (meetW c) ⟨h + 1, lo, fr, k⟩) = endW (l.foldl (meetW c) ⟨h, lo + 1, fr ++ [lo], k⟩) := by
  cases l with
  | nil =>
    show fr ++ laid lo (h + 1) = fr ++ [lo] ++ laid (lo + 1) h
    rw [laid_succ, List.append_assoc]
    rfl
  | cons p l =>
    have hp := hl p List.mem_cons_self
    have e : meetW c ⟨h + 1, lo, fr, k⟩ p = meetW c ⟨h, lo + 1, fr ++ [lo], k⟩ p := by
      have m : comeM ⟨h + 1, lo, fr, k⟩ p = comeM ⟨h, lo + 1, fr ++ [lo], k⟩ p + 1 := by
        unfold comeM
        dsimp only
        omega
      have c1 : (comeW ⟨h + 1, lo, fr, k⟩ p).load = (comeW ⟨h, lo + 1, fr ++ [lo], k⟩ p).load := by
        unfold comeW
        rw [m]
        dsimp only
        omega
      have c2 : (comeW ⟨h + 1, lo, fr, k⟩ p).fresh = (comeW ⟨h, lo + 1, fr ++ [lo], k⟩ p).fresh := by
        unfold comeW
        rw [m]
        dsimp only
        rw [laid_succ, List.append_assoc]
        rfl
      unfold meetW
      rw [c1, c2]
    rw [List.foldl_cons, List.foldl_cons, e]
/-- the walk over the stones, niche by niche -/
theorem walk_bits {c : Int} : ∀ (bs : List Bool) (lo : Int) (s : Wk), (s.next = lo ∨ s.load = 0) → endB c s.load bs = 0 → endW ((rowOf lo bs).foldl (meetW c) s) = s.fresh ++ rowOf lo (outB c s.load bs)
  | [], lo, s, h, e => by
    have e' : s.load = 0 := e
    show s.fresh ++ laid s.next s.load = s.fresh ++ []
    rw [e', laid_zero]
  | true :: bs, lo, s, h, e => by
    show endW ((rowOf (lo + 1) bs).foldl (meetW c) (meetW c s lo)) = _
    have cz := come_zero h
    by_cases q : (s.load : Int) < c
    · have m : meetW c s lo = ⟨s.load + 1, lo + 1, s.fresh, s.picked + 1⟩ := by
        unfold meetW
        rw [cz, if_pos q]
      have sb : stepB c s.load true = (false, s.load + 1) := by simp [stepB, q]
      rw [endB, sb] at e
      rw [m, walk_bits bs (lo + 1) _ (.inl rfl) e, outB, sb]
      rfl
    · have m : meetW c s lo = ⟨s.load, lo + 1, s.fresh ++ [lo], s.picked⟩ := by
        unfold meetW
        rw [cz, if_neg q]
      have sb : stepB c s.load true = (true, s.load) := by simp [stepB, q]
      rw [endB, sb] at e
      rw [m, walk_bits bs (lo + 1) ⟨s.load, lo + 1, s.fresh ++ [lo], s.picked⟩ (.inl rfl) e, outB, sb]
      show s.fresh ++ [lo] ++ _ = s.fresh ++ (lo :: _)
      rw [List.append_assoc]
      rfl
  | false :: bs, lo, s, h, e => by
    show endW ((rowOf (lo + 1) bs).foldl (meetW c) s) = _
    obtain ⟨ld, nx, fr, pk⟩ := s
    dsimp only at h e ⊢
    cases ld with
    | zero =>
      have sb : stepB c 0 false = (false, 0) := by simp [stepB]
      rw [endB, sb] at e
      rw [walk_bits bs (lo + 1) _ (.inr rfl) e, outB, sb]
      rfl
    | succ ld =>
      have h' : nx = lo := by
        rcases h with h | h
        · exact h
        · cases h
      subst h'
      have sb : stepB c (ld + 1) false = (true, ld) := by simp [stepB]
      rw [endB, sb] at e
      rw [come_step fun x hx => (rowOf_mem hx).1, walk_bits bs (nx + 1) ⟨ld, nx + 1, fr ++ [nx], pk⟩ (.inl rfl) e, outB, sb]
      show fr ++ [nx] ++ _ = fr ++ (nx :: _)
      rw [List.append_assoc]
      rfl
theorem walkR_bits {c : Int} {bs : List Bool} {lo : Int} (e : endB c 0 bs = 0) : walkR c (rowOf lo bs) = rowOf lo (outB c 0 bs) := by
  have := walk_bits (c := c) bs lo wk0 (.inr rfl) e
  unfold walkR goW
  rw [this]
  rfl
theorem bits_count {c : Int} : ∀ (bs : List Bool) (lo lo' : Int) (h : Nat), (rowOf lo' (outB c h bs)).length + endB c h bs = h + (rowOf lo bs).length
  | [], _, _, h => by simp [rowOf, outB, endB]
  | true :: bs, lo, lo', h => by
    have ih := bits_count (c := c) bs (lo + 1) (lo' + 1) (stepB c h true).2
    rw [outB, endB]
    by_cases q : (h : Int) < c
    · simp [stepB, q, rowOf] at ih ⊢
      omega
    · simp [stepB, q, rowOf] at ih ⊢
      omega
  | false :: bs, lo, lo', h => by
    have ih := bits_count (c := c) bs (lo + 1) (lo' + 1) (stepB c h false).2
    rw [outB, endB]
    by_cases q : 0 < h
    · simp [stepB, q, rowOf] at ih ⊢
      omega
    · simp [stepB, q, rowOf] at ih ⊢
      omega
theorem walkR_len {c : Int} {r : List Int} (hr : Rising r) : (walkR c r).length = r.length := by
  obtain ⟨lo, bs, e, h⟩ := row_bits r hr
  have := bits_count (c := c) bs lo lo 0
  rw [h c] at this
  rw [← e, walkR_bits (h c)]
  omega
/-- the tails are the heads behind a walk with a great creel -/
theorem trs_walk {r : List Int} (hr : Rising r) {c : Int} (hc : (r.length : Int) ≤ c) {H H' : List (List Int × List Int)} (h : trsU r H) (h' : trsU (walkR c r) H') : (H.map (·.2)).Perm (H'.map (·.1)) := by
  obtain ⟨lo, bs, e, eb⟩ := row_bits r hr
  obtain ⟨e1, e2⟩ := h lo bs r.length e (Nat.le_refl _)
  have wl := walkR_len (c := c) hr
  have wr : rowOf lo (outB c 0 bs) = walkR c r := by rw [← walkR_bits (eb c), e]
  obtain ⟨f1, f2⟩ := h' lo (outB c 0 bs) r.length wr (by omega)
  have ob : outB c 0 (bs ++ List.replicate r.length false) = outB c 0 bs ++ List.replicate r.length false := by rw [outB_app, eb c, out_false]
  obtain ⟨V, r1, p1⟩ := rel_bits (c := c) (bs ++ List.replicate r.length false) lo [] [] [] 0 ⟨trivial, trivial, .inl ⟨rfl, rfl⟩⟩ rfl (by
    rw [rowOf_app, rowOf_false, e, List.append_nil]
    simpa using hc)
  rw [ob, e2, f2] at r1
  rw [ob, ← e1, ← f1] at p1
  have hV : V = [] := by
    rcases r1.2.2 with ⟨_, q⟩ | ⟨C, w, q, _⟩
    · exact q.symm
    · simp at q
  subst hV
  simpa [pend] using p1
def more (l : List Int) (k : Nat) : Nat := (l.filter fun s => decide ((k : Int) < s)).length
theorem shE_more (k : Nat) : ∀ L : List (List Int × List Int), shE (k + 1) L = shE k L + more (L.map fun t => (t.1.length : Int)) k
  | [] => rfl
  | t :: L => by
    have ih := shE_more k L
    have e1 : shE (k + 1) (t :: L) = mnK (k + 1) t.1.length + shE (k + 1) L := by unfold shE; rw [List.map_cons, List.sum_cons]
    have e2 : shE k (t :: L) = mnK k t.1.length + shE k L := by unfold shE; rw [List.map_cons, List.sum_cons]
    have e3 : more ((t :: L).map fun t => (t.1.length : Int)) k = (if k < t.1.length then 1 else 0) + more (L.map fun t => (t.1.length : Int)) k := by
      unfold more
      rw [List.map_cons, List.filter_cons]
      by_cases q : k < t.1.length
      · rw [if_pos (by simpa using q), if_pos q, List.length_cons]
        omega
      · rw [if_neg (by simpa using q), if_neg q]
        omega
    have a : mnK (k + 1) t.1.length = if t.1.length < k + 1 then t.1.length else k + 1 := rfl
    have b : mnK k t.1.length = if t.1.length < k then t.1.length else k := rfl
    rw [e1, e2, e3, ih]
    split at a <;> split at b <;> split <;> omega
def pickR (c : Nat) (r : List Int) : Nat := (goW (c : Int) r).picked
def peelS : Int → List (Int × Int) → List Int
  | _, [] => []
  | b, x :: rs => laid (x.1 - b) (x.2 - x.1).toNat ++ peelS (b + 2) rs
def peelR (r : List Int) : List Int := peelS 0 (runs r)
def peelIt : Nat → List Int → List Int
  | 0, r => r
  | k + 1, r => peelIt k (peelR r)
theorem laid_mem {p x : Int} {m : Nat} : x ∈ laid p m ↔ p ≤ x ∧ x < p + m := by
  unfold laid
  rw [List.mem_map]
  constructor
  · rintro ⟨i, hi, rfl⟩
    have := List.mem_range.mp hi
    omega
  · intro h
    exact ⟨(x - p).toNat, List.mem_range.mpr (by omega), by omega⟩
theorem laid_rising (b : Int) : ∀ s : Nat, Rising (laid b s)
  | 0 => List.Pairwise.nil
  | s + 1 => by
    rw [laid_snoc]
    refine List.pairwise_append.mpr ⟨laid_rising b s, List.pairwise_singleton _ _, fun x hx y hy => ?_⟩
    have a := laid_mem.mp hx
    have : y = b + s := by simpa using hy
    omega
theorem peelS_rising : ∀ (rs : List (Int × Int)) (b q : Int), Apart rs → (∀ x ∈ rs, x.1 ≤ x.2 ∧ q ≤ x.1) → Rising (peelS b rs) ∧ ∀ y ∈ peelS b rs, q - b ≤ y
  | [], _, _, _, _ => ⟨List.Pairwise.nil, fun y hy => nomatch hy⟩
  | x :: rs, b, q, h, hq => by
    obtain ⟨p1, p2⟩ := List.pairwise_cons.mp h
    have hx := hq x List.mem_cons_self
    obtain ⟨i1, i2⟩ := peelS_rising rs (b + 2) (x.2 + 2) p2 fun y hy => ⟨(hq y (List.mem_cons_of_mem _ hy)).1, p1 y hy⟩
    refine ⟨List.pairwise_append.mpr ⟨laid_rising _ _, i1, fun u hu v hv => ?_⟩, fun y hy => ?_⟩
    · have := laid_mem.mp hu
      have := i2 v hv
      omega
    · rcases List.mem_append.mp hy with z | z
      · have := laid_mem.mp z
        omega
      · have := i2 y z
        omega
theorem low_of (rs : List (Int × Int)) : ∃ q : Int, ∀ x ∈ rs, q ≤ x.1 := by
  induction rs with
  | nil => exact ⟨0, fun x hx => nomatch hx⟩
  | cons y rs ih =>
    obtain ⟨q, h⟩ := ih
    refine ⟨min q y.1, fun x hx => ?_⟩
    rcases List.mem_cons.mp hx with e | z
    · subst e; omega
    · have := h x z; omega
theorem peelR_rising {r : List Int} (hr : Rising r) : Rising (peelR r) := by
  obtain ⟨q, h⟩ := low_of (runs r)
  exact (peelS_rising (runs r) 0 q (runs_apart hr) fun x hx => ⟨(runs_row r).2 x hx, h x hx⟩).1
def ldA (s : Wk) (p : Int) : Nat := s.load - (p - s.next).toNat
theorem come_ld (s : Wk) (p : Int) : (comeW s p).load = ldA s p := by
  unfold comeW comeM ldA
  dsimp only
  omega
theorem run_meet {c : Nat} : ∀ (n : Nat) (f : Int) (s : Wk), ldA s f ≤ c → 1 ≤ n → ((laid f n).foldl (meetW c) s).load = min (ldA s f + n) c ∧ ((laid f n).foldl (meetW c) s).next = f + n ∧ ((laid f n).foldl (meetW c) s).picked + ldA s f = s.picked + ((laid f n).foldl (meetW c) s).load
  | 0, _, _, _, h => by omega
  | n + 1, f, s, h, _ => by
    have e1 : (meetW c s f).load = min (ldA s f + 1) c ∧ (meetW c s f).next = f + 1 ∧ (meetW c s f).picked + ldA s f = s.picked + (meetW c s f).load := by
      unfold meetW
      rw [come_ld]
      by_cases q : (ldA s f : Int) < c
      · rw [if_pos q]
        dsimp only
        refine ⟨by omega, rfl, by omega⟩
      · rw [if_neg q]
        dsimp only
        refine ⟨by omega, rfl, by omega⟩
    rw [laid_succ, List.foldl_cons]
    obtain ⟨a1, a2, a3⟩ := e1
    cases n with
    | zero =>
      show (meetW c s f).load = _ ∧ (meetW c s f).next = _ ∧ (meetW c s f).picked + _ = _ + (meetW c s f).load
      exact ⟨a1, by rw [a2]; rfl, a3⟩
    | succ n =>
      have l1 : ldA (meetW c s f) (f + 1) = (meetW c s f).load := by
        unfold ldA
        omega
      obtain ⟨b1, b2, b3⟩ := run_meet (c := c) (n + 1) (f + 1) (meetW c s f) (by omega) (by omega)
      rw [l1] at b1 b3
      refine ⟨by omega, by rw [b2]; push_cast; omega, by omega⟩
theorem peel_pick {c : Nat} : ∀ (rs : List (Int × Int)) (b q : Int) (s t : Wk), Apart rs → (∀ x ∈ rs, x.1 ≤ x.2 ∧ q ≤ x.1) → (∀ p, q ≤ p → ldA s p = ldA t (p - b)) → (t.load = 0 ∨ t.next ≤ q - b) → t.load ≤ c →
    ((rowC rs).foldl (meetW ((c + 1 : Nat) : Int)) s).picked + t.picked = ((peelS b rs).foldl (meetW (c : Int)) t).picked + s.picked + rs.length
  | [], b, q, s, t, _, _, _, _, _ => by
    show s.picked + t.picked = t.picked + s.picked + 0
    omega
  | x :: rs, b, q, s, t, h, hq, hl, ht, hc => by
    obtain ⟨p1, p2⟩ := List.pairwise_cons.mp h
    have hx := hq x List.mem_cons_self
    have h0 := hl x.1 hx.2
    have hle : ldA t (x.1 - b) ≤ c := by unfold ldA; omega
    obtain ⟨a1, a2, a3⟩ := run_meet (c := c + 1) (x.2 - x.1 + 1).toNat x.1 s (by omega) (by omega)
    show ((laid x.1 (x.2 - x.1 + 1).toNat ++ rowC rs).foldl _ s).picked + _ = ((laid (x.1 - b) (x.2 - x.1).toNat ++ peelS (b + 2) rs).foldl _ t).picked + _ + (rs.length + 1)
    rw [List.foldl_append, List.foldl_append]
    by_cases n : x.2 - x.1 = 0
    · rw [show (x.2 - x.1).toNat = 0 by omega]
      show _ = ((peelS (b + 2) rs).foldl (meetW (c : Int)) t).picked + _ + _
      generalize (laid x.1 (x.2 - x.1 + 1).toNat).foldl (meetW ((c + 1 : Nat) : Int)) s = s' at *
      have i := peel_pick (c := c) rs (b + 2) (x.2 + 2) s' t p2 (fun y hy => ⟨(hq y (List.mem_cons_of_mem _ hy)).1, p1 y hy⟩) (fun p hp => by
        have h1 := hl p (by omega)
        unfold ldA at *
        omega) (by omega) hc
      omega
    · obtain ⟨b1, b2, b3⟩ := run_meet (c := c) (x.2 - x.1).toNat (x.1 - b) t hle (by omega)
      generalize (laid x.1 (x.2 - x.1 + 1).toNat).foldl (meetW ((c + 1 : Nat) : Int)) s = s' at *
      generalize (laid (x.1 - b) (x.2 - x.1).toNat).foldl (meetW (c : Int)) t = t' at *
      have i := peel_pick (c := c) rs (b + 2) (x.2 + 2) s' t' p2 (fun y hy => ⟨(hq y (List.mem_cons_of_mem _ hy)).1, p1 y hy⟩) (fun p hp => by
        have e1 : ldA s' p = s'.load - (p - s'.next).toNat := rfl
        have e2 : ldA t' (p - (b + 2)) = t'.load - (p - (b + 2) - t'.next).toNat := rfl
        rw [e1, e2]
        omega) (by omega) (by omega)
      omega
theorem pick_peel (c : Nat) {r : List Int} (hr : Rising r) : pickR (c + 1) r = pickR c (peelR r) + (runs r).length := by
  obtain ⟨e, h⟩ := runs_row r
  obtain ⟨q, hq⟩ := low_of (runs r)
  have i := peel_pick (c := c) (runs r) 0 q wk0 wk0 (runs_apart hr) (fun x hx => ⟨h x hx, hq x hx⟩) (fun p _ => by simp [ldA, wk0]) (.inl rfl) (Nat.zero_le _)
  rw [e] at i
  have z : wk0.picked = 0 := rfl
  unfold pickR goW peelR
  omega
theorem pick_zero (r : List Int) : pickR 0 r = 0 := by
  have key : ∀ (r : List Int) (s : Wk), (r.foldl (meetW ((0 : Nat) : Int)) s).picked = s.picked := fun r => by
    induction r with
    | nil => exact fun s => rfl
    | cons x r ih =>
      intro s
      rw [List.foldl_cons, ih]
      unfold meetW
      rw [if_neg (by omega)]
  exact key r wk0
theorem pick_runs : ∀ (k : Nat) {r : List Int}, Rising r → pickR (k + 1) r = pickR k r + (runs (peelIt k r)).length
  | 0, r, hr => by
    rw [pick_peel 0 hr, pick_zero, pick_zero]
    rfl
  | k + 1, r, hr => by
    rw [pick_peel (k + 1) hr, pick_peel k hr, pick_runs k (peelR_rising hr)]
    show _ = _ + (runs (peelIt k (peelR r))).length
    omega
/-- the trains in the order in which they came -/
def heap (r : List Int) : List (Int × Int) := r.foldl grow []
def lists (r : List Int) : List (Int × Int) := sortBy ltII (heap r)
def szs (r : List Int) : List Int := (lists r).map (·.1)
theorem heap_posi (r : List Int) : Posi (heap r) := grows_posi r (ps := []) (fun p hp => (nomatch hp))
theorem rowOf_rising : ∀ (bs : List Bool) (lo : Int), Rising (rowOf lo bs)
  | [], _ => List.Pairwise.nil
  | b :: bs, lo => by
    cases b with
    | true => exact List.pairwise_cons.mpr ⟨fun x hx => by have := rowOf_mem hx; omega, rowOf_rising bs (lo + 1)⟩
    | false => exact rowOf_rising bs (lo + 1)
theorem walkR_rising {c : Int} {r : List Int} (hr : Rising r) : Rising (walkR c r) := by
  obtain ⟨lo, bs, e, h⟩ := row_bits r hr
  rw [← e, walkR_bits (h c)]
  exact rowOf_rising _ _
/-- behind k stones one behind the other: what one stone more does while the creel has room -/
structure Hold (c q : Int) (k : Nat) (M E : List (Int × Int)) (d : Int) : Prop where
  g : ∃ R, Gro (fun i => lsr i c) M q d R E
  dk : d ≤ k
  leg : ∀ p ∈ M, vac M p ≤ q + k - 1
  pos : Posi M
  big : d = k ∨ ∃ p ∈ M, vac M p = q + k - 1 ∧ (k : Int) + 1 ≤ p.1
theorem hold_base {c q : Int} (hc : 1 ≤ c) {L : List (Int × Int)} (h : Posi L) (hv : ∀ p ∈ L, vac L p ≤ q - 1) : Hold c q 0 L (grow L (q + 1)) 0 := by
  have l1 : lsr 1 c = 1 := by unfold lsr; split <;> omega
  obtain ⟨R, g⟩ := gro_grow h (q + 1)
  have z : longest L (q + 1 - 1) = 0 := by
    by_cases c0 : 0 < longest L (q + 1 - 1)
    · have := g.picked c0
      have a := hv _ this.1
      rw [this.2] at a
      omega
    · have := g.s0
      omega
  rw [z] at g
  refine ⟨⟨R, ⟨Int.le_refl _, ?_, ?_, fun p hp hs e => ?_⟩⟩, Int.le_refl _, fun p hp => by have := hv p hp; omega, h, .inl rfl⟩
  · have w := g.m
    unfold zst at w ⊢
    exact w
  · have w := g.m'
    rw [show q + 1 + (0 : Int) - 2 - 2 * share L (0 + 1) = q + lsr (0 + 1) c - 2 - 2 * share L (0 + 1) by
      rw [show (0 : Int) + 1 = 1 from rfl, l1]; omega] at w
    exact w
  · have a := hv p hp
    have b := h p hp
    have : 1 ≤ lsr p.1 c := by unfold lsr; split <;> omega
    omega
theorem hold_step {c q : Int} {k : Nat} {M E M' R : List (Int × Int)} {d j : Int} (H : Hold c q k M E d) (hc : (k : Int) + 2 ≤ c) (gj : Gro (fun _ => 0) M (q + k) j R M') : ∃ E' d', Hold c q (k + 1) M' E' d' ∧ ∃ R', Gro (fun _ => 0) E (q + k + 2) (if j = d then k + 1 else j) R' E' := by
  obtain ⟨⟨Rd, gd⟩, dk, leg, pos, big⟩ := H
  have j0 := gj.s0
  have d0 := gd.s0
  have pos' := gj.posi pos
  have leg' : ∀ p ∈ M', vac M' p ≤ q + ((k + 1 : Nat) : Int) - 1 := fun p hp => by
    have p1 := pos' p hp
    rcases gj.old hp (by omega) with e | ⟨_, hm, e⟩
    · rw [e, gj.new.2]
      omega
    · rw [e]
      have a := leg p hm
      have b := gj.top p hm
      split
      · rename_i hs
        have := b hs
        omega
      · omega
  have lk : ∀ i : Int, i ≤ (k : Int) + 2 → lsr i c = i := fun i hi => by unfold lsr; split <;> omega
  have lb : ∀ i : Int, (k : Int) + 2 ≤ i → (k : Int) + 2 ≤ lsr i c := fun i hi => by unfold lsr; split <;> omega
  -- what is picked at least
  have jd : j = d ∧ d = k ∨ d < j ∧ (k : Int) + 1 ≤ j := by
    rcases big with e | ⟨p, hp, e1, e2⟩
    · by_cases z : j < d
      · -- d is ripe
        obtain ⟨m1, m2⟩ := gd.picked (by omega)
        have w := gj.top _ m1 z
        rw [m2] at w
        have := lk d (by omega)
        omega
      · omega
    · have : p.1 ≤ j := by
        by_cases z : j < p.1
        · exact absurd (by rw [e1]; omega) (gj.top p hp z)
        · omega
      omega
  rcases jd with ⟨e1, e2⟩ | ⟨h1, h2⟩
  · -- the same train
    subst e1
    subst e2
    have pr : R.Perm Rd := by
      have w := gj.m.symm.trans gd.m
      have e : q + (k : Int) - 1 + 0 - 2 * share M (k : Int) = q - 1 + lsr (k : Int) c - 2 * share M (k : Int) := by rw [lk (k : Int) (by omega)]; omega
      rw [e] at w
      exact (List.perm_append_left_iff _).mp w
    have s1 : share M' ((k : Int) + 1) = share M ((k : Int) + 1) + 1 := by rw [gj.share (by omega), if_pos (by omega)]
    have s2 : share M' ((k : Int) + 2) = share M ((k : Int) + 2) + 1 := by rw [gj.share (by omega), if_pos (by omega)]
    have t1 : share E ((k : Int) + 1) = share M ((k : Int) + 1) + 1 := by rw [gd.share (by omega), if_pos (by omega)]
    have t2 : share E ((k : Int) + 2) = share M ((k : Int) + 2) + 1 := by rw [gd.share (by omega), if_pos (by omega)]
    refine ⟨((k : Int) + 2, q + ((k : Int) + 2) - 2 - 2 * share M' ((k : Int) + 2)) :: R, (k : Int) + 1, ⟨⟨R, ⟨by omega, ?_, ?_, fun p hp hs e => ?_⟩⟩, by omega, leg', pos', .inl (by omega)⟩, R, ⟨by rw [if_pos rfl]; omega, ?_, ?_, fun p hp hs e => ?_⟩⟩
    · unfold zst
      rw [if_pos (by omega), lk _ (by omega), s1]
      have w := gj.m'
      rw [show q + (k : Int) + 0 - 2 - 2 * share M ((k : Int) + 1) = q - 1 + ((k : Int) + 1) - 2 * (share M ((k : Int) + 1) + 1) by omega] at w
      exact w
    · rw [show (k : Int) + 1 + 1 = (k : Int) + 2 by omega, lk _ (by omega)]
    · have a := leg' p hp
      have b := lb p.1 (by omega)
      omega
    · rw [if_pos rfl]
      unfold zst
      rw [if_pos (by omega), t1]
      have w := gd.m'.trans (List.Perm.cons _ pr.symm)
      rw [lk _ (by omega)] at w
      rw [show q + ((k : Int) + 1) - 2 - 2 * share M ((k : Int) + 1) = q + (k : Int) + 2 - 1 + 0 - 2 * (share M ((k : Int) + 1) + 1) by omega] at w
      exact w
    · rw [if_pos rfl, show (k : Int) + 1 + 1 = (k : Int) + 2 by omega, s2, t2, show q + ((k : Int) + 2) - 2 - 2 * (share M ((k : Int) + 2) + 1) = q + (k : Int) + 2 + 0 - 2 - 2 * (share M ((k : Int) + 2) + 1) by omega]
    · rw [if_pos rfl] at hs
      have p1 := gd.posi pos p hp
      rcases gd.old hp (by omega) with z | ⟨_, hm, z⟩
      · rw [z] at hs
        dsimp only at hs
        omega
      · rw [z, if_pos (by omega)] at e
        exact gj.top p hm (by omega) (by omega)
  · -- another, greater one
    have nj : ¬ j = d := by omega
    obtain ⟨m1, m2⟩ := gj.picked (by omega)
    have inRd : (j, q + (k : Int) - 1 + 0 - 2 * share M j) ∈ Rd := by
      rcases List.mem_append.mp (gd.m.mem_iff.mp m1) with z | z
      · unfold zst at z
        split at z
        · have : j = d := congrArg Prod.fst (List.mem_singleton.mp z)
          omega
        · cases z
      · exact z
    have pR := List.perm_cons_erase inRd
    generalize Rd.erase (j, q + (k : Int) - 1 + 0 - 2 * share M j) = R2 at pR
    have pRj : R.Perm (zst d (q - 1 + lsr d c - 2 * share M d) ++ R2) := by
      have w := gj.m.symm.trans (gd.m.trans (List.Perm.append_left _ pR))
      have e : zst j (q + (k : Int) - 1 + 0 - 2 * share M j) = [(j, q + (k : Int) - 1 + 0 - 2 * share M j)] := by unfold zst; rw [if_pos (by omega)]
      rw [e] at w
      have w2 : ((j, q + (k : Int) - 1 + 0 - 2 * share M j) :: R).Perm ((j, q + (k : Int) - 1 + 0 - 2 * share M j) :: (zst d (q - 1 + lsr d c - 2 * share M d) ++ R2)) := w.trans List.perm_middle
      exact (List.perm_cons _).mp w2
    have sd : share M' d = share M d := by rw [gj.share d0, if_neg (by omega)]; omega
    have sd1 : share M' (d + 1) = share M (d + 1) := by rw [gj.share (by omega), if_neg (by omega)]; omega
    have ej : share E j = share M j + 1 := by rw [gd.share j0, if_pos (by omega)]
    have ej1 : share E (j + 1) = share M (j + 1) + 1 := by rw [gd.share (by omega), if_pos (by omega)]
    have ld : lsr d c = d := lk d (by omega)
    have ld1 : lsr (d + 1) c = d + 1 := lk (d + 1) (by omega)
    refine ⟨(d + 1, q + (d + 1) - 2 - 2 * share M (d + 1)) :: (j + 1, q + (k : Int) - 2 - 2 * share M (j + 1)) :: R2, d, ⟨⟨(j + 1, q + (k : Int) - 2 - 2 * share M (j + 1)) :: R2, ⟨d0, ?_, ?_, fun p hp hs e => ?_⟩⟩, by omega, leg', pos', .inr ⟨_, gj.new.1, ?_, ?_⟩⟩, (d + 1, q + (d + 1) - 2 - 2 * share M (d + 1)) :: R2, ⟨by rw [if_neg nj]; exact j0, ?_, ?_, fun p hp hs e => ?_⟩⟩
    · rw [sd]
      have w := gj.m'.trans (List.Perm.cons _ pRj)
      rw [show q + (k : Int) + 0 - 2 - 2 * share M (j + 1) = q + (k : Int) - 2 - 2 * share M (j + 1) by omega] at w
      exact w.trans List.perm_middle.symm
    · rw [sd1, ld1]
    · have p1 := pos' p hp
      have a := leg' p hp
      by_cases hj : p.1 ≤ j
      · rcases gj.old hp (by omega) with z | ⟨_, hm, z⟩
        · rw [z] at hj
          dsimp only at hj
          omega
        · rw [z, if_neg (by omega)] at e
          exact gd.top p hm hs (by omega)
      · have b := lb p.1 (by omega)
        omega
    · rw [gj.new.2]
      omega
    · show ((k + 1 : Nat) : Int) + 1 ≤ j + 1
      omega
    · rw [if_neg nj, ej]
      unfold zst
      rw [if_pos (by omega)]
      have w := gd.m'.trans (List.Perm.cons _ pR)
      rw [ld1] at w
      rw [show q + (k : Int) - 1 + 0 - 2 * share M j = q + (k : Int) + 2 - 1 + 0 - 2 * (share M j + 1) by omega] at w
      exact w.trans (List.Perm.swap _ _ _)
    · rw [if_neg nj, ej1, show q + (k : Int) + 2 + 0 - 2 - 2 * (share M (j + 1) + 1) = q + (k : Int) - 2 - 2 * share M (j + 1) by omega]
      exact List.Perm.swap _ _ _
    · rw [if_neg nj] at hs
      have p1 := gd.posi pos p hp
      rcases gd.old hp (by omega) with z | ⟨_, hm, z⟩
      · rw [z] at hs
        dsimp only at hs
        omega
      · rw [z, if_pos (by omega)] at e
        exact gj.top p hm hs (by omega)
/-- h stones one behind the other; one more with room in the creel -/
theorem hold_all {c q : Int} (hc : 1 ≤ c) {L : List (Int × Int)} (h : Posi L) (hv : ∀ p ∈ L, vac L p ≤ q - 1) : ∀ k : Nat, (k : Int) + 1 ≤ c → ∃ E d, Hold c q k ((laid q k).foldl grow L) E d ∧ E.Perm ((laid (q + 1) (k + 1)).foldl grow L)
  | 0, _ => ⟨_, 0, hold_base hc h hv, by
    rw [laid_succ, laid_zero]
    exact List.Perm.refl _⟩
  | k + 1, hk => by
    obtain ⟨E, d, H, pe⟩ := hold_all hc h hv k (by omega)
    obtain ⟨R, g⟩ := gro_grow H.pos (q + k)
    obtain ⟨E', d', H', R', g'⟩ := hold_step H (by omega) g
    refine ⟨E', d', ?_, ?_⟩
    · rw [laid_snoc, List.foldl_append]
      exact H'
    · have posE : Posi E := by
        obtain ⟨_, ge⟩ := H.g
        exact ge.posi H.pos
      obtain ⟨R2, g2⟩ := gro_grow posE (q + k + 2)
      have u := (g'.uniq g2 (List.Perm.refl _)).2
      rw [laid_snoc, List.foldl_append]
      have e : q + 1 + ((k + 1 : Nat) : Int) = q + k + 2 := by omega
      rw [e]
      exact u.trans (grow_perm pe _)
/-- behind k stones one behind the other a train of k or more is ripe -/
theorem ripe_run {q : Int} {L : List (Int × Int)} (h : Posi L) : ∀ k : Nat, 1 ≤ k → Posi ((laid q k).foldl grow L) ∧ ∃ p ∈ (laid q k).foldl grow L, vac ((laid q k).foldl grow L) p = q + k - 1 ∧ (k : Int) ≤ p.1
  | 0, h => by omega
  | k + 1, _ => by
    rw [laid_snoc, List.foldl_append]
    have base : Posi ((laid q k).foldl grow L) ∧ ((k : Int) = 0 ∨ ∃ p ∈ (laid q k).foldl grow L, vac ((laid q k).foldl grow L) p = q + k - 1 ∧ (k : Int) ≤ p.1) := by
      cases k with
      | zero => exact ⟨h, .inl rfl⟩
      | succ k =>
        obtain ⟨a, b⟩ := ripe_run (q := q) h (k + 1) (by omega)
        exact ⟨a, .inr b⟩
    generalize (laid q k).foldl grow L = M at *
    obtain ⟨R, g⟩ := gro_grow base.1 (q + k)
    refine ⟨grow_posi base.1 _, _, g.new.1, (g.new.2).trans (by omega), ?_⟩
    show ((k + 1 : Nat) : Int) ≤ longest M (q + k - 1) + 1
    have := g.s0
    rcases base.2 with z | ⟨p, hp, e1, e2⟩
    · omega
    · by_cases z : longest M (q + k - 1) < p.1
      · exact absurd (by rw [e1]; omega) (g.top p hp z)
      · omega
/-- .. one more when the creel is full -/
theorem full_run {c q : Int} {k : Nat} (hk : (k : Int) = c) (hc : 1 ≤ c) {L B R : List (Int × Int)} {s : Int} (h : Posi L) (g : Gro (fun i => lsr i c) ((laid q k).foldl grow L) q s R B) : B.Perm ((laid q (k + 1)).foldl grow L) ∧ c ≤ s := by
  obtain ⟨pM, p, hp, e1, e2⟩ := ripe_run (q := q) h k (by omega)
  rw [laid_snoc, List.foldl_append]
  generalize (laid q k).foldl grow L = M at *
  obtain ⟨R', g'⟩ := gro_grow pM (q + k)
  have big : c ≤ longest M (q + k - 1) := by
    by_cases z : longest M (q + k - 1) < p.1
    · exact absurd (by rw [e1]; omega) (g'.top p hp z)
    · omega
  have lf : ∀ i : Int, c ≤ i → lsr i c = c := fun i hi => by unfold lsr; split <;> omega
  have g2 : Gro (fun i => lsr i c) M q (longest M (q + k - 1)) R' (grow M (q + k)) := by
    refine ⟨g'.s0, ?_, ?_, fun p hp hs => ?_⟩
    · have w := g'.m
      rw [show q + (k : Int) - 1 + 0 - 2 * share M (longest M (q + k - 1)) = q - 1 + lsr (longest M (q + k - 1)) c - 2 * share M (longest M (q + k - 1)) by rw [lf _ big]; omega] at w
      exact w
    · have w := g'.m'
      rw [show q + (k : Int) + 0 - 2 - 2 * share M (longest M (q + k - 1) + 1) = q + lsr (longest M (q + k - 1) + 1) c - 2 - 2 * share M (longest M (q + k - 1) + 1) by rw [lf _ (by omega)]; omega] at w
      exact w
    · have := g'.top p hp hs
      rw [lf _ (by omega)]
      omega
  obtain ⟨es, pb⟩ := g.uniq g2 (List.Perm.refl _)
  exact ⟨pb, by omega⟩
theorem grow_vac {ps : List (Int × Int)} (h : Posi ps) {p : Int} (hv : ∀ z ∈ ps, vac ps z ≤ p - 1) : ∀ z ∈ grow ps p, vac (grow ps p) z ≤ p := by
  have n0 := longest_nonneg h (p - 1)
  have big : ∀ z ∈ ps, vac ps z = p - 1 → z.1 ≤ longest ps (p - 1) := fun z hz e => by
    have m : z.1 ∈ ripes ps (p - 1) := List.mem_map.mpr ⟨z, List.mem_filter.mpr ⟨hz, by simpa using e⟩, rfl⟩
    have n : ripes ps (p - 1) ≠ [] := fun w => by rw [w] at m; cases m
    unfold longest
    rw [if_neg n]
    exact lmax_le m
  unfold grow
  by_cases c : 0 < longest ps (p - 1)
  · rw [if_pos c]
    have mm := longest_mem c
    have pc := List.perm_cons_erase mm
    generalize longest ps (p - 1) = s at *
    generalize hfr : ps.erase (s, p - 1 - 2 * share ps s) = fr at *
    have sh : ∀ t, share ps t = lsr s t + share fr t := fun t => by rw [share_perm pc, share_cons]
    intro z hz
    unfold vac
    have e : share (fr ++ [(s + 1, p - 2 * (share fr (s + 1) + s + 1))]) z.1 = share fr z.1 + lsr (s + 1) z.1 := by
      rw [share_app, share_cons]
      simp [share]
    rw [e]
    rcases List.mem_append.mp hz with m | m
    · have hz' : z ∈ ps := pc.mem_iff.mpr (List.mem_cons_of_mem _ m)
      have v := hv z hz'
      have b := big z hz'
      have s1 := sh z.1
      unfold vac at v b
      have a1 : lsr s z.1 = if s < z.1 then s else z.1 := rfl
      have a2 : lsr (s + 1) z.1 = if s + 1 < z.1 then s + 1 else z.1 := rfl
      by_cases g : s + 1 ≤ z.1
      · have a1' : lsr s z.1 = s := by rw [a1]; split <;> omega
        have a2' : lsr (s + 1) z.1 = s + 1 := by rw [a2]; split <;> omega
        by_cases w : z.2 + 2 * share ps z.1 = p - 1
        · have := b w
          omega
        · omega
      · have a1' : lsr s z.1 = z.1 := by rw [a1]; split <;> omega
        have a2' : lsr (s + 1) z.1 = z.1 := by rw [a2]; split <;> omega
        omega
    · have : z = _ := List.mem_singleton.mp m
      rw [this]
      have a2 : lsr (s + 1) (s + 1) = s + 1 := by unfold lsr; split <;> omega
      show p - 2 * (share fr (s + 1) + s + 1) + 2 * (share fr (s + 1) + lsr (s + 1) (s + 1)) ≤ p
      rw [a2]
      omega
  · rw [if_neg c]
    have z0 : longest ps (p - 1) = 0 := by omega
    rw [z0] at big ⊢
    intro z hz
    unfold vac
    have e : share (ps ++ [((0 : Int) + 1, p - 2 * (share ps (0 + 1) + 0 + 1))]) z.1 = share ps z.1 + lsr (0 + 1) z.1 := by
      rw [share_app, share_cons]
      simp [share]
    rw [e]
    rcases List.mem_append.mp hz with m | m
    · have v := hv z m
      have b := big z m
      have h1 := h z m
      unfold vac at v b
      have a2 : lsr (0 + 1) z.1 = 1 := by unfold lsr; split <;> omega
      rw [a2]
      by_cases w : z.2 + 2 * share ps z.1 = p - 1
      · have := b w
        omega
      · omega
    · have : z = _ := List.mem_singleton.mp m
      rw [this]
      have a2 : lsr ((0 : Int) + 1) (0 + 1) = 1 := by unfold lsr; split <;> omega
      show p - 2 * (share ps (0 + 1) + 0 + 1) + 2 * (share ps (0 + 1) + lsr (0 + 1) (0 + 1)) ≤ p
      rw [a2]
      omega
theorem heap_vac : ∀ (r : List Int) {ps : List (Int × Int)} {q : Int}, Posi ps → (∀ z ∈ ps, vac ps z ≤ q) → (∀ x ∈ r, q < x) → Rising r → ∀ z ∈ r.foldl grow ps, vac (r.foldl grow ps) z ≤ r.getLastD q
  | [], ps, q, _, hv, _, _ => hv
  | p :: r, ps, q, hp, hv, hq, hr => by
    have h1 := grow_vac hp (p := p) (fun z hz => by have := hv z hz; have := hq p List.mem_cons_self; omega)
    obtain ⟨a, b⟩ := List.pairwise_cons.mp hr
    have := heap_vac r (grow_posi hp p) h1 (fun x hx => a x hx) b
    rw [List.foldl_cons]
    have e : (p :: r).getLastD q = r.getLastD p := by cases r <;> rfl
    rw [e]
    exact this

theorem heap_legit {y : List Int} {q : Int} (hy : Rising y) (hq : ∀ x ∈ y, x < q) : ∀ z ∈ heap y, vac (heap y) z ≤ q - 1 := by
  cases y with
  | nil => intro z hz; cases hz
  | cons a y =>
    intro z hz
    have h := heap_vac (a :: y) (ps := []) (q := a - 1) (fun p hp => (nomatch hp)) (fun p hp => (nomatch hp)) (fun x hx => by
      rcases List.mem_cons.mp hx with e | m
      · omega
      · have := (List.pairwise_cons.mp hy).1 x m
        omega) hy z hz
    have lm : (a :: y).getLastD (a - 1) ∈ a :: y := by
      rw [List.getLastD_eq_getLast?]
      have : (a :: y).getLast? = some ((a :: y).getLast (by simp)) := List.getLast?_eq_some_getLast (by simp)
      rw [this]
      exact List.getLast_mem _
    have := hq _ lm
    exact Int.le_trans h (by omega)
theorem heap_app (y l : List Int) : heap (y ++ l) = l.foldl grow (heap y) := by unfold heap; rw [List.foldl_append]
/-- how the creel and the stones stand in a walk -/
structure Goes (c : Int) (s : Wk) : Prop where
  lc : (s.load : Int) ≤ c
  lt : ∀ x ∈ s.fresh, x < s.next
theorem goes_meet {c : Int} (hc : 1 ≤ c) {s : Wk} (g : Goes c s) {p : Int} (hp : s.next ≤ p ∨ (s.load = 0 ∧ s.fresh = [])) : Goes c (meetW c s p) ∧ (∀ x ∈ (comeW s p).fresh, x < p) ∧ endW s = (comeW s p).fresh ++ laid p (comeW s p).load ∧ ((comeW s p).load : Int) ≤ c := by
  have ml : comeM s p ≤ s.load := by unfold comeM; omega
  have lt : ∀ x ∈ (comeW s p).fresh, x < p := fun x hx => by
    unfold comeW at hx
    rcases List.mem_append.mp hx with z | z
    · have := g.lt x z
      rcases hp with h | ⟨_, h⟩
      · omega
      · rw [h] at z; cases z
    · have := laid_mem.mp z
      unfold comeM at this
      omega
  have en : endW s = (comeW s p).fresh ++ laid p (comeW s p).load := by
    unfold endW comeW
    dsimp only
    rw [List.append_assoc]
    congr 1
    by_cases z : s.load ≤ (p - s.next).toNat
    · have e : comeM s p = s.load := by unfold comeM; omega
      rw [e, Nat.sub_self, laid_zero, List.append_nil]
    · have e : s.next + (comeM s p : Int) = p := by
        have : comeM s p = (p - s.next).toNat := by unfold comeM; omega
        rw [this]
        rcases hp with h | ⟨h, _⟩ <;> omega
      have e2 : s.load = comeM s p + (s.load - comeM s p) := by omega
      have w := laid_add s.next (comeM s p) (s.load - comeM s p)
      rw [← e2, e] at w
      exact w
  have ll : ((comeW s p).load : Int) ≤ c := by
    have := g.lc
    unfold comeW
    dsimp only
    omega
  refine ⟨?_, lt, en, ll⟩
  unfold meetW
  split
  · refine ⟨?_, fun x hx => ?_⟩
    · dsimp only
      omega
    · have := lt x hx
      show x < p + 1
      omega
  · refine ⟨ll, fun x hx => ?_⟩
    rcases List.mem_append.mp hx with z | z
    · have := lt x z
      show x < p + 1
      omega
    · have : x = p := by simpa using z
      show x < p + 1
      omega
/-- the walk's law -/
theorem walk_trains {c : Int} (hc : 1 ≤ c) : ∀ (n : Nat) (r : List Int), r.length = n → Rising r → (heap (walkR c r)).Perm (shf (fun i => lsr i c) (heap r)) ∧ ((goW c r).picked : Int) = share (heap r) c ∧ Goes c (goW c r) ∧ ∀ q, (∀ x ∈ r, x < q) → (goW c r).next ≤ q ∨ ((goW c r).load = 0 ∧ (goW c r).fresh = [])
  | 0, r, hn, _ => by
    have : r = [] := List.eq_nil_of_length_eq_zero hn
    subst this
    exact ⟨List.Perm.refl _, rfl, ⟨by show ((0 : Nat) : Int) ≤ c; omega, fun x hx => nomatch hx⟩, fun q _ => .inr ⟨rfl, rfl⟩⟩
  | n + 1, r, hn, hr => by
    rcases List.eq_nil_or_concat r with e | ⟨r0, q, e⟩
    · subst e; cases hn
    · rw [List.concat_eq_append] at e
      subst e
      have hn0 : r0.length = n := by simpa using hn
      have hr0 : Rising r0 := (List.pairwise_append.mp hr).1
      have hlt : ∀ x ∈ r0, x < q := fun x hx => (List.pairwise_append.mp hr).2.2 x hx q (by simp)
      obtain ⟨i1, i2, i3, i4⟩ := walk_trains hc n r0 hn0 hr0
      have hp := i4 q hlt
      obtain ⟨g1, g2, g3, g4⟩ := goes_meet hc i3 (p := q) hp
      have eg : goW c (r0 ++ [q]) = meetW c (goW c r0) q := by unfold goW; rw [List.foldl_append]; rfl
      have nx : (meetW c (goW c r0) q).next = q + 1 := by unfold meetW; split <;> rfl
      have wr := walkR_rising (c := c) hr0
      have ew : walkR c r0 = (comeW (goW c r0) q).fresh ++ laid q (comeW (goW c r0) q).load := g3
      rw [ew] at wr
      have yr := (List.pairwise_append.mp wr).1
      have eh : heap (r0 ++ [q]) = grow (heap r0) q := heap_app r0 [q]
      have ewm : walkR c (r0 ++ [q]) = endW (meetW c (goW c r0) q) := by unfold walkR; rw [eg]
      obtain ⟨R, gr⟩ := gro_grow (heap_posi r0) q
      have gs := gr.shift (f := fun i => lsr i c)
      rw [ew, heap_app] at i1
      have gm := gs.perm i1.symm (List.Perm.refl _)
      have posL := heap_posi (comeW (goW c r0) q).fresh
      have legL := heap_legit yr g2
      refine ⟨?_, ?_, by rw [eg]; exact g1, fun q2 h2 => .inl (by rw [eg, nx]; have := h2 q (by simp); omega)⟩
      · rw [ewm, eh]
        by_cases room : ((comeW (goW c r0) q).load : Int) < c
        · obtain ⟨E, d, H, pe⟩ := hold_all hc posL legL _ (show ((comeW (goW c r0) q).load : Int) + 1 ≤ c by omega)
          obtain ⟨Re, ge⟩ := H.g
          have u := (gm.uniq ge (List.Perm.refl _)).2
          have em : endW (meetW c (goW c r0) q) = (comeW (goW c r0) q).fresh ++ laid (q + 1) ((comeW (goW c r0) q).load + 1) := by
            unfold meetW
            rw [if_pos room]
            rfl
          rw [em, heap_app]
          exact (u.trans pe).symm
        · have hk : ((comeW (goW c r0) q).load : Int) = c := by omega
          obtain ⟨pb, _⟩ := full_run hk hc posL gm
          have em : endW (meetW c (goW c r0) q) = (comeW (goW c r0) q).fresh ++ laid q ((comeW (goW c r0) q).load + 1) := by
            unfold meetW
            rw [if_neg room, laid_succ]
            show (comeW (goW c r0) q).fresh ++ [q] ++ laid (q + 1) _ = _
            rw [List.append_assoc]
            rfl
          rw [em, heap_app]
          exact pb.symm
      · rw [eg, eh, gr.share (by omega)]
        by_cases room : ((comeW (goW c r0) q).load : Int) < c
        · obtain ⟨E, d, H, pe⟩ := hold_all hc posL legL _ (show ((comeW (goW c r0) q).load : Int) + 1 ≤ c by omega)
          obtain ⟨Re, ge⟩ := H.g
          have u := (gm.uniq ge (List.Perm.refl _)).1
          have dk := H.dk
          rw [if_pos (by omega)]
          have : (meetW c (goW c r0) q).picked = (goW c r0).picked + 1 := by
            unfold meetW
            rw [if_pos room]
          rw [this]
          omega
        · have hk : ((comeW (goW c r0) q).load : Int) = c := by omega
          obtain ⟨_, cs⟩ := full_run hk hc posL gm
          rw [if_neg (by omega)]
          have : (meetW c (goW c r0) q).picked = (goW c r0).picked := by
            unfold meetW
            rw [if_neg room]
          rw [this]
          omega

theorem pick_share (c : Nat) {r : List Int} (hr : Rising r) : (pickR c r : Int) = share (heap r) c := by
  cases c with
  | zero =>
    rw [pick_zero]
    have key : ∀ ps : List (Int × Int), Posi ps → share ps 0 = 0 := fun ps => by
      induction ps with
      | nil => exact fun _ => rfl
      | cons p ps ih =>
        intro h
        have := h p List.mem_cons_self
        rw [share_cons, ih fun q hq => h q (List.mem_cons_of_mem _ hq)]
        unfold lsr
        split <;> omega
    exact (key _ (heap_posi r)).symm
  | succ c => exact (walk_trains (c := ((c + 1 : Nat) : Int)) (by omega) r.length r rfl hr).2.1
theorem share_more (k : Nat) : ∀ ps : List (Int × Int), share ps ((k + 1 : Nat) : Int) = share ps (k : Int) + more (ps.map (·.1)) k
  | [] => rfl
  | p :: ps => by
    have ih := share_more k ps
    rw [share_cons, share_cons, ih]
    have em : more ((p :: ps).map (·.1)) k = (if (k : Int) < p.1 then 1 else 0) + more (ps.map (·.1)) k := by
      unfold more
      rw [List.map_cons, List.filter_cons]
      by_cases c : (k : Int) < p.1
      · rw [if_pos (by simpa using c), if_pos c, List.length_cons]
        omega
      · rw [if_neg (by simpa using c), if_neg c]
        omega
    rw [em]
    unfold lsr
    by_cases c : (k : Int) < p.1
    · rw [if_pos c]
      split <;> split <;> omega
    · rw [if_neg c]
      split <;> split <;> omega
theorem runs_more (k : Nat) {r : List Int} (hr : Rising r) : (runs (peelIt k r)).length = more (szs r) k := by
  have a := pick_runs k hr
  have b := pick_share (k + 1) hr
  have c := pick_share k hr
  have d := share_more k (lists r)
  have e : ∀ s, share (lists r) s = share (heap r) s := fun s => share_perm (sortBy_perm (lt := ltII) (heap r)) s
  rw [e, e] at d
  have f : more (szs r) k = more ((lists r).map (·.1)) k := rfl
  omega
theorem trs_more {r : List Int} (hr : Rising r) {H : List (List Int × List Int)} (h : trsU r H) (k : Nat) : more (H.map fun t => (t.1.length : Int)) k = more (szs r) k := by
  obtain ⟨lo, bs, e, _⟩ := row_bits r hr
  obtain ⟨e1, e2⟩ := h lo bs r.length e (Nat.le_refl _)
  have key : ∀ j : Nat, pickR j r = shE j H := fun j => by
    have a := pick_trains j lo _ e2
    rw [← e1, rowOf_app, rowOf_false, e, List.append_nil] at a
    exact a
  have a := pick_runs k hr
  rw [runs_more k hr, key, key, shE_more] at a
  omega
theorem more_perm {a b : List Int} (h : a.Perm b) (k : Nat) : more a k = more b k := (h.filter _).length_eq
theorem great_of (l : List Int) : ∃ k : Nat, ∀ s ∈ l, s ≤ (k : Int) := by
  induction l with
  | nil => exact ⟨0, fun s h => nomatch h⟩
  | cons x l ih =>
    obtain ⟨k, h⟩ := ih
    refine ⟨k + x.toNat, fun s hs => ?_⟩
    rcases List.mem_cons.mp hs with e | z
    · subst e; omega
    · have := h s z; omega
theorem sizes_step {l : List Int} (h : l.Pairwise (· ≤ ·)) (k : Nat) : l.filter (fun s => decide (s ≤ ((k + 1 : Nat) : Int))) = l.filter (fun s => decide (s ≤ (k : Int))) ++ List.replicate (more l k - more l (k + 1)) ((k + 1 : Nat) : Int) ∧ more l (k + 1) ≤ more l k := by
  induction l with
  | nil => exact ⟨rfl, Nat.le_refl _⟩
  | cons a l ih =>
    obtain ⟨h1, h2⟩ := List.pairwise_cons.mp h
    obtain ⟨i1, i2⟩ := ih h2
    have m1 : ∀ j : Nat, more (a :: l) j = (if (j : Int) < a then 1 else 0) + more l j := fun j => by
      unfold more
      rw [List.filter_cons]
      by_cases q : (j : Int) < a
      · rw [if_pos (by simpa using q), if_pos q, List.length_cons]
        omega
      · rw [if_neg (by simpa using q), if_neg q]
        omega
    rw [m1, m1, List.filter_cons, List.filter_cons]
    by_cases q : a ≤ (k : Int)
    · rw [if_pos (by simp; omega), if_pos (by simpa using q), i1, if_neg (by omega), if_neg (by omega)]
      simp only [Nat.zero_add, List.cons_append]
      exact ⟨trivial, i2⟩
    · have nil : l.filter (fun s => decide (s ≤ (k : Int))) = [] := List.filter_eq_nil_iff.mpr fun s hs => by
        have := h1 s hs
        simp
        omega
      rw [if_neg (show ¬ decide (a ≤ (k : Int)) = true by simpa using q), nil, List.nil_append]
      rw [nil, List.nil_append] at i1
      by_cases q2 : a ≤ ((k + 1 : Nat) : Int)
      · have ea : a = ((k + 1 : Nat) : Int) := by omega
        rw [if_pos (show decide (a ≤ ((k + 1 : Nat) : Int)) = true by simpa using q2), i1, if_pos (by omega), if_neg (by omega), show 1 + more l k - (0 + more l (k + 1)) = (more l k - more l (k + 1)) + 1 by omega, List.replicate_succ, ea]
        exact ⟨rfl, by omega⟩
      · have nil2 : l.filter (fun s => decide (s ≤ ((k + 1 : Nat) : Int))) = [] := List.filter_eq_nil_iff.mpr fun s hs => by
          have := h1 s hs
          simp at q2 ⊢
          omega
        rw [nil2] at i1
        rw [if_neg (show ¬ decide (a ≤ ((k + 1 : Nat) : Int)) = true by simpa using q2), nil2, if_pos (by omega), if_pos (by omega), show 1 + more l k - (1 + more l (k + 1)) = more l k - more l (k + 1) by omega]
        exact ⟨i1, by omega⟩

theorem more_uniq {a b : List Int} (ha : a.Pairwise (· ≤ ·)) (hb : b.Pairwise (· ≤ ·)) (pa : ∀ s ∈ a, 1 ≤ s) (pb : ∀ s ∈ b, 1 ≤ s) (h : ∀ k, more a k = more b k) : a = b := by
  have key : ∀ k : Nat, a.filter (fun s => decide (s ≤ (k : Int))) = b.filter (fun s => decide (s ≤ (k : Int))) := fun k => by
    induction k with
    | zero =>
      have nil : ∀ l : List Int, (∀ s ∈ l, 1 ≤ s) → l.filter (fun s => decide (s ≤ ((0 : Nat) : Int))) = [] := fun l hl => List.filter_eq_nil_iff.mpr fun s hs => by
        have := hl s hs
        simp
        omega
      rw [nil a pa, nil b pb]
    | succ k ih => rw [(sizes_step ha k).1, (sizes_step hb k).1, ih, h, h]
  obtain ⟨k1, h1⟩ := great_of a
  obtain ⟨k2, h2⟩ := great_of b
  have e := key (k1 + k2)
  rw [List.filter_eq_self.mpr fun s hs => by have := h1 s hs; simp; omega, List.filter_eq_self.mpr fun s hs => by have := h2 s hs; simp; omega] at e
  exact e
theorem em_ne : ∀ (l : List (Bool × Int)) (S : List Run), OkU S → ∀ t ∈ emU S l, t.1 ≠ [] ∧ t.2 ≠ []
  | [], _, _, t, h => nomatch h
  | x :: l, S, hS, t, h => by
    have h' : t ∈ (putU S x).2 ++ emU (putU S x).1 l := h
    rcases List.mem_append.mp h' with w | w
    · have sh : ∀ (a : Run) (Q : List Run), a.2 ≠ [] → OkU Q → ∀ t ∈ (shutU (a :: Q)).2, t.1 ≠ [] ∧ t.2 ≠ [] := fun a Q ha hQ t ht => by
        cases Q with
        | nil => cases ht
        | cons u Q =>
          rw [shut_two] at ht
          split at ht
          · rw [List.mem_singleton.mp ht]
            have un : u.2 ≠ [] := List.length_pos_iff.mp hQ.ne
            unfold pairU
            split
            · exact ⟨un, ha⟩
            · exact ⟨ha, un⟩
          · cases ht
      cases S with
      | nil =>
        obtain ⟨b, p⟩ := x
        cases b <;> cases w
      | cons a S =>
        by_cases c : a.1 = x.1
        · rw [put_like c] at w
          exact sh _ _ (by simp) hS.tail t w
        · rw [put_other c] at w
          exact sh _ _ (by simp) hS t w
    · exact em_ne l _ (putU_ok hS x id).1 t w
theorem trs_ne {r : List Int} (hr : Rising r) {H : List (List Int × List Int)} (h : trsU r H) : ∀ t ∈ H, t.1 ≠ [] ∧ t.2 ≠ [] := by
  obtain ⟨lo, bs, e, _⟩ := row_bits r hr
  obtain ⟨e1, _⟩ := h lo bs r.length e (Nat.le_refl _)
  rw [e1]
  exact em_ne _ [] trivial
theorem lists_posi (r : List Int) : Posi (lists r) := fun p hp => grows_posi r (ps := []) (fun p hp => (nomatch hp)) p ((sortBy_perm _).mem_iff.mp hp)
theorem szs_posi (r : List Int) : ∀ s ∈ szs r, 1 ≤ s := fun s hs => by
  obtain ⟨p, hp, rfl⟩ := List.mem_map.mp hs
  exact lists_posi r p hp
theorem sorted_pw (ps : List (Int × Int)) : (sortBy ltII ps).Pairwise fun p q => p.1 < q.1 ∨ (p.1 = q.1 ∧ p.2 ≤ q.2) := by
  refine List.Pairwise.imp (fun {a b} (h : ltII b a = false) => ?_) (sortBy_srt sto_II ps)
  unfold ltII at h
  simp at h
  omega
theorem szs_sorted (r : List Int) : (szs r).Pairwise (· ≤ ·) := by
  unfold szs
  rw [List.pairwise_map]
  refine List.Pairwise.imp (fun {a b} h => ?_) (sorted_pw (heap r))
  omega
/-- the sizes, sorted -/
theorem trs_sizes {r : List Int} (hr : Rising r) {H Z : List (List Int × List Int)} (h : trsU r H) (hZ : Z.Perm H) : sortBy ltI (Z.map fun t => (t.1.length : Int)) = szs r := by
  have p : (sortBy ltI (Z.map fun t => (t.1.length : Int))).Perm (H.map fun t => (t.1.length : Int)) := (sortBy_perm _).trans (hZ.map _)
  refine more_uniq ((sortBy_srt sto_I _).imp fun {a b} z => by simp [ltI] at z; exact z) (szs_sorted r) (fun s hs => ?_) (szs_posi r) fun k => ?_
  · obtain ⟨t, ht, rfl⟩ := List.mem_map.mp (p.mem_iff.mp hs)
    have := (trs_ne hr h t ht).1
    have : 0 < t.1.length := List.length_pos_iff.mpr this
    omega
  · rw [more_perm p, trs_more hr h]
def tpI (l : List Int) : D := .tup (l.map D.int)
theorem toPys_ints (l : List Int) : toPys (l.map D.int) = l.map PyData.int := by
  induction l with
  | nil => rfl
  | cons x l ih =>
    show toPy (D.int x) :: toPys (l.map D.int) = _
    rw [ih]
    rfl
theorem leD_tpI (a b : List Int) : leD (tpI a) (tpI b) = !decide (b < a) := by
  show (!PySem.W.dataLt (.tuple (toPys (b.map D.int))) (.tuple (toPys (a.map D.int)))) = _
  rw [toPys_ints, toPys_ints, PySem.W.dataLt_tuple]
  have := PySem.W.dataLt_ints b a
  unfold PySem.W.rowLt at this
  rw [this]
theorem sto_L : Sto (fun a b : List Int => decide (a < b)) := ⟨fun x => by simp, fun x y z h1 h2 => by
    simp only [decide_eq_true_eq] at *
    exact List.lt_trans h1 h2, fun x y => by
    simp only [decide_eq_true_eq]
    rcases Decidable.em (x < y) with h | h
    · exact .inl h
    · rcases Decidable.em (y < x) with g | g
      · exact .inr (.inr g)
      · exact .inr (.inl (List.le_antisymm (List.not_lt.mp g) (List.not_lt.mp h)))⟩
def sortL (L : List (List Int)) : List (List Int) := L.mergeSort fun a b => !decide (b < a)
theorem sortL_perm {L M : List (List Int)} (h : L.Perm M) : sortL L = sortL M := by
  have srt : ∀ L : List (List Int), (sortL L).Pairwise (fun a b => decide (b < a) = false) := fun L => by
    have := List.pairwise_mergeSort (le := fun a b : List Int => !decide (b < a)) (fun a b c h1 h2 => by
      simp only [Bool.not_eq_true', decide_eq_false_iff_not] at *
      exact List.not_lt.mpr (List.le_trans (List.not_lt.mp h1) (List.not_lt.mp h2))) (fun a b => by
      rcases List.le_total a b with h | h
      · have : ¬ b < a := List.not_lt.mpr h
        simp [this]
      · have : ¬ a < b := List.not_lt.mpr h
        simp [this]) L
    refine this.imp fun {a b} h => ?_
    simpa using h
  exact srt_uniq sto_L ((List.mergeSort_perm L _).trans (h.trans (List.mergeSort_perm M _).symm)) (srt L) (srt M)
theorem pl_tpI {l : List Int} (h : l.length ≤ 1000) : pl 5 (tpI l) = true := by
  have l1 : l.length ≤ szL := le_szL (by omega)
  simp [tpI, pl, l1]
theorem dSortD_tpI (L : List (List Int)) (h : ∀ l ∈ L, l ≠ [] ∧ l.length ≤ 1000) : dSortD (.lst (L.map tpI)) = .ok (.lst ((sortL L).map tpI)) := by
  have ok : okSort (L.map tpI) = true := by
    unfold okSort
    rw [Bool.and_eq_true, List.all_eq_true]
    refine ⟨fun d hd => ?_, ?_⟩
    · obtain ⟨t, h1, rfl⟩ := List.mem_map.mp hd
      have p := pl_tpI (h t h1).2
      have l := (pl_lay 5 _ p).2
      rw [pl_shp (n := 5) (by decide) p, decide_eq_true (by omega), Bool.true_and, Bool.true_and, List.all_eq_true]
      intro d2 hd2
      obtain ⟨t2, h2, rfl⟩ := List.mem_map.mp hd2
      show PySem.W.alike (.tuple (toPys (t.map D.int))) (.tuple (toPys (t2.map D.int))) = true
      rw [PySem.W.alike]
      exact alike_ints _ _
    · rw [Bool.or_eq_true]
      left
      rw [List.all_eq_true]
      intro d hd
      obtain ⟨t, h1, rfl⟩ := List.mem_map.mp hd
      cases t with
      | nil => exact absurd rfl (h [] h1).1
      | cons x t => rfl
  unfold dSortD
  dsimp only
  rw [if_pos ok]
  congr 2
  unfold sortL
  refine (List.map_mergeSort fun a _ b _ => ?_).symm
  exact (leD_tpI a b).symm

theorem peelS_len : ∀ (rs : List (Int × Int)) (b : Int), (∀ x ∈ rs, x.1 ≤ x.2) → (peelS b rs).length + rs.length = (rowC rs).length
  | [], _, _ => rfl
  | x :: rs, b, h => by
    have a := peelS_len rs (b + 2) fun y hy => h y (List.mem_cons_of_mem _ hy)
    have hx := h x List.mem_cons_self
    show (laid _ _ ++ peelS (b + 2) rs).length + (rs.length + 1) = (laid _ _ ++ rowC rs).length
    rw [List.length_append, List.length_append, laid_len, laid_len]
    omega
theorem peelR_len (r : List Int) : (peelR r).length + (runs r).length = r.length := by
  obtain ⟨e, h⟩ := runs_row r
  have := peelS_len (runs r) 0 h
  rw [e] at this
  exact this
theorem peelIt_rising : ∀ (k : Nat) {r : List Int}, Rising r → Rising (peelIt k r) ∧ (peelIt k r).length ≤ r.length
  | 0, r, h => ⟨h, Nat.le_refl _⟩
  | k + 1, r, h => by
    obtain ⟨a, b⟩ := peelIt_rising k (peelR_rising h)
    have := peelR_len r
    exact ⟨a, by show (peelIt k (peelR r)).length ≤ _; omega⟩
theorem peelIt_succ : ∀ (k : Nat) (r : List Int), peelIt (k + 1) r = peelR (peelIt k r)
  | 0, _ => rfl
  | k + 1, r => peelIt_succ k (peelR r)
theorem peelIt_nil (k : Nat) {r : List Int} (hr : Rising r) : peelIt k r = [] ↔ more (szs r) k = 0 := by
  rw [← runs_more k hr, List.length_eq_zero_iff, runs_nil]
theorem weight_grow {ps : List (Int × Int)} (h : Posi ps) (p : Int) : weight (grow ps p) = weight ps + 1 := by
  have n0 := longest_nonneg h (p - 1)
  unfold grow
  rw [weight_app]
  by_cases c : 0 < longest ps (p - 1)
  · rw [if_pos c]
    have w := weight_perm (List.perm_cons_erase (longest_mem c))
    generalize longest ps (p - 1) = s at *
    generalize ps.erase (s, p - 1 - 2 * share ps s) = fr at *
    simp [weight] at *
    omega
  · rw [if_neg c]
    have z : longest ps (p - 1) = 0 := by omega
    rw [z]
    simp [weight]
theorem weight_grows : ∀ (r : List Int) {ps : List (Int × Int)}, Posi ps → weight (r.foldl grow ps) = weight ps + r.length
  | [], _, _ => rfl
  | p :: r, ps, h => by
    rw [List.foldl_cons, weight_grows r (grow_posi h p), weight_grow h p, List.length_cons]
    omega
theorem lists_weight (r : List Int) : weight (lists r) = r.length := by
  unfold lists heap
  rw [weight_perm (sortBy_perm _), weight_grows r (ps := []) (fun p hp => (nomatch hp))]
  simp [weight]
theorem szs_sum (r : List Int) : (szs r).sum = r.length := by
  have key : ∀ ps : List (Int × Int), Posi ps → (ps.map (·.1)).sum = weight ps := fun ps => by
    induction ps with
    | nil => exact fun _ => rfl
    | cons p ps ih =>
      intro h
      have a := ih fun q hq => h q (List.mem_cons_of_mem _ hq)
      have b := h p List.mem_cons_self
      unfold weight at *
      simp
      omega
  have := key _ (lists_posi r)
  rw [lists_weight] at this
  exact this
theorem more_zero {l : List Int} {k : Nat} : more l k = 0 ↔ ∀ s ∈ l, s ≤ (k : Int) := by
  unfold more
  rw [List.length_eq_zero_iff, List.filter_eq_nil_iff]
  constructor
  · intro h s hs
    have := h s hs
    simp at this
    exact this
  · intro h s hs
    have := h s hs
    simp
    exact this
/-- all that is picked -/
theorem pick_all (k : Nat) {r : List Int} (hr : Rising r) : pickR k r ≤ r.length ∧ (pickR k r < r.length ↔ more (szs r) k ≠ 0) := by
  have c := pick_share k hr
  have e : share (lists r) (k : Int) = share (heap r) k := share_perm (sortBy_perm (lt := ltII) (heap r)) k
  have key : ∀ ps : List (Int × Int), Posi ps → share ps (k : Int) ≤ (ps.map (·.1)).sum ∧ (share ps (k : Int) < (ps.map (·.1)).sum ↔ more (ps.map (·.1)) k ≠ 0) := fun ps => by
    induction ps with
    | nil => exact fun _ => ⟨Int.le_refl _, by simp [share, more]⟩
    | cons p ps ih =>
      intro h
      obtain ⟨a1, a2⟩ := ih fun q hq => h q (List.mem_cons_of_mem _ hq)
      have b := h p List.mem_cons_self
      have em : more ((p :: ps).map (·.1)) k = (if (k : Int) < p.1 then 1 else 0) + more (ps.map (·.1)) k := by
        unfold more
        rw [List.map_cons, List.filter_cons]
        by_cases c : (k : Int) < p.1
        · rw [if_pos (by simpa using c), if_pos c, List.length_cons]
          omega
        · rw [if_neg (by simpa using c), if_neg c]
          omega
      rw [share_cons, em, List.map_cons, List.sum_cons]
      unfold lsr
      by_cases q : (k : Int) < p.1
      · rw [if_pos q]
        split <;> refine ⟨by omega, ⟨fun _ => by omega, fun _ => by omega⟩⟩
      · rw [if_neg q, show (if p.1 < (k : Int) then p.1 else (k : Int)) = p.1 by split <;> omega]
        refine ⟨by omega, ?_⟩
        rw [Nat.zero_add, ← a2]
        omega
  obtain ⟨k1, k2⟩ := key _ (lists_posi r)
  have s := szs_sum r
  unfold szs at *
  refine ⟨by omega, ?_⟩
  rw [← k2]
  omega
theorem dRange2_of {a b : Int} {n : Nat} (hab : b = a + n) (hn : n ≤ 16777216) : dRange2 (.int a) (.int b) = .ok (rangeD a n) := by
  dsimp only [dRange2]
  have e : (b - a).toNat = n := by omega
  rw [e, if_pos (by rw [szL_val]; exact hn)]

theorem peel_loop (R0 : Option D) : ∀ (rs : List (Int × Int)) (acc : List Int) (b : Int) (x y z : Option D), (∀ q ∈ rs, q.1 ≤ q.2) → acc.length + (rowC rs).length ≤ 1000 → ∃ x' y' b', forL (.tup [3, 4]) b_peel_1 (rs.map twoD) [R0, some (.lst (acc.map D.int)), some (.int b), x, y, z] = .nx [R0, some (.lst ((acc ++ peelS b rs).map D.int)), b', x', y', z]
  | [], acc, b, x, y, z, _, _ => ⟨x, y, some (.int b), by simp [forL, peelS]⟩
  | q :: rs, acc, b, x, y, z, h, hz => by
    have hq := h q List.mem_cons_self
    have rl : (rowC (q :: rs)).length = (q.2 - q.1 + 1).toNat + (rowC rs).length := by
      show (laid _ _ ++ rowC rs).length = _
      rw [List.length_append, laid_len]
    obtain ⟨x', y', b', e'⟩ := peel_loop R0 rs (acc ++ laid (q.1 - b) (q.2 - q.1).toNat) (b + 2) (some (.int q.1)) (some (.int q.2)) z (fun w hw => h w (List.mem_cons_of_mem _ hw)) (by rw [List.length_append, laid_len]; omega)
    refine ⟨x', y', b', ?_⟩
    have rg := dRange2_of (a := q.1) (b := q.2) (n := (q.2 - q.1).toNat) (by omega) (by omega)
    have cc : gComp (gRange2 (gVar 3) (gVar 4)) (.one 5) [5] gYes (gBin dSub (gVar 5) (gVar 2)) [R0, some (.lst (acc.map D.int)), some (.int b), some (.int q.1), some (.int q.2), z] = .ok (.lst ((laid (q.1 - b) (q.2 - q.1).toNat).map D.int)) := by
      have g := gComp_map (gi := gRange2 (gVar 3) (gVar 4)) (t := .one 5) (vs := [5]) (tt := gYes) (ge := gBin dSub (gVar 5) (gVar 2)) (r := [R0, some (.lst (acc.map D.int)), some (.int b), some (.int q.1), some (.int q.2), z]) (l := List.range (q.2 - q.1).toNat) (F := fun (i : Nat) => D.int (q.1 + i)) (G := fun (i : Nat) => D.int (q.1 + i - b)) (by simp [rg, rangeD]) fun i _ => by simp [gTurn]
      rw [g]
      unfold laid
      rw [List.map_map]
      refine congrArg (fun z => R.ok (D.lst z)) (List.map_congr_left fun i _ => ?_)
      show D.int (q.1 + (i : Int) - b) = D.int (q.1 - b + (i : Int))
      congr 1
      omega
    have lz : (acc.map D.int).length + ((laid (q.1 - b) (q.2 - q.1).toNat).map D.int).length ≤ szL := le_szL (by rw [List.length_map, List.length_map, laid_len]; omega)
    have st : b_peel_1 [R0, some (.lst (acc.map D.int)), some (.int b), some (.int q.1), some (.int q.2), z] = .nx [R0, some (.lst ((acc ++ laid (q.1 - b) (q.2 - q.1).toNat).map D.int)), some (.int (b + 2)), some (.int q.1), some (.int q.2), z] := by
      rw [List.map_append]
      generalize (laid (q.1 - b) (q.2 - q.1).toNat).map D.int = d1 at *
      generalize acc.map D.int = d2 at *
      simp [b_peel_1, cc, lz, noX]
    rw [List.map_cons, forL_step (xs := [.int q.1, .int q.2]) rfl st, e', peelS, List.append_assoc]
theorem peel_ok (r : List Int) (hl : r.length ≤ 500) : f_peel [.lst (r.map D.int)] = .ok (.lst ((peelR r).map D.int)) := by
  obtain ⟨e, h⟩ := runs_row r
  have ro := runs_of_ok r hl
  obtain ⟨x', y', b', e'⟩ := peel_loop (some (.lst (r.map D.int))) (runs r) [] 0 none none none h (by rw [e]; simp; omega)
  have e2 : forL (.tup [3, 4]) b_peel_1 ((runs r).map twoD) [some (.lst (r.map D.int)), some (.lst []), some (.int 0), none, none, none] = _ := e'
  rw [List.nil_append] at e2
  unfold peelR
  generalize (peelS 0 (runs r)).map D.int = oo at *
  generalize (runs r).map twoD = rr at *
  generalize r.map D.int = r0 at *
  simp [f_peel, m_peel, ro, e2, le_szL (n := 0) (by decide)]
def roundL (r : List Int) (m : Nat) : List Int := (List.range m).map fun (k : Nat) => (more (szs r) k : Int)
theorem roundL_succ (r : List Int) (m : Nat) : roundL r (m + 1) = roundL r m ++ [(more (szs r) m : Int)] := by
  unfold roundL
  rw [List.range_succ, List.map_append]
  rfl
theorem roundL_len (r : List Int) (m : Nat) : (roundL r m).length = m := by simp [roundL]
theorem up_pick {r : List Int} (hr : Rising r) : ∀ k : Nat, (∀ j, j < k → more (szs r) j ≠ 0) → k ≤ pickR k r
  | 0, _ => Nat.zero_le _
  | k + 1, h => by
    have a := up_pick hr k fun j hj => h j (by omega)
    have b := pick_runs k hr
    rw [runs_more k hr] at b
    have := h k (by omega)
    omega
/-- the rounds -/
theorem rounds_okM (r : List Int) (hr : Rising r) (hl : r.length ≤ 60) : ∃ m : Nat, m ≤ 60 ∧ more (szs r) m = 0 ∧ (∀ j, j < m → more (szs r) j ≠ 0) ∧ f_rounds [.lst (r.map D.int)] = .ok (.lst ((roundL r m).map D.int)) := by
  have lo := look_row_ok r hr hl
  obtain ⟨r', w1, ⟨k, rfl, hk⟩, w2⟩ := whileL_inv (fun t => ∃ k : Nat, t = [some (.lst ((peelIt k r).map D.int)), some (.lst ((roundL r k).map D.int))] ∧ ∀ j, j < k → more (szs r) j ≠ 0)
    (fun t => match t with
      | [some (.lst a), _] => a.length
      | _ => 0) (tc := gTest (gBin dNe (gVar 0) (gLst VL.gNil))) (mb := b_rounds_1) (fun t ⟨k, e, hk⟩ => by
      subst e
      obtain ⟨pr, pl⟩ := peelIt_rising k hr
      have ne := ne_nil_ints (peelIt k r) (by omega)
      have k6 : k ≤ 60 := by
        have a := up_pick hr k hk
        have b := (pick_all k hr).1
        omega
      refine ⟨decide (peelIt k r ≠ []), ?_, fun hb => ?_⟩
      · generalize (peelIt k r).map D.int = pp at *
        simp [ne, le_szL (n := 0) (by decide)]
      · have nn : peelIt k r ≠ [] := of_decide_eq_true hb
        have ro := runs_of_ok (peelIt k r) (by omega)
        have po := peel_ok (peelIt k r) (by omega)
        have rm := runs_more k hr
        have ln : fLen [.lst ((runs (peelIt k r)).map twoD)] = .ok (.int (more (szs r) k : Nat)) := by simp [rm]
        have pn : (runs (peelIt k r)).length ≠ 0 := by
          rw [ne_eq, List.length_eq_zero_iff, runs_nil]
          exact nn
        refine ⟨[some (.lst ((peelIt (k + 1) r).map D.int)), some (.lst ((roundL r (k + 1)).map D.int))], ?_, ⟨k + 1, rfl, fun j hj => ?_⟩, ?_⟩
        · rw [peelIt_succ, roundL_succ, List.map_append]
          have lz : ((roundL r k).map D.int).length < szL := lt_szL (by rw [List.length_map, roundL_len]; omega)
          generalize (roundL r k).map D.int = rl at *
          generalize (runs (peelIt k r)).map twoD = rd at *
          generalize (peelR (peelIt k r)).map D.int = p2 at *
          generalize (peelIt k r).map D.int = p1 at *
          simp [b_rounds_1, ro, po, ln, lz, -fLen]
        · rcases Nat.lt_succ_iff_lt_or_eq.mp hj with z | z
          · exact hk j z
          · subst z
            rw [← rm]
            exact pn
        · show ((peelIt (k + 1) r).map D.int).length < ((peelIt k r).map D.int).length
          rw [List.length_map, List.length_map, peelIt_succ]
          have := peelR_len (peelIt k r)
          omega) WB [some (.lst (r.map D.int)), some (.lst [])] ⟨0, rfl, fun j hj => absurd hj (Nat.not_lt_zero _)⟩ (by
      rw [WB_eq]
      show (r.map D.int).length < 100000
      rw [List.length_map]
      omega)
  have end0 : more (szs r) k = 0 := by
    rw [← peelIt_nil k hr]
    obtain ⟨pr, pl⟩ := peelIt_rising k hr
    have ne := ne_nil_ints (peelIt k r) (by omega)
    rcases Decidable.em (peelIt k r = []) with z | z
    · exact z
    · rw [decide_eq_true z] at ne
      generalize (peelIt k r).map D.int = pp at *
      simp [ne, le_szL (n := 0) (by decide)] at w2
  refine ⟨k, ?_, end0, hk, ?_⟩
  · have a := up_pick hr k hk
    have b := (pick_all k hr).1
    omega
  · generalize (roundL r k).map D.int = rl at *
    generalize (peelIt k r).map D.int = pp at *
    generalize r.map D.int = rr at *
    simp [f_rounds, m_rounds, lo, w1, le_szL (n := 0) (by decide)]
theorem rounds_ok (r : List Int) (hr : Rising r) (hl : r.length ≤ 60) : ∃ m : Nat, m ≤ 60 ∧ more (szs r) m = 0 ∧ f_rounds [.lst (r.map D.int)] = .ok (.lst ((roundL r m).map D.int)) := by
  obtain ⟨m, h1, h2, _, h3⟩ := rounds_okM r hr hl
  exact ⟨m, h1, h2, h3⟩
/-- sizes by how many there are of more -/
theorem sizes_of_ok (l : List Int) (m : Nat) (hs : l.Pairwise (· ≤ ·)) (h1 : ∀ s ∈ l, 1 ≤ s) (hl : l.length ≤ 60) (hm : m ≤ 60) (h0 : more l m = 0) : f_sizes_of [.lst (((List.range m).map fun (k : Nat) => (more l k : Int)).map D.int)] = .ok (.lst (l.map D.int)) := by
  have mb : ∀ k, more l k ≤ 60 := fun k => Nat.le_trans (List.length_filter_le _ _) hl
  have ml : ((List.range m).map fun (k : Nat) => (more l k : Int)).length = m := by simp
  have at_ : ∀ (k : Nat) (j : Int), k < m → j = (k : Int) → dIdx (.lst (((List.range m).map fun (k : Nat) => (more l k : Int)).map D.int)) (.int j) = .ok (.int (more l k : Nat)) := fun k j hk hj => int_at (by rw [List.getElem?_map, List.getElem?_range hk]; rfl) hj
  generalize ((List.range m).map fun (k : Nat) => (more l k : Int)) = ll at *
  have fl : ∀ k : Nat, (l.filter fun s => decide (s ≤ (k : Int))).length ≤ 60 := fun k => Nat.le_trans (List.length_filter_le _ _) hl
  have loop : ∀ n k : Nat, k + n = m → ∀ a b : Option D, ∃ a' b', forL (.one 2) b_sizes_of_1 ((List.range' k n).map fun (i : Nat) => D.int i) [some (.lst (ll.map D.int)), some (.lst ((l.filter fun s => decide (s ≤ (k : Int))).map D.int)), a, b] = .nx [some (.lst (ll.map D.int)), some (.lst ((l.filter fun s => decide (s ≤ (m : Int))).map D.int)), a', b'] := fun n => by
    induction n with
    | zero =>
      intro k hk a b
      have : k = m := by omega
      subst this
      exact ⟨a, b, rfl⟩
    | succ n ih =>
      intro k hk a b
      obtain ⟨a', b', e⟩ := ih (k + 1) (by omega) (some (.int (k : Int))) (some (.int (more l (k + 1) : Nat)))
      refine ⟨a', b', ?_⟩
      obtain ⟨s1, s2⟩ := sizes_step hs k
      have i1 := at_ k (k : Int) (by omega) rfl
      have cz : ((more l k : Int) - (more l (k + 1) : Int)).toNat = more l k - more l (k + 1) := by omega
      have b1 : -i63 ≤ (more l k : Int) - (more l (k + 1) : Int) ∧ (more l k : Int) - (more l (k + 1) : Int) < i63 ∧ [D.int ((k : Int) + 1)].length * ((more l k : Int) - (more l (k + 1) : Int)).toNat ≤ szL := by
        have := mb k
        rw [cz]
        exact ⟨by rw [i63_val]; omega, by rw [i63_val]; omega, le_szL (by simp; omega)⟩
      have rp : dMul (.lst [.int ((k : Int) + 1)]) (.int ((more l k : Int) - (more l (k + 1) : Int))) = .ok (.lst (List.replicate (more l k - more l (k + 1)) (D.int ((k : Int) + 1)))) := by
        dsimp only [dMul]
        rw [if_pos b1, cz]
        simp
      have lz : ((l.filter fun s => decide (s ≤ (k : Int))).map D.int).length + (List.replicate (more l k - more l (k + 1)) (D.int ((k : Int) + 1))).length ≤ szL := le_szL (by
        have := mb k
        have := fl k
        rw [List.length_map, List.length_replicate]
        omega)
      have st : b_sizes_of_1 [some (.lst (ll.map D.int)), some (.lst ((l.filter fun s => decide (s ≤ (k : Int))).map D.int)), some (.int (k : Int)), b] = .nx [some (.lst (ll.map D.int)), some (.lst ((l.filter fun s => decide (s ≤ ((k + 1 : Nat) : Int))).map D.int)), some (.int (k : Int)), some (.int (more l (k + 1) : Nat))] := by
        rw [s1, List.map_append, List.map_replicate]
        have ln : fLen [.lst (ll.map D.int)] = .ok (.int (m : Int)) := by simp [ml]
        have ek : (((k + 1 : Nat) : Int)) = (k : Int) + 1 := by omega
        rw [ek]
        by_cases c : (k : Int) + 1 < (m : Int)
        · have i2 := at_ (k + 1) ((k : Int) + 1) (by omega) (by omega)
          generalize List.replicate (more l k - more l (k + 1)) (D.int ((k : Int) + 1)) = rr at *
          generalize (l.filter fun s => decide (s ≤ (k : Int))).map D.int = fd at *
          generalize ll.map D.int = ld at *
          simp [b_sizes_of_1, ln, c, i1, i2, rp, lz, le_szL (n := 1) (by decide), -fLen, -dIdx, -dMul]
        · have z : more l (k + 1) = 0 := by
            have : k + 1 = m := by omega
            rw [this]
            exact h0
          rw [z] at rp lz ⊢
          generalize List.replicate (more l k - 0) (D.int ((k : Int) + 1)) = rr at *
          generalize (l.filter fun s => decide (s ≤ (k : Int))).map D.int = fd at *
          generalize ll.map D.int = ld at *
          have rp' : dMul (.lst [.int ((k : Int) + 1)]) (.int (more l k : Int)) = .ok (.lst rr) := by
            have := rp
            rwa [show (more l k : Int) - ((0 : Nat) : Int) = (more l k : Int) by omega] at this
          simp [b_sizes_of_1, ln, c, i1, rp', lz, le_szL (n := 1) (by decide), -fLen, -dIdx, -dMul]
      rw [List.range'_succ, List.map_cons, forL_step (xs := [.int (k : Int)]) rfl st, e]
  obtain ⟨a', b', e⟩ := loop m 0 (by omega) none none
  have f0 : (l.filter fun s => decide (s ≤ ((0 : Nat) : Int))) = [] := List.filter_eq_nil_iff.mpr fun s hs => by
    have := h1 s hs
    simp
    omega
  have fm : (l.filter fun s => decide (s ≤ (m : Int))) = l := List.filter_eq_self.mpr fun s hs => by
    have := more_zero.mp h0 s hs
    simpa using this
  rw [f0, fm, ← range_split] at e
  have e' : forL (.one 2) b_sizes_of_1 ((List.range m).map fun (i : Nat) => D.int i) [some (.lst (ll.map D.int)), some (.lst []), none, none] = _ := e
  have rg := dRange1_nat (n := m) (by omega)
  have ln : fLen [.lst (ll.map D.int)] = .ok (.int (m : Int)) := by simp [ml]
  generalize (List.range m).map (fun (i : Nat) => D.int i) = rr at *
  generalize ll.map D.int = ld at *
  generalize l.map D.int = l0 at *
  simp [f_sizes_of, m_sizes_of, ln, rg, e', le_szL (n := 0) (by decide), -fLen]
theorem grow_len (ps : List (Int × Int)) (p : Int) : (grow ps p).length ≤ ps.length + 1 := by
  unfold grow
  rw [List.length_append]
  have : (if 0 < longest ps (p - 1) then ps.erase (longest ps (p - 1), p - 1 - 2 * share ps (longest ps (p - 1))) else ps).length ≤ ps.length := by
    split
    · exact List.length_erase_le
    · exact Nat.le_refl _
  simp
  omega
theorem grows_len : ∀ (r : List Int) (ps : List (Int × Int)), (r.foldl grow ps).length ≤ ps.length + r.length
  | [], _ => Nat.le_refl _
  | p :: r, ps => by
    have a := grows_len r (grow ps p)
    have b := grow_len ps p
    simp
    omega
theorem lists_len (r : List Int) : (lists r).length ≤ r.length := by
  have a := grows_len r []
  have b := (sortBy_perm (lt := ltII) (heap r)).length_eq
  unfold lists
  rw [b]
  exact Nat.le_trans a (by simp)
theorem szs_len (r : List Int) : (szs r).length ≤ r.length := by
  unfold szs
  rw [List.length_map]
  exact lists_len r
theorem by_rounds_ok (r : List Int) (hr : Rising r) (hl : r.length ≤ 60) : f_sizes_by_rounds [.lst (r.map D.int)] = .ok (.lst ((szs r).map D.int)) := by
  obtain ⟨m, hm, h0, e⟩ := rounds_ok r hr hl
  have s := sizes_of_ok (szs r) m (szs_sorted r) (szs_posi r) (Nat.le_trans (szs_len r) hl) hm h0
  have s' : f_sizes_of [.lst ((roundL r m).map D.int)] = .ok (.lst ((szs r).map D.int)) := s
  generalize (roundL r m).map D.int = rl at *
  generalize r.map D.int = rr at *
  simp [f_sizes_by_rounds, m_sizes_by_rounds, e, s']
theorem sorted_ints (ss : List Int) : fSorted [.lst (ss.map D.int)] = .ok (.lst ((sortBy ltI ss).map D.int)) := by
  simp only [fSorted, intsOf_map]

def wD (c : Int) (s : Wk) : D := .obj "Walk" [("creel", .int c), ("load", .int s.load), ("next_niche", .int s.next), ("fresh", .lst (s.fresh.map D.int)), ("picked", .int s.picked)]
theorem laid_from_ok (p : Int) (m : Nat) (hm : m ≤ 10000) : f_laid_from [.int p, .int m] = .ok (.lst ((laid p m).map D.int)) := by
  have g : gComp (gRange1 (gVar 1)) (.one 2) [2] gYes (gBin dAdd (gVar 0) (gVar 2)) [some (.int p), some (.int m), none] = .ok (.lst ((List.range m).map fun (i : Nat) => D.int (p + i))) :=
    gComp_map (F := fun (i : Nat) => D.int i) (by show dRange1 (.int (m : Int)) = _; exact dRange1_nat (by omega)) fun i _ => by simp [gTurn]
  have e : ((List.range m).map fun (i : Nat) => D.int (p + i)) = (laid p m).map D.int := by
    unfold laid
    rw [List.map_map]
    rfl
  simp [f_laid_from, m_laid_from, g, e]
theorem come_to_ok (c : Int) (s : Wk) (p : Int) (hn : s.next ≤ p) (hl : s.load ≤ 1000) (hf : s.fresh.length ≤ 10000) : f_Walk_come_to [wD c s, .int p] = .rt .non [some (wD c (comeW s p))] := by
  have em : (if p - s.next < (s.load : Int) then p - s.next else (s.load : Int)) = (comeM s p : Int) := by
    unfold comeM
    split <;> omega
  have ml : comeM s p ≤ s.load := by unfold comeM; omega
  have lf := laid_from_ok s.next (comeM s p) (by omega)
  have hz : s.fresh.length + (laid s.next (comeM s p)).length ≤ szL := le_szL (by rw [laid_len]; omega)
  have es : (s.load : Int) - (comeM s p : Int) = ((s.load - comeM s p : Nat) : Int) := by omega
  unfold comeW wD
  generalize comeM s p = m at *
  generalize laid s.next m = lm at *
  simp [f_Walk_come_to, m_Walk_come_to, em, lf, hz, es, outM, allS, noX]
theorem meet_ok (c : Int) (s : Wk) (p : Int) (hn : s.load = 0 ∨ s.next ≤ p) (hl : s.load ≤ 1000) (hf : s.fresh.length ≤ 9000) : f_Walk_meet [wD c s, .int p] = .rt .non [some (wD c (meetW c s p))] := by
  have key : ∀ s1 : Wk, s1.fresh.length ≤ 10000 → (mSeq (mIf (gTest (gBin dLt (gFld "Walk" 0 1) (gFld "Walk" 0 0)))
      (mSeq (mFldAug "Walk" "load" 0 1 dIAdd (gC (.int 1))) (mSeq (mFldAug "Walk" "picked" 0 4 dIAdd (gC (.int 1))) mNil))
      (mSeq (mFldApp "Walk" "fresh" 0 3 (gVar 1)) mNil))
      (mSeq (mFldPut "Walk" "next_niche" 0 2 (gBin dAdd (gVar 1) (gC (.int 1)))) mNil)) [some (wD c s1), some (.int p)] =
      .nx [some (wD c (if (s1.load : Int) < c then ⟨s1.load + 1, p + 1, s1.fresh, s1.picked + 1⟩ else ⟨s1.load, p + 1, s1.fresh ++ [p], s1.picked⟩)), some (.int p)] := by
    intro s1 h1
    have hz : s1.fresh.length < szL := lt_szL (by omega)
    by_cases q : (s1.load : Int) < c
    · simp [wD, q, noX]
    · simp [wD, q, noX, hz]
  have ml : comeM s p ≤ s.load := by unfold comeM; omega
  by_cases z : 0 < s.load
  · have ct := come_to_ok c s p (by omega) hl (by omega)
    have k := key (comeW s p) (by unfold comeW; dsimp only; rw [List.length_append, laid_len]; omega)
    have z' : (0 : Int) < s.load := by omega
    have fl : oFld "Walk" 1 (wD c s) = .ok (.int s.load) := by simp [wD]
    have t : mIf (gTest (gBin dGt (gFld "Walk" 0 1) (gC (.int 0)))) (mSeq (mExprX (mMeth "Walk" 0 f_Walk_come_to (VL.gCons (gVar 1) VL.gNil))) mNil) mNil [some (wD c s), some (.int p)] = .nx [some (wD c (comeW s p)), some (.int p)] := by
      unfold wD at ct ⊢
      simp [z', ct]
      intro q
      omega
    have e : m_Walk_meet [some (wD c s), some (.int p)] = .nx [some (wD c (meetW c s p)), some (.int p)] := by
      unfold m_Walk_meet
      rw [seq_nx t, k]
      rfl
    simp [f_Walk_meet, e, outM, allS]
  · have z0 : s.load = 0 := by omega
    have k := key s (by omega)
    have cz := come_zero (s := s) (p := p) (.inr z0)
    have z' : ¬ (0 : Int) < s.load := by omega
    have t : mIf (gTest (gBin dGt (gFld "Walk" 0 1) (gC (.int 0)))) (mSeq (mExprX (mMeth "Walk" 0 f_Walk_come_to (VL.gCons (gVar 1) VL.gNil))) mNil) mNil [some (wD c s), some (.int p)] = .nx [some (wD c s), some (.int p)] := by
      unfold wD
      simp [z']
      intro q
      omega
    have e : m_Walk_meet [some (wD c s), some (.int p)] = .nx [some (wD c (meetW c s p)), some (.int p)] := by
      unfold m_Walk_meet
      rw [seq_nx t, k]
      unfold meetW
      rw [cz]
    simp [f_Walk_meet, e, outM, allS]
theorem meet_grows (c : Int) (s : Wk) (p : Int) : (meetW c s p).load ≤ s.load + 1 ∧ (meetW c s p).fresh.length + (meetW c s p).load = s.fresh.length + s.load + 1 ∧ (meetW c s p).next = p + 1 := by
  have ml : comeM s p ≤ s.load := by unfold comeM; omega
  unfold meetW comeW
  dsimp only
  split <;> dsimp only <;> simp [laid_len] <;> omega
theorem init_ok (c : Int) : dMake "Walk" f_Walk___init__ [.int c] = .ok (wD c wk0) := by
  have z : ([] : List D).length ≤ szL := le_szL (by decide)
  simp [f_Walk___init__, m_Walk___init__, wD, wk0, le_szL (n := 0) (by decide)]
theorem walk_loop (c : Int) (R0 R1 : Option D) : ∀ (r : List Int) (s : Wk) (a : Option D), Rising r → (∀ x ∈ r, s.load = 0 ∨ s.next ≤ x) → s.fresh.length + s.load + r.length ≤ 900 → ∃ a', forL (.one 3) b_walk_there_1 (r.map D.int) [R0, R1, some (wD c s), a] = .nx [R0, R1, some (wD c (r.foldl (meetW c) s)), a']
  | [], s, a, _, _, _ => ⟨a, rfl⟩
  | x :: r, s, a, hr, hx, hl => by
    rw [List.length_cons] at hl
    obtain ⟨p1, p2⟩ := List.pairwise_cons.mp hr
    have m := meet_ok c s x (hx x List.mem_cons_self) (by omega) (by omega)
    have g := meet_grows c s x
    obtain ⟨a', e⟩ := walk_loop c R0 R1 r (meetW c s x) (some (.int x)) p2 (fun y hy => .inr (by rw [g.2.2]; have := p1 y hy; omega)) (by omega)
    refine ⟨a', ?_⟩
    have b : b_walk_there_1 (setD [R0, R1, some (wD c s), a] (Tg.is (.one 3)) [.int x]) = .nx [R0, R1, some (wD c (meetW c s x)), some (.int x)] := by
      unfold b_walk_there_1
      have m' := m
      unfold wD at m' ⊢
      simp [m']
    rw [List.map_cons, forL_step (xs := [.int x]) rfl b, e, List.foldl_cons]
theorem end_ok (c : Int) (s : Wk) (hl : s.load ≤ 1000) (hf : s.fresh.length ≤ 9000) : f_Walk_end [wD c s] = .rt .non [some (wD c ⟨0, s.next, endW s, s.picked⟩)] := by
  have lf := laid_from_ok s.next s.load (by omega)
  have hz : s.fresh.length + (laid s.next s.load).length ≤ szL := le_szL (by rw [laid_len]; omega)
  unfold endW wD
  generalize laid s.next s.load = lm at *
  simp [f_Walk_end, m_Walk_end, lf, hz, outM, allS, noX]
theorem go_size (c : Int) : ∀ (r : List Int) (s : Wk), (r.foldl (meetW c) s).fresh.length + (r.foldl (meetW c) s).load = s.fresh.length + s.load + r.length
  | [], _ => rfl
  | x :: r, s => by
    have g := meet_grows c s x
    rw [List.foldl_cons, go_size c r, List.length_cons]
    omega
theorem walk_there_ok (c : Int) (r : List Int) (hr : Rising r) (hl : r.length ≤ 900) : f_walk_there [.lst (r.map D.int), .int c] = .ok (wD c ⟨0, (goW c r).next, walkR c r, (goW c r).picked⟩) := by
  obtain ⟨a', e⟩ := walk_loop c (some (.lst (r.map D.int))) (some (.int c)) r wk0 none hr (fun _ _ => .inl rfl) (by simp [wk0]; exact hl)
  have gs := go_size c r wk0
  have g0 : wk0.fresh.length + wk0.load = 0 := rfl
  have en := end_ok c (goW c r) (by unfold goW; omega) (by unfold goW; omega)
  have e' : forL (.one 3) b_walk_there_1 (r.map D.int) [some (.lst (r.map D.int)), some (.int c), some (wD c wk0), none] = .nx [some (.lst (r.map D.int)), some (.int c), some (wD c (goW c r)), a'] := e
  have i0 := init_ok c
  unfold f_walk_there runFO m_walk_there
  have s1 : mSet 2 (gCall (dMake "Walk" f_Walk___init__) (VL.gCons (gVar 1) VL.gNil)) ([D.lst (r.map D.int), .int c].map some ++ List.replicate 2 none) = .nx [some (.lst (r.map D.int)), some (.int c), some (wD c wk0), none] := by
    generalize wD c wk0 = w0 at *
    simp [i0, -dMake]
  have s2 : mFor (gIter (gVar 0)) (.one 3) b_walk_there_1 [some (.lst (r.map D.int)), some (.int c), some (wD c wk0), none] = .nx [some (.lst (r.map D.int)), some (.int c), some (wD c (goW c r)), a'] := by
    show onR (.ok (r.map D.int)) _ _ = _
    exact e'
  have s3 : mExprX (mMeth "Walk" 2 f_Walk_end VL.gNil) [some (.lst (r.map D.int)), some (.int c), some (wD c (goW c r)), a'] = .nx [some (.lst (r.map D.int)), some (.int c), some (wD c ⟨0, (goW c r).next, walkR c r, (goW c r).picked⟩), a'] := by
    have en' := en
    unfold walkR
    generalize goW c r = gw at *
    unfold wD at en' ⊢
    simp [en']
  rw [seq_nx s1, seq_nx s2, seq_nx s3]
  generalize wD c ⟨0, (goW c r).next, walkR c r, (goW c r).picked⟩ = w1 at *
  simp

theorem walked_ok (c : Int) (hc : 1 ≤ c) (r : List Int) (hr : Rising r) (hl : r.length ≤ 60) : f_walked [.lst (r.map D.int), .int c] = .ok (.lst ((walkR c r).map D.int)) := by
  have l1 := look_row_ok r hr hl
  have l2 := look_creel_ok c hc
  have w := walk_there_ok c r hr (by omega)
  have f3 : oFld "Walk" 3 (wD c ⟨0, (goW c r).next, walkR c r, (goW c r).picked⟩) = .ok (.lst ((walkR c r).map D.int)) := by simp [wD]
  generalize wD c ⟨0, (goW c r).next, walkR c r, (goW c r).picked⟩ = w1 at *
  generalize r.map D.int = rr at *
  simp [f_walked, m_walked, l1, l2, w, f3, -oFld]

/-! ### law k15 -/
theorem sort_ris {a b : List Int} (h : a.Perm b) (hb : Rising b) : sortBy ltI a = b :=
  srt_uniq sto_I ((sortBy_perm a).trans h) (sortBy_srt sto_I a) (hb.imp fun {x y} z => by simp [ltI]; omega)
theorem all_turn (R0 : Option D) (i : Int) (s : List Int × List Int → List Int) (t : List Int × List Int) (h : dIdx (pairD t) (.int i) = .ok (.tup ((s t).map D.int))) (acc : List Int) (hz : acc.length + (s t).length ≤ 100000) : b_all_L_1 [R0, some (.int i), some (.lst (acc.map D.int)), some (pairD t)] = .nx [R0, some (.int i), some (.lst ((acc ++ s t).map D.int)), some (pairD t)] := by
  have l : (acc.map D.int).length + ((s t).map D.int).length ≤ szL := le_szL (by rw [List.length_map, List.length_map]; omega)
  rw [List.map_append]
  generalize pairD t = pt at *
  generalize (s t).map D.int = st at *
  generalize acc.map D.int = ac at *
  simp [b_all_L_1, h, l, -dIdx]
theorem all_loop (R0 : Option D) (i : Int) (s : List Int × List Int → List Int) (h : ∀ t, dIdx (pairD t) (.int i) = .ok (.tup ((s t).map D.int))) : ∀ (Z : List (List Int × List Int)) (acc : List Int) (x : Option D), (∀ t ∈ Z, (s t).length ≤ 60) → acc.length + 60 * Z.length ≤ 100000 → ∃ x', forL (.one 3) b_all_L_1 (Z.map pairD) [R0, some (.int i), some (.lst (acc.map D.int)), x] = .nx [R0, some (.int i), some (.lst ((acc ++ (Z.map s).flatten).map D.int)), x']
  | [], acc, x, _, _ => ⟨x, by rw [List.map_nil, List.map_nil, List.flatten_nil, List.append_nil]; rfl⟩
  | t :: Z, acc, x, hl, hz => by
    have lt := hl t List.mem_cons_self
    rw [List.length_cons] at hz
    obtain ⟨x', e⟩ := all_loop R0 i s h Z (acc ++ s t) (some (pairD t)) (fun u hu => hl u (List.mem_cons_of_mem _ hu)) (by rw [List.length_append]; omega)
    refine ⟨x', ?_⟩
    rw [List.map_cons, List.map_cons, List.flatten_cons, ← List.append_assoc, ← e]
    exact forL_step (xs := [pairD t]) rfl (all_turn R0 i s t (h t) acc (by omega))
theorem all_ok (Z : List (List Int × List Int)) (i : Int) (s : List Int × List Int → List Int) (h : ∀ t, dIdx (pairD t) (.int i) = .ok (.tup ((s t).map D.int))) (hl : ∀ t ∈ Z, (s t).length ≤ 60) (hz : Z.length ≤ 1000) : f_all_L [.lst (Z.map pairD), .int i] = .ok (.lst ((sortBy ltI (Z.map s).flatten).map D.int)) := by
  obtain ⟨x', e⟩ := all_loop (some (.lst (Z.map pairD))) i s h Z [] none hl (by simp; omega)
  rw [List.nil_append] at e
  have e' : forL (.one 3) b_all_L_1 (Z.map pairD) [some (.lst (Z.map pairD)), some (.int i), some (.lst []), none] = _ := e
  have so := sorted_ints (Z.map s).flatten
  generalize (sortBy ltI (Z.map s).flatten).map D.int = sd at *
  generalize (Z.map s).flatten.map D.int = fd at *
  generalize Z.map pairD = zz at *
  simp [f_all_L, m_all_L, e', so]
theorem law_turn (S N k a4 a5 a6 a7 a8 : Option D) (r : List Int) (hr : Rising r) (hl : r.length ≤ 60) : ∃ (c : Int) (b4 : Option D), 1 ≤ c ∧ b_law_1 [S, N, some (.lst (r.map D.int)), k, a4, a5, a6, a7, a8] = .nx [S, N, some (.lst ((walkR c r).map D.int)), k, b4, a5, a6, a7, a8] := by
  obtain ⟨H, e1, h1, h2, h3⟩ := heads_em r hr hl
  obtain ⟨M, hM⟩ : ∃ M : Int, M = if (r.length : Int) > 1 then (r.length : Int) else 1 := ⟨_, rfl⟩
  have M1 : 1 ≤ M ∧ (r.length : Int) ≤ M := by rw [hM]; split <;> omega
  have mx : fMax2 [.int 1, .int (r.length : Int)] = .ok (.int M) := by rw [hM]; rfl
  have w1 := walked_ok M M1.1 r hr hl
  have wl := walkR_len (c := M) hr
  have wr := walkR_rising (c := M) hr
  obtain ⟨H', f1, g1, g2, g3⟩ := heads_em (walkR M r) wr (by omega)
  have pz : (headsZ H).Perm H := List.mergeSort_perm H _
  have pz' : (headsZ H').Perm H' := List.mergeSort_perm H' _
  have tk : ∀ t ∈ headsZ H, TakeOk 60 t := fun t ht => h2 t (pz.mem_iff.mp ht)
  have tk' : ∀ t ∈ headsZ H', TakeOk 60 t := fun t ht => g2 t (pz'.mem_iff.mp ht)
  have zl : (headsZ H).length ≤ 60 := by rw [pz.length_eq]; exact h1
  have zl' : (headsZ H').length ≤ 60 := by rw [pz'.length_eq]; exact g1
  -- rows
  have A0 := all_ok (headsZ H) 0 (·.1) (fun t => tup0 _ _) (fun t ht => (tk t ht).2) (by omega)
  have A1 := all_ok (headsZ H) 1 (·.2) (fun t => tup1 _ _) (fun t ht => by have := (tk t ht).1; have := (tk t ht).2; show t.2.length ≤ 60; omega) (by omega)
  have fulls : (((headsZ H).map (·.1)).flatten).Perm r := ((pz.map _).flatten).trans (trs_full hr h3)
  have dual := trs_walk hr M1.2 h3 g3
  have empt : (((headsZ H).map (·.2)).flatten).Perm (walkR M r) := ((pz.map _).flatten).trans ((dual.flatten).trans (trs_full wr g3))
  rw [sort_ris fulls hr] at A0
  rw [sort_ris empt wr] at A1
  have n0 := ne_ints r (by omega)
  have n1 := ne_ints (walkR M r) (by omega)
  -- closings
  have cl := closings_ok r hr hl
  have st : fSorted [.lst ((r.map (cloF r)).map D.int)] = .ok (.lst ((walkR M r).map D.int)) := by
    rw [sorted_ints, sort_ris (cloF_perm hr M1.2) wr]
  have c1 : ∀ b, gComp (gIter (gCall f_closings (VL.gCons (gCall fList (VL.gCons (gVar 2) VL.gNil)) VL.gNil))) (.tup [5, 6]) [5, 6] gYes (gVar 6) [S, N, some (.lst (r.map D.int)), k, b, a5, a6, a7, a8] = .ok (.lst ((r.map (cloF r)).map D.int)) := fun b => by
    have e0 : (r.map (cloF r)).map D.int = (r.map fun p => (p, cloF r p)).map fun p => D.int p.2 := by rw [List.map_map, List.map_map]; rfl
    rw [e0]
    refine gComp_map (l := r.map fun p => (p, cloF r p)) (F := twoD) (G := fun p => D.int p.2) ?_ fun p _ => by simp [gTurn, twoD]
    generalize (r.map fun p => (p, cloF r p)).map twoD = pd at *
    generalize r.map D.int = rr at *
    simp [cl]
  -- sizes
  have br := by_rounds_ok r hr hl
  have sz := trs_sizes hr h3 pz
  have s1 : fSorted [.lst (((headsZ H).map fun t => (t.1.length : Int)).map D.int)] = .ok (.lst ((szs r).map D.int)) := by rw [sorted_ints, sz]
  have n2 := ne_ints (szs r) (by have := szs_len r; omega)
  have c2 : gComp (gIter (gVar 4)) (.tup [7, 8]) [7, 8] gYes (gCall fLen (VL.gCons (gVar 7) VL.gNil)) [S, N, some (.lst (r.map D.int)), k, some (.lst ((headsZ H).map pairD)), a5, a6, a7, a8] = .ok (.lst (((headsZ H).map fun t => (t.1.length : Int)).map D.int)) := by
    rw [List.map_map]
    exact gComp_map (l := headsZ H) (F := pairD) (G := D.int ∘ fun t => (t.1.length : Int)) rfl fun t _ => by simp [gTurn, pairD]
  -- heads behind
  have hd : sortL ((headsZ H).map (·.2)) = sortL ((headsZ H').map (·.1)) := sortL_perm ((pz.map _).trans (dual.trans (pz'.map _).symm))
  have d1 := dSortD_tpI ((headsZ H).map (·.2)) (fun l hl => by
    obtain ⟨t, ht, rfl⟩ := List.mem_map.mp hl
    have k1 := (tk t ht).1
    have k2 := (tk t ht).2
    exact ⟨(trs_ne hr h3 t (pz.mem_iff.mp ht)).2, by show t.2.length ≤ 1000; omega⟩)
  have d2 := dSortD_tpI ((headsZ H').map (·.1)) (fun l hl => by
    obtain ⟨t, ht, rfl⟩ := List.mem_map.mp hl
    have k2 := (tk' t ht).2
    exact ⟨(trs_ne wr g3 t (pz'.mem_iff.mp ht)).1, by show t.1.length ≤ 1000; omega⟩)
  rw [hd] at d1
  have n3 : dNe (.lst ((sortL ((headsZ H').map (·.1))).map tpI)) (.lst ((sortL ((headsZ H').map (·.1))).map tpI)) = .ok (.bl false) := by
    refine dNe_self (n := 6) (by decide) ?_
    have lz : (sortL ((headsZ H').map (·.1))).length ≤ szL := le_szL (by unfold sortL; rw [List.length_mergeSort, List.length_map]; omega)
    simp only [pl, List.all_map, List.length_map, decide_eq_true lz, Bool.and_true, List.all_eq_true]
    intro l hl
    have hl' := (List.mergeSort_perm _ _).mem_iff.mp hl
    obtain ⟨t, ht, rfl⟩ := List.mem_map.mp hl'
    have := (tk' t ht).2
    exact pl_tpI (by show t.1.length ≤ 1000; omega)
  have c3 : ∀ rw, gComp (gIter (gVar 4)) (.tup [7, 8]) [7, 8] gYes (gVar 8) [S, N, rw, k, some (.lst ((headsZ H).map pairD)), a5, a6, a7, a8] = .ok (.lst (((headsZ H).map (·.2)).map tpI)) := fun rw => by
    rw [List.map_map]
    exact gComp_map (l := headsZ H) (F := pairD) (G := tpI ∘ (·.2)) rfl fun t _ => by simp [gTurn, pairD, tpI]
  have c4 : ∀ b, gComp (gIter (gCall f_heads (VL.gCons (gCall fList (VL.gCons (gVar 2) VL.gNil)) VL.gNil))) (.tup [7, 8]) [7, 8] gYes (gVar 7) [S, N, some (.lst ((walkR M r).map D.int)), k, b, a5, a6, a7, a8] = .ok (.lst (((headsZ H').map (·.1)).map tpI)) := fun b => by
    rw [List.map_map]
    refine gComp_map (l := headsZ H') (F := pairD) (G := tpI ∘ (·.1)) ?_ fun t _ => by simp [gTurn, pairD, tpI]
    generalize (headsZ H').map pairD = zz at *
    generalize (walkR M r).map D.int = ww at *
    simp [f1]
  have ln : fLen [.lst (r.map D.int)] = .ok (.int (r.length : Nat)) := by simp
  refine ⟨M, some (.lst ((headsZ H).map pairD)), M1.1, ?_⟩
  generalize (sortL ((headsZ H').map (·.1))).map tpI = q1 at *
  generalize ((headsZ H').map (·.1)).map tpI = q2 at *
  generalize ((headsZ H).map (·.2)).map tpI = q3 at *
  generalize ((headsZ H).map fun t => (t.1.length : Int)).map D.int = q4 at *
  generalize (headsZ H).map pairD = q5 at *
  generalize (szs r).map D.int = q6 at *
  generalize (r.map (cloF r)).map D.int = q7 at *
  generalize (walkR M r).map D.int = q8 at *
  generalize (r.length : Int) = rn at *
  generalize r.map D.int = rr at *
  simp [b_law_1, e1, A0, A1, n0, n1, c1, st, c2, s1, br, n2, ln, mx, w1, c3, c4, d1, d2, n3, -fMax2, -fLen]
theorem law_rounds (S N : Option D) : ∀ (ks : List Nat) (r : List Int) (k a4 a5 a6 a7 a8 : Option D), Rising r → r.length ≤ 60 → ∃ x, forL (.one 3) b_law_1 (ks.map fun (i : Nat) => D.int i) [S, N, some (.lst (r.map D.int)), k, a4, a5, a6, a7, a8] = .nx x
  | [], r, k, a4, a5, a6, a7, a8, _, _ => ⟨_, rfl⟩
  | i :: ks, r, k, a4, a5, a6, a7, a8, hr, hl => by
    obtain ⟨c, b4, hc, e⟩ := law_turn S N (some (.int (i : Int))) a4 a5 a6 a7 a8 r hr hl
    have wl := walkR_len (c := c) hr
    obtain ⟨x, f⟩ := law_rounds S N ks (walkR c r) (some (.int (i : Int))) b4 a5 a6 a7 a8 (walkR_rising hr) (by omega)
    refine ⟨x, ?_⟩
    rw [List.map_cons, ← f]
    exact forL_step (xs := [.int (i : Int)]) rfl e
theorem law_ok (ns : List Int) (hn : ns.length ≤ 63) : f_law [.scr ns] = .ok (.bl true) := by
  obtain ⟨l, e1, l1, d1⟩ := numbers_ok ns hn 50 (by decide)
  have e1' : f_numbers_L [.scr ns, .int 50] = _ := e1
  obtain ⟨v0, p0, q0, g0⟩ := drawn_get d1 (i := 0) (by omega) (j := 0) rfl
  obtain ⟨m, hm, em⟩ := pick3 5 12 30 v0
  have d3 : Drawn (l.drop 3) := fun d hd => d1 d (List.mem_of_mem_drop hd)
  obtain ⟨r, er, hr1, hr2⟩ := long_row_ok (l.drop 3) d3 m.toNat (by omega) (by rw [List.length_drop]; omega)
  have er' : f_long_row_L [.lst ((l.drop 3).map D.int), .int m] = .ok (.lst (r.map D.int)) := by
    rw [Int.toNat_of_nonneg (by omega)] at er
    exact er
  have c3 : cutL (l.map D.int) (some 3) none = (l.drop 3).map D.int := by rw [cutL_from (k := 3) (by simp; omega), List.map_drop]
  obtain ⟨x, lp⟩ := law_rounds (some (.scr ns)) (some (.lst (l.map D.int))) [0, 1, 2] r none none none none none none hr2 (by omega)
  have s3 : (3 : Nat) ≤ szL := le_szL (by decide)
  have rg : dRange1 (.int 3) = .ok ([0, 1, 2].map fun (i : Nat) => D.int i) := by
    unfold dRange1
    dsimp only
    rw [if_pos (show Int.toNat 3 ≤ szL from s3)]
    rfl
  generalize ([0, 1, 2].map fun (i : Nat) => D.int i) = ks at *
  generalize (l.drop 3).map D.int = l3 at *
  generalize r.map D.int = rr at *
  generalize l.map D.int = ll at *
  simp [f_law, m_law, e1', g0, em, c3, er', lp, rg, s3, -dIdx]


def methS (i j : Nat) : Stmt := match PySem.Challenge.pw_creelway_k15_whole_tails_become_heads.main.body.getD i (.Pass ⟨0, 0, 0, 0⟩) with
  | .ClassDef _ _ _ b _ _ _ _ _ _ _ => b.getD j (.Pass ⟨0, 0, 0, 0⟩)
  | s => s
def initS (i : Nat) : Stmt := match PySem.Challenge.pw_creelway_k15_whole_tails_become_heads.main.body.getD i (.Pass ⟨0, 0, 0, 0⟩) with
  | .ClassDef _ _ _ b _ _ _ _ _ _ _ => b.getD 0 (.Pass ⟨0, 0, 0, 0⟩)
  | s => s
def topS (i : Nat) : Stmt := PySem.Challenge.pw_creelway_k15_whole_tails_become_heads.main.body.getD i (.Pass ⟨0, 0, 0, 0⟩)
abbrev kk_Walk : List (Str × Kd) := [("creel", .val), ("load", .val), ("next_niche", .val), ("fresh", .own none), ("picked", .val)]
theorem knd_Walk : (kk_Walk.map (·.1)).Nodup := by decide +kernel
theorem kno_Walk_come_to : ("come_to" : Str) ∉ kk_Walk.map (·.1) := by decide +kernel
theorem kno_Walk_meet : ("meet" : Str) ∉ kk_Walk.map (·.1) := by decide +kernel
theorem kno_Walk_end : ("end" : Str) ∉ kk_Walk.map (·.1) := by decide +kernel
theorem nq_BadCreel : NmOk "BadCreel" := by constructor <;> decide
theorem nq_BadRow : NmOk "BadRow" := by constructor <;> decide
theorem nq_MOST_STONES : NmOk "MOST_STONES" := by constructor <;> decide
theorem nq_TooMany : NmOk "TooMany" := by constructor <;> decide
theorem nq_Walk : NmOk "Walk" := by constructor <;> decide
theorem nq__law_all : NmOk "_law_all" := by constructor <;> decide
theorem nq__law_by : NmOk "_law_by" := by constructor <;> decide
theorem nq__law_cell : NmOk "_law_cell" := by constructor <;> decide
theorem nq__law_cut : NmOk "_law_cut" := by constructor <;> decide
theorem nq__law_d : NmOk "_law_d" := by constructor <;> decide
theorem nq__law_found : NmOk "_law_found" := by constructor <;> decide
theorem nq__law_k : NmOk "_law_k" := by constructor <;> decide
theorem nq__law_long_row : NmOk "_law_long_row" := by constructor <;> decide
theorem nq__law_many : NmOk "_law_many" := by constructor <;> decide
theorem nq__law_most : NmOk "_law_most" := by constructor <;> decide
theorem nq__law_niche : NmOk "_law_niche" := by constructor <;> decide
theorem nq__law_numbers : NmOk "_law_numbers" := by constructor <;> decide
theorem nq__law_numbers_here : NmOk "_law_numbers_here" := by constructor <;> decide
theorem nq__law_one : NmOk "_law_one" := by constructor <;> decide
theorem nq__law_other : NmOk "_law_other" := by constructor <;> decide
theorem nq__law_pair : NmOk "_law_pair" := by constructor <;> decide
theorem nq__law_pairs : NmOk "_law_pairs" := by constructor <;> decide
theorem nq__law_place : NmOk "_law_place" := by constructor <;> decide
theorem nq__law_rest : NmOk "_law_rest" := by constructor <;> decide
theorem nq__law_row : NmOk "_law_row" := by constructor <;> decide
theorem nq__law_row_here : NmOk "_law_row_here" := by constructor <;> decide
theorem nq__law_script : NmOk "_law_script" := by constructor <;> decide
theorem nq__law_seed : NmOk "_law_seed" := by constructor <;> decide
theorem nq__law_side : NmOk "_law_side" := by constructor <;> decide
theorem nq__law_step : NmOk "_law_step" := by constructor <;> decide
theorem nq_ahead : NmOk "ahead" := by constructor <;> decide
theorem nq_at : NmOk "at" := by constructor <;> decide
theorem nq_at_least : NmOk "at_least" := by constructor <;> decide
theorem nq_by : NmOk "by" := by constructor <;> decide
theorem nq_closings : NmOk "closings" := by constructor <;> decide
theorem nq_creel : NmOk "creel" := by constructor <;> decide
theorem nq_empty : NmOk "empty" := by constructor <;> decide
theorem nq_first : NmOk "first" := by constructor <;> decide
theorem nq_found : NmOk "found" := by constructor <;> decide
theorem nq_fresh : NmOk "fresh" := by constructor <;> decide
theorem nq_full : NmOk "full" := by constructor <;> decide
theorem nq_heads : NmOk "heads" := by constructor <;> decide
theorem nq_joined_runs : NmOk "joined_runs" := by constructor <;> decide
theorem nq_laid_from : NmOk "laid_from" := by constructor <;> decide
theorem nq_last : NmOk "last" := by constructor <;> decide
theorem nq_look_creel : NmOk "look_creel" := by constructor <;> decide
theorem nq_look_row : NmOk "look_row" := by constructor <;> decide
theorem nq_many : NmOk "many" := by constructor <;> decide
theorem nq_more : NmOk "more" := by constructor <;> decide
theorem nq_niche : NmOk "niche" := by constructor <;> decide
theorem nq_number : NmOk "number" := by constructor <;> decide
theorem nq_own : NmOk "own" := by constructor <;> decide
theorem nq_parted_run : NmOk "parted_run" := by constructor <;> decide
theorem nq_peel : NmOk "peel" := by constructor <;> decide
theorem nq_place : NmOk "place" := by constructor <;> decide
theorem nq_places : NmOk "places" := by constructor <;> decide
theorem nq_road_of : NmOk "road_of" := by constructor <;> decide
theorem nq_rounds : NmOk "rounds" := by constructor <;> decide
theorem nq_row : NmOk "row" := by constructor <;> decide
theorem nq_runs : NmOk "runs" := by constructor <;> decide
theorem nq_runs_of : NmOk "runs_of" := by constructor <;> decide
theorem nq_self : NmOk "self" := by constructor <;> decide
theorem nq_sizes_by_rounds : NmOk "sizes_by_rounds" := by constructor <;> decide
theorem nq_sizes_of : NmOk "sizes_of" := by constructor <;> decide
theorem nq_step : NmOk "step" := by constructor <;> decide
theorem nq_waiting : NmOk "waiting" := by constructor <;> decide
theorem nq_walk : NmOk "walk" := by constructor <;> decide
theorem nq_walk_there : NmOk "walk_there" := by constructor <;> decide
theorem nq_walked : NmOk "walked" := by constructor <;> decide
abbrev st_look_row : Stmt := topS 7
abbrev N_look_row : List Str := ["row", "at"]
theorem sc_look_row : FnScope N_look_row ["row"] (defScope st_look_row) := ⟨rfl, rfl, rfl, by decide +kernel, rfl, by decide +kernel, by decide +kernel⟩
theorem nd_look_row : N_look_row.Nodup := sc_look_row.nd
theorem ok_look_row [md : Md] {P : Program} {w : World} {K : PySem.W.Frag} {mg : Str → Option Value} {base : Heap} {cl : Cl} {fa : Addr} {fd : FuncData} (B : Bl mg) (hK : cl.K = K) (F : Fun K "look_row" "look_row" st_look_row fa fd) (gm : mg "look_row" = some (.ref fa)) (bn : Binds K fd ["row"] []) {t_MOST_STONES : Tok} (C_MOST_STONES : mg "MOST_STONES" = some (.int 60 t_MOST_STONES)) (X_BadRow : XAt P w K mg base cl "BadRow" 1) (X_TooMany : XPlain K mg cl "TooMany") : Fi P w K mg base cl "look_row" 3 [false] .val f_look_row := by
  refine def_ok (ls := [.val]) (m := m_look_row) (ks' := [.bor, .val]) F sc_look_row gm bn rfl rfl rfl (.inl rfl) (fun cdv A outer s H E h0 s0 b0 hr => ?_)
  exact (sb_cons (ss_if (st_cmp op_gt opv_gt nox_gt ((sf_Len B (sa_b (se_varB (i := 0) (hq := nq_row)) sa_nil))).valBor ((se_globI C_MOST_STONES nq_MOST_STONES)).valBor)
  (sb_cons (ss_raise rfl X_TooMany nq_TooMany)
  sb_nil)
  sb_nil)
  (sb_cons (ss_for (passes_of rfl) rfl (si_range2 B.range (se_int).valBor ((sf_Len B (sa_b (se_varB (i := 0) (hq := nq_row)) sa_nil))).valBor) (sg_name nd_look_row) (fun s => (sb_cons (ss_if (st_cmp op_le opv_le nox_le ((se_ix (se_varB (i := 0) (hq := nq_row)) ((se_var (i := 1) (hq := nq_at))).valBor)).valBor ((se_ix (se_varB (i := 0) (hq := nq_row)) ((se_sub ((se_var (i := 1) (hq := nq_at))).valBor (se_int).valBor)).valBor)).valBor)
  (sb_cons (ss_raiseAt rfl X_BadRow (hr.mono (by decide)) (se_var (i := 1) (hq := nq_at)) nq_BadRow)
  sb_nil)
  sb_nil)
  sb_nil)) (by first | decide | simp [Tg.is]))
  sb_nil))
abbrev st_runs_of : Stmt := topS 8
abbrev N_runs_of : List Str := ["row", "found", "place"]
theorem sc_runs_of : FnScope N_runs_of ["row"] (defScope st_runs_of) := ⟨rfl, rfl, rfl, by decide +kernel, rfl, by decide +kernel, by decide +kernel⟩
theorem nd_runs_of : N_runs_of.Nodup := sc_runs_of.nd
theorem ok_runs_of [md : Md] {P : Program} {w : World} {K : PySem.W.Frag} {mg : Str → Option Value} {base : Heap} {cl : Cl} {fa : Addr} {fd : FuncData} (B : Bl mg) (hK : cl.K = K) (F : Fun K "runs_of" "runs_of" st_runs_of fa fd) (gm : mg "runs_of" = some (.ref fa)) (bn : Binds K fd ["row"] [])  : Fi P w K mg base cl "runs_of" 1 [false] (.own none) f_runs_of := by
  refine def_ok (ls := [.own none, .val]) (m := m_runs_of) (ks' := []) F sc_runs_of gm bn rfl rfl rfl (.inr rfl) (fun cdv A outer s H E h0 s0 b0 hr => ?_)
  exact (sb_cons (ss_set (i := 1) nd_runs_of (se_lst (n := 0) sa_nil))
  (sb_cons (ss_for (passes_of rfl) rfl (si_it (sq_par (i := 0) (hq := nq_row))) (sg_name nd_runs_of) (fun s => (sb_cons (ss_if (st_of (sw_and (st_cmp (op_neD hr.units) opv_ne nox_ne (se_varB (i := 1) (hq := nq_found)) ((se_lst (n := 0) sa_nil)).toBor) (sw_and1 (st_cmp (op_eqD hr.units) opv_eq nox_eq ((se_ix ((se_ix (se_varB (i := 1) (hq := nq_found)) ((se_neg (se_int).valBor)).valBor)).valBor (se_int).valBor)).valBor ((se_sub ((se_var (i := 2) (hq := nq_place))).valBor (se_int).valBor)).valBor))))
  (sb_cons (ss_setI (i := 1) (hq := nq_found) ((se_neg (se_int).valBor)).valBor (se_tup (n := 2) (sa_v (se_ix ((se_ix (se_varB (i := 1) (hq := nq_found)) ((se_neg (se_int).valBor)).valBor)).valBor (se_int).valBor) (sa_v (se_var (i := 2) (hq := nq_place)) sa_nil))))
  sb_nil)
  (sb_cons (ss_append (i := 1) (hq := nq_found) (se_tup (n := 2) (sa_v (se_var (i := 2) (hq := nq_place)) (sa_v (se_var (i := 2) (hq := nq_place)) sa_nil))))
  sb_nil))
  sb_nil)) (by first | decide | simp [Tg.is]))
  (sb_cons (ss_retV (i := 1) (hq := nq_found))
  sb_nil)))
abbrev st_closings : Stmt := topS 9
abbrev N_closings : List Str := ["row", "found", "waiting", "at", "place", "niche"]
theorem sc_closings : FnScope N_closings ["row"] (defScope st_closings) := ⟨rfl, rfl, rfl, by decide +kernel, rfl, by decide +kernel, by decide +kernel⟩
theorem nd_closings : N_closings.Nodup := sc_closings.nd
theorem ok_closings [md : Md] {P : Program} {w : World} {K : PySem.W.Frag} {mg : Str → Option Value} {base : Heap} {cl : Cl} {fa : Addr} {fd : FuncData} (B : Bl mg) (hK : cl.K = K) (F : Fun K "closings" "closings" st_closings fa fd) (gm : mg "closings" = some (.ref fa)) (bn : Binds K fd ["row"] []) (F_look_row : Fi P w K mg base cl "look_row" 3 [false] .val f_look_row) : Fi P w K mg base cl "closings" 4 [false] (.own none) f_closings := by
  refine def_ok (ls := [.own none, .own none, .val, .val, .val]) (m := m_closings) (ks' := []) F sc_closings gm bn rfl rfl rfl (.inr rfl) (fun cdv A outer s H E h0 s0 b0 hr => ?_)
  exact (sb_cons (ss_expr (se_call F_look_row (hr.mono (by decide)) (sa_b (se_varB (i := 0) (hq := nq_row)) sa_nil) nq_look_row))
  (sb_cons (ss_set (i := 1) nd_closings se_dnew)
  (sb_cons (ss_set (i := 2) nd_closings (se_lst (n := 0) sa_nil))
  (sb_cons (ss_for (passes_of rfl) rfl (si_enumerate B.enumerate (sq_par (i := 0) (hq := nq_row))) (sg_tup rfl (sgs_cons nd_closings (sgs_cons nd_closings sgs_nil))) (fun s => (sb_cons (ss_append (i := 2) (hq := nq_waiting) (se_var (i := 4) (hq := nq_place)))
  (sb_cons (ss_set (i := 5) nd_closings ((se_add ((se_var (i := 4) (hq := nq_place))).valBor (se_int).valBor)).toVal)
  (sb_cons (ss_while WB (passes_of rfl) (st_of (sw_and (st_cmp (op_neD hr.units) opv_ne nox_ne (se_varB (i := 2) (hq := nq_waiting)) ((se_lst (n := 0) sa_nil)).toBor) (sw_and1 (st_of (sw_or (st_cmp (op_eqD hr.units) opv_eq nox_eq ((se_add ((se_var (i := 3) (hq := nq_at))).valBor (se_int).valBor)).toBor ((sf_Len B (sa_b (se_varB (i := 0) (hq := nq_row)) sa_nil))).valBor) (sw_or1 (st_cmp op_lt opv_lt nox_lt ((se_var (i := 5) (hq := nq_niche))).valBor ((se_ix (se_varB (i := 0) (hq := nq_row)) ((se_add ((se_var (i := 3) (hq := nq_at))).valBor (se_int).valBor)).toBor)).valBor)))))))
  (sb_cons (ss_dputX (i := 1) hr.units65 (sx_pop (i := 2) nq_waiting) (se_var (i := 5) (hq := nq_niche)) nq_found)
  (sb_cons (ss_iadd (i := 5) nd_closings (se_int).valBor)
  sb_nil)))
  sb_nil)))) (by first | decide | simp [Tg.is]))
  (sb_cons (ss_ret (se_comp [("place", 4)] rfl nd_closings (si_it (sq_bor (se_varB (i := 0) (hq := nq_row)))) (blkOk_by (N := N_closings) (sc := defScope st_closings) (own := [("place", 4)]) (by decide +kernel)) (by decide) (by decide) (fun _ _ _ _ _ => sg_name nd_closings) (fun _ _ _ _ _ => sp_nil) (fun _ _ _ _ _ => (se_tup (n := 2) (sa_v (se_var (i := 4) (hq := nq_place)) (sa_v (se_dix hr.units65 (se_varB (i := 1) (hq := nq_found)) ((se_var (i := 4) (hq := nq_place))).valBor) sa_nil))))))
  sb_nil)))))
abbrev st_look_creel : Stmt := topS 11
abbrev N_look_creel : List Str := ["creel"]
theorem sc_look_creel : FnScope N_look_creel ["creel"] (defScope st_look_creel) := ⟨rfl, rfl, rfl, by decide +kernel, rfl, by decide +kernel, by decide +kernel⟩
theorem nd_look_creel : N_look_creel.Nodup := sc_look_creel.nd
theorem ok_look_creel [md : Md] {P : Program} {w : World} {K : PySem.W.Frag} {mg : Str → Option Value} {base : Heap} {cl : Cl} {fa : Addr} {fd : FuncData} (B : Bl mg) (hK : cl.K = K) (F : Fun K "look_creel" "look_creel" st_look_creel fa fd) (gm : mg "look_creel" = some (.ref fa)) (bn : Binds K fd ["creel"] []) (X_BadCreel : XPlain K mg cl "BadCreel") : Fi P w K mg base cl "look_creel" 1 [false] .val f_look_creel := by
  refine def_ok (ls := []) (m := m_look_creel) (ks' := [.bor]) F sc_look_creel gm bn rfl rfl rfl (.inl rfl) (fun cdv A outer s H E h0 s0 b0 hr => ?_)
  exact (sb_cons (ss_if (st_cmp op_lt opv_lt nox_lt (se_varB (i := 0) (hq := nq_creel)) (se_int).valBor)
  (sb_cons (ss_raise rfl X_BadCreel nq_BadCreel)
  sb_nil)
  sb_nil)
  sb_nil)
abbrev st_laid_from : Stmt := topS 12
abbrev N_laid_from : List Str := ["place", "many", "step"]
theorem sc_laid_from : FnScope N_laid_from ["place", "many"] (defScope st_laid_from) := ⟨rfl, rfl, rfl, by decide +kernel, rfl, by decide +kernel, by decide +kernel⟩
theorem nd_laid_from : N_laid_from.Nodup := sc_laid_from.nd
theorem ok_laid_from [md : Md] {P : Program} {w : World} {K : PySem.W.Frag} {mg : Str → Option Value} {base : Heap} {cl : Cl} {fa : Addr} {fd : FuncData} (B : Bl mg) (hK : cl.K = K) (F : Fun K "laid_from" "laid_from" st_laid_from fa fd) (gm : mg "laid_from" = some (.ref fa)) (bn : Binds K fd ["place", "many"] [])  : Fi P w K mg base cl "laid_from" 1 [false, false] (.own none) f_laid_from := by
  refine def_ok (ls := [.val]) (m := m_laid_from) (ks' := []) F sc_laid_from gm bn rfl rfl rfl (.inr rfl) (fun cdv A outer s H E h0 s0 b0 hr => ?_)
  exact (sb_cons (ss_ret (se_comp [("step", 2)] rfl nd_laid_from (si_range1 B.range (se_varB (i := 1) (hq := nq_many))) (blkOk_by (N := N_laid_from) (sc := defScope st_laid_from) (own := [("step", 2)]) (by decide +kernel)) (by decide) (by decide) (fun _ _ _ _ _ => sg_name nd_laid_from) (fun _ _ _ _ _ => sp_nil) (fun _ _ _ _ _ => ((se_add (se_varB (i := 0) (hq := nq_place)) ((se_var (i := 2) (hq := nq_step))).valBor)).toVal)))
  sb_nil)
abbrev st_Walk___init__ : Stmt := methS 13 0
abbrev N_Walk___init__ : List Str := ["self", "creel"]
theorem sc_Walk___init__ : FnScope N_Walk___init__ ["self", "creel"] (defScope st_Walk___init__) := ⟨rfl, rfl, rfl, by decide +kernel, rfl, by decide +kernel, by decide +kernel⟩
theorem nd_Walk___init__ : N_Walk___init__.Nodup := sc_Walk___init__.nd
theorem ok_Walk___init__ {P : Program} {w : World} {K : PySem.W.Frag} {mg : Str → Option Value} {base : Heap} {cl : Cl} {fa : Addr} {fd : FuncData} {c : Addr} (B : Bl mg) (hK : cl.K = K) (F : Fun K "__init__" "Walk.__init__" st_Walk___init__ fa fd) (bn : Binds K fd ["self", "creel"] []) (hc : cl.o "Walk" = some c) (gc : mg "Walk" = some (.ref c)) (mk : Mk K c fa) (O_Walk_creel : FldOk K cl "Walk" "creel") (O_Walk_fresh : FldOk K cl "Walk" "fresh") (O_Walk_load : FldOk K cl "Walk" "load") (O_Walk_next_niche : FldOk K cl "Walk" "next_niche") (O_Walk_picked : FldOk K cl "Walk" "picked") : MkM P w K mg base cl "Walk" 1 kk_Walk 1 f_Walk___init__ :=
  ⟨c, fa, fd, _, hc, gc, mk, def_okI (md := mZ) (bs := List.replicate 1 true) (ls := []) (m := m_Walk___init__) (kk := kk_Walk) (ks' := fun a => [.obj (some a) [("creel", .val), ("load", .val), ("next_niche", .val), ("fresh", .own none), ("picked", .val)], .val]) F sc_Walk___init__ rfl rfl (fun a => rfl) (fun a cdv A outer s H E h0 s0 b0 hr =>
  (sb_cons (ss_fldNew (i := 0) (C := "Walk") (k := .val) (kk := []) O_Walk_creel (se_var (i := 1) (hq := nq_creel)) (by decide +kernel) nq_self)
  (sb_cons (ss_fldNew (i := 0) (C := "Walk") (k := .val) (kk := [("creel", .val)]) O_Walk_load se_int (by decide +kernel) nq_self)
  (sb_cons (ss_fldNew (i := 0) (C := "Walk") (k := .val) (kk := [("creel", .val), ("load", .val)]) O_Walk_next_niche se_int (by decide +kernel) nq_self)
  (sb_cons (ss_fldNew (i := 0) (C := "Walk") (k := .own none) (kk := [("creel", .val), ("load", .val), ("next_niche", .val)]) O_Walk_fresh (se_lst (n := 0) sa_nil) (by decide +kernel) nq_self)
  (sb_cons (ss_fldNew (i := 0) (C := "Walk") (k := .val) (kk := [("creel", .val), ("load", .val), ("next_niche", .val), ("fresh", .own none)]) O_Walk_picked se_int (by decide +kernel) nq_self)
  sb_nil)))))), bn⟩
abbrev st_Walk_come_to : Stmt := methS 13 1
abbrev N_Walk_come_to : List Str := ["self", "place", "many"]
theorem sc_Walk_come_to : FnScope N_Walk_come_to ["self", "place"] (defScope st_Walk_come_to) := ⟨rfl, rfl, rfl, by decide +kernel, rfl, by decide +kernel, by decide +kernel⟩
theorem nd_Walk_come_to : N_Walk_come_to.Nodup := sc_Walk_come_to.nd
theorem ok_Walk_come_to [md : Md] {P : Program} {w : World} {K : PySem.W.Frag} {mg : Str → Option Value} {base : Heap} {cl : Cl} {fa : Addr} {fd : FuncData} (B : Bl mg) (hK : cl.K = K) (F : Fun K "come_to" "Walk.come_to" st_Walk_come_to fa fd) (bn : Binds K fd ["self", "place"] []) (M : ∀ c, cl.o "Walk" = some c → Cls K c ∧ Meth K c "come_to" fa) (O_Walk_fresh : FldOk K cl "Walk" "fresh") (O_Walk_load : FldOk K cl "Walk" "load") (O_Walk_next_niche : FldOk K cl "Walk" "next_niche") (F_laid_from : Fi P w K mg base cl "laid_from" 1 [false, false] (.own none) f_laid_from) : FiM P w K mg base cl "Walk" "come_to" 2 kk_Walk kk_Walk 1 .val f_Walk_come_to := by
  refine def_okS (ls := [.val]) (m := m_Walk_come_to) (ks' := fun a => [.obj (some a) kk_Walk, .val, .val]) F sc_Walk_come_to bn M rfl rfl rfl rfl (.inl rfl) (fun a => rfl) (fun a cdv A outer s H E h0 s0 b0 hr => ?_)
  exact (sb_cons (ss_set (i := 2) nd_Walk_come_to (sf_Min2 B (sa_b ((se_fldV (i := 0) (j := 1) (C := "Walk") (hnd := knd_Walk) (hq := nq_self) O_Walk_load)).valBor (sa_b ((se_sub ((se_var (i := 1) (hq := nq_place))).valBor ((se_fldV (i := 0) (j := 2) (C := "Walk") (hnd := knd_Walk) (hq := nq_self) O_Walk_next_niche)).valBor)).valBor sa_nil))))
  (sb_cons (ss_fldExt (i := 0) (j := 3) (C := "Walk") O_Walk_fresh ((se_call F_laid_from (hr.mono (by decide)) (sa_b ((se_fldV (i := 0) (j := 2) (C := "Walk") (hnd := knd_Walk) (hq := nq_self) O_Walk_next_niche)).valBor (sa_b ((se_var (i := 2) (hq := nq_many))).valBor sa_nil)) nq_laid_from)).toVal knd_Walk nq_self)
  (sb_cons (ss_fldSub (i := 0) (j := 1) (C := "Walk") O_Walk_load ((se_var (i := 2) (hq := nq_many))).valBor knd_Walk nq_self)
  sb_nil)))
abbrev st_Walk_meet : Stmt := methS 13 2
abbrev N_Walk_meet : List Str := ["self", "place"]
theorem sc_Walk_meet : FnScope N_Walk_meet ["self", "place"] (defScope st_Walk_meet) := ⟨rfl, rfl, rfl, by decide +kernel, rfl, by decide +kernel, by decide +kernel⟩
theorem nd_Walk_meet : N_Walk_meet.Nodup := sc_Walk_meet.nd
theorem ok_Walk_meet [md : Md] {P : Program} {w : World} {K : PySem.W.Frag} {mg : Str → Option Value} {base : Heap} {cl : Cl} {fa : Addr} {fd : FuncData} (B : Bl mg) (hK : cl.K = K) (F : Fun K "meet" "Walk.meet" st_Walk_meet fa fd) (bn : Binds K fd ["self", "place"] []) (M : ∀ c, cl.o "Walk" = some c → Cls K c ∧ Meth K c "meet" fa) (O_Walk_creel : FldOk K cl "Walk" "creel") (O_Walk_fresh : FldOk K cl "Walk" "fresh") (O_Walk_load : FldOk K cl "Walk" "load") (O_Walk_next_niche : FldOk K cl "Walk" "next_niche") (O_Walk_picked : FldOk K cl "Walk" "picked") (F_Walk_come_to : FiM P w K mg base cl "Walk" "come_to" 2 kk_Walk kk_Walk 1 .val f_Walk_come_to) : FiM P w K mg base cl "Walk" "meet" 3 kk_Walk kk_Walk 1 .val f_Walk_meet := by
  refine def_okS (ls := []) (m := m_Walk_meet) (ks' := fun a => [.obj (some a) kk_Walk, .val]) F sc_Walk_meet bn M rfl rfl rfl rfl (.inl rfl) (fun a => rfl) (fun a cdv A outer s H E h0 s0 b0 hr => ?_)
  exact (sb_cons (ss_if (st_cmp op_gt opv_gt nox_gt ((se_fldV (i := 0) (j := 1) (C := "Walk") (hnd := knd_Walk) (hq := nq_self) O_Walk_load)).valBor (se_int).valBor)
  (sb_cons (ss_exprX (sx_meth (i := 0) (C := "Walk") (nb := 1) F_Walk_come_to (hr.mono (by decide)) (sa_v (se_var (i := 1) (hq := nq_place)) sa_nil) nq_self kno_Walk_come_to))
  sb_nil)
  sb_nil)
  (sb_cons (ss_if (st_cmp op_lt opv_lt nox_lt ((se_fldV (i := 0) (j := 1) (C := "Walk") (hnd := knd_Walk) (hq := nq_self) O_Walk_load)).valBor ((se_fldV (i := 0) (j := 0) (C := "Walk") (hnd := knd_Walk) (hq := nq_self) O_Walk_creel)).valBor)
  (sb_cons (ss_fldAdd (i := 0) (j := 1) (C := "Walk") O_Walk_load (se_int).valBor knd_Walk nq_self)
  (sb_cons (ss_fldAdd (i := 0) (j := 4) (C := "Walk") O_Walk_picked (se_int).valBor knd_Walk nq_self)
  sb_nil))
  (sb_cons (ss_fldApp (i := 0) (j := 3) (C := "Walk") O_Walk_fresh (se_var (i := 1) (hq := nq_place)) knd_Walk nq_self)
  sb_nil))
  (sb_cons (ss_fldPut (i := 0) (j := 2) (C := "Walk") (k := .val) (kk2 := kk_Walk) O_Walk_next_niche ((se_add ((se_var (i := 1) (hq := nq_place))).valBor (se_int).valBor)).toVal knd_Walk nq_self)
  sb_nil)))
abbrev st_Walk_end : Stmt := methS 13 3
abbrev N_Walk_end : List Str := ["self"]
theorem sc_Walk_end : FnScope N_Walk_end ["self"] (defScope st_Walk_end) := ⟨rfl, rfl, rfl, by decide +kernel, rfl, by decide +kernel, by decide +kernel⟩
theorem nd_Walk_end : N_Walk_end.Nodup := sc_Walk_end.nd
theorem ok_Walk_end [md : Md] {P : Program} {w : World} {K : PySem.W.Frag} {mg : Str → Option Value} {base : Heap} {cl : Cl} {fa : Addr} {fd : FuncData} (B : Bl mg) (hK : cl.K = K) (F : Fun K "end" "Walk.end" st_Walk_end fa fd) (bn : Binds K fd ["self"] []) (M : ∀ c, cl.o "Walk" = some c → Cls K c ∧ Meth K c "end" fa) (O_Walk_fresh : FldOk K cl "Walk" "fresh") (O_Walk_load : FldOk K cl "Walk" "load") (O_Walk_next_niche : FldOk K cl "Walk" "next_niche") (F_laid_from : Fi P w K mg base cl "laid_from" 1 [false, false] (.own none) f_laid_from) : FiM P w K mg base cl "Walk" "end" 2 kk_Walk kk_Walk 0 .val f_Walk_end := by
  refine def_okS (ls := []) (m := m_Walk_end) (ks' := fun a => [.obj (some a) kk_Walk]) F sc_Walk_end bn M rfl rfl rfl rfl (.inl rfl) (fun a => rfl) (fun a cdv A outer s H E h0 s0 b0 hr => ?_)
  exact (sb_cons (ss_fldExt (i := 0) (j := 3) (C := "Walk") O_Walk_fresh ((se_call F_laid_from (hr.mono (by decide)) (sa_b ((se_fldV (i := 0) (j := 2) (C := "Walk") (hnd := knd_Walk) (hq := nq_self) O_Walk_next_niche)).valBor (sa_b ((se_fldV (i := 0) (j := 1) (C := "Walk") (hnd := knd_Walk) (hq := nq_self) O_Walk_load)).valBor sa_nil)) nq_laid_from)).toVal knd_Walk nq_self)
  (sb_cons (ss_fldPut (i := 0) (j := 1) (C := "Walk") (k := .val) (kk2 := kk_Walk) O_Walk_load se_int knd_Walk nq_self)
  sb_nil))
abbrev st_walk_there : Stmt := topS 14
abbrev N_walk_there : List Str := ["row", "creel", "walk", "place"]
theorem sc_walk_there : FnScope N_walk_there ["row", "creel"] (defScope st_walk_there) := ⟨rfl, rfl, rfl, by decide +kernel, rfl, by decide +kernel, by decide +kernel⟩
theorem nd_walk_there : N_walk_there.Nodup := sc_walk_there.nd
theorem ok_walk_there [md : Md] {P : Program} {w : World} {K : PySem.W.Frag} {mg : Str → Option Value} {base : Heap} {cl : Cl} {fa : Addr} {fd : FuncData} (B : Bl mg) (hK : cl.K = K) (F : Fun K "walk_there" "walk_there" st_walk_there fa fd) (gm : mg "walk_there" = some (.ref fa)) (bn : Binds K fd ["row", "creel"] []) (K_Walk : MkM P w K mg base cl "Walk" 1 kk_Walk 1 f_Walk___init__) (F_Walk_meet : FiM P w K mg base cl "Walk" "meet" 3 kk_Walk kk_Walk 1 .val f_Walk_meet) (F_Walk_end : FiM P w K mg base cl "Walk" "end" 2 kk_Walk kk_Walk 0 .val f_Walk_end) : Fi P w K mg base cl "walk_there" 4 [false, true] (.obj none kk_Walk) f_walk_there := by
  refine def_okO (ls := [.val, .val]) (m := m_walk_there) (ks' := []) F sc_walk_there gm bn rfl rfl rfl (fun cdv A outer s H E h0 s0 b0 hr => ?_)
  exact (sb_cons (ss_set (i := 2) nd_walk_there (se_make (nb := 1) K_Walk (hr.mono (by decide)) (sa_v (se_var (i := 1) (hq := nq_creel)) sa_nil) nq_Walk))
  (sb_cons (ss_for (passes_of rfl) rfl (si_it (sq_par (i := 0) (hq := nq_row))) (sg_name nd_walk_there) (fun s => (sb_cons (ss_exprX (sx_meth (i := 2) (C := "Walk") (nb := 1) F_Walk_meet (hr.mono (by decide)) (sa_v (se_var (i := 3) (hq := nq_place)) sa_nil) nq_walk kno_Walk_meet))
  sb_nil)) (by first | decide | simp [Tg.is]))
  (sb_cons (ss_exprX (sx_meth0 (i := 2) (C := "Walk") F_Walk_end (hr.mono (by decide)) nq_walk kno_Walk_end))
  (sb_cons (ss_retV (i := 2) (hq := nq_walk))
  sb_nil))))
abbrev st_walked : Stmt := topS 15
abbrev N_walked : List Str := ["row", "creel"]
theorem sc_walked : FnScope N_walked ["row", "creel"] (defScope st_walked) := ⟨rfl, rfl, rfl, by decide +kernel, rfl, by decide +kernel, by decide +kernel⟩
theorem nd_walked : N_walked.Nodup := sc_walked.nd
theorem ok_walked [md : Md] {P : Program} {w : World} {K : PySem.W.Frag} {mg : Str → Option Value} {base : Heap} {cl : Cl} {fa : Addr} {fd : FuncData} (B : Bl mg) (hK : cl.K = K) (F : Fun K "walked" "walked" st_walked fa fd) (gm : mg "walked" = some (.ref fa)) (bn : Binds K fd ["row", "creel"] []) (O_Walk_fresh : FldOk K cl "Walk" "fresh") (F_look_row : Fi P w K mg base cl "look_row" 3 [false] .val f_look_row) (F_look_creel : Fi P w K mg base cl "look_creel" 1 [false] .val f_look_creel) (F_walk_there : Fi P w K mg base cl "walk_there" 4 [false, true] (.obj none kk_Walk) f_walk_there) : Fi P w K mg base cl "walked" 5 [false, true] (.own none) f_walked := by
  refine def_ok (ls := []) (m := m_walked) (ks' := []) F sc_walked gm bn rfl rfl rfl (.inr rfl) (fun cdv A outer s H E h0 s0 b0 hr => ?_)
  exact (sb_cons (ss_expr (se_call F_look_row (hr.mono (by decide)) (sa_b (se_varB (i := 0) (hq := nq_row)) sa_nil) nq_look_row))
  (sb_cons (ss_expr (se_call F_look_creel (hr.mono (by decide)) (sa_b ((se_var (i := 1) (hq := nq_creel))).valBor sa_nil) nq_look_creel))
  (sb_cons (ss_ret (se_attrT (j := 3) O_Walk_fresh (se_call F_walk_there (hr.mono (by decide)) (sa_b (se_varB (i := 0) (hq := nq_row)) (sa_v (se_var (i := 1) (hq := nq_creel)) sa_nil)) nq_walk_there) (hnd := knd_Walk)))
  sb_nil)))
abbrev st_peel : Stmt := topS 17
abbrev N_peel : List Str := ["row", "fresh", "by", "first", "last", "place"]
theorem sc_peel : FnScope N_peel ["row"] (defScope st_peel) := ⟨rfl, rfl, rfl, by decide +kernel, rfl, by decide +kernel, by decide +kernel⟩
theorem nd_peel : N_peel.Nodup := sc_peel.nd
theorem ok_peel [md : Md] {P : Program} {w : World} {K : PySem.W.Frag} {mg : Str → Option Value} {base : Heap} {cl : Cl} {fa : Addr} {fd : FuncData} (B : Bl mg) (hK : cl.K = K) (F : Fun K "peel" "peel" st_peel fa fd) (gm : mg "peel" = some (.ref fa)) (bn : Binds K fd ["row"] []) (F_runs_of : Fi P w K mg base cl "runs_of" 1 [false] (.own none) f_runs_of) : Fi P w K mg base cl "peel" 2 [false] (.own none) f_peel := by
  refine def_ok (ls := [.own none, .val, .val, .val, .val]) (m := m_peel) (ks' := []) F sc_peel gm bn rfl rfl rfl (.inr rfl) (fun cdv A outer s H E h0 s0 b0 hr => ?_)
  exact (sb_cons (ss_set (i := 1) nd_peel (se_lst (n := 0) sa_nil))
  (sb_cons (ss_set (i := 2) nd_peel se_int)
  (sb_cons (ss_for (passes_of rfl) rfl (si_it (sq_val ((se_call F_runs_of (hr.mono (by decide)) (sa_b (se_varB (i := 0) (hq := nq_row)) sa_nil) nq_runs_of)).toVal)) (sg_tup rfl (sgs_cons nd_peel (sgs_cons nd_peel sgs_nil))) (fun s => (sb_cons (ss_ext (i := 1) nd_peel ((se_comp [("place", 5)] rfl nd_peel (si_range2 B.range ((se_var (i := 3) (hq := nq_first))).valBor ((se_var (i := 4) (hq := nq_last))).valBor) (blkOk_by (N := N_peel) (sc := defScope st_peel) (own := [("place", 5)]) (by decide +kernel)) (by decide) (by decide) (fun _ _ _ _ _ => sg_name nd_peel) (fun _ _ _ _ _ => sp_nil) (fun _ _ _ _ _ => (se_sub ((se_var (i := 5) (hq := nq_place))).valBor ((se_var (i := 2) (hq := nq_by))).valBor)))).toVal)
  (sb_cons (ss_iadd (i := 2) nd_peel (se_int).valBor)
  sb_nil))) (by first | decide | simp [Tg.is]))
  (sb_cons (ss_retV (i := 1) (hq := nq_fresh))
  sb_nil))))
abbrev st_rounds : Stmt := topS 18
abbrev N_rounds : List Str := ["row", "found"]
theorem sc_rounds : FnScope N_rounds ["row"] (defScope st_rounds) := ⟨rfl, rfl, rfl, by decide +kernel, rfl, by decide +kernel, by decide +kernel⟩
theorem nd_rounds : N_rounds.Nodup := sc_rounds.nd
theorem ok_rounds [md : Md] {P : Program} {w : World} {K : PySem.W.Frag} {mg : Str → Option Value} {base : Heap} {cl : Cl} {fa : Addr} {fd : FuncData} (B : Bl mg) (hK : cl.K = K) (F : Fun K "rounds" "rounds" st_rounds fa fd) (gm : mg "rounds" = some (.ref fa)) (bn : Binds K fd ["row"] []) (F_look_row : Fi P w K mg base cl "look_row" 3 [false] .val f_look_row) (F_runs_of : Fi P w K mg base cl "runs_of" 1 [false] (.own none) f_runs_of) (F_peel : Fi P w K mg base cl "peel" 2 [false] (.own none) f_peel) : Fi P w K mg base cl "rounds" 4 [true] (.own none) f_rounds := by
  refine def_ok (ls := [.own none]) (m := m_rounds) (ks' := []) F sc_rounds gm bn rfl rfl rfl (.inr rfl) (fun cdv A outer s H E h0 s0 b0 hr => ?_)
  exact (sb_cons (ss_expr (se_call F_look_row (hr.mono (by decide)) (sa_b ((se_var (i := 0) (hq := nq_row))).valBor sa_nil) nq_look_row))
  (sb_cons (ss_set (i := 1) nd_rounds (se_lst (n := 0) sa_nil))
  (sb_cons (ss_while WB (passes_of rfl) (st_cmp (op_neD hr.units) opv_ne nox_ne ((se_var (i := 0) (hq := nq_row))).valBor ((se_lst (n := 0) sa_nil)).toBor)
  (sb_cons (ss_append (i := 1) (hq := nq_found) (sf_Len B (sa_b ((se_call F_runs_of (hr.mono (by decide)) (sa_b ((se_var (i := 0) (hq := nq_row))).valBor sa_nil) nq_runs_of)).toBor sa_nil)))
  (sb_cons (ss_set (i := 0) nd_rounds ((se_call F_peel (hr.mono (by decide)) (sa_b ((se_var (i := 0) (hq := nq_row))).valBor sa_nil) nq_peel)).toVal)
  sb_nil)))
  (sb_cons (ss_retV (i := 1) (hq := nq_found))
  sb_nil))))
abbrev st_sizes_of : Stmt := topS 19
abbrev N_sizes_of : List Str := ["at_least", "found", "number", "more"]
theorem sc_sizes_of : FnScope N_sizes_of ["at_least"] (defScope st_sizes_of) := ⟨rfl, rfl, rfl, by decide +kernel, rfl, by decide +kernel, by decide +kernel⟩
theorem nd_sizes_of : N_sizes_of.Nodup := sc_sizes_of.nd
theorem ok_sizes_of [md : Md] {P : Program} {w : World} {K : PySem.W.Frag} {mg : Str → Option Value} {base : Heap} {cl : Cl} {fa : Addr} {fd : FuncData} (B : Bl mg) (hK : cl.K = K) (F : Fun K "sizes_of" "sizes_of" st_sizes_of fa fd) (gm : mg "sizes_of" = some (.ref fa)) (bn : Binds K fd ["at_least"] [])  : Fi P w K mg base cl "sizes_of" 1 [false] (.own none) f_sizes_of := by
  refine def_ok (ls := [.own none, .val, .val]) (m := m_sizes_of) (ks' := []) F sc_sizes_of gm bn rfl rfl rfl (.inr rfl) (fun cdv A outer s H E h0 s0 b0 hr => ?_)
  exact (sb_cons (ss_set (i := 1) nd_sizes_of (se_lst (n := 0) sa_nil))
  (sb_cons (ss_for (passes_of rfl) rfl (si_range1 B.range ((sf_Len B (sa_b (se_varB (i := 0) (hq := nq_at_least)) sa_nil))).valBor) (sg_name nd_sizes_of) (fun s => (sb_cons (ss_set (i := 3) nd_sizes_of se_int)
  (sb_cons (ss_if (st_cmp op_lt opv_lt nox_lt ((se_add ((se_var (i := 2) (hq := nq_number))).valBor (se_int).valBor)).toBor ((sf_Len B (sa_b (se_varB (i := 0) (hq := nq_at_least)) sa_nil))).valBor)
  (sb_cons (ss_set (i := 3) nd_sizes_of (se_ix (se_varB (i := 0) (hq := nq_at_least)) ((se_add ((se_var (i := 2) (hq := nq_number))).valBor (se_int).valBor)).toBor))
  sb_nil)
  sb_nil)
  (sb_cons (ss_ext (i := 1) nd_sizes_of ((se_mul ((se_lst (n := 1) (sa_v ((se_add ((se_var (i := 2) (hq := nq_number))).valBor (se_int).valBor)).toVal sa_nil))).toBor ((se_sub ((se_ix (se_varB (i := 0) (hq := nq_at_least)) ((se_var (i := 2) (hq := nq_number))).valBor)).valBor ((se_var (i := 3) (hq := nq_more))).valBor)).valBor)).toVal)
  sb_nil)))) (by first | decide | simp [Tg.is]))
  (sb_cons (ss_retV (i := 1) (hq := nq_found))
  sb_nil)))
abbrev st_sizes_by_rounds : Stmt := topS 20
abbrev N_sizes_by_rounds : List Str := ["row"]
theorem sc_sizes_by_rounds : FnScope N_sizes_by_rounds ["row"] (defScope st_sizes_by_rounds) := ⟨rfl, rfl, rfl, by decide +kernel, rfl, by decide +kernel, by decide +kernel⟩
theorem nd_sizes_by_rounds : N_sizes_by_rounds.Nodup := sc_sizes_by_rounds.nd
theorem ok_sizes_by_rounds [md : Md] {P : Program} {w : World} {K : PySem.W.Frag} {mg : Str → Option Value} {base : Heap} {cl : Cl} {fa : Addr} {fd : FuncData} (B : Bl mg) (hK : cl.K = K) (F : Fun K "sizes_by_rounds" "sizes_by_rounds" st_sizes_by_rounds fa fd) (gm : mg "sizes_by_rounds" = some (.ref fa)) (bn : Binds K fd ["row"] []) (F_rounds : Fi P w K mg base cl "rounds" 4 [true] (.own none) f_rounds) (F_sizes_of : Fi P w K mg base cl "sizes_of" 1 [false] (.own none) f_sizes_of) : Fi P w K mg base cl "sizes_by_rounds" 5 [true] (.own none) f_sizes_by_rounds := by
  refine def_ok (ls := []) (m := m_sizes_by_rounds) (ks' := []) F sc_sizes_by_rounds gm bn rfl rfl rfl (.inr rfl) (fun cdv A outer s H E h0 s0 b0 hr => ?_)
  exact (sb_cons (ss_ret (se_call F_sizes_of (hr.mono (by decide)) (sa_b ((se_call F_rounds (hr.mono (by decide)) (sa_v (se_var (i := 0) (hq := nq_row)) sa_nil) nq_rounds)).toBor sa_nil) nq_sizes_of))
  sb_nil)
abbrev st_road_of : Stmt := topS 21
abbrev N_road_of : List Str := ["row", "found", "first", "last", "ahead"]
theorem sc_road_of : FnScope N_road_of ["row"] (defScope st_road_of) := ⟨rfl, rfl, rfl, by decide +kernel, rfl, by decide +kernel, by decide +kernel⟩
theorem nd_road_of : N_road_of.Nodup := sc_road_of.nd
theorem ok_road_of [md : Md] {P : Program} {w : World} {K : PySem.W.Frag} {mg : Str → Option Value} {base : Heap} {cl : Cl} {fa : Addr} {fd : FuncData} (B : Bl mg) (hK : cl.K = K) (F : Fun K "road_of" "road_of" st_road_of fa fd) (gm : mg "road_of" = some (.ref fa)) (bn : Binds K fd ["row"] []) (F_runs_of : Fi P w K mg base cl "runs_of" 1 [false] (.own none) f_runs_of) : Fi P w K mg base cl "road_of" 2 [false] (.own none) f_road_of := by
  refine def_ok (ls := [.own none, .val, .val, .val]) (m := m_road_of) (ks' := []) F sc_road_of gm bn rfl rfl rfl (.inr rfl) (fun cdv A outer s H E h0 s0 b0 hr => ?_)
  exact (sb_cons (ss_set (i := 1) nd_road_of (se_lst (n := 0) sa_nil))
  (sb_cons (ss_for (passes_of rfl) rfl (si_it (sq_val ((se_call F_runs_of (hr.mono (by decide)) (sa_b (se_varB (i := 0) (hq := nq_row)) sa_nil) nq_runs_of)).toVal)) (sg_tup rfl (sgs_cons nd_road_of (sgs_cons nd_road_of sgs_nil))) (fun s => (sb_cons (ss_if (st_cmp (op_neD hr.units) opv_ne nox_ne (se_varB (i := 1) (hq := nq_found)) ((se_lst (n := 0) sa_nil)).toBor)
  (sb_cons (ss_set (i := 4) nd_road_of (se_ix ((se_ix ((se_ix (se_varB (i := 1) (hq := nq_found)) ((se_neg (se_int).valBor)).valBor)).valBor (se_int).valBor)).valBor ((se_neg (se_int).valBor)).valBor))
  (sb_cons (ss_append (i := 1) (hq := nq_found) (se_tup (n := 2) (sa_v se_bl (sa_v ((se_lrgW B ((se_add ((se_var (i := 4) (hq := nq_ahead))).valBor (se_int).valBor)).toBor ((sf_Min2 B (sa_b ((se_var (i := 2) (hq := nq_first))).valBor (sa_b ((se_add ((se_add ((se_var (i := 4) (hq := nq_ahead))).valBor (se_int).valBor)).toBor ((sf_Len B (sa_b (se_varB (i := 0) (hq := nq_row)) sa_nil))).valBor)).toBor sa_nil)))).valBor)).toVal sa_nil))))
  sb_nil))
  sb_nil)
  (sb_cons (ss_append (i := 1) (hq := nq_found) (se_tup (n := 2) (sa_v se_bl (sa_v ((se_lrgW B ((se_var (i := 2) (hq := nq_first))).valBor ((se_add ((se_var (i := 3) (hq := nq_last))).valBor (se_int).valBor)).toBor)).toVal sa_nil))))
  sb_nil))) (by first | decide | simp [Tg.is]))
  (sb_cons (ss_set (i := 4) nd_road_of (se_ix ((se_ix ((se_ix (se_varB (i := 1) (hq := nq_found)) ((se_neg (se_int).valBor)).valBor)).valBor (se_int).valBor)).valBor ((se_neg (se_int).valBor)).valBor))
  (sb_cons (ss_append (i := 1) (hq := nq_found) (se_tup (n := 2) (sa_v se_bl (sa_v ((se_lrgW B ((se_add ((se_var (i := 4) (hq := nq_ahead))).valBor (se_int).valBor)).toBor ((se_add ((se_add ((se_var (i := 4) (hq := nq_ahead))).valBor (se_int).valBor)).toBor ((sf_Len B (sa_b (se_varB (i := 0) (hq := nq_row)) sa_nil))).valBor)).toBor)).toVal sa_nil))))
  (sb_cons (ss_retV (i := 1) (hq := nq_found))
  sb_nil)))))
abbrev st_joined_runs : Stmt := topS 22
abbrev N_joined_runs : List Str := ["runs", "found", "full", "places"]
theorem sc_joined_runs : FnScope N_joined_runs ["runs"] (defScope st_joined_runs) := ⟨rfl, rfl, rfl, by decide +kernel, rfl, by decide +kernel, by decide +kernel⟩
theorem nd_joined_runs : N_joined_runs.Nodup := sc_joined_runs.nd
theorem ok_joined_runs [md : Md] {P : Program} {w : World} {K : PySem.W.Frag} {mg : Str → Option Value} {base : Heap} {cl : Cl} {fa : Addr} {fd : FuncData} (B : Bl mg) (hK : cl.K = K) (F : Fun K "joined_runs" "joined_runs" st_joined_runs fa fd) (gm : mg "joined_runs" = some (.ref fa)) (bn : Binds K fd ["runs"] [])  : Fi P w K mg base cl "joined_runs" 1 [false] (.own none) f_joined_runs := by
  refine def_ok (ls := [.own none, .val, .val]) (m := m_joined_runs) (ks' := []) F sc_joined_runs gm bn rfl rfl rfl (.inr rfl) (fun cdv A outer s H E h0 s0 b0 hr => ?_)
  exact (sb_cons (ss_set (i := 1) nd_joined_runs (se_lst (n := 0) sa_nil))
  (sb_cons (ss_for (passes_of rfl) rfl (si_it (sq_par (i := 0) (hq := nq_runs))) (sg_tup rfl (sgs_cons nd_joined_runs (sgs_cons nd_joined_runs sgs_nil))) (fun s => (sb_cons (ss_if (st_of (sw_and (st_cmp (op_neD hr.units) opv_ne nox_ne ((se_var (i := 3) (hq := nq_places))).valBor ((se_lst (n := 0) sa_nil)).toBor) (sw_and1 (st_of (sw_or (st_cmp (op_neD hr.units) opv_ne nox_ne (se_varB (i := 1) (hq := nq_found)) ((se_lst (n := 0) sa_nil)).toBor) (sw_or1 (st_truth ((se_var (i := 2) (hq := nq_full))).valBor)))))))
  (sb_cons (ss_if (st_of (sw_and (st_cmp (op_neD hr.units) opv_ne nox_ne (se_varB (i := 1) (hq := nq_found)) ((se_lst (n := 0) sa_nil)).toBor) (sw_and1 (st_cmp (op_eqD hr.units) opv_eq nox_eq ((se_ix ((se_ix (se_varB (i := 1) (hq := nq_found)) ((se_neg (se_int).valBor)).valBor)).valBor (se_int).valBor)).valBor ((se_var (i := 2) (hq := nq_full))).valBor))))
  (sb_cons (ss_setI (i := 1) (hq := nq_found) ((se_neg (se_int).valBor)).valBor (se_tup (n := 2) (sa_v (se_var (i := 2) (hq := nq_full)) (sa_v ((se_add ((se_ix ((se_ix (se_varB (i := 1) (hq := nq_found)) ((se_neg (se_int).valBor)).valBor)).valBor (se_int).valBor)).valBor ((se_var (i := 3) (hq := nq_places))).valBor)).toVal sa_nil))))
  sb_nil)
  (sb_cons (ss_append (i := 1) (hq := nq_found) (se_tup (n := 2) (sa_v (se_var (i := 2) (hq := nq_full)) (sa_v (se_var (i := 3) (hq := nq_places)) sa_nil))))
  sb_nil))
  sb_nil)
  sb_nil)
  sb_nil)) (by first | decide | simp [Tg.is]))
  (sb_cons (ss_retV (i := 1) (hq := nq_found))
  sb_nil)))
abbrev st_parted_run : Stmt := topS 23
abbrev N_parted_run : List Str := ["runs", "at"]
theorem sc_parted_run : FnScope N_parted_run ["runs"] (defScope st_parted_run) := ⟨rfl, rfl, rfl, by decide +kernel, rfl, by decide +kernel, by decide +kernel⟩
theorem nd_parted_run : N_parted_run.Nodup := sc_parted_run.nd
theorem ok_parted_run [md : Md] {P : Program} {w : World} {K : PySem.W.Frag} {mg : Str → Option Value} {base : Heap} {cl : Cl} {fa : Addr} {fd : FuncData} (B : Bl mg) (hK : cl.K = K) (F : Fun K "parted_run" "parted_run" st_parted_run fa fd) (gm : mg "parted_run" = some (.ref fa)) (bn : Binds K fd ["runs"] [])  : Fi P w K mg base cl "parted_run" 1 [false] .val f_parted_run := by
  refine def_ok (ls := [.val]) (m := m_parted_run) (ks' := []) F sc_parted_run gm bn rfl rfl rfl (.inl rfl) (fun cdv A outer s H E h0 s0 b0 hr => ?_)
  exact (sb_cons (ss_set (i := 1) nd_parted_run se_int)
  (sb_cons (ss_while WB (passes_of rfl) (st_cmp op_lt opv_lt nox_lt ((sf_Len B (sa_b ((se_ix ((se_ix (se_varB (i := 0) (hq := nq_runs)) ((se_var (i := 1) (hq := nq_at))).valBor)).valBor (se_int).valBor)).valBor sa_nil))).valBor ((sf_Len B (sa_b ((se_ix ((se_ix (se_varB (i := 0) (hq := nq_runs)) ((se_sub ((se_var (i := 1) (hq := nq_at))).valBor (se_int).valBor)).valBor)).valBor (se_int).valBor)).valBor sa_nil))).valBor)
  (sb_cons (ss_iadd (i := 1) nd_parted_run (se_int).valBor)
  sb_nil))
  (sb_cons (ss_ret (se_var (i := 1) (hq := nq_at)))
  sb_nil)))
abbrev st_heads : Stmt := topS 24
abbrev N_heads : List Str := ["row", "found", "runs", "at", "ahead", "many", "own", "full", "empty"]
theorem sc_heads : FnScope N_heads ["row"] (defScope st_heads) := ⟨rfl, rfl, rfl, by decide +kernel, rfl, by decide +kernel, by decide +kernel⟩
theorem nd_heads : N_heads.Nodup := sc_heads.nd
theorem ok_heads [md : Md] {P : Program} {w : World} {K : PySem.W.Frag} {mg : Str → Option Value} {base : Heap} {cl : Cl} {fa : Addr} {fd : FuncData} (B : Bl mg) (hK : cl.K = K) (F : Fun K "heads" "heads" st_heads fa fd) (gm : mg "heads" = some (.ref fa)) (bn : Binds K fd ["row"] []) (F_look_row : Fi P w K mg base cl "look_row" 3 [false] .val f_look_row) (F_road_of : Fi P w K mg base cl "road_of" 2 [false] (.own none) f_road_of) (F_parted_run : Fi P w K mg base cl "parted_run" 1 [false] .val f_parted_run) (F_joined_runs : Fi P w K mg base cl "joined_runs" 1 [false] (.own none) f_joined_runs) : Fi P w K mg base cl "heads" 4 [false] (.own none) f_heads := by
  refine def_ok (ls := [.own none, .own none, .val, .val, .val, .val, .val, .val]) (m := m_heads) (ks' := []) F sc_heads gm bn rfl rfl rfl (.inr rfl) (fun cdv A outer s H E h0 s0 b0 hr => ?_)
  exact (sb_cons (ss_expr (se_call F_look_row (hr.mono (by decide)) (sa_b (se_varB (i := 0) (hq := nq_row)) sa_nil) nq_look_row))
  (sb_cons (ss_set (i := 1) nd_heads (se_lst (n := 0) sa_nil))
  (sb_cons (ss_set (i := 2) nd_heads (se_if (st_cmp (op_eqD hr.units) opv_eq nox_eq (se_varB (i := 0) (hq := nq_row)) ((se_lst (n := 0) sa_nil)).toBor) (se_lst (n := 0) sa_nil) (se_call F_road_of (hr.mono (by decide)) (sa_b (se_varB (i := 0) (hq := nq_row)) sa_nil) nq_road_of)))
  (sb_cons (ss_while WB (passes_of rfl) (st_cmp (op_neD hr.units) opv_ne nox_ne (se_varB (i := 2) (hq := nq_runs)) ((se_lst (n := 0) sa_nil)).toBor)
  (sb_cons (ss_set (i := 3) nd_heads (se_call F_parted_run (hr.mono (by decide)) (sa_b (se_varB (i := 2) (hq := nq_runs)) sa_nil) nq_parted_run))
  (sb_cons (ss_set (i := 4) nd_heads (se_ix (se_varB (i := 2) (hq := nq_runs)) ((se_sub ((se_var (i := 3) (hq := nq_at))).valBor (se_int).valBor)).valBor))
  (sb_cons (ss_set (i := 5) nd_heads (sf_Len B (sa_b ((se_ix ((se_var (i := 4) (hq := nq_ahead))).valBor (se_int).valBor)).valBor sa_nil)))
  (sb_cons (ss_set (i := 6) nd_heads (se_tup (n := 2) (sa_v (sf_Tuple B (sa_b ((se_ix ((se_var (i := 4) (hq := nq_ahead))).valBor (se_int).valBor)).valBor sa_nil)) (sa_v (sf_Tuple B (sa_b ((se_slL ((se_ix ((se_ix (se_varB (i := 2) (hq := nq_runs)) ((se_var (i := 3) (hq := nq_at))).valBor)).valBor (se_int).valBor)).valBor so_none (so_some ((se_var (i := 5) (hq := nq_many))).valBor))).toBor sa_nil)) sa_nil))))
  (sb_cons (ss_if (st_not (st_truth ((se_ix ((se_var (i := 4) (hq := nq_ahead))).valBor (se_int).valBor)).valBor))
  (sb_cons (ss_set (i := 6) nd_heads (se_tup (n := 2) (sa_v (se_ix ((se_var (i := 6) (hq := nq_own))).valBor (se_int).valBor) (sa_v (se_ix ((se_var (i := 6) (hq := nq_own))).valBor (se_int).valBor) sa_nil))))
  sb_nil)
  sb_nil)
  (sb_cons (ss_append (i := 1) (hq := nq_found) ((se_add ((se_tup (n := 1) (sa_v (se_var (i := 5) (hq := nq_many)) sa_nil))).valBor ((se_var (i := 6) (hq := nq_own))).valBor)).toVal)
  (sb_cons (ss_setI (i := 2) (hq := nq_runs) ((se_var (i := 3) (hq := nq_at))).valBor (se_tup (n := 2) (sa_v (se_ix ((se_ix (se_varB (i := 2) (hq := nq_runs)) ((se_var (i := 3) (hq := nq_at))).valBor)).valBor (se_int).valBor) (sa_v ((se_slL ((se_ix ((se_ix (se_varB (i := 2) (hq := nq_runs)) ((se_var (i := 3) (hq := nq_at))).valBor)).valBor (se_int).valBor)).valBor (so_some ((se_var (i := 5) (hq := nq_many))).valBor) so_none)).toVal sa_nil))))
  (sb_cons (ss_set (i := 2) nd_heads (se_call F_joined_runs (hr.mono (by decide)) (sa_b ((se_add ((se_slL (se_varB (i := 2) (hq := nq_runs)) so_none (so_some ((se_sub ((se_var (i := 3) (hq := nq_at))).valBor (se_int).valBor)).valBor))).toBor ((se_slL (se_varB (i := 2) (hq := nq_runs)) (so_some ((se_var (i := 3) (hq := nq_at))).valBor) so_none)).toBor)).toBor sa_nil) nq_joined_runs))
  sb_nil)))))))))
  (sb_cons (ss_ret (se_comp [("many", 5), ("full", 7), ("empty", 8)] rfl nd_heads (si_it (sq_val ((se_sortedD B hr.units65 (se_varB (i := 1) (hq := nq_found)))).toVal)) (blkOk_by (N := N_heads) (sc := defScope st_heads) (own := [("many", 5), ("full", 7), ("empty", 8)]) (by decide +kernel)) (by decide) (by decide) (fun _ _ _ _ _ => sg_tup rfl (sgs_cons nd_heads (sgs_cons nd_heads (sgs_cons nd_heads sgs_nil)))) (fun _ _ _ _ _ => sp_nil) (fun _ _ _ _ _ => (se_tup (n := 2) (sa_v (se_var (i := 7) (hq := nq_full)) (sa_v (se_var (i := 8) (hq := nq_empty)) sa_nil))))))
  sb_nil)))))
abbrev st_numbers_L : Stmt := topS 26
abbrev N_numbers_L : List Str := ["_law_script", "_law_many", "_law_row_here", "_law_seed", "_law_cell", "_law_rest", "_law_k"]
theorem sc_numbers_L : FnScope N_numbers_L ["_law_script", "_law_many"] (defScope st_numbers_L) := ⟨rfl, rfl, rfl, by decide +kernel, rfl, by decide +kernel, by decide +kernel⟩
theorem nd_numbers_L : N_numbers_L.Nodup := sc_numbers_L.nd
theorem ok_numbers_L [md : Md] {P : Program} {w : World} {K : PySem.W.Frag} {mg : Str → Option Value} {base : Heap} {cl : Cl} {fa : Addr} {fd : FuncData} (B : Bl mg) (hK : cl.K = K) (F : Fun K "_law_numbers" "_law_numbers" st_numbers_L fa fd) (gm : mg "_law_numbers" = some (.ref fa)) (bn : Binds K fd ["_law_script", "_law_many"] [])  : Fi P w K mg base cl "_law_numbers" 1 [false, false] (.own none) f_numbers_L := by
  refine def_ok (ls := [.own none, .val, .val, .val, .val]) (m := m_numbers_L) (ks' := []) F sc_numbers_L gm bn rfl rfl rfl (.inr rfl) (fun cdv A outer s H E h0 s0 b0 hr => ?_)
  exact (sb_cons (ss_set (i := 2) nd_numbers_L (se_lst (n := 0) sa_nil))
  (sb_cons (ss_set (i := 3) nd_numbers_L se_int)
  (sb_cons (ss_for (passes_of rfl) rfl (si_it (sq_val ((se_slS hK (se_varB (i := 0) (hq := nq__law_script)) so_none (so_some (se_int).valBor))).toVal)) (sg_name nd_numbers_L) (fun s => (sb_cons (ss_set (i := 3) nd_numbers_L (se_mod ((se_add ((se_add ((se_mul ((se_var (i := 3) (hq := nq__law_seed))).valBor (se_int).valBor)).toBor ((se_mod ((se_var (i := 4) (hq := nq__law_cell))).valBor (se_int).valBor)).valBor)).toBor (se_int).valBor)).toBor (se_int).valBor))
  (sb_cons (ss_set (i := 5) nd_numbers_L (se_sub ((se_var (i := 4) (hq := nq__law_cell))).valBor ((se_pow (se_int).valBor (se_int).valBor)).valBor))
  (sb_cons (ss_if (st_cmp op_lt opv_lt nox_lt ((se_var (i := 5) (hq := nq__law_rest))).valBor (se_int).valBor)
  (sb_cons (ss_append (i := 2) (hq := nq__law_row_here) (se_mod ((se_var (i := 4) (hq := nq__law_cell))).valBor (se_int).valBor))
  sb_nil)
  sb_nil)
  (sb_cons (ss_for (passes_of rfl) rfl (si_range1 B.range (se_int).valBor) (sg_name nd_numbers_L) (fun s => (sb_cons (ss_if (st_cmp op_gt opv_gt nox_gt ((se_var (i := 5) (hq := nq__law_rest))).valBor (se_int).valBor)
  (sb_cons (ss_append (i := 2) (hq := nq__law_row_here) (se_mod ((se_var (i := 5) (hq := nq__law_rest))).valBor (se_int).valBor))
  (sb_cons (ss_set (i := 5) nd_numbers_L (se_fdiv ((se_var (i := 5) (hq := nq__law_rest))).valBor (se_int).valBor))
  sb_nil))
  sb_nil)
  sb_nil)) (by first | decide | simp [Tg.is]))
  sb_nil))))) (by first | decide | simp [Tg.is]))
  (sb_cons (ss_while WB (passes_of rfl) (st_cmp op_lt opv_lt nox_lt ((sf_Len B (sa_b (se_varB (i := 2) (hq := nq__law_row_here)) sa_nil))).valBor (se_varB (i := 1) (hq := nq__law_many)))
  (sb_cons (ss_set (i := 3) nd_numbers_L (se_mod ((se_add ((se_add ((se_add ((se_mul ((se_var (i := 3) (hq := nq__law_seed))).valBor ((se_var (i := 3) (hq := nq__law_seed))).valBor)).toBor ((se_mul (se_int).valBor ((se_var (i := 3) (hq := nq__law_seed))).valBor)).toBor)).toBor ((se_mul (se_int).valBor ((sf_Len B (sa_b (se_varB (i := 2) (hq := nq__law_row_here)) sa_nil))).valBor)).toBor)).toBor (se_int).valBor)).toBor (se_int).valBor))
  (sb_cons (ss_append (i := 2) (hq := nq__law_row_here) (se_mod ((se_fdiv ((se_var (i := 3) (hq := nq__law_seed))).valBor (se_int).valBor)).valBor (se_int).valBor))
  sb_nil)))
  (sb_cons (ss_ret (se_slL (se_varB (i := 2) (hq := nq__law_row_here)) so_none (so_some (se_varB (i := 1) (hq := nq__law_many)))))
  sb_nil)))))
abbrev st_row_L : Stmt := topS 27
abbrev N_row_L : List Str := ["_law_d", "_law_most", "_law_place", "_law_row_here", "_law_k", "_law_step"]
theorem sc_row_L : FnScope N_row_L ["_law_d", "_law_most"] (defScope st_row_L) := ⟨rfl, rfl, rfl, by decide +kernel, rfl, by decide +kernel, by decide +kernel⟩
theorem nd_row_L : N_row_L.Nodup := sc_row_L.nd
theorem ok_row_L [md : Md] {P : Program} {w : World} {K : PySem.W.Frag} {mg : Str → Option Value} {base : Heap} {cl : Cl} {fa : Addr} {fd : FuncData} (B : Bl mg) (hK : cl.K = K) (F : Fun K "_law_row" "_law_row" st_row_L fa fd) (gm : mg "_law_row" = some (.ref fa)) (bn : Binds K fd ["_law_d", "_law_most"] [])  : Fi P w K mg base cl "_law_row" 1 [false, false] (.own none) f_row_L := by
  refine def_ok (ls := [.val, .own none, .val, .val]) (m := m_row_L) (ks' := []) F sc_row_L gm bn rfl rfl rfl (.inr rfl) (fun cdv A outer s H E h0 s0 b0 hr => ?_)
  exact (sb_cons (ss_set (i := 2) nd_row_L (se_sub ((se_mod ((se_ix (se_varB (i := 0) (hq := nq__law_d)) (se_int).valBor)).valBor (se_int).valBor)).valBor (se_int).valBor))
  (sb_cons (ss_set (i := 3) nd_row_L (se_lst (n := 0) sa_nil))
  (sb_cons (ss_for (passes_of rfl) rfl (si_range1 B.range ((se_mod ((se_ix (se_varB (i := 0) (hq := nq__law_d)) (se_int).valBor)).valBor ((se_add (se_varB (i := 1) (hq := nq__law_most)) (se_int).valBor)).toBor)).valBor) (sg_name nd_row_L) (fun s => (sb_cons (ss_set (i := 5) nd_row_L (se_ix (se_varB (i := 0) (hq := nq__law_d)) ((se_add (se_int).valBor ((se_var (i := 4) (hq := nq__law_k))).valBor)).toBor))
  (sb_cons (ss_set (i := 2) nd_row_L ((se_add ((se_add ((se_var (i := 2) (hq := nq__law_place))).valBor (se_int).valBor)).toBor ((se_if (st_cmp (op_eqD hr.units) opv_eq nox_eq ((se_mod ((se_var (i := 5) (hq := nq__law_step))).valBor (se_int).valBor)).valBor (se_int).valBor) se_int (se_mod ((se_fdiv ((se_var (i := 5) (hq := nq__law_step))).valBor (se_int).valBor)).valBor ((se_ix ((se_lst (n := 4) (sa_v se_int (sa_v se_int (sa_v se_int (sa_v se_int sa_nil)))))).toBor ((se_mod ((se_ix (se_varB (i := 0) (hq := nq__law_d)) (se_int).valBor)).valBor (se_int).valBor)).valBor)).valBor))).valBor)).toVal)
  (sb_cons (ss_append (i := 3) (hq := nq__law_row_here) (se_var (i := 2) (hq := nq__law_place)))
  sb_nil)))) (by first | decide | simp [Tg.is]))
  (sb_cons (ss_retV (i := 3) (hq := nq__law_row_here))
  sb_nil))))
abbrev st_long_row_L : Stmt := topS 28
abbrev N_long_row_L : List Str := ["_law_d", "_law_most", "_law_row_here", "_law_cut", "_law_by", "_law_place"]
theorem sc_long_row_L : FnScope N_long_row_L ["_law_d", "_law_most"] (defScope st_long_row_L) := ⟨rfl, rfl, rfl, by decide +kernel, rfl, by decide +kernel, by decide +kernel⟩
theorem nd_long_row_L : N_long_row_L.Nodup := sc_long_row_L.nd
theorem ok_long_row_L [md : Md] {P : Program} {w : World} {K : PySem.W.Frag} {mg : Str → Option Value} {base : Heap} {cl : Cl} {fa : Addr} {fd : FuncData} (B : Bl mg) (hK : cl.K = K) (F : Fun K "_law_long_row" "_law_long_row" st_long_row_L fa fd) (gm : mg "_law_long_row" = some (.ref fa)) (bn : Binds K fd ["_law_d", "_law_most"] []) (F_row_L : Fi P w K mg base cl "_law_row" 1 [false, false] (.own none) f_row_L) : Fi P w K mg base cl "_law_long_row" 2 [false, false] (.own none) f_long_row_L := by
  refine def_ok (ls := [.val, .val, .val, .val]) (m := m_long_row_L) (ks' := []) F sc_long_row_L gm bn rfl rfl rfl (.inr rfl) (fun cdv A outer s H E h0 s0 b0 hr => ?_)
  exact (sb_cons (ss_set (i := 2) nd_long_row_L ((se_call F_row_L (hr.mono (by decide)) (sa_b (se_varB (i := 0) (hq := nq__law_d)) (sa_b (se_varB (i := 1) (hq := nq__law_most)) sa_nil)) nq__law_row)).toVal)
  (sb_cons (ss_set (i := 3) nd_long_row_L (se_mod ((se_fdiv ((se_ix (se_varB (i := 0) (hq := nq__law_d)) (se_int).valBor)).valBor (se_int).valBor)).valBor ((se_add ((sf_Len B (sa_b ((se_var (i := 2) (hq := nq__law_row_here))).valBor sa_nil))).valBor (se_int).valBor)).toBor))
  (sb_cons (ss_set (i := 4) nd_long_row_L (se_ix ((se_lst (n := 4) (sa_v se_int (sa_v (se_pow (se_int).valBor (se_int).valBor) (sa_v (se_pow (se_int).valBor (se_int).valBor) (sa_v (se_pow (se_int).valBor (se_int).valBor) sa_nil)))))).toBor ((se_mod ((se_fdiv ((se_ix (se_varB (i := 0) (hq := nq__law_d)) (se_int).valBor)).valBor (se_int).valBor)).valBor (se_int).valBor)).valBor))
  (sb_cons (ss_ret (se_add ((se_slL ((se_var (i := 2) (hq := nq__law_row_here))).valBor so_none (so_some ((se_var (i := 3) (hq := nq__law_cut))).valBor))).toBor (SE.toBor (se_comp [("_law_place", 5)] rfl nd_long_row_L (si_it (sq_val ((se_slL ((se_var (i := 2) (hq := nq__law_row_here))).valBor (so_some ((se_var (i := 3) (hq := nq__law_cut))).valBor) so_none)).toVal)) (blkOk_by (N := N_long_row_L) (sc := defScope st_long_row_L) (own := [("_law_place", 5)]) (by decide +kernel)) (by decide) (by decide) (fun _ _ _ _ _ => sg_name nd_long_row_L) (fun _ _ _ _ _ => sp_nil) (fun _ _ _ _ _ => ((se_add ((se_var (i := 5) (hq := nq__law_place))).valBor ((se_var (i := 4) (hq := nq__law_by))).valBor)).toVal)))))
  sb_nil))))
abbrev st_all_L : Stmt := topS 29
abbrev N_all_L : List Str := ["_law_pairs", "_law_side", "_law_found", "_law_pair"]
theorem sc_all_L : FnScope N_all_L ["_law_pairs", "_law_side"] (defScope st_all_L) := ⟨rfl, rfl, rfl, by decide +kernel, rfl, by decide +kernel, by decide +kernel⟩
theorem nd_all_L : N_all_L.Nodup := sc_all_L.nd
theorem ok_all_L [md : Md] {P : Program} {w : World} {K : PySem.W.Frag} {mg : Str → Option Value} {base : Heap} {cl : Cl} {fa : Addr} {fd : FuncData} (B : Bl mg) (hK : cl.K = K) (F : Fun K "_law_all" "_law_all" st_all_L fa fd) (gm : mg "_law_all" = some (.ref fa)) (bn : Binds K fd ["_law_pairs", "_law_side"] [])  : Fi P w K mg base cl "_law_all" 1 [false, false] (.own none) f_all_L := by
  refine def_ok (ls := [.val, .val]) (m := m_all_L) (ks' := []) F sc_all_L gm bn rfl rfl rfl (.inr rfl) (fun cdv A outer s H E h0 s0 b0 hr => ?_)
  exact (sb_cons (ss_set (i := 2) nd_all_L ((se_lst (n := 0) sa_nil)).toVal)
  (sb_cons (ss_for (passes_of rfl) rfl (si_it (sq_par (i := 0) (hq := nq__law_pairs))) (sg_name nd_all_L) (fun s => (sb_cons (ss_set (i := 2) nd_all_L ((se_add ((se_var (i := 2) (hq := nq__law_found))).valBor ((sf_List B (sa_b ((se_ix ((se_var (i := 3) (hq := nq__law_pair))).valBor (se_varB (i := 1) (hq := nq__law_side)))).valBor sa_nil))).toBor)).toVal)
  sb_nil)) (by first | decide | simp [Tg.is]))
  (sb_cons (ss_ret (sf_Sorted B (sa_b ((se_var (i := 2) (hq := nq__law_found))).valBor sa_nil)))
  sb_nil)))
abbrev st_law : Stmt := topS 30
abbrev N_law : List Str := ["_law_script", "_law_numbers_here", "_law_row_here", "_law_turn", "_law_found", "_law_stone", "_law_niche", "_law_one", "_law_other"]
theorem sc_law : FnScope N_law ["_law_script"] (defScope st_law) := ⟨rfl, rfl, rfl, by decide +kernel, rfl, by decide +kernel, by decide +kernel⟩
theorem nd_law : N_law.Nodup := sc_law.nd
open ModeZ in
theorem ok_law {P : Program} {w : World} {K : PySem.W.Frag} {mg : Str → Option Value} {base : Heap} {cl : Cl} {fa : Addr} {fd : FuncData} (B : Bl mg) (hK : cl.K = K) (F : Fun K "law" "law" st_law fa fd) (F_numbers_L : Fi P w K mg base cl "_law_numbers" 1 [false, false] (.own none) f_numbers_L) (F_long_row_L : Fi P w K mg base cl "_law_long_row" 2 [false, false] (.own none) f_long_row_L) (F_heads : Fi P w K mg base cl "heads" 4 [false] (.own none) f_heads) (F_all_L : Fi P w K mg base cl "_law_all" 1 [false, false] (.own none) f_all_L) (F_closings : Fi P w K mg base cl "closings" 4 [false] (.own none) f_closings) (F_sizes_by_rounds : Fi P w K mg base cl "sizes_by_rounds" 5 [true] (.own none) f_sizes_by_rounds) (F_walked : Fi P w K mg base cl "walked" 5 [false, true] (.own none) f_walked) : FnOk P w K mg base (L2.CX P w) 6 fa fd ["_law_script"] (spV cl [false] .val f_law) := by
  refine def_okF (md := mZ) (ls := [.val, .val, .val, .val, .val, .val, .val, .val]) (m := m_law) (ks' := []) F sc_law rfl rfl rfl (.inl rfl) (fun cdv A outer s H E h0 s0 b0 hr => ?_)
  exact (sb_cons (ss_set (i := 1) nd_law ((se_call F_numbers_L (hr.mono (by decide)) (sa_b (se_varB (i := 0) (hq := nq__law_script)) (sa_b (se_int).valBor sa_nil)) nq__law_numbers)).toVal)
  (sb_cons (ss_set (i := 2) nd_law ((se_call F_long_row_L (hr.mono (by decide)) (sa_b ((se_slL ((se_var (i := 1) (hq := nq__law_numbers_here))).valBor (so_some (se_int).valBor) so_none)).toBor (sa_b ((se_ix ((se_lst (n := 3) (sa_v se_int (sa_v se_int (sa_v se_int sa_nil))))).toBor ((se_mod ((se_ix ((se_var (i := 1) (hq := nq__law_numbers_here))).valBor (se_int).valBor)).valBor (se_int).valBor)).valBor)).valBor sa_nil)) nq__law_long_row)).toVal)
  (sb_cons (ss_for (passes_of rfl) rfl (si_range1 B.range (se_int).valBor) (sg_name nd_law) (fun s => (sb_cons (ss_set (i := 4) nd_law ((se_call F_heads (hr.mono (by decide)) (sa_b ((sf_List B (sa_b ((se_var (i := 2) (hq := nq__law_row_here))).valBor sa_nil))).toBor sa_nil) nq_heads)).toVal)
  (sb_cons (ss_if (st_cmp (op_neD hr.units) opv_ne nox_ne ((se_call F_all_L (hr.mono (by decide)) (sa_b ((se_var (i := 4) (hq := nq__law_found))).valBor (sa_b (se_int).valBor sa_nil)) nq__law_all)).toBor ((se_var (i := 2) (hq := nq__law_row_here))).valBor)
  (sb_cons (ss_ret se_bl)
  sb_nil)
  sb_nil)
  (sb_cons (ss_if (st_cmp (op_neD hr.units) opv_ne nox_ne ((se_call F_all_L (hr.mono (by decide)) (sa_b ((se_var (i := 4) (hq := nq__law_found))).valBor (sa_b (se_int).valBor sa_nil)) nq__law_all)).toBor ((sf_Sorted B (sa_b (SE.toBor (se_comp [("_law_stone", 5), ("_law_niche", 6)] rfl nd_law (si_it (sq_val ((se_call F_closings (hr.mono (by decide)) (sa_b ((sf_List B (sa_b ((se_var (i := 2) (hq := nq__law_row_here))).valBor sa_nil))).toBor sa_nil) nq_closings)).toVal)) (blkOk_by (N := N_law) (sc := defScope st_law) (own := [("_law_stone", 5), ("_law_niche", 6)]) (by decide +kernel)) (by decide) (by decide) (fun _ _ _ _ _ => sg_tup rfl (sgs_cons nd_law (sgs_cons nd_law sgs_nil))) (fun _ _ _ _ _ => sp_nil) (fun _ _ _ _ _ => (se_var (i := 6) (hq := nq__law_niche))))) sa_nil))).toBor)
  (sb_cons (ss_ret se_bl)
  sb_nil)
  sb_nil)
  (sb_cons (ss_if (st_cmp (op_neD hr.units) opv_ne nox_ne ((sf_Sorted B (sa_b (SE.toBor (se_comp [("_law_one", 7), ("_law_other", 8)] rfl nd_law (si_it (sq_val (se_var (i := 4) (hq := nq__law_found)))) (blkOk_by (N := N_law) (sc := defScope st_law) (own := [("_law_one", 7), ("_law_other", 8)]) (by decide +kernel)) (by decide) (by decide) (fun _ _ _ _ _ => sg_tup rfl (sgs_cons nd_law (sgs_cons nd_law sgs_nil))) (fun _ _ _ _ _ => sp_nil) (fun _ _ _ _ _ => (sf_Len B (sa_b ((se_var (i := 7) (hq := nq__law_one))).valBor sa_nil))))) sa_nil))).toBor ((se_call F_sizes_by_rounds (hr.mono (by decide)) (sa_v ((sf_List B (sa_b ((se_var (i := 2) (hq := nq__law_row_here))).valBor sa_nil))).toVal sa_nil) nq_sizes_by_rounds)).toBor)
  (sb_cons (ss_ret se_bl)
  sb_nil)
  sb_nil)
  (sb_cons (ss_set (i := 2) nd_law ((se_call F_walked (hr.mono (by decide)) (sa_b ((sf_List B (sa_b ((se_var (i := 2) (hq := nq__law_row_here))).valBor sa_nil))).toBor (sa_v (sf_Max2 B (sa_b (se_int).valBor (sa_b ((sf_Len B (sa_b ((se_var (i := 2) (hq := nq__law_row_here))).valBor sa_nil))).valBor sa_nil))) sa_nil)) nq_walked)).toVal)
  (sb_cons (ss_if (st_cmp (op_neD hr.units) opv_ne nox_ne ((se_sortedD B hr.units65 (SE.toBor (se_comp [("_law_one", 7), ("_law_other", 8)] rfl nd_law (si_it (sq_val (se_var (i := 4) (hq := nq__law_found)))) (blkOk_by (N := N_law) (sc := defScope st_law) (own := [("_law_one", 7), ("_law_other", 8)]) (by decide +kernel)) (by decide) (by decide) (fun _ _ _ _ _ => sg_tup rfl (sgs_cons nd_law (sgs_cons nd_law sgs_nil))) (fun _ _ _ _ _ => sp_nil) (fun _ _ _ _ _ => (se_var (i := 8) (hq := nq__law_other))))))).toBor ((se_sortedD B hr.units65 (SE.toBor (se_comp [("_law_one", 7), ("_law_other", 8)] rfl nd_law (si_it (sq_val ((se_call F_heads (hr.mono (by decide)) (sa_b ((sf_List B (sa_b ((se_var (i := 2) (hq := nq__law_row_here))).valBor sa_nil))).toBor sa_nil) nq_heads)).toVal)) (blkOk_by (N := N_law) (sc := defScope st_law) (own := [("_law_one", 7), ("_law_other", 8)]) (by decide +kernel)) (by decide) (by decide) (fun _ _ _ _ _ => sg_tup rfl (sgs_cons nd_law (sgs_cons nd_law sgs_nil))) (fun _ _ _ _ _ => sp_nil) (fun _ _ _ _ _ => (se_var (i := 7) (hq := nq__law_one))))))).toBor)
  (sb_cons (ss_ret se_bl)
  sb_nil)
  sb_nil)
  sb_nil))))))) (by first | decide | simp [Tg.is]))
  (sb_cons (ss_ret se_bl)
  sb_nil))))
abbrev in_BadRow : Stmt := initS 4
theorem isc_BadRow : FnScope ["self", "at"] ["self", "at"] (defScope in_BadRow) := ⟨rfl, rfl, rfl, by decide +kernel, rfl, by decide +kernel, by decide +kernel⟩
theorem bn_look_row {K : PySem.W.Frag} {fa : Addr} {fd : FuncData} (F : Fun K "look_row" "look_row" st_look_row fa fd) : Binds K fd ["row"] [] := F.binds fun _ _ _ _ _ _ us hl => match us, hl with | [_], _ => rfl
theorem bn_runs_of {K : PySem.W.Frag} {fa : Addr} {fd : FuncData} (F : Fun K "runs_of" "runs_of" st_runs_of fa fd) : Binds K fd ["row"] [] := F.binds fun _ _ _ _ _ _ us hl => match us, hl with | [_], _ => rfl
theorem bn_closings {K : PySem.W.Frag} {fa : Addr} {fd : FuncData} (F : Fun K "closings" "closings" st_closings fa fd) : Binds K fd ["row"] [] := F.binds fun _ _ _ _ _ _ us hl => match us, hl with | [_], _ => rfl
theorem bn_look_creel {K : PySem.W.Frag} {fa : Addr} {fd : FuncData} (F : Fun K "look_creel" "look_creel" st_look_creel fa fd) : Binds K fd ["creel"] [] := F.binds fun _ _ _ _ _ _ us hl => match us, hl with | [_], _ => rfl
theorem bn_laid_from {K : PySem.W.Frag} {fa : Addr} {fd : FuncData} (F : Fun K "laid_from" "laid_from" st_laid_from fa fd) : Binds K fd ["place", "many"] [] := F.binds fun _ _ _ _ _ _ us hl => match us, hl with | [_, _], _ => rfl
theorem bn_walk_there {K : PySem.W.Frag} {fa : Addr} {fd : FuncData} (F : Fun K "walk_there" "walk_there" st_walk_there fa fd) : Binds K fd ["row", "creel"] [] := F.binds fun _ _ _ _ _ _ us hl => match us, hl with | [_, _], _ => rfl
theorem bn_walked {K : PySem.W.Frag} {fa : Addr} {fd : FuncData} (F : Fun K "walked" "walked" st_walked fa fd) : Binds K fd ["row", "creel"] [] := F.binds fun _ _ _ _ _ _ us hl => match us, hl with | [_, _], _ => rfl
theorem bn_peel {K : PySem.W.Frag} {fa : Addr} {fd : FuncData} (F : Fun K "peel" "peel" st_peel fa fd) : Binds K fd ["row"] [] := F.binds fun _ _ _ _ _ _ us hl => match us, hl with | [_], _ => rfl
theorem bn_rounds {K : PySem.W.Frag} {fa : Addr} {fd : FuncData} (F : Fun K "rounds" "rounds" st_rounds fa fd) : Binds K fd ["row"] [] := F.binds fun _ _ _ _ _ _ us hl => match us, hl with | [_], _ => rfl
theorem bn_sizes_of {K : PySem.W.Frag} {fa : Addr} {fd : FuncData} (F : Fun K "sizes_of" "sizes_of" st_sizes_of fa fd) : Binds K fd ["at_least"] [] := F.binds fun _ _ _ _ _ _ us hl => match us, hl with | [_], _ => rfl
theorem bn_sizes_by_rounds {K : PySem.W.Frag} {fa : Addr} {fd : FuncData} (F : Fun K "sizes_by_rounds" "sizes_by_rounds" st_sizes_by_rounds fa fd) : Binds K fd ["row"] [] := F.binds fun _ _ _ _ _ _ us hl => match us, hl with | [_], _ => rfl
theorem bn_road_of {K : PySem.W.Frag} {fa : Addr} {fd : FuncData} (F : Fun K "road_of" "road_of" st_road_of fa fd) : Binds K fd ["row"] [] := F.binds fun _ _ _ _ _ _ us hl => match us, hl with | [_], _ => rfl
theorem bn_joined_runs {K : PySem.W.Frag} {fa : Addr} {fd : FuncData} (F : Fun K "joined_runs" "joined_runs" st_joined_runs fa fd) : Binds K fd ["runs"] [] := F.binds fun _ _ _ _ _ _ us hl => match us, hl with | [_], _ => rfl
theorem bn_parted_run {K : PySem.W.Frag} {fa : Addr} {fd : FuncData} (F : Fun K "parted_run" "parted_run" st_parted_run fa fd) : Binds K fd ["runs"] [] := F.binds fun _ _ _ _ _ _ us hl => match us, hl with | [_], _ => rfl
theorem bn_heads {K : PySem.W.Frag} {fa : Addr} {fd : FuncData} (F : Fun K "heads" "heads" st_heads fa fd) : Binds K fd ["row"] [] := F.binds fun _ _ _ _ _ _ us hl => match us, hl with | [_], _ => rfl
theorem bn_numbers_L {K : PySem.W.Frag} {fa : Addr} {fd : FuncData} (F : Fun K "_law_numbers" "_law_numbers" st_numbers_L fa fd) : Binds K fd ["_law_script", "_law_many"] [] := F.binds fun _ _ _ _ _ _ us hl => match us, hl with | [_, _], _ => rfl
theorem bn_row_L {K : PySem.W.Frag} {fa : Addr} {fd : FuncData} (F : Fun K "_law_row" "_law_row" st_row_L fa fd) : Binds K fd ["_law_d", "_law_most"] [] := F.binds fun _ _ _ _ _ _ us hl => match us, hl with | [_, _], _ => rfl
theorem bn_long_row_L {K : PySem.W.Frag} {fa : Addr} {fd : FuncData} (F : Fun K "_law_long_row" "_law_long_row" st_long_row_L fa fd) : Binds K fd ["_law_d", "_law_most"] [] := F.binds fun _ _ _ _ _ _ us hl => match us, hl with | [_, _], _ => rfl
theorem bn_all_L {K : PySem.W.Frag} {fa : Addr} {fd : FuncData} (F : Fun K "_law_all" "_law_all" st_all_L fa fd) : Binds K fd ["_law_pairs", "_law_side"] [] := F.binds fun _ _ _ _ _ _ us hl => match us, hl with | [_, _], _ => rfl
theorem bl_mk {K : PySem.W.Frag} {h : Heap} {mg : Str → Option Value} (X : K.In h) (G : h.Ns mainGlobals mg) (z_len : PySem.W.nsIn K mainGlobals "len" = some none) (z_range : PySem.W.nsIn K mainGlobals "range" = some none) (z_min : PySem.W.nsIn K mainGlobals "min" = some none) (z_max : PySem.W.nsIn K mainGlobals "max" = some none) (z_abs : PySem.W.nsIn K mainGlobals "abs" = some none) (z_sum : PySem.W.nsIn K mainGlobals "sum" = some none) (z_all : PySem.W.nsIn K mainGlobals "all" = some none) (z_any : PySem.W.nsIn K mainGlobals "any" = some none) (z_sorted : PySem.W.nsIn K mainGlobals "sorted" = some none) (z_list : PySem.W.nsIn K mainGlobals "list" = some none) (z_tuple : PySem.W.nsIn K mainGlobals "tuple" = some none) (z_int : PySem.W.nsIn K mainGlobals "int" = some none) (z_bool : PySem.W.nsIn K mainGlobals "bool" = some none) (z_str : PySem.W.nsIn K mainGlobals "str" = some none) (z_isinstance : PySem.W.nsIn K mainGlobals "isinstance" = some none) (z_zip : PySem.W.nsIn K mainGlobals "zip" = some none) (z_enumerate : PySem.W.nsIn K mainGlobals "enumerate" = some none) (z_reversed : PySem.W.nsIn K mainGlobals "reversed" = some none) (z_set : PySem.W.nsIn K mainGlobals "set" = some none) (z_dict : PySem.W.nsIn K mainGlobals "dict" = some none) : Bl mg := ⟨PySem.W.mg_none_of X G z_len, PySem.W.mg_none_of X G z_range, PySem.W.mg_none_of X G z_min, PySem.W.mg_none_of X G z_max, PySem.W.mg_none_of X G z_abs, PySem.W.mg_none_of X G z_sum, PySem.W.mg_none_of X G z_all, PySem.W.mg_none_of X G z_any, PySem.W.mg_none_of X G z_sorted, PySem.W.mg_none_of X G z_list, PySem.W.mg_none_of X G z_tuple, PySem.W.mg_none_of X G z_int, PySem.W.mg_none_of X G z_bool, PySem.W.mg_none_of X G z_str, PySem.W.mg_none_of X G z_isinstance, PySem.W.mg_none_of X G z_zip, PySem.W.mg_none_of X G z_enumerate, PySem.W.mg_none_of X G z_reversed, PySem.W.mg_none_of X G z_set, PySem.W.mg_none_of X G z_dict⟩
open ModeZ in
theorem all_mk {l : PySem.W.OpenLaw} {w : World} {K : PySem.W.Frag} {h : Heap} {mg : Str → Option Value} {fa : Addr} {t_MOST_STONES : Tok} {a_Walk : Addr} {i_Walk___init__ : Addr} {oc_Walk___init__ kV_Walk___init__ dc_Walk___init__ pm_Walk___init__ cd_Walk___init__ ct_Walk___init__ : Value} {od_Walk___init__ an_Walk___init__ : Option Addr} {sl_Walk___init__ : Array (Option Value)} {i_Walk_come_to : Addr} {oc_Walk_come_to kV_Walk_come_to dc_Walk_come_to pm_Walk_come_to cd_Walk_come_to ct_Walk_come_to : Value} {od_Walk_come_to an_Walk_come_to : Option Addr} {sl_Walk_come_to : Array (Option Value)} {i_Walk_meet : Addr} {oc_Walk_meet kV_Walk_meet dc_Walk_meet pm_Walk_meet cd_Walk_meet ct_Walk_meet : Value} {od_Walk_meet an_Walk_meet : Option Addr} {sl_Walk_meet : Array (Option Value)} {i_Walk_end : Addr} {oc_Walk_end kV_Walk_end dc_Walk_end pm_Walk_end cd_Walk_end ct_Walk_end : Value} {od_Walk_end an_Walk_end : Option Addr} {sl_Walk_end : Array (Option Value)} {a_BadRow : Addr} {i_BadRow : Addr} {nm_BadRow q_BadRow : Str} {N_BadRow : Addr} {bs_BadRow bm_BadRow sub_BadRow : List Value} {sn_BadRow : List Str} {ab_BadRow : Bool} {col_BadRow : Option Bool} {dd_BadRow : Option Addr} {m0_BadRow m1_BadRow m2_BadRow m3_BadRow m5_BadRow : Option Value} {oc_BadRow kV_BadRow dc_BadRow pm_BadRow cd_BadRow ct_BadRow : Value} {od_BadRow an_BadRow : Option Addr} {sl_BadRow : Array (Option Value)} {a_BadCreel : Addr} {a_TooMany : Addr} (X : K.In h) (G : h.Ns mainGlobals mg) (hfa : mg "law" = some (.ref fa))  (C_MOST_STONES : PySem.W.nsIn K mainGlobals "MOST_STONES" = some (some (.int 60 t_MOST_STONES))) (g_Walk : PySem.W.nsIn K mainGlobals "Walk" = some (some (.ref a_Walk))) (pg_Walk : PySem.W.plainGet K a_Walk Str.empty = true) (hd_Walk : PySem.W.hasDictIn K a_Walk = true) (po_Walk : PySem.W.plainOver K a_Walk = true) (sa_Walk : PySem.W.findIn K (.ref a_Walk) "__setattr__" = some (some (.builtin "object.__setattr__"))) (mk_Walk : PySem.W.makesIn K a_Walk = true) (kc_Walk : PySem.W.keepIn K (.ref a_Walk) = true) (nf_Walk_creel : PySem.W.findIn K (.ref a_Walk) "creel" = some none) (nf_Walk_fresh : PySem.W.findIn K (.ref a_Walk) "fresh" = some none) (nf_Walk_load : PySem.W.findIn K (.ref a_Walk) "load" = some none) (nf_Walk_next_niche : PySem.W.findIn K (.ref a_Walk) "next_niche" = some none) (nf_Walk_picked : PySem.W.findIn K (.ref a_Walk) "picked" = some none) (fi_Walk___init__ : PySem.W.findIn K (.ref a_Walk) "__init__" = some (some (.ref i_Walk___init__))) (ifn_Walk___init__ : PySem.W.isFn K (.ref i_Walk___init__) = true) (li_Walk___init__ : K.lookup i_Walk___init__ = some ⟨oc_Walk___init__, od_Walk___init__, .func (PySem.W.fnOf "__init__" "Walk.__init__" (defArgs st_Walk___init__) (defBody st_Walk___init__) (defScope st_Walk___init__) .none kV_Walk___init__ dc_Walk___init__ pm_Walk___init__ an_Walk___init__ cd_Walk___init__ ct_Walk___init__), sl_Walk___init__⟩) (ci_Walk___init__ : PySem.W.codeIn K cd_Walk___init__ "Walk.__init__" = true) (ki_Walk___init__ : PySem.W.keepIn K (.ref i_Walk___init__) = true) (fi_Walk_come_to : PySem.W.findIn K (.ref a_Walk) "come_to" = some (some (.ref i_Walk_come_to))) (ifn_Walk_come_to : PySem.W.isFn K (.ref i_Walk_come_to) = true) (li_Walk_come_to : K.lookup i_Walk_come_to = some ⟨oc_Walk_come_to, od_Walk_come_to, .func (PySem.W.fnOf "come_to" "Walk.come_to" (defArgs st_Walk_come_to) (defBody st_Walk_come_to) (defScope st_Walk_come_to) .none kV_Walk_come_to dc_Walk_come_to pm_Walk_come_to an_Walk_come_to cd_Walk_come_to ct_Walk_come_to), sl_Walk_come_to⟩) (ci_Walk_come_to : PySem.W.codeIn K cd_Walk_come_to "Walk.come_to" = true) (ki_Walk_come_to : PySem.W.keepIn K (.ref i_Walk_come_to) = true) (fi_Walk_meet : PySem.W.findIn K (.ref a_Walk) "meet" = some (some (.ref i_Walk_meet))) (ifn_Walk_meet : PySem.W.isFn K (.ref i_Walk_meet) = true) (li_Walk_meet : K.lookup i_Walk_meet = some ⟨oc_Walk_meet, od_Walk_meet, .func (PySem.W.fnOf "meet" "Walk.meet" (defArgs st_Walk_meet) (defBody st_Walk_meet) (defScope st_Walk_meet) .none kV_Walk_meet dc_Walk_meet pm_Walk_meet an_Walk_meet cd_Walk_meet ct_Walk_meet), sl_Walk_meet⟩) (ci_Walk_meet : PySem.W.codeIn K cd_Walk_meet "Walk.meet" = true) (ki_Walk_meet : PySem.W.keepIn K (.ref i_Walk_meet) = true) (fi_Walk_end : PySem.W.findIn K (.ref a_Walk) "end" = some (some (.ref i_Walk_end))) (ifn_Walk_end : PySem.W.isFn K (.ref i_Walk_end) = true) (li_Walk_end : K.lookup i_Walk_end = some ⟨oc_Walk_end, od_Walk_end, .func (PySem.W.fnOf "end" "Walk.end" (defArgs st_Walk_end) (defBody st_Walk_end) (defScope st_Walk_end) .none kV_Walk_end dc_Walk_end pm_Walk_end an_Walk_end cd_Walk_end ct_Walk_end), sl_Walk_end⟩) (ci_Walk_end : PySem.W.codeIn K cd_Walk_end "Walk.end" = true) (ki_Walk_end : PySem.W.keepIn K (.ref i_Walk_end) = true) (g_BadRow : PySem.W.nsIn K mainGlobals "BadRow" = some (some (.ref a_BadRow))) (k_BadRow : PySem.W.keepIn K (.ref a_BadRow) = true) (s_BadRow : PySem.W.subIn K (.ref a_BadRow) (.type "BaseException") = some true) (t_BadRow : PySem.W.typeIn K (.ref a_BadRow) = some (.type "type")) (l_BadRow : K.lookup a_BadRow = some (excClassObj nm_BadRow q_BadRow a_BadRow N_BadRow bs_BadRow bm_BadRow true sn_BadRow sub_BadRow ab_BadRow col_BadRow dd_BadRow m0_BadRow m1_BadRow m2_BadRow m3_BadRow m5_BadRow "ValueError.__new__")) (r_BadRow : PySem.HandSPX.refsVE bm_BadRow = true) (sa_BadRow : PySem.W.findIn K (.ref a_BadRow) "__setattr__" = some (some (.builtin "object.__setattr__"))) (no_BadRow : PySem.W.findIn K (.ref a_BadRow) "at" = some none) (jn_BadRow : PySem.W.findIn K (.ref a_BadRow) "__init__" = some (some (.ref i_BadRow))) (ti_BadRow : PySem.W.typeIn K (.ref i_BadRow) = some (.type "function")) (li_BadRow : K.lookup i_BadRow = some ⟨oc_BadRow, od_BadRow, .func (PySem.W.fnOf "__init__" "BadRow.__init__" (defArgs in_BadRow) (defBody in_BadRow) (defScope in_BadRow) .none kV_BadRow dc_BadRow pm_BadRow an_BadRow cd_BadRow ct_BadRow), sl_BadRow⟩) (ci_BadRow : PySem.W.codeIn K cd_BadRow "BadRow.__init__" = true) (ki_BadRow : PySem.W.keepIn K (.ref i_BadRow) = true) (g_BadCreel : PySem.W.nsIn K mainGlobals "BadCreel" = some (some (.ref a_BadCreel))) (x_BadCreel : PySem.W.excIn K a_BadCreel [.type "ValueError", .type "Exception", .type "BaseException", .type "object"] "ValueError.__new__" = true) (k_BadCreel : PySem.W.keepIn K (.ref a_BadCreel) = true) (s_BadCreel : PySem.W.subIn K (.ref a_BadCreel) (.type "BaseException") = some true) (t_BadCreel : PySem.W.typeIn K (.ref a_BadCreel) = some (.type "type")) (g_TooMany : PySem.W.nsIn K mainGlobals "TooMany" = some (some (.ref a_TooMany))) (x_TooMany : PySem.W.excIn K a_TooMany [.type "ValueError", .type "Exception", .type "BaseException", .type "object"] "ValueError.__new__" = true) (k_TooMany : PySem.W.keepIn K (.ref a_TooMany) = true) (s_TooMany : PySem.W.subIn K (.ref a_TooMany) (.type "BaseException") = some true) (t_TooMany : PySem.W.typeIn K (.ref a_TooMany) = some (.type "type")) (A_look_row : AtF K mg "look_row" "look_row" st_look_row) (A_runs_of : AtF K mg "runs_of" "runs_of" st_runs_of) (A_closings : AtF K mg "closings" "closings" st_closings) (A_look_creel : AtF K mg "look_creel" "look_creel" st_look_creel) (A_laid_from : AtF K mg "laid_from" "laid_from" st_laid_from) (A_walk_there : AtF K mg "walk_there" "walk_there" st_walk_there) (A_walked : AtF K mg "walked" "walked" st_walked) (A_peel : AtF K mg "peel" "peel" st_peel) (A_rounds : AtF K mg "rounds" "rounds" st_rounds) (A_sizes_of : AtF K mg "sizes_of" "sizes_of" st_sizes_of) (A_sizes_by_rounds : AtF K mg "sizes_by_rounds" "sizes_by_rounds" st_sizes_by_rounds) (A_road_of : AtF K mg "road_of" "road_of" st_road_of) (A_joined_runs : AtF K mg "joined_runs" "joined_runs" st_joined_runs) (A_parted_run : AtF K mg "parted_run" "parted_run" st_parted_run) (A_heads : AtF K mg "heads" "heads" st_heads) (A_numbers_L : AtF K mg "_law_numbers" "_law_numbers" st_numbers_L) (A_row_L : AtF K mg "_law_row" "_law_row" st_row_L) (A_long_row_L : AtF K mg "_law_long_row" "_law_long_row" st_long_row_L) (A_all_L : AtF K mg "_law_all" "_law_all" st_all_L) (A_law : AtF K mg "law" "law" st_law) (z_len : PySem.W.nsIn K mainGlobals "len" = some none) (z_range : PySem.W.nsIn K mainGlobals "range" = some none) (z_min : PySem.W.nsIn K mainGlobals "min" = some none) (z_max : PySem.W.nsIn K mainGlobals "max" = some none) (z_abs : PySem.W.nsIn K mainGlobals "abs" = some none) (z_sum : PySem.W.nsIn K mainGlobals "sum" = some none) (z_all : PySem.W.nsIn K mainGlobals "all" = some none) (z_any : PySem.W.nsIn K mainGlobals "any" = some none) (z_sorted : PySem.W.nsIn K mainGlobals "sorted" = some none) (z_list : PySem.W.nsIn K mainGlobals "list" = some none) (z_tuple : PySem.W.nsIn K mainGlobals "tuple" = some none) (z_int : PySem.W.nsIn K mainGlobals "int" = some none) (z_bool : PySem.W.nsIn K mainGlobals "bool" = some none) (z_str : PySem.W.nsIn K mainGlobals "str" = some none) (z_isinstance : PySem.W.nsIn K mainGlobals "isinstance" = some none) (z_zip : PySem.W.nsIn K mainGlobals "zip" = some none) (z_enumerate : PySem.W.nsIn K mainGlobals "enumerate" = some none) (z_reversed : PySem.W.nsIn K mainGlobals "reversed" = some none) (z_set : PySem.W.nsIn K mainGlobals "set" = some none) (z_dict : PySem.W.nsIn K mainGlobals "dict" = some none) :
    ∃ fd : FuncData, (∀ (s : Shared) (v : Value), BindsTo s fd ⟨[v], []⟩ [("_law_script", v)]) ∧ ∀ base : Heap, K.In base → base.Ns mainGlobals mg → FnOk l.prog w K mg base (L2.CX l.prog w) 65 fa fd ["_law_script"] (spLaw K) := by
  obtain ⟨fa_look_row, fd_look_row, F_look_row, g_look_row⟩ := A_look_row.ex
  obtain ⟨fa_runs_of, fd_runs_of, F_runs_of, g_runs_of⟩ := A_runs_of.ex
  obtain ⟨fa_closings, fd_closings, F_closings, g_closings⟩ := A_closings.ex
  obtain ⟨fa_look_creel, fd_look_creel, F_look_creel, g_look_creel⟩ := A_look_creel.ex
  obtain ⟨fa_laid_from, fd_laid_from, F_laid_from, g_laid_from⟩ := A_laid_from.ex
  obtain ⟨fa_walk_there, fd_walk_there, F_walk_there, g_walk_there⟩ := A_walk_there.ex
  obtain ⟨fa_walked, fd_walked, F_walked, g_walked⟩ := A_walked.ex
  obtain ⟨fa_peel, fd_peel, F_peel, g_peel⟩ := A_peel.ex
  obtain ⟨fa_rounds, fd_rounds, F_rounds, g_rounds⟩ := A_rounds.ex
  obtain ⟨fa_sizes_of, fd_sizes_of, F_sizes_of, g_sizes_of⟩ := A_sizes_of.ex
  obtain ⟨fa_sizes_by_rounds, fd_sizes_by_rounds, F_sizes_by_rounds, g_sizes_by_rounds⟩ := A_sizes_by_rounds.ex
  obtain ⟨fa_road_of, fd_road_of, F_road_of, g_road_of⟩ := A_road_of.ex
  obtain ⟨fa_joined_runs, fd_joined_runs, F_joined_runs, g_joined_runs⟩ := A_joined_runs.ex
  obtain ⟨fa_parted_run, fd_parted_run, F_parted_run, g_parted_run⟩ := A_parted_run.ex
  obtain ⟨fa_heads, fd_heads, F_heads, g_heads⟩ := A_heads.ex
  obtain ⟨fa_numbers_L, fd_numbers_L, F_numbers_L, g_numbers_L⟩ := A_numbers_L.ex
  obtain ⟨fa_row_L, fd_row_L, F_row_L, g_row_L⟩ := A_row_L.ex
  obtain ⟨fa_long_row_L, fd_long_row_L, F_long_row_L, g_long_row_L⟩ := A_long_row_L.ex
  obtain ⟨fa_all_L, fd_all_L, F_all_L, g_all_L⟩ := A_all_L.ex
  obtain ⟨fa_law, fd_law, F_law, g_law⟩ := A_law.ex
  have e := hfa.symm.trans g_law
  cases e
  have B := bl_mk X G z_len z_range z_min z_max z_abs z_sum z_all z_any z_sorted z_list z_tuple z_int z_bool z_str z_isinstance z_zip z_enumerate z_reversed z_set z_dict
  have F := F_law
  obtain ⟨oc, od, kV, doc, pm, an, cdv, ct, osl, e, lk, hcd⟩ := F_law.ex
  subst e
  refine ⟨PySem.W.fnOf "law" "law" (defArgs st_law) (defBody st_law) (defScope st_law) .none kV doc pm an cdv ct, fun s v => .of_eq rfl, fun base _ _ => ?_⟩
  let cl : Cl := ⟨fun n => List.lookup n [("BadRow", a_BadRow), ("BadCreel", a_BadCreel), ("TooMany", a_TooMany)], K, fun n => List.lookup n [("Walk", a_Walk)]⟩
  have hK : cl.K = K := rfl
  have cf_Walk : cl.o "Walk" = some a_Walk := by rfl
  have cc_Walk : Cls K a_Walk := ⟨pg_Walk, hd_Walk, po_Walk, sa_Walk⟩
  have gm_Walk := PySem.W.mg_of X G g_Walk
  have O_Walk_creel : FldOk K cl "Walk" "creel" := fun c hc => by rw [cf_Walk] at hc; cases hc; exact ⟨cc_Walk, nf_Walk_creel⟩
  have O_Walk_fresh : FldOk K cl "Walk" "fresh" := fun c hc => by rw [cf_Walk] at hc; cases hc; exact ⟨cc_Walk, nf_Walk_fresh⟩
  have O_Walk_load : FldOk K cl "Walk" "load" := fun c hc => by rw [cf_Walk] at hc; cases hc; exact ⟨cc_Walk, nf_Walk_load⟩
  have O_Walk_next_niche : FldOk K cl "Walk" "next_niche" := fun c hc => by rw [cf_Walk] at hc; cases hc; exact ⟨cc_Walk, nf_Walk_next_niche⟩
  have O_Walk_picked : FldOk K cl "Walk" "picked" := fun c hc => by rw [cf_Walk] at hc; cases hc; exact ⟨cc_Walk, nf_Walk_picked⟩
  have F_Walk___init__ := fun_mk (st := st_Walk___init__) li_Walk___init__ ci_Walk___init__ ki_Walk___init__
  have F_Walk_come_to := fun_mk (st := st_Walk_come_to) li_Walk_come_to ci_Walk_come_to ki_Walk_come_to
  have M_Walk_come_to : ∀ c, cl.o "Walk" = some c → Cls K c ∧ Meth K c "come_to" i_Walk_come_to := fun c hc => by rw [cf_Walk] at hc; cases hc; exact ⟨cc_Walk, ⟨fi_Walk_come_to, ifn_Walk_come_to, ki_Walk_come_to⟩⟩
  have F_Walk_meet := fun_mk (st := st_Walk_meet) li_Walk_meet ci_Walk_meet ki_Walk_meet
  have M_Walk_meet : ∀ c, cl.o "Walk" = some c → Cls K c ∧ Meth K c "meet" i_Walk_meet := fun c hc => by rw [cf_Walk] at hc; cases hc; exact ⟨cc_Walk, ⟨fi_Walk_meet, ifn_Walk_meet, ki_Walk_meet⟩⟩
  have F_Walk_end := fun_mk (st := st_Walk_end) li_Walk_end ci_Walk_end ki_Walk_end
  have M_Walk_end : ∀ c, cl.o "Walk" = some c → Cls K c ∧ Meth K c "end" i_Walk_end := fun c hc => by rw [cf_Walk] at hc; cases hc; exact ⟨cc_Walk, ⟨fi_Walk_end, ifn_Walk_end, ki_Walk_end⟩⟩
  have C_MOST_STONES := PySem.W.mg_of X G C_MOST_STONES
  have FI_BadRow := fun_mk (st := in_BadRow) li_BadRow ci_BadRow ki_BadRow
  have X_BadRow : XAt l.prog w K mg base cl "BadRow" 1 := xat_mk (st := in_BadRow) ⟨⟨_, _, _, _, _, _, _, _, _, _, _, _, _, _, _, l_BadRow, r_BadRow⟩, sa_BadRow, s_BadRow, t_BadRow, k_BadRow⟩ rfl (PySem.W.mg_of X G g_BadRow) jn_BadRow ti_BadRow no_BadRow FI_BadRow isc_BadRow (FI_BadRow.binds fun _ _ _ _ _ _ us hl => match us, hl with | [_, _], _ => rfl) rfl (by first | exact Or.inl rfl | exact Or.inr (Or.inl rfl) | exact Or.inr (Or.inr rfl)) (by first | exact Or.inl rfl | exact Or.inr (Or.inl rfl) | exact Or.inr (Or.inr rfl)) (fun _ _ => rfl)
  have X_BadCreel : XPlain K mg cl "BadCreel" := ⟨a_BadCreel, rfl, PySem.W.mg_of X G g_BadCreel, x_BadCreel, k_BadCreel, s_BadCreel, t_BadCreel⟩
  have X_TooMany : XPlain K mg cl "TooMany" := ⟨a_TooMany, rfl, PySem.W.mg_of X G g_TooMany, x_TooMany, k_TooMany, s_TooMany, t_TooMany⟩
  have P_look_row := ok_look_row (P := l.prog) (w := w) (base := base) (cl := cl) B hK F_look_row g_look_row (bn_look_row F_look_row) C_MOST_STONES X_BadRow X_TooMany
  have P_runs_of := ok_runs_of (P := l.prog) (w := w) (base := base) (cl := cl) B hK F_runs_of g_runs_of (bn_runs_of F_runs_of) 
  have P_closings := ok_closings (P := l.prog) (w := w) (base := base) (cl := cl) B hK F_closings g_closings (bn_closings F_closings) P_look_row
  have P_look_creel := ok_look_creel (P := l.prog) (w := w) (base := base) (cl := cl) B hK F_look_creel g_look_creel (bn_look_creel F_look_creel) X_BadCreel
  have P_laid_from := ok_laid_from (P := l.prog) (w := w) (base := base) (cl := cl) B hK F_laid_from g_laid_from (bn_laid_from F_laid_from) 
  have P_Walk___init__ := ok_Walk___init__ (P := l.prog) (w := w) (base := base) (cl := cl) B hK F_Walk___init__ (F_Walk___init__.binds (ps := ["self", "creel"]) fun _ _ _ _ _ _ us hl => match us, hl with | [_, _], _ => rfl) cf_Walk gm_Walk ⟨mk_Walk, fi_Walk___init__, ifn_Walk___init__, kc_Walk⟩ O_Walk_creel O_Walk_fresh O_Walk_load O_Walk_next_niche O_Walk_picked
  have P_Walk_come_to := ok_Walk_come_to (P := l.prog) (w := w) (base := base) (cl := cl) B hK F_Walk_come_to (F_Walk_come_to.binds (ps := ["self", "place"]) fun _ _ _ _ _ _ us hl => match us, hl with | [_, _], _ => rfl) M_Walk_come_to O_Walk_fresh O_Walk_load O_Walk_next_niche P_laid_from
  have P_Walk_meet := ok_Walk_meet (P := l.prog) (w := w) (base := base) (cl := cl) B hK F_Walk_meet (F_Walk_meet.binds (ps := ["self", "place"]) fun _ _ _ _ _ _ us hl => match us, hl with | [_, _], _ => rfl) M_Walk_meet O_Walk_creel O_Walk_fresh O_Walk_load O_Walk_next_niche O_Walk_picked P_Walk_come_to
  have P_Walk_end := ok_Walk_end (P := l.prog) (w := w) (base := base) (cl := cl) B hK F_Walk_end (F_Walk_end.binds (ps := ["self"]) fun _ _ _ _ _ _ us hl => match us, hl with | [_], _ => rfl) M_Walk_end O_Walk_fresh O_Walk_load O_Walk_next_niche P_laid_from
  have P_walk_there := ok_walk_there (P := l.prog) (w := w) (base := base) (cl := cl) B hK F_walk_there g_walk_there (bn_walk_there F_walk_there) P_Walk___init__ P_Walk_meet P_Walk_end
  have P_walked := ok_walked (P := l.prog) (w := w) (base := base) (cl := cl) B hK F_walked g_walked (bn_walked F_walked) O_Walk_fresh P_look_row P_look_creel P_walk_there
  have P_peel := ok_peel (P := l.prog) (w := w) (base := base) (cl := cl) B hK F_peel g_peel (bn_peel F_peel) P_runs_of
  have P_rounds := ok_rounds (P := l.prog) (w := w) (base := base) (cl := cl) B hK F_rounds g_rounds (bn_rounds F_rounds) P_look_row P_runs_of P_peel
  have P_sizes_of := ok_sizes_of (P := l.prog) (w := w) (base := base) (cl := cl) B hK F_sizes_of g_sizes_of (bn_sizes_of F_sizes_of) 
  have P_sizes_by_rounds := ok_sizes_by_rounds (P := l.prog) (w := w) (base := base) (cl := cl) B hK F_sizes_by_rounds g_sizes_by_rounds (bn_sizes_by_rounds F_sizes_by_rounds) P_rounds P_sizes_of
  have P_road_of := ok_road_of (P := l.prog) (w := w) (base := base) (cl := cl) B hK F_road_of g_road_of (bn_road_of F_road_of) P_runs_of
  have P_joined_runs := ok_joined_runs (P := l.prog) (w := w) (base := base) (cl := cl) B hK F_joined_runs g_joined_runs (bn_joined_runs F_joined_runs) 
  have P_parted_run := ok_parted_run (P := l.prog) (w := w) (base := base) (cl := cl) B hK F_parted_run g_parted_run (bn_parted_run F_parted_run) 
  have P_heads := ok_heads (P := l.prog) (w := w) (base := base) (cl := cl) B hK F_heads g_heads (bn_heads F_heads) P_look_row P_road_of P_parted_run P_joined_runs
  have P_numbers_L := ok_numbers_L (P := l.prog) (w := w) (base := base) (cl := cl) B hK F_numbers_L g_numbers_L (bn_numbers_L F_numbers_L) 
  have P_row_L := ok_row_L (P := l.prog) (w := w) (base := base) (cl := cl) B hK F_row_L g_row_L (bn_row_L F_row_L) 
  have P_long_row_L := ok_long_row_L (P := l.prog) (w := w) (base := base) (cl := cl) B hK F_long_row_L g_long_row_L (bn_long_row_L F_long_row_L) P_row_L
  have P_all_L := ok_all_L (P := l.prog) (w := w) (base := base) (cl := cl) B hK F_all_L g_all_L (bn_all_L F_all_L) 
  exact law_end hK (ok_law (P := l.prog) (w := w) (base := base) B hK F P_numbers_L P_long_row_L P_heads P_all_L P_closings P_sizes_by_rounds P_walked) CW.law_ok (by decide)
end CW
end
open PySem PySem.W PyProof.Rows
set_option maxRecDepth 100000 in
set_option maxHeartbeats 0 in
theorem PySem.Challenge.cw_creelway_k15_whole_tails_become_heads_holds : PySem.Challenge.rw_creelway_k15_whole_tails_become_heads.Holds := by
  w_on; o_law; refine HandSHeadRun.head_any (r := PySem.W.OpenLaw.row PySem.Challenge.rw_creelway_k15_whole_tails_become_heads) (q := (PySem.W.view (PySem.W.OpenLaw.row PySem.Challenge.rw_creelway_k15_whole_tails_become_heads).prog [30])) (H := (PySem.W.kHook CW.pre.heap_39 CW.asL CW.asE)) (ob := fun s => List.map (HandSHeadRun.getT s) CW.asL) (M := 30000) (loose := CW.looseN) (d := HandSHeadRun.topDef (PySem.W.OpenLaw.row PySem.Challenge.rw_creelway_k15_whole_tails_become_heads).prog 30) (kwd := []) (fun s => List.map_congr_left fun b _ => HandSHeadRun.getT_eq s b) (by kernel_rfl) (fun s => by kernel_rfl) CW.kRun (by kernel_rfl) (by kernel_rfl) (by kernel_rfl) (by rfl) (by first | assumption | decide +kernel) (by decide +kernel) ⟨rfl, rfl, rfl, rfl, rfl, by decide +kernel⟩ ?hw ?hc; (case hw => w_witness2)
  k_fill
  refine VL.law_walk (l := PySem.Challenge.rw_creelway_k15_whole_tails_become_heads) (x := "_law_script") rfl (by kernel_rfl) (fun w h Y => PySem.W.kIn_of Y) ?F
  case F =>
    intro w mg fa h KX G hmg0
    have hmg : mg ("law" : PySem.Str) = some (.ref fa) := by
      have e : (HandSHeadRun.topDef (PySem.W.OpenLaw.row PySem.Challenge.rw_creelway_k15_whole_tails_become_heads).prog 30).name = ("law" : PySem.Str) := by kernel_rfl
      rw [← e]
      exact hmg0
    refine' CW.all_mk KX G hmg ?c_MOST_STONES ?g_Walk ?pg_Walk ?hd_Walk ?po_Walk ?sa_Walk ?mk_Walk ?kc_Walk ?nf_Walk_creel ?nf_Walk_fresh ?nf_Walk_load ?nf_Walk_next_niche ?nf_Walk_picked ?fi_Walk___init__ ?ifn_Walk___init__ ?li_Walk___init__ ?ci_Walk___init__ ?ki_Walk___init__ ?fi_Walk_come_to ?ifn_Walk_come_to ?li_Walk_come_to ?ci_Walk_come_to ?ki_Walk_come_to ?fi_Walk_meet ?ifn_Walk_meet ?li_Walk_meet ?ci_Walk_meet ?ki_Walk_meet ?fi_Walk_end ?ifn_Walk_end ?li_Walk_end ?ci_Walk_end ?ki_Walk_end ?g_BadRow ?k_BadRow ?s_BadRow ?t_BadRow ?l_BadRow ?r_BadRow ?sa_BadRow ?no_BadRow ?jn_BadRow ?ti_BadRow ?li_BadRow ?ci_BadRow ?ki_BadRow ?g_BadCreel ?x_BadCreel ?k_BadCreel ?s_BadCreel ?t_BadCreel ?g_TooMany ?x_TooMany ?k_TooMany ?s_TooMany ?t_TooMany ?a_look_row ?a_runs_of ?a_closings ?a_look_creel ?a_laid_from ?a_walk_there ?a_walked ?a_peel ?a_rounds ?a_sizes_of ?a_sizes_by_rounds ?a_road_of ?a_joined_runs ?a_parted_run ?a_heads ?a_numbers_L ?a_row_L ?a_long_row_L ?a_all_L ?a_law ?z_len ?z_range ?z_min ?z_max ?z_abs ?z_sum ?z_all ?z_any ?z_sorted ?z_list ?z_tuple ?z_int ?z_bool ?z_str ?z_isinstance ?z_zip ?z_enumerate ?z_reversed ?z_set ?z_dict
    (case c_MOST_STONES => k_is)
    (case g_Walk => k_is)
    (case pg_Walk => k_is)
    (case hd_Walk => k_is)
    (case po_Walk => k_is)
    (case sa_Walk => k_is)
    (case mk_Walk => k_is)
    (case kc_Walk => k_is)
    (case nf_Walk_creel => k_is)
    (case nf_Walk_fresh => k_is)
    (case nf_Walk_load => k_is)
    (case nf_Walk_next_niche => k_is)
    (case nf_Walk_picked => k_is)
    (case fi_Walk___init__ => k_is)
    (case ifn_Walk___init__ => k_is)
    (case li_Walk___init__ => k_is)
    (case ci_Walk___init__ => k_is)
    (case ki_Walk___init__ => k_is)
    (case fi_Walk_come_to => k_is)
    (case ifn_Walk_come_to => k_is)
    (case li_Walk_come_to => k_is)
    (case ci_Walk_come_to => k_is)
    (case ki_Walk_come_to => k_is)
    (case fi_Walk_meet => k_is)
    (case ifn_Walk_meet => k_is)
    (case li_Walk_meet => k_is)
    (case ci_Walk_meet => k_is)
    (case ki_Walk_meet => k_is)
    (case fi_Walk_end => k_is)
    (case ifn_Walk_end => k_is)
    (case li_Walk_end => k_is)
    (case ci_Walk_end => k_is)
    (case ki_Walk_end => k_is)
    (case g_BadRow => k_is)
    (case k_BadRow => k_is)
    (case s_BadRow => k_is)
    (case t_BadRow => k_is)
    (case l_BadRow => k_is)
    (case r_BadRow => decide +kernel)
    (case sa_BadRow => k_is)
    (case no_BadRow => k_is)
    (case jn_BadRow => k_is)
    (case ti_BadRow => k_is)
    (case li_BadRow => k_is)
    (case ci_BadRow => k_is)
    (case ki_BadRow => k_is)
    (case g_BadCreel => k_is)
    (case x_BadCreel => k_exc)
    (case k_BadCreel => k_is)
    (case s_BadCreel => k_is)
    (case t_BadCreel => k_is)
    (case g_TooMany => k_is)
    (case x_TooMany => k_exc)
    (case k_TooMany => k_is)
    (case s_TooMany => k_is)
    (case t_TooMany => k_is)
    (case a_look_row => refine' VL.at_mk KX G ?b1 ?b2 ?b3 ?b4; (case b1 => k_is); (case b2 => k_is); (case b3 => k_is); (case b4 => k_is))
    (case a_runs_of => refine' VL.at_mk KX G ?b1 ?b2 ?b3 ?b4; (case b1 => k_is); (case b2 => k_is); (case b3 => k_is); (case b4 => k_is))
    (case a_closings => refine' VL.at_mk KX G ?b1 ?b2 ?b3 ?b4; (case b1 => k_is); (case b2 => k_is); (case b3 => k_is); (case b4 => k_is))
    (case a_look_creel => refine' VL.at_mk KX G ?b1 ?b2 ?b3 ?b4; (case b1 => k_is); (case b2 => k_is); (case b3 => k_is); (case b4 => k_is))
    (case a_laid_from => refine' VL.at_mk KX G ?b1 ?b2 ?b3 ?b4; (case b1 => k_is); (case b2 => k_is); (case b3 => k_is); (case b4 => k_is))
    (case a_walk_there => refine' VL.at_mk KX G ?b1 ?b2 ?b3 ?b4; (case b1 => k_is); (case b2 => k_is); (case b3 => k_is); (case b4 => k_is))
    (case a_walked => refine' VL.at_mk KX G ?b1 ?b2 ?b3 ?b4; (case b1 => k_is); (case b2 => k_is); (case b3 => k_is); (case b4 => k_is))
    (case a_peel => refine' VL.at_mk KX G ?b1 ?b2 ?b3 ?b4; (case b1 => k_is); (case b2 => k_is); (case b3 => k_is); (case b4 => k_is))
    (case a_rounds => refine' VL.at_mk KX G ?b1 ?b2 ?b3 ?b4; (case b1 => k_is); (case b2 => k_is); (case b3 => k_is); (case b4 => k_is))
    (case a_sizes_of => refine' VL.at_mk KX G ?b1 ?b2 ?b3 ?b4; (case b1 => k_is); (case b2 => k_is); (case b3 => k_is); (case b4 => k_is))
    (case a_sizes_by_rounds => refine' VL.at_mk KX G ?b1 ?b2 ?b3 ?b4; (case b1 => k_is); (case b2 => k_is); (case b3 => k_is); (case b4 => k_is))
    (case a_road_of => refine' VL.at_mk KX G ?b1 ?b2 ?b3 ?b4; (case b1 => k_is); (case b2 => k_is); (case b3 => k_is); (case b4 => k_is))
    (case a_joined_runs => refine' VL.at_mk KX G ?b1 ?b2 ?b3 ?b4; (case b1 => k_is); (case b2 => k_is); (case b3 => k_is); (case b4 => k_is))
    (case a_parted_run => refine' VL.at_mk KX G ?b1 ?b2 ?b3 ?b4; (case b1 => k_is); (case b2 => k_is); (case b3 => k_is); (case b4 => k_is))
    (case a_heads => refine' VL.at_mk KX G ?b1 ?b2 ?b3 ?b4; (case b1 => k_is); (case b2 => k_is); (case b3 => k_is); (case b4 => k_is))
    (case a_numbers_L => refine' VL.at_mk KX G ?b1 ?b2 ?b3 ?b4; (case b1 => k_is); (case b2 => k_is); (case b3 => k_is); (case b4 => k_is))
    (case a_row_L => refine' VL.at_mk KX G ?b1 ?b2 ?b3 ?b4; (case b1 => k_is); (case b2 => k_is); (case b3 => k_is); (case b4 => k_is))
    (case a_long_row_L => refine' VL.at_mk KX G ?b1 ?b2 ?b3 ?b4; (case b1 => k_is); (case b2 => k_is); (case b3 => k_is); (case b4 => k_is))
    (case a_all_L => refine' VL.at_mk KX G ?b1 ?b2 ?b3 ?b4; (case b1 => k_is); (case b2 => k_is); (case b3 => k_is); (case b4 => k_is))
    (case a_law => refine' VL.at_mk KX G ?b1 ?b2 ?b3 ?b4; (case b1 => k_is); (case b2 => k_is); (case b3 => k_is); (case b4 => k_is))
    (case z_len => k_is)
    (case z_range => k_is)
    (case z_min => k_is)
    (case z_max => k_is)
    (case z_abs => k_is)
    (case z_sum => k_is)
    (case z_all => k_is)
    (case z_any => k_is)
    (case z_sorted => k_is)
    (case z_list => k_is)
    (case z_tuple => k_is)
    (case z_int => k_is)
    (case z_bool => k_is)
    (case z_str => k_is)
    (case z_isinstance => k_is)
    (case z_zip => k_is)
    (case z_enumerate => k_is)
    (case z_reversed => k_is)
    (case z_set => k_is)
    (case z_dict => k_is)
